-- printed by a program of this session (wip/xp/xprint.py) out of the translation; Lean checks it
import Derived.Test.YtjffakoifpldeaaPFnExactCrossPutx0
import Derived.Test.YtjffakoifpldeaaPFnExactCrossPutx8
import Derived.Test.YtjffakoifpldeaaPFnExactCrossPutx9
import Derived.Test.YtjffakoifpldeaaPFnExactCrossPutx10
namespace Go.Proofs.Ytjffakoifpldeaa.PFnExactCrossPut
open Go.RowKit Go.Proofs.YtjffakoifpldeaaW.PrintWords Go.Proofs.YtjffakoifpldeaaW.PrintLast Go.Proofs.YtjffakoifpldeaaW.PrintMore
attribute [local go_sem] max2_int min2_int max_two min_two max_three min_three max_four min_four   -- for this text's walks alone
set_option linter.unusedVariables false
set_option linter.unusedSimpArgs false

theorem au11_0 {p : Prop} (h : p := by repeat (first | exact (Kd.C_below HR0.out HB.out) | (with_reducible refine Kd.C_alloc ?_ _) | (with_reducible refine Kd.C_drewN ?_ _) | (with_reducible refine Kd.C_drew ?_))) : p := h
theorem au11_1 {p : Prop} (h : p := by first | rfl | (simp [errW_none, errW_some] <;> rfl) | (simp [*, errW_none, errW_some] <;> rfl)) : p := h
theorem au11_2 {p : Prop} (h : p := by repeat (first | exact (Kd.R_reads' HO_5.out).2.2 | (with_reducible refine Kd.C_alloc ?_ _) | (with_reducible refine Kd.C_drewN ?_ _) | (with_reducible refine Kd.C_drew ?_))) : p := h
theorem au11_3 {p : Prop} (h : p := by repeat (first | exact (Kd.C_below HR0.out bl_) | (with_reducible refine Kd.C_alloc ?_ _) | (with_reducible refine Kd.C_drewN ?_ _) | (with_reducible refine Kd.C_drew ?_))) : p := h

/-! ### impl_CrossPut: function 30 -/
def impl_CrossPut.j0 : Nat → List (S37) → List (S37) → Option ((List (S37)))
  | 0, _, _ => none
  | k + 1, x0, x5 => (impl_CrossRight.f k x5).bind fun t240 => (if t240 = true then (some x5) else ((impl_Cross_65.f x0).bind fun t241 => (some t241)))
def impl_CrossPut.f (k : Nat) (l0 : List (S37)) (a1_0 : ByteArray) (a1_1 : ByteArray) (a1_2 : ByteArray) : Option ((List (S37))) := (impl_Cross_64.f l0).bind fun t226 => (if t226 = true then (some ([] : List (S37))) else ((impl_Cross_65.f l0).bind fun t227 => ((impl_CrossRight.f k l0).bind fun t230 => (if t230 = true then ((impl_Cross_69__impl_crossOrder.f k l0 a1_0 a1_1 a1_2).bind fun bt231 => (if bt231.2 = true then (if 0 ≤ bt231.1 then (if bt231.1 < (t227.length : Int) then (impl_CrossPut.j0 k l0 (t227.set (bt231.1 : Int).toNat (⟨a1_0, a1_1, a1_2⟩ : S37))) else (none)) else (none)) else ((impl_Cross_70.f t227 bt231.1 (([(⟨a1_0, a1_1, a1_2⟩ : S37)] : List (S37)))).bind fun t237 => (impl_CrossPut.j0 k l0 t237)))) else (some t227)))))
theorem impl_CrossPut.mono_l : ∀ k, (∀ y0 y1, LeO (impl_CrossPut.j0 k y0 y1) (impl_CrossPut.j0 (k + 1) y0 y1))
  | 0 => fun _ _ r h => by simp [impl_CrossPut.j0] at h
  | k + 1 => by
    have ih0 := impl_CrossPut.mono_l k
    · intro y0 y1
      unfold impl_CrossPut.j0
      repeat' first
      | (with_reducible exact ih0 _ _)
      | (with_reducible exact impl_CrossRight.mono _ _)
      | (with_reducible exact impl_Cross_69__impl_crossOrder.mono _ _ _ _ _)
      | (with_reducible exact LeO.refl _)
      | (with_reducible exact LeO.none _)
      | (with_reducible refine LeO.ite ?_ ?_)
      | (with_reducible refine LeO.bind ?_ (fun _ => ?_))
      | exact ih0 _ _
      | exact impl_CrossRight.mono _ _
      | exact impl_Cross_69__impl_crossOrder.mono _ _ _ _ _
      | exact LeO.none _
      | refine LeO.ite ?_ ?_
      | refine LeO.bind ?_ (fun _ => ?_)
theorem impl_CrossPut.mono : ∀ a0 a1 a2 a3 k, LeO (impl_CrossPut.f k a0 a1 a2 a3) (impl_CrossPut.f (k + 1) a0 a1 a2 a3) := by
  intro a0 a1 a2 a3 k
  have ih0 := impl_CrossPut.mono_l k
  unfold impl_CrossPut.f
  repeat' first
      | (with_reducible exact ih0 _ _)
      | (with_reducible exact impl_CrossRight.mono _ _)
      | (with_reducible exact impl_Cross_69__impl_crossOrder.mono _ _ _ _ _)
      | (with_reducible exact LeO.refl _)
      | (with_reducible exact LeO.none _)
      | (with_reducible refine LeO.ite ?_ ?_)
      | (with_reducible refine LeO.bind ?_ (fun _ => ?_))
      | exact ih0 _ _
      | exact impl_CrossRight.mono _ _
      | exact impl_Cross_69__impl_crossOrder.mono _ _ _ _ _
      | exact LeO.none _
      | refine LeO.ite ?_ ?_
      | refine LeO.bind ?_ (fun _ => ?_)
set_option maxHeartbeats 8000000 in
set_option maxRecDepth 100000 in
theorem impl_CrossPut.calls (k : Nat) (A0 : Option Addr) (c0 : Nat) (l0 : List (S37)) (a1_0 : ByteArray) (a1_1 : ByteArray) (a1_2 : ByteArray) (r : List (S37)) (w : World) (hr0 : Kd.C k37 w A0 l0.length l0) (hc0 : l0.length ≤ c0) (h : impl_CrossPut.f k l0 a1_0 a1_1 a1_2 = some r) :
    Calls Try.prog 30 #[.slice A0 l0.length c0, .agg #[.string a1_0, .string a1_1, .string a1_2]] w fun e w' => ∃ v0_ : Value, e = .returned (v0_) ∧ Kd.R k37 37 w' w.heap.size (fun _ => True) v0_ r ∧ Below w.heap.size w w' := by
  have hu37 := Try.underlying37
  have HR0 := Aside0.mk hr0
  have HC0 := Aside0.mk hc0
  clear hr0 hc0
  have HB := Aside0.mk (Below.refl w.heap.size w)
  have H : ((impl_Cross_64.f l0).bind fun t226 => (if t226 = true then (some ([] : List (S37))) else ((impl_Cross_65.f l0).bind fun t227 => ((impl_CrossRight.f k l0).bind fun t230 => (if t230 = true then ((impl_Cross_69__impl_crossOrder.f k l0 a1_0 a1_1 a1_2).bind fun bt231 => (if bt231.2 = true then (if 0 ≤ bt231.1 then (if bt231.1 < (t227.length : Int) then (impl_CrossPut.j0 k l0 (t227.set (bt231.1 : Int).toNat (⟨a1_0, a1_1, a1_2⟩ : S37))) else (none)) else (none)) else ((impl_Cross_70.f t227 bt231.1 (([(⟨a1_0, a1_1, a1_2⟩ : S37)] : List (S37)))).bind fun t237 => (impl_CrossPut.j0 k l0 t237)))) else (some t227)))))) = some r := h
  clear h
  replace H := Option.bind_eq_some_iff.mp H
  obtain ⟨t226, A30, H⟩ := H
  replace H : (if t226 = true then (some ([] : List (S37))) else ((impl_Cross_65.f l0).bind fun t227 => ((impl_CrossRight.f k l0).bind fun t230 => (if t230 = true then ((impl_Cross_69__impl_crossOrder.f k l0 a1_0 a1_1 a1_2).bind fun bt231 => (if bt231.2 = true then (if 0 ≤ bt231.1 then (if bt231.1 < (t227.length : Int) then (impl_CrossPut.j0 k l0 (t227.set (bt231.1 : Int).toNat (⟨a1_0, a1_1, a1_2⟩ : S37))) else (none)) else (none)) else ((impl_Cross_70.f t227 bt231.1 (([(⟨a1_0, a1_1, a1_2⟩ : S37)] : List (S37)))).bind fun t237 => (impl_CrossPut.j0 k l0 t237)))) else (some t227))))) = some r := H
  have A3 := Aside0.mk A30
  clear A30
  by_cases c4 : t226 = true
  · subst c4
    have H1 : (some ([] : List (S37))) = some r := by rw [if_pos rfl] at H; exact H
    clear H
    have H := H1
    clear H1
    obtain rfl := Option.some.inj H
    go_enter Try.func30, Try.ntmps30
    go_wp2_with (first | ((with_reducible refine gate_dst (N := 3) rfl ?_); refine box_event ?hg (N := 3) ?hd (cs := #[.string a1_0, .string a1_1, .string a1_2]) (t := 37) ?hr ?_; (case hd => rfl); (case hg => rfl); (case hr => exact hr_); intro gb225 hg w5 hbox hb; have n0_ := Aside0.mk (below_step bl_ hb); have n1_ := Aside0.mk (hbox); have n2_ := Aside0.mk (gw_ hg bl_); have n3_ := Aside0.mk (gw_ hg bl_); clear HB; have HB := n0_; have BK225 := n1_; have GW225 := n2_; have GE225 := n3_; clear n0_ n1_ n2_ n3_; clear hb hbox hg) | ((with_reducible refine gate_callee (f := 64) rfl ?_); refine gl_ 9 Try.func64 #[.slice A0 l0.length c0] ?_ rfl rfl rfl rfl; (with_reducible refine (impl_Cross_64.calls _ _ l0 true _ ?side1 ?side2 A3.out).mono ?_); (case side1 => exact au11_0); (case side2 => exact HC0.out); rintro e w' ⟨rfl, ⟨nd, rfl⟩⟩; refine ⟨_, rfl, ?_⟩))
    go_ret
    exact ⟨_, au11_1, by first | exact Kd.R_nil _ _ _ _ _ | exact Kd.N_nil _ _ _ _ _ | exact Kd.V_nil _ _ _ _ _ | exact Kd.Q_nil _ _ _ _ _ | exact Kd.S_nil _ _ _ _ _, bl_⟩
  · replace c4 := Bool.eq_false_iff.mpr c4
    subst c4
    have H1 : ((impl_Cross_65.f l0).bind fun t227 => ((impl_CrossRight.f k l0).bind fun t230 => (if t230 = true then ((impl_Cross_69__impl_crossOrder.f k l0 a1_0 a1_1 a1_2).bind fun bt231 => (if bt231.2 = true then (if 0 ≤ bt231.1 then (if bt231.1 < (t227.length : Int) then (impl_CrossPut.j0 k l0 (t227.set (bt231.1 : Int).toNat (⟨a1_0, a1_1, a1_2⟩ : S37))) else (none)) else (none)) else ((impl_Cross_70.f t227 bt231.1 (([(⟨a1_0, a1_1, a1_2⟩ : S37)] : List (S37)))).bind fun t237 => (impl_CrossPut.j0 k l0 t237)))) else (some t227)))) = some r := by rw [if_neg (show ¬ (false = true) by decide)] at H; exact H
    clear H
    have H := H1
    clear H1
    replace H := Option.bind_eq_some_iff.mp H
    obtain ⟨t227, A60, H⟩ := H
    replace H : ((impl_CrossRight.f k l0).bind fun t230 => (if t230 = true then ((impl_Cross_69__impl_crossOrder.f k l0 a1_0 a1_1 a1_2).bind fun bt231 => (if bt231.2 = true then (if 0 ≤ bt231.1 then (if bt231.1 < (t227.length : Int) then (impl_CrossPut.j0 k l0 (t227.set (bt231.1 : Int).toNat (⟨a1_0, a1_1, a1_2⟩ : S37))) else (none)) else (none)) else ((impl_Cross_70.f t227 bt231.1 (([(⟨a1_0, a1_1, a1_2⟩ : S37)] : List (S37)))).bind fun t237 => (impl_CrossPut.j0 k l0 t237)))) else (some t227))) = some r := H
    have A6 := Aside0.mk A60
    clear A60
    replace H := Option.bind_eq_some_iff.mp H
    obtain ⟨t230, A70, H⟩ := H
    replace H : (if t230 = true then ((impl_Cross_69__impl_crossOrder.f k l0 a1_0 a1_1 a1_2).bind fun bt231 => (if bt231.2 = true then (if 0 ≤ bt231.1 then (if bt231.1 < (t227.length : Int) then (impl_CrossPut.j0 k l0 (t227.set (bt231.1 : Int).toNat (⟨a1_0, a1_1, a1_2⟩ : S37))) else (none)) else (none)) else ((impl_Cross_70.f t227 bt231.1 (([(⟨a1_0, a1_1, a1_2⟩ : S37)] : List (S37)))).bind fun t237 => (impl_CrossPut.j0 k l0 t237)))) else (some t227)) = some r := H
    have A7 := Aside0.mk A70
    clear A70
    by_cases c8 : t230 = true
    · subst c8
      have H1 : ((impl_Cross_69__impl_crossOrder.f k l0 a1_0 a1_1 a1_2).bind fun bt231 => (if bt231.2 = true then (if 0 ≤ bt231.1 then (if bt231.1 < (t227.length : Int) then (impl_CrossPut.j0 k l0 (t227.set (bt231.1 : Int).toNat (⟨a1_0, a1_1, a1_2⟩ : S37))) else (none)) else (none)) else ((impl_Cross_70.f t227 bt231.1 (([(⟨a1_0, a1_1, a1_2⟩ : S37)] : List (S37)))).bind fun t237 => (impl_CrossPut.j0 k l0 t237)))) = some r := by rw [if_pos rfl] at H; exact H
      clear H
      have H := H1
      clear H1
      replace H := Option.bind_eq_some_iff.mp H
      obtain ⟨⟨t231, t232⟩, A90, H⟩ := H
      replace H : (if t232 = true then (if 0 ≤ t231 then (if t231 < (t227.length : Int) then (impl_CrossPut.j0 k l0 (t227.set (t231 : Int).toNat (⟨a1_0, a1_1, a1_2⟩ : S37))) else (none)) else (none)) else ((impl_Cross_70.f t227 t231 (([(⟨a1_0, a1_1, a1_2⟩ : S37)] : List (S37)))).bind fun t237 => (impl_CrossPut.j0 k l0 t237))) = some r := H
      have A9 := Aside0.mk A90
      clear A90
      have HC10 := Aside0.mk H
      clear H
      go_enter Try.func30, Try.ntmps30
      go_upto_if 22 with (first | ((with_reducible refine gate_dst (N := 3) rfl ?_); refine box_event ?hg (N := 3) ?hd (cs := #[.string a1_0, .string a1_1, .string a1_2]) (t := 37) ?hr ?_; (case hd => rfl); (case hg => rfl); (case hr => exact hr_); intro gb225 hg w11 hbox hb; have n0_ := Aside0.mk (below_step bl_ hb); have n1_ := Aside0.mk (hbox); have n2_ := Aside0.mk (gw_ hg bl_); have n3_ := Aside0.mk (gw_ hg bl_); clear HB; have HB := n0_; have BK225 := n1_; have GW225 := n2_; have GE225 := n3_; clear n0_ n1_ n2_ n3_; clear hb hbox hg) | ((with_reducible refine gate_callee (f := 64) rfl ?_); refine gl_ 9 Try.func64 #[.slice A0 l0.length c0] ?_ rfl rfl rfl rfl; (with_reducible refine (impl_Cross_64.calls _ _ l0 false _ ?side1 ?side2 A3.out).mono ?_); (case side1 => exact au11_0); (case side2 => exact HC0.out); rintro e w' ⟨rfl, ⟨nd, rfl⟩⟩; refine ⟨_, rfl, ?_⟩) | ((with_reducible refine gate_callee (f := 65) rfl ?_); refine gl_ 11 Try.func65 #[.slice A0 l0.length c0] ?_ rfl rfl rfl rfl; (with_reducible refine (impl_Cross_65.calls _ _ l0 t227 _ ?side1 ?side2 A6.out).mono ?_); (case side1 => exact au11_3); (case side2 => exact HC0.out); rintro e w12 ⟨v228, rfl, ho0, hb⟩; refine ⟨_, rfl, ?_⟩; have n0_ := Aside0.mk (Kd.R_lower (Kd.R_newB ho0 (g := gb225) (o := .cells #[.string a1_0, .string a1_1, .string a1_2] 37 (0, 0)) (bk_ BK225)) (below_size bl_)); have n1_ := Aside0.mk (blkb_ BK225 hb); have n2_ := Aside0.mk (below_step bl_ hb); clear BK225; clear HB; have HO229 := n0_; have BK225 := n1_; have HB := n2_; clear n0_ n1_ n2_; (try clear hb); (try clear hb2); (try clear hk); (try clear hi); (try clear ho0)) | ((with_reducible refine gate_callee (f := 17) rfl ?_); refine gl_ 13 Try.func17 #[.slice A0 l0.length c0] ?_ rfl rfl rfl rfl; (with_reducible refine (impl_CrossRight.calls k _ _ l0 true _ ?side1 ?side2 A7.out).mono ?_); (case side1 => exact au11_0); (case side2 => exact HC0.out); rintro e w13 ⟨rfl, hb⟩; refine ⟨_, rfl, ?_⟩; have n0_ := Aside0.mk (Kd.R_below (rk_ HO229) hb); have n1_ := Aside0.mk (blkb_ BK225 hb); have n2_ := Aside0.mk (below_step bl_ hb); clear HO229; clear BK225; clear HB; have HO229 := n0_; have BK225 := n1_; have HB := n2_; clear n0_ n1_ n2_; (try clear hb); (try clear hb2); (try clear hk); (try clear hi); obtain ⟨hcz14_0, hcz14_1, hcz14_2, hfz14_0, hfz14_1, hfz14_2⟩ := cellsF3 BK225.out) | ((with_reducible refine gate_callee (f := 69) rfl ?_); refine gl_ 19 Try.func69 #[.slice A0 l0.length c0, .agg #[.string a1_0, .string a1_1, .string a1_2], .func (.func 57) #[] #[]] ?_ rfl rfl rfl rfl; (with_reducible refine (impl_Cross_69__impl_crossOrder.calls k _ _ l0 a1_0 a1_1 a1_2  t231 t232 _ ?side1 ?side2 A9.out).mono ?_); (case side1 => exact au11_0); (case side2 => exact HC0.out); rintro e w15 ⟨rfl, hb⟩; refine ⟨_, rfl, ?_⟩; have n0_ := Aside0.mk (Kd.R_below (rk_ HO229) hb); have n1_ := Aside0.mk (blkb_ BK225 hb); have n2_ := Aside0.mk (below_step bl_ hb); clear HO229; clear BK225; clear HB; have HO229 := n0_; have BK225 := n1_; have HB := n2_; clear n0_ n1_ n2_; (try clear hb); (try clear hb2); (try clear hk); (try clear hi)))
      (try simp only [Act.put, List.setIfInBounds_toArray, List.set_cons_zero, List.set_cons_succ])
      go_cut [5] (fun v5 wc => ∃ (kq : Nat) (x5_9 : List (S37)) (x226000_9 : ByteArray) (x226001_9 : ByteArray) (x226002_9 : ByteArray), Aside0 (impl_CrossPut.j0 kq l0 x5_9 = some r) ∧ Aside0 (kq ≤ k) ∧ Aside0 (Kd.R k37 37 wc w.heap.size (fun k_ => k_ ≠ gb225) v5 x5_9) ∧ Aside0 (wc.heap[gb225]? = some (.cells #[.string x226000_9, .string x226001_9, .string x226002_9] 37 (0, 0))) ∧ Aside0 (Below w.heap.size w wc))
      case first =>
        have H := HC10.out
        clear HC10
        by_cases c16 : t232 = true
        · subst c16
          have H1 : (if 0 ≤ t231 then (if t231 < (t227.length : Int) then (impl_CrossPut.j0 k l0 (t227.set (t231 : Int).toNat (⟨a1_0, a1_1, a1_2⟩ : S37))) else (none)) else (none)) = some r := by rw [if_pos rfl] at H; exact H
          clear H
          have H := H1
          clear H1
          by_cases c17 : 0 ≤ t231
          · rw [if_pos c17] at H
            have c17b0 : decide (0 ≤ t231) = true := decide_eq_true c17
            clear c17
            (first | rw [c17b0] | (simp only [i64_w, i32_w]; rw [c17b0]) | skip)
            by_cases c18 : t231 < (t227.length : Int)
            · rw [if_pos c18] at H
              have c18b0 : decide (t231 < (t227.length : Int)) = true := decide_eq_true c18
              clear c18
              obtain ⟨y233, hy233⟩ : ∃ y_ : List (S37), y_ = (t227.set (t231 : Int).toNat (⟨a1_0, a1_1, a1_2⟩ : S37)) := ⟨_, rfl⟩
              replace H : (impl_CrossPut.j0 k l0 y233) = some r := by first | (rw [hy233]; with_reducible exact H) | (have H2_ := (Option.bind_some _ _).symm.trans H; rw [hy233]; with_reducible exact H2_) | (have H2_ := (Option.bind_some _ _).symm.trans H; with_reducible exact H2_) | with_reducible exact H | (rw [hy233]; exact H) | exact H
              have Ny233 := Aside0.mk hy233
              clear hy233
              have H' := Aside0.mk H
              clear H
              obtain ⟨hcz20_0, hcz20_1, hcz20_2, hfz20_0, hfz20_1, hfz20_2⟩ := cellsF3 BK225.out
              have p19 : 0 ≤ (t231 : Int) := of_decide_eq_true as_
              have q19 : (t231 : Int) < ((t227.length : Int) : Int) := of_decide_eq_true as_
              obtain ⟨go19, co19, eo19, gb19, gl19, cl19, HG19⟩ := Kd.R_form HO229.out (by omega)
              (first | cases eo19 | (injection eo19 with ea_ en_ ec_; (first | subst ea_ | (injection ea_ with ea_; subst ea_)); subst ec_; clear en_))
              have GB19 := Aside0.mk gb19
              have GG19 := Aside0.mk HG19
              clear gb19 gl19 HG19
              obtain ⟨ce19, hcl19, hM19, hcc19, hfr19⟩ := Kd.R_elem HO229.out z37 (t231 : Int) p19 q19
              obtain rfl := k37_openM hM19
              have hx19_0 : w15.cell? ⟨go19, (t231 : Int).toNat * 3, none⟩ = some (.string ((rd_T37 t227 t231).f0)) := hcc19 0 _ rfl
              have hx19_1 : w15.cell? ⟨go19, (t231 : Int).toNat * 3 + 1, none⟩ = some (.string ((rd_T37 t227 t231).f1)) := hcc19 1 _ rfl
              have hx19_2 : w15.cell? ⟨go19, (t231 : Int).toNat * 3 + 2, none⟩ = some (.string ((rd_T37 t227 t231).f2)) := hcc19 2 _ rfl
              have hf19_0 : w15.frozen? ⟨go19, (t231 : Int).toNat * 3, none⟩ = false := hfr19 0
              have hf19_1 : w15.frozen? ⟨go19, (t231 : Int).toNat * 3 + 1, none⟩ = false := hfr19 1
              have hf19_2 : w15.frozen? ⟨go19, (t231 : Int).toNat * 3 + 2, none⟩ = false := hfr19 2
              clear hcl19 hcc19 hfr19 hM19
              replace p19 := eq_true p19
              replace q19 := eq_true q19
              have n_ := Aside0.mk (Kd.R_mono (ok' := (fun k_ => k_ ≠ gb225)) HO229.out (fun k_ hk => hk.2))
              clear HO229
              have HO229 := n_
              clear n_
              have HX21 := Aside0.mk (show Kd.R k37 37 w15 w.heap.size (fun k_ => k_ ≠ gb225) (.slice (some ⟨go19, 0, none⟩) t227.length co19) t227 from (rk_ HO229))
              obtain ⟨ce21, hcl21, hM21, hcc21, hfr21⟩ := Kd.R_elem HX21.out z37 (t231 : Int) (of_decide_eq_true as_) (by have h_ : (t231 : Int) < ((t227.length : Int) : Int) := of_decide_eq_true as_; first | exact h_ | (have e_ := (Kd.R_reads' HO229.out).1; omega) | simpa using h_)
              obtain rfl := k37_openM hM21
              have HP21 := Kd.R_seg HX21.out (t231 : Int) (of_decide_eq_true as_) (by have h_ : (t231 : Int) < ((t227.length : Int) : Int) := of_decide_eq_true as_; first | exact h_ | (have e_ := (Kd.R_reads' HO229.out).1; omega) | simpa using h_) (seg := [.string a1_0, .string a1_1, .string a1_2]) (j := 0) hcl21 hcc21 (show 3 ≤ 3 from by decide) (x' := (⟨a1_0, a1_1, a1_2⟩ : S37)) (k37_mkM _ _ _ (⟨a1_0, a1_1, a1_2⟩ : S37) ) (fun _ hk => hk)
              have hx21_0 := hcc21 0 _ rfl
              (try simp only [show (k37).sz = 3 from rfl, Nat.mul_one, Nat.add_zero] at hx21_0)
              have hf21_0 := hfr21 0
              (try simp only [show (k37).sz = 3 from rfl, Nat.mul_one, Nat.add_zero] at hf21_0)
              have hx21_1 := hcc21 1 _ rfl
              (try simp only [show (k37).sz = 3 from rfl, Nat.mul_one, Nat.add_zero] at hx21_1)
              have hf21_1 := hfr21 1
              (try simp only [show (k37).sz = 3 from rfl, Nat.mul_one, Nat.add_zero] at hf21_1)
              have hx21_2 := hcc21 2 _ rfl
              (try simp only [show (k37).sz = 3 from rfl, Nat.mul_one, Nat.add_zero] at hx21_2)
              have hf21_2 := hfr21 2
              (try simp only [show (k37).sz = 3 from rfl, Nat.mul_one, Nat.add_zero] at hf21_2)
              clear hcl21 hcc21 hfr21 hM21
              go_wp2_with (first | ((with_reducible refine gate_store (t := 37) (p := 26) rfl ?_); refine store_event (t := 37) (p := 26) (v := ?vo_w22) (w1 := (((w15.setCell ⟨go19, (t231 : Int).toNat * 3, none⟩ (.string a1_0)).setCell ⟨go19, (t231 : Int).toNat * 3 + 1, none⟩ (.string a1_1)).setCell ⟨go19, (t231 : Int).toNat * 3 + 2, none⟩ (.string a1_2))) ?hg ?ho ?hn ?hr ?_; (case ho => rfl); (case hg => rfl); (case hn => rfl); (case hr => exact hr_); intro w22 hw; have hg : w15.grownBy w22 (some go19) := (by rw [hw]; exact HP21.2); have hp_ : Kd.R k37 37 w22 w.heap.size (fun k_ => k_ ≠ gb225) (.slice (some ⟨go19, 0, none⟩) t227.length co19) y233 := (by rw [hw, Ny233.out]; exact HP21.1); clear HP21; have n0_ := Aside0.mk (blk_grown (g := gb225) (o := .cells #[.string a1_0, .string a1_1, .string a1_2] 37 (0, 0)) (bk_ BK225) hg (Kd.R_away HO229.out (fun _ hk => hk))); have n1_ := Aside0.mk (hp_); have n2_ := Aside0.mk ((by rw [hw]; exact below_set (below_set (below_set (HB.out) GB19.out) GB19.out) GB19.out : Below w.heap.size w w22)); clear BK225; clear HO229; clear HB; have BK225 := n0_; have HO229 := n1_; have HB := n2_; clear n0_ n1_ n2_; clear hg hw hp_))
              go_meet
              case rel => exact ⟨_, (y233), (a1_0), (a1_1), (a1_2), H', ⟨by first | omega | exact Nat.le_refl _⟩, ⟨rk_ HO229⟩, ⟨bk_ BK225⟩, ⟨bl_⟩⟩
            · rw [if_neg c18] at H
              exact absurd H (by simp)
          · rw [if_neg c17] at H
            exact absurd H (by simp)
        · replace c16 := Bool.eq_false_iff.mpr c16
          subst c16
          have H1 : ((impl_Cross_70.f t227 t231 (([(⟨a1_0, a1_1, a1_2⟩ : S37)] : List (S37)))).bind fun t237 => (impl_CrossPut.j0 k l0 t237)) = some r := by rw [if_neg (show ¬ (false = true) by decide)] at H; exact H
          clear H
          have H := H1
          clear H1
          obtain ⟨y234, hy234⟩ : ∃ y_ : List (S37), y_ = (([(⟨a1_0, a1_1, a1_2⟩ : S37)] : List (S37))) := ⟨_, rfl⟩
          replace H : ((impl_Cross_70.f t227 t231 y234).bind fun t237 => (impl_CrossPut.j0 k l0 t237)) = some r := by first | (rw [hy234]; with_reducible exact H) | (have H2_ := (Option.bind_some _ _).symm.trans H; rw [hy234]; with_reducible exact H2_) | (have H2_ := (Option.bind_some _ _).symm.trans H; with_reducible exact H2_) | with_reducible exact H | (rw [hy234]; exact H) | exact H
          have Ny234 := Aside0.mk hy234
          clear hy234
          replace H := Option.bind_eq_some_iff.mp H
          obtain ⟨t237, A230, H⟩ := H
          replace H : (impl_CrossPut.j0 k l0 t237) = some r := H
          have A23 := Aside0.mk A230
          clear A230
          have H' := Aside0.mk H
          clear H
          obtain ⟨hcz24_0, hcz24_1, hcz24_2, hfz24_0, hfz24_1, hfz24_2⟩ := cellsF3 BK225.out
          go_wp2_with (first | ((with_reducible refine gate_dst (N := 30) rfl ?_); refine Kd.R_lit k37 _ 37 ?hg (N := 30) ?hd (xs := ([(⟨a1_0, a1_1, a1_2⟩ : S37)] : List (S37))) (inner := [.string a1_0, .string a1_1, .string a1_2]) (ok := fun _ => True) (okp := fun _ => True) ?hr ?hp (fun _ hk => hk) trivial (Below.refl _ _) (Nat.le_refl _) (by simp) ?_; (case hd => rfl); (case hg => rfl); (case hr => exact hr_); (case hp => exact (Reps.c3 (show Kd.M k37 _ _ _ (⟨a1_0, a1_1, a1_2⟩ : S37) [.string a1_0, .string a1_1, .string a1_2] from (k37_mkM _ _ _ (⟨a1_0, a1_1, a1_2⟩ : S37) )) (Reps.none _ _))); intro v235 w25 ho26 hb hg_ hnew_; clear hg_ hnew_; (first | rw [← Ny234.out] at ho26 | (simp only [Int.reduceToNat] at ho26; rw [← Ny234.out] at ho26)); have n0_ := Aside0.mk (Kd.R_elder' (rk_ HO229) (Kd.R_base ho26) hb); have n1_ := Aside0.mk (Kd.R_lower (Kd.R_newB (Kd.R_new' ho26 (Kd.R_lt (rk_ HO229))) (g := gb225) (o := .cells #[.string a1_0, .string a1_1, .string a1_2] 37 (0, 0)) (bk_ BK225)) (below_size bl_)); have n2_ := Aside0.mk (blkb_ BK225 hb); have n3_ := Aside0.mk (below_step bl_ hb); clear HO229; clear BK225; clear HB; have HO229 := n0_; have HO236 := n1_; have BK225 := n2_; have HB := n3_; clear n0_ n1_ n2_ n3_; clear hb ho26; obtain ⟨Ao27, co27, eo27⟩ := Kd.R_slice HO229.out; subst eo27; obtain ⟨Ao28, co28, eo28⟩ := Kd.R_slice HO236.out; subst eo28) | ((with_reducible refine gate_callee (f := 70) rfl ?_); refine gl_ 31 Try.func70 #[.slice Ao27 t227.length co27, .int .i64 t231, .slice Ao28 y234.length co28] ?_ rfl rfl rfl rfl; (with_reducible refine (impl_Cross_70.calls (fun k_ => some k_ = (.slice Ao27 t227.length co27 : Value).ownBlock) (.slice Ao27 t227.length co27) t227 t231 (fun k_ => some k_ = (.slice Ao28 y234.length co28 : Value).ownBlock) (.slice Ao28 y234.length co28) y234 t237 w _ ?side1 ?side2 ?side3 ?side4 ?side5 A23.out).mono ?_); (case side1 => repeat (first | (with_reducible first | exact HB.out | apply below_alloc | apply pw_below_drewN | apply below_drew1 | refine below_set ?_ GE225.out) | exact HB.out)); (case side2 => exact Kd.R_tight rfl HO229.out); (case side3 => exact fun k_ e_ => (HO229.out.1 k_ e_.symm).2); (case side4 => exact Kd.R_tight rfl HO236.out); (case side5 => exact fun k_ e_ => (HO236.out.1 k_ e_.symm).1.2); rintro e w29 ⟨v238, rfl, ho0, hb, hkp⟩; refine ⟨_, rfl, ?_⟩; have n0_ := Aside0.mk (blk_kept (bk_ BK225) hkp (fun hs_ => Or.elim hs_ (fun e_ => (fun e_ => (Kd.R_away HO229.out (fun _ hk => hk.1.2)) e_) e_) (fun e_ => (fun e_ => (Kd.R_away HO236.out (fun _ hk => hk.2)) e_) e_))); have n1_ := Aside0.mk (Kd.R_mono (ok' := fun k_ => k_ ≠ gb225) ho0 (fun k_ hk_ => Or.elim hk_ (fun hs_ => Or.elim hs_ (fun hs_ => fun e_ => (Kd.R_away HO229.out (fun _ hk => hk.1.2)) (by rw [← e_]; exact hs_)) (fun hs_ => fun e_ => (Kd.R_away HO236.out (fun _ hk => hk.2)) (by rw [← e_]; exact hs_))) (fun hn_ => (Kd.freshB (g := gb225) (o := .cells #[.string a1_0, .string a1_1, .string a1_2] 37 (0, 0)) (bk_ BK225) k_ hn_)))); have n2_ := Aside0.mk (hb); clear BK225; clear HB; clear HO229; clear HO236; have BK225 := n0_; have HO239 := n1_; have HB := n2_; clear n0_ n1_ n2_; (try clear hb); (try clear hkp); (try clear ho0)))
          go_meet
          case rel => exact ⟨_, (t237), (a1_0), (a1_1), (a1_2), H', ⟨by first | omega | exact Nat.le_refl _⟩, ⟨rk_ HO239⟩, ⟨bk_ BK225⟩, ⟨bl_⟩⟩
      case rest =>
        clear HC10
        try clear c1
        try clear p1
        try clear q1
        try clear hx1
        try clear c2
        try clear p2
        try clear hx2
        try clear hf2
        try clear c3
        try clear c4
        try clear c6
        try clear c7
        try clear c8
        try clear c16
        try clear c17
        try clear c17b0
        try clear c18
        try clear c18b0
        try clear c19
        try clear p19
        try clear q19
        try clear hx19
        try clear hf19
        try clear c21
        try clear hx21
        try clear hf21
        try clear hcz14_0
        try clear hcz14_1
        try clear hcz14_2
        try clear hcz20_0
        try clear hcz20_1
        try clear hcz20_2
        try clear hcz24_0
        try clear hcz24_1
        try clear hcz24_2
        try clear hfz14_0
        try clear hfz14_1
        try clear hfz14_2
        try clear hfz20_0
        try clear hfz20_1
        try clear hfz20_2
        try clear hfz24_0
        try clear hfz24_1
        try clear hfz24_2
        try clear hx19_0
        try clear hx19_1
        try clear hx19_2
        try clear hx21_0
        try clear hx21_1
        try clear hx21_2
        try clear p19
        try clear q19
        obtain ⟨kq, x5_9, x226000_9, x226001_9, x226002_9, HA, HJ9, HO_5, BK225, HB⟩ := hcut
        cases kq with
        | zero => exact absurd HA.out (by simp [impl_CrossPut.j0])
        | succ kj9 =>
          have H := HA.out
          clear HA
          simp only [impl_CrossPut.j0] at H
          replace H := Option.bind_eq_some_iff.mp H
          obtain ⟨t240, A300, H⟩ := H
          replace H : (if t240 = true then (some x5_9) else ((impl_Cross_65.f l0).bind fun t241 => (some t241))) = some r := H
          have A30 := Aside0.mk A300
          clear A300
          by_cases c31 : t240 = true
          · subst c31
            have H1 : (some x5_9) = some r := by rw [if_pos rfl] at H; exact H
            clear H
            have H := H1
            clear H1
            obtain rfl := Option.some.inj H
            obtain ⟨Ao32, co32, eo32⟩ := Kd.R_slice HO_5.out
            subst eo32
            go_wp2_with (first | ((with_reducible refine gate_callee (f := 17) rfl ?_); refine gl_ 33 Try.func17 #[.slice Ao32 x5_9.length co32] ?_ rfl rfl rfl rfl; (with_reducible refine (impl_CrossRight.calls kj9 _ _ x5_9 true _ ?side1 ?side2 A30.out).mono ?_); (case side1 => exact au11_2); (case side2 => exact (Kd.R_reads' HO_5.out).2.1); rintro e w33 ⟨rfl, hb⟩; refine ⟨_, rfl, ?_⟩; have n0_ := Aside0.mk (Kd.R_below (rk_ HO_5) hb); have n1_ := Aside0.mk (blkb_ BK225 hb); have n2_ := Aside0.mk (below_step bl_ hb); clear HO_5; clear BK225; clear HB; have HO_5 := n0_; have BK225 := n1_; have HB := n2_; clear n0_ n1_ n2_; (try clear hb); (try clear hb2); (try clear hk); (try clear hi)))
            go_ret
            exact ⟨_, au11_1, by (with_reducible repeat (first | apply Kd.R_alloc | apply Kd.R_drewN | apply Kd.R_drew)); exact Kd.R_mono HO_5.out (fun _ hk => trivial), bl_⟩
          · replace c31 := Bool.eq_false_iff.mpr c31
            subst c31
            have H1 : ((impl_Cross_65.f l0).bind fun t241 => (some t241)) = some r := by rw [if_neg (show ¬ (false = true) by decide)] at H; exact H
            clear H
            have H := H1
            clear H1
            replace H := Option.bind_eq_some_iff.mp H
            obtain ⟨t241, A340, H⟩ := H
            replace H : (some t241) = some r := H
            have A34 := Aside0.mk A340
            clear A340
            obtain rfl := Option.some.inj H
            obtain ⟨Ao35, co35, eo35⟩ := Kd.R_slice HO_5.out
            subst eo35
            go_wp2_with (first | ((with_reducible refine gate_callee (f := 17) rfl ?_); refine gl_ 33 Try.func17 #[.slice Ao35 x5_9.length co35] ?_ rfl rfl rfl rfl; (with_reducible refine (impl_CrossRight.calls kj9 _ _ x5_9 false _ ?side1 ?side2 A30.out).mono ?_); (case side1 => exact au11_2); (case side2 => exact (Kd.R_reads' HO_5.out).2.1); rintro e w36 ⟨rfl, hb⟩; refine ⟨_, rfl, ?_⟩; have n0_ := Aside0.mk (Kd.R_below (rk_ HO_5) hb); have n1_ := Aside0.mk (blkb_ BK225 hb); have n2_ := Aside0.mk (below_step bl_ hb); clear HO_5; clear BK225; clear HB; have HO_5 := n0_; have BK225 := n1_; have HB := n2_; clear n0_ n1_ n2_; (try clear hb); (try clear hb2); (try clear hk); (try clear hi)) | ((with_reducible refine gate_callee (f := 65) rfl ?_); refine gl_ 36 Try.func65 #[.slice A0 l0.length c0] ?_ rfl rfl rfl rfl; (with_reducible refine (impl_Cross_65.calls _ _ l0 t241 _ ?side1 ?side2 A34.out).mono ?_); (case side1 => exact au11_0); (case side2 => exact HC0.out); rintro e w37 ⟨v242, rfl, ho0, hb⟩; refine ⟨_, rfl, ?_⟩; have n0_ := Aside0.mk (Kd.R_elder' (rk_ HO_5) (Kd.R_base ho0) hb); have n1_ := Aside0.mk (Kd.R_lower (Kd.R_newB (Kd.R_new' ho0 (Kd.R_lt (rk_ HO_5))) (g := gb225) (o := .cells #[.string x226000_9, .string x226001_9, .string x226002_9] 37 (0, 0)) (bk_ BK225)) (below_size bl_)); have n2_ := Aside0.mk (blkb_ BK225 hb); have n3_ := Aside0.mk (below_step bl_ hb); clear HO_5; clear BK225; clear HB; have HO_5 := n0_; have HO243 := n1_; have BK225 := n2_; have HB := n3_; clear n0_ n1_ n2_ n3_; (try clear hb); (try clear hb2); (try clear hk); (try clear hi); (try clear ho0)))
            go_ret
            exact ⟨_, au11_1, by (with_reducible repeat (first | apply Kd.R_alloc | apply Kd.R_drewN | apply Kd.R_drew)); exact Kd.R_mono HO243.out (fun _ hk => trivial), bl_⟩
    · replace c8 := Bool.eq_false_iff.mpr c8
      subst c8
      have H1 : (some t227) = some r := by rw [if_neg (show ¬ (false = true) by decide)] at H; exact H
      clear H
      have H := H1
      clear H1
      obtain rfl := Option.some.inj H
      go_enter Try.func30, Try.ntmps30
      go_wp2_with (first | ((with_reducible refine gate_dst (N := 3) rfl ?_); refine box_event ?hg (N := 3) ?hd (cs := #[.string a1_0, .string a1_1, .string a1_2]) (t := 37) ?hr ?_; (case hd => rfl); (case hg => rfl); (case hr => exact hr_); intro gb225 hg w38 hbox hb; have n0_ := Aside0.mk (below_step bl_ hb); have n1_ := Aside0.mk (hbox); have n2_ := Aside0.mk (gw_ hg bl_); have n3_ := Aside0.mk (gw_ hg bl_); clear HB; have HB := n0_; have BK225 := n1_; have GW225 := n2_; have GE225 := n3_; clear n0_ n1_ n2_ n3_; clear hb hbox hg) | ((with_reducible refine gate_callee (f := 64) rfl ?_); refine gl_ 9 Try.func64 #[.slice A0 l0.length c0] ?_ rfl rfl rfl rfl; (with_reducible refine (impl_Cross_64.calls _ _ l0 false _ ?side1 ?side2 A3.out).mono ?_); (case side1 => exact au11_0); (case side2 => exact HC0.out); rintro e w' ⟨rfl, ⟨nd, rfl⟩⟩; refine ⟨_, rfl, ?_⟩) | ((with_reducible refine gate_callee (f := 65) rfl ?_); refine gl_ 11 Try.func65 #[.slice A0 l0.length c0] ?_ rfl rfl rfl rfl; (with_reducible refine (impl_Cross_65.calls _ _ l0 t227 _ ?side1 ?side2 A6.out).mono ?_); (case side1 => exact au11_3); (case side2 => exact HC0.out); rintro e w39 ⟨v228, rfl, ho0, hb⟩; refine ⟨_, rfl, ?_⟩; have n0_ := Aside0.mk (Kd.R_lower (Kd.R_newB ho0 (g := gb225) (o := .cells #[.string a1_0, .string a1_1, .string a1_2] 37 (0, 0)) (bk_ BK225)) (below_size bl_)); have n1_ := Aside0.mk (blkb_ BK225 hb); have n2_ := Aside0.mk (below_step bl_ hb); clear BK225; clear HB; have HO229 := n0_; have BK225 := n1_; have HB := n2_; clear n0_ n1_ n2_; (try clear hb); (try clear hb2); (try clear hk); (try clear hi); (try clear ho0)) | ((with_reducible refine gate_callee (f := 17) rfl ?_); refine gl_ 13 Try.func17 #[.slice A0 l0.length c0] ?_ rfl rfl rfl rfl; (with_reducible refine (impl_CrossRight.calls k _ _ l0 false _ ?side1 ?side2 A7.out).mono ?_); (case side1 => exact au11_0); (case side2 => exact HC0.out); rintro e w40 ⟨rfl, hb⟩; refine ⟨_, rfl, ?_⟩; have n0_ := Aside0.mk (Kd.R_below (rk_ HO229) hb); have n1_ := Aside0.mk (blkb_ BK225 hb); have n2_ := Aside0.mk (below_step bl_ hb); clear HO229; clear BK225; clear HB; have HO229 := n0_; have BK225 := n1_; have HB := n2_; clear n0_ n1_ n2_; (try clear hb); (try clear hb2); (try clear hk); (try clear hi)))
      go_ret
      exact ⟨_, au11_1, by (with_reducible repeat (first | apply Kd.R_alloc | apply Kd.R_drewN | apply Kd.R_drew)); exact Kd.R_mono HO229.out (fun _ hk => trivial), bl_⟩

end Go.Proofs.Ytjffakoifpldeaa.PFnExactCrossPut
