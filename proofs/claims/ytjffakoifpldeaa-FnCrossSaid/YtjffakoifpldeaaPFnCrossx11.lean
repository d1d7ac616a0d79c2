-- printed by a program of this session (wip/xp/xprint.py) out of the translation; Lean checks it
import Derived.Test.YtjffakoifpldeaaPFnCrossx0
import Derived.Test.YtjffakoifpldeaaPFnCrossx5
import Derived.Test.YtjffakoifpldeaaPFnCrossx6
import Derived.Test.YtjffakoifpldeaaPFnCrossx9
import Derived.Test.YtjffakoifpldeaaPFnCrossx10
namespace Go.Proofs.Ytjffakoifpldeaa.PFnCross
open Go.RowKit Go.Proofs.YtjffakoifpldeaaW.PrintWords Go.Proofs.YtjffakoifpldeaaW.PrintLast Go.Proofs.YtjffakoifpldeaaW.PrintMore
attribute [local go_sem] max2_int min2_int max_two min_two max_three min_three max_four min_four   -- for this text's walks alone
set_option linter.unusedVariables false
set_option linter.unusedSimpArgs false

theorem au11_0 {p : Prop} (h : p := by repeat (first | exact (Kd.C_below HR0.out HB.out) | (with_reducible refine Kd.C_alloc ?_ _) | (with_reducible refine Kd.C_drewN ?_ _) | (with_reducible refine Kd.C_drew ?_))) : p := h
theorem au11_1 {p : Prop} (h : p := by repeat (first | (with_reducible first | exact HBW.out | apply below_alloc | apply pw_below_drewN | apply below_drew1 | refine below_set ?_ GW247.out) | exact HBW.out)) : p := h
theorem au11_2 {p : Prop} (h : p := by (with_reducible repeat (first | refine blk_drewN ?_ _ | refine blk_drew ?_ | refine blk_alloc ?_ _)); refine blk_put (cs := #[.slice A0 l0.length c0, .int .i64 0, .int .u64 x248002_1, .int .i64 (wrap64 ((l0.length : Int) / 20))]) ?_ 3 _ rfl; (with_reducible repeat (first | refine blk_drewN ?_ _ | refine blk_drew ?_ | refine blk_alloc ?_ _)); refine blk_put (cs := #[.slice A0 l0.length c0, .int .i64 0, .int .u64 x248002_1, .int .i64 0]) ?_ 3 _ rfl; (with_reducible repeat (first | refine blk_drewN ?_ _ | refine blk_drew ?_ | refine blk_alloc ?_ _)); exact BK247.out) : p := h
theorem au11_3 {p : Prop} (h : p := by (with_reducible repeat (first | refine blk_drewN ?_ _ | refine blk_drew ?_ | refine blk_alloc ?_ _)); refine blk_put (cs := #[.slice A0 l0.length c0, .int .i64 0, .int .u64 x248002_1, .int .i64 0]) ?_ 3 _ rfl; (with_reducible repeat (first | refine blk_drewN ?_ _ | refine blk_drew ?_ | refine blk_alloc ?_ _)); exact BK247.out) : p := h
theorem au11_4 {p : Prop} (h : p := by first | rfl | (simp [errW_none, errW_some] <;> rfl) | (simp [*, errW_none, errW_some] <;> rfl)) : p := h
theorem au11_5 {p : Prop} (h : p := by repeat (first | exact (Kd.R_reads' HO_5.out).2.2 | (with_reducible refine Kd.C_alloc ?_ _) | (with_reducible refine Kd.C_drewN ?_ _) | (with_reducible refine Kd.C_drew ?_))) : p := h
theorem au11_6 {p : Prop} (h : p := by repeat (first | exact (Kd.C_below HR0.out bl_) | (with_reducible refine Kd.C_alloc ?_ _) | (with_reducible refine Kd.C_drewN ?_ _) | (with_reducible refine Kd.C_drew ?_))) : p := h
theorem au11_7 {p : Prop} (h : p := by repeat (first | (with_reducible first | exact HBW.out | apply below_alloc | apply pw_below_drewN | apply below_drew1) | exact HBW.out)) : p := h

/-! ### impl_CrossPut: function 30 -/
def impl_CrossPut.j0 : Nat → List (S37) → List (S37) → Option ((List (S37)))
  | 0, _, _ => none
  | k + 1, x0, x5 => (impl_CrossRight.f k x5).bind fun t243 => (if t243 = true then (some x5) else ((impl_Cross_65.f x0).bind fun t244 => (some t244)))
def impl_CrossPut.f (k : Nat) (l0 : List (S37)) (a1_0 : ByteArray) (a1_1 : ByteArray) (a1_2 : ByteArray) : Option ((List (S37))) := (impl_Cross_64.f l0).bind fun t229 => (if t229 = true then (some ([] : List (S37))) else ((impl_Cross_65.f l0).bind fun t230 => ((impl_CrossRight.f k l0).bind fun t233 => (if t233 = true then ((impl_Cross_69__impl_crossOrder.f k l0 a1_0 a1_1 a1_2).bind fun bt234 => (if bt234.2 = true then (if 0 ≤ bt234.1 then (if bt234.1 < (t230.length : Int) then (impl_CrossPut.j0 k l0 (t230.set (bt234.1 : Int).toNat (⟨a1_0, a1_1, a1_2⟩ : S37))) else (none)) else (none)) else ((impl_Cross_70.f t230 bt234.1 (([(⟨a1_0, a1_1, a1_2⟩ : S37)] : List (S37)))).bind fun t240 => (impl_CrossPut.j0 k l0 t240)))) else (some t230)))))
theorem impl_CrossPut.mono_l : ∀ k, (∀ y0 y1, LeO (impl_CrossPut.j0 k y0 y1) (impl_CrossPut.j0 (k + 1) y0 y1))
  | 0 => fun _ _ r h => by simp [impl_CrossPut.j0] at h
  | k + 1 => by
    have ih0 := impl_CrossPut.mono_l k
    · intro y0 y1
      unfold impl_CrossPut.j0
      repeat' first
      | (with_reducible exact ih0 _ _)
      | (with_reducible exact impl_CrossRight.mono _ _)
      | (with_reducible exact impl_Cross_69__impl_crossOrder.mono _ _ _ _ _)
      | (with_reducible exact LeO.refl _)
      | (with_reducible exact LeO.none _)
      | (with_reducible refine LeO.ite ?_ ?_)
      | (with_reducible refine LeO.bind ?_ (fun _ => ?_))
      | exact ih0 _ _
      | exact impl_CrossRight.mono _ _
      | exact impl_Cross_69__impl_crossOrder.mono _ _ _ _ _
      | exact LeO.none _
      | refine LeO.ite ?_ ?_
      | refine LeO.bind ?_ (fun _ => ?_)
theorem impl_CrossPut.mono : ∀ a0 a1 a2 a3 k, LeO (impl_CrossPut.f k a0 a1 a2 a3) (impl_CrossPut.f (k + 1) a0 a1 a2 a3) := by
  intro a0 a1 a2 a3 k
  have ih0 := impl_CrossPut.mono_l k
  unfold impl_CrossPut.f
  repeat' first
      | (with_reducible exact ih0 _ _)
      | (with_reducible exact impl_CrossRight.mono _ _)
      | (with_reducible exact impl_Cross_69__impl_crossOrder.mono _ _ _ _ _)
      | (with_reducible exact LeO.refl _)
      | (with_reducible exact LeO.none _)
      | (with_reducible refine LeO.ite ?_ ?_)
      | (with_reducible refine LeO.bind ?_ (fun _ => ?_))
      | exact ih0 _ _
      | exact impl_CrossRight.mono _ _
      | exact impl_Cross_69__impl_crossOrder.mono _ _ _ _ _
      | exact LeO.none _
      | refine LeO.ite ?_ ?_
      | refine LeO.bind ?_ (fun _ => ?_)
set_option maxHeartbeats 8000000 in
set_option maxRecDepth 100000 in
theorem impl_CrossPut.calls (k : Nat) (A0 : Option Addr) (c0 : Nat) (l0 : List (S37)) (a1_0 : ByteArray) (a1_1 : ByteArray) (a1_2 : ByteArray) (r : List (S37)) (w : World) (hr0 : Kd.C k37 w A0 l0.length l0) (hc0 : l0.length ≤ c0) (h : impl_CrossPut.f k l0 a1_0 a1_1 a1_2 = some r) :
    Calls Try.prog 30 #[.slice A0 l0.length c0, .agg #[.string a1_0, .string a1_1, .string a1_2]] w fun e w' => ∃ v0_ : Value, e = .returned (v0_) ∧ Kd.R k37 37 w' w.heap.size (fun _ => True) v0_ r ∧ Below w.heap.size w w' := by
  have hu37 := Try.underlying37
  have HR0 := Aside0.mk hr0
  have HC0 := Aside0.mk hc0
  clear hr0 hc0
  have HB := Aside0.mk (Below.refl w.heap.size w)
  have H : ((impl_Cross_64.f l0).bind fun t229 => (if t229 = true then (some ([] : List (S37))) else ((impl_Cross_65.f l0).bind fun t230 => ((impl_CrossRight.f k l0).bind fun t233 => (if t233 = true then ((impl_Cross_69__impl_crossOrder.f k l0 a1_0 a1_1 a1_2).bind fun bt234 => (if bt234.2 = true then (if 0 ≤ bt234.1 then (if bt234.1 < (t230.length : Int) then (impl_CrossPut.j0 k l0 (t230.set (bt234.1 : Int).toNat (⟨a1_0, a1_1, a1_2⟩ : S37))) else (none)) else (none)) else ((impl_Cross_70.f t230 bt234.1 (([(⟨a1_0, a1_1, a1_2⟩ : S37)] : List (S37)))).bind fun t240 => (impl_CrossPut.j0 k l0 t240)))) else (some t230)))))) = some r := h
  clear h
  replace H := Option.bind_eq_some_iff.mp H
  obtain ⟨t229, A30, H⟩ := H
  replace H : (if t229 = true then (some ([] : List (S37))) else ((impl_Cross_65.f l0).bind fun t230 => ((impl_CrossRight.f k l0).bind fun t233 => (if t233 = true then ((impl_Cross_69__impl_crossOrder.f k l0 a1_0 a1_1 a1_2).bind fun bt234 => (if bt234.2 = true then (if 0 ≤ bt234.1 then (if bt234.1 < (t230.length : Int) then (impl_CrossPut.j0 k l0 (t230.set (bt234.1 : Int).toNat (⟨a1_0, a1_1, a1_2⟩ : S37))) else (none)) else (none)) else ((impl_Cross_70.f t230 bt234.1 (([(⟨a1_0, a1_1, a1_2⟩ : S37)] : List (S37)))).bind fun t240 => (impl_CrossPut.j0 k l0 t240)))) else (some t230))))) = some r := H
  have A3 := Aside0.mk A30
  clear A30
  by_cases c4 : t229 = true
  · subst c4
    have H1 : (some ([] : List (S37))) = some r := by rw [if_pos rfl] at H; exact H
    clear H
    have H := H1
    clear H1
    obtain rfl := Option.some.inj H
    go_enter Try.func30, Try.ntmps30
    go_wp2_with (first | ((with_reducible refine gate_dst (N := 3) rfl ?_); refine box_event ?hg (N := 3) ?hd (cs := #[.string a1_0, .string a1_1, .string a1_2]) (t := 37) ?hr ?_; (case hd => rfl); (case hg => rfl); (case hr => exact hr_); intro gb228 hg w5 hbox hb; have n0_ := Aside0.mk (below_step bl_ hb); have n1_ := Aside0.mk (hbox); have n2_ := Aside0.mk (gw_ hg bl_); have n3_ := Aside0.mk (gw_ hg bl_); clear HB; have HB := n0_; have BK228 := n1_; have GW228 := n2_; have GE228 := n3_; clear n0_ n1_ n2_ n3_; clear hb hbox hg) | ((with_reducible refine gate_callee (f := 64) rfl ?_); refine gl_ 9 Try.func64 #[.slice A0 l0.length c0] ?_ rfl rfl rfl rfl; (with_reducible refine (impl_Cross_64.calls _ _ l0 true _ ?side1 ?side2 A3.out).mono ?_); (case side1 => exact au11_0); (case side2 => exact HC0.out); rintro e w' ⟨rfl, ⟨nd, rfl⟩⟩; refine ⟨_, rfl, ?_⟩))
    go_ret
    exact ⟨_, au11_4, by first | exact Kd.R_nil _ _ _ _ _ | exact Kd.N_nil _ _ _ _ _ | exact Kd.V_nil _ _ _ _ _ | exact Kd.Q_nil _ _ _ _ _ | exact Kd.S_nil _ _ _ _ _, bl_⟩
  · replace c4 := Bool.eq_false_iff.mpr c4
    subst c4
    have H1 : ((impl_Cross_65.f l0).bind fun t230 => ((impl_CrossRight.f k l0).bind fun t233 => (if t233 = true then ((impl_Cross_69__impl_crossOrder.f k l0 a1_0 a1_1 a1_2).bind fun bt234 => (if bt234.2 = true then (if 0 ≤ bt234.1 then (if bt234.1 < (t230.length : Int) then (impl_CrossPut.j0 k l0 (t230.set (bt234.1 : Int).toNat (⟨a1_0, a1_1, a1_2⟩ : S37))) else (none)) else (none)) else ((impl_Cross_70.f t230 bt234.1 (([(⟨a1_0, a1_1, a1_2⟩ : S37)] : List (S37)))).bind fun t240 => (impl_CrossPut.j0 k l0 t240)))) else (some t230)))) = some r := by rw [if_neg (show ¬ (false = true) by decide)] at H; exact H
    clear H
    have H := H1
    clear H1
    replace H := Option.bind_eq_some_iff.mp H
    obtain ⟨t230, A60, H⟩ := H
    replace H : ((impl_CrossRight.f k l0).bind fun t233 => (if t233 = true then ((impl_Cross_69__impl_crossOrder.f k l0 a1_0 a1_1 a1_2).bind fun bt234 => (if bt234.2 = true then (if 0 ≤ bt234.1 then (if bt234.1 < (t230.length : Int) then (impl_CrossPut.j0 k l0 (t230.set (bt234.1 : Int).toNat (⟨a1_0, a1_1, a1_2⟩ : S37))) else (none)) else (none)) else ((impl_Cross_70.f t230 bt234.1 (([(⟨a1_0, a1_1, a1_2⟩ : S37)] : List (S37)))).bind fun t240 => (impl_CrossPut.j0 k l0 t240)))) else (some t230))) = some r := H
    have A6 := Aside0.mk A60
    clear A60
    replace H := Option.bind_eq_some_iff.mp H
    obtain ⟨t233, A70, H⟩ := H
    replace H : (if t233 = true then ((impl_Cross_69__impl_crossOrder.f k l0 a1_0 a1_1 a1_2).bind fun bt234 => (if bt234.2 = true then (if 0 ≤ bt234.1 then (if bt234.1 < (t230.length : Int) then (impl_CrossPut.j0 k l0 (t230.set (bt234.1 : Int).toNat (⟨a1_0, a1_1, a1_2⟩ : S37))) else (none)) else (none)) else ((impl_Cross_70.f t230 bt234.1 (([(⟨a1_0, a1_1, a1_2⟩ : S37)] : List (S37)))).bind fun t240 => (impl_CrossPut.j0 k l0 t240)))) else (some t230)) = some r := H
    have A7 := Aside0.mk A70
    clear A70
    by_cases c8 : t233 = true
    · subst c8
      have H1 : ((impl_Cross_69__impl_crossOrder.f k l0 a1_0 a1_1 a1_2).bind fun bt234 => (if bt234.2 = true then (if 0 ≤ bt234.1 then (if bt234.1 < (t230.length : Int) then (impl_CrossPut.j0 k l0 (t230.set (bt234.1 : Int).toNat (⟨a1_0, a1_1, a1_2⟩ : S37))) else (none)) else (none)) else ((impl_Cross_70.f t230 bt234.1 (([(⟨a1_0, a1_1, a1_2⟩ : S37)] : List (S37)))).bind fun t240 => (impl_CrossPut.j0 k l0 t240)))) = some r := by rw [if_pos rfl] at H; exact H
      clear H
      have H := H1
      clear H1
      replace H := Option.bind_eq_some_iff.mp H
      obtain ⟨⟨t234, t235⟩, A90, H⟩ := H
      replace H : (if t235 = true then (if 0 ≤ t234 then (if t234 < (t230.length : Int) then (impl_CrossPut.j0 k l0 (t230.set (t234 : Int).toNat (⟨a1_0, a1_1, a1_2⟩ : S37))) else (none)) else (none)) else ((impl_Cross_70.f t230 t234 (([(⟨a1_0, a1_1, a1_2⟩ : S37)] : List (S37)))).bind fun t240 => (impl_CrossPut.j0 k l0 t240))) = some r := H
      have A9 := Aside0.mk A90
      clear A90
      have HC10 := Aside0.mk H
      clear H
      go_enter Try.func30, Try.ntmps30
      go_upto_if 22 with (first | ((with_reducible refine gate_dst (N := 3) rfl ?_); refine box_event ?hg (N := 3) ?hd (cs := #[.string a1_0, .string a1_1, .string a1_2]) (t := 37) ?hr ?_; (case hd => rfl); (case hg => rfl); (case hr => exact hr_); intro gb228 hg w11 hbox hb; have n0_ := Aside0.mk (below_step bl_ hb); have n1_ := Aside0.mk (hbox); have n2_ := Aside0.mk (gw_ hg bl_); have n3_ := Aside0.mk (gw_ hg bl_); clear HB; have HB := n0_; have BK228 := n1_; have GW228 := n2_; have GE228 := n3_; clear n0_ n1_ n2_ n3_; clear hb hbox hg) | ((with_reducible refine gate_callee (f := 64) rfl ?_); refine gl_ 9 Try.func64 #[.slice A0 l0.length c0] ?_ rfl rfl rfl rfl; (with_reducible refine (impl_Cross_64.calls _ _ l0 false _ ?side1 ?side2 A3.out).mono ?_); (case side1 => exact au11_0); (case side2 => exact HC0.out); rintro e w' ⟨rfl, ⟨nd, rfl⟩⟩; refine ⟨_, rfl, ?_⟩) | ((with_reducible refine gate_callee (f := 65) rfl ?_); refine gl_ 11 Try.func65 #[.slice A0 l0.length c0] ?_ rfl rfl rfl rfl; (with_reducible refine (impl_Cross_65.calls _ _ l0 t230 _ ?side1 ?side2 A6.out).mono ?_); (case side1 => exact au11_6); (case side2 => exact HC0.out); rintro e w12 ⟨v231, rfl, ho0, hb⟩; refine ⟨_, rfl, ?_⟩; have n0_ := Aside0.mk (Kd.R_lower (Kd.R_newB ho0 (g := gb228) (o := .cells #[.string a1_0, .string a1_1, .string a1_2] 37 (0, 0)) (bk_ BK228)) (below_size bl_)); have n1_ := Aside0.mk (blkb_ BK228 hb); have n2_ := Aside0.mk (below_step bl_ hb); clear BK228; clear HB; have HO232 := n0_; have BK228 := n1_; have HB := n2_; clear n0_ n1_ n2_; (try clear hb); (try clear hb2); (try clear hk); (try clear hi); (try clear ho0)) | ((with_reducible refine gate_callee (f := 17) rfl ?_); refine gl_ 13 Try.func17 #[.slice A0 l0.length c0] ?_ rfl rfl rfl rfl; (with_reducible refine (impl_CrossRight.calls k _ _ l0 true _ ?side1 ?side2 A7.out).mono ?_); (case side1 => exact au11_0); (case side2 => exact HC0.out); rintro e w13 ⟨rfl, hb⟩; refine ⟨_, rfl, ?_⟩; have n0_ := Aside0.mk (Kd.R_below (rk_ HO232) hb); have n1_ := Aside0.mk (blkb_ BK228 hb); have n2_ := Aside0.mk (below_step bl_ hb); clear HO232; clear BK228; clear HB; have HO232 := n0_; have BK228 := n1_; have HB := n2_; clear n0_ n1_ n2_; (try clear hb); (try clear hb2); (try clear hk); (try clear hi); obtain ⟨hcz14_0, hcz14_1, hcz14_2, hfz14_0, hfz14_1, hfz14_2⟩ := cellsF3 BK228.out) | ((with_reducible refine gate_callee (f := 69) rfl ?_); refine gl_ 19 Try.func69 #[.slice A0 l0.length c0, .agg #[.string a1_0, .string a1_1, .string a1_2], .func (.func 57) #[] #[]] ?_ rfl rfl rfl rfl; (with_reducible refine (impl_Cross_69__impl_crossOrder.calls k _ _ l0 a1_0 a1_1 a1_2  t234 t235 _ ?side1 ?side2 A9.out).mono ?_); (case side1 => exact au11_0); (case side2 => exact HC0.out); rintro e w15 ⟨rfl, hb⟩; refine ⟨_, rfl, ?_⟩; have n0_ := Aside0.mk (Kd.R_below (rk_ HO232) hb); have n1_ := Aside0.mk (blkb_ BK228 hb); have n2_ := Aside0.mk (below_step bl_ hb); clear HO232; clear BK228; clear HB; have HO232 := n0_; have BK228 := n1_; have HB := n2_; clear n0_ n1_ n2_; (try clear hb); (try clear hb2); (try clear hk); (try clear hi)))
      (try simp only [Act.put, List.setIfInBounds_toArray, List.set_cons_zero, List.set_cons_succ])
      go_cut [5] (fun v5 wc => ∃ (kq : Nat) (x5_9 : List (S37)) (x229000_9 : ByteArray) (x229001_9 : ByteArray) (x229002_9 : ByteArray), Aside0 (impl_CrossPut.j0 kq l0 x5_9 = some r) ∧ Aside0 (kq ≤ k) ∧ Aside0 (Kd.R k37 37 wc w.heap.size (fun k_ => k_ ≠ gb228) v5 x5_9) ∧ Aside0 (wc.heap[gb228]? = some (.cells #[.string x229000_9, .string x229001_9, .string x229002_9] 37 (0, 0))) ∧ Aside0 (Below w.heap.size w wc))
      case first =>
        have H := HC10.out
        clear HC10
        by_cases c16 : t235 = true
        · subst c16
          have H1 : (if 0 ≤ t234 then (if t234 < (t230.length : Int) then (impl_CrossPut.j0 k l0 (t230.set (t234 : Int).toNat (⟨a1_0, a1_1, a1_2⟩ : S37))) else (none)) else (none)) = some r := by rw [if_pos rfl] at H; exact H
          clear H
          have H := H1
          clear H1
          by_cases c17 : 0 ≤ t234
          · rw [if_pos c17] at H
            have c17b0 : decide (0 ≤ t234) = true := decide_eq_true c17
            clear c17
            (first | rw [c17b0] | (simp only [i64_w, i32_w]; rw [c17b0]) | skip)
            by_cases c18 : t234 < (t230.length : Int)
            · rw [if_pos c18] at H
              have c18b0 : decide (t234 < (t230.length : Int)) = true := decide_eq_true c18
              clear c18
              obtain ⟨y236, hy236⟩ : ∃ y_ : List (S37), y_ = (t230.set (t234 : Int).toNat (⟨a1_0, a1_1, a1_2⟩ : S37)) := ⟨_, rfl⟩
              replace H : (impl_CrossPut.j0 k l0 y236) = some r := by first | (rw [hy236]; with_reducible exact H) | (have H2_ := (Option.bind_some _ _).symm.trans H; rw [hy236]; with_reducible exact H2_) | (have H2_ := (Option.bind_some _ _).symm.trans H; with_reducible exact H2_) | with_reducible exact H | (rw [hy236]; exact H) | exact H
              have Ny236 := Aside0.mk hy236
              clear hy236
              have H' := Aside0.mk H
              clear H
              obtain ⟨hcz20_0, hcz20_1, hcz20_2, hfz20_0, hfz20_1, hfz20_2⟩ := cellsF3 BK228.out
              have p19 : 0 ≤ (t234 : Int) := of_decide_eq_true as_
              have q19 : (t234 : Int) < ((t230.length : Int) : Int) := of_decide_eq_true as_
              obtain ⟨go19, co19, eo19, gb19, gl19, cl19, HG19⟩ := Kd.R_form HO232.out (by omega)
              (first | cases eo19 | (injection eo19 with ea_ en_ ec_; (first | subst ea_ | (injection ea_ with ea_; subst ea_)); subst ec_; clear en_))
              have GB19 := Aside0.mk gb19
              have GG19 := Aside0.mk HG19
              clear gb19 gl19 HG19
              obtain ⟨ce19, hcl19, hM19, hcc19, hfr19⟩ := Kd.R_elem HO232.out z37 (t234 : Int) p19 q19
              obtain rfl := k37_openM hM19
              have hx19_0 : w15.cell? ⟨go19, (t234 : Int).toNat * 3, none⟩ = some (.string ((rd_T37 t230 t234).f0)) := hcc19 0 _ rfl
              have hx19_1 : w15.cell? ⟨go19, (t234 : Int).toNat * 3 + 1, none⟩ = some (.string ((rd_T37 t230 t234).f1)) := hcc19 1 _ rfl
              have hx19_2 : w15.cell? ⟨go19, (t234 : Int).toNat * 3 + 2, none⟩ = some (.string ((rd_T37 t230 t234).f2)) := hcc19 2 _ rfl
              have hf19_0 : w15.frozen? ⟨go19, (t234 : Int).toNat * 3, none⟩ = false := hfr19 0
              have hf19_1 : w15.frozen? ⟨go19, (t234 : Int).toNat * 3 + 1, none⟩ = false := hfr19 1
              have hf19_2 : w15.frozen? ⟨go19, (t234 : Int).toNat * 3 + 2, none⟩ = false := hfr19 2
              clear hcl19 hcc19 hfr19 hM19
              replace p19 := eq_true p19
              replace q19 := eq_true q19
              have n_ := Aside0.mk (Kd.R_mono (ok' := (fun k_ => k_ ≠ gb228)) HO232.out (fun k_ hk => hk.2))
              clear HO232
              have HO232 := n_
              clear n_
              have HX21 := Aside0.mk (show Kd.R k37 37 w15 w.heap.size (fun k_ => k_ ≠ gb228) (.slice (some ⟨go19, 0, none⟩) t230.length co19) t230 from (rk_ HO232))
              obtain ⟨ce21, hcl21, hM21, hcc21, hfr21⟩ := Kd.R_elem HX21.out z37 (t234 : Int) (of_decide_eq_true as_) (by have h_ : (t234 : Int) < ((t230.length : Int) : Int) := of_decide_eq_true as_; first | exact h_ | (have e_ := (Kd.R_reads' HO232.out).1; omega) | simpa using h_)
              obtain rfl := k37_openM hM21
              have HP21 := Kd.R_seg HX21.out (t234 : Int) (of_decide_eq_true as_) (by have h_ : (t234 : Int) < ((t230.length : Int) : Int) := of_decide_eq_true as_; first | exact h_ | (have e_ := (Kd.R_reads' HO232.out).1; omega) | simpa using h_) (seg := [.string a1_0, .string a1_1, .string a1_2]) (j := 0) hcl21 hcc21 (show 3 ≤ 3 from by decide) (x' := (⟨a1_0, a1_1, a1_2⟩ : S37)) (k37_mkM _ _ _ (⟨a1_0, a1_1, a1_2⟩ : S37) ) (fun _ hk => hk)
              have hx21_0 := hcc21 0 _ rfl
              (try simp only [show (k37).sz = 3 from rfl, Nat.mul_one, Nat.add_zero] at hx21_0)
              have hf21_0 := hfr21 0
              (try simp only [show (k37).sz = 3 from rfl, Nat.mul_one, Nat.add_zero] at hf21_0)
              have hx21_1 := hcc21 1 _ rfl
              (try simp only [show (k37).sz = 3 from rfl, Nat.mul_one, Nat.add_zero] at hx21_1)
              have hf21_1 := hfr21 1
              (try simp only [show (k37).sz = 3 from rfl, Nat.mul_one, Nat.add_zero] at hf21_1)
              have hx21_2 := hcc21 2 _ rfl
              (try simp only [show (k37).sz = 3 from rfl, Nat.mul_one, Nat.add_zero] at hx21_2)
              have hf21_2 := hfr21 2
              (try simp only [show (k37).sz = 3 from rfl, Nat.mul_one, Nat.add_zero] at hf21_2)
              clear hcl21 hcc21 hfr21 hM21
              go_wp2_with (first | ((with_reducible refine gate_store (t := 37) (p := 26) rfl ?_); refine store_event (t := 37) (p := 26) (v := ?vo_w22) (w1 := (((w15.setCell ⟨go19, (t234 : Int).toNat * 3, none⟩ (.string a1_0)).setCell ⟨go19, (t234 : Int).toNat * 3 + 1, none⟩ (.string a1_1)).setCell ⟨go19, (t234 : Int).toNat * 3 + 2, none⟩ (.string a1_2))) ?hg ?ho ?hn ?hr ?_; (case ho => rfl); (case hg => rfl); (case hn => rfl); (case hr => exact hr_); intro w22 hw; have hg : w15.grownBy w22 (some go19) := (by rw [hw]; exact HP21.2); have hp_ : Kd.R k37 37 w22 w.heap.size (fun k_ => k_ ≠ gb228) (.slice (some ⟨go19, 0, none⟩) t230.length co19) y236 := (by rw [hw, Ny236.out]; exact HP21.1); clear HP21; have n0_ := Aside0.mk (blk_grown (g := gb228) (o := .cells #[.string a1_0, .string a1_1, .string a1_2] 37 (0, 0)) (bk_ BK228) hg (Kd.R_away HO232.out (fun _ hk => hk))); have n1_ := Aside0.mk (hp_); have n2_ := Aside0.mk ((by rw [hw]; exact below_set (below_set (below_set (HB.out) GB19.out) GB19.out) GB19.out : Below w.heap.size w w22)); clear BK228; clear HO232; clear HB; have BK228 := n0_; have HO232 := n1_; have HB := n2_; clear n0_ n1_ n2_; clear hg hw hp_))
              go_meet
              case rel => exact ⟨_, (y236), (a1_0), (a1_1), (a1_2), H', ⟨by first | omega | exact Nat.le_refl _⟩, ⟨rk_ HO232⟩, ⟨bk_ BK228⟩, ⟨bl_⟩⟩
            · rw [if_neg c18] at H
              exact absurd H (by simp)
          · rw [if_neg c17] at H
            exact absurd H (by simp)
        · replace c16 := Bool.eq_false_iff.mpr c16
          subst c16
          have H1 : ((impl_Cross_70.f t230 t234 (([(⟨a1_0, a1_1, a1_2⟩ : S37)] : List (S37)))).bind fun t240 => (impl_CrossPut.j0 k l0 t240)) = some r := by rw [if_neg (show ¬ (false = true) by decide)] at H; exact H
          clear H
          have H := H1
          clear H1
          obtain ⟨y237, hy237⟩ : ∃ y_ : List (S37), y_ = (([(⟨a1_0, a1_1, a1_2⟩ : S37)] : List (S37))) := ⟨_, rfl⟩
          replace H : ((impl_Cross_70.f t230 t234 y237).bind fun t240 => (impl_CrossPut.j0 k l0 t240)) = some r := by first | (rw [hy237]; with_reducible exact H) | (have H2_ := (Option.bind_some _ _).symm.trans H; rw [hy237]; with_reducible exact H2_) | (have H2_ := (Option.bind_some _ _).symm.trans H; with_reducible exact H2_) | with_reducible exact H | (rw [hy237]; exact H) | exact H
          have Ny237 := Aside0.mk hy237
          clear hy237
          replace H := Option.bind_eq_some_iff.mp H
          obtain ⟨t240, A230, H⟩ := H
          replace H : (impl_CrossPut.j0 k l0 t240) = some r := H
          have A23 := Aside0.mk A230
          clear A230
          have H' := Aside0.mk H
          clear H
          obtain ⟨hcz24_0, hcz24_1, hcz24_2, hfz24_0, hfz24_1, hfz24_2⟩ := cellsF3 BK228.out
          go_wp2_with (first | ((with_reducible refine gate_dst (N := 30) rfl ?_); refine Kd.R_lit k37 _ 37 ?hg (N := 30) ?hd (xs := ([(⟨a1_0, a1_1, a1_2⟩ : S37)] : List (S37))) (inner := [.string a1_0, .string a1_1, .string a1_2]) (ok := fun _ => True) (okp := fun _ => True) ?hr ?hp (fun _ hk => hk) trivial (Below.refl _ _) (Nat.le_refl _) (by simp) ?_; (case hd => rfl); (case hg => rfl); (case hr => exact hr_); (case hp => exact (Reps.c3 (show Kd.M k37 _ _ _ (⟨a1_0, a1_1, a1_2⟩ : S37) [.string a1_0, .string a1_1, .string a1_2] from (k37_mkM _ _ _ (⟨a1_0, a1_1, a1_2⟩ : S37) )) (Reps.none _ _))); intro v238 w25 ho26 hb hg_ hnew_; clear hg_ hnew_; (first | rw [← Ny237.out] at ho26 | (simp only [Int.reduceToNat] at ho26; rw [← Ny237.out] at ho26)); have n0_ := Aside0.mk (Kd.R_elder' (rk_ HO232) (Kd.R_base ho26) hb); have n1_ := Aside0.mk (Kd.R_lower (Kd.R_newB (Kd.R_new' ho26 (Kd.R_lt (rk_ HO232))) (g := gb228) (o := .cells #[.string a1_0, .string a1_1, .string a1_2] 37 (0, 0)) (bk_ BK228)) (below_size bl_)); have n2_ := Aside0.mk (blkb_ BK228 hb); have n3_ := Aside0.mk (below_step bl_ hb); clear HO232; clear BK228; clear HB; have HO232 := n0_; have HO239 := n1_; have BK228 := n2_; have HB := n3_; clear n0_ n1_ n2_ n3_; clear hb ho26; obtain ⟨Ao27, co27, eo27⟩ := Kd.R_slice HO232.out; subst eo27; obtain ⟨Ao28, co28, eo28⟩ := Kd.R_slice HO239.out; subst eo28) | ((with_reducible refine gate_callee (f := 70) rfl ?_); refine gl_ 31 Try.func70 #[.slice Ao27 t230.length co27, .int .i64 t234, .slice Ao28 y237.length co28] ?_ rfl rfl rfl rfl; (with_reducible refine (impl_Cross_70.calls (fun k_ => some k_ = (.slice Ao27 t230.length co27 : Value).ownBlock) (.slice Ao27 t230.length co27) t230 t234 (fun k_ => some k_ = (.slice Ao28 y237.length co28 : Value).ownBlock) (.slice Ao28 y237.length co28) y237 t240 w _ ?side1 ?side2 ?side3 ?side4 ?side5 A23.out).mono ?_); (case side1 => repeat (first | (with_reducible first | exact HB.out | apply below_alloc | apply pw_below_drewN | apply below_drew1 | refine below_set ?_ GE228.out) | exact HB.out)); (case side2 => exact Kd.R_tight rfl HO232.out); (case side3 => exact fun k_ e_ => (HO232.out.1 k_ e_.symm).2); (case side4 => exact Kd.R_tight rfl HO239.out); (case side5 => exact fun k_ e_ => (HO239.out.1 k_ e_.symm).1.2); rintro e w29 ⟨v241, rfl, ho0, hb, hkp⟩; refine ⟨_, rfl, ?_⟩; have n0_ := Aside0.mk (blk_kept (bk_ BK228) hkp (fun hs_ => Or.elim hs_ (fun e_ => (fun e_ => (Kd.R_away HO232.out (fun _ hk => hk.1.2)) e_) e_) (fun e_ => (fun e_ => (Kd.R_away HO239.out (fun _ hk => hk.2)) e_) e_))); have n1_ := Aside0.mk (Kd.R_mono (ok' := fun k_ => k_ ≠ gb228) ho0 (fun k_ hk_ => Or.elim hk_ (fun hs_ => Or.elim hs_ (fun hs_ => fun e_ => (Kd.R_away HO232.out (fun _ hk => hk.1.2)) (by rw [← e_]; exact hs_)) (fun hs_ => fun e_ => (Kd.R_away HO239.out (fun _ hk => hk.2)) (by rw [← e_]; exact hs_))) (fun hn_ => (Kd.freshB (g := gb228) (o := .cells #[.string a1_0, .string a1_1, .string a1_2] 37 (0, 0)) (bk_ BK228) k_ hn_)))); have n2_ := Aside0.mk (hb); clear BK228; clear HB; clear HO232; clear HO239; have BK228 := n0_; have HO242 := n1_; have HB := n2_; clear n0_ n1_ n2_; (try clear hb); (try clear hkp); (try clear ho0)))
          go_meet
          case rel => exact ⟨_, (t240), (a1_0), (a1_1), (a1_2), H', ⟨by first | omega | exact Nat.le_refl _⟩, ⟨rk_ HO242⟩, ⟨bk_ BK228⟩, ⟨bl_⟩⟩
      case rest =>
        clear HC10
        try clear c1
        try clear p1
        try clear q1
        try clear hx1
        try clear c2
        try clear p2
        try clear hx2
        try clear hf2
        try clear c3
        try clear c4
        try clear c6
        try clear c7
        try clear c8
        try clear c16
        try clear c17
        try clear c17b0
        try clear c18
        try clear c18b0
        try clear c19
        try clear p19
        try clear q19
        try clear hx19
        try clear hf19
        try clear c21
        try clear hx21
        try clear hf21
        try clear hcz14_0
        try clear hcz14_1
        try clear hcz14_2
        try clear hcz20_0
        try clear hcz20_1
        try clear hcz20_2
        try clear hcz24_0
        try clear hcz24_1
        try clear hcz24_2
        try clear hfz14_0
        try clear hfz14_1
        try clear hfz14_2
        try clear hfz20_0
        try clear hfz20_1
        try clear hfz20_2
        try clear hfz24_0
        try clear hfz24_1
        try clear hfz24_2
        try clear hx19_0
        try clear hx19_1
        try clear hx19_2
        try clear hx21_0
        try clear hx21_1
        try clear hx21_2
        try clear p19
        try clear q19
        obtain ⟨kq, x5_9, x229000_9, x229001_9, x229002_9, HA, HJ9, HO_5, BK228, HB⟩ := hcut
        cases kq with
        | zero => exact absurd HA.out (by simp [impl_CrossPut.j0])
        | succ kj9 =>
          have H := HA.out
          clear HA
          simp only [impl_CrossPut.j0] at H
          replace H := Option.bind_eq_some_iff.mp H
          obtain ⟨t243, A300, H⟩ := H
          replace H : (if t243 = true then (some x5_9) else ((impl_Cross_65.f l0).bind fun t244 => (some t244))) = some r := H
          have A30 := Aside0.mk A300
          clear A300
          by_cases c31 : t243 = true
          · subst c31
            have H1 : (some x5_9) = some r := by rw [if_pos rfl] at H; exact H
            clear H
            have H := H1
            clear H1
            obtain rfl := Option.some.inj H
            obtain ⟨Ao32, co32, eo32⟩ := Kd.R_slice HO_5.out
            subst eo32
            go_wp2_with (first | ((with_reducible refine gate_callee (f := 17) rfl ?_); refine gl_ 33 Try.func17 #[.slice Ao32 x5_9.length co32] ?_ rfl rfl rfl rfl; (with_reducible refine (impl_CrossRight.calls kj9 _ _ x5_9 true _ ?side1 ?side2 A30.out).mono ?_); (case side1 => exact au11_5); (case side2 => exact (Kd.R_reads' HO_5.out).2.1); rintro e w33 ⟨rfl, hb⟩; refine ⟨_, rfl, ?_⟩; have n0_ := Aside0.mk (Kd.R_below (rk_ HO_5) hb); have n1_ := Aside0.mk (blkb_ BK228 hb); have n2_ := Aside0.mk (below_step bl_ hb); clear HO_5; clear BK228; clear HB; have HO_5 := n0_; have BK228 := n1_; have HB := n2_; clear n0_ n1_ n2_; (try clear hb); (try clear hb2); (try clear hk); (try clear hi)))
            go_ret
            exact ⟨_, au11_4, by (with_reducible repeat (first | apply Kd.R_alloc | apply Kd.R_drewN | apply Kd.R_drew)); exact Kd.R_mono HO_5.out (fun _ hk => trivial), bl_⟩
          · replace c31 := Bool.eq_false_iff.mpr c31
            subst c31
            have H1 : ((impl_Cross_65.f l0).bind fun t244 => (some t244)) = some r := by rw [if_neg (show ¬ (false = true) by decide)] at H; exact H
            clear H
            have H := H1
            clear H1
            replace H := Option.bind_eq_some_iff.mp H
            obtain ⟨t244, A340, H⟩ := H
            replace H : (some t244) = some r := H
            have A34 := Aside0.mk A340
            clear A340
            obtain rfl := Option.some.inj H
            obtain ⟨Ao35, co35, eo35⟩ := Kd.R_slice HO_5.out
            subst eo35
            go_wp2_with (first | ((with_reducible refine gate_callee (f := 17) rfl ?_); refine gl_ 33 Try.func17 #[.slice Ao35 x5_9.length co35] ?_ rfl rfl rfl rfl; (with_reducible refine (impl_CrossRight.calls kj9 _ _ x5_9 false _ ?side1 ?side2 A30.out).mono ?_); (case side1 => exact au11_5); (case side2 => exact (Kd.R_reads' HO_5.out).2.1); rintro e w36 ⟨rfl, hb⟩; refine ⟨_, rfl, ?_⟩; have n0_ := Aside0.mk (Kd.R_below (rk_ HO_5) hb); have n1_ := Aside0.mk (blkb_ BK228 hb); have n2_ := Aside0.mk (below_step bl_ hb); clear HO_5; clear BK228; clear HB; have HO_5 := n0_; have BK228 := n1_; have HB := n2_; clear n0_ n1_ n2_; (try clear hb); (try clear hb2); (try clear hk); (try clear hi)) | ((with_reducible refine gate_callee (f := 65) rfl ?_); refine gl_ 36 Try.func65 #[.slice A0 l0.length c0] ?_ rfl rfl rfl rfl; (with_reducible refine (impl_Cross_65.calls _ _ l0 t244 _ ?side1 ?side2 A34.out).mono ?_); (case side1 => exact au11_0); (case side2 => exact HC0.out); rintro e w37 ⟨v245, rfl, ho0, hb⟩; refine ⟨_, rfl, ?_⟩; have n0_ := Aside0.mk (Kd.R_elder' (rk_ HO_5) (Kd.R_base ho0) hb); have n1_ := Aside0.mk (Kd.R_lower (Kd.R_newB (Kd.R_new' ho0 (Kd.R_lt (rk_ HO_5))) (g := gb228) (o := .cells #[.string x229000_9, .string x229001_9, .string x229002_9] 37 (0, 0)) (bk_ BK228)) (below_size bl_)); have n2_ := Aside0.mk (blkb_ BK228 hb); have n3_ := Aside0.mk (below_step bl_ hb); clear HO_5; clear BK228; clear HB; have HO_5 := n0_; have HO246 := n1_; have BK228 := n2_; have HB := n3_; clear n0_ n1_ n2_ n3_; (try clear hb); (try clear hb2); (try clear hk); (try clear hi); (try clear ho0)))
            go_ret
            exact ⟨_, au11_4, by (with_reducible repeat (first | apply Kd.R_alloc | apply Kd.R_drewN | apply Kd.R_drew)); exact Kd.R_mono HO246.out (fun _ hk => trivial), bl_⟩
    · replace c8 := Bool.eq_false_iff.mpr c8
      subst c8
      have H1 : (some t230) = some r := by rw [if_neg (show ¬ (false = true) by decide)] at H; exact H
      clear H
      have H := H1
      clear H1
      obtain rfl := Option.some.inj H
      go_enter Try.func30, Try.ntmps30
      go_wp2_with (first | ((with_reducible refine gate_dst (N := 3) rfl ?_); refine box_event ?hg (N := 3) ?hd (cs := #[.string a1_0, .string a1_1, .string a1_2]) (t := 37) ?hr ?_; (case hd => rfl); (case hg => rfl); (case hr => exact hr_); intro gb228 hg w38 hbox hb; have n0_ := Aside0.mk (below_step bl_ hb); have n1_ := Aside0.mk (hbox); have n2_ := Aside0.mk (gw_ hg bl_); have n3_ := Aside0.mk (gw_ hg bl_); clear HB; have HB := n0_; have BK228 := n1_; have GW228 := n2_; have GE228 := n3_; clear n0_ n1_ n2_ n3_; clear hb hbox hg) | ((with_reducible refine gate_callee (f := 64) rfl ?_); refine gl_ 9 Try.func64 #[.slice A0 l0.length c0] ?_ rfl rfl rfl rfl; (with_reducible refine (impl_Cross_64.calls _ _ l0 false _ ?side1 ?side2 A3.out).mono ?_); (case side1 => exact au11_0); (case side2 => exact HC0.out); rintro e w' ⟨rfl, ⟨nd, rfl⟩⟩; refine ⟨_, rfl, ?_⟩) | ((with_reducible refine gate_callee (f := 65) rfl ?_); refine gl_ 11 Try.func65 #[.slice A0 l0.length c0] ?_ rfl rfl rfl rfl; (with_reducible refine (impl_Cross_65.calls _ _ l0 t230 _ ?side1 ?side2 A6.out).mono ?_); (case side1 => exact au11_6); (case side2 => exact HC0.out); rintro e w39 ⟨v231, rfl, ho0, hb⟩; refine ⟨_, rfl, ?_⟩; have n0_ := Aside0.mk (Kd.R_lower (Kd.R_newB ho0 (g := gb228) (o := .cells #[.string a1_0, .string a1_1, .string a1_2] 37 (0, 0)) (bk_ BK228)) (below_size bl_)); have n1_ := Aside0.mk (blkb_ BK228 hb); have n2_ := Aside0.mk (below_step bl_ hb); clear BK228; clear HB; have HO232 := n0_; have BK228 := n1_; have HB := n2_; clear n0_ n1_ n2_; (try clear hb); (try clear hb2); (try clear hk); (try clear hi); (try clear ho0)) | ((with_reducible refine gate_callee (f := 17) rfl ?_); refine gl_ 13 Try.func17 #[.slice A0 l0.length c0] ?_ rfl rfl rfl rfl; (with_reducible refine (impl_CrossRight.calls k _ _ l0 false _ ?side1 ?side2 A7.out).mono ?_); (case side1 => exact au11_0); (case side2 => exact HC0.out); rintro e w40 ⟨rfl, hb⟩; refine ⟨_, rfl, ?_⟩; have n0_ := Aside0.mk (Kd.R_below (rk_ HO232) hb); have n1_ := Aside0.mk (blkb_ BK228 hb); have n2_ := Aside0.mk (below_step bl_ hb); clear HO232; clear BK228; clear HB; have HO232 := n0_; have BK228 := n1_; have HB := n2_; clear n0_ n1_ n2_; (try clear hb); (try clear hb2); (try clear hk); (try clear hi)))
      go_ret
      exact ⟨_, au11_4, by (with_reducible repeat (first | apply Kd.R_alloc | apply Kd.R_drewN | apply Kd.R_drew)); exact Kd.R_mono HO232.out (fun _ hk => trivial), bl_⟩

/-- A state of type 116 at block g of W; what its slices lead to came in by w0. -/
def IsS116 (w0 W : World) (g : Nat) (f0 : List Int) (f1 : Int) (f2 : Int) (f3 : Int) : Prop := ∃ A0 c0, W.heap[g]? = some (.cells #[.slice A0 f0.length c0, .int .i64 f1, .int .u64 f2, .int .i64 f3] 116 (0, 0)) ∧ w0.heap.size ≤ g ∧ Kd.C (Kd.int .u8) w0 A0 f0.length f0
theorem IsS116.grown {w0 W : World} {g : Nat} {f0 : List Int} {f1 : Int} {f2 : Int} {f3 : Int} {W1 : World} {row : Option Nat} (h : IsS116 w0 W g f0 f1 f2 f3) (hw : W.grownBy W1 row) (hne : some g ≠ row) : IsS116 w0 W1 g f0 f1 f2 f3 := by
  obtain ⟨A0, c0, hb, hg, hr0⟩ := h
  exact ⟨A0, c0, blk_grown hb hw hne, hg, hr0⟩
theorem IsS116.own_neN {w0 W : World} {g : Nat} {f0 : List Int} {f1 : Int} {f2 : Int} {f3 : Int} {α : Type} {d : Kd α} {e : Nat} {base : Nat} {ok : Nat → Prop} {v : Value} {xs : List α} (h : IsS116 w0 W g f0 f1 f2 f3) (ho : Kd.N d e W base ok v xs) (ht : e ≠ 116) : some g ≠ v.ownBlock := by
  obtain ⟨A0, c0, hb, hg, hr0⟩ := h
  exact Kd.N_ne ho hb ht
theorem IsS116.fresh {w0 W : World} {g : Nat} {f0 : List Int} {f1 : Int} {f2 : Int} {f3 : Int} (h : IsS116 w0 W g f0 f1 f2 f3) : ∀ k, W.heap.size ≤ k → k ≠ g := by
  obtain ⟨A0, c0, hb, hg, hr0⟩ := h
  exact Kd.freshB hb
theorem IsS116.kept {w0 W : World} {g : Nat} {f0 : List Int} {f1 : Int} {f2 : Int} {f3 : Int} {W1 : World} {S : Nat → Prop} (h : IsS116 w0 W g f0 f1 f2 f3) (hk : Kept W W1 S) (hne : ¬ S g) : IsS116 w0 W1 g f0 f1 f2 f3 := by
  obtain ⟨A0, c0, hb, hg, hr0⟩ := h
  exact ⟨A0, c0, blk_kept hb hk hne, hg, hr0⟩
theorem IsS116.below {w0 W : World} {g : Nat} {f0 : List Int} {f1 : Int} {f2 : Int} {f3 : Int} {W1 : World} (h : IsS116 w0 W g f0 f1 f2 f3) (hw : Below W.heap.size W W1) : IsS116 w0 W1 g f0 f1 f2 f3 := h.grown (grown_of_below hw none) (by simp)
theorem IsS116.alloc {w0 W : World} {g : Nat} {f0 : List Int} {f1 : Int} {f2 : Int} {f3 : Int} (h : IsS116 w0 W g f0 f1 f2 f3) (o : Obj) : IsS116 w0 (W.alloc o) g f0 f1 f2 f3 := h.below (below_alloc (Below.refl _ _) o)
theorem IsS116.drewN {w0 W : World} {g : Nat} {f0 : List Int} {f1 : Int} {f2 : Int} {f3 : Int} (h : IsS116 w0 W g f0 f1 f2 f3) (m : Nat) : IsS116 w0 (W.drewN m) g f0 f1 f2 f3 := h
theorem IsS116.drew {w0 W : World} {g : Nat} {f0 : List Int} {f1 : Int} {f2 : Int} {f3 : Int} (h : IsS116 w0 W g f0 f1 f2 f3) : IsS116 w0 W.drew g f0 f1 f2 f3 := h
theorem IsS116.at_ {w0 W : World} {g : Nat} {f0 : List Int} {f1 : Int} {f2 : Int} {f3 : Int} {w' : World} {m : Nat} (hq : W.drewN m = w') (h : IsS116 w0 W g f0 f1 f2 f3) : IsS116 w0 w' g f0 f1 f2 f3 := by subst hq; exact IsS116.drewN h m
theorem IsS116.apart {w0 W : World} {g : Nat} {f0 : List Int} {f1 : Int} {f2 : Int} {f3 : Int} {α : Type} {d : Kd α} {e : Nat} {base : Nat} {ok : Nat → Prop} {v : Value} {xs : List α} (h : IsS116 w0 W g f0 f1 f2 f3) (ho : d.R e W base ok v xs) (ht : ∀ q, q ∈ e :: d.E → q ≠ 116) : d.R e W base (fun k => ok k ∧ k ≠ g) v xs := by
  obtain ⟨A0, c0, hb, hg, hr0⟩ := h
  exact Kd.R_types ho hb ht
theorem IsS116.own_ne {w0 W : World} {g : Nat} {f0 : List Int} {f1 : Int} {f2 : Int} {f3 : Int} {α : Type} {d : Kd α} {e : Nat} {base : Nat} {ok : Nat → Prop} {v : Value} {xs : List α} (h : IsS116 w0 W g f0 f1 f2 f3) (ho : d.R e W base ok v xs) (ht : e ≠ 116) : some g ≠ v.ownBlock := by
  obtain ⟨A0, c0, hb, hg, hr0⟩ := h
  exact Kd.R_ne ho hb ht
theorem IsS116.apartQ {w0 W : World} {g : Nat} {f0 : List Int} {f1 : Int} {f2 : Int} {f3 : Int} {α : Type} {d : Kd α} {e : Nat} {base : Nat} {ok : Nat → Prop} {v : Value} {xs : List α} (h : IsS116 w0 W g f0 f1 f2 f3) (ho : d.Q e W base ok v xs) (ht : ∀ q, q ∈ e :: d.E → q ≠ 116) : d.Q e W base (fun k => ok k ∧ k ≠ g) v xs := by
  obtain ⟨A0, c0, hb, hg, hr0⟩ := h
  exact Kd.Q_types ho hb ht
theorem IsS116.own_neQ {w0 W : World} {g : Nat} {f0 : List Int} {f1 : Int} {f2 : Int} {f3 : Int} {α : Type} {d : Kd α} {e : Nat} {base : Nat} {ok : Nat → Prop} {v : Value} {xs : List α} (h : IsS116 w0 W g f0 f1 f2 f3) (ho : d.Q e W base ok v xs) (ht : e ≠ 116) : some g ≠ v.ownBlock := by
  obtain ⟨A0, c0, hb, hg, hr0⟩ := h
  exact Kd.Q_ne ho hb ht
theorem IsS116.apartS {w0 W : World} {g : Nat} {f0 : List Int} {f1 : Int} {f2 : Int} {f3 : Int} {α : Type} {d : Kd α} {e : Nat} {base : Nat} {ok : Nat → Prop} {v : Value} {xs : List α} (h : IsS116 w0 W g f0 f1 f2 f3) (ho : d.S e W base ok v xs) (ht : ∀ q, q ∈ e :: d.E → q ≠ 116) : d.S e W base (fun k => ok k ∧ k ≠ g) v xs := by
  obtain ⟨A0, c0, hb, hg, hr0⟩ := h
  exact Kd.S_types ho hb ht
theorem IsS116.own_neS {w0 W : World} {g : Nat} {f0 : List Int} {f1 : Int} {f2 : Int} {f3 : Int} {α : Type} {d : Kd α} {e : Nat} {base : Nat} {ok : Nat → Prop} {v : Value} {xs : List α} (h : IsS116 w0 W g f0 f1 f2 f3) (ho : d.S e W base ok v xs) (ht : e ≠ 116) : some g ≠ v.ownBlock := by
  obtain ⟨A0, c0, hb, hg, hr0⟩ := h
  exact Kd.S_ne ho hb ht
theorem IsS116.lt {w0 W : World} {g : Nat} {f0 : List Int} {f1 : Int} {f2 : Int} {f3 : Int} (h : IsS116 w0 W g f0 f1 f2 f3) : g < W.heap.size := by
  obtain ⟨A0, c0, hb, hg, hr0⟩ := h
  exact blk_lt hb
theorem IsS116.ge {w0 W : World} {g : Nat} {f0 : List Int} {f1 : Int} {f2 : Int} {f3 : Int} (h : IsS116 w0 W g f0 f1 f2 f3) : w0.heap.size ≤ g := by
  obtain ⟨A0, c0, hb, hg, hr0⟩ := h
  exact hg
theorem IsS116.ne_blk {w0 W : World} {g : Nat} {f0 : List Int} {f1 : Int} {f2 : Int} {f3 : Int} {a : Nat} {cs : Array Value} {t : TypeId} {fr : Nat × Nat} (h : IsS116 w0 W g f0 f1 f2 f3) (hb2 : W.heap[a]? = some (.cells cs t fr)) (ht : t ≠ 116) : g ≠ a := by
  obtain ⟨A0, c0, hb, hg, hr0⟩ := h
  rintro rfl
  rw [hb] at hb2
  injection hb2 with hb2
  injection hb2 with _ ht2
  exact ht ht2.symm
theorem IsS116.far {w0 W : World} {g : Nat} {f0 : List Int} {f1 : Int} {f2 : Int} {f3 : Int} {p : Addr} (h : IsS116 w0 W g f0 f1 f2 f3) (hne : g ≠ p.block) (u : Value) : IsS116 w0 (W.setCell p u) g f0 f1 f2 f3 := by
  obtain ⟨A0, c0, hb, hg, hr0⟩ := h
  exact ⟨A0, c0, blk_far hb hne u, hg, hr0⟩
theorem cellS116_0 {W : World} {g : Nat} {A0 : Option Addr} {c0 : Nat} {f0 : List Int} {f1 : Int} {f2 : Int} {f3 : Int} (h : W.heap[g]? = some (.cells #[.slice A0 f0.length c0, .int .i64 f1, .int .u64 f2, .int .i64 f3] 116 (0, 0))) : W.cell? ⟨g, 0, none⟩ = some (.slice A0 f0.length c0) := (blk_cell h 0).trans rfl
theorem cellS116_1 {W : World} {g : Nat} {A0 : Option Addr} {c0 : Nat} {f0 : List Int} {f1 : Int} {f2 : Int} {f3 : Int} (h : W.heap[g]? = some (.cells #[.slice A0 f0.length c0, .int .i64 f1, .int .u64 f2, .int .i64 f3] 116 (0, 0))) : W.cell? ⟨g, 1, none⟩ = some (.int .i64 f1) := (blk_cell h 1).trans rfl
theorem IsS116.set_1 {w0 W : World} {g : Nat} {f0 : List Int} {f1 : Int} {f2 : Int} {f3 : Int} (h : IsS116 w0 W g f0 f1 f2 f3) (x : Int) : IsS116 w0 (W.setCell ⟨g, 1, none⟩ (.int .i64 x)) g f0 x f2 f3 := by
  obtain ⟨A0, c0, hb, hg, hr0⟩ := h
  exact ⟨A0, c0, by simpa using blk_set hb 1 (.int .i64 x), hg, hr0⟩
theorem cellS116_2 {W : World} {g : Nat} {A0 : Option Addr} {c0 : Nat} {f0 : List Int} {f1 : Int} {f2 : Int} {f3 : Int} (h : W.heap[g]? = some (.cells #[.slice A0 f0.length c0, .int .i64 f1, .int .u64 f2, .int .i64 f3] 116 (0, 0))) : W.cell? ⟨g, 2, none⟩ = some (.int .u64 f2) := (blk_cell h 2).trans rfl
theorem IsS116.set_2 {w0 W : World} {g : Nat} {f0 : List Int} {f1 : Int} {f2 : Int} {f3 : Int} (h : IsS116 w0 W g f0 f1 f2 f3) (x : Int) : IsS116 w0 (W.setCell ⟨g, 2, none⟩ (.int .u64 x)) g f0 f1 x f3 := by
  obtain ⟨A0, c0, hb, hg, hr0⟩ := h
  exact ⟨A0, c0, by simpa using blk_set hb 2 (.int .u64 x), hg, hr0⟩
theorem cellS116_3 {W : World} {g : Nat} {A0 : Option Addr} {c0 : Nat} {f0 : List Int} {f1 : Int} {f2 : Int} {f3 : Int} (h : W.heap[g]? = some (.cells #[.slice A0 f0.length c0, .int .i64 f1, .int .u64 f2, .int .i64 f3] 116 (0, 0))) : W.cell? ⟨g, 3, none⟩ = some (.int .i64 f3) := (blk_cell h 3).trans rfl
theorem IsS116.set_3 {w0 W : World} {g : Nat} {f0 : List Int} {f1 : Int} {f2 : Int} {f3 : Int} (h : IsS116 w0 W g f0 f1 f2 f3) (x : Int) : IsS116 w0 (W.setCell ⟨g, 3, none⟩ (.int .i64 x)) g f0 f1 f2 x := by
  obtain ⟨A0, c0, hb, hg, hr0⟩ := h
  exact ⟨A0, c0, by simpa using blk_set hb 3 (.int .i64 x), hg, hr0⟩
theorem IsS116.new (w0 W : World) (A0 : Option Addr) (c0 : Nat) (f0 : List Int) (f1 : Int) (f2 : Int) (f3 : Int) (hB : Below w0.heap.size w0 W) (hr0 : Kd.C (Kd.int .u8) w0 A0 f0.length f0) : IsS116 w0 (W.alloc (.cells #[.slice A0 f0.length c0, .int .i64 f1, .int .u64 f2, .int .i64 f3] 116)) W.heap.size f0 f1 f2 f3 := ⟨A0, c0, by simpa using heap_alloc_new W _, hB.size, hr0⟩

/-! ### spec_l01Source: function 71 -/
def spec_l01Source.l0 : Nat → List Int → Int → List Int → Int → Int → Int → Option (List Int × Int × Int × Int)
  | 0, _, _, _, _, _, _ => none
  | k + 1, x0, x4, x248000, x248001, x248002, x248003 => if x4 < (x0.length : Int) then (if x4 < 64 then (if 0 ≤ x4 then (spec_l01Source.l0 k x0 (wrap64 (x4 + 1)) x248000 x248001 (IntKind.u64.wrap ((Go.bits .xor .u64 x248002 (IntKind.u64.wrap (rd x0 x4))) * 1099511628211)) x248003) else (none)) else (if (wrap64 ((x0.length : Int) / 20)) > 12 then (some (x248000, x248001, x248002, 12)) else (some (x248000, x248001, x248002, wrap64 ((x0.length : Int) / 20))))) else (if (wrap64 ((x0.length : Int) / 20)) > 12 then (some (x248000, x248001, x248002, 12)) else (some (x248000, x248001, x248002, wrap64 ((x0.length : Int) / 20))))
def spec_l01Source.f (k : Nat) (l0 : List Int) : Option (List Int × Int × Int × Int) := spec_l01Source.l0 k l0 0 l0 0 88172645463325252 0
theorem spec_l01Source.mono_l : ∀ k, (∀ y0 y1 y2 y3 y4 y5, LeO (spec_l01Source.l0 k y0 y1 y2 y3 y4 y5) (spec_l01Source.l0 (k + 1) y0 y1 y2 y3 y4 y5))
  | 0 => fun _ _ _ _ _ _ r h => by simp [spec_l01Source.l0] at h
  | k + 1 => by
    have ih0 := spec_l01Source.mono_l k
    · intro y0 y1 y2 y3 y4 y5
      unfold spec_l01Source.l0
      repeat' first
      | (with_reducible exact ih0 _ _ _ _ _ _)
      | (with_reducible exact LeO.refl _)
      | (with_reducible exact LeO.none _)
      | (with_reducible refine LeO.ite ?_ ?_)
      | (with_reducible refine LeO.bind ?_ (fun _ => ?_))
      | exact ih0 _ _ _ _ _ _
      | exact LeO.none _
      | refine LeO.ite ?_ ?_
      | refine LeO.bind ?_ (fun _ => ?_)
theorem spec_l01Source.mono : ∀ a0 k, LeO (spec_l01Source.f k a0) (spec_l01Source.f (k + 1) a0) := by
  intro a0 k
  have ih0 := spec_l01Source.mono_l k
  unfold spec_l01Source.f
  repeat' first
      | (with_reducible exact ih0 _ _ _ _ _ _)
      | (with_reducible exact LeO.refl _)
      | (with_reducible exact LeO.none _)
      | (with_reducible refine LeO.ite ?_ ?_)
      | (with_reducible refine LeO.bind ?_ (fun _ => ?_))
      | exact ih0 _ _ _ _ _ _
      | exact LeO.none _
      | refine LeO.ite ?_ ?_
      | refine LeO.bind ?_ (fun _ => ?_)
def spec_l01Source.T5 : Bool × List (List Nat × List Nat) := (true, [([], []), ([], []), ([1], [1]), ([2], [2]), ([3], [3]), ([], []), ([], []), ([5, 6], [5, 6]), ([7], [7]), ([8], [8]), ([4, 9], [4, 9]), ([10], [10]), ([0, 0, 1, 2, 3, 4, 5, 6, 7, 8, 9, 10, 11], [0]), ([12, 0, 1, 2, 3, 4, 5, 6, 7, 8, 9, 10, 11], [12]), ([13, 11, 0, 1, 2, 3, 4, 5, 6, 7, 8, 9, 10, 11], [11, 13])])
def spec_l01Source.B5 : List Nat := [0, 0, 2, 6, 14, 0, 0, 96, 224, 480, 1022, 2046, 4095, 8191, 16383]
theorem spec_l01Source.tab5 : rtab .any (opsOf Try.f71 5) = spec_l01Source.T5 := by kernel_rfl
theorem spec_l01Source.bits5 : waitsOk spec_l01Source.T5.2 spec_l01Source.B5 = true := by kernel_rfl
set_option maxHeartbeats 8000000 in
set_option maxRecDepth 100000 in
theorem spec_l01Source.calls (k : Nat) (A0 : Option Addr) (c0 : Nat) (l0 : List Int) (r1 : List Int) (r2 : Int) (r3 : Int) (r4 : Int) (w0 w : World) (hB : Below w0.heap.size w0 w) (hr0 : Kd.C (Kd.int .u8) w0 A0 l0.length l0) (hc0 : l0.length ≤ c0) (h : spec_l01Source.f k l0 = some (r1, r2, r3, r4)) :
    Calls Try.prog 71 #[.slice A0 l0.length c0] w fun e w' => ∃ g_ : Nat, e = .returned (.pointer (some ⟨g_, 0, none⟩)) ∧ IsS116 w0 w' g_ r1 r2 r3 r4 ∧ Below w0.heap.size w0 w' ∧ Below w.heap.size w w' := by
  have hu116 := Try.underlying116
  have HR0 := Aside0.mk hr0
  have HC0 := Aside0.mk hc0
  clear hr0 hc0
  have HBW := Aside0.mk (Below.refl w.heap.size w)
  have HW0 := Aside0.mk hB.size
  have HB := Aside0.mk hB
  clear hB
  have H : (spec_l01Source.l0 k l0 0 l0 0 88172645463325252 0) = some (r1, r2, r3, r4) := h
  clear h
  have H' := Aside0.mk H
  clear H
  go_enter Try.func71, Try.ntmps71
  go_wp2_with (first | ((with_reducible refine gate_dst (N := 7) rfl ?_); refine box_event ?hg (N := 7) ?hd (cs := #[.slice A0 l0.length c0, .int .i64 0, .int .u64 88172645463325252, .int .i64 0]) (t := 116) ?hr ?_; (case hd => rfl); (case hg => rfl); (case hr => exact hr_); intro gb247 hg w2 hbox hb; have n0_ := Aside0.mk (below_step HBW.out hb); have n1_ := Aside0.mk (below_step bl_ hb); have n2_ := Aside0.mk (hbox); have n3_ := Aside0.mk ((by rw [hg]; exact (below_size au11_7) : w.heap.size ≤ gb247)); have n4_ := Aside0.mk ((Nat.le_trans HW0.out (by rw [hg]; exact (below_size au11_7) : w.heap.size ≤ gb247) : w0.heap.size ≤ gb247)); clear HBW; clear HB; have HBW := n0_; have HB := n1_; have BK247 := n2_; have GW247 := n3_; have GE247 := n4_; clear n0_ n1_ n2_ n3_ n4_; clear hb hbox hg))
  go_loopg [4] k (fun kq v4 w' => ∃ (x4_1 : Int) (x248002_1 : Int), v4 = .int .i64 x4_1 ∧ Aside0 (spec_l01Source.l0 kq l0 x4_1 l0 0 x248002_1 0 = some (r1, r2, r3, r4)) ∧ Aside0 (kq ≤ k) ∧ Aside0 (w'.heap[gb247]? = some (.cells #[(.slice A0 l0.length c0), .int .i64 0, .int .u64 x248002_1, .int .i64 0] 116 (0, 0))) ∧ Aside0 (Below w.heap.size w w') ∧ Aside0 (Below w0.heap.size w0 w'))
  case atStart => exact ⟨(0), (88172645463325252), er_, H', ⟨Nat.le_refl _⟩, ⟨bk_ BK247⟩, ⟨au11_1⟩, ⟨bl_⟩⟩
  case round =>
    clear H'
    try clear p2
    obtain ⟨x4_1, x248002_1, rfl, HA, HK1, BK247, HBW, HB⟩ := hrel
    cases gk with
    | zero => exact absurd HA.out (by simp [spec_l01Source.l0])
    | succ k1 =>
      have H := HA.out
      clear HA
      simp only [spec_l01Source.l0] at H
      by_cases c3 : x4_1 < (l0.length : Int)
      · rw [if_pos c3] at H
        have c3b0 : decide (x4_1 < (l0.length : Int)) = true := decide_eq_true c3
        clear c3
        by_cases c4 : x4_1 < 64
        · rw [if_pos c4] at H
          have c4b0 : decide (x4_1 < 64) = true := decide_eq_true c4
          clear c4
          by_cases c5 : 0 ≤ x4_1
          · rw [if_pos c5] at H
            have c5b0 : decide (0 ≤ x4_1) = true := decide_eq_true c5
            clear c5
            have H' := Aside0.mk H
            clear H
            try go_wp2
            have n0_ := Aside0.mk (blk_drew BK247.out)
            have n1_ := Aside0.mk (below_drew1 HB.out)
            have n2_ := Aside0.mk (below_drew1 HBW.out)
            clear BK247
            clear HB
            clear HBW
            have BK247 := n0_
            have HB := n1_
            have HBW := n2_
            clear n0_ n1_ n2_
            have p248 : 0 ≤ (x4_1 : Int) := of_decide_eq_true as_
            have q248 : x4_1 < (l0.length : Int) := of_decide_eq_true as_
            obtain ⟨ad248, e248, hx248_0⟩ := Kd.at_int HR0.out x4_1 p248 q248
            have hw248_0 := hx248_0
            cases e248
            replace hx248_0 := pw_cell_below HB.out hx248_0
            replace p248 := eq_true p248
            replace q248 := eq_true q248
            refine start_ (n := 15) (S := fun w' => w'.cell? ⟨gb247, 0, none⟩ = some (.slice (some ad248) l0.length c0) ∧ w'.cell? ⟨gb247, 1, none⟩ = some (.int .i64 0) ∧ w'.cell? ⟨gb247, 2, none⟩ = some (.int .u64 x248002_1) ∧ w'.cell? ⟨gb247, 3, none⟩ = some (.int .i64 0) ∧ w'.cell? (ad248.add (x4_1).toNat) = some (.int .u8 (rd l0 x4_1))) (ds := [14]) (bs 15 0) (by kernel_rfl) rfl rfl ⟨(blk_cell BK247.out 0).trans rfl, (blk_cell BK247.out 1).trans rfl, (blk_cell BK247.out 2).trans rfl, (blk_cell BK247.out 3).trans rfl, ((HB.out.cell (World.block_lt_of_cell? _ _ hw248_0)).trans hw248_0)⟩ (fun hHeld => ?_); refine with_tabW spec_l01Source.tab5 spec_l01Source.bits5 (fun HT_ HW_ => ?_)
            generalize wr.drew = w6 at BK247 HB HBW hx248_0 hHeld ⊢
            refine pu_ 0 18 (bs 15 1) HT_ ?_ rfl rfl
            refine pu_ 1 19 (bs 15 3) HT_ ?_ rfl rfl
            refine pu_ 2 20 (bs 15 7) HT_ ?_ rfl rfl
            refine pu_ 3 21 (bs 15 15) HT_ ?_ rfl rfl
            refine pu_ 5 23 (bs 15 47) HT_ ?_ rfl rfl
            refine pu_ 6 24 (bs 15 111) HT_ ?_ rfl rfl
            refine pu_ 7 25 (bs 15 239) HT_ ?_ rfl rfl
            refine tk_ 4 22 (bs 15 255) HT_ HW_ hHeld (by rintro w' ⟨s0, s1, s2, s3, s4⟩; go_simp; with_reducible rfl) ?_ rfl rfl
            refine tk_ 8 26 (bs 15 511) HT_ HW_ hHeld (by rintro w' ⟨s0, s1, s2, s3, s4⟩; go_simp; with_reducible rfl) ?_ rfl rfl
            refine pu_ 9 27 (bs 15 1023) HT_ ?_ rfl rfl
            refine pu_ 10 28 (bs 15 2047) HT_ ?_ rfl rfl
            refine pu_ 11 29 (bs 15 4095) HT_ ?_ rfl rfl
            refine pu_ 12 30 (bs 15 8191) HT_ ?_ rfl rfl
            refine pu_ 13 31 (bs 15 16383) HT_ ?_ rfl rfl
            refine last_ (i := 14) (N := none) (bs 15 32767) rfl rfl (one_of HT_.out (by kernel_rfl)) (by decide) (fun K hK => ?_)
            have hs7 : w6.cell? ⟨gb247, 2, none⟩ = some (.int .u64 x248002_1) := (blk_cell BK247.out 2).trans rfl
            have hfs7 := blk_frozen BK247.out 2
            refine skip_ (w1 := ?_) (by rfl) rfl ?_ ?_
            rotate_left
            · go_simp
              rfl
            refine hK.out _ _ ?_
            clear hK K
            refine done_ (done_of HT_.out (by kernel_rfl)) ?_
            try go_wp2
            go_roundg k1
            case measure => have := HK1.out; omega
            case rel => exact ⟨(wrap64 (x4_1 + 1)), (IntKind.u64.wrap ((Go.bits .xor .u64 x248002_1 (IntKind.u64.wrap (rd l0 x4_1))) * 1099511628211)), er_, H', ⟨by have := HK1.out; omega⟩, ⟨by (with_reducible repeat (first | refine blk_drewN ?_ _ | refine blk_drew ?_ | refine blk_alloc ?_ _)); refine blk_put (cs := #[.slice (some ad248) l0.length c0, .int .i64 0, .int .u64 x248002_1, .int .i64 0]) ?_ 2 _ rfl; (with_reducible repeat (first | refine blk_drewN ?_ _ | refine blk_drew ?_ | refine blk_alloc ?_ _)); exact BK247.out⟩, ⟨au11_1⟩, ⟨bl_⟩⟩
          · rw [if_neg c5] at H
            exact absurd H (by simp)
        · rw [if_neg c4] at H
          have c4b0 : decide (x4_1 < 64) = false := decide_eq_false c4
          clear c4
          by_cases c8 : (wrap64 ((l0.length : Int) / 20)) > 12
          · rw [if_pos c8] at H
            have c8b0 : decide (12 < (wrap64 ((l0.length : Int) / 20))) = true := decide_eq_true c8
            clear c8
            simp only [Option.some.injEq, Prod.mk.injEq] at H
            obtain ⟨rfl, rfl, rfl, rfl⟩ := H
            obtain ⟨hcz9_0, hcz9_1, hcz9_2, hcz9_3, hfz9_0, hfz9_1, hfz9_2, hfz9_3⟩ := cellsF4 BK247.out
            go_wp2
            go_ret
            exact ⟨_, rfl, (show IsS116 w0 _ gb247 l0 0 x248002_1 12 from ⟨_, _, au11_2, GE247.out, HR0.out⟩), bl_, au11_1⟩
          · rw [if_neg c8] at H
            have c8b0 : decide (12 < (wrap64 ((l0.length : Int) / 20))) = false := decide_eq_false c8
            clear c8
            simp only [Option.some.injEq, Prod.mk.injEq] at H
            obtain ⟨rfl, rfl, rfl, rfl⟩ := H
            obtain ⟨hcz10_0, hcz10_1, hcz10_2, hcz10_3, hfz10_0, hfz10_1, hfz10_2, hfz10_3⟩ := cellsF4 BK247.out
            go_wp2
            go_ret
            exact ⟨_, rfl, (show IsS116 w0 _ gb247 l0 0 x248002_1 (wrap64 ((l0.length : Int) / 20)) from ⟨_, _, au11_3, GE247.out, HR0.out⟩), bl_, au11_1⟩
      · rw [if_neg c3] at H
        have c3b0 : decide (x4_1 < (l0.length : Int)) = false := decide_eq_false c3
        clear c3
        by_cases c11 : (wrap64 ((l0.length : Int) / 20)) > 12
        · rw [if_pos c11] at H
          have c11b0 : decide (12 < (wrap64 ((l0.length : Int) / 20))) = true := decide_eq_true c11
          clear c11
          simp only [Option.some.injEq, Prod.mk.injEq] at H
          obtain ⟨rfl, rfl, rfl, rfl⟩ := H
          obtain ⟨hcz12_0, hcz12_1, hcz12_2, hcz12_3, hfz12_0, hfz12_1, hfz12_2, hfz12_3⟩ := cellsF4 BK247.out
          go_wp2
          go_ret
          exact ⟨_, rfl, (show IsS116 w0 _ gb247 l0 0 x248002_1 12 from ⟨_, _, au11_2, GE247.out, HR0.out⟩), bl_, au11_1⟩
        · rw [if_neg c11] at H
          have c11b0 : decide (12 < (wrap64 ((l0.length : Int) / 20))) = false := decide_eq_false c11
          clear c11
          simp only [Option.some.injEq, Prod.mk.injEq] at H
          obtain ⟨rfl, rfl, rfl, rfl⟩ := H
          obtain ⟨hcz13_0, hcz13_1, hcz13_2, hcz13_3, hfz13_0, hfz13_1, hfz13_2, hfz13_3⟩ := cellsF4 BK247.out
          go_wp2
          go_ret
          exact ⟨_, rfl, (show IsS116 w0 _ gb247 l0 0 x248002_1 (wrap64 ((l0.length : Int) / 20)) from ⟨_, _, au11_3, GE247.out, HR0.out⟩), bl_, au11_1⟩

end Go.Proofs.Ytjffakoifpldeaa.PFnCross
