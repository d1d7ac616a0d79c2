-- printed by a program of this session (wip/xp/xprint.py) out of the translation; Lean checks it
import Derived.Test.YtlghcbmkhdibdaaPFnExactIxRightx0
import Derived.Test.YtlghcbmkhdibdaaPFnExactIxRightx2
import Derived.Test.YtlghcbmkhdibdaaPFnExactIxRightx5
import Derived.Test.YtlghcbmkhdibdaaPFnExactIxRightx6
import Derived.Test.YtlghcbmkhdibdaaPFnExactIxRightx9
import Derived.Test.YtlghcbmkhdibdaaPFnExactIxRightx12
namespace Go.Proofs.Ytlghcbmkhdibdaa.PFnExactIxRight
open Go.RowKit Go.Proofs.YtlghcbmkhdibdaaW.PrintWords Go.Proofs.YtlghcbmkhdibdaaW.PrintLast Go.Proofs.YtlghcbmkhdibdaaW.PrintMore
attribute [local go_sem] max2_int min2_int max_two min_two max_three min_three max_four min_four   -- for this text's walks alone
set_option linter.unusedVariables false
set_option linter.unusedSimpArgs false

theorem au13_0 {p : Prop} (h : p := by (with_reducible repeat (first | refine blk_drewN ?_ _ | refine blk_drew ?_ | refine blk_alloc ?_ _)); refine blk_put (cs := #[.string t312, .string t313, .int .i64 t314, .slice none 0 0]) ?_ 3 _ rfl; (with_reducible repeat (first | refine blk_drewN ?_ _ | refine blk_drew ?_ | refine blk_alloc ?_ _)); refine blk_put (cs := #[.string t312, .string t313, .int .i64 0, .slice none 0 0]) ?_ 2 _ rfl; (with_reducible repeat (first | refine blk_drewN ?_ _ | refine blk_drew ?_ | refine blk_alloc ?_ _)); refine blk_put (cs := #[.string t312, .string (⟨#[]⟩ : ByteArray), .int .i64 0, .slice none 0 0]) ?_ 1 _ rfl; (with_reducible repeat (first | refine blk_drewN ?_ _ | refine blk_drew ?_ | refine blk_alloc ?_ _)); refine blk_put (cs := #[.string (⟨#[]⟩ : ByteArray), .string (⟨#[]⟩ : ByteArray), .int .i64 0, .slice none 0 0]) ?_ 0 _ rfl; (with_reducible repeat (first | refine blk_drewN ?_ _ | refine blk_drew ?_ | refine blk_alloc ?_ _)); exact BK318.out) : p := h
theorem au13_1 {p : Prop} (h : p := by repeat (first | exact (Kd.C_below HR0_3.out HB.out) | (with_reducible refine Kd.C_alloc ?_ _) | (with_reducible refine Kd.C_drewN ?_ _) | (with_reducible refine Kd.C_drew ?_))) : p := h
theorem au13_2 {p : Prop} (h : p := by (with_reducible repeat (first | refine blk_drewN ?_ _ | refine blk_drew ?_ | refine blk_alloc ?_ _)); refine blk_far ?_ NB303_318.out _; (with_reducible repeat (first | refine blk_drewN ?_ _ | refine blk_drew ?_ | refine blk_alloc ?_ _)); refine blk_far ?_ NB303_318.out _; (with_reducible repeat (first | refine blk_drewN ?_ _ | refine blk_drew ?_ | refine blk_alloc ?_ _)); refine blk_far ?_ NB303_318.out _; (with_reducible repeat (first | refine blk_drewN ?_ _ | refine blk_drew ?_ | refine blk_alloc ?_ _)); refine blk_far ?_ NB303_318.out _; (with_reducible repeat (first | refine blk_drewN ?_ _ | refine blk_drew ?_ | refine blk_alloc ?_ _)); exact BK303.out) : p := h
theorem au13_3 {p : Prop} (h : p := by (with_reducible repeat (first | apply Kd.R_alloc | apply Kd.R_drewN | apply Kd.R_drew)); exact (Kd.R_mono (Kd.R_far (p := ⟨gb318, 3, none⟩) (Kd.R_far (p := ⟨gb318, 2, none⟩) (Kd.R_far (p := ⟨gb318, 1, none⟩) (Kd.R_far (p := ⟨gb318, 0, none⟩) (Kd.R_types HO317.out BK318.out (by decide)) (fun _ hk => hk.2) (.string t312)) (fun _ hk => hk.2) (.string t313)) (fun _ hk => hk.2) (.int .i64 t314)) (fun _ hk => hk.2) (.slice Ao24 t315.length co24)) (fun _ h_ => h_.1))) : p := h
theorem au13_4 {p : Prop} (h : p := by (with_reducible repeat (first | apply Kd.R_alloc | apply Kd.R_drewN | apply Kd.R_drew)); exact (Kd.R_mono (Kd.R_far (p := ⟨gb318, 3, none⟩) (Kd.R_far (p := ⟨gb318, 2, none⟩) (Kd.R_far (p := ⟨gb318, 1, none⟩) (Kd.R_far (p := ⟨gb318, 0, none⟩) (Kd.R_types HO317.out BK318.out (by decide)) (fun _ hk => hk.2) (.string t312)) (fun _ hk => hk.2) (.string t313)) (fun _ hk => hk.2) (.int .i64 t314)) (fun _ hk => hk.2) (.slice Ao41 t315.length co41)) (fun _ h_ => h_.1))) : p := h
theorem au13_5 {p : Prop} (h : p := by (with_reducible repeat (first | apply Kd.R_alloc | apply Kd.R_drewN | apply Kd.R_drew)); exact (Kd.R_mono (Kd.R_far (p := ⟨gb318, 3, none⟩) (Kd.R_far (p := ⟨gb318, 2, none⟩) (Kd.R_far (p := ⟨gb318, 1, none⟩) (Kd.R_far (p := ⟨gb318, 0, none⟩) (Kd.R_types HO317.out BK318.out (by decide)) (fun _ hk => hk.2) (.string t312)) (fun _ hk => hk.2) (.string t313)) (fun _ hk => hk.2) (.int .i64 t314)) (fun _ hk => hk.2) (.slice Ao59 t315.length co59)) (fun _ h_ => h_.1))) : p := h
theorem au13_6 {p : Prop} (h : p := by repeat (first | exact (Kd.R_reads' HO310.out).2.2 | (with_reducible refine Kd.C_alloc ?_ _) | (with_reducible refine Kd.C_drewN ?_ _) | (with_reducible refine Kd.C_drew ?_))) : p := h
theorem au13_7 {p : Prop} (h : p := by first | rfl | (simp [errW_none, errW_some] <;> rfl) | (simp [*, errW_none, errW_some] <;> rfl)) : p := h
theorem au13_8 {p : Prop} (h : p := by repeat (first | exact (Kd.R_reads' HO317.out).2.2 | (with_reducible refine Kd.C_alloc ?_ _) | (with_reducible refine Kd.C_drewN ?_ _) | (with_reducible refine Kd.C_drew ?_))) : p := h
theorem au13_9 {p : Prop} (h : p := by repeat (first | exact (Kd.R_reads' HO325.out).2.2 | (with_reducible refine Kd.C_alloc ?_ _) | (with_reducible refine Kd.C_drewN ?_ _) | (with_reducible refine Kd.C_drew ?_))) : p := h
theorem au13_10 {p : Prop} (h : p := by exact (Kd.R_reads' HO317.out).2.1) : p := h

/-! ### laws_FnExactIxRight: function 7 -/
def laws_FnExactIxRight.f (k : Nat) (a0_0 : ByteArray) (a0_1 : ByteArray) (a0_2 : Int) (l0_3 : List (S138)) : Option (Bool) := (laws_szInterchange.f k a0_0 a0_1 a0_2 l0_3 1048576).bind fun t304 => (if t304 < 0 then (some true) else ((laws_toInterchange.f k a0_0 a0_1 a0_2 l0_3).bind fun bt305 => ((spec_IxRight.f k bt305.1 bt305.2.1 bt305.2.2.1 bt305.2.2.2).bind fun t311 => ((laws_toInterchange.f k a0_0 a0_1 a0_2 l0_3).bind fun bt312 => ((impl_IxRight.f k bt312.1 bt312.2.1 bt312.2.2.1 bt312.2.2.2).bind fun t319 => (if (t319 != t311) = true then (some false) else ((laws_toInterchange.f k a0_0 a0_1 a0_2 l0_3).bind fun bt320 => ((laws_eqInterchange.f k bt312.1 bt312.2.1 bt312.2.2.1 bt312.2.2.2 bt320.1 bt320.2.1 bt320.2.2.1 bt320.2.2.2).bind fun t326 => (if t326 = true then (some true) else (some false))))))))))
theorem laws_FnExactIxRight.mono : ∀ a0 a1 a2 a3 k, LeO (laws_FnExactIxRight.f k a0 a1 a2 a3) (laws_FnExactIxRight.f (k + 1) a0 a1 a2 a3) := by
  intro a0 a1 a2 a3 k
  unfold laws_FnExactIxRight.f
  repeat' first
      | (with_reducible exact impl_IxRight.mono _ _ _ _ _)
      | (with_reducible exact laws_eqInterchange.mono _ _ _ _ _ _ _ _ _)
      | (with_reducible exact laws_szInterchange.mono _ _ _ _ _ _)
      | (with_reducible exact laws_toInterchange.mono _ _ _ _ _)
      | (with_reducible exact spec_IxRight.mono _ _ _ _ _)
      | (with_reducible exact LeO.refl _)
      | (with_reducible exact LeO.none _)
      | (with_reducible refine LeO.ite ?_ ?_)
      | (with_reducible refine LeO.bind ?_ (fun _ => ?_))
      | exact impl_IxRight.mono _ _ _ _ _
      | exact laws_eqInterchange.mono _ _ _ _ _ _ _ _ _
      | exact laws_szInterchange.mono _ _ _ _ _ _
      | exact laws_toInterchange.mono _ _ _ _ _
      | exact spec_IxRight.mono _ _ _ _ _
      | exact LeO.none _
      | refine LeO.ite ?_ ?_
      | refine LeO.bind ?_ (fun _ => ?_)
set_option maxHeartbeats 8000000 in
set_option maxRecDepth 100000 in
theorem laws_FnExactIxRight.calls (k : Nat) (a0_0 : ByteArray) (a0_1 : ByteArray) (a0_2 : Int) (A0_3 : Option Addr) (c0_3 : Nat) (l0_3 : List (S138)) (r : Bool) (w : World) (hr0_3 : Kd.C k138 w A0_3 l0_3.length l0_3) (hc0_3 : l0_3.length ≤ c0_3) (h : laws_FnExactIxRight.f k a0_0 a0_1 a0_2 l0_3 = some r) :
    Calls Try.prog 7 #[.agg #[.string a0_0, .string a0_1, .int .i64 a0_2, .slice A0_3 l0_3.length c0_3]] w fun e w' => e = .returned (.bool r) ∧ Below w.heap.size w w' := by
  have hu59 := Try.underlying59
  have hu64 := Try.underlying64
  have HR0_3 := Aside0.mk hr0_3
  have HC0_3 := Aside0.mk hc0_3
  clear hr0_3 hc0_3
  have HB := Aside0.mk (Below.refl w.heap.size w)
  have H : ((laws_szInterchange.f k a0_0 a0_1 a0_2 l0_3 1048576).bind fun t304 => (if t304 < 0 then (some true) else ((laws_toInterchange.f k a0_0 a0_1 a0_2 l0_3).bind fun bt305 => ((spec_IxRight.f k bt305.1 bt305.2.1 bt305.2.2.1 bt305.2.2.2).bind fun t311 => ((laws_toInterchange.f k a0_0 a0_1 a0_2 l0_3).bind fun bt312 => ((impl_IxRight.f k bt312.1 bt312.2.1 bt312.2.2.1 bt312.2.2.2).bind fun t319 => (if (t319 != t311) = true then (some false) else ((laws_toInterchange.f k a0_0 a0_1 a0_2 l0_3).bind fun bt320 => ((laws_eqInterchange.f k bt312.1 bt312.2.1 bt312.2.2.1 bt312.2.2.2 bt320.1 bt320.2.1 bt320.2.2.1 bt320.2.2.2).bind fun t326 => (if t326 = true then (some true) else (some false))))))))))) = some r := h
  clear h
  replace H := Option.bind_eq_some_iff.mp H
  obtain ⟨t304, A20, H⟩ := H
  replace H : (if t304 < 0 then (some true) else ((laws_toInterchange.f k a0_0 a0_1 a0_2 l0_3).bind fun bt305 => ((spec_IxRight.f k bt305.1 bt305.2.1 bt305.2.2.1 bt305.2.2.2).bind fun t311 => ((laws_toInterchange.f k a0_0 a0_1 a0_2 l0_3).bind fun bt312 => ((impl_IxRight.f k bt312.1 bt312.2.1 bt312.2.2.1 bt312.2.2.2).bind fun t319 => (if (t319 != t311) = true then (some false) else ((laws_toInterchange.f k a0_0 a0_1 a0_2 l0_3).bind fun bt320 => ((laws_eqInterchange.f k bt312.1 bt312.2.1 bt312.2.2.1 bt312.2.2.2 bt320.1 bt320.2.1 bt320.2.2.1 bt320.2.2.2).bind fun t326 => (if t326 = true then (some true) else (some false)))))))))) = some r := H
  have A2 := Aside0.mk A20
  clear A20
  by_cases c3 : t304 < 0
  · rw [if_pos c3] at H
    have c3b0 : decide (t304 < 0) = true := decide_eq_true c3
    clear c3
    obtain rfl := Option.some.inj H
    go_enter Try.func7, Try.ntmps7
    go_wp2_with (first | ((with_reducible refine gate_dst (N := 1) rfl ?_); refine box_event ?hg (N := 1) ?hd (cs := #[.string a0_0, .string a0_1, .int .i64 a0_2, .slice A0_3 l0_3.length c0_3]) (t := 59) ?hr ?_; (case hd => rfl); (case hg => rfl); (case hr => exact hr_); intro gb303 hg w4 hbox hb; have n0_ := Aside0.mk (below_step bl_ hb); have n1_ := Aside0.mk (hbox); have n2_ := Aside0.mk (gw_ hg bl_); have n3_ := Aside0.mk (gw_ hg bl_); clear HB; have HB := n0_; have BK303 := n1_; have GW303 := n2_; have GE303 := n3_; clear n0_ n1_ n2_ n3_; clear hb hbox hg; obtain ⟨hcz5_0, hcz5_1, hcz5_2, hcz5_3, hfz5_0, hfz5_1, hfz5_2, hfz5_3⟩ := cellsF4 BK303.out) | ((with_reducible refine gate_callee (f := 24) rfl ?_); refine gl_ 9 Try.func24 #[.agg #[.string a0_0, .string a0_1, .int .i64 a0_2, .slice A0_3 l0_3.length c0_3], .int .i64 1048576] ?_ rfl rfl rfl rfl; (with_reducible refine (laws_szInterchange.calls k a0_0 a0_1 a0_2 _ _ l0_3 1048576 t304 _ ?side1 ?side2 A2.out).mono ?_); (case side1 => exact au13_1); (case side2 => exact HC0_3.out); rintro e w6 ⟨rfl, hb⟩; refine ⟨_, rfl, ?_⟩; have n0_ := Aside0.mk (blkb_ BK303 hb); have n1_ := Aside0.mk (below_step bl_ hb); clear BK303; clear HB; have BK303 := n0_; have HB := n1_; clear n0_ n1_; (try clear hb); (try clear hb2); (try clear hk); (try clear hi)))
    go_ret
    exact ⟨au13_7, bl_⟩
  · rw [if_neg c3] at H
    have c3b0 : decide (t304 < 0) = false := decide_eq_false c3
    clear c3
    replace H := Option.bind_eq_some_iff.mp H
    obtain ⟨⟨t305, t306, t307, t308⟩, A70, H⟩ := H
    replace H : ((spec_IxRight.f k t305 t306 t307 t308).bind fun t311 => ((laws_toInterchange.f k a0_0 a0_1 a0_2 l0_3).bind fun bt312 => ((impl_IxRight.f k bt312.1 bt312.2.1 bt312.2.2.1 bt312.2.2.2).bind fun t319 => (if (t319 != t311) = true then (some false) else ((laws_toInterchange.f k a0_0 a0_1 a0_2 l0_3).bind fun bt320 => ((laws_eqInterchange.f k bt312.1 bt312.2.1 bt312.2.2.1 bt312.2.2.2 bt320.1 bt320.2.1 bt320.2.2.1 bt320.2.2.2).bind fun t326 => (if t326 = true then (some true) else (some false)))))))) = some r := H
    have A7 := Aside0.mk A70
    clear A70
    replace H := Option.bind_eq_some_iff.mp H
    obtain ⟨t311, A80, H⟩ := H
    replace H : ((laws_toInterchange.f k a0_0 a0_1 a0_2 l0_3).bind fun bt312 => ((impl_IxRight.f k bt312.1 bt312.2.1 bt312.2.2.1 bt312.2.2.2).bind fun t319 => (if (t319 != t311) = true then (some false) else ((laws_toInterchange.f k a0_0 a0_1 a0_2 l0_3).bind fun bt320 => ((laws_eqInterchange.f k bt312.1 bt312.2.1 bt312.2.2.1 bt312.2.2.2 bt320.1 bt320.2.1 bt320.2.2.1 bt320.2.2.2).bind fun t326 => (if t326 = true then (some true) else (some false))))))) = some r := H
    have A8 := Aside0.mk A80
    clear A80
    replace H := Option.bind_eq_some_iff.mp H
    obtain ⟨⟨t312, t313, t314, t315⟩, A90, H⟩ := H
    replace H : ((impl_IxRight.f k t312 t313 t314 t315).bind fun t319 => (if (t319 != t311) = true then (some false) else ((laws_toInterchange.f k a0_0 a0_1 a0_2 l0_3).bind fun bt320 => ((laws_eqInterchange.f k t312 t313 t314 t315 bt320.1 bt320.2.1 bt320.2.2.1 bt320.2.2.2).bind fun t326 => (if t326 = true then (some true) else (some false)))))) = some r := H
    have A9 := Aside0.mk A90
    clear A90
    replace H := Option.bind_eq_some_iff.mp H
    obtain ⟨t319, A100, H⟩ := H
    replace H : (if (t319 != t311) = true then (some false) else ((laws_toInterchange.f k a0_0 a0_1 a0_2 l0_3).bind fun bt320 => ((laws_eqInterchange.f k t312 t313 t314 t315 bt320.1 bt320.2.1 bt320.2.2.1 bt320.2.2.2).bind fun t326 => (if t326 = true then (some true) else (some false))))) = some r := H
    have A10 := Aside0.mk A100
    clear A100
    by_cases c11 : (t319 != t311) = true
    · rw [if_pos c11] at H
      have c11b0 : (t319 != t311) = true := c11
      (try (have c11b1 : decide (t319 = t311) = false := by simpa using c11))
      (try (have c11b2 : (t319 == t311) = false := by simpa using c11))
      (try (have c11b3 : ¬ (t319 = t311) := by simpa using c11))
      clear c11
      obtain rfl := Option.some.inj H
      go_enter Try.func7, Try.ntmps7
      go_wp2_with (first | ((with_reducible refine gate_dst (N := 1) rfl ?_); refine box_event ?hg (N := 1) ?hd (cs := #[.string a0_0, .string a0_1, .int .i64 a0_2, .slice A0_3 l0_3.length c0_3]) (t := 59) ?hr ?_; (case hd => rfl); (case hg => rfl); (case hr => exact hr_); intro gb303 hg w12 hbox hb; have n0_ := Aside0.mk (below_step bl_ hb); have n1_ := Aside0.mk (hbox); have n2_ := Aside0.mk (gw_ hg bl_); have n3_ := Aside0.mk (gw_ hg bl_); clear HB; have HB := n0_; have BK303 := n1_; have GW303 := n2_; have GE303 := n3_; clear n0_ n1_ n2_ n3_; clear hb hbox hg; obtain ⟨hcz13_0, hcz13_1, hcz13_2, hcz13_3, hfz13_0, hfz13_1, hfz13_2, hfz13_3⟩ := cellsF4 BK303.out) | ((with_reducible refine gate_callee (f := 24) rfl ?_); refine gl_ 9 Try.func24 #[.agg #[.string a0_0, .string a0_1, .int .i64 a0_2, .slice A0_3 l0_3.length c0_3], .int .i64 1048576] ?_ rfl rfl rfl rfl; (with_reducible refine (laws_szInterchange.calls k a0_0 a0_1 a0_2 _ _ l0_3 1048576 t304 _ ?side1 ?side2 A2.out).mono ?_); (case side1 => exact au13_1); (case side2 => exact HC0_3.out); rintro e w14 ⟨rfl, hb⟩; refine ⟨_, rfl, ?_⟩; have n0_ := Aside0.mk (blkb_ BK303 hb); have n1_ := Aside0.mk (below_step bl_ hb); clear BK303; clear HB; have BK303 := n0_; have HB := n1_; clear n0_ n1_; (try clear hb); (try clear hb2); (try clear hk); (try clear hi); obtain ⟨hcz15_0, hcz15_1, hcz15_2, hcz15_3, hfz15_0, hfz15_1, hfz15_2, hfz15_3⟩ := cellsF4 BK303.out) | ((with_reducible refine gate_callee (f := 26) rfl ?_); refine gl_ 13 Try.func26 #[.agg #[.string a0_0, .string a0_1, .int .i64 a0_2, .slice A0_3 l0_3.length c0_3]] ?_ rfl rfl rfl rfl; (with_reducible refine (laws_toInterchange.calls k a0_0 a0_1 a0_2 _ _ l0_3 t305 t306 t307 t308 _ ?side1 ?side2 A7.out).mono ?_); (case side1 => exact au13_1); (case side2 => exact HC0_3.out); rintro e w16 ⟨v309, rfl, ho0, hb⟩; refine ⟨_, rfl, ?_⟩; have n0_ := Aside0.mk (Kd.R_lower ho0 (below_size bl_)); have n1_ := Aside0.mk (blkb_ BK303 hb); have n2_ := Aside0.mk (below_step bl_ hb); clear BK303; clear HB; have HO310 := n0_; have BK303 := n1_; have HB := n2_; clear n0_ n1_ n2_; (try clear hb); (try clear hb2); (try clear hk); (try clear hi); (try clear ho0); obtain ⟨Ao17, co17, eo17⟩ := Kd.R_slice HO310.out; subst eo17) | ((with_reducible refine gate_callee (f := 25) rfl ?_); refine gl_ 14 Try.func25 #[.agg #[.string t305, .string t306, .int .i64 t307, .slice Ao17 t308.length co17]] ?_ rfl rfl rfl rfl; (with_reducible refine (spec_IxRight.calls k t305 t306 t307 _ _ t308 t311 _ ?side1 ?side2 A8.out).mono ?_); (case side1 => exact au13_6); (case side2 => exact (Kd.R_reads' HO310.out).2.1); rintro e w18 ⟨rfl, hb⟩; refine ⟨_, rfl, ?_⟩; have n0_ := Aside0.mk (Kd.R_below (rk_ HO310) hb); have n1_ := Aside0.mk (blkb_ BK303 hb); have n2_ := Aside0.mk (below_step bl_ hb); clear HO310; clear BK303; clear HB; have HO310 := n0_; have BK303 := n1_; have HB := n2_; clear n0_ n1_ n2_; (try clear hb); (try clear hb2); (try clear hk); (try clear hi); obtain ⟨hcz19_0, hcz19_1, hcz19_2, hcz19_3, hfz19_0, hfz19_1, hfz19_2, hfz19_3⟩ := cellsF4 BK303.out) | ((with_reducible refine gate_callee (f := 26) rfl ?_); refine gl_ 16 Try.func26 #[.agg #[.string a0_0, .string a0_1, .int .i64 a0_2, .slice A0_3 l0_3.length c0_3]] ?_ rfl rfl rfl rfl; (with_reducible refine (laws_toInterchange.calls k a0_0 a0_1 a0_2 _ _ l0_3 t312 t313 t314 t315 _ ?side1 ?side2 A9.out).mono ?_); (case side1 => exact au13_1); (case side2 => exact HC0_3.out); rintro e w20 ⟨v316, rfl, ho0, hb⟩; refine ⟨_, rfl, ?_⟩; have n0_ := Aside0.mk (Kd.R_elder' (rk_ HO310) (Kd.R_base ho0) hb); have n1_ := Aside0.mk (Kd.R_lower (Kd.R_new' ho0 (Kd.R_lt (rk_ HO310))) (below_size bl_)); have n2_ := Aside0.mk (blkb_ BK303 hb); have n3_ := Aside0.mk (below_step bl_ hb); clear HO310; clear BK303; clear HB; have HO310 := n0_; have HO317 := n1_; have BK303 := n2_; have HB := n3_; clear n0_ n1_ n2_ n3_; (try clear hb); (try clear hb2); (try clear hk); (try clear hi); (try clear ho0)) | ((with_reducible refine gate_dst (N := 5) rfl ?_); refine box_event ?hg (N := 5) ?hd (cs := #[.string (⟨#[]⟩ : ByteArray), .string (⟨#[]⟩ : ByteArray), .int .i64 0, .slice none 0 0]) (t := 64) ?hr ?_; (case hd => rfl); (case hg => rfl); (case hr => exact hr_); intro gb318 hg w21 hbox hb; have n0_ := Aside0.mk (Kd.R_below (rk_ HO310) hb); have n1_ := Aside0.mk (Kd.R_below (rk_ HO317) hb); have n2_ := Aside0.mk (blkb_ BK303 hb); have n3_ := Aside0.mk (below_step bl_ hb); have n4_ := Aside0.mk (hbox); have n5_ := Aside0.mk (gw_ hg bl_); have n6_ := Aside0.mk (gw_ hg bl_); have n7_ := Aside0.mk (gn_ hg (blkl_ BK303)); have n8_ := Aside0.mk (gm_ hg (blkl_ BK303)); clear HO310; clear HO317; clear BK303; clear HB; have HO310 := n0_; have HO317 := n1_; have BK303 := n2_; have HB := n3_; have BK318 := n4_; have GW318 := n5_; have GE318 := n6_; have NB303_318 := n7_; have NB318_303 := n8_; clear n0_ n1_ n2_ n3_ n4_ n5_ n6_ n7_ n8_; clear hb hbox hg; have hnb22 := NB318_303.out; have hnc22 := NB303_318.out; obtain ⟨hcz23_0, hcz23_1, hcz23_2, hcz23_3, hfz23_0, hfz23_1, hfz23_2, hfz23_3⟩ := cellsF4 BK318.out; obtain ⟨Ao24, co24, eo24⟩ := Kd.R_slice HO317.out; subst eo24) | ((with_reducible refine gate_callee (f := 27) rfl ?_); refine gl_ 18 Try.func27 #[.agg #[.string t312, .string t313, .int .i64 t314, .slice Ao24 t315.length co24]] ?_ rfl rfl rfl rfl; (with_reducible refine (impl_IxRight.calls k t312 t313 t314 _ _ t315 t319 _ ?side1 ?side2 A10.out).mono ?_); (case side1 => refine (Kd.R_reads' (e := 102) (base := w.heap.size) (ok := fun k_ => (True ∧ some k_ ≠ (.slice Ao17 t308.length co17 : Value).ownBlock)) (n := t315.length) (c := co24) ?_).2.2; exact au13_3); (case side2 => exact au13_10); rintro e w25 ⟨rfl, hb⟩; refine ⟨_, rfl, ?_⟩; have n0_ := Aside0.mk (Kd.R_below (by (with_reducible repeat (first | apply Kd.R_alloc | apply Kd.R_drewN | apply Kd.R_drew)); exact (Kd.R_mono (Kd.R_far (p := ⟨gb318, 3, none⟩) (Kd.R_far (p := ⟨gb318, 2, none⟩) (Kd.R_far (p := ⟨gb318, 1, none⟩) (Kd.R_far (p := ⟨gb318, 0, none⟩) (Kd.R_types HO310.out BK318.out (by decide)) (fun _ hk => hk.2) (.string t312)) (fun _ hk => hk.2) (.string t313)) (fun _ hk => hk.2) (.int .i64 t314)) (fun _ hk => hk.2) (.slice Ao24 t315.length co24)) (fun _ h_ => h_.1))) hb); have n1_ := Aside0.mk (Kd.R_below au13_3 hb); have n2_ := Aside0.mk (blk_below (g := gb303) (o := .cells #[.string a0_0, .string a0_1, .int .i64 a0_2, .slice A0_3 l0_3.length c0_3] 59 (0, 0)) au13_2 hb); have n3_ := Aside0.mk (blk_below (g := gb318) (o := .cells #[.string t312, .string t313, .int .i64 t314, .slice Ao24 t315.length co24] 64 (0, 0)) au13_0 hb); have n4_ := Aside0.mk (below_step bl_ hb); clear HO310; clear HO317; clear BK303; clear BK318; clear HB; have HO310 := n0_; have HO317 := n1_; have BK303 := n2_; have BK318 := n3_; have HB := n4_; clear n0_ n1_ n2_ n3_ n4_; (try clear hb); (try clear hb2); (try clear hk); (try clear hi)))
      go_ret
      exact ⟨au13_7, bl_⟩
    · rw [if_neg c11] at H
      have c11b0 : (t319 != t311) = false := by simpa using c11
      (try (have c11b1 : decide (t319 = t311) = true := by simpa using c11))
      (try (have c11b2 : (t319 == t311) = true := by simpa using c11))
      clear c11
      replace H := Option.bind_eq_some_iff.mp H
      obtain ⟨⟨t320, t321, t322, t323⟩, A260, H⟩ := H
      replace H : ((laws_eqInterchange.f k t312 t313 t314 t315 t320 t321 t322 t323).bind fun t326 => (if t326 = true then (some true) else (some false))) = some r := H
      have A26 := Aside0.mk A260
      clear A260
      replace H := Option.bind_eq_some_iff.mp H
      obtain ⟨t326, A270, H⟩ := H
      replace H : (if t326 = true then (some true) else (some false)) = some r := H
      have A27 := Aside0.mk A270
      clear A270
      by_cases c28 : t326 = true
      · subst c28
        have H1 : (some true) = some r := by rw [if_pos rfl] at H; exact H
        clear H
        have H := H1
        clear H1
        obtain rfl := Option.some.inj H
        go_enter Try.func7, Try.ntmps7
        try go_wp2_with (first | ((with_reducible refine gate_dst (N := 1) rfl ?_); refine box_event ?hg (N := 1) ?hd (cs := #[.string a0_0, .string a0_1, .int .i64 a0_2, .slice A0_3 l0_3.length c0_3]) (t := 59) ?hr ?_; (case hd => rfl); (case hg => rfl); (case hr => exact hr_); intro gb303 hg w29 hbox hb; have n0_ := Aside0.mk (below_step bl_ hb); have n1_ := Aside0.mk (hbox); have n2_ := Aside0.mk (gw_ hg bl_); have n3_ := Aside0.mk (gw_ hg bl_); clear HB; have HB := n0_; have BK303 := n1_; have GW303 := n2_; have GE303 := n3_; clear n0_ n1_ n2_ n3_; clear hb hbox hg; obtain ⟨hcz30_0, hcz30_1, hcz30_2, hcz30_3, hfz30_0, hfz30_1, hfz30_2, hfz30_3⟩ := cellsF4 BK303.out) | ((with_reducible refine gate_callee (f := 24) rfl ?_); refine gl_ 9 Try.func24 #[.agg #[.string a0_0, .string a0_1, .int .i64 a0_2, .slice A0_3 l0_3.length c0_3], .int .i64 1048576] ?_ rfl rfl rfl rfl; (with_reducible refine (laws_szInterchange.calls k a0_0 a0_1 a0_2 _ _ l0_3 1048576 t304 _ ?side1 ?side2 A2.out).mono ?_); (case side1 => exact au13_1); (case side2 => exact HC0_3.out); rintro e w31 ⟨rfl, hb⟩; refine ⟨_, rfl, ?_⟩; have n0_ := Aside0.mk (blkb_ BK303 hb); have n1_ := Aside0.mk (below_step bl_ hb); clear BK303; clear HB; have BK303 := n0_; have HB := n1_; clear n0_ n1_; (try clear hb); (try clear hb2); (try clear hk); (try clear hi); obtain ⟨hcz32_0, hcz32_1, hcz32_2, hcz32_3, hfz32_0, hfz32_1, hfz32_2, hfz32_3⟩ := cellsF4 BK303.out) | ((with_reducible refine gate_callee (f := 26) rfl ?_); refine gl_ 13 Try.func26 #[.agg #[.string a0_0, .string a0_1, .int .i64 a0_2, .slice A0_3 l0_3.length c0_3]] ?_ rfl rfl rfl rfl; (with_reducible refine (laws_toInterchange.calls k a0_0 a0_1 a0_2 _ _ l0_3 t305 t306 t307 t308 _ ?side1 ?side2 A7.out).mono ?_); (case side1 => exact au13_1); (case side2 => exact HC0_3.out); rintro e w33 ⟨v309, rfl, ho0, hb⟩; refine ⟨_, rfl, ?_⟩; have n0_ := Aside0.mk (Kd.R_lower ho0 (below_size bl_)); have n1_ := Aside0.mk (blkb_ BK303 hb); have n2_ := Aside0.mk (below_step bl_ hb); clear BK303; clear HB; have HO310 := n0_; have BK303 := n1_; have HB := n2_; clear n0_ n1_ n2_; (try clear hb); (try clear hb2); (try clear hk); (try clear hi); (try clear ho0); obtain ⟨Ao34, co34, eo34⟩ := Kd.R_slice HO310.out; subst eo34) | ((with_reducible refine gate_callee (f := 25) rfl ?_); refine gl_ 14 Try.func25 #[.agg #[.string t305, .string t306, .int .i64 t307, .slice Ao34 t308.length co34]] ?_ rfl rfl rfl rfl; (with_reducible refine (spec_IxRight.calls k t305 t306 t307 _ _ t308 t311 _ ?side1 ?side2 A8.out).mono ?_); (case side1 => exact au13_6); (case side2 => exact (Kd.R_reads' HO310.out).2.1); rintro e w35 ⟨rfl, hb⟩; refine ⟨_, rfl, ?_⟩; have n0_ := Aside0.mk (Kd.R_below (rk_ HO310) hb); have n1_ := Aside0.mk (blkb_ BK303 hb); have n2_ := Aside0.mk (below_step bl_ hb); clear HO310; clear BK303; clear HB; have HO310 := n0_; have BK303 := n1_; have HB := n2_; clear n0_ n1_ n2_; (try clear hb); (try clear hb2); (try clear hk); (try clear hi); obtain ⟨hcz36_0, hcz36_1, hcz36_2, hcz36_3, hfz36_0, hfz36_1, hfz36_2, hfz36_3⟩ := cellsF4 BK303.out) | ((with_reducible refine gate_callee (f := 26) rfl ?_); refine gl_ 16 Try.func26 #[.agg #[.string a0_0, .string a0_1, .int .i64 a0_2, .slice A0_3 l0_3.length c0_3]] ?_ rfl rfl rfl rfl; (with_reducible refine (laws_toInterchange.calls k a0_0 a0_1 a0_2 _ _ l0_3 t312 t313 t314 t315 _ ?side1 ?side2 A9.out).mono ?_); (case side1 => exact au13_1); (case side2 => exact HC0_3.out); rintro e w37 ⟨v316, rfl, ho0, hb⟩; refine ⟨_, rfl, ?_⟩; have n0_ := Aside0.mk (Kd.R_elder' (rk_ HO310) (Kd.R_base ho0) hb); have n1_ := Aside0.mk (Kd.R_lower (Kd.R_new' ho0 (Kd.R_lt (rk_ HO310))) (below_size bl_)); have n2_ := Aside0.mk (blkb_ BK303 hb); have n3_ := Aside0.mk (below_step bl_ hb); clear HO310; clear BK303; clear HB; have HO310 := n0_; have HO317 := n1_; have BK303 := n2_; have HB := n3_; clear n0_ n1_ n2_ n3_; (try clear hb); (try clear hb2); (try clear hk); (try clear hi); (try clear ho0)) | ((with_reducible refine gate_dst (N := 5) rfl ?_); refine box_event ?hg (N := 5) ?hd (cs := #[.string (⟨#[]⟩ : ByteArray), .string (⟨#[]⟩ : ByteArray), .int .i64 0, .slice none 0 0]) (t := 64) ?hr ?_; (case hd => rfl); (case hg => rfl); (case hr => exact hr_); intro gb318 hg w38 hbox hb; have n0_ := Aside0.mk (Kd.R_below (rk_ HO310) hb); have n1_ := Aside0.mk (Kd.R_below (rk_ HO317) hb); have n2_ := Aside0.mk (blkb_ BK303 hb); have n3_ := Aside0.mk (below_step bl_ hb); have n4_ := Aside0.mk (hbox); have n5_ := Aside0.mk (gw_ hg bl_); have n6_ := Aside0.mk (gw_ hg bl_); have n7_ := Aside0.mk (gn_ hg (blkl_ BK303)); have n8_ := Aside0.mk (gm_ hg (blkl_ BK303)); clear HO310; clear HO317; clear BK303; clear HB; have HO310 := n0_; have HO317 := n1_; have BK303 := n2_; have HB := n3_; have BK318 := n4_; have GW318 := n5_; have GE318 := n6_; have NB303_318 := n7_; have NB318_303 := n8_; clear n0_ n1_ n2_ n3_ n4_ n5_ n6_ n7_ n8_; clear hb hbox hg; have hnb39 := NB318_303.out; have hnc39 := NB303_318.out; obtain ⟨hcz40_0, hcz40_1, hcz40_2, hcz40_3, hfz40_0, hfz40_1, hfz40_2, hfz40_3⟩ := cellsF4 BK318.out; obtain ⟨Ao41, co41, eo41⟩ := Kd.R_slice HO317.out; subst eo41) | ((with_reducible refine gate_callee (f := 27) rfl ?_); refine gl_ 18 Try.func27 #[.agg #[.string t312, .string t313, .int .i64 t314, .slice Ao41 t315.length co41]] ?_ rfl rfl rfl rfl; (with_reducible refine (impl_IxRight.calls k t312 t313 t314 _ _ t315 t319 _ ?side1 ?side2 A10.out).mono ?_); (case side1 => refine (Kd.R_reads' (e := 102) (base := w.heap.size) (ok := fun k_ => (True ∧ some k_ ≠ (.slice Ao34 t308.length co34 : Value).ownBlock)) (n := t315.length) (c := co41) ?_).2.2; exact au13_4); (case side2 => exact au13_10); rintro e w42 ⟨rfl, hb⟩; refine ⟨_, rfl, ?_⟩; have n0_ := Aside0.mk (Kd.R_below (by (with_reducible repeat (first | apply Kd.R_alloc | apply Kd.R_drewN | apply Kd.R_drew)); exact (Kd.R_mono (Kd.R_far (p := ⟨gb318, 3, none⟩) (Kd.R_far (p := ⟨gb318, 2, none⟩) (Kd.R_far (p := ⟨gb318, 1, none⟩) (Kd.R_far (p := ⟨gb318, 0, none⟩) (Kd.R_types HO310.out BK318.out (by decide)) (fun _ hk => hk.2) (.string t312)) (fun _ hk => hk.2) (.string t313)) (fun _ hk => hk.2) (.int .i64 t314)) (fun _ hk => hk.2) (.slice Ao41 t315.length co41)) (fun _ h_ => h_.1))) hb); have n1_ := Aside0.mk (Kd.R_below au13_4 hb); have n2_ := Aside0.mk (blk_below (g := gb303) (o := .cells #[.string a0_0, .string a0_1, .int .i64 a0_2, .slice A0_3 l0_3.length c0_3] 59 (0, 0)) au13_2 hb); have n3_ := Aside0.mk (blk_below (g := gb318) (o := .cells #[.string t312, .string t313, .int .i64 t314, .slice Ao41 t315.length co41] 64 (0, 0)) au13_0 hb); have n4_ := Aside0.mk (below_step bl_ hb); clear HO310; clear HO317; clear BK303; clear BK318; clear HB; have HO310 := n0_; have HO317 := n1_; have BK303 := n2_; have BK318 := n3_; have HB := n4_; clear n0_ n1_ n2_ n3_ n4_; (try clear hb); (try clear hb2); (try clear hk); (try clear hi)))
        have n0_ := Aside0.mk (Kd.R_drew HO310.out)
        have n1_ := Aside0.mk (Kd.R_drew HO317.out)
        have n2_ := Aside0.mk (blk_drew BK303.out)
        have n3_ := Aside0.mk (blk_drew BK318.out)
        have n4_ := Aside0.mk (below_drew1 HB.out)
        clear HO310
        clear HO317
        clear BK303
        clear BK318
        clear HB
        have HO310 := n0_
        have HO317 := n1_
        have BK303 := n2_
        have BK318 := n3_
        have HB := n4_
        clear n0_ n1_ n2_ n3_ n4_
        refine start_ (n := 5) (S := fun w' => w'.cell? ⟨gb318, 0, none⟩ = some (.string t312) ∧ w'.cell? ⟨gb318, 1, none⟩ = some (.string t313) ∧ w'.cell? ⟨gb318, 2, none⟩ = some (.int .i64 t314) ∧ w'.cell? ⟨gb318, 3, none⟩ = some (.slice Ao41 t315.length co41) ∧ w'.cell? ⟨gb303, 0, none⟩ = some (.string a0_0) ∧ w'.cell? ⟨gb303, 1, none⟩ = some (.string a0_1) ∧ w'.cell? ⟨gb303, 2, none⟩ = some (.int .i64 a0_2) ∧ w'.cell? ⟨gb303, 3, none⟩ = some (.slice A0_3 l0_3.length c0_3)) (ds := []) #[false, false, false, false, false] (by kernel_rfl) rfl rfl ⟨(blk_cell BK318.out 0).trans rfl, (blk_cell BK318.out 1).trans rfl, (blk_cell BK318.out 2).trans rfl, (blk_cell BK318.out 3).trans rfl, (blk_cell BK303.out 0).trans rfl, (blk_cell BK303.out 1).trans rfl, (blk_cell BK303.out 2).trans rfl, (blk_cell BK303.out 3).trans rfl⟩ (fun hHeld => ?_)
        generalize w42.drew = w43 at HO310 HO317 BK303 BK318 HB hHeld ⊢
        refine take_ (i := 0) (N := some 22) (v := ?_) (a' := ?_) #[true, false, false, false, false] rfl rfl (by kernel_rfl) (fun _ _ _ h => h) (Or.inl ⟨by rfl, ?_⟩) hHeld ?_ ?_
        rotate_left
        · rintro w' ⟨s0, s1, s2, s3, s4, s5, s6, s7⟩
          go_simp
          with_reducible rfl
        rotate_left
        · simp only [Act.put, List.setIfInBounds_toArray, List.set_cons_zero, List.set_cons_succ, i64_w, i32_w]
          rfl
        refine take_ (i := 1) (N := some 23) (v := ?_) (a' := ?_) #[true, true, false, false, false] rfl rfl (by kernel_rfl) (fun _ _ _ h => h) (Or.inl ⟨by rfl, ?_⟩) hHeld ?_ ?_
        rotate_left
        · rintro w' ⟨s0, s1, s2, s3, s4, s5, s6, s7⟩
          go_simp
          with_reducible rfl
        rotate_left
        · simp only [Act.put, List.setIfInBounds_toArray, List.set_cons_zero, List.set_cons_succ, i64_w, i32_w]
          rfl
        refine one_ (i := 2) (N := some 24) #[true, true, true, false, false] rfl rfl (by kernel_rfl) (by decide) (fun K hK => ?_)
        refine gr_ Try.func26 #[.agg #[.string a0_0, .string a0_1, .int .i64 a0_2, .slice A0_3 l0_3.length c0_3]] (by rfl) ?_ rfl rfl rfl
        with_reducible refine (laws_toInterchange.calls k a0_0 a0_1 a0_2 _ _ l0_3 t320 t321 t322 t323 _ ?side1 ?side2 A26.out).mono ?_
        (case side1 => exact au13_1)
        (case side2 => exact HC0_3.out)
        rintro e w44 ⟨v324, rfl, ho0, hb⟩
        refine ⟨_, rfl, ?_⟩
        have n0_ := Aside0.mk (Kd.R_elder' (rk_ HO310) (Kd.R_base ho0) hb)
        have n1_ := Aside0.mk (Kd.R_elder' (rk_ HO317) (Kd.R_base ho0) hb)
        have n2_ := Aside0.mk (Kd.R_lower (Kd.R_new' (Kd.R_new' ho0 (Kd.R_lt (rk_ HO310))) (Kd.R_lt (rk_ HO317))) (below_size bl_))
        have n3_ := Aside0.mk (blkb_ BK303 hb)
        have n4_ := Aside0.mk (blkb_ BK318 hb)
        have n5_ := Aside0.mk (below_step bl_ hb)
        clear HO310
        clear HO317
        clear BK303
        clear BK318
        clear HB
        have HO310 := n0_
        have HO317 := n1_
        have HO325 := n2_
        have BK303 := n3_
        have BK318 := n4_
        have HB := n5_
        clear n0_ n1_ n2_ n3_ n4_ n5_
        (try clear hb)
        (try clear hb2)
        (try clear hk)
        (try clear hi)
        (try clear ho0)
        obtain ⟨Ao45, co45, eo45⟩ := Kd.R_slice HO325.out
        (first | subst eo45 | (injection eo45 with f1_ f2_ f3_; have f4_ := f1_.symm; have f5_ := f3_.symm; clear f1_ f2_ f3_; subst f4_; subst f5_))
        refine hK.out _ _ ⟨(blk_cell BK318.out 0).trans rfl, (blk_cell BK318.out 1).trans rfl, (blk_cell BK318.out 2).trans rfl, (blk_cell BK318.out 3).trans rfl, (blk_cell BK303.out 0).trans rfl, (blk_cell BK303.out 1).trans rfl, (blk_cell BK303.out 2).trans rfl, (blk_cell BK303.out 3).trans rfl⟩ (fun hHeld => ?_)
        clear hK K
        refine norm_ (a' := ?_) ?_ ?_
        rotate_left
        · show Act.put _ (some 24) _ = _
          simp only [Act.put, List.setIfInBounds_toArray, List.set_cons_zero, List.set_cons_succ, i64_w, i32_w]
          rfl
        refine one_ (i := 3) (N := some 25) #[true, true, true, true, false] rfl rfl (by kernel_rfl) (by decide) (fun K hK => ?_)
        refine gr_ Try.func28 #[.agg #[.string t312, .string t313, .int .i64 t314, .slice Ao41 t315.length co41], .agg #[.string t320, .string t321, .int .i64 t322, .slice Ao45 t323.length co45]] (by rfl) ?_ rfl rfl rfl
        with_reducible refine (laws_eqInterchange.calls k t312 t313 t314 _ _ t315 t320 t321 t322 _ _ t323 true _ ?side1 ?side2 ?side3 ?side4 A27.out).mono ?_
        (case side1 => exact au13_8)
        (case side2 => exact au13_10)
        (case side3 => exact au13_9)
        (case side4 => exact (Kd.R_reads' HO325.out).2.1)
        rintro e w46 ⟨rfl, hb⟩
        refine ⟨_, rfl, ?_⟩
        have n0_ := Aside0.mk (Kd.R_below (rk_ HO310) hb)
        have n1_ := Aside0.mk (Kd.R_below (rk_ HO317) hb)
        have n2_ := Aside0.mk (Kd.R_below (rk_ HO325) hb)
        have n3_ := Aside0.mk (blkb_ BK303 hb)
        have n4_ := Aside0.mk (blkb_ BK318 hb)
        have n5_ := Aside0.mk (below_step bl_ hb)
        clear HO310
        clear HO317
        clear HO325
        clear BK303
        clear BK318
        clear HB
        have HO310 := n0_
        have HO317 := n1_
        have HO325 := n2_
        have BK303 := n3_
        have BK318 := n4_
        have HB := n5_
        clear n0_ n1_ n2_ n3_ n4_ n5_
        (try clear hb)
        (try clear hb2)
        (try clear hk)
        (try clear hi)
        refine hK.out _ _ ⟨(blk_cell BK318.out 0).trans rfl, (blk_cell BK318.out 1).trans rfl, (blk_cell BK318.out 2).trans rfl, (blk_cell BK318.out 3).trans rfl, (blk_cell BK303.out 0).trans rfl, (blk_cell BK303.out 1).trans rfl, (blk_cell BK303.out 2).trans rfl, (blk_cell BK303.out 3).trans rfl⟩ (fun hHeld => ?_)
        clear hK K
        refine norm_ (a' := ?_) ?_ ?_
        rotate_left
        · show Act.put _ (some 25) _ = _
          simp only [Act.put, List.setIfInBounds_toArray, List.set_cons_zero, List.set_cons_succ, i64_w, i32_w]
          rfl
        refine pure_ (i := 4) (N := some 26) (v := ?_) (a' := ?_) #[true, true, true, true, true] rfl rfl (by kernel_rfl) (fun _ _ _ h => h) (Or.inl ⟨by rfl, ?_⟩) ?_ ?_
        rotate_left
        · intro w'
          go_simp
          with_reducible rfl
        rotate_left
        · simp only [Act.put, List.setIfInBounds_toArray, List.set_cons_zero, List.set_cons_succ, i64_w, i32_w]
          rfl
        refine done_ (by kernel_rfl) ?_
        try go_wp2
        go_ret
        exact ⟨au13_7, bl_⟩
      · replace c28 := Bool.eq_false_iff.mpr c28
        subst c28
        have H1 : (some false) = some r := by rw [if_neg (show ¬ (false = true) by decide)] at H; exact H
        clear H
        have H := H1
        clear H1
        obtain rfl := Option.some.inj H
        go_enter Try.func7, Try.ntmps7
        try go_wp2_with (first | ((with_reducible refine gate_dst (N := 1) rfl ?_); refine box_event ?hg (N := 1) ?hd (cs := #[.string a0_0, .string a0_1, .int .i64 a0_2, .slice A0_3 l0_3.length c0_3]) (t := 59) ?hr ?_; (case hd => rfl); (case hg => rfl); (case hr => exact hr_); intro gb303 hg w47 hbox hb; have n0_ := Aside0.mk (below_step bl_ hb); have n1_ := Aside0.mk (hbox); have n2_ := Aside0.mk (gw_ hg bl_); have n3_ := Aside0.mk (gw_ hg bl_); clear HB; have HB := n0_; have BK303 := n1_; have GW303 := n2_; have GE303 := n3_; clear n0_ n1_ n2_ n3_; clear hb hbox hg; obtain ⟨hcz48_0, hcz48_1, hcz48_2, hcz48_3, hfz48_0, hfz48_1, hfz48_2, hfz48_3⟩ := cellsF4 BK303.out) | ((with_reducible refine gate_callee (f := 24) rfl ?_); refine gl_ 9 Try.func24 #[.agg #[.string a0_0, .string a0_1, .int .i64 a0_2, .slice A0_3 l0_3.length c0_3], .int .i64 1048576] ?_ rfl rfl rfl rfl; (with_reducible refine (laws_szInterchange.calls k a0_0 a0_1 a0_2 _ _ l0_3 1048576 t304 _ ?side1 ?side2 A2.out).mono ?_); (case side1 => exact au13_1); (case side2 => exact HC0_3.out); rintro e w49 ⟨rfl, hb⟩; refine ⟨_, rfl, ?_⟩; have n0_ := Aside0.mk (blkb_ BK303 hb); have n1_ := Aside0.mk (below_step bl_ hb); clear BK303; clear HB; have BK303 := n0_; have HB := n1_; clear n0_ n1_; (try clear hb); (try clear hb2); (try clear hk); (try clear hi); obtain ⟨hcz50_0, hcz50_1, hcz50_2, hcz50_3, hfz50_0, hfz50_1, hfz50_2, hfz50_3⟩ := cellsF4 BK303.out) | ((with_reducible refine gate_callee (f := 26) rfl ?_); refine gl_ 13 Try.func26 #[.agg #[.string a0_0, .string a0_1, .int .i64 a0_2, .slice A0_3 l0_3.length c0_3]] ?_ rfl rfl rfl rfl; (with_reducible refine (laws_toInterchange.calls k a0_0 a0_1 a0_2 _ _ l0_3 t305 t306 t307 t308 _ ?side1 ?side2 A7.out).mono ?_); (case side1 => exact au13_1); (case side2 => exact HC0_3.out); rintro e w51 ⟨v309, rfl, ho0, hb⟩; refine ⟨_, rfl, ?_⟩; have n0_ := Aside0.mk (Kd.R_lower ho0 (below_size bl_)); have n1_ := Aside0.mk (blkb_ BK303 hb); have n2_ := Aside0.mk (below_step bl_ hb); clear BK303; clear HB; have HO310 := n0_; have BK303 := n1_; have HB := n2_; clear n0_ n1_ n2_; (try clear hb); (try clear hb2); (try clear hk); (try clear hi); (try clear ho0); obtain ⟨Ao52, co52, eo52⟩ := Kd.R_slice HO310.out; subst eo52) | ((with_reducible refine gate_callee (f := 25) rfl ?_); refine gl_ 14 Try.func25 #[.agg #[.string t305, .string t306, .int .i64 t307, .slice Ao52 t308.length co52]] ?_ rfl rfl rfl rfl; (with_reducible refine (spec_IxRight.calls k t305 t306 t307 _ _ t308 t311 _ ?side1 ?side2 A8.out).mono ?_); (case side1 => exact au13_6); (case side2 => exact (Kd.R_reads' HO310.out).2.1); rintro e w53 ⟨rfl, hb⟩; refine ⟨_, rfl, ?_⟩; have n0_ := Aside0.mk (Kd.R_below (rk_ HO310) hb); have n1_ := Aside0.mk (blkb_ BK303 hb); have n2_ := Aside0.mk (below_step bl_ hb); clear HO310; clear BK303; clear HB; have HO310 := n0_; have BK303 := n1_; have HB := n2_; clear n0_ n1_ n2_; (try clear hb); (try clear hb2); (try clear hk); (try clear hi); obtain ⟨hcz54_0, hcz54_1, hcz54_2, hcz54_3, hfz54_0, hfz54_1, hfz54_2, hfz54_3⟩ := cellsF4 BK303.out) | ((with_reducible refine gate_callee (f := 26) rfl ?_); refine gl_ 16 Try.func26 #[.agg #[.string a0_0, .string a0_1, .int .i64 a0_2, .slice A0_3 l0_3.length c0_3]] ?_ rfl rfl rfl rfl; (with_reducible refine (laws_toInterchange.calls k a0_0 a0_1 a0_2 _ _ l0_3 t312 t313 t314 t315 _ ?side1 ?side2 A9.out).mono ?_); (case side1 => exact au13_1); (case side2 => exact HC0_3.out); rintro e w55 ⟨v316, rfl, ho0, hb⟩; refine ⟨_, rfl, ?_⟩; have n0_ := Aside0.mk (Kd.R_elder' (rk_ HO310) (Kd.R_base ho0) hb); have n1_ := Aside0.mk (Kd.R_lower (Kd.R_new' ho0 (Kd.R_lt (rk_ HO310))) (below_size bl_)); have n2_ := Aside0.mk (blkb_ BK303 hb); have n3_ := Aside0.mk (below_step bl_ hb); clear HO310; clear BK303; clear HB; have HO310 := n0_; have HO317 := n1_; have BK303 := n2_; have HB := n3_; clear n0_ n1_ n2_ n3_; (try clear hb); (try clear hb2); (try clear hk); (try clear hi); (try clear ho0)) | ((with_reducible refine gate_dst (N := 5) rfl ?_); refine box_event ?hg (N := 5) ?hd (cs := #[.string (⟨#[]⟩ : ByteArray), .string (⟨#[]⟩ : ByteArray), .int .i64 0, .slice none 0 0]) (t := 64) ?hr ?_; (case hd => rfl); (case hg => rfl); (case hr => exact hr_); intro gb318 hg w56 hbox hb; have n0_ := Aside0.mk (Kd.R_below (rk_ HO310) hb); have n1_ := Aside0.mk (Kd.R_below (rk_ HO317) hb); have n2_ := Aside0.mk (blkb_ BK303 hb); have n3_ := Aside0.mk (below_step bl_ hb); have n4_ := Aside0.mk (hbox); have n5_ := Aside0.mk (gw_ hg bl_); have n6_ := Aside0.mk (gw_ hg bl_); have n7_ := Aside0.mk (gn_ hg (blkl_ BK303)); have n8_ := Aside0.mk (gm_ hg (blkl_ BK303)); clear HO310; clear HO317; clear BK303; clear HB; have HO310 := n0_; have HO317 := n1_; have BK303 := n2_; have HB := n3_; have BK318 := n4_; have GW318 := n5_; have GE318 := n6_; have NB303_318 := n7_; have NB318_303 := n8_; clear n0_ n1_ n2_ n3_ n4_ n5_ n6_ n7_ n8_; clear hb hbox hg; have hnb57 := NB318_303.out; have hnc57 := NB303_318.out; obtain ⟨hcz58_0, hcz58_1, hcz58_2, hcz58_3, hfz58_0, hfz58_1, hfz58_2, hfz58_3⟩ := cellsF4 BK318.out; obtain ⟨Ao59, co59, eo59⟩ := Kd.R_slice HO317.out; subst eo59) | ((with_reducible refine gate_callee (f := 27) rfl ?_); refine gl_ 18 Try.func27 #[.agg #[.string t312, .string t313, .int .i64 t314, .slice Ao59 t315.length co59]] ?_ rfl rfl rfl rfl; (with_reducible refine (impl_IxRight.calls k t312 t313 t314 _ _ t315 t319 _ ?side1 ?side2 A10.out).mono ?_); (case side1 => refine (Kd.R_reads' (e := 102) (base := w.heap.size) (ok := fun k_ => (True ∧ some k_ ≠ (.slice Ao52 t308.length co52 : Value).ownBlock)) (n := t315.length) (c := co59) ?_).2.2; exact au13_5); (case side2 => exact au13_10); rintro e w60 ⟨rfl, hb⟩; refine ⟨_, rfl, ?_⟩; have n0_ := Aside0.mk (Kd.R_below (by (with_reducible repeat (first | apply Kd.R_alloc | apply Kd.R_drewN | apply Kd.R_drew)); exact (Kd.R_mono (Kd.R_far (p := ⟨gb318, 3, none⟩) (Kd.R_far (p := ⟨gb318, 2, none⟩) (Kd.R_far (p := ⟨gb318, 1, none⟩) (Kd.R_far (p := ⟨gb318, 0, none⟩) (Kd.R_types HO310.out BK318.out (by decide)) (fun _ hk => hk.2) (.string t312)) (fun _ hk => hk.2) (.string t313)) (fun _ hk => hk.2) (.int .i64 t314)) (fun _ hk => hk.2) (.slice Ao59 t315.length co59)) (fun _ h_ => h_.1))) hb); have n1_ := Aside0.mk (Kd.R_below au13_5 hb); have n2_ := Aside0.mk (blk_below (g := gb303) (o := .cells #[.string a0_0, .string a0_1, .int .i64 a0_2, .slice A0_3 l0_3.length c0_3] 59 (0, 0)) au13_2 hb); have n3_ := Aside0.mk (blk_below (g := gb318) (o := .cells #[.string t312, .string t313, .int .i64 t314, .slice Ao59 t315.length co59] 64 (0, 0)) au13_0 hb); have n4_ := Aside0.mk (below_step bl_ hb); clear HO310; clear HO317; clear BK303; clear BK318; clear HB; have HO310 := n0_; have HO317 := n1_; have BK303 := n2_; have BK318 := n3_; have HB := n4_; clear n0_ n1_ n2_ n3_ n4_; (try clear hb); (try clear hb2); (try clear hk); (try clear hi)))
        have n0_ := Aside0.mk (Kd.R_drew HO310.out)
        have n1_ := Aside0.mk (Kd.R_drew HO317.out)
        have n2_ := Aside0.mk (blk_drew BK303.out)
        have n3_ := Aside0.mk (blk_drew BK318.out)
        have n4_ := Aside0.mk (below_drew1 HB.out)
        clear HO310
        clear HO317
        clear BK303
        clear BK318
        clear HB
        have HO310 := n0_
        have HO317 := n1_
        have BK303 := n2_
        have BK318 := n3_
        have HB := n4_
        clear n0_ n1_ n2_ n3_ n4_
        refine start_ (n := 5) (S := fun w' => w'.cell? ⟨gb318, 0, none⟩ = some (.string t312) ∧ w'.cell? ⟨gb318, 1, none⟩ = some (.string t313) ∧ w'.cell? ⟨gb318, 2, none⟩ = some (.int .i64 t314) ∧ w'.cell? ⟨gb318, 3, none⟩ = some (.slice Ao59 t315.length co59) ∧ w'.cell? ⟨gb303, 0, none⟩ = some (.string a0_0) ∧ w'.cell? ⟨gb303, 1, none⟩ = some (.string a0_1) ∧ w'.cell? ⟨gb303, 2, none⟩ = some (.int .i64 a0_2) ∧ w'.cell? ⟨gb303, 3, none⟩ = some (.slice A0_3 l0_3.length c0_3)) (ds := []) #[false, false, false, false, false] (by kernel_rfl) rfl rfl ⟨(blk_cell BK318.out 0).trans rfl, (blk_cell BK318.out 1).trans rfl, (blk_cell BK318.out 2).trans rfl, (blk_cell BK318.out 3).trans rfl, (blk_cell BK303.out 0).trans rfl, (blk_cell BK303.out 1).trans rfl, (blk_cell BK303.out 2).trans rfl, (blk_cell BK303.out 3).trans rfl⟩ (fun hHeld => ?_)
        generalize w60.drew = w61 at HO310 HO317 BK303 BK318 HB hHeld ⊢
        refine take_ (i := 0) (N := some 22) (v := ?_) (a' := ?_) #[true, false, false, false, false] rfl rfl (by kernel_rfl) (fun _ _ _ h => h) (Or.inl ⟨by rfl, ?_⟩) hHeld ?_ ?_
        rotate_left
        · rintro w' ⟨s0, s1, s2, s3, s4, s5, s6, s7⟩
          go_simp
          with_reducible rfl
        rotate_left
        · simp only [Act.put, List.setIfInBounds_toArray, List.set_cons_zero, List.set_cons_succ, i64_w, i32_w]
          rfl
        refine take_ (i := 1) (N := some 23) (v := ?_) (a' := ?_) #[true, true, false, false, false] rfl rfl (by kernel_rfl) (fun _ _ _ h => h) (Or.inl ⟨by rfl, ?_⟩) hHeld ?_ ?_
        rotate_left
        · rintro w' ⟨s0, s1, s2, s3, s4, s5, s6, s7⟩
          go_simp
          with_reducible rfl
        rotate_left
        · simp only [Act.put, List.setIfInBounds_toArray, List.set_cons_zero, List.set_cons_succ, i64_w, i32_w]
          rfl
        refine one_ (i := 2) (N := some 24) #[true, true, true, false, false] rfl rfl (by kernel_rfl) (by decide) (fun K hK => ?_)
        refine gr_ Try.func26 #[.agg #[.string a0_0, .string a0_1, .int .i64 a0_2, .slice A0_3 l0_3.length c0_3]] (by rfl) ?_ rfl rfl rfl
        with_reducible refine (laws_toInterchange.calls k a0_0 a0_1 a0_2 _ _ l0_3 t320 t321 t322 t323 _ ?side1 ?side2 A26.out).mono ?_
        (case side1 => exact au13_1)
        (case side2 => exact HC0_3.out)
        rintro e w62 ⟨v324, rfl, ho0, hb⟩
        refine ⟨_, rfl, ?_⟩
        have n0_ := Aside0.mk (Kd.R_elder' (rk_ HO310) (Kd.R_base ho0) hb)
        have n1_ := Aside0.mk (Kd.R_elder' (rk_ HO317) (Kd.R_base ho0) hb)
        have n2_ := Aside0.mk (Kd.R_lower (Kd.R_new' (Kd.R_new' ho0 (Kd.R_lt (rk_ HO310))) (Kd.R_lt (rk_ HO317))) (below_size bl_))
        have n3_ := Aside0.mk (blkb_ BK303 hb)
        have n4_ := Aside0.mk (blkb_ BK318 hb)
        have n5_ := Aside0.mk (below_step bl_ hb)
        clear HO310
        clear HO317
        clear BK303
        clear BK318
        clear HB
        have HO310 := n0_
        have HO317 := n1_
        have HO325 := n2_
        have BK303 := n3_
        have BK318 := n4_
        have HB := n5_
        clear n0_ n1_ n2_ n3_ n4_ n5_
        (try clear hb)
        (try clear hb2)
        (try clear hk)
        (try clear hi)
        (try clear ho0)
        obtain ⟨Ao63, co63, eo63⟩ := Kd.R_slice HO325.out
        (first | subst eo63 | (injection eo63 with f1_ f2_ f3_; have f4_ := f1_.symm; have f5_ := f3_.symm; clear f1_ f2_ f3_; subst f4_; subst f5_))
        refine hK.out _ _ ⟨(blk_cell BK318.out 0).trans rfl, (blk_cell BK318.out 1).trans rfl, (blk_cell BK318.out 2).trans rfl, (blk_cell BK318.out 3).trans rfl, (blk_cell BK303.out 0).trans rfl, (blk_cell BK303.out 1).trans rfl, (blk_cell BK303.out 2).trans rfl, (blk_cell BK303.out 3).trans rfl⟩ (fun hHeld => ?_)
        clear hK K
        refine norm_ (a' := ?_) ?_ ?_
        rotate_left
        · show Act.put _ (some 24) _ = _
          simp only [Act.put, List.setIfInBounds_toArray, List.set_cons_zero, List.set_cons_succ, i64_w, i32_w]
          rfl
        refine one_ (i := 3) (N := some 25) #[true, true, true, true, false] rfl rfl (by kernel_rfl) (by decide) (fun K hK => ?_)
        refine gr_ Try.func28 #[.agg #[.string t312, .string t313, .int .i64 t314, .slice Ao59 t315.length co59], .agg #[.string t320, .string t321, .int .i64 t322, .slice Ao63 t323.length co63]] (by rfl) ?_ rfl rfl rfl
        with_reducible refine (laws_eqInterchange.calls k t312 t313 t314 _ _ t315 t320 t321 t322 _ _ t323 false _ ?side1 ?side2 ?side3 ?side4 A27.out).mono ?_
        (case side1 => exact au13_8)
        (case side2 => exact au13_10)
        (case side3 => exact au13_9)
        (case side4 => exact (Kd.R_reads' HO325.out).2.1)
        rintro e w64 ⟨rfl, hb⟩
        refine ⟨_, rfl, ?_⟩
        have n0_ := Aside0.mk (Kd.R_below (rk_ HO310) hb)
        have n1_ := Aside0.mk (Kd.R_below (rk_ HO317) hb)
        have n2_ := Aside0.mk (Kd.R_below (rk_ HO325) hb)
        have n3_ := Aside0.mk (blkb_ BK303 hb)
        have n4_ := Aside0.mk (blkb_ BK318 hb)
        have n5_ := Aside0.mk (below_step bl_ hb)
        clear HO310
        clear HO317
        clear HO325
        clear BK303
        clear BK318
        clear HB
        have HO310 := n0_
        have HO317 := n1_
        have HO325 := n2_
        have BK303 := n3_
        have BK318 := n4_
        have HB := n5_
        clear n0_ n1_ n2_ n3_ n4_ n5_
        (try clear hb)
        (try clear hb2)
        (try clear hk)
        (try clear hi)
        refine hK.out _ _ ⟨(blk_cell BK318.out 0).trans rfl, (blk_cell BK318.out 1).trans rfl, (blk_cell BK318.out 2).trans rfl, (blk_cell BK318.out 3).trans rfl, (blk_cell BK303.out 0).trans rfl, (blk_cell BK303.out 1).trans rfl, (blk_cell BK303.out 2).trans rfl, (blk_cell BK303.out 3).trans rfl⟩ (fun hHeld => ?_)
        clear hK K
        refine norm_ (a' := ?_) ?_ ?_
        rotate_left
        · show Act.put _ (some 25) _ = _
          simp only [Act.put, List.setIfInBounds_toArray, List.set_cons_zero, List.set_cons_succ, i64_w, i32_w]
          rfl
        refine pure_ (i := 4) (N := some 26) (v := ?_) (a' := ?_) #[true, true, true, true, true] rfl rfl (by kernel_rfl) (fun _ _ _ h => h) (Or.inl ⟨by rfl, ?_⟩) ?_ ?_
        rotate_left
        · intro w'
          go_simp
          with_reducible rfl
        rotate_left
        · simp only [Act.put, List.setIfInBounds_toArray, List.set_cons_zero, List.set_cons_succ, i64_w, i32_w]
          rfl
        refine done_ (by kernel_rfl) ?_
        try go_wp2
        go_ret
        exact ⟨au13_7, bl_⟩

/-- THE ONE PURE STATEMENT of laws_FnExactIxRight: yours. -/
def laws_FnExactIxRight.Pure : Prop := ∀ (a0_0 : ByteArray) (a0_1 : ByteArray) (a0_2 : Int) (l0_3 : List (S138)), (fun s_ : ByteArray => s_.size ≤ maxLen) a0_0 → (fun s_ : ByteArray => s_.size ≤ maxLen) a0_1 → (fun n_ : Int => (Lit.int .i64 n_).wf = true) a0_2 → (fun xs_ : List (S138) => xs_.length ≤ maxLen ∧ ∀ x_ ∈ xs_, q138 x_) l0_3 → ∃ k, laws_FnExactIxRight.f k a0_0 a0_1 a0_2 l0_3 = some true

end Go.Proofs.Ytlghcbmkhdibdaa.PFnExactIxRight
