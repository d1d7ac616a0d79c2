-- printed by a program of this session (wip/xp/xprint.py) out of the translation; Lean checks it
import Derived.Test.YtchoalagkcdbhaaPFnExactSegmentTextx0
import Derived.Test.YtchoalagkcdbhaaPFnExactSegmentTextx1
import Derived.Test.YtchoalagkcdbhaaPFnExactSegmentTextx2
import Derived.Test.YtchoalagkcdbhaaPFnExactSegmentTextx6
import Derived.Test.YtchoalagkcdbhaaPFnExactSegmentTextx9
namespace Go.Proofs.Ytchoalagkcdbhaa.PFnExactSegmentText
open Go.RowKit Go.Proofs.YtchoalagkcdbhaaW.PrintWords Go.Proofs.YtchoalagkcdbhaaW.PrintLast Go.Proofs.YtchoalagkcdbhaaW.PrintMore
attribute [local go_sem] max2_int min2_int max_two min_two max_three min_three max_four min_four   -- for this text's walks alone
set_option linter.unusedVariables false
set_option linter.unusedSimpArgs false

theorem au10_0 {p : Prop} (h : p := by (with_reducible repeat (first | apply Kd.S_alloc | apply Kd.S_drewN | apply Kd.S_drew)); exact HO294.out) : p := h
theorem au10_1 {p : Prop} (h : p := by repeat (first | exact (Kd.C_below HR1_1.out HB.out) | (with_reducible refine Kd.C_alloc ?_ _) | (with_reducible refine Kd.C_drewN ?_ _) | (with_reducible refine Kd.C_drew ?_))) : p := h
theorem au10_2 {p : Prop} (h : p := by (with_reducible repeat (first | apply Kd.S_alloc | apply Kd.S_drewN | apply Kd.S_drew)); exact HO299.out) : p := h
theorem au10_3 {p : Prop} (h : p := by (with_reducible repeat (first | refine blk_drewN ?_ _ | refine blk_drew ?_ | refine blk_alloc ?_ _)); refine blk_put (cs := #[.string t296, .slice none 0 0]) ?_ 1 _ rfl; (with_reducible repeat (first | refine blk_drewN ?_ _ | refine blk_drew ?_ | refine blk_alloc ?_ _)); refine blk_put (cs := #[.string (⟨#[]⟩ : ByteArray), .slice none 0 0]) ?_ 0 _ rfl; (with_reducible repeat (first | refine blk_drewN ?_ _ | refine blk_drew ?_ | refine blk_alloc ?_ _)); exact BK300.out) : p := h
theorem au10_4 {p : Prop} (h : p := by (with_reducible repeat (first | refine blk_drewN ?_ _ | refine blk_drew ?_ | refine blk_alloc ?_ _)); refine blk_far ?_ NB284_300.out _; (with_reducible repeat (first | refine blk_drewN ?_ _ | refine blk_drew ?_ | refine blk_alloc ?_ _)); refine blk_far ?_ NB284_300.out _; (with_reducible repeat (first | refine blk_drewN ?_ _ | refine blk_drew ?_ | refine blk_alloc ?_ _)); exact BK284.out) : p := h
theorem au10_5 {p : Prop} (h : p := by (with_reducible repeat (first | refine blk_drewN ?_ _ | refine blk_drew ?_ | refine blk_alloc ?_ _)); refine blk_far ?_ NB285_300.out _; (with_reducible repeat (first | refine blk_drewN ?_ _ | refine blk_drew ?_ | refine blk_alloc ?_ _)); refine blk_far ?_ NB285_300.out _; (with_reducible repeat (first | refine blk_drewN ?_ _ | refine blk_drew ?_ | refine blk_alloc ?_ _)); exact BK285.out) : p := h
theorem au10_6 {p : Prop} (h : p := by repeat (first | exact (Kd.S_reads' HO299.out).2.2 | (with_reducible refine Kd.C_alloc ?_ _) | (with_reducible refine Kd.C_drewN ?_ _) | (with_reducible refine Kd.C_drew ?_))) : p := h
theorem au10_7 {p : Prop} (h : p := by repeat (first | exact (Kd.S_reads' HO294.out).2.2 | (with_reducible refine Kd.C_alloc ?_ _) | (with_reducible refine Kd.C_drewN ?_ _) | (with_reducible refine Kd.C_drew ?_))) : p := h
theorem au10_8 {p : Prop} (h : p := by first | rfl | (simp [errW_none, errW_some] <;> rfl) | (simp [*, errW_none, errW_some] <;> rfl)) : p := h
theorem au10_9 {p : Prop} (h : p := by repeat (first | exact (Kd.S_reads' HO309.out).2.2 | (with_reducible refine Kd.C_alloc ?_ _) | (with_reducible refine Kd.C_drewN ?_ _) | (with_reducible refine Kd.C_drew ?_))) : p := h
theorem au10_10 {p : Prop} (h : p := by (with_reducible repeat (first | apply Kd.S_alloc | apply Kd.S_drewN | apply Kd.S_drew)); exact HO309.out) : p := h
theorem au10_11 {p : Prop} (h : p := by exact (Kd.S_reads' HO299.out).2.1) : p := h

/-! ### laws_FnExactSegmentText: function 10 -/
def laws_FnExactSegmentText.f (k : Nat) (a0_0 : Int) (a0_1 : Int) (a0_2 : Int) (a0_3 : Int) (a1_0 : ByteArray) (l1_1 : List (S125)) : Option (Bool) := (laws_szSegment.f k a1_0 l1_1 1048576).bind fun t286 => (if t286 < 0 then (some true) else ((laws_toSyntax.f a0_0 a0_1 a0_2 a0_3).bind fun bt287 => ((laws_toSegment.f k a1_0 l1_1).bind fun bt291 => ((spec_SegmentText.f k bt287.1 bt287.2.1 bt287.2.2.1 bt287.2.2.2 bt291.1 bt291.2).bind fun t295 => ((laws_toSegment.f k a1_0 l1_1).bind fun bt296 => ((laws_toSyntax.f a0_0 a0_1 a0_2 a0_3).bind fun bt301 => ((impl_SegmentText.f k bt301.1 bt301.2.1 bt301.2.2.1 bt301.2.2.2 bt296.1 bt296.2).bind fun t305 => (if t305.toList = t295.toList then ((laws_toSegment.f k a1_0 l1_1).bind fun bt306 => ((laws_eqSegment.f k bt296.1 bt296.2 bt306.1 bt306.2).bind fun t310 => (if t310 = true then (some true) else (some false)))) else (some false)))))))))
theorem laws_FnExactSegmentText.mono : ∀ a0 a1 a2 a3 a4 a5 k, LeO (laws_FnExactSegmentText.f k a0 a1 a2 a3 a4 a5) (laws_FnExactSegmentText.f (k + 1) a0 a1 a2 a3 a4 a5) := by
  intro a0 a1 a2 a3 a4 a5 k
  unfold laws_FnExactSegmentText.f
  repeat' first
      | (with_reducible exact impl_SegmentText.mono _ _ _ _ _ _ _)
      | (with_reducible exact laws_eqSegment.mono _ _ _ _ _)
      | (with_reducible exact laws_szSegment.mono _ _ _ _)
      | (with_reducible exact laws_toSegment.mono _ _ _)
      | (with_reducible exact spec_SegmentText.mono _ _ _ _ _ _ _)
      | (with_reducible exact LeO.refl _)
      | (with_reducible exact LeO.none _)
      | (with_reducible refine LeO.ite ?_ ?_)
      | (with_reducible refine LeO.bind ?_ (fun _ => ?_))
      | exact impl_SegmentText.mono _ _ _ _ _ _ _
      | exact laws_eqSegment.mono _ _ _ _ _
      | exact laws_szSegment.mono _ _ _ _
      | exact laws_toSegment.mono _ _ _
      | exact spec_SegmentText.mono _ _ _ _ _ _ _
      | exact LeO.none _
      | refine LeO.ite ?_ ?_
      | refine LeO.bind ?_ (fun _ => ?_)
set_option maxHeartbeats 8000000 in
set_option maxRecDepth 100000 in
theorem laws_FnExactSegmentText.calls (k : Nat) (a0_0 : Int) (a0_1 : Int) (a0_2 : Int) (a0_3 : Int) (a1_0 : ByteArray) (A1_1 : Option Addr) (c1_1 : Nat) (l1_1 : List (S125)) (r : Bool) (w : World) (hr1_1 : Kd.C k125 w A1_1 l1_1.length l1_1) (hc1_1 : l1_1.length ≤ c1_1) (h : laws_FnExactSegmentText.f k a0_0 a0_1 a0_2 a0_3 a1_0 l1_1 = some r) :
    Calls Try.prog 10 #[.agg #[.int .i64 a0_0, .int .i64 a0_1, .int .i64 a0_2, .int .i64 a0_3], .agg #[.string a1_0, .slice A1_1 l1_1.length c1_1]] w fun e w' => e = .returned (.bool r) ∧ Below w.heap.size w w' := by
  have hu29 := Try.underlying29
  have hu54 := Try.underlying54
  have hu59 := Try.underlying59
  have HR1_1 := Aside0.mk hr1_1
  have HC1_1 := Aside0.mk hc1_1
  clear hr1_1 hc1_1
  have HB := Aside0.mk (Below.refl w.heap.size w)
  have H : ((laws_szSegment.f k a1_0 l1_1 1048576).bind fun t286 => (if t286 < 0 then (some true) else ((laws_toSyntax.f a0_0 a0_1 a0_2 a0_3).bind fun bt287 => ((laws_toSegment.f k a1_0 l1_1).bind fun bt291 => ((spec_SegmentText.f k bt287.1 bt287.2.1 bt287.2.2.1 bt287.2.2.2 bt291.1 bt291.2).bind fun t295 => ((laws_toSegment.f k a1_0 l1_1).bind fun bt296 => ((laws_toSyntax.f a0_0 a0_1 a0_2 a0_3).bind fun bt301 => ((impl_SegmentText.f k bt301.1 bt301.2.1 bt301.2.2.1 bt301.2.2.2 bt296.1 bt296.2).bind fun t305 => (if t305.toList = t295.toList then ((laws_toSegment.f k a1_0 l1_1).bind fun bt306 => ((laws_eqSegment.f k bt296.1 bt296.2 bt306.1 bt306.2).bind fun t310 => (if t310 = true then (some true) else (some false)))) else (some false)))))))))) = some r := h
  clear h
  replace H := Option.bind_eq_some_iff.mp H
  obtain ⟨t286, A30, H⟩ := H
  replace H : (if t286 < 0 then (some true) else ((laws_toSyntax.f a0_0 a0_1 a0_2 a0_3).bind fun bt287 => ((laws_toSegment.f k a1_0 l1_1).bind fun bt291 => ((spec_SegmentText.f k bt287.1 bt287.2.1 bt287.2.2.1 bt287.2.2.2 bt291.1 bt291.2).bind fun t295 => ((laws_toSegment.f k a1_0 l1_1).bind fun bt296 => ((laws_toSyntax.f a0_0 a0_1 a0_2 a0_3).bind fun bt301 => ((impl_SegmentText.f k bt301.1 bt301.2.1 bt301.2.2.1 bt301.2.2.2 bt296.1 bt296.2).bind fun t305 => (if t305.toList = t295.toList then ((laws_toSegment.f k a1_0 l1_1).bind fun bt306 => ((laws_eqSegment.f k bt296.1 bt296.2 bt306.1 bt306.2).bind fun t310 => (if t310 = true then (some true) else (some false)))) else (some false))))))))) = some r := H
  have A3 := Aside0.mk A30
  clear A30
  by_cases c4 : t286 < 0
  · rw [if_pos c4] at H
    have c4b0 : decide (t286 < 0) = true := decide_eq_true c4
    clear c4
    obtain rfl := Option.some.inj H
    go_enter Try.func10, Try.ntmps10
    go_wp2_with (first | ((with_reducible refine gate_dst (N := 2) rfl ?_); refine box_event ?hg (N := 2) ?hd (cs := #[.int .i64 a0_0, .int .i64 a0_1, .int .i64 a0_2, .int .i64 a0_3]) (t := 29) ?hr ?_; (case hd => rfl); (case hg => rfl); (case hr => exact hr_); intro gb284 hg w5 hbox hb; have n0_ := Aside0.mk (below_step bl_ hb); have n1_ := Aside0.mk (hbox); have n2_ := Aside0.mk (gw_ hg bl_); have n3_ := Aside0.mk (gw_ hg bl_); clear HB; have HB := n0_; have BK284 := n1_; have GW284 := n2_; have GE284 := n3_; clear n0_ n1_ n2_ n3_; clear hb hbox hg) | ((with_reducible refine gate_dst (N := 3) rfl ?_); refine box_event ?hg (N := 3) ?hd (cs := #[.string a1_0, .slice A1_1 l1_1.length c1_1]) (t := 54) ?hr ?_; (case hd => rfl); (case hg => rfl); (case hr => exact hr_); intro gb285 hg w6 hbox hb; have n0_ := Aside0.mk (blkb_ BK284 hb); have n1_ := Aside0.mk (below_step bl_ hb); have n2_ := Aside0.mk (hbox); have n3_ := Aside0.mk (gw_ hg bl_); have n4_ := Aside0.mk (gw_ hg bl_); have n5_ := Aside0.mk (gn_ hg (blkl_ BK284)); have n6_ := Aside0.mk (gm_ hg (blkl_ BK284)); clear BK284; clear HB; have BK284 := n0_; have HB := n1_; have BK285 := n2_; have GW285 := n3_; have GE285 := n4_; have NB284_285 := n5_; have NB285_284 := n6_; clear n0_ n1_ n2_ n3_ n4_ n5_ n6_; clear hb hbox hg; have hnb7 := NB285_284.out; have hnc7 := NB284_285.out; obtain ⟨hcz8_0, hcz8_1, hfz8_0, hfz8_1⟩ := cellsF2 BK285.out) | ((with_reducible refine gate_callee (f := 33) rfl ?_); refine gl_ 11 Try.func33 #[.agg #[.string a1_0, .slice A1_1 l1_1.length c1_1], .int .i64 1048576] ?_ rfl rfl rfl rfl; (with_reducible refine (laws_szSegment.calls k a1_0 _ _ l1_1 1048576 t286 _ ?side1 ?side2 A3.out).mono ?_); (case side1 => exact au10_1); (case side2 => exact HC1_1.out); rintro e w9 ⟨rfl, hb⟩; refine ⟨_, rfl, ?_⟩; have n0_ := Aside0.mk (blkb_ BK284 hb); have n1_ := Aside0.mk (blkb_ BK285 hb); have n2_ := Aside0.mk (below_step bl_ hb); clear BK284; clear BK285; clear HB; have BK284 := n0_; have BK285 := n1_; have HB := n2_; clear n0_ n1_ n2_; (try clear hb); (try clear hb2); (try clear hk); (try clear hi)))
    go_ret
    exact ⟨au10_8, bl_⟩
  · rw [if_neg c4] at H
    have c4b0 : decide (t286 < 0) = false := decide_eq_false c4
    clear c4
    replace H := Option.bind_eq_some_iff.mp H
    obtain ⟨⟨t287, t288, t289, t290⟩, A100, H⟩ := H
    replace H : ((laws_toSegment.f k a1_0 l1_1).bind fun bt291 => ((spec_SegmentText.f k t287 t288 t289 t290 bt291.1 bt291.2).bind fun t295 => ((laws_toSegment.f k a1_0 l1_1).bind fun bt296 => ((laws_toSyntax.f a0_0 a0_1 a0_2 a0_3).bind fun bt301 => ((impl_SegmentText.f k bt301.1 bt301.2.1 bt301.2.2.1 bt301.2.2.2 bt296.1 bt296.2).bind fun t305 => (if t305.toList = t295.toList then ((laws_toSegment.f k a1_0 l1_1).bind fun bt306 => ((laws_eqSegment.f k bt296.1 bt296.2 bt306.1 bt306.2).bind fun t310 => (if t310 = true then (some true) else (some false)))) else (some false))))))) = some r := H
    have A10 := Aside0.mk A100
    clear A100
    replace H := Option.bind_eq_some_iff.mp H
    obtain ⟨⟨t291, t292⟩, A110, H⟩ := H
    replace H : ((spec_SegmentText.f k t287 t288 t289 t290 t291 t292).bind fun t295 => ((laws_toSegment.f k a1_0 l1_1).bind fun bt296 => ((laws_toSyntax.f a0_0 a0_1 a0_2 a0_3).bind fun bt301 => ((impl_SegmentText.f k bt301.1 bt301.2.1 bt301.2.2.1 bt301.2.2.2 bt296.1 bt296.2).bind fun t305 => (if t305.toList = t295.toList then ((laws_toSegment.f k a1_0 l1_1).bind fun bt306 => ((laws_eqSegment.f k bt296.1 bt296.2 bt306.1 bt306.2).bind fun t310 => (if t310 = true then (some true) else (some false)))) else (some false)))))) = some r := H
    have A11 := Aside0.mk A110
    clear A110
    replace H := Option.bind_eq_some_iff.mp H
    obtain ⟨t295, A120, H⟩ := H
    replace H : ((laws_toSegment.f k a1_0 l1_1).bind fun bt296 => ((laws_toSyntax.f a0_0 a0_1 a0_2 a0_3).bind fun bt301 => ((impl_SegmentText.f k bt301.1 bt301.2.1 bt301.2.2.1 bt301.2.2.2 bt296.1 bt296.2).bind fun t305 => (if t305.toList = t295.toList then ((laws_toSegment.f k a1_0 l1_1).bind fun bt306 => ((laws_eqSegment.f k bt296.1 bt296.2 bt306.1 bt306.2).bind fun t310 => (if t310 = true then (some true) else (some false)))) else (some false))))) = some r := H
    have A12 := Aside0.mk A120
    clear A120
    replace H := Option.bind_eq_some_iff.mp H
    obtain ⟨⟨t296, t297⟩, A130, H⟩ := H
    replace H : ((laws_toSyntax.f a0_0 a0_1 a0_2 a0_3).bind fun bt301 => ((impl_SegmentText.f k bt301.1 bt301.2.1 bt301.2.2.1 bt301.2.2.2 t296 t297).bind fun t305 => (if t305.toList = t295.toList then ((laws_toSegment.f k a1_0 l1_1).bind fun bt306 => ((laws_eqSegment.f k t296 t297 bt306.1 bt306.2).bind fun t310 => (if t310 = true then (some true) else (some false)))) else (some false)))) = some r := H
    have A13 := Aside0.mk A130
    clear A130
    replace H := Option.bind_eq_some_iff.mp H
    obtain ⟨⟨t301, t302, t303, t304⟩, A140, H⟩ := H
    replace H : ((impl_SegmentText.f k t301 t302 t303 t304 t296 t297).bind fun t305 => (if t305.toList = t295.toList then ((laws_toSegment.f k a1_0 l1_1).bind fun bt306 => ((laws_eqSegment.f k t296 t297 bt306.1 bt306.2).bind fun t310 => (if t310 = true then (some true) else (some false)))) else (some false))) = some r := H
    have A14 := Aside0.mk A140
    clear A140
    replace H := Option.bind_eq_some_iff.mp H
    obtain ⟨t305, A150, H⟩ := H
    replace H : (if t305.toList = t295.toList then ((laws_toSegment.f k a1_0 l1_1).bind fun bt306 => ((laws_eqSegment.f k t296 t297 bt306.1 bt306.2).bind fun t310 => (if t310 = true then (some true) else (some false)))) else (some false)) = some r := H
    have A15 := Aside0.mk A150
    clear A150
    by_cases c16 : t305.toList = t295.toList
    · rw [if_pos c16] at H
      have c16b0 : (t305.toList == t295.toList) = true := beq_iff_eq.mpr c16
      have c16b1 : (t305.toList != t295.toList) = false := bne_eq_false_iff_eq.mpr c16
      clear c16
      replace H := Option.bind_eq_some_iff.mp H
      obtain ⟨⟨t306, t307⟩, A170, H⟩ := H
      replace H : ((laws_eqSegment.f k t296 t297 t306 t307).bind fun t310 => (if t310 = true then (some true) else (some false))) = some r := H
      have A17 := Aside0.mk A170
      clear A170
      replace H := Option.bind_eq_some_iff.mp H
      obtain ⟨t310, A180, H⟩ := H
      replace H : (if t310 = true then (some true) else (some false)) = some r := H
      have A18 := Aside0.mk A180
      clear A180
      by_cases c19 : t310 = true
      · subst c19
        have H1 : (some true) = some r := by rw [if_pos rfl] at H; exact H
        clear H
        have H := H1
        clear H1
        obtain rfl := Option.some.inj H
        go_enter Try.func10, Try.ntmps10
        try go_wp2_with (first | ((with_reducible refine gate_dst (N := 2) rfl ?_); refine box_event ?hg (N := 2) ?hd (cs := #[.int .i64 a0_0, .int .i64 a0_1, .int .i64 a0_2, .int .i64 a0_3]) (t := 29) ?hr ?_; (case hd => rfl); (case hg => rfl); (case hr => exact hr_); intro gb284 hg w20 hbox hb; have n0_ := Aside0.mk (below_step bl_ hb); have n1_ := Aside0.mk (hbox); have n2_ := Aside0.mk (gw_ hg bl_); have n3_ := Aside0.mk (gw_ hg bl_); clear HB; have HB := n0_; have BK284 := n1_; have GW284 := n2_; have GE284 := n3_; clear n0_ n1_ n2_ n3_; clear hb hbox hg) | ((with_reducible refine gate_dst (N := 3) rfl ?_); refine box_event ?hg (N := 3) ?hd (cs := #[.string a1_0, .slice A1_1 l1_1.length c1_1]) (t := 54) ?hr ?_; (case hd => rfl); (case hg => rfl); (case hr => exact hr_); intro gb285 hg w21 hbox hb; have n0_ := Aside0.mk (blkb_ BK284 hb); have n1_ := Aside0.mk (below_step bl_ hb); have n2_ := Aside0.mk (hbox); have n3_ := Aside0.mk (gw_ hg bl_); have n4_ := Aside0.mk (gw_ hg bl_); have n5_ := Aside0.mk (gn_ hg (blkl_ BK284)); have n6_ := Aside0.mk (gm_ hg (blkl_ BK284)); clear BK284; clear HB; have BK284 := n0_; have HB := n1_; have BK285 := n2_; have GW285 := n3_; have GE285 := n4_; have NB284_285 := n5_; have NB285_284 := n6_; clear n0_ n1_ n2_ n3_ n4_ n5_ n6_; clear hb hbox hg; have hnb22 := NB285_284.out; have hnc22 := NB284_285.out; obtain ⟨hcz23_0, hcz23_1, hfz23_0, hfz23_1⟩ := cellsF2 BK285.out) | ((with_reducible refine gate_callee (f := 33) rfl ?_); refine gl_ 11 Try.func33 #[.agg #[.string a1_0, .slice A1_1 l1_1.length c1_1], .int .i64 1048576] ?_ rfl rfl rfl rfl; (with_reducible refine (laws_szSegment.calls k a1_0 _ _ l1_1 1048576 t286 _ ?side1 ?side2 A3.out).mono ?_); (case side1 => exact au10_1); (case side2 => exact HC1_1.out); rintro e w24 ⟨rfl, hb⟩; refine ⟨_, rfl, ?_⟩; have n0_ := Aside0.mk (blkb_ BK284 hb); have n1_ := Aside0.mk (blkb_ BK285 hb); have n2_ := Aside0.mk (below_step bl_ hb); clear BK284; clear BK285; clear HB; have BK284 := n0_; have BK285 := n1_; have HB := n2_; clear n0_ n1_ n2_; (try clear hb); (try clear hb2); (try clear hk); (try clear hi)))
        have n0_ := Aside0.mk (blk_drew BK284.out)
        have n1_ := Aside0.mk (blk_drew BK285.out)
        have n2_ := Aside0.mk (below_drew1 HB.out)
        clear BK284
        clear BK285
        clear HB
        have BK284 := n0_
        have BK285 := n1_
        have HB := n2_
        clear n0_ n1_ n2_
        refine start_ (n := 6) (S := fun w' => w'.cell? ⟨gb284, 0, none⟩ = some (.int .i64 a0_0) ∧ w'.cell? ⟨gb284, 1, none⟩ = some (.int .i64 a0_1) ∧ w'.cell? ⟨gb284, 2, none⟩ = some (.int .i64 a0_2) ∧ w'.cell? ⟨gb284, 3, none⟩ = some (.int .i64 a0_3) ∧ w'.cell? ⟨gb285, 0, none⟩ = some (.string a1_0) ∧ w'.cell? ⟨gb285, 1, none⟩ = some (.slice A1_1 l1_1.length c1_1)) (ds := []) (bs 6 0) (by kernel_rfl) rfl rfl ⟨(blk_cell BK284.out 0).trans rfl, (blk_cell BK284.out 1).trans rfl, (blk_cell BK284.out 2).trans rfl, (blk_cell BK284.out 3).trans rfl, (blk_cell BK285.out 0).trans rfl, (blk_cell BK285.out 1).trans rfl⟩ (fun hHeld => ?_)
        generalize w24.drew = w25 at BK284 BK285 HB hHeld ⊢
        refine take_ (i := 0) (N := some 14) (v := ?_) (a' := ?_) (bs 6 1) rfl rfl (by kernel_rfl) (fun _ _ _ h => h) (Or.inl ⟨by rfl, ?_⟩) hHeld ?_ ?_
        rotate_left
        · rintro w' ⟨s0, s1, s2, s3, s4, s5⟩
          go_simp
          with_reducible rfl
        rotate_left
        · simp only [Act.put, List.setIfInBounds_toArray, List.set_cons_zero, List.set_cons_succ, i64_w, i32_w]
          rfl
        refine take_ (i := 2) (N := some 16) (v := ?_) (a' := ?_) (bs 6 5) rfl rfl (by kernel_rfl) (fun _ _ _ h => h) (Or.inl ⟨by rfl, ?_⟩) hHeld ?_ ?_
        rotate_left
        · rintro w' ⟨s0, s1, s2, s3, s4, s5⟩
          go_simp
          with_reducible rfl
        rotate_left
        · simp only [Act.put, List.setIfInBounds_toArray, List.set_cons_zero, List.set_cons_succ, i64_w, i32_w]
          rfl
        refine one_ (i := 1) (N := some 15) (bs 6 7) rfl rfl (by kernel_rfl) (by decide) (fun K hK => ?_)
        refine gr_ Try.func19 #[.agg #[.int .i64 a0_0, .int .i64 a0_1, .int .i64 a0_2, .int .i64 a0_3]] (by rfl) ?_ rfl rfl rfl
        with_reducible refine (laws_toSyntax.calls a0_0 a0_1 a0_2 a0_3 t287 t288 t289 t290 _ A10.out).mono ?_
        rintro e w26 ⟨rfl, hb⟩
        refine ⟨_, rfl, ?_⟩
        have n0_ := Aside0.mk (blkb_ BK284 hb)
        have n1_ := Aside0.mk (blkb_ BK285 hb)
        have n2_ := Aside0.mk (below_step bl_ hb)
        clear BK284
        clear BK285
        clear HB
        have BK284 := n0_
        have BK285 := n1_
        have HB := n2_
        clear n0_ n1_ n2_
        (try clear hb)
        (try clear hb2)
        (try clear hk)
        (try clear hi)
        refine hK.out _ _ ⟨(blk_cell BK284.out 0).trans rfl, (blk_cell BK284.out 1).trans rfl, (blk_cell BK284.out 2).trans rfl, (blk_cell BK284.out 3).trans rfl, (blk_cell BK285.out 0).trans rfl, (blk_cell BK285.out 1).trans rfl⟩ (fun hHeld => ?_)
        clear hK K
        refine norm_ (a' := ?_) ?_ ?_
        rotate_left
        · show Act.put _ (some 15) _ = _
          simp only [Act.put, List.setIfInBounds_toArray, List.set_cons_zero, List.set_cons_succ, i64_w, i32_w]
          rfl
        refine one_ (i := 3) (N := some 17) (bs 6 15) rfl rfl (by kernel_rfl) (by decide) (fun K hK => ?_)
        refine gr_ Try.func35 #[.agg #[.string a1_0, .slice A1_1 l1_1.length c1_1]] (by rfl) ?_ rfl rfl rfl
        with_reducible refine (laws_toSegment.calls k a1_0 _ _ l1_1 t291 t292 _ ?side1 ?side2 A11.out).mono ?_
        (case side1 => exact au10_1)
        (case side2 => exact HC1_1.out)
        rintro e w27 ⟨v293, rfl, ho0, hb⟩
        refine ⟨_, rfl, ?_⟩
        have n0_ := Aside0.mk (Kd.S_lower ho0 (below_size bl_))
        have n1_ := Aside0.mk (blkb_ BK284 hb)
        have n2_ := Aside0.mk (blkb_ BK285 hb)
        have n3_ := Aside0.mk (below_step bl_ hb)
        clear BK284
        clear BK285
        clear HB
        have HO294 := n0_
        have BK284 := n1_
        have BK285 := n2_
        have HB := n3_
        clear n0_ n1_ n2_ n3_
        (try clear hb)
        (try clear hb2)
        (try clear hk)
        (try clear hi)
        (try clear ho0)
        obtain ⟨Ao28, co28, eo28⟩ := Kd.S_slice HO294.out
        (first | subst eo28 | (injection eo28 with f1_ f2_ f3_; have f4_ := f1_.symm; have f5_ := f3_.symm; clear f1_ f2_ f3_; subst f4_; subst f5_))
        refine hK.out _ _ ⟨(blk_cell BK284.out 0).trans rfl, (blk_cell BK284.out 1).trans rfl, (blk_cell BK284.out 2).trans rfl, (blk_cell BK284.out 3).trans rfl, (blk_cell BK285.out 0).trans rfl, (blk_cell BK285.out 1).trans rfl⟩ (fun hHeld => ?_)
        clear hK K
        refine norm_ (a' := ?_) ?_ ?_
        rotate_left
        · show Act.put _ (some 17) _ = _
          simp only [Act.put, List.setIfInBounds_toArray, List.set_cons_zero, List.set_cons_succ, i64_w, i32_w]
          rfl
        refine one_ (i := 4) (N := some 18) (bs 6 31) rfl rfl (by kernel_rfl) (by decide) (fun K hK => ?_)
        refine gr_ Try.func38 #[.agg #[.int .i64 t287, .int .i64 t288, .int .i64 t289, .int .i64 t290], .agg #[.string t291, .slice Ao28 t292.length co28]] (by rfl) ?_ rfl rfl rfl
        with_reducible refine (spec_SegmentText.calls k t287 t288 t289 t290 t291 _ _ t292 t295 _ ?side1 ?side2 A12.out).mono ?_
        (case side1 => exact au10_7)
        (case side2 => exact (Kd.S_reads' HO294.out).2.1)
        rintro e w29 ⟨rfl, hb⟩
        refine ⟨_, rfl, ?_⟩
        have n0_ := Aside0.mk (Kd.S_below au10_0 hb)
        have n1_ := Aside0.mk (blkb_ BK284 hb)
        have n2_ := Aside0.mk (blkb_ BK285 hb)
        have n3_ := Aside0.mk (below_step bl_ hb)
        clear HO294
        clear BK284
        clear BK285
        clear HB
        have HO294 := n0_
        have BK284 := n1_
        have BK285 := n2_
        have HB := n3_
        clear n0_ n1_ n2_ n3_
        (try clear hb)
        (try clear hb2)
        (try clear hk)
        (try clear hi)
        refine hK.out _ _ ⟨(blk_cell BK284.out 0).trans rfl, (blk_cell BK284.out 1).trans rfl, (blk_cell BK284.out 2).trans rfl, (blk_cell BK284.out 3).trans rfl, (blk_cell BK285.out 0).trans rfl, (blk_cell BK285.out 1).trans rfl⟩ (fun hHeld => ?_)
        clear hK K
        refine norm_ (a' := ?_) ?_ ?_
        rotate_left
        · show Act.put _ (some 18) _ = _
          simp only [Act.put, List.setIfInBounds_toArray, List.set_cons_zero, List.set_cons_succ, i64_w, i32_w]
          rfl
        refine pure_ (i := 5) (N := some 6) (v := ?_) (a' := ?_) (bs 6 63) rfl rfl (by kernel_rfl) (fun _ _ _ h => h) (Or.inl ⟨by rfl, ?_⟩) ?_ ?_
        rotate_left
        · intro w'
          go_simp
          with_reducible rfl
        rotate_left
        · simp only [Act.put, List.setIfInBounds_toArray, List.set_cons_zero, List.set_cons_succ, i64_w, i32_w]
          rfl
        refine done_ (by kernel_rfl) ?_
        obtain ⟨hcz30_0, hcz30_1, hfz30_0, hfz30_1⟩ := cellsF2 BK285.out
        try go_wp2_with (first | ((with_reducible refine gate_callee (f := 35) rfl ?_); refine gl_ 20 Try.func35 #[.agg #[.string a1_0, .slice A1_1 l1_1.length c1_1]] ?_ rfl rfl rfl rfl; (with_reducible refine (laws_toSegment.calls k a1_0 _ _ l1_1 t296 t297 _ ?side1 ?side2 A13.out).mono ?_); (case side1 => exact au10_1); (case side2 => exact HC1_1.out); rintro e w31 ⟨v298, rfl, ho0, hb⟩; refine ⟨_, rfl, ?_⟩; have n0_ := Aside0.mk (Kd.S_elder' au10_0 (Kd.S_base ho0) hb); have n1_ := Aside0.mk (Kd.S_lower (Kd.S_new' ho0 (Kd.S_lt au10_0)) (below_size bl_)); have n2_ := Aside0.mk (blkb_ BK284 hb); have n3_ := Aside0.mk (blkb_ BK285 hb); have n4_ := Aside0.mk (below_step bl_ hb); clear HO294; clear BK284; clear BK285; clear HB; have HO294 := n0_; have HO299 := n1_; have BK284 := n2_; have BK285 := n3_; have HB := n4_; clear n0_ n1_ n2_ n3_ n4_; (try clear hb); (try clear hb2); (try clear hk); (try clear hi); (try clear ho0)) | ((with_reducible refine gate_dst (N := 7) rfl ?_); refine box_event ?hg (N := 7) ?hd (cs := #[.string (⟨#[]⟩ : ByteArray), .slice none 0 0]) (t := 59) ?hr ?_; (case hd => rfl); (case hg => rfl); (case hr => exact hr_); intro gb300 hg w32 hbox hb; have n0_ := Aside0.mk (Kd.S_below au10_0 hb); have n1_ := Aside0.mk (Kd.S_below au10_2 hb); have n2_ := Aside0.mk (blkb_ BK284 hb); have n3_ := Aside0.mk (blkb_ BK285 hb); have n4_ := Aside0.mk (below_step bl_ hb); have n5_ := Aside0.mk (hbox); have n6_ := Aside0.mk (gw_ hg bl_); have n7_ := Aside0.mk (gw_ hg bl_); have n8_ := Aside0.mk (gn_ hg (blkl_ BK284)); have n9_ := Aside0.mk (gm_ hg (blkl_ BK284)); have n10_ := Aside0.mk (gn_ hg (blkl_ BK285)); have n11_ := Aside0.mk (gm_ hg (blkl_ BK285)); clear HO294; clear HO299; clear BK284; clear BK285; clear HB; have HO294 := n0_; have HO299 := n1_; have BK284 := n2_; have BK285 := n3_; have HB := n4_; have BK300 := n5_; have GW300 := n6_; have GE300 := n7_; have NB284_300 := n8_; have NB300_284 := n9_; have NB285_300 := n10_; have NB300_285 := n11_; clear n0_ n1_ n2_ n3_ n4_ n5_ n6_ n7_ n8_ n9_ n10_ n11_; clear hb hbox hg; have hnb33 := NB300_284.out; have hnc33 := NB284_300.out; have hnb34 := NB300_285.out; have hnc34 := NB285_300.out; obtain ⟨hcz35_0, hcz35_1, hfz35_0, hfz35_1⟩ := cellsF2 BK300.out; obtain ⟨Ao36, co36, eo36⟩ := Kd.S_slice HO299.out; subst eo36))
        have n0_ : Aside0 (Kd.S k102 102 ((w32.setCell ⟨gb300, 0, none⟩ (.string t296)).setCell ⟨gb300, 1, none⟩ (.slice Ao36 t297.length co36)) w.heap.size (fun k_ => some k_ ≠ (.slice Ao36 t297.length co36 : Value).ownBlock) (.slice Ao28 t292.length co28) t292) := ⟨by (with_reducible repeat (first | apply Kd.S_alloc | apply Kd.S_drewN | apply Kd.S_drew)); exact Kd.S_mono (Kd.S_far (p := ⟨gb300, 1, none⟩) (Kd.S_far (p := ⟨gb300, 0, none⟩) (Kd.S_types HO294.out BK300.out (by decide)) (fun _ hk => hk.2) (.string t296)) (fun _ hk => hk.2) (.slice Ao36 t297.length co36)) (fun _ hk => hk.1.2)⟩
        have n1_ : Aside0 (Kd.S k102 102 ((w32.setCell ⟨gb300, 0, none⟩ (.string t296)).setCell ⟨gb300, 1, none⟩ (.slice Ao36 t297.length co36)) w.heap.size (fun k_ => some k_ ≠ (.slice Ao28 t292.length co28 : Value).ownBlock) (.slice Ao36 t297.length co36) t297) := ⟨by (with_reducible repeat (first | apply Kd.S_alloc | apply Kd.S_drewN | apply Kd.S_drew)); exact Kd.S_mono (Kd.S_far (p := ⟨gb300, 1, none⟩) (Kd.S_far (p := ⟨gb300, 0, none⟩) (Kd.S_types HO299.out BK300.out (by decide)) (fun _ hk => hk.2) (.string t296)) (fun _ hk => hk.2) (.slice Ao36 t297.length co36)) (fun _ hk => hk.1.2)⟩
        have n2_ : Aside0 (((w32.setCell ⟨gb300, 0, none⟩ (.string t296)).setCell ⟨gb300, 1, none⟩ (.slice Ao36 t297.length co36)).heap[gb284]? = some (.cells #[.int .i64 a0_0, .int .i64 a0_1, .int .i64 a0_2, .int .i64 a0_3] 29 (0, 0))) := ⟨au10_4⟩
        have n3_ : Aside0 (((w32.setCell ⟨gb300, 0, none⟩ (.string t296)).setCell ⟨gb300, 1, none⟩ (.slice Ao36 t297.length co36)).heap[gb285]? = some (.cells #[.string a1_0, .slice A1_1 l1_1.length c1_1] 54 (0, 0))) := ⟨au10_5⟩
        have n4_ : Aside0 (((w32.setCell ⟨gb300, 0, none⟩ (.string t296)).setCell ⟨gb300, 1, none⟩ (.slice Ao36 t297.length co36)).heap[gb300]? = some (.cells #[.string t296, .slice Ao36 t297.length co36] 59 (0, 0))) := ⟨au10_3⟩
        have n5_ : Aside0 (Below w.heap.size w ((w32.setCell ⟨gb300, 0, none⟩ (.string t296)).setCell ⟨gb300, 1, none⟩ (.slice Ao36 t297.length co36))) := ⟨bl_⟩
        (try clear HO294)
        (try clear HO299)
        (try clear BK284)
        (try clear BK285)
        (try clear BK300)
        (try clear HB)
        generalize ((w32.setCell ⟨gb300, 0, none⟩ (.string t296)).setCell ⟨gb300, 1, none⟩ (.slice Ao36 t297.length co36)) = w37 at n0_ n1_ n2_ n3_ n4_ n5_ ⊢
        have HO294 := n0_
        have HO299 := n1_
        have BK284 := n2_
        have BK285 := n3_
        have BK300 := n4_
        have HB := n5_
        clear n0_ n1_ n2_ n3_ n4_ n5_
        have n0_ := Aside0.mk (Kd.S_drew HO294.out)
        have n1_ := Aside0.mk (Kd.S_drew HO299.out)
        have n2_ := Aside0.mk (blk_drew BK284.out)
        have n3_ := Aside0.mk (blk_drew BK285.out)
        have n4_ := Aside0.mk (blk_drew BK300.out)
        have n5_ := Aside0.mk (below_drew1 HB.out)
        clear HO294
        clear HO299
        clear BK284
        clear BK285
        clear BK300
        clear HB
        have HO294 := n0_
        have HO299 := n1_
        have BK284 := n2_
        have BK285 := n3_
        have BK300 := n4_
        have HB := n5_
        clear n0_ n1_ n2_ n3_ n4_ n5_
        refine start_ (n := 5) (S := fun w' => w'.cell? ⟨gb284, 0, none⟩ = some (.int .i64 a0_0) ∧ w'.cell? ⟨gb284, 1, none⟩ = some (.int .i64 a0_1) ∧ w'.cell? ⟨gb284, 2, none⟩ = some (.int .i64 a0_2) ∧ w'.cell? ⟨gb284, 3, none⟩ = some (.int .i64 a0_3) ∧ w'.cell? ⟨gb300, 0, none⟩ = some (.string t296) ∧ w'.cell? ⟨gb300, 1, none⟩ = some (.slice Ao36 t297.length co36)) (ds := []) #[false, false, false, false, false] (by kernel_rfl) rfl rfl ⟨(blk_cell BK284.out 0).trans rfl, (blk_cell BK284.out 1).trans rfl, (blk_cell BK284.out 2).trans rfl, (blk_cell BK284.out 3).trans rfl, (blk_cell BK300.out 0).trans rfl, (blk_cell BK300.out 1).trans rfl⟩ (fun hHeld => ?_)
        generalize w37.drew = w38 at HO294 HO299 BK284 BK285 BK300 HB hHeld ⊢
        refine take_ (i := 0) (N := some 21) (v := ?_) (a' := ?_) #[true, false, false, false, false] rfl rfl (by kernel_rfl) (fun _ _ _ h => h) (Or.inl ⟨by rfl, ?_⟩) hHeld ?_ ?_
        rotate_left
        · rintro w' ⟨s0, s1, s2, s3, s4, s5⟩
          go_simp
          with_reducible rfl
        rotate_left
        · simp only [Act.put, List.setIfInBounds_toArray, List.set_cons_zero, List.set_cons_succ, i64_w, i32_w]
          rfl
        refine take_ (i := 2) (N := some 23) (v := ?_) (a' := ?_) #[true, false, true, false, false] rfl rfl (by kernel_rfl) (fun _ _ _ h => h) (Or.inl ⟨by rfl, ?_⟩) hHeld ?_ ?_
        rotate_left
        · rintro w' ⟨s0, s1, s2, s3, s4, s5⟩
          go_simp
          with_reducible rfl
        rotate_left
        · simp only [Act.put, List.setIfInBounds_toArray, List.set_cons_zero, List.set_cons_succ, i64_w, i32_w]
          rfl
        refine one_ (i := 1) (N := some 22) #[true, true, true, false, false] rfl rfl (by kernel_rfl) (by decide) (fun K hK => ?_)
        refine gr_ Try.func19 #[.agg #[.int .i64 a0_0, .int .i64 a0_1, .int .i64 a0_2, .int .i64 a0_3]] (by rfl) ?_ rfl rfl rfl
        with_reducible refine (laws_toSyntax.calls a0_0 a0_1 a0_2 a0_3 t301 t302 t303 t304 _ A14.out).mono ?_
        rintro e w39 ⟨rfl, hb⟩
        refine ⟨_, rfl, ?_⟩
        have n0_ := Aside0.mk (Kd.S_below au10_0 hb)
        have n1_ := Aside0.mk (Kd.S_below au10_2 hb)
        have n2_ := Aside0.mk (blkb_ BK284 hb)
        have n3_ := Aside0.mk (blkb_ BK285 hb)
        have n4_ := Aside0.mk (blkb_ BK300 hb)
        have n5_ := Aside0.mk (below_step bl_ hb)
        clear HO294
        clear HO299
        clear BK284
        clear BK285
        clear BK300
        clear HB
        have HO294 := n0_
        have HO299 := n1_
        have BK284 := n2_
        have BK285 := n3_
        have BK300 := n4_
        have HB := n5_
        clear n0_ n1_ n2_ n3_ n4_ n5_
        (try clear hb)
        (try clear hb2)
        (try clear hk)
        (try clear hi)
        refine hK.out _ _ ⟨(blk_cell BK284.out 0).trans rfl, (blk_cell BK284.out 1).trans rfl, (blk_cell BK284.out 2).trans rfl, (blk_cell BK284.out 3).trans rfl, (blk_cell BK300.out 0).trans rfl, (blk_cell BK300.out 1).trans rfl⟩ (fun hHeld => ?_)
        clear hK K
        refine norm_ (a' := ?_) ?_ ?_
        rotate_left
        · show Act.put _ (some 22) _ = _
          simp only [Act.put, List.setIfInBounds_toArray, List.set_cons_zero, List.set_cons_succ, i64_w, i32_w]
          rfl
        refine one_ (i := 3) (N := some 24) #[true, true, true, true, false] rfl rfl (by kernel_rfl) (by decide) (fun K hK => ?_)
        refine gr_ Try.func39 #[.agg #[.int .i64 t301, .int .i64 t302, .int .i64 t303, .int .i64 t304], .agg #[.string t296, .slice Ao36 t297.length co36]] (by rfl) ?_ rfl rfl rfl
        with_reducible refine (impl_SegmentText.calls k t301 t302 t303 t304 t296 _ _ t297 t305 _ ?side1 ?side2 A15.out).mono ?_
        (case side1 => exact au10_6)
        (case side2 => exact au10_11)
        rintro e w40 ⟨rfl, hb⟩
        refine ⟨_, rfl, ?_⟩
        have n0_ := Aside0.mk (Kd.S_below au10_0 hb)
        have n1_ := Aside0.mk (Kd.S_below au10_2 hb)
        have n2_ := Aside0.mk (blkb_ BK284 hb)
        have n3_ := Aside0.mk (blkb_ BK285 hb)
        have n4_ := Aside0.mk (blkb_ BK300 hb)
        have n5_ := Aside0.mk (below_step bl_ hb)
        clear HO294
        clear HO299
        clear BK284
        clear BK285
        clear BK300
        clear HB
        have HO294 := n0_
        have HO299 := n1_
        have BK284 := n2_
        have BK285 := n3_
        have BK300 := n4_
        have HB := n5_
        clear n0_ n1_ n2_ n3_ n4_ n5_
        (try clear hb)
        (try clear hb2)
        (try clear hk)
        (try clear hi)
        refine hK.out _ _ ⟨(blk_cell BK284.out 0).trans rfl, (blk_cell BK284.out 1).trans rfl, (blk_cell BK284.out 2).trans rfl, (blk_cell BK284.out 3).trans rfl, (blk_cell BK300.out 0).trans rfl, (blk_cell BK300.out 1).trans rfl⟩ (fun hHeld => ?_)
        clear hK K
        refine norm_ (a' := ?_) ?_ ?_
        rotate_left
        · show Act.put _ (some 24) _ = _
          simp only [Act.put, List.setIfInBounds_toArray, List.set_cons_zero, List.set_cons_succ, i64_w, i32_w]
          rfl
        refine pure_ (i := 4) (N := some 8) (v := ?_) (a' := ?_) #[true, true, true, true, true] rfl rfl (by kernel_rfl) (fun _ _ _ h => h) (Or.inl ⟨by rfl, ?_⟩) ?_ ?_
        rotate_left
        · intro w'
          go_simp
          with_reducible rfl
        rotate_left
        · simp only [Act.put, List.setIfInBounds_toArray, List.set_cons_zero, List.set_cons_succ, i64_w, i32_w]
          rfl
        refine done_ (by kernel_rfl) ?_
        try go_wp2
        have n0_ := Aside0.mk (Kd.S_drew HO294.out)
        have n1_ := Aside0.mk (Kd.S_drew HO299.out)
        have n2_ := Aside0.mk (blk_drew BK284.out)
        have n3_ := Aside0.mk (blk_drew BK285.out)
        have n4_ := Aside0.mk (blk_drew BK300.out)
        have n5_ := Aside0.mk (below_drew1 HB.out)
        clear HO294
        clear HO299
        clear BK284
        clear BK285
        clear BK300
        clear HB
        have HO294 := n0_
        have HO299 := n1_
        have BK284 := n2_
        have BK285 := n3_
        have BK300 := n4_
        have HB := n5_
        clear n0_ n1_ n2_ n3_ n4_ n5_
        refine start_ (n := 5) (S := fun w' => w'.cell? ⟨gb300, 0, none⟩ = some (.string t296) ∧ w'.cell? ⟨gb300, 1, none⟩ = some (.slice Ao36 t297.length co36) ∧ w'.cell? ⟨gb285, 0, none⟩ = some (.string a1_0) ∧ w'.cell? ⟨gb285, 1, none⟩ = some (.slice A1_1 l1_1.length c1_1)) (ds := []) #[false, false, false, false, false] (by kernel_rfl) rfl rfl ⟨(blk_cell BK300.out 0).trans rfl, (blk_cell BK300.out 1).trans rfl, (blk_cell BK285.out 0).trans rfl, (blk_cell BK285.out 1).trans rfl⟩ (fun hHeld => ?_)
        generalize w40.drew = w41 at HO294 HO299 BK284 BK285 BK300 HB hHeld ⊢
        refine take_ (i := 0) (N := some 28) (v := ?_) (a' := ?_) #[true, false, false, false, false] rfl rfl (by kernel_rfl) (fun _ _ _ h => h) (Or.inl ⟨by rfl, ?_⟩) hHeld ?_ ?_
        rotate_left
        · rintro w' ⟨s0, s1, s2, s3⟩
          go_simp
          with_reducible rfl
        rotate_left
        · simp only [Act.put, List.setIfInBounds_toArray, List.set_cons_zero, List.set_cons_succ, i64_w, i32_w]
          rfl
        refine take_ (i := 1) (N := some 29) (v := ?_) (a' := ?_) #[true, true, false, false, false] rfl rfl (by kernel_rfl) (fun _ _ _ h => h) (Or.inl ⟨by rfl, ?_⟩) hHeld ?_ ?_
        rotate_left
        · rintro w' ⟨s0, s1, s2, s3⟩
          go_simp
          with_reducible rfl
        rotate_left
        · simp only [Act.put, List.setIfInBounds_toArray, List.set_cons_zero, List.set_cons_succ, i64_w, i32_w]
          rfl
        refine one_ (i := 2) (N := some 30) #[true, true, true, false, false] rfl rfl (by kernel_rfl) (by decide) (fun K hK => ?_)
        refine gr_ Try.func35 #[.agg #[.string a1_0, .slice A1_1 l1_1.length c1_1]] (by rfl) ?_ rfl rfl rfl
        with_reducible refine (laws_toSegment.calls k a1_0 _ _ l1_1 t306 t307 _ ?side1 ?side2 A17.out).mono ?_
        (case side1 => exact au10_1)
        (case side2 => exact HC1_1.out)
        rintro e w42 ⟨v308, rfl, ho0, hb⟩
        refine ⟨_, rfl, ?_⟩
        have n0_ := Aside0.mk (Kd.S_elder' au10_0 (Kd.S_base ho0) hb)
        have n1_ := Aside0.mk (Kd.S_elder' au10_2 (Kd.S_base ho0) hb)
        have n2_ := Aside0.mk (Kd.S_lower (Kd.S_new' (Kd.S_new' ho0 (Kd.S_lt au10_0)) (Kd.S_lt au10_2)) (below_size bl_))
        have n3_ := Aside0.mk (blkb_ BK284 hb)
        have n4_ := Aside0.mk (blkb_ BK285 hb)
        have n5_ := Aside0.mk (blkb_ BK300 hb)
        have n6_ := Aside0.mk (below_step bl_ hb)
        clear HO294
        clear HO299
        clear BK284
        clear BK285
        clear BK300
        clear HB
        have HO294 := n0_
        have HO299 := n1_
        have HO309 := n2_
        have BK284 := n3_
        have BK285 := n4_
        have BK300 := n5_
        have HB := n6_
        clear n0_ n1_ n2_ n3_ n4_ n5_ n6_
        (try clear hb)
        (try clear hb2)
        (try clear hk)
        (try clear hi)
        (try clear ho0)
        obtain ⟨Ao43, co43, eo43⟩ := Kd.S_slice HO309.out
        (first | subst eo43 | (injection eo43 with f1_ f2_ f3_; have f4_ := f1_.symm; have f5_ := f3_.symm; clear f1_ f2_ f3_; subst f4_; subst f5_))
        refine hK.out _ _ ⟨(blk_cell BK300.out 0).trans rfl, (blk_cell BK300.out 1).trans rfl, (blk_cell BK285.out 0).trans rfl, (blk_cell BK285.out 1).trans rfl⟩ (fun hHeld => ?_)
        clear hK K
        refine norm_ (a' := ?_) ?_ ?_
        rotate_left
        · show Act.put _ (some 30) _ = _
          simp only [Act.put, List.setIfInBounds_toArray, List.set_cons_zero, List.set_cons_succ, i64_w, i32_w]
          rfl
        refine one_ (i := 3) (N := some 31) #[true, true, true, true, false] rfl rfl (by kernel_rfl) (by decide) (fun K hK => ?_)
        refine gr_ Try.func37 #[.agg #[.string t296, .slice Ao36 t297.length co36], .agg #[.string t306, .slice Ao43 t307.length co43]] (by rfl) ?_ rfl rfl rfl
        with_reducible refine (laws_eqSegment.calls k t296 _ _ t297 t306 _ _ t307 true _ ?side1 ?side2 ?side3 ?side4 A18.out).mono ?_
        (case side1 => exact au10_6)
        (case side2 => exact au10_11)
        (case side3 => exact au10_9)
        (case side4 => exact (Kd.S_reads' HO309.out).2.1)
        rintro e w44 ⟨rfl, hb⟩
        refine ⟨_, rfl, ?_⟩
        have n0_ := Aside0.mk (Kd.S_below au10_0 hb)
        have n1_ := Aside0.mk (Kd.S_below au10_2 hb)
        have n2_ := Aside0.mk (Kd.S_below au10_10 hb)
        have n3_ := Aside0.mk (blkb_ BK284 hb)
        have n4_ := Aside0.mk (blkb_ BK285 hb)
        have n5_ := Aside0.mk (blkb_ BK300 hb)
        have n6_ := Aside0.mk (below_step bl_ hb)
        clear HO294
        clear HO299
        clear HO309
        clear BK284
        clear BK285
        clear BK300
        clear HB
        have HO294 := n0_
        have HO299 := n1_
        have HO309 := n2_
        have BK284 := n3_
        have BK285 := n4_
        have BK300 := n5_
        have HB := n6_
        clear n0_ n1_ n2_ n3_ n4_ n5_ n6_
        (try clear hb)
        (try clear hb2)
        (try clear hk)
        (try clear hi)
        refine hK.out _ _ ⟨(blk_cell BK300.out 0).trans rfl, (blk_cell BK300.out 1).trans rfl, (blk_cell BK285.out 0).trans rfl, (blk_cell BK285.out 1).trans rfl⟩ (fun hHeld => ?_)
        clear hK K
        refine norm_ (a' := ?_) ?_ ?_
        rotate_left
        · show Act.put _ (some 31) _ = _
          simp only [Act.put, List.setIfInBounds_toArray, List.set_cons_zero, List.set_cons_succ, i64_w, i32_w]
          rfl
        refine pure_ (i := 4) (N := some 32) (v := ?_) (a' := ?_) #[true, true, true, true, true] rfl rfl (by kernel_rfl) (fun _ _ _ h => h) (Or.inl ⟨by rfl, ?_⟩) ?_ ?_
        rotate_left
        · intro w'
          go_simp
          with_reducible rfl
        rotate_left
        · simp only [Act.put, List.setIfInBounds_toArray, List.set_cons_zero, List.set_cons_succ, i64_w, i32_w]
          rfl
        refine done_ (by kernel_rfl) ?_
        try go_wp2
        go_ret
        exact ⟨au10_8, bl_⟩
      · replace c19 := Bool.eq_false_iff.mpr c19
        subst c19
        have H1 : (some false) = some r := by rw [if_neg (show ¬ (false = true) by decide)] at H; exact H
        clear H
        have H := H1
        clear H1
        obtain rfl := Option.some.inj H
        go_enter Try.func10, Try.ntmps10
        try go_wp2_with (first | ((with_reducible refine gate_dst (N := 2) rfl ?_); refine box_event ?hg (N := 2) ?hd (cs := #[.int .i64 a0_0, .int .i64 a0_1, .int .i64 a0_2, .int .i64 a0_3]) (t := 29) ?hr ?_; (case hd => rfl); (case hg => rfl); (case hr => exact hr_); intro gb284 hg w45 hbox hb; have n0_ := Aside0.mk (below_step bl_ hb); have n1_ := Aside0.mk (hbox); have n2_ := Aside0.mk (gw_ hg bl_); have n3_ := Aside0.mk (gw_ hg bl_); clear HB; have HB := n0_; have BK284 := n1_; have GW284 := n2_; have GE284 := n3_; clear n0_ n1_ n2_ n3_; clear hb hbox hg) | ((with_reducible refine gate_dst (N := 3) rfl ?_); refine box_event ?hg (N := 3) ?hd (cs := #[.string a1_0, .slice A1_1 l1_1.length c1_1]) (t := 54) ?hr ?_; (case hd => rfl); (case hg => rfl); (case hr => exact hr_); intro gb285 hg w46 hbox hb; have n0_ := Aside0.mk (blkb_ BK284 hb); have n1_ := Aside0.mk (below_step bl_ hb); have n2_ := Aside0.mk (hbox); have n3_ := Aside0.mk (gw_ hg bl_); have n4_ := Aside0.mk (gw_ hg bl_); have n5_ := Aside0.mk (gn_ hg (blkl_ BK284)); have n6_ := Aside0.mk (gm_ hg (blkl_ BK284)); clear BK284; clear HB; have BK284 := n0_; have HB := n1_; have BK285 := n2_; have GW285 := n3_; have GE285 := n4_; have NB284_285 := n5_; have NB285_284 := n6_; clear n0_ n1_ n2_ n3_ n4_ n5_ n6_; clear hb hbox hg; have hnb47 := NB285_284.out; have hnc47 := NB284_285.out; obtain ⟨hcz48_0, hcz48_1, hfz48_0, hfz48_1⟩ := cellsF2 BK285.out) | ((with_reducible refine gate_callee (f := 33) rfl ?_); refine gl_ 11 Try.func33 #[.agg #[.string a1_0, .slice A1_1 l1_1.length c1_1], .int .i64 1048576] ?_ rfl rfl rfl rfl; (with_reducible refine (laws_szSegment.calls k a1_0 _ _ l1_1 1048576 t286 _ ?side1 ?side2 A3.out).mono ?_); (case side1 => exact au10_1); (case side2 => exact HC1_1.out); rintro e w49 ⟨rfl, hb⟩; refine ⟨_, rfl, ?_⟩; have n0_ := Aside0.mk (blkb_ BK284 hb); have n1_ := Aside0.mk (blkb_ BK285 hb); have n2_ := Aside0.mk (below_step bl_ hb); clear BK284; clear BK285; clear HB; have BK284 := n0_; have BK285 := n1_; have HB := n2_; clear n0_ n1_ n2_; (try clear hb); (try clear hb2); (try clear hk); (try clear hi)))
        have n0_ := Aside0.mk (blk_drew BK284.out)
        have n1_ := Aside0.mk (blk_drew BK285.out)
        have n2_ := Aside0.mk (below_drew1 HB.out)
        clear BK284
        clear BK285
        clear HB
        have BK284 := n0_
        have BK285 := n1_
        have HB := n2_
        clear n0_ n1_ n2_
        refine start_ (n := 6) (S := fun w' => w'.cell? ⟨gb284, 0, none⟩ = some (.int .i64 a0_0) ∧ w'.cell? ⟨gb284, 1, none⟩ = some (.int .i64 a0_1) ∧ w'.cell? ⟨gb284, 2, none⟩ = some (.int .i64 a0_2) ∧ w'.cell? ⟨gb284, 3, none⟩ = some (.int .i64 a0_3) ∧ w'.cell? ⟨gb285, 0, none⟩ = some (.string a1_0) ∧ w'.cell? ⟨gb285, 1, none⟩ = some (.slice A1_1 l1_1.length c1_1)) (ds := []) (bs 6 0) (by kernel_rfl) rfl rfl ⟨(blk_cell BK284.out 0).trans rfl, (blk_cell BK284.out 1).trans rfl, (blk_cell BK284.out 2).trans rfl, (blk_cell BK284.out 3).trans rfl, (blk_cell BK285.out 0).trans rfl, (blk_cell BK285.out 1).trans rfl⟩ (fun hHeld => ?_)
        generalize w49.drew = w50 at BK284 BK285 HB hHeld ⊢
        refine take_ (i := 0) (N := some 14) (v := ?_) (a' := ?_) (bs 6 1) rfl rfl (by kernel_rfl) (fun _ _ _ h => h) (Or.inl ⟨by rfl, ?_⟩) hHeld ?_ ?_
        rotate_left
        · rintro w' ⟨s0, s1, s2, s3, s4, s5⟩
          go_simp
          with_reducible rfl
        rotate_left
        · simp only [Act.put, List.setIfInBounds_toArray, List.set_cons_zero, List.set_cons_succ, i64_w, i32_w]
          rfl
        refine take_ (i := 2) (N := some 16) (v := ?_) (a' := ?_) (bs 6 5) rfl rfl (by kernel_rfl) (fun _ _ _ h => h) (Or.inl ⟨by rfl, ?_⟩) hHeld ?_ ?_
        rotate_left
        · rintro w' ⟨s0, s1, s2, s3, s4, s5⟩
          go_simp
          with_reducible rfl
        rotate_left
        · simp only [Act.put, List.setIfInBounds_toArray, List.set_cons_zero, List.set_cons_succ, i64_w, i32_w]
          rfl
        refine one_ (i := 1) (N := some 15) (bs 6 7) rfl rfl (by kernel_rfl) (by decide) (fun K hK => ?_)
        refine gr_ Try.func19 #[.agg #[.int .i64 a0_0, .int .i64 a0_1, .int .i64 a0_2, .int .i64 a0_3]] (by rfl) ?_ rfl rfl rfl
        with_reducible refine (laws_toSyntax.calls a0_0 a0_1 a0_2 a0_3 t287 t288 t289 t290 _ A10.out).mono ?_
        rintro e w51 ⟨rfl, hb⟩
        refine ⟨_, rfl, ?_⟩
        have n0_ := Aside0.mk (blkb_ BK284 hb)
        have n1_ := Aside0.mk (blkb_ BK285 hb)
        have n2_ := Aside0.mk (below_step bl_ hb)
        clear BK284
        clear BK285
        clear HB
        have BK284 := n0_
        have BK285 := n1_
        have HB := n2_
        clear n0_ n1_ n2_
        (try clear hb)
        (try clear hb2)
        (try clear hk)
        (try clear hi)
        refine hK.out _ _ ⟨(blk_cell BK284.out 0).trans rfl, (blk_cell BK284.out 1).trans rfl, (blk_cell BK284.out 2).trans rfl, (blk_cell BK284.out 3).trans rfl, (blk_cell BK285.out 0).trans rfl, (blk_cell BK285.out 1).trans rfl⟩ (fun hHeld => ?_)
        clear hK K
        refine norm_ (a' := ?_) ?_ ?_
        rotate_left
        · show Act.put _ (some 15) _ = _
          simp only [Act.put, List.setIfInBounds_toArray, List.set_cons_zero, List.set_cons_succ, i64_w, i32_w]
          rfl
        refine one_ (i := 3) (N := some 17) (bs 6 15) rfl rfl (by kernel_rfl) (by decide) (fun K hK => ?_)
        refine gr_ Try.func35 #[.agg #[.string a1_0, .slice A1_1 l1_1.length c1_1]] (by rfl) ?_ rfl rfl rfl
        with_reducible refine (laws_toSegment.calls k a1_0 _ _ l1_1 t291 t292 _ ?side1 ?side2 A11.out).mono ?_
        (case side1 => exact au10_1)
        (case side2 => exact HC1_1.out)
        rintro e w52 ⟨v293, rfl, ho0, hb⟩
        refine ⟨_, rfl, ?_⟩
        have n0_ := Aside0.mk (Kd.S_lower ho0 (below_size bl_))
        have n1_ := Aside0.mk (blkb_ BK284 hb)
        have n2_ := Aside0.mk (blkb_ BK285 hb)
        have n3_ := Aside0.mk (below_step bl_ hb)
        clear BK284
        clear BK285
        clear HB
        have HO294 := n0_
        have BK284 := n1_
        have BK285 := n2_
        have HB := n3_
        clear n0_ n1_ n2_ n3_
        (try clear hb)
        (try clear hb2)
        (try clear hk)
        (try clear hi)
        (try clear ho0)
        obtain ⟨Ao53, co53, eo53⟩ := Kd.S_slice HO294.out
        (first | subst eo53 | (injection eo53 with f1_ f2_ f3_; have f4_ := f1_.symm; have f5_ := f3_.symm; clear f1_ f2_ f3_; subst f4_; subst f5_))
        refine hK.out _ _ ⟨(blk_cell BK284.out 0).trans rfl, (blk_cell BK284.out 1).trans rfl, (blk_cell BK284.out 2).trans rfl, (blk_cell BK284.out 3).trans rfl, (blk_cell BK285.out 0).trans rfl, (blk_cell BK285.out 1).trans rfl⟩ (fun hHeld => ?_)
        clear hK K
        refine norm_ (a' := ?_) ?_ ?_
        rotate_left
        · show Act.put _ (some 17) _ = _
          simp only [Act.put, List.setIfInBounds_toArray, List.set_cons_zero, List.set_cons_succ, i64_w, i32_w]
          rfl
        refine one_ (i := 4) (N := some 18) (bs 6 31) rfl rfl (by kernel_rfl) (by decide) (fun K hK => ?_)
        refine gr_ Try.func38 #[.agg #[.int .i64 t287, .int .i64 t288, .int .i64 t289, .int .i64 t290], .agg #[.string t291, .slice Ao53 t292.length co53]] (by rfl) ?_ rfl rfl rfl
        with_reducible refine (spec_SegmentText.calls k t287 t288 t289 t290 t291 _ _ t292 t295 _ ?side1 ?side2 A12.out).mono ?_
        (case side1 => exact au10_7)
        (case side2 => exact (Kd.S_reads' HO294.out).2.1)
        rintro e w54 ⟨rfl, hb⟩
        refine ⟨_, rfl, ?_⟩
        have n0_ := Aside0.mk (Kd.S_below au10_0 hb)
        have n1_ := Aside0.mk (blkb_ BK284 hb)
        have n2_ := Aside0.mk (blkb_ BK285 hb)
        have n3_ := Aside0.mk (below_step bl_ hb)
        clear HO294
        clear BK284
        clear BK285
        clear HB
        have HO294 := n0_
        have BK284 := n1_
        have BK285 := n2_
        have HB := n3_
        clear n0_ n1_ n2_ n3_
        (try clear hb)
        (try clear hb2)
        (try clear hk)
        (try clear hi)
        refine hK.out _ _ ⟨(blk_cell BK284.out 0).trans rfl, (blk_cell BK284.out 1).trans rfl, (blk_cell BK284.out 2).trans rfl, (blk_cell BK284.out 3).trans rfl, (blk_cell BK285.out 0).trans rfl, (blk_cell BK285.out 1).trans rfl⟩ (fun hHeld => ?_)
        clear hK K
        refine norm_ (a' := ?_) ?_ ?_
        rotate_left
        · show Act.put _ (some 18) _ = _
          simp only [Act.put, List.setIfInBounds_toArray, List.set_cons_zero, List.set_cons_succ, i64_w, i32_w]
          rfl
        refine pure_ (i := 5) (N := some 6) (v := ?_) (a' := ?_) (bs 6 63) rfl rfl (by kernel_rfl) (fun _ _ _ h => h) (Or.inl ⟨by rfl, ?_⟩) ?_ ?_
        rotate_left
        · intro w'
          go_simp
          with_reducible rfl
        rotate_left
        · simp only [Act.put, List.setIfInBounds_toArray, List.set_cons_zero, List.set_cons_succ, i64_w, i32_w]
          rfl
        refine done_ (by kernel_rfl) ?_
        obtain ⟨hcz55_0, hcz55_1, hfz55_0, hfz55_1⟩ := cellsF2 BK285.out
        try go_wp2_with (first | ((with_reducible refine gate_callee (f := 35) rfl ?_); refine gl_ 20 Try.func35 #[.agg #[.string a1_0, .slice A1_1 l1_1.length c1_1]] ?_ rfl rfl rfl rfl; (with_reducible refine (laws_toSegment.calls k a1_0 _ _ l1_1 t296 t297 _ ?side1 ?side2 A13.out).mono ?_); (case side1 => exact au10_1); (case side2 => exact HC1_1.out); rintro e w56 ⟨v298, rfl, ho0, hb⟩; refine ⟨_, rfl, ?_⟩; have n0_ := Aside0.mk (Kd.S_elder' au10_0 (Kd.S_base ho0) hb); have n1_ := Aside0.mk (Kd.S_lower (Kd.S_new' ho0 (Kd.S_lt au10_0)) (below_size bl_)); have n2_ := Aside0.mk (blkb_ BK284 hb); have n3_ := Aside0.mk (blkb_ BK285 hb); have n4_ := Aside0.mk (below_step bl_ hb); clear HO294; clear BK284; clear BK285; clear HB; have HO294 := n0_; have HO299 := n1_; have BK284 := n2_; have BK285 := n3_; have HB := n4_; clear n0_ n1_ n2_ n3_ n4_; (try clear hb); (try clear hb2); (try clear hk); (try clear hi); (try clear ho0)) | ((with_reducible refine gate_dst (N := 7) rfl ?_); refine box_event ?hg (N := 7) ?hd (cs := #[.string (⟨#[]⟩ : ByteArray), .slice none 0 0]) (t := 59) ?hr ?_; (case hd => rfl); (case hg => rfl); (case hr => exact hr_); intro gb300 hg w57 hbox hb; have n0_ := Aside0.mk (Kd.S_below au10_0 hb); have n1_ := Aside0.mk (Kd.S_below au10_2 hb); have n2_ := Aside0.mk (blkb_ BK284 hb); have n3_ := Aside0.mk (blkb_ BK285 hb); have n4_ := Aside0.mk (below_step bl_ hb); have n5_ := Aside0.mk (hbox); have n6_ := Aside0.mk (gw_ hg bl_); have n7_ := Aside0.mk (gw_ hg bl_); have n8_ := Aside0.mk (gn_ hg (blkl_ BK284)); have n9_ := Aside0.mk (gm_ hg (blkl_ BK284)); have n10_ := Aside0.mk (gn_ hg (blkl_ BK285)); have n11_ := Aside0.mk (gm_ hg (blkl_ BK285)); clear HO294; clear HO299; clear BK284; clear BK285; clear HB; have HO294 := n0_; have HO299 := n1_; have BK284 := n2_; have BK285 := n3_; have HB := n4_; have BK300 := n5_; have GW300 := n6_; have GE300 := n7_; have NB284_300 := n8_; have NB300_284 := n9_; have NB285_300 := n10_; have NB300_285 := n11_; clear n0_ n1_ n2_ n3_ n4_ n5_ n6_ n7_ n8_ n9_ n10_ n11_; clear hb hbox hg; have hnb58 := NB300_284.out; have hnc58 := NB284_300.out; have hnb59 := NB300_285.out; have hnc59 := NB285_300.out; obtain ⟨hcz60_0, hcz60_1, hfz60_0, hfz60_1⟩ := cellsF2 BK300.out; obtain ⟨Ao61, co61, eo61⟩ := Kd.S_slice HO299.out; subst eo61))
        have n0_ : Aside0 (Kd.S k102 102 ((w57.setCell ⟨gb300, 0, none⟩ (.string t296)).setCell ⟨gb300, 1, none⟩ (.slice Ao61 t297.length co61)) w.heap.size (fun k_ => some k_ ≠ (.slice Ao61 t297.length co61 : Value).ownBlock) (.slice Ao53 t292.length co53) t292) := ⟨by (with_reducible repeat (first | apply Kd.S_alloc | apply Kd.S_drewN | apply Kd.S_drew)); exact Kd.S_mono (Kd.S_far (p := ⟨gb300, 1, none⟩) (Kd.S_far (p := ⟨gb300, 0, none⟩) (Kd.S_types HO294.out BK300.out (by decide)) (fun _ hk => hk.2) (.string t296)) (fun _ hk => hk.2) (.slice Ao61 t297.length co61)) (fun _ hk => hk.1.2)⟩
        have n1_ : Aside0 (Kd.S k102 102 ((w57.setCell ⟨gb300, 0, none⟩ (.string t296)).setCell ⟨gb300, 1, none⟩ (.slice Ao61 t297.length co61)) w.heap.size (fun k_ => some k_ ≠ (.slice Ao53 t292.length co53 : Value).ownBlock) (.slice Ao61 t297.length co61) t297) := ⟨by (with_reducible repeat (first | apply Kd.S_alloc | apply Kd.S_drewN | apply Kd.S_drew)); exact Kd.S_mono (Kd.S_far (p := ⟨gb300, 1, none⟩) (Kd.S_far (p := ⟨gb300, 0, none⟩) (Kd.S_types HO299.out BK300.out (by decide)) (fun _ hk => hk.2) (.string t296)) (fun _ hk => hk.2) (.slice Ao61 t297.length co61)) (fun _ hk => hk.1.2)⟩
        have n2_ : Aside0 (((w57.setCell ⟨gb300, 0, none⟩ (.string t296)).setCell ⟨gb300, 1, none⟩ (.slice Ao61 t297.length co61)).heap[gb284]? = some (.cells #[.int .i64 a0_0, .int .i64 a0_1, .int .i64 a0_2, .int .i64 a0_3] 29 (0, 0))) := ⟨au10_4⟩
        have n3_ : Aside0 (((w57.setCell ⟨gb300, 0, none⟩ (.string t296)).setCell ⟨gb300, 1, none⟩ (.slice Ao61 t297.length co61)).heap[gb285]? = some (.cells #[.string a1_0, .slice A1_1 l1_1.length c1_1] 54 (0, 0))) := ⟨au10_5⟩
        have n4_ : Aside0 (((w57.setCell ⟨gb300, 0, none⟩ (.string t296)).setCell ⟨gb300, 1, none⟩ (.slice Ao61 t297.length co61)).heap[gb300]? = some (.cells #[.string t296, .slice Ao61 t297.length co61] 59 (0, 0))) := ⟨au10_3⟩
        have n5_ : Aside0 (Below w.heap.size w ((w57.setCell ⟨gb300, 0, none⟩ (.string t296)).setCell ⟨gb300, 1, none⟩ (.slice Ao61 t297.length co61))) := ⟨bl_⟩
        (try clear HO294)
        (try clear HO299)
        (try clear BK284)
        (try clear BK285)
        (try clear BK300)
        (try clear HB)
        generalize ((w57.setCell ⟨gb300, 0, none⟩ (.string t296)).setCell ⟨gb300, 1, none⟩ (.slice Ao61 t297.length co61)) = w62 at n0_ n1_ n2_ n3_ n4_ n5_ ⊢
        have HO294 := n0_
        have HO299 := n1_
        have BK284 := n2_
        have BK285 := n3_
        have BK300 := n4_
        have HB := n5_
        clear n0_ n1_ n2_ n3_ n4_ n5_
        have n0_ := Aside0.mk (Kd.S_drew HO294.out)
        have n1_ := Aside0.mk (Kd.S_drew HO299.out)
        have n2_ := Aside0.mk (blk_drew BK284.out)
        have n3_ := Aside0.mk (blk_drew BK285.out)
        have n4_ := Aside0.mk (blk_drew BK300.out)
        have n5_ := Aside0.mk (below_drew1 HB.out)
        clear HO294
        clear HO299
        clear BK284
        clear BK285
        clear BK300
        clear HB
        have HO294 := n0_
        have HO299 := n1_
        have BK284 := n2_
        have BK285 := n3_
        have BK300 := n4_
        have HB := n5_
        clear n0_ n1_ n2_ n3_ n4_ n5_
        refine start_ (n := 5) (S := fun w' => w'.cell? ⟨gb284, 0, none⟩ = some (.int .i64 a0_0) ∧ w'.cell? ⟨gb284, 1, none⟩ = some (.int .i64 a0_1) ∧ w'.cell? ⟨gb284, 2, none⟩ = some (.int .i64 a0_2) ∧ w'.cell? ⟨gb284, 3, none⟩ = some (.int .i64 a0_3) ∧ w'.cell? ⟨gb300, 0, none⟩ = some (.string t296) ∧ w'.cell? ⟨gb300, 1, none⟩ = some (.slice Ao61 t297.length co61)) (ds := []) #[false, false, false, false, false] (by kernel_rfl) rfl rfl ⟨(blk_cell BK284.out 0).trans rfl, (blk_cell BK284.out 1).trans rfl, (blk_cell BK284.out 2).trans rfl, (blk_cell BK284.out 3).trans rfl, (blk_cell BK300.out 0).trans rfl, (blk_cell BK300.out 1).trans rfl⟩ (fun hHeld => ?_)
        generalize w62.drew = w63 at HO294 HO299 BK284 BK285 BK300 HB hHeld ⊢
        refine take_ (i := 0) (N := some 21) (v := ?_) (a' := ?_) #[true, false, false, false, false] rfl rfl (by kernel_rfl) (fun _ _ _ h => h) (Or.inl ⟨by rfl, ?_⟩) hHeld ?_ ?_
        rotate_left
        · rintro w' ⟨s0, s1, s2, s3, s4, s5⟩
          go_simp
          with_reducible rfl
        rotate_left
        · simp only [Act.put, List.setIfInBounds_toArray, List.set_cons_zero, List.set_cons_succ, i64_w, i32_w]
          rfl
        refine take_ (i := 2) (N := some 23) (v := ?_) (a' := ?_) #[true, false, true, false, false] rfl rfl (by kernel_rfl) (fun _ _ _ h => h) (Or.inl ⟨by rfl, ?_⟩) hHeld ?_ ?_
        rotate_left
        · rintro w' ⟨s0, s1, s2, s3, s4, s5⟩
          go_simp
          with_reducible rfl
        rotate_left
        · simp only [Act.put, List.setIfInBounds_toArray, List.set_cons_zero, List.set_cons_succ, i64_w, i32_w]
          rfl
        refine one_ (i := 1) (N := some 22) #[true, true, true, false, false] rfl rfl (by kernel_rfl) (by decide) (fun K hK => ?_)
        refine gr_ Try.func19 #[.agg #[.int .i64 a0_0, .int .i64 a0_1, .int .i64 a0_2, .int .i64 a0_3]] (by rfl) ?_ rfl rfl rfl
        with_reducible refine (laws_toSyntax.calls a0_0 a0_1 a0_2 a0_3 t301 t302 t303 t304 _ A14.out).mono ?_
        rintro e w64 ⟨rfl, hb⟩
        refine ⟨_, rfl, ?_⟩
        have n0_ := Aside0.mk (Kd.S_below au10_0 hb)
        have n1_ := Aside0.mk (Kd.S_below au10_2 hb)
        have n2_ := Aside0.mk (blkb_ BK284 hb)
        have n3_ := Aside0.mk (blkb_ BK285 hb)
        have n4_ := Aside0.mk (blkb_ BK300 hb)
        have n5_ := Aside0.mk (below_step bl_ hb)
        clear HO294
        clear HO299
        clear BK284
        clear BK285
        clear BK300
        clear HB
        have HO294 := n0_
        have HO299 := n1_
        have BK284 := n2_
        have BK285 := n3_
        have BK300 := n4_
        have HB := n5_
        clear n0_ n1_ n2_ n3_ n4_ n5_
        (try clear hb)
        (try clear hb2)
        (try clear hk)
        (try clear hi)
        refine hK.out _ _ ⟨(blk_cell BK284.out 0).trans rfl, (blk_cell BK284.out 1).trans rfl, (blk_cell BK284.out 2).trans rfl, (blk_cell BK284.out 3).trans rfl, (blk_cell BK300.out 0).trans rfl, (blk_cell BK300.out 1).trans rfl⟩ (fun hHeld => ?_)
        clear hK K
        refine norm_ (a' := ?_) ?_ ?_
        rotate_left
        · show Act.put _ (some 22) _ = _
          simp only [Act.put, List.setIfInBounds_toArray, List.set_cons_zero, List.set_cons_succ, i64_w, i32_w]
          rfl
        refine one_ (i := 3) (N := some 24) #[true, true, true, true, false] rfl rfl (by kernel_rfl) (by decide) (fun K hK => ?_)
        refine gr_ Try.func39 #[.agg #[.int .i64 t301, .int .i64 t302, .int .i64 t303, .int .i64 t304], .agg #[.string t296, .slice Ao61 t297.length co61]] (by rfl) ?_ rfl rfl rfl
        with_reducible refine (impl_SegmentText.calls k t301 t302 t303 t304 t296 _ _ t297 t305 _ ?side1 ?side2 A15.out).mono ?_
        (case side1 => exact au10_6)
        (case side2 => exact au10_11)
        rintro e w65 ⟨rfl, hb⟩
        refine ⟨_, rfl, ?_⟩
        have n0_ := Aside0.mk (Kd.S_below au10_0 hb)
        have n1_ := Aside0.mk (Kd.S_below au10_2 hb)
        have n2_ := Aside0.mk (blkb_ BK284 hb)
        have n3_ := Aside0.mk (blkb_ BK285 hb)
        have n4_ := Aside0.mk (blkb_ BK300 hb)
        have n5_ := Aside0.mk (below_step bl_ hb)
        clear HO294
        clear HO299
        clear BK284
        clear BK285
        clear BK300
        clear HB
        have HO294 := n0_
        have HO299 := n1_
        have BK284 := n2_
        have BK285 := n3_
        have BK300 := n4_
        have HB := n5_
        clear n0_ n1_ n2_ n3_ n4_ n5_
        (try clear hb)
        (try clear hb2)
        (try clear hk)
        (try clear hi)
        refine hK.out _ _ ⟨(blk_cell BK284.out 0).trans rfl, (blk_cell BK284.out 1).trans rfl, (blk_cell BK284.out 2).trans rfl, (blk_cell BK284.out 3).trans rfl, (blk_cell BK300.out 0).trans rfl, (blk_cell BK300.out 1).trans rfl⟩ (fun hHeld => ?_)
        clear hK K
        refine norm_ (a' := ?_) ?_ ?_
        rotate_left
        · show Act.put _ (some 24) _ = _
          simp only [Act.put, List.setIfInBounds_toArray, List.set_cons_zero, List.set_cons_succ, i64_w, i32_w]
          rfl
        refine pure_ (i := 4) (N := some 8) (v := ?_) (a' := ?_) #[true, true, true, true, true] rfl rfl (by kernel_rfl) (fun _ _ _ h => h) (Or.inl ⟨by rfl, ?_⟩) ?_ ?_
        rotate_left
        · intro w'
          go_simp
          with_reducible rfl
        rotate_left
        · simp only [Act.put, List.setIfInBounds_toArray, List.set_cons_zero, List.set_cons_succ, i64_w, i32_w]
          rfl
        refine done_ (by kernel_rfl) ?_
        try go_wp2
        have n0_ := Aside0.mk (Kd.S_drew HO294.out)
        have n1_ := Aside0.mk (Kd.S_drew HO299.out)
        have n2_ := Aside0.mk (blk_drew BK284.out)
        have n3_ := Aside0.mk (blk_drew BK285.out)
        have n4_ := Aside0.mk (blk_drew BK300.out)
        have n5_ := Aside0.mk (below_drew1 HB.out)
        clear HO294
        clear HO299
        clear BK284
        clear BK285
        clear BK300
        clear HB
        have HO294 := n0_
        have HO299 := n1_
        have BK284 := n2_
        have BK285 := n3_
        have BK300 := n4_
        have HB := n5_
        clear n0_ n1_ n2_ n3_ n4_ n5_
        refine start_ (n := 5) (S := fun w' => w'.cell? ⟨gb300, 0, none⟩ = some (.string t296) ∧ w'.cell? ⟨gb300, 1, none⟩ = some (.slice Ao61 t297.length co61) ∧ w'.cell? ⟨gb285, 0, none⟩ = some (.string a1_0) ∧ w'.cell? ⟨gb285, 1, none⟩ = some (.slice A1_1 l1_1.length c1_1)) (ds := []) #[false, false, false, false, false] (by kernel_rfl) rfl rfl ⟨(blk_cell BK300.out 0).trans rfl, (blk_cell BK300.out 1).trans rfl, (blk_cell BK285.out 0).trans rfl, (blk_cell BK285.out 1).trans rfl⟩ (fun hHeld => ?_)
        generalize w65.drew = w66 at HO294 HO299 BK284 BK285 BK300 HB hHeld ⊢
        refine take_ (i := 0) (N := some 28) (v := ?_) (a' := ?_) #[true, false, false, false, false] rfl rfl (by kernel_rfl) (fun _ _ _ h => h) (Or.inl ⟨by rfl, ?_⟩) hHeld ?_ ?_
        rotate_left
        · rintro w' ⟨s0, s1, s2, s3⟩
          go_simp
          with_reducible rfl
        rotate_left
        · simp only [Act.put, List.setIfInBounds_toArray, List.set_cons_zero, List.set_cons_succ, i64_w, i32_w]
          rfl
        refine take_ (i := 1) (N := some 29) (v := ?_) (a' := ?_) #[true, true, false, false, false] rfl rfl (by kernel_rfl) (fun _ _ _ h => h) (Or.inl ⟨by rfl, ?_⟩) hHeld ?_ ?_
        rotate_left
        · rintro w' ⟨s0, s1, s2, s3⟩
          go_simp
          with_reducible rfl
        rotate_left
        · simp only [Act.put, List.setIfInBounds_toArray, List.set_cons_zero, List.set_cons_succ, i64_w, i32_w]
          rfl
        refine one_ (i := 2) (N := some 30) #[true, true, true, false, false] rfl rfl (by kernel_rfl) (by decide) (fun K hK => ?_)
        refine gr_ Try.func35 #[.agg #[.string a1_0, .slice A1_1 l1_1.length c1_1]] (by rfl) ?_ rfl rfl rfl
        with_reducible refine (laws_toSegment.calls k a1_0 _ _ l1_1 t306 t307 _ ?side1 ?side2 A17.out).mono ?_
        (case side1 => exact au10_1)
        (case side2 => exact HC1_1.out)
        rintro e w67 ⟨v308, rfl, ho0, hb⟩
        refine ⟨_, rfl, ?_⟩
        have n0_ := Aside0.mk (Kd.S_elder' au10_0 (Kd.S_base ho0) hb)
        have n1_ := Aside0.mk (Kd.S_elder' au10_2 (Kd.S_base ho0) hb)
        have n2_ := Aside0.mk (Kd.S_lower (Kd.S_new' (Kd.S_new' ho0 (Kd.S_lt au10_0)) (Kd.S_lt au10_2)) (below_size bl_))
        have n3_ := Aside0.mk (blkb_ BK284 hb)
        have n4_ := Aside0.mk (blkb_ BK285 hb)
        have n5_ := Aside0.mk (blkb_ BK300 hb)
        have n6_ := Aside0.mk (below_step bl_ hb)
        clear HO294
        clear HO299
        clear BK284
        clear BK285
        clear BK300
        clear HB
        have HO294 := n0_
        have HO299 := n1_
        have HO309 := n2_
        have BK284 := n3_
        have BK285 := n4_
        have BK300 := n5_
        have HB := n6_
        clear n0_ n1_ n2_ n3_ n4_ n5_ n6_
        (try clear hb)
        (try clear hb2)
        (try clear hk)
        (try clear hi)
        (try clear ho0)
        obtain ⟨Ao68, co68, eo68⟩ := Kd.S_slice HO309.out
        (first | subst eo68 | (injection eo68 with f1_ f2_ f3_; have f4_ := f1_.symm; have f5_ := f3_.symm; clear f1_ f2_ f3_; subst f4_; subst f5_))
        refine hK.out _ _ ⟨(blk_cell BK300.out 0).trans rfl, (blk_cell BK300.out 1).trans rfl, (blk_cell BK285.out 0).trans rfl, (blk_cell BK285.out 1).trans rfl⟩ (fun hHeld => ?_)
        clear hK K
        refine norm_ (a' := ?_) ?_ ?_
        rotate_left
        · show Act.put _ (some 30) _ = _
          simp only [Act.put, List.setIfInBounds_toArray, List.set_cons_zero, List.set_cons_succ, i64_w, i32_w]
          rfl
        refine one_ (i := 3) (N := some 31) #[true, true, true, true, false] rfl rfl (by kernel_rfl) (by decide) (fun K hK => ?_)
        refine gr_ Try.func37 #[.agg #[.string t296, .slice Ao61 t297.length co61], .agg #[.string t306, .slice Ao68 t307.length co68]] (by rfl) ?_ rfl rfl rfl
        with_reducible refine (laws_eqSegment.calls k t296 _ _ t297 t306 _ _ t307 false _ ?side1 ?side2 ?side3 ?side4 A18.out).mono ?_
        (case side1 => exact au10_6)
        (case side2 => exact au10_11)
        (case side3 => exact au10_9)
        (case side4 => exact (Kd.S_reads' HO309.out).2.1)
        rintro e w69 ⟨rfl, hb⟩
        refine ⟨_, rfl, ?_⟩
        have n0_ := Aside0.mk (Kd.S_below au10_0 hb)
        have n1_ := Aside0.mk (Kd.S_below au10_2 hb)
        have n2_ := Aside0.mk (Kd.S_below au10_10 hb)
        have n3_ := Aside0.mk (blkb_ BK284 hb)
        have n4_ := Aside0.mk (blkb_ BK285 hb)
        have n5_ := Aside0.mk (blkb_ BK300 hb)
        have n6_ := Aside0.mk (below_step bl_ hb)
        clear HO294
        clear HO299
        clear HO309
        clear BK284
        clear BK285
        clear BK300
        clear HB
        have HO294 := n0_
        have HO299 := n1_
        have HO309 := n2_
        have BK284 := n3_
        have BK285 := n4_
        have BK300 := n5_
        have HB := n6_
        clear n0_ n1_ n2_ n3_ n4_ n5_ n6_
        (try clear hb)
        (try clear hb2)
        (try clear hk)
        (try clear hi)
        refine hK.out _ _ ⟨(blk_cell BK300.out 0).trans rfl, (blk_cell BK300.out 1).trans rfl, (blk_cell BK285.out 0).trans rfl, (blk_cell BK285.out 1).trans rfl⟩ (fun hHeld => ?_)
        clear hK K
        refine norm_ (a' := ?_) ?_ ?_
        rotate_left
        · show Act.put _ (some 31) _ = _
          simp only [Act.put, List.setIfInBounds_toArray, List.set_cons_zero, List.set_cons_succ, i64_w, i32_w]
          rfl
        refine pure_ (i := 4) (N := some 32) (v := ?_) (a' := ?_) #[true, true, true, true, true] rfl rfl (by kernel_rfl) (fun _ _ _ h => h) (Or.inl ⟨by rfl, ?_⟩) ?_ ?_
        rotate_left
        · intro w'
          go_simp
          with_reducible rfl
        rotate_left
        · simp only [Act.put, List.setIfInBounds_toArray, List.set_cons_zero, List.set_cons_succ, i64_w, i32_w]
          rfl
        refine done_ (by kernel_rfl) ?_
        try go_wp2
        go_ret
        exact ⟨au10_8, bl_⟩
    · rw [if_neg c16] at H
      have c16b0 : (t305.toList == t295.toList) = false := beq_eq_false_iff_ne.mpr c16
      have c16b1 : (t305.toList != t295.toList) = true := bne_iff_ne.mpr c16
      obtain rfl := Option.some.inj H
      go_enter Try.func10, Try.ntmps10
      try go_wp2_with (first | ((with_reducible refine gate_dst (N := 2) rfl ?_); refine box_event ?hg (N := 2) ?hd (cs := #[.int .i64 a0_0, .int .i64 a0_1, .int .i64 a0_2, .int .i64 a0_3]) (t := 29) ?hr ?_; (case hd => rfl); (case hg => rfl); (case hr => exact hr_); intro gb284 hg w70 hbox hb; have n0_ := Aside0.mk (below_step bl_ hb); have n1_ := Aside0.mk (hbox); have n2_ := Aside0.mk (gw_ hg bl_); have n3_ := Aside0.mk (gw_ hg bl_); clear HB; have HB := n0_; have BK284 := n1_; have GW284 := n2_; have GE284 := n3_; clear n0_ n1_ n2_ n3_; clear hb hbox hg) | ((with_reducible refine gate_dst (N := 3) rfl ?_); refine box_event ?hg (N := 3) ?hd (cs := #[.string a1_0, .slice A1_1 l1_1.length c1_1]) (t := 54) ?hr ?_; (case hd => rfl); (case hg => rfl); (case hr => exact hr_); intro gb285 hg w71 hbox hb; have n0_ := Aside0.mk (blkb_ BK284 hb); have n1_ := Aside0.mk (below_step bl_ hb); have n2_ := Aside0.mk (hbox); have n3_ := Aside0.mk (gw_ hg bl_); have n4_ := Aside0.mk (gw_ hg bl_); have n5_ := Aside0.mk (gn_ hg (blkl_ BK284)); have n6_ := Aside0.mk (gm_ hg (blkl_ BK284)); clear BK284; clear HB; have BK284 := n0_; have HB := n1_; have BK285 := n2_; have GW285 := n3_; have GE285 := n4_; have NB284_285 := n5_; have NB285_284 := n6_; clear n0_ n1_ n2_ n3_ n4_ n5_ n6_; clear hb hbox hg; have hnb72 := NB285_284.out; have hnc72 := NB284_285.out; obtain ⟨hcz73_0, hcz73_1, hfz73_0, hfz73_1⟩ := cellsF2 BK285.out) | ((with_reducible refine gate_callee (f := 33) rfl ?_); refine gl_ 11 Try.func33 #[.agg #[.string a1_0, .slice A1_1 l1_1.length c1_1], .int .i64 1048576] ?_ rfl rfl rfl rfl; (with_reducible refine (laws_szSegment.calls k a1_0 _ _ l1_1 1048576 t286 _ ?side1 ?side2 A3.out).mono ?_); (case side1 => exact au10_1); (case side2 => exact HC1_1.out); rintro e w74 ⟨rfl, hb⟩; refine ⟨_, rfl, ?_⟩; have n0_ := Aside0.mk (blkb_ BK284 hb); have n1_ := Aside0.mk (blkb_ BK285 hb); have n2_ := Aside0.mk (below_step bl_ hb); clear BK284; clear BK285; clear HB; have BK284 := n0_; have BK285 := n1_; have HB := n2_; clear n0_ n1_ n2_; (try clear hb); (try clear hb2); (try clear hk); (try clear hi)))
      have n0_ := Aside0.mk (blk_drew BK284.out)
      have n1_ := Aside0.mk (blk_drew BK285.out)
      have n2_ := Aside0.mk (below_drew1 HB.out)
      clear BK284
      clear BK285
      clear HB
      have BK284 := n0_
      have BK285 := n1_
      have HB := n2_
      clear n0_ n1_ n2_
      refine start_ (n := 6) (S := fun w' => w'.cell? ⟨gb284, 0, none⟩ = some (.int .i64 a0_0) ∧ w'.cell? ⟨gb284, 1, none⟩ = some (.int .i64 a0_1) ∧ w'.cell? ⟨gb284, 2, none⟩ = some (.int .i64 a0_2) ∧ w'.cell? ⟨gb284, 3, none⟩ = some (.int .i64 a0_3) ∧ w'.cell? ⟨gb285, 0, none⟩ = some (.string a1_0) ∧ w'.cell? ⟨gb285, 1, none⟩ = some (.slice A1_1 l1_1.length c1_1)) (ds := []) (bs 6 0) (by kernel_rfl) rfl rfl ⟨(blk_cell BK284.out 0).trans rfl, (blk_cell BK284.out 1).trans rfl, (blk_cell BK284.out 2).trans rfl, (blk_cell BK284.out 3).trans rfl, (blk_cell BK285.out 0).trans rfl, (blk_cell BK285.out 1).trans rfl⟩ (fun hHeld => ?_)
      generalize w74.drew = w75 at BK284 BK285 HB hHeld ⊢
      refine take_ (i := 0) (N := some 14) (v := ?_) (a' := ?_) (bs 6 1) rfl rfl (by kernel_rfl) (fun _ _ _ h => h) (Or.inl ⟨by rfl, ?_⟩) hHeld ?_ ?_
      rotate_left
      · rintro w' ⟨s0, s1, s2, s3, s4, s5⟩
        go_simp
        with_reducible rfl
      rotate_left
      · simp only [Act.put, List.setIfInBounds_toArray, List.set_cons_zero, List.set_cons_succ, i64_w, i32_w]
        rfl
      refine take_ (i := 2) (N := some 16) (v := ?_) (a' := ?_) (bs 6 5) rfl rfl (by kernel_rfl) (fun _ _ _ h => h) (Or.inl ⟨by rfl, ?_⟩) hHeld ?_ ?_
      rotate_left
      · rintro w' ⟨s0, s1, s2, s3, s4, s5⟩
        go_simp
        with_reducible rfl
      rotate_left
      · simp only [Act.put, List.setIfInBounds_toArray, List.set_cons_zero, List.set_cons_succ, i64_w, i32_w]
        rfl
      refine one_ (i := 1) (N := some 15) (bs 6 7) rfl rfl (by kernel_rfl) (by decide) (fun K hK => ?_)
      refine gr_ Try.func19 #[.agg #[.int .i64 a0_0, .int .i64 a0_1, .int .i64 a0_2, .int .i64 a0_3]] (by rfl) ?_ rfl rfl rfl
      with_reducible refine (laws_toSyntax.calls a0_0 a0_1 a0_2 a0_3 t287 t288 t289 t290 _ A10.out).mono ?_
      rintro e w76 ⟨rfl, hb⟩
      refine ⟨_, rfl, ?_⟩
      have n0_ := Aside0.mk (blkb_ BK284 hb)
      have n1_ := Aside0.mk (blkb_ BK285 hb)
      have n2_ := Aside0.mk (below_step bl_ hb)
      clear BK284
      clear BK285
      clear HB
      have BK284 := n0_
      have BK285 := n1_
      have HB := n2_
      clear n0_ n1_ n2_
      (try clear hb)
      (try clear hb2)
      (try clear hk)
      (try clear hi)
      refine hK.out _ _ ⟨(blk_cell BK284.out 0).trans rfl, (blk_cell BK284.out 1).trans rfl, (blk_cell BK284.out 2).trans rfl, (blk_cell BK284.out 3).trans rfl, (blk_cell BK285.out 0).trans rfl, (blk_cell BK285.out 1).trans rfl⟩ (fun hHeld => ?_)
      clear hK K
      refine norm_ (a' := ?_) ?_ ?_
      rotate_left
      · show Act.put _ (some 15) _ = _
        simp only [Act.put, List.setIfInBounds_toArray, List.set_cons_zero, List.set_cons_succ, i64_w, i32_w]
        rfl
      refine one_ (i := 3) (N := some 17) (bs 6 15) rfl rfl (by kernel_rfl) (by decide) (fun K hK => ?_)
      refine gr_ Try.func35 #[.agg #[.string a1_0, .slice A1_1 l1_1.length c1_1]] (by rfl) ?_ rfl rfl rfl
      with_reducible refine (laws_toSegment.calls k a1_0 _ _ l1_1 t291 t292 _ ?side1 ?side2 A11.out).mono ?_
      (case side1 => exact au10_1)
      (case side2 => exact HC1_1.out)
      rintro e w77 ⟨v293, rfl, ho0, hb⟩
      refine ⟨_, rfl, ?_⟩
      have n0_ := Aside0.mk (Kd.S_lower ho0 (below_size bl_))
      have n1_ := Aside0.mk (blkb_ BK284 hb)
      have n2_ := Aside0.mk (blkb_ BK285 hb)
      have n3_ := Aside0.mk (below_step bl_ hb)
      clear BK284
      clear BK285
      clear HB
      have HO294 := n0_
      have BK284 := n1_
      have BK285 := n2_
      have HB := n3_
      clear n0_ n1_ n2_ n3_
      (try clear hb)
      (try clear hb2)
      (try clear hk)
      (try clear hi)
      (try clear ho0)
      obtain ⟨Ao78, co78, eo78⟩ := Kd.S_slice HO294.out
      (first | subst eo78 | (injection eo78 with f1_ f2_ f3_; have f4_ := f1_.symm; have f5_ := f3_.symm; clear f1_ f2_ f3_; subst f4_; subst f5_))
      refine hK.out _ _ ⟨(blk_cell BK284.out 0).trans rfl, (blk_cell BK284.out 1).trans rfl, (blk_cell BK284.out 2).trans rfl, (blk_cell BK284.out 3).trans rfl, (blk_cell BK285.out 0).trans rfl, (blk_cell BK285.out 1).trans rfl⟩ (fun hHeld => ?_)
      clear hK K
      refine norm_ (a' := ?_) ?_ ?_
      rotate_left
      · show Act.put _ (some 17) _ = _
        simp only [Act.put, List.setIfInBounds_toArray, List.set_cons_zero, List.set_cons_succ, i64_w, i32_w]
        rfl
      refine one_ (i := 4) (N := some 18) (bs 6 31) rfl rfl (by kernel_rfl) (by decide) (fun K hK => ?_)
      refine gr_ Try.func38 #[.agg #[.int .i64 t287, .int .i64 t288, .int .i64 t289, .int .i64 t290], .agg #[.string t291, .slice Ao78 t292.length co78]] (by rfl) ?_ rfl rfl rfl
      with_reducible refine (spec_SegmentText.calls k t287 t288 t289 t290 t291 _ _ t292 t295 _ ?side1 ?side2 A12.out).mono ?_
      (case side1 => exact au10_7)
      (case side2 => exact (Kd.S_reads' HO294.out).2.1)
      rintro e w79 ⟨rfl, hb⟩
      refine ⟨_, rfl, ?_⟩
      have n0_ := Aside0.mk (Kd.S_below au10_0 hb)
      have n1_ := Aside0.mk (blkb_ BK284 hb)
      have n2_ := Aside0.mk (blkb_ BK285 hb)
      have n3_ := Aside0.mk (below_step bl_ hb)
      clear HO294
      clear BK284
      clear BK285
      clear HB
      have HO294 := n0_
      have BK284 := n1_
      have BK285 := n2_
      have HB := n3_
      clear n0_ n1_ n2_ n3_
      (try clear hb)
      (try clear hb2)
      (try clear hk)
      (try clear hi)
      refine hK.out _ _ ⟨(blk_cell BK284.out 0).trans rfl, (blk_cell BK284.out 1).trans rfl, (blk_cell BK284.out 2).trans rfl, (blk_cell BK284.out 3).trans rfl, (blk_cell BK285.out 0).trans rfl, (blk_cell BK285.out 1).trans rfl⟩ (fun hHeld => ?_)
      clear hK K
      refine norm_ (a' := ?_) ?_ ?_
      rotate_left
      · show Act.put _ (some 18) _ = _
        simp only [Act.put, List.setIfInBounds_toArray, List.set_cons_zero, List.set_cons_succ, i64_w, i32_w]
        rfl
      refine pure_ (i := 5) (N := some 6) (v := ?_) (a' := ?_) (bs 6 63) rfl rfl (by kernel_rfl) (fun _ _ _ h => h) (Or.inl ⟨by rfl, ?_⟩) ?_ ?_
      rotate_left
      · intro w'
        go_simp
        with_reducible rfl
      rotate_left
      · simp only [Act.put, List.setIfInBounds_toArray, List.set_cons_zero, List.set_cons_succ, i64_w, i32_w]
        rfl
      refine done_ (by kernel_rfl) ?_
      obtain ⟨hcz80_0, hcz80_1, hfz80_0, hfz80_1⟩ := cellsF2 BK285.out
      try go_wp2_with (first | ((with_reducible refine gate_callee (f := 35) rfl ?_); refine gl_ 20 Try.func35 #[.agg #[.string a1_0, .slice A1_1 l1_1.length c1_1]] ?_ rfl rfl rfl rfl; (with_reducible refine (laws_toSegment.calls k a1_0 _ _ l1_1 t296 t297 _ ?side1 ?side2 A13.out).mono ?_); (case side1 => exact au10_1); (case side2 => exact HC1_1.out); rintro e w81 ⟨v298, rfl, ho0, hb⟩; refine ⟨_, rfl, ?_⟩; have n0_ := Aside0.mk (Kd.S_elder' au10_0 (Kd.S_base ho0) hb); have n1_ := Aside0.mk (Kd.S_lower (Kd.S_new' ho0 (Kd.S_lt au10_0)) (below_size bl_)); have n2_ := Aside0.mk (blkb_ BK284 hb); have n3_ := Aside0.mk (blkb_ BK285 hb); have n4_ := Aside0.mk (below_step bl_ hb); clear HO294; clear BK284; clear BK285; clear HB; have HO294 := n0_; have HO299 := n1_; have BK284 := n2_; have BK285 := n3_; have HB := n4_; clear n0_ n1_ n2_ n3_ n4_; (try clear hb); (try clear hb2); (try clear hk); (try clear hi); (try clear ho0)) | ((with_reducible refine gate_dst (N := 7) rfl ?_); refine box_event ?hg (N := 7) ?hd (cs := #[.string (⟨#[]⟩ : ByteArray), .slice none 0 0]) (t := 59) ?hr ?_; (case hd => rfl); (case hg => rfl); (case hr => exact hr_); intro gb300 hg w82 hbox hb; have n0_ := Aside0.mk (Kd.S_below au10_0 hb); have n1_ := Aside0.mk (Kd.S_below au10_2 hb); have n2_ := Aside0.mk (blkb_ BK284 hb); have n3_ := Aside0.mk (blkb_ BK285 hb); have n4_ := Aside0.mk (below_step bl_ hb); have n5_ := Aside0.mk (hbox); have n6_ := Aside0.mk (gw_ hg bl_); have n7_ := Aside0.mk (gw_ hg bl_); have n8_ := Aside0.mk (gn_ hg (blkl_ BK284)); have n9_ := Aside0.mk (gm_ hg (blkl_ BK284)); have n10_ := Aside0.mk (gn_ hg (blkl_ BK285)); have n11_ := Aside0.mk (gm_ hg (blkl_ BK285)); clear HO294; clear HO299; clear BK284; clear BK285; clear HB; have HO294 := n0_; have HO299 := n1_; have BK284 := n2_; have BK285 := n3_; have HB := n4_; have BK300 := n5_; have GW300 := n6_; have GE300 := n7_; have NB284_300 := n8_; have NB300_284 := n9_; have NB285_300 := n10_; have NB300_285 := n11_; clear n0_ n1_ n2_ n3_ n4_ n5_ n6_ n7_ n8_ n9_ n10_ n11_; clear hb hbox hg; have hnb83 := NB300_284.out; have hnc83 := NB284_300.out; have hnb84 := NB300_285.out; have hnc84 := NB285_300.out; obtain ⟨hcz85_0, hcz85_1, hfz85_0, hfz85_1⟩ := cellsF2 BK300.out; obtain ⟨Ao86, co86, eo86⟩ := Kd.S_slice HO299.out; subst eo86))
      have n0_ : Aside0 (Kd.S k102 102 ((w82.setCell ⟨gb300, 0, none⟩ (.string t296)).setCell ⟨gb300, 1, none⟩ (.slice Ao86 t297.length co86)) w.heap.size (fun k_ => some k_ ≠ (.slice Ao86 t297.length co86 : Value).ownBlock) (.slice Ao78 t292.length co78) t292) := ⟨by (with_reducible repeat (first | apply Kd.S_alloc | apply Kd.S_drewN | apply Kd.S_drew)); exact Kd.S_mono (Kd.S_far (p := ⟨gb300, 1, none⟩) (Kd.S_far (p := ⟨gb300, 0, none⟩) (Kd.S_types HO294.out BK300.out (by decide)) (fun _ hk => hk.2) (.string t296)) (fun _ hk => hk.2) (.slice Ao86 t297.length co86)) (fun _ hk => hk.1.2)⟩
      have n1_ : Aside0 (Kd.S k102 102 ((w82.setCell ⟨gb300, 0, none⟩ (.string t296)).setCell ⟨gb300, 1, none⟩ (.slice Ao86 t297.length co86)) w.heap.size (fun k_ => some k_ ≠ (.slice Ao78 t292.length co78 : Value).ownBlock) (.slice Ao86 t297.length co86) t297) := ⟨by (with_reducible repeat (first | apply Kd.S_alloc | apply Kd.S_drewN | apply Kd.S_drew)); exact Kd.S_mono (Kd.S_far (p := ⟨gb300, 1, none⟩) (Kd.S_far (p := ⟨gb300, 0, none⟩) (Kd.S_types HO299.out BK300.out (by decide)) (fun _ hk => hk.2) (.string t296)) (fun _ hk => hk.2) (.slice Ao86 t297.length co86)) (fun _ hk => hk.1.2)⟩
      have n2_ : Aside0 (((w82.setCell ⟨gb300, 0, none⟩ (.string t296)).setCell ⟨gb300, 1, none⟩ (.slice Ao86 t297.length co86)).heap[gb284]? = some (.cells #[.int .i64 a0_0, .int .i64 a0_1, .int .i64 a0_2, .int .i64 a0_3] 29 (0, 0))) := ⟨au10_4⟩
      have n3_ : Aside0 (((w82.setCell ⟨gb300, 0, none⟩ (.string t296)).setCell ⟨gb300, 1, none⟩ (.slice Ao86 t297.length co86)).heap[gb285]? = some (.cells #[.string a1_0, .slice A1_1 l1_1.length c1_1] 54 (0, 0))) := ⟨au10_5⟩
      have n4_ : Aside0 (((w82.setCell ⟨gb300, 0, none⟩ (.string t296)).setCell ⟨gb300, 1, none⟩ (.slice Ao86 t297.length co86)).heap[gb300]? = some (.cells #[.string t296, .slice Ao86 t297.length co86] 59 (0, 0))) := ⟨au10_3⟩
      have n5_ : Aside0 (Below w.heap.size w ((w82.setCell ⟨gb300, 0, none⟩ (.string t296)).setCell ⟨gb300, 1, none⟩ (.slice Ao86 t297.length co86))) := ⟨bl_⟩
      (try clear HO294)
      (try clear HO299)
      (try clear BK284)
      (try clear BK285)
      (try clear BK300)
      (try clear HB)
      generalize ((w82.setCell ⟨gb300, 0, none⟩ (.string t296)).setCell ⟨gb300, 1, none⟩ (.slice Ao86 t297.length co86)) = w87 at n0_ n1_ n2_ n3_ n4_ n5_ ⊢
      have HO294 := n0_
      have HO299 := n1_
      have BK284 := n2_
      have BK285 := n3_
      have BK300 := n4_
      have HB := n5_
      clear n0_ n1_ n2_ n3_ n4_ n5_
      have n0_ := Aside0.mk (Kd.S_drew HO294.out)
      have n1_ := Aside0.mk (Kd.S_drew HO299.out)
      have n2_ := Aside0.mk (blk_drew BK284.out)
      have n3_ := Aside0.mk (blk_drew BK285.out)
      have n4_ := Aside0.mk (blk_drew BK300.out)
      have n5_ := Aside0.mk (below_drew1 HB.out)
      clear HO294
      clear HO299
      clear BK284
      clear BK285
      clear BK300
      clear HB
      have HO294 := n0_
      have HO299 := n1_
      have BK284 := n2_
      have BK285 := n3_
      have BK300 := n4_
      have HB := n5_
      clear n0_ n1_ n2_ n3_ n4_ n5_
      refine start_ (n := 5) (S := fun w' => w'.cell? ⟨gb284, 0, none⟩ = some (.int .i64 a0_0) ∧ w'.cell? ⟨gb284, 1, none⟩ = some (.int .i64 a0_1) ∧ w'.cell? ⟨gb284, 2, none⟩ = some (.int .i64 a0_2) ∧ w'.cell? ⟨gb284, 3, none⟩ = some (.int .i64 a0_3) ∧ w'.cell? ⟨gb300, 0, none⟩ = some (.string t296) ∧ w'.cell? ⟨gb300, 1, none⟩ = some (.slice Ao86 t297.length co86)) (ds := []) #[false, false, false, false, false] (by kernel_rfl) rfl rfl ⟨(blk_cell BK284.out 0).trans rfl, (blk_cell BK284.out 1).trans rfl, (blk_cell BK284.out 2).trans rfl, (blk_cell BK284.out 3).trans rfl, (blk_cell BK300.out 0).trans rfl, (blk_cell BK300.out 1).trans rfl⟩ (fun hHeld => ?_)
      generalize w87.drew = w88 at HO294 HO299 BK284 BK285 BK300 HB hHeld ⊢
      refine take_ (i := 0) (N := some 21) (v := ?_) (a' := ?_) #[true, false, false, false, false] rfl rfl (by kernel_rfl) (fun _ _ _ h => h) (Or.inl ⟨by rfl, ?_⟩) hHeld ?_ ?_
      rotate_left
      · rintro w' ⟨s0, s1, s2, s3, s4, s5⟩
        go_simp
        with_reducible rfl
      rotate_left
      · simp only [Act.put, List.setIfInBounds_toArray, List.set_cons_zero, List.set_cons_succ, i64_w, i32_w]
        rfl
      refine take_ (i := 2) (N := some 23) (v := ?_) (a' := ?_) #[true, false, true, false, false] rfl rfl (by kernel_rfl) (fun _ _ _ h => h) (Or.inl ⟨by rfl, ?_⟩) hHeld ?_ ?_
      rotate_left
      · rintro w' ⟨s0, s1, s2, s3, s4, s5⟩
        go_simp
        with_reducible rfl
      rotate_left
      · simp only [Act.put, List.setIfInBounds_toArray, List.set_cons_zero, List.set_cons_succ, i64_w, i32_w]
        rfl
      refine one_ (i := 1) (N := some 22) #[true, true, true, false, false] rfl rfl (by kernel_rfl) (by decide) (fun K hK => ?_)
      refine gr_ Try.func19 #[.agg #[.int .i64 a0_0, .int .i64 a0_1, .int .i64 a0_2, .int .i64 a0_3]] (by rfl) ?_ rfl rfl rfl
      with_reducible refine (laws_toSyntax.calls a0_0 a0_1 a0_2 a0_3 t301 t302 t303 t304 _ A14.out).mono ?_
      rintro e w89 ⟨rfl, hb⟩
      refine ⟨_, rfl, ?_⟩
      have n0_ := Aside0.mk (Kd.S_below au10_0 hb)
      have n1_ := Aside0.mk (Kd.S_below au10_2 hb)
      have n2_ := Aside0.mk (blkb_ BK284 hb)
      have n3_ := Aside0.mk (blkb_ BK285 hb)
      have n4_ := Aside0.mk (blkb_ BK300 hb)
      have n5_ := Aside0.mk (below_step bl_ hb)
      clear HO294
      clear HO299
      clear BK284
      clear BK285
      clear BK300
      clear HB
      have HO294 := n0_
      have HO299 := n1_
      have BK284 := n2_
      have BK285 := n3_
      have BK300 := n4_
      have HB := n5_
      clear n0_ n1_ n2_ n3_ n4_ n5_
      (try clear hb)
      (try clear hb2)
      (try clear hk)
      (try clear hi)
      refine hK.out _ _ ⟨(blk_cell BK284.out 0).trans rfl, (blk_cell BK284.out 1).trans rfl, (blk_cell BK284.out 2).trans rfl, (blk_cell BK284.out 3).trans rfl, (blk_cell BK300.out 0).trans rfl, (blk_cell BK300.out 1).trans rfl⟩ (fun hHeld => ?_)
      clear hK K
      refine norm_ (a' := ?_) ?_ ?_
      rotate_left
      · show Act.put _ (some 22) _ = _
        simp only [Act.put, List.setIfInBounds_toArray, List.set_cons_zero, List.set_cons_succ, i64_w, i32_w]
        rfl
      refine one_ (i := 3) (N := some 24) #[true, true, true, true, false] rfl rfl (by kernel_rfl) (by decide) (fun K hK => ?_)
      refine gr_ Try.func39 #[.agg #[.int .i64 t301, .int .i64 t302, .int .i64 t303, .int .i64 t304], .agg #[.string t296, .slice Ao86 t297.length co86]] (by rfl) ?_ rfl rfl rfl
      with_reducible refine (impl_SegmentText.calls k t301 t302 t303 t304 t296 _ _ t297 t305 _ ?side1 ?side2 A15.out).mono ?_
      (case side1 => exact au10_6)
      (case side2 => exact au10_11)
      rintro e w90 ⟨rfl, hb⟩
      refine ⟨_, rfl, ?_⟩
      have n0_ := Aside0.mk (Kd.S_below au10_0 hb)
      have n1_ := Aside0.mk (Kd.S_below au10_2 hb)
      have n2_ := Aside0.mk (blkb_ BK284 hb)
      have n3_ := Aside0.mk (blkb_ BK285 hb)
      have n4_ := Aside0.mk (blkb_ BK300 hb)
      have n5_ := Aside0.mk (below_step bl_ hb)
      clear HO294
      clear HO299
      clear BK284
      clear BK285
      clear BK300
      clear HB
      have HO294 := n0_
      have HO299 := n1_
      have BK284 := n2_
      have BK285 := n3_
      have BK300 := n4_
      have HB := n5_
      clear n0_ n1_ n2_ n3_ n4_ n5_
      (try clear hb)
      (try clear hb2)
      (try clear hk)
      (try clear hi)
      refine hK.out _ _ ⟨(blk_cell BK284.out 0).trans rfl, (blk_cell BK284.out 1).trans rfl, (blk_cell BK284.out 2).trans rfl, (blk_cell BK284.out 3).trans rfl, (blk_cell BK300.out 0).trans rfl, (blk_cell BK300.out 1).trans rfl⟩ (fun hHeld => ?_)
      clear hK K
      refine norm_ (a' := ?_) ?_ ?_
      rotate_left
      · show Act.put _ (some 24) _ = _
        simp only [Act.put, List.setIfInBounds_toArray, List.set_cons_zero, List.set_cons_succ, i64_w, i32_w]
        rfl
      refine pure_ (i := 4) (N := some 8) (v := ?_) (a' := ?_) #[true, true, true, true, true] rfl rfl (by kernel_rfl) (fun _ _ _ h => h) (Or.inl ⟨by rfl, ?_⟩) ?_ ?_
      rotate_left
      · intro w'
        go_simp
        with_reducible rfl
      rotate_left
      · simp only [Act.put, List.setIfInBounds_toArray, List.set_cons_zero, List.set_cons_succ, i64_w, i32_w]
        rfl
      refine done_ (by kernel_rfl) ?_
      try go_wp2
      go_ret
      exact ⟨au10_8, bl_⟩

/-- THE ONE PURE STATEMENT of laws_FnExactSegmentText: yours. -/
def laws_FnExactSegmentText.Pure : Prop := ∀ (a0_0 : Int) (a0_1 : Int) (a0_2 : Int) (a0_3 : Int) (a1_0 : ByteArray) (l1_1 : List (S125)), (fun n_ : Int => (Lit.int .i64 n_).wf = true) a0_0 → (fun n_ : Int => (Lit.int .i64 n_).wf = true) a0_1 → (fun n_ : Int => (Lit.int .i64 n_).wf = true) a0_2 → (fun n_ : Int => (Lit.int .i64 n_).wf = true) a0_3 → (fun s_ : ByteArray => s_.size ≤ maxLen) a1_0 → (fun xs_ : List (S125) => xs_.length ≤ maxLen ∧ ∀ x_ ∈ xs_, q125 x_) l1_1 → ∃ k, laws_FnExactSegmentText.f k a0_0 a0_1 a0_2 a0_3 a1_0 l1_1 = some true

end Go.Proofs.Ytchoalagkcdbhaa.PFnExactSegmentText
