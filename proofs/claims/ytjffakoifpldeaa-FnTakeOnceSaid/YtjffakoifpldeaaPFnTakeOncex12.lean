-- printed by a program of this session (wip/xp/xprint.py) out of the translation; Lean checks it
import Derived.Test.YtjffakoifpldeaaPFnTakeOncex0
import Derived.Test.YtjffakoifpldeaaPFnTakeOncex4
import Derived.Test.YtjffakoifpldeaaPFnTakeOncex6
import Derived.Test.YtjffakoifpldeaaPFnTakeOncex10
import Derived.Test.YtjffakoifpldeaaPFnTakeOncex11
namespace Go.Proofs.Ytjffakoifpldeaa.PFnTakeOnce
open Go.RowKit Go.Proofs.YtjffakoifpldeaaW.PrintWords Go.Proofs.YtjffakoifpldeaaW.PrintLast Go.Proofs.YtjffakoifpldeaaW.PrintMore
attribute [local go_sem] max2_int min2_int max_two min_two max_three min_three max_four min_four   -- for this text's walks alone
set_option linter.unusedVariables false
set_option linter.unusedSimpArgs false

theorem au12_0 {p : Prop} (h : p := by repeat (first | (with_reducible first | exact HK.out | apply KeepBut.set_ | apply keep_drewN | apply keep_drew | apply keep_alloc) | exact HK.out)) : p := h
theorem au12_1 {p : Prop} (h : p := by repeat (first | (with_reducible first | exact HI0.out | apply IsS116.alloc | apply IsS116.drewN | apply IsS116.drew | apply IsS116.set_1 | apply IsS116.set_2 | apply IsS116.set_3) | exact HI0.out)) : p := h
theorem au12_2 {p : Prop} (h : p := by repeat (first | (with_reducible first | exact HB.out | apply below_alloc | apply pw_below_drewN | apply below_drew1 | refine below_set ?_ (IsS116.ge HI0.out)) | exact HB.out)) : p := h
theorem au12_3 {p : Prop} (h : p := by repeat (first | (with_reducible first | exact HI0.out | apply IsS116.alloc | apply IsS116.drewN | apply IsS116.drew | apply IsS116.set_1 | apply IsS116.set_2 | apply IsS116.set_3) | exact HI0.out)) : p := h
theorem au12_4 {p : Prop} (h : p := by repeat (first | (with_reducible first | exact HB.out | apply below_alloc | apply pw_below_drewN | apply below_drew1 | refine below_set ?_ (IsS116.ge HI0.out)) | exact HB.out)) : p := h
theorem au12_5 {p : Prop} (h : p := by repeat (first | (with_reducible first | exact HK.out | apply KeepBut.set_ | apply keep_drewN | apply keep_drew | apply keep_alloc) | exact HK.out)) : p := h
theorem au12_6 {p : Prop} (h : p := by repeat (first | (with_reducible first | exact HI0.out | apply IsS116.alloc | apply IsS116.drewN | apply IsS116.drew | apply IsS116.set_1 | apply IsS116.set_2 | apply IsS116.set_3) | exact HI0.out)) : p := h
theorem au12_7 {p : Prop} (h : p := by repeat (first | (with_reducible first | exact HB.out | apply below_alloc | apply pw_below_drewN | apply below_drew1 | refine below_set ?_ (IsS116.ge HI0.out)) | exact HB.out)) : p := h
theorem au12_8 {p : Prop} (h : p := by first | rfl | (simp [errW_none, errW_some] <;> rfl) | (simp [*, errW_none, errW_some] <;> rfl)) : p := h
theorem au12_10 {p : Prop} (h : p := by first | exact Kd.R_nil _ _ _ _ _ | exact Kd.N_nil _ _ _ _ _ | exact Kd.V_nil _ _ _ _ _ | exact Kd.Q_nil _ _ _ _ _ | exact Kd.S_nil _ _ _ _ _) : p := h
theorem au12_9 {p : Prop} (h : p := by exact (keep_size (w := w) (g := g) (row := none) au12_0)) : p := h

/-! ### spec_l01Src_one: function 74 -/
def spec_l01Src_one.f (s0_0 : List Int) (s0_1 : Int) (s0_2 : Int) (s0_3 : Int) (a1 : Int) : Option (Bool × Int × Int × Int) := (spec_l01Src_n.f s0_0 s0_1 s0_2 s0_3 a1).bind fun bt235 => (some ((bt235.1 == 0), bt235.2.1, bt235.2.2.1, bt235.2.2.2))
set_option maxHeartbeats 8000000 in
set_option maxRecDepth 100000 in
theorem spec_l01Src_one.calls (g : Nat) (s0_0 : List Int) (s0_1 : Int) (s0_2 : Int) (s0_3 : Int) (a1 : Int) (r1 : Bool) (r2 : Int) (r3 : Int) (r4 : Int) (w0 w : World) (hI : IsS116 w0 w g s0_0 s0_1 s0_2 s0_3) (hB : Below w0.heap.size w0 w) (h : spec_l01Src_one.f s0_0 s0_1 s0_2 s0_3 a1 = some (r1, r2, r3, r4)) :
    Calls Try.prog 74 #[.pointer (some ⟨g, 0, none⟩), .int .i64 a1] w fun e w' => e = .returned (.bool r1) ∧ IsS116 w0 w' g s0_0 r2 r3 r4 ∧ Below w0.heap.size w0 w' ∧ KeepBut w w' g none := by
  have HI0 := Aside0.mk hI
  have HK := Aside0.mk (KeepBut.refl w g none)
  have HL := Aside0.mk hB.size
  clear hI
  have HW0 := Aside0.mk hB.size
  have HB := Aside0.mk hB
  clear hB
  have H : ((spec_l01Src_n.f s0_0 s0_1 s0_2 s0_3 a1).bind fun bt235 => (some ((bt235.1 == 0), bt235.2.1, bt235.2.2.1, bt235.2.2.2))) = some (r1, r2, r3, r4) := h
  clear h
  replace H := Option.bind_eq_some_iff.mp H
  obtain ⟨⟨t235, t236, t237, t238⟩, A30, H⟩ := H
  replace H : (some ((t235 == 0), t236, t237, t238)) = some (r1, r2, r3, r4) := H
  have A3 := Aside0.mk A30
  clear A30
  simp only [Option.some.injEq, Prod.mk.injEq] at H
  obtain ⟨rfl, rfl, rfl, rfl⟩ := H
  go_enter Try.func74, Try.ntmps74
  go_wp2_with (first | ((with_reducible refine gate_callee (f := 101) rfl ?_); refine gl_ 7 Try.func101 #[.pointer (some ⟨g, 0, none⟩), .int .i64 a1] ?_ rfl rfl rfl rfl; (with_reducible refine (spec_l01Src_n.calls g s0_0 s0_1 s0_2 s0_3 a1 t235 t236 t237 t238 w0 _ ?side1 ?side2 A3.out).mono ?_); (case side1 => exact au12_1); (case side2 => exact au12_2); rintro e w4 ⟨rfl, hi, hb, hk⟩; refine ⟨_, rfl, ?_⟩; have n0_ := Aside0.mk (KeepBut.trans au12_0 hk (.inl rfl)); have n1_ := Aside0.mk (hb); have n2_ := Aside0.mk (hi); clear HK; clear HB; clear HI0; have HK := n0_; have HB := n1_; have HI0 := n2_; clear n0_ n1_ n2_; (try clear hb); (try clear hb2); (try clear hk); (try clear hi)))
  go_ret
  exact ⟨au12_8, au12_3, au12_4, au12_5⟩

/-! ### spec_l01Src_pick: function 75 -/
def spec_l01Src_pick.f (s0_0 : List Int) (s0_1 : Int) (s0_2 : Int) (s0_3 : Int) (l1 : List ByteArray) : Option (ByteArray × Int × Int × Int) := (spec_l01Src_n.f s0_0 s0_1 s0_2 s0_3 (l1.length : Int)).bind fun bt239 => (if 0 ≤ bt239.1 then (if bt239.1 < (l1.length : Int) then (some (rdOf ByteArray.empty l1 bt239.1, bt239.2.1, bt239.2.2.1, bt239.2.2.2)) else (none)) else (none))
set_option maxHeartbeats 8000000 in
set_option maxRecDepth 100000 in
theorem spec_l01Src_pick.calls (g : Nat) (s0_0 : List Int) (s0_1 : Int) (s0_2 : Int) (s0_3 : Int) (A1 : Option Addr) (c1 : Nat) (l1 : List ByteArray) (r1 : ByteArray) (r2 : Int) (r3 : Int) (r4 : Int) (w0 w : World) (hI : IsS116 w0 w g s0_0 s0_1 s0_2 s0_3) (hB : Below w0.heap.size w0 w) (hr1 : Kd.C Kd.string w A1 l1.length l1) (hc1 : l1.length ≤ c1) (hf1 : ∀ ad, A1 = some ad → 0 < l1.length → ad.block ≠ g) (h : spec_l01Src_pick.f s0_0 s0_1 s0_2 s0_3 l1 = some (r1, r2, r3, r4)) :
    Calls Try.prog 75 #[.pointer (some ⟨g, 0, none⟩), .slice A1 l1.length c1] w fun e w' => e = .returned (.string r1) ∧ IsS116 w0 w' g s0_0 r2 r3 r4 ∧ Below w0.heap.size w0 w' ∧ KeepBut w w' g none := by
  have HR1 := Aside0.mk hr1
  have HC1 := Aside0.mk hc1
  clear hr1 hc1
  have HI0 := Aside0.mk hI
  have HK := Aside0.mk (KeepBut.refl w g none)
  have HL := Aside0.mk hB.size
  clear hI
  have HW0 := Aside0.mk hB.size
  have HB := Aside0.mk hB
  clear hB
  have H : ((spec_l01Src_n.f s0_0 s0_1 s0_2 s0_3 (l1.length : Int)).bind fun bt239 => (if 0 ≤ bt239.1 then (if bt239.1 < (l1.length : Int) then (some (rdOf ByteArray.empty l1 bt239.1, bt239.2.1, bt239.2.2.1, bt239.2.2.2)) else (none)) else (none))) = some (r1, r2, r3, r4) := h
  clear h
  replace H := Option.bind_eq_some_iff.mp H
  obtain ⟨⟨t239, t240, t241, t242⟩, A30, H⟩ := H
  replace H : (if 0 ≤ t239 then (if t239 < (l1.length : Int) then (some (rdOf ByteArray.empty l1 t239, t240, t241, t242)) else (none)) else (none)) = some (r1, r2, r3, r4) := H
  have A3 := Aside0.mk A30
  clear A30
  by_cases c4 : 0 ≤ t239
  · rw [if_pos c4] at H
    have c4b0 : decide (0 ≤ t239) = true := decide_eq_true c4
    clear c4
    by_cases c5 : t239 < (l1.length : Int)
    · rw [if_pos c5] at H
      have c5b0 : decide (t239 < (l1.length : Int)) = true := decide_eq_true c5
      clear c5
      simp only [Option.some.injEq, Prod.mk.injEq] at H
      obtain ⟨rfl, rfl, rfl, rfl⟩ := H
      go_enter Try.func75, Try.ntmps75
      go_wp2_with (first | ((with_reducible refine gate_callee (f := 101) rfl ?_); refine gl_ 9 Try.func101 #[.pointer (some ⟨g, 0, none⟩), .int .i64 (l1.length : Int)] ?_ rfl rfl rfl rfl; (with_reducible refine (spec_l01Src_n.calls g s0_0 s0_1 s0_2 s0_3 (l1.length : Int) t239 t240 t241 t242 w0 _ ?side1 ?side2 A3.out).mono ?_); (case side1 => exact au12_1); (case side2 => exact au12_2); rintro e w6 ⟨rfl, hi, hb, hk⟩; refine ⟨_, rfl, ?_⟩; have n0_ := Aside0.mk (KeepBut.trans au12_0 hk (.inl rfl)); have n1_ := Aside0.mk (hb); have n2_ := Aside0.mk (hi); clear HK; clear HB; clear HI0; have HK := n0_; have HB := n1_; have HI0 := n2_; clear n0_ n1_ n2_; (try clear hb); (try clear hb2); (try clear hk); (try clear hi); have p243 : 0 ≤ (t239 : Int) := of_decide_eq_true as_; have q243 : t239 < (l1.length : Int) := of_decide_eq_true as_; obtain ⟨ad243, e243, hx243_0⟩ := Kd.at_string HR1.out t239 p243 q243; cases e243; replace hx243_0 := keep_cell HK.out hx243_0 (by first | (rw [add_block]; exact hf1 _ rfl (by omega)) | exact hf1 _ rfl (by omega) | exact hf1 ad243 rfl (by omega)); replace p243 := eq_true p243; replace q243 := eq_true q243))
      go_ret
      exact ⟨au12_8, au12_3, au12_4, au12_5⟩
    · rw [if_neg c5] at H
      exact absurd H (by simp)
  · rw [if_neg c4] at H
    exact absurd H (by simp)

/-! ### spec_PartnerNew: function 84 -/
def spec_PartnerNew.f (k : Nat) (a0 : ByteArray) : Option (ByteArray × Int × Int × (List (S62))) := (spec_l01Name.f k a0).bind fun t245 => (if t245 = true then (some (a0, 1, 1, ([] : List (S62)))) else (some ((⟨#[]⟩ : ByteArray), 0, 0, ([] : List (S62)))))
theorem spec_PartnerNew.mono : ∀ a0 k, LeO (spec_PartnerNew.f k a0) (spec_PartnerNew.f (k + 1) a0) := by
  intro a0 k
  unfold spec_PartnerNew.f
  repeat' first
      | (with_reducible exact spec_l01Name.mono _ _)
      | (with_reducible exact LeO.refl _)
      | (with_reducible exact LeO.none _)
      | (with_reducible refine LeO.ite ?_ ?_)
      | (with_reducible refine LeO.bind ?_ (fun _ => ?_))
      | exact spec_l01Name.mono _ _
      | exact LeO.none _
      | refine LeO.ite ?_ ?_
      | refine LeO.bind ?_ (fun _ => ?_)
set_option maxHeartbeats 8000000 in
set_option maxRecDepth 100000 in
theorem spec_PartnerNew.calls (k : Nat) (a0 : ByteArray) (r1 : ByteArray) (r2 : Int) (r3 : Int) (r4 : List (S62)) (w : World) (h : spec_PartnerNew.f k a0 = some (r1, r2, r3, r4)) :
    Calls Try.prog 84 #[.string a0] w fun e w' => ∃ v3_ : Value, e = .returned (.agg #[.string r1, .int .i64 r2, .int .i64 r3, v3_]) ∧ Kd.R k62 62 w' w.heap.size (fun _ => True) v3_ r4 ∧ Below w.heap.size w w' := by
  have hu51 := Try.underlying51
  have HB := Aside0.mk (Below.refl w.heap.size w)
  have H : ((spec_l01Name.f k a0).bind fun t245 => (if t245 = true then (some (a0, 1, 1, ([] : List (S62)))) else (some ((⟨#[]⟩ : ByteArray), 0, 0, ([] : List (S62)))))) = some (r1, r2, r3, r4) := h
  clear h
  replace H := Option.bind_eq_some_iff.mp H
  obtain ⟨t245, A20, H⟩ := H
  replace H : (if t245 = true then (some (a0, 1, 1, ([] : List (S62)))) else (some ((⟨#[]⟩ : ByteArray), 0, 0, ([] : List (S62))))) = some (r1, r2, r3, r4) := H
  have A2 := Aside0.mk A20
  clear A20
  by_cases c3 : t245 = true
  · subst c3
    have H1 : (some (a0, 1, 1, ([] : List (S62)))) = some (r1, r2, r3, r4) := by rw [if_pos rfl] at H; exact H
    clear H
    have H := H1
    clear H1
    simp only [Option.some.injEq, Prod.mk.injEq] at H
    obtain ⟨rfl, rfl, rfl, rfl⟩ := H
    go_enter Try.func84, Try.ntmps84
    go_wp2_with (first | ((with_reducible refine gate_dst (N := 2) rfl ?_); refine box_event ?hg (N := 2) ?hd (cs := #[.string (⟨#[]⟩ : ByteArray), .int .i64 0, .int .i64 0, .slice none 0 0]) (t := 51) ?hr ?_; (case hd => rfl); (case hg => rfl); (case hr => exact hr_); intro gb244 hg w4 hbox hb; have n0_ := Aside0.mk (below_step bl_ hb); have n1_ := Aside0.mk (hbox); have n2_ := Aside0.mk (gw_ hg bl_); have n3_ := Aside0.mk (gw_ hg bl_); clear HB; have HB := n0_; have BK244 := n1_; have GW244 := n2_; have GE244 := n3_; clear n0_ n1_ n2_ n3_; clear hb hbox hg) | ((with_reducible refine gate_callee (f := 54) rfl ?_); refine gl_ 4 Try.func54 #[.string a0] ?_ rfl rfl rfl rfl; (with_reducible refine (spec_l01Name.calls k a0 true _ A2.out).mono ?_); rintro e w' ⟨rfl, ⟨nd, rfl⟩⟩; refine ⟨_, rfl, ?_⟩; (try (rw [drewN_self w4]; generalize hq_ : World.drewN w4 _ = w4; have n0_ : Aside0 (w4.heap[gb244]? = some (.cells #[.string (⟨#[]⟩ : ByteArray), .int .i64 0, .int .i64 0, .slice none 0 0] 51 (0, 0))) := ⟨by rw [← hq_]; exact (bk_ BK244)⟩; have n1_ : Aside0 (Below w.heap.size w w4) := ⟨by rw [← hq_]; exact bl_⟩; clear BK244 HB hq_; have BK244 := n0_; have HB := n1_; clear n0_ n1_)); obtain ⟨hcz5_0, hcz5_1, hcz5_2, hcz5_3, hfz5_0, hfz5_1, hfz5_2, hfz5_3⟩ := cellsF4 BK244.out))
    refine bodyPost_ret (results_cell_row rfl _ _ gb244 51 #[.string a0, .int .i64 1, .int .i64 1, .slice none 0 0] (0, 0) _ rfl (by (with_reducible repeat (first | refine blk_drewN ?_ _ | refine blk_drew ?_ | refine blk_alloc ?_ _)); refine blk_put (cs := #[.string a0, .int .i64 1, .int .i64 1, .slice none 0 0]) ?_ 3 _ rfl; (with_reducible repeat (first | refine blk_drewN ?_ _ | refine blk_drew ?_ | refine blk_alloc ?_ _)); refine blk_put (cs := #[.string a0, .int .i64 1, .int .i64 0, .slice none 0 0]) ?_ 2 _ rfl; (with_reducible repeat (first | refine blk_drewN ?_ _ | refine blk_drew ?_ | refine blk_alloc ?_ _)); refine blk_put (cs := #[.string a0, .int .i64 0, .int .i64 0, .slice none 0 0]) ?_ 1 _ rfl; (with_reducible repeat (first | refine blk_drewN ?_ _ | refine blk_drew ?_ | refine blk_alloc ?_ _)); refine blk_put (cs := #[.string (⟨#[]⟩ : ByteArray), .int .i64 0, .int .i64 0, .slice none 0 0]) ?_ 0 _ rfl; (with_reducible repeat (first | refine blk_drewN ?_ _ | refine blk_drew ?_ | refine blk_alloc ?_ _)); exact BK244.out) Try.underlying51 rfl (by kernel_rfl)) rfl ?_
    exact ⟨_, au12_8, au12_10, bl_⟩
  · replace c3 := Bool.eq_false_iff.mpr c3
    subst c3
    have H1 : (some ((⟨#[]⟩ : ByteArray), 0, 0, ([] : List (S62)))) = some (r1, r2, r3, r4) := by rw [if_neg (show ¬ (false = true) by decide)] at H; exact H
    clear H
    have H := H1
    clear H1
    simp only [Option.some.injEq, Prod.mk.injEq] at H
    obtain ⟨rfl, rfl, rfl, rfl⟩ := H
    go_enter Try.func84, Try.ntmps84
    go_wp2_with (first | ((with_reducible refine gate_dst (N := 2) rfl ?_); refine box_event ?hg (N := 2) ?hd (cs := #[.string (⟨#[]⟩ : ByteArray), .int .i64 0, .int .i64 0, .slice none 0 0]) (t := 51) ?hr ?_; (case hd => rfl); (case hg => rfl); (case hr => exact hr_); intro gb244 hg w6 hbox hb; have n0_ := Aside0.mk (below_step bl_ hb); have n1_ := Aside0.mk (hbox); have n2_ := Aside0.mk (gw_ hg bl_); have n3_ := Aside0.mk (gw_ hg bl_); clear HB; have HB := n0_; have BK244 := n1_; have GW244 := n2_; have GE244 := n3_; clear n0_ n1_ n2_ n3_; clear hb hbox hg) | ((with_reducible refine gate_callee (f := 54) rfl ?_); refine gl_ 4 Try.func54 #[.string a0] ?_ rfl rfl rfl rfl; (with_reducible refine (spec_l01Name.calls k a0 false _ A2.out).mono ?_); rintro e w' ⟨rfl, ⟨nd, rfl⟩⟩; refine ⟨_, rfl, ?_⟩; (try (rw [drewN_self w6]; generalize hq_ : World.drewN w6 _ = w6; have n0_ : Aside0 (w6.heap[gb244]? = some (.cells #[.string (⟨#[]⟩ : ByteArray), .int .i64 0, .int .i64 0, .slice none 0 0] 51 (0, 0))) := ⟨by rw [← hq_]; exact (bk_ BK244)⟩; have n1_ : Aside0 (Below w.heap.size w w6) := ⟨by rw [← hq_]; exact bl_⟩; clear BK244 HB hq_; have BK244 := n0_; have HB := n1_; clear n0_ n1_)); obtain ⟨hcz7_0, hcz7_1, hcz7_2, hcz7_3, hfz7_0, hfz7_1, hfz7_2, hfz7_3⟩ := cellsF4 BK244.out))
    refine bodyPost_ret (results_cell_row rfl _ _ gb244 51 #[.string (⟨#[]⟩ : ByteArray), .int .i64 0, .int .i64 0, .slice none 0 0] (0, 0) _ rfl (by (with_reducible repeat (first | refine blk_drewN ?_ _ | refine blk_drew ?_ | refine blk_alloc ?_ _)); refine blk_put (cs := #[.string (⟨#[]⟩ : ByteArray), .int .i64 0, .int .i64 0, .slice none 0 0]) ?_ 3 _ rfl; (with_reducible repeat (first | refine blk_drewN ?_ _ | refine blk_drew ?_ | refine blk_alloc ?_ _)); refine blk_put (cs := #[.string (⟨#[]⟩ : ByteArray), .int .i64 0, .int .i64 0, .slice none 0 0]) ?_ 2 _ rfl; (with_reducible repeat (first | refine blk_drewN ?_ _ | refine blk_drew ?_ | refine blk_alloc ?_ _)); refine blk_put (cs := #[.string (⟨#[]⟩ : ByteArray), .int .i64 0, .int .i64 0, .slice none 0 0]) ?_ 1 _ rfl; (with_reducible repeat (first | refine blk_drewN ?_ _ | refine blk_drew ?_ | refine blk_alloc ?_ _)); refine blk_put (cs := #[.string (⟨#[]⟩ : ByteArray), .int .i64 0, .int .i64 0, .slice none 0 0]) ?_ 0 _ rfl; (with_reducible repeat (first | refine blk_drewN ?_ _ | refine blk_drew ?_ | refine blk_alloc ?_ _)); exact BK244.out) Try.underlying51 rfl (by kernel_rfl)) rfl ?_
    exact ⟨_, au12_8, au12_10, bl_⟩

/-! ### spec_l01Src_l07Numbers: function 103 -/
def spec_l01Src_l07Numbers.l0 : Nat → Int → List Int → Int → List Int → Int → Int → Int → Option (List Int × Int × Int × Int)
  | 0, _, _, _, _, _, _, _ => none
  | k + 1, x1, x5, x6, x1000, x1001, x1002, x1003 => if x1 > 0 then ((spec_l01Src_n.f x1000 x1001 x1002 x1003 8).bind fun bt249 => (if bt249.1 = 0 then ((spec_l01Src_n.f x1000 bt249.2.1 bt249.2.2.1 bt249.2.2.2 (wrap64 (x6 + 4))).bind fun bt253 => (if x5.length < 17592186044416 then (spec_l01Src_l07Numbers.l0 k (wrap64 (x1 - 1)) (x5 ++ [wrap64 (1 + bt253.1)]) x6 x1000 bt253.2.1 bt253.2.2.1 bt253.2.2.2) else (none))) else (if bt249.1 = 1 then ((spec_l01Src_n.f x1000 bt249.2.1 bt249.2.2.1 bt249.2.2.2 30).bind fun bt260 => (if x5.length < 17592186044416 then (spec_l01Src_l07Numbers.l0 k (wrap64 (x1 - 1)) (x5 ++ [wrap64 (x6 + bt260.1)]) (wrap64 (x6 + bt260.1)) x1000 bt260.2.1 bt260.2.2.1 bt260.2.2.2) else (none))) else (if bt249.1 = 2 then ((spec_l01Src_n.f x1000 bt249.2.1 bt249.2.2.1 bt249.2.2.2 4).bind fun bt267 => ((spec_l01Max.f 1 (wrap64 ((wrap64 (x6 - 30)) - bt267.1))).bind fun t271 => (if x5.length < 17592186044416 then (spec_l01Src_l07Numbers.l0 k (wrap64 (x1 - 1)) (x5 ++ [t271]) x6 x1000 bt267.2.1 bt267.2.2.1 bt267.2.2.2) else (none)))) else (if x5.length < 17592186044416 then ((spec_l01Src_n.f x1000 bt249.2.1 bt249.2.2.1 bt249.2.2.2 2).bind fun bt278 => (spec_l01Src_l07Numbers.l0 k (wrap64 (x1 - 1)) (x5 ++ [x6]) (wrap64 ((wrap64 (x6 + 1)) + bt278.1)) x1000 bt278.2.1 bt278.2.2.1 bt278.2.2.2)) else (none)))))) else (some (x5, x1001, x1002, x1003))
def spec_l01Src_l07Numbers.f (k : Nat) (s0_0 : List Int) (s0_1 : Int) (s0_2 : Int) (s0_3 : Int) (a1 : Int) : Option (List Int × Int × Int × Int) := spec_l01Src_l07Numbers.l0 k a1 (([] : List Int)) 1 s0_0 s0_1 s0_2 s0_3
theorem spec_l01Src_l07Numbers.mono_l : ∀ k, (∀ y0 y1 y2 y3 y4 y5 y6, LeO (spec_l01Src_l07Numbers.l0 k y0 y1 y2 y3 y4 y5 y6) (spec_l01Src_l07Numbers.l0 (k + 1) y0 y1 y2 y3 y4 y5 y6))
  | 0 => fun _ _ _ _ _ _ _ r h => by simp [spec_l01Src_l07Numbers.l0] at h
  | k + 1 => by
    have ih0 := spec_l01Src_l07Numbers.mono_l k
    · intro y0 y1 y2 y3 y4 y5 y6
      unfold spec_l01Src_l07Numbers.l0
      repeat' first
      | (with_reducible exact ih0 _ _ _ _ _ _ _)
      | (with_reducible exact LeO.refl _)
      | (with_reducible exact LeO.none _)
      | (with_reducible refine LeO.ite ?_ ?_)
      | (with_reducible refine LeO.bind ?_ (fun _ => ?_))
      | exact ih0 _ _ _ _ _ _ _
      | exact LeO.none _
      | refine LeO.ite ?_ ?_
      | refine LeO.bind ?_ (fun _ => ?_)
theorem spec_l01Src_l07Numbers.mono : ∀ a0 a1 a2 a3 a4 k, LeO (spec_l01Src_l07Numbers.f k a0 a1 a2 a3 a4) (spec_l01Src_l07Numbers.f (k + 1) a0 a1 a2 a3 a4) := by
  intro a0 a1 a2 a3 a4 k
  have ih0 := spec_l01Src_l07Numbers.mono_l k
  unfold spec_l01Src_l07Numbers.f
  repeat' first
      | (with_reducible exact ih0 _ _ _ _ _ _ _)
      | (with_reducible exact LeO.refl _)
      | (with_reducible exact LeO.none _)
      | (with_reducible refine LeO.ite ?_ ?_)
      | (with_reducible refine LeO.bind ?_ (fun _ => ?_))
      | exact ih0 _ _ _ _ _ _ _
      | exact LeO.none _
      | refine LeO.ite ?_ ?_
      | refine LeO.bind ?_ (fun _ => ?_)
set_option maxHeartbeats 8000000 in
set_option maxRecDepth 100000 in
theorem spec_l01Src_l07Numbers.calls (k : Nat) (g : Nat) (s0_0 : List Int) (s0_1 : Int) (s0_2 : Int) (s0_3 : Int) (a1 : Int) (r1 : List Int) (r2 : Int) (r3 : Int) (r4 : Int) (w0 w : World) (hI : IsS116 w0 w g s0_0 s0_1 s0_2 s0_3) (hB : Below w0.heap.size w0 w) (h : spec_l01Src_l07Numbers.f k s0_0 s0_1 s0_2 s0_3 a1 = some (r1, r2, r3, r4)) :
    Calls Try.prog 103 #[.pointer (some ⟨g, 0, none⟩), .int .i64 a1] w fun e w' => ∃ v0_ : Value, e = .returned (v0_) ∧ Kd.R (Kd.int .i64) 2 w' w.heap.size (fun _ => True) v0_ r1 ∧ IsS116 w0 w' g s0_0 r2 r3 r4 ∧ Below w0.heap.size w0 w' ∧ KeepBut w w' g none := by
  have HI0 := Aside0.mk hI
  have HK := Aside0.mk (KeepBut.refl w g none)
  have HL := Aside0.mk hB.size
  clear hI
  have HW0 := Aside0.mk hB.size
  have HB := Aside0.mk hB
  clear hB
  have H : (spec_l01Src_l07Numbers.l0 k a1 (([] : List Int)) 1 s0_0 s0_1 s0_2 s0_3) = some (r1, r2, r3, r4) := h
  clear h
  obtain ⟨y246, hy246⟩ : ∃ y_ : List Int, y_ = (([] : List Int)) := ⟨_, rfl⟩
  replace H : (spec_l01Src_l07Numbers.l0 k a1 y246 1 s0_0 s0_1 s0_2 s0_3) = some (r1, r2, r3, r4) := by first | (rw [hy246]; with_reducible exact H) | (have H2_ := (Option.bind_some _ _).symm.trans H; rw [hy246]; with_reducible exact H2_) | (have H2_ := (Option.bind_some _ _).symm.trans H; with_reducible exact H2_) | with_reducible exact H | (rw [hy246]; exact H) | exact H
  have Ny246 := Aside0.mk hy246
  clear hy246
  have H' := Aside0.mk H
  clear H
  go_enter Try.func103, Try.ntmps103
  go_wp2_with (first | ((with_reducible refine gate_dst (N := 7) rfl ?_); refine Kd.R_lit (Kd.int .i64) _ 2 ?hg (N := 7) ?hd (xs := ([] : List Int)) (inner := []) (ok := fun _ => True) (okp := fun _ => True) ?hr ?hp (fun _ hk => hk) trivial (Below.refl _ _) (Nat.le_refl _) (by simp) ?_; (case hd => rfl); (case hg => rfl); (case hr => exact hr_); (case hp => exact (Reps.none _ _)); intro v247 w3 ho4 hb hg_ hnew_; clear hg_ hnew_; (first | rw [← Ny246.out] at ho4 | (simp only [Int.reduceToNat] at ho4; rw [← Ny246.out] at ho4)); have n0_ := Aside0.mk (Kd.R_lower ho4 (keep_size (w := w) (g := g) (row := none) au12_0)); have n1_ := Aside0.mk (IsS116.below au12_6 hb); have n2_ := Aside0.mk (KeepBut.trans au12_0 (KeepBut.of_below hb g none) (.inl rfl)); have n3_ := Aside0.mk (below_step au12_7 hb); clear HI0; clear HK; clear HB; have HO248 := n0_; have HI0 := n1_; have HK := n2_; have HB := n3_; clear n0_ n1_ n2_ n3_; clear hb ho4))
  go_loopg [1, 5, 6] k (fun kq v1 v5 v6 w' => ∃ (x1_1 : Int) (x5_1 : List Int) (x6_1 : Int) (x1001_1 : Int) (x1002_1 : Int) (x1003_1 : Int), v1 = .int .i64 x1_1 ∧ v6 = .int .i64 x6_1 ∧ Aside0 (spec_l01Src_l07Numbers.l0 kq x1_1 x5_1 x6_1 s0_0 x1001_1 x1002_1 x1003_1 = some (r1, r2, r3, r4)) ∧ Aside0 (kq ≤ k) ∧ Aside0 (Kd.R (Kd.int .i64) 2 w' w.heap.size (fun _ => True) v5 x5_1) ∧ Aside0 (IsS116 w0 w' g s0_0 x1001_1 x1002_1 x1003_1) ∧ Aside0 (KeepBut w w' g none) ∧ Aside0 (Below w0.heap.size w0 w'))
  case atStart => exact ⟨(a1), (y246), (1), (s0_1), (s0_2), (s0_3), er_, er_, H', ⟨Nat.le_refl _⟩, ⟨rk_ HO248⟩, ⟨au12_3⟩, ⟨au12_5⟩, ⟨au12_4⟩⟩
  case round =>
    clear H'
    try clear c1
    try clear p2
    obtain ⟨x1_1, x5_1, x6_1, x1001_1, x1002_1, x1003_1, rfl, rfl, HA, HK1, HO_5, HI0, HK, HB⟩ := hrel
    cases gk with
    | zero => exact absurd HA.out (by simp [spec_l01Src_l07Numbers.l0])
    | succ k1 =>
      have H := HA.out
      clear HA
      simp only [spec_l01Src_l07Numbers.l0] at H
      by_cases c5 : x1_1 > 0
      · rw [if_pos c5] at H
        have c5b0 : decide (0 < x1_1) = true := decide_eq_true c5
        clear c5
        replace H := Option.bind_eq_some_iff.mp H
        obtain ⟨⟨t249, t250, t251, t252⟩, A60, H⟩ := H
        replace H : (if t249 = 0 then ((spec_l01Src_n.f s0_0 t250 t251 t252 (wrap64 (x6_1 + 4))).bind fun bt253 => (if x5_1.length < 17592186044416 then (spec_l01Src_l07Numbers.l0 k1 (wrap64 (x1_1 - 1)) (x5_1 ++ [wrap64 (1 + bt253.1)]) x6_1 s0_0 bt253.2.1 bt253.2.2.1 bt253.2.2.2) else (none))) else (if t249 = 1 then ((spec_l01Src_n.f s0_0 t250 t251 t252 30).bind fun bt260 => (if x5_1.length < 17592186044416 then (spec_l01Src_l07Numbers.l0 k1 (wrap64 (x1_1 - 1)) (x5_1 ++ [wrap64 (x6_1 + bt260.1)]) (wrap64 (x6_1 + bt260.1)) s0_0 bt260.2.1 bt260.2.2.1 bt260.2.2.2) else (none))) else (if t249 = 2 then ((spec_l01Src_n.f s0_0 t250 t251 t252 4).bind fun bt267 => ((spec_l01Max.f 1 (wrap64 ((wrap64 (x6_1 - 30)) - bt267.1))).bind fun t271 => (if x5_1.length < 17592186044416 then (spec_l01Src_l07Numbers.l0 k1 (wrap64 (x1_1 - 1)) (x5_1 ++ [t271]) x6_1 s0_0 bt267.2.1 bt267.2.2.1 bt267.2.2.2) else (none)))) else (if x5_1.length < 17592186044416 then ((spec_l01Src_n.f s0_0 t250 t251 t252 2).bind fun bt278 => (spec_l01Src_l07Numbers.l0 k1 (wrap64 (x1_1 - 1)) (x5_1 ++ [x6_1]) (wrap64 ((wrap64 (x6_1 + 1)) + bt278.1)) s0_0 bt278.2.1 bt278.2.2.1 bt278.2.2.2)) else (none))))) = some (r1, r2, r3, r4) := H
        have A6 := Aside0.mk A60
        clear A60
        by_cases c7 : t249 = 0
        · rw [if_pos c7] at H
          have c7b0 : (t249 == 0) = true := beq_iff_eq.mpr c7
          have c7b1 : (t249 != 0) = false := bne_eq_false_iff_eq.mpr c7
          clear c7
          replace H := Option.bind_eq_some_iff.mp H
          obtain ⟨⟨t253, t254, t255, t256⟩, A80, H⟩ := H
          replace H : (if x5_1.length < 17592186044416 then (spec_l01Src_l07Numbers.l0 k1 (wrap64 (x1_1 - 1)) (x5_1 ++ [wrap64 (1 + t253)]) x6_1 s0_0 t254 t255 t256) else (none)) = some (r1, r2, r3, r4) := H
          have A8 := Aside0.mk A80
          clear A80
          by_cases c9 : x5_1.length < 17592186044416
          · rw [if_pos c9] at H
            have LMc9 := Aside0.mk c9
            clear c9
            obtain ⟨y257, hy257⟩ : ∃ y_ : List Int, y_ = (x5_1 ++ [wrap64 (1 + t253)]) := ⟨_, rfl⟩
            replace H : (spec_l01Src_l07Numbers.l0 k1 (wrap64 (x1_1 - 1)) y257 x6_1 s0_0 t254 t255 t256) = some (r1, r2, r3, r4) := by first | (rw [hy257]; with_reducible exact H) | (have H2_ := (Option.bind_some _ _).symm.trans H; rw [hy257]; with_reducible exact H2_) | (have H2_ := (Option.bind_some _ _).symm.trans H; with_reducible exact H2_) | with_reducible exact H | (rw [hy257]; exact H) | exact H
            have Ny257 := Aside0.mk hy257
            clear hy257
            have H' := Aside0.mk H
            clear H
            go_wp2_with (first | ((with_reducible refine gate_callee (f := 101) rfl ?_); refine gl_ 13 Try.func101 #[.pointer (some ⟨g, 0, none⟩), .int .i64 8] ?_ rfl rfl rfl rfl; (with_reducible refine (spec_l01Src_n.calls g s0_0 x1001_1 x1002_1 x1003_1 8 t249 t250 t251 t252 w0 _ ?side1 ?side2 A6.out).mono ?_); (case side1 => exact au12_1); (case side2 => exact au12_2); rintro e w10 ⟨rfl, hi, hb, hk⟩; refine ⟨_, rfl, ?_⟩; have n0_ := Aside0.mk (Kd.R_mono (Kd.R_keep (IsS116.apart (show IsS116 w0 _ g s0_0 x1001_1 x1002_1 x1003_1 from by repeat (first | (with_reducible first | exact HI0.out | apply IsS116.alloc | apply IsS116.drewN | apply IsS116.drew | apply IsS116.set_1 | apply IsS116.set_2 | apply IsS116.set_3) | exact HI0.out)) (rk_ HO_5) (by decide)) hk (fun _ h => h.2)) (fun _ h => h.1)); have n1_ := Aside0.mk (KeepBut.trans au12_0 hk (.inl rfl)); have n2_ := Aside0.mk (hb); have n3_ := Aside0.mk (hi); clear HO_5; clear HK; clear HB; clear HI0; have HO_5 := n0_; have HK := n1_; have HB := n2_; have HI0 := n3_; clear n0_ n1_ n2_ n3_; (try clear hb); (try clear hb2); (try clear hk); (try clear hi)) | ((with_reducible refine gate_callee (f := 101) rfl ?_); refine gl_ 29 Try.func101 #[.pointer (some ⟨g, 0, none⟩), .int .i64 (wrap64 (x6_1 + 4))] ?_ rfl rfl rfl rfl; (with_reducible refine (spec_l01Src_n.calls g s0_0 t250 t251 t252 (wrap64 (x6_1 + 4)) t253 t254 t255 t256 w0 _ ?side1 ?side2 A8.out).mono ?_); (case side1 => exact au12_1); (case side2 => exact au12_2); rintro e w11 ⟨rfl, hi, hb, hk⟩; refine ⟨_, rfl, ?_⟩; have n0_ := Aside0.mk (Kd.R_mono (Kd.R_keep (IsS116.apart (show IsS116 w0 _ g s0_0 t250 t251 t252 from by repeat (first | (with_reducible first | exact HI0.out | apply IsS116.alloc | apply IsS116.drewN | apply IsS116.drew | apply IsS116.set_1 | apply IsS116.set_2 | apply IsS116.set_3) | exact HI0.out)) (rk_ HO_5) (by decide)) hk (fun _ h => h.2)) (fun _ h => h.1)); have n1_ := Aside0.mk (KeepBut.trans au12_0 hk (.inl rfl)); have n2_ := Aside0.mk (hb); have n3_ := Aside0.mk (hi); clear HO_5; clear HK; clear HB; clear HI0; have HO_5 := n0_; have HK := n1_; have HB := n2_; have HI0 := n3_; clear n0_ n1_ n2_ n3_; (try clear hb); (try clear hb2); (try clear hk); (try clear hi)) | ((with_reducible refine gate_builtin (b := .append) (xs := #[.tmp 25, .tmp 31]) rfl ?_); at_builtin; refine Kd.R_append (Kd.int .i64) w.heap.size rfl (.tmp 25) (.tmp 31) 55 2 (.int .i64 0) 8 rfl Try.underlying55 info2 rfl (by decide) (by omega) u5 x5_1 (wrap64 (1 + t253)) [.int .i64 (wrap64 (1 + t253))] (fun _ => True) (fun _ => False) rfl rfl ?aP (fun _ hk => hk.elim) ?aF ?aO (Below.refl _ _) ?aS ?aL ?_; (case aP => exact rfl); (case aF => exact (fun _ _ => trivial)); (case aO => exact (rk_ HO_5)); (case aS => exact au12_9); (case aL => have := LMc9.out; omega); intro v258 w12 ho hb hg hat; rw [← Ny257.out] at ho; have n0_ := Aside0.mk (IsS116.grown au12_6 hg (IsS116.own_ne HI0.out HO_5.out (by decide))); have n1_ := Aside0.mk (below_weaken au12_7 HL.out hb); have n2_ := Aside0.mk (KeepBut.trans au12_0 (KeepBut.of_grown hg g) (Kd.R_base2 HO_5.out)); have n3_ := Aside0.mk (ho); clear HI0; clear HB; clear HK; clear HO_5; have HI0 := n0_; have HB := n1_; have HK := n2_; have HO259 := n3_; clear n0_ n1_ n2_ n3_; clear ho hb hg hat))
            go_roundg k1
            case measure => have := HK1.out; omega
            case rel => exact ⟨(wrap64 (x1_1 - 1)), (y257), (x6_1), (t254), (t255), (t256), er_, er_, H', ⟨by have := HK1.out; omega⟩, ⟨rk_ HO259⟩, ⟨au12_3⟩, ⟨au12_5⟩, ⟨au12_4⟩⟩
          · rw [if_neg c9] at H
            exact absurd H (by simp)
        · rw [if_neg c7] at H
          have c7b0 : (t249 == 0) = false := beq_eq_false_iff_ne.mpr c7
          have c7b1 : (t249 != 0) = true := bne_iff_ne.mpr c7
          by_cases c13 : t249 = 1
          · rw [if_pos c13] at H
            have c13b0 : (t249 == 1) = true := beq_iff_eq.mpr c13
            have c13b1 : (t249 != 1) = false := bne_eq_false_iff_eq.mpr c13
            clear c13
            replace H := Option.bind_eq_some_iff.mp H
            obtain ⟨⟨t260, t261, t262, t263⟩, A140, H⟩ := H
            replace H : (if x5_1.length < 17592186044416 then (spec_l01Src_l07Numbers.l0 k1 (wrap64 (x1_1 - 1)) (x5_1 ++ [wrap64 (x6_1 + t260)]) (wrap64 (x6_1 + t260)) s0_0 t261 t262 t263) else (none)) = some (r1, r2, r3, r4) := H
            have A14 := Aside0.mk A140
            clear A140
            by_cases c15 : x5_1.length < 17592186044416
            · rw [if_pos c15] at H
              have LMc15 := Aside0.mk c15
              clear c15
              obtain ⟨y264, hy264⟩ : ∃ y_ : List Int, y_ = (x5_1 ++ [wrap64 (x6_1 + t260)]) := ⟨_, rfl⟩
              replace H : (spec_l01Src_l07Numbers.l0 k1 (wrap64 (x1_1 - 1)) y264 (wrap64 (x6_1 + t260)) s0_0 t261 t262 t263) = some (r1, r2, r3, r4) := by first | (rw [hy264]; with_reducible exact H) | (have H2_ := (Option.bind_some _ _).symm.trans H; rw [hy264]; with_reducible exact H2_) | (have H2_ := (Option.bind_some _ _).symm.trans H; with_reducible exact H2_) | with_reducible exact H | (rw [hy264]; exact H) | exact H
              have Ny264 := Aside0.mk hy264
              clear hy264
              have H' := Aside0.mk H
              clear H
              go_wp2_with (first | ((with_reducible refine gate_callee (f := 101) rfl ?_); refine gl_ 13 Try.func101 #[.pointer (some ⟨g, 0, none⟩), .int .i64 8] ?_ rfl rfl rfl rfl; (with_reducible refine (spec_l01Src_n.calls g s0_0 x1001_1 x1002_1 x1003_1 8 t249 t250 t251 t252 w0 _ ?side1 ?side2 A6.out).mono ?_); (case side1 => exact au12_1); (case side2 => exact au12_2); rintro e w16 ⟨rfl, hi, hb, hk⟩; refine ⟨_, rfl, ?_⟩; have n0_ := Aside0.mk (Kd.R_mono (Kd.R_keep (IsS116.apart (show IsS116 w0 _ g s0_0 x1001_1 x1002_1 x1003_1 from by repeat (first | (with_reducible first | exact HI0.out | apply IsS116.alloc | apply IsS116.drewN | apply IsS116.drew | apply IsS116.set_1 | apply IsS116.set_2 | apply IsS116.set_3) | exact HI0.out)) (rk_ HO_5) (by decide)) hk (fun _ h => h.2)) (fun _ h => h.1)); have n1_ := Aside0.mk (KeepBut.trans au12_0 hk (.inl rfl)); have n2_ := Aside0.mk (hb); have n3_ := Aside0.mk (hi); clear HO_5; clear HK; clear HB; clear HI0; have HO_5 := n0_; have HK := n1_; have HB := n2_; have HI0 := n3_; clear n0_ n1_ n2_ n3_; (try clear hb); (try clear hb2); (try clear hk); (try clear hi)) | ((with_reducible refine gate_callee (f := 101) rfl ?_); refine gl_ 37 Try.func101 #[.pointer (some ⟨g, 0, none⟩), .int .i64 30] ?_ rfl rfl rfl rfl; (with_reducible refine (spec_l01Src_n.calls g s0_0 t250 t251 t252 30 t260 t261 t262 t263 w0 _ ?side1 ?side2 A14.out).mono ?_); (case side1 => exact au12_1); (case side2 => exact au12_2); rintro e w17 ⟨rfl, hi, hb, hk⟩; refine ⟨_, rfl, ?_⟩; have n0_ := Aside0.mk (Kd.R_mono (Kd.R_keep (IsS116.apart (show IsS116 w0 _ g s0_0 t250 t251 t252 from by repeat (first | (with_reducible first | exact HI0.out | apply IsS116.alloc | apply IsS116.drewN | apply IsS116.drew | apply IsS116.set_1 | apply IsS116.set_2 | apply IsS116.set_3) | exact HI0.out)) (rk_ HO_5) (by decide)) hk (fun _ h => h.2)) (fun _ h => h.1)); have n1_ := Aside0.mk (KeepBut.trans au12_0 hk (.inl rfl)); have n2_ := Aside0.mk (hb); have n3_ := Aside0.mk (hi); clear HO_5; clear HK; clear HB; clear HI0; have HO_5 := n0_; have HK := n1_; have HB := n2_; have HI0 := n3_; clear n0_ n1_ n2_ n3_; (try clear hb); (try clear hb2); (try clear hk); (try clear hi)) | ((with_reducible refine gate_builtin (b := .append) (xs := #[.tmp 39, .tmp 41]) rfl ?_); at_builtin; refine Kd.R_append (Kd.int .i64) w.heap.size rfl (.tmp 39) (.tmp 41) 55 2 (.int .i64 0) 8 rfl Try.underlying55 info2 rfl (by decide) (by omega) u5 x5_1 (wrap64 (x6_1 + t260)) [.int .i64 (wrap64 (x6_1 + t260))] (fun _ => True) (fun _ => False) rfl rfl ?aP (fun _ hk => hk.elim) ?aF ?aO (Below.refl _ _) ?aS ?aL ?_; (case aP => exact rfl); (case aF => exact (fun _ _ => trivial)); (case aO => exact (rk_ HO_5)); (case aS => exact au12_9); (case aL => have := LMc15.out; omega); intro v265 w18 ho hb hg hat; rw [← Ny264.out] at ho; have n0_ := Aside0.mk (IsS116.grown au12_6 hg (IsS116.own_ne HI0.out HO_5.out (by decide))); have n1_ := Aside0.mk (below_weaken au12_7 HL.out hb); have n2_ := Aside0.mk (KeepBut.trans au12_0 (KeepBut.of_grown hg g) (Kd.R_base2 HO_5.out)); have n3_ := Aside0.mk (ho); clear HI0; clear HB; clear HK; clear HO_5; have HI0 := n0_; have HB := n1_; have HK := n2_; have HO266 := n3_; clear n0_ n1_ n2_ n3_; clear ho hb hg hat))
              go_roundg k1
              case measure => have := HK1.out; omega
              case rel => exact ⟨(wrap64 (x1_1 - 1)), (y264), (wrap64 (x6_1 + t260)), (t261), (t262), (t263), er_, er_, H', ⟨by have := HK1.out; omega⟩, ⟨rk_ HO266⟩, ⟨au12_3⟩, ⟨au12_5⟩, ⟨au12_4⟩⟩
            · rw [if_neg c15] at H
              exact absurd H (by simp)
          · rw [if_neg c13] at H
            have c13b0 : (t249 == 1) = false := beq_eq_false_iff_ne.mpr c13
            have c13b1 : (t249 != 1) = true := bne_iff_ne.mpr c13
            by_cases c19 : t249 = 2
            · rw [if_pos c19] at H
              have c19b0 : (t249 == 2) = true := beq_iff_eq.mpr c19
              have c19b1 : (t249 != 2) = false := bne_eq_false_iff_eq.mpr c19
              clear c19
              replace H := Option.bind_eq_some_iff.mp H
              obtain ⟨⟨t267, t268, t269, t270⟩, A200, H⟩ := H
              replace H : ((spec_l01Max.f 1 (wrap64 ((wrap64 (x6_1 - 30)) - t267))).bind fun t271 => (if x5_1.length < 17592186044416 then (spec_l01Src_l07Numbers.l0 k1 (wrap64 (x1_1 - 1)) (x5_1 ++ [t271]) x6_1 s0_0 t268 t269 t270) else (none))) = some (r1, r2, r3, r4) := H
              have A20 := Aside0.mk A200
              clear A200
              replace H := Option.bind_eq_some_iff.mp H
              obtain ⟨t271, A210, H⟩ := H
              replace H : (if x5_1.length < 17592186044416 then (spec_l01Src_l07Numbers.l0 k1 (wrap64 (x1_1 - 1)) (x5_1 ++ [t271]) x6_1 s0_0 t268 t269 t270) else (none)) = some (r1, r2, r3, r4) := H
              have A21 := Aside0.mk A210
              clear A210
              by_cases c22 : x5_1.length < 17592186044416
              · rw [if_pos c22] at H
                have LMc22 := Aside0.mk c22
                clear c22
                obtain ⟨y272, hy272⟩ : ∃ y_ : List Int, y_ = (x5_1 ++ [t271]) := ⟨_, rfl⟩
                replace H : (spec_l01Src_l07Numbers.l0 k1 (wrap64 (x1_1 - 1)) y272 x6_1 s0_0 t268 t269 t270) = some (r1, r2, r3, r4) := by first | (rw [hy272]; with_reducible exact H) | (have H2_ := (Option.bind_some _ _).symm.trans H; rw [hy272]; with_reducible exact H2_) | (have H2_ := (Option.bind_some _ _).symm.trans H; with_reducible exact H2_) | with_reducible exact H | (rw [hy272]; exact H) | exact H
                have Ny272 := Aside0.mk hy272
                clear hy272
                have H' := Aside0.mk H
                clear H
                go_wp2_with (first | ((with_reducible refine gate_callee (f := 101) rfl ?_); refine gl_ 13 Try.func101 #[.pointer (some ⟨g, 0, none⟩), .int .i64 8] ?_ rfl rfl rfl rfl; (with_reducible refine (spec_l01Src_n.calls g s0_0 x1001_1 x1002_1 x1003_1 8 t249 t250 t251 t252 w0 _ ?side1 ?side2 A6.out).mono ?_); (case side1 => exact au12_1); (case side2 => exact au12_2); rintro e w23 ⟨rfl, hi, hb, hk⟩; refine ⟨_, rfl, ?_⟩; have n0_ := Aside0.mk (Kd.R_mono (Kd.R_keep (IsS116.apart (show IsS116 w0 _ g s0_0 x1001_1 x1002_1 x1003_1 from by repeat (first | (with_reducible first | exact HI0.out | apply IsS116.alloc | apply IsS116.drewN | apply IsS116.drew | apply IsS116.set_1 | apply IsS116.set_2 | apply IsS116.set_3) | exact HI0.out)) (rk_ HO_5) (by decide)) hk (fun _ h => h.2)) (fun _ h => h.1)); have n1_ := Aside0.mk (KeepBut.trans au12_0 hk (.inl rfl)); have n2_ := Aside0.mk (hb); have n3_ := Aside0.mk (hi); clear HO_5; clear HK; clear HB; clear HI0; have HO_5 := n0_; have HK := n1_; have HB := n2_; have HI0 := n3_; clear n0_ n1_ n2_ n3_; (try clear hb); (try clear hb2); (try clear hk); (try clear hi)) | ((with_reducible refine gate_callee (f := 101) rfl ?_); refine gl_ 49 Try.func101 #[.pointer (some ⟨g, 0, none⟩), .int .i64 4] ?_ rfl rfl rfl rfl; (with_reducible refine (spec_l01Src_n.calls g s0_0 t250 t251 t252 4 t267 t268 t269 t270 w0 _ ?side1 ?side2 A20.out).mono ?_); (case side1 => exact au12_1); (case side2 => exact au12_2); rintro e w24 ⟨rfl, hi, hb, hk⟩; refine ⟨_, rfl, ?_⟩; have n0_ := Aside0.mk (Kd.R_mono (Kd.R_keep (IsS116.apart (show IsS116 w0 _ g s0_0 t250 t251 t252 from by repeat (first | (with_reducible first | exact HI0.out | apply IsS116.alloc | apply IsS116.drewN | apply IsS116.drew | apply IsS116.set_1 | apply IsS116.set_2 | apply IsS116.set_3) | exact HI0.out)) (rk_ HO_5) (by decide)) hk (fun _ h => h.2)) (fun _ h => h.1)); have n1_ := Aside0.mk (KeepBut.trans au12_0 hk (.inl rfl)); have n2_ := Aside0.mk (hb); have n3_ := Aside0.mk (hi); clear HO_5; clear HK; clear HB; clear HI0; have HO_5 := n0_; have HK := n1_; have HB := n2_; have HI0 := n3_; clear n0_ n1_ n2_ n3_; (try clear hb); (try clear hb2); (try clear hk); (try clear hi)) | ((with_reducible refine gate_callee (f := 90) rfl ?_); refine gl_ 51 Try.func90 #[.int .i64 1, .int .i64 (wrap64 ((wrap64 (x6_1 - 30)) - t267))] ?_ rfl rfl rfl rfl; (with_reducible refine (spec_l01Max.calls 1 (wrap64 ((wrap64 (x6_1 - 30)) - t267)) t271 _ A21.out).mono ?_); rintro e w' ⟨rfl, ⟨nd, rfl⟩⟩; refine ⟨_, rfl, ?_⟩) | ((with_reducible refine gate_builtin (b := .append) (xs := #[.tmp 45, .tmp 52]) rfl ?_); at_builtin; refine Kd.R_append (Kd.int .i64) w.heap.size rfl (.tmp 45) (.tmp 52) 55 2 (.int .i64 0) 8 rfl Try.underlying55 info2 rfl (by decide) (by omega) u5 x5_1 t271 [.int .i64 t271] (fun _ => True) (fun _ => False) rfl rfl ?aP (fun _ hk => hk.elim) ?aF ?aO (Below.refl _ _) ?aS ?aL ?_; (case aP => exact rfl); (case aF => exact (fun _ _ => trivial)); (case aO => exact (rk_ HO_5)); (case aS => exact au12_9); (case aL => have := LMc22.out; omega); intro v273 w25 ho hb hg hat; rw [← Ny272.out] at ho; have n0_ := Aside0.mk (IsS116.grown au12_6 hg (IsS116.own_ne HI0.out HO_5.out (by decide))); have n1_ := Aside0.mk (below_weaken au12_7 HL.out hb); have n2_ := Aside0.mk (KeepBut.trans au12_0 (KeepBut.of_grown hg g) (Kd.R_base2 HO_5.out)); have n3_ := Aside0.mk (ho); clear HI0; clear HB; clear HK; clear HO_5; have HI0 := n0_; have HB := n1_; have HK := n2_; have HO274 := n3_; clear n0_ n1_ n2_ n3_; clear ho hb hg hat))
                go_roundg k1
                case measure => have := HK1.out; omega
                case rel => exact ⟨(wrap64 (x1_1 - 1)), (y272), (x6_1), (t268), (t269), (t270), er_, er_, H', ⟨by have := HK1.out; omega⟩, ⟨rk_ HO274⟩, ⟨au12_3⟩, ⟨au12_5⟩, ⟨au12_4⟩⟩
              · rw [if_neg c22] at H
                exact absurd H (by simp)
            · rw [if_neg c19] at H
              have c19b0 : (t249 == 2) = false := beq_eq_false_iff_ne.mpr c19
              have c19b1 : (t249 != 2) = true := bne_iff_ne.mpr c19
              by_cases c26 : x5_1.length < 17592186044416
              · rw [if_pos c26] at H
                have LMc26 := Aside0.mk c26
                clear c26
                obtain ⟨y275, hy275⟩ : ∃ y_ : List Int, y_ = (x5_1 ++ [x6_1]) := ⟨_, rfl⟩
                replace H : ((spec_l01Src_n.f s0_0 t250 t251 t252 2).bind fun bt278 => (spec_l01Src_l07Numbers.l0 k1 (wrap64 (x1_1 - 1)) y275 (wrap64 ((wrap64 (x6_1 + 1)) + bt278.1)) s0_0 bt278.2.1 bt278.2.2.1 bt278.2.2.2)) = some (r1, r2, r3, r4) := by first | (rw [hy275]; with_reducible exact H) | (have H2_ := (Option.bind_some _ _).symm.trans H; rw [hy275]; with_reducible exact H2_) | (have H2_ := (Option.bind_some _ _).symm.trans H; with_reducible exact H2_) | with_reducible exact H | (rw [hy275]; exact H) | exact H
                have Ny275 := Aside0.mk hy275
                clear hy275
                replace H := Option.bind_eq_some_iff.mp H
                obtain ⟨⟨t278, t279, t280, t281⟩, A270, H⟩ := H
                replace H : (spec_l01Src_l07Numbers.l0 k1 (wrap64 (x1_1 - 1)) y275 (wrap64 ((wrap64 (x6_1 + 1)) + t278)) s0_0 t279 t280 t281) = some (r1, r2, r3, r4) := H
                have A27 := Aside0.mk A270
                clear A270
                have H' := Aside0.mk H
                clear H
                go_wp2_with (first | ((with_reducible refine gate_callee (f := 101) rfl ?_); refine gl_ 13 Try.func101 #[.pointer (some ⟨g, 0, none⟩), .int .i64 8] ?_ rfl rfl rfl rfl; (with_reducible refine (spec_l01Src_n.calls g s0_0 x1001_1 x1002_1 x1003_1 8 t249 t250 t251 t252 w0 _ ?side1 ?side2 A6.out).mono ?_); (case side1 => exact au12_1); (case side2 => exact au12_2); rintro e w28 ⟨rfl, hi, hb, hk⟩; refine ⟨_, rfl, ?_⟩; have n0_ := Aside0.mk (Kd.R_mono (Kd.R_keep (IsS116.apart (show IsS116 w0 _ g s0_0 x1001_1 x1002_1 x1003_1 from by repeat (first | (with_reducible first | exact HI0.out | apply IsS116.alloc | apply IsS116.drewN | apply IsS116.drew | apply IsS116.set_1 | apply IsS116.set_2 | apply IsS116.set_3) | exact HI0.out)) (rk_ HO_5) (by decide)) hk (fun _ h => h.2)) (fun _ h => h.1)); have n1_ := Aside0.mk (KeepBut.trans au12_0 hk (.inl rfl)); have n2_ := Aside0.mk (hb); have n3_ := Aside0.mk (hi); clear HO_5; clear HK; clear HB; clear HI0; have HO_5 := n0_; have HK := n1_; have HB := n2_; have HI0 := n3_; clear n0_ n1_ n2_ n3_; (try clear hb); (try clear hb2); (try clear hk); (try clear hi)) | ((with_reducible refine gate_builtin (b := .append) (xs := #[.tmp 14, .tmp 16]) rfl ?_); at_builtin; refine Kd.R_append (Kd.int .i64) w.heap.size rfl (.tmp 14) (.tmp 16) 55 2 (.int .i64 0) 8 rfl Try.underlying55 info2 rfl (by decide) (by omega) u5 x5_1 x6_1 [.int .i64 x6_1] (fun _ => True) (fun _ => False) rfl rfl ?aP (fun _ hk => hk.elim) ?aF ?aO (Below.refl _ _) ?aS ?aL ?_; (case aP => exact rfl); (case aF => exact (fun _ _ => trivial)); (case aO => exact (rk_ HO_5)); (case aS => exact au12_9); (case aL => have := LMc26.out; omega); intro v276 w29 ho hb hg hat; rw [← Ny275.out] at ho; have n0_ := Aside0.mk (IsS116.grown au12_6 hg (IsS116.own_ne HI0.out HO_5.out (by decide))); have n1_ := Aside0.mk (below_weaken au12_7 HL.out hb); have n2_ := Aside0.mk (KeepBut.trans au12_0 (KeepBut.of_grown hg g) (Kd.R_base2 HO_5.out)); have n3_ := Aside0.mk (ho); clear HI0; clear HB; clear HK; clear HO_5; have HI0 := n0_; have HB := n1_; have HK := n2_; have HO277 := n3_; clear n0_ n1_ n2_ n3_; clear ho hb hg hat) | ((with_reducible refine gate_callee (f := 101) rfl ?_); refine gl_ 21 Try.func101 #[.pointer (some ⟨g, 0, none⟩), .int .i64 2] ?_ rfl rfl rfl rfl; (with_reducible refine (spec_l01Src_n.calls g s0_0 t250 t251 t252 2 t278 t279 t280 t281 w0 _ ?side1 ?side2 A27.out).mono ?_); (case side1 => exact au12_1); (case side2 => exact au12_2); rintro e w30 ⟨rfl, hi, hb, hk⟩; refine ⟨_, rfl, ?_⟩; have n0_ := Aside0.mk (Kd.R_mono (Kd.R_keep (IsS116.apart (show IsS116 w0 _ g s0_0 t250 t251 t252 from by repeat (first | (with_reducible first | exact HI0.out | apply IsS116.alloc | apply IsS116.drewN | apply IsS116.drew | apply IsS116.set_1 | apply IsS116.set_2 | apply IsS116.set_3) | exact HI0.out)) (rk_ HO277) (by decide)) hk (fun _ h => h.2)) (fun _ h => h.1)); have n1_ := Aside0.mk (KeepBut.trans au12_0 hk (.inl rfl)); have n2_ := Aside0.mk (hb); have n3_ := Aside0.mk (hi); clear HO277; clear HK; clear HB; clear HI0; have HO277 := n0_; have HK := n1_; have HB := n2_; have HI0 := n3_; clear n0_ n1_ n2_ n3_; (try clear hb); (try clear hb2); (try clear hk); (try clear hi)))
                go_roundg k1
                case measure => have := HK1.out; omega
                case rel => exact ⟨(wrap64 (x1_1 - 1)), (y275), (wrap64 ((wrap64 (x6_1 + 1)) + t278)), (t279), (t280), (t281), er_, er_, H', ⟨by have := HK1.out; omega⟩, ⟨rk_ HO277⟩, ⟨au12_3⟩, ⟨au12_5⟩, ⟨au12_4⟩⟩
              · rw [if_neg c26] at H
                exact absurd H (by simp)
      · rw [if_neg c5] at H
        have c5b0 : decide (0 < x1_1) = false := decide_eq_false c5
        clear c5
        simp only [Option.some.injEq, Prod.mk.injEq] at H
        obtain ⟨rfl, rfl, rfl, rfl⟩ := H
        go_wp2
        go_ret
        exact ⟨_, au12_8, rk_ HO_5, au12_3, au12_4, au12_5⟩

end Go.Proofs.Ytjffakoifpldeaa.PFnTakeOnce
