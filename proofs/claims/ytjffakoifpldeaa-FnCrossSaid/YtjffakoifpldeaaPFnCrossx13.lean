-- printed by a program of this session (wip/xp/xprint.py) out of the translation; Lean checks it
import Derived.Test.YtjffakoifpldeaaPFnCrossx0
import Derived.Test.YtjffakoifpldeaaPFnCrossx8
import Derived.Test.YtjffakoifpldeaaPFnCrossx11
import Derived.Test.YtjffakoifpldeaaPFnCrossx12
namespace Go.Proofs.Ytjffakoifpldeaa.PFnCross
open Go.RowKit Go.Proofs.YtjffakoifpldeaaW.PrintWords Go.Proofs.YtjffakoifpldeaaW.PrintLast Go.Proofs.YtjffakoifpldeaaW.PrintMore
attribute [local go_sem] max2_int min2_int max_two min_two max_three min_three max_four min_four   -- for this text's walks alone
set_option linter.unusedVariables false
set_option linter.unusedSimpArgs false

theorem au13_0 {p : Prop} (h : p := by repeat (first | (with_reducible first | exact HK.out | apply KeepBut.set_ | apply keep_drewN | apply keep_drew | apply keep_alloc) | exact HK.out)) : p := h
theorem au13_1 {p : Prop} (h : p := by repeat (first | (with_reducible first | exact HI0.out | apply IsS116.alloc | apply IsS116.drewN | apply IsS116.drew | apply IsS116.set_1 | apply IsS116.set_2 | apply IsS116.set_3) | exact HI0.out)) : p := h
theorem au13_2 {p : Prop} (h : p := by repeat (first | (with_reducible first | exact HI0.out | apply IsS116.alloc | apply IsS116.drewN | apply IsS116.drew | apply IsS116.set_1 | apply IsS116.set_2 | apply IsS116.set_3) | exact HI0.out)) : p := h
theorem au13_3 {p : Prop} (h : p := by repeat (first | (with_reducible first | exact HI0.out | apply IsS116.alloc | apply IsS116.drewN | apply IsS116.drew | apply IsS116.set_1 | apply IsS116.set_2 | apply IsS116.set_3) | exact HI0.out)) : p := h
theorem au13_4 {p : Prop} (h : p := by repeat (first | (with_reducible first | exact HB.out | apply below_alloc | apply pw_below_drewN | apply below_drew1 | refine below_set ?_ (IsS116.ge HI0.out)) | exact HB.out)) : p := h
theorem au13_5 {p : Prop} (h : p := by repeat (first | (with_reducible first | exact HB.out | apply below_alloc | apply pw_below_drewN | apply below_drew1 | refine below_set ?_ (IsS116.ge HI0.out)) | exact HB.out)) : p := h
theorem au13_6 {p : Prop} (h : p := by repeat (first | (with_reducible first | exact HB.out | apply below_alloc | apply pw_below_drewN | apply below_drew1 | refine below_set ?_ (IsS116.ge HI0.out)) | exact HB.out)) : p := h
theorem au13_7 {p : Prop} (h : p := by repeat (first | (with_reducible first | exact HB.out | apply below_alloc | apply pw_below_drewN | apply below_drew1 | refine below_set ?_ (IsS116.ge HI343.out) | refine below_set ?_ GE338.out) | exact HB.out)) : p := h
theorem au13_8 {p : Prop} (h : p := by repeat (first | (with_reducible first | exact HK.out | apply KeepBut.set_ | apply keep_drewN | apply keep_drew | apply keep_alloc | refine keep_far ?_ GW255.out _) | exact HK.out)) : p := h
theorem au13_9 {p : Prop} (h : p := by repeat (first | (with_reducible first | exact HK.out | apply KeepBut.set_ | apply keep_drewN | apply keep_drew | apply keep_alloc) | exact HK.out)) : p := h
theorem au13_10 {p : Prop} (h : p := by first | rfl | (simp [errW_none, errW_some] <;> rfl) | (simp [*, errW_none, errW_some] <;> rfl)) : p := h
theorem au13_11 {p : Prop} (h : p := by (with_reducible repeat (first | refine blk_drewN ?_ _ | refine blk_drew ?_ | refine blk_alloc ?_ _)); refine blk_put (cs := #[.string t350, .string t351, .string (⟨#[]⟩ : ByteArray)]) ?_ 2 _ rfl; (with_reducible repeat (first | refine blk_drewN ?_ _ | refine blk_drew ?_ | refine blk_alloc ?_ _)); refine blk_put (cs := #[.string t350, .string (⟨#[]⟩ : ByteArray), .string (⟨#[]⟩ : ByteArray)]) ?_ 1 _ rfl; (with_reducible repeat (first | refine blk_drewN ?_ _ | refine blk_drew ?_ | refine blk_alloc ?_ _)); refine blk_put (cs := #[.string (⟨#[]⟩ : ByteArray), .string (⟨#[]⟩ : ByteArray), .string (⟨#[]⟩ : ByteArray)]) ?_ 0 _ rfl; (with_reducible repeat (first | refine blk_drewN ?_ _ | refine blk_drew ?_ | refine blk_alloc ?_ _)); exact BK356.out) : p := h
theorem au13_12 {p : Prop} (h : p := by (with_reducible repeat (first | refine blk_drewN ?_ _ | refine blk_drew ?_ | refine blk_alloc ?_ _)); refine blk_put (cs := #[.string t350, .string t351, .string (⟨#[]⟩ : ByteArray)]) ?_ 2 _ rfl; (with_reducible repeat (first | refine blk_drewN ?_ _ | refine blk_drew ?_ | refine blk_alloc ?_ _)); refine blk_put (cs := #[.string t350, .string (⟨#[]⟩ : ByteArray), .string (⟨#[]⟩ : ByteArray)]) ?_ 1 _ rfl; (with_reducible repeat (first | refine blk_drewN ?_ _ | refine blk_drew ?_ | refine blk_alloc ?_ _)); refine blk_put (cs := #[.string (⟨#[]⟩ : ByteArray), .string (⟨#[]⟩ : ByteArray), .string (⟨#[]⟩ : ByteArray)]) ?_ 0 _ rfl; (with_reducible repeat (first | refine blk_drewN ?_ _ | refine blk_drew ?_ | refine blk_alloc ?_ _)); exact BK338.out) : p := h
theorem au13_13 {p : Prop} (h : p := by repeat (first | (with_reducible first | exact HI343.out | apply IsS116.alloc | apply IsS116.drewN | apply IsS116.drew | apply IsS116.set_1 | apply IsS116.set_2 | apply IsS116.set_3 | refine IsS116.far ?_ NB343_338.out _) | exact HI343.out)) : p := h
theorem au13_14 {p : Prop} (h : p := by repeat (first | (with_reducible first | exact HB.out | apply below_alloc | apply pw_below_drewN | apply below_drew1 | refine below_set ?_ (IsS116.ge HI343.out) | refine below_set ?_ GE338.out) | exact HB.out)) : p := h
theorem au13_15 {p : Prop} (h : p := by repeat (first | (with_reducible first | exact HI343.out | apply IsS116.alloc | apply IsS116.drewN | apply IsS116.drew | apply IsS116.set_1 | apply IsS116.set_2 | apply IsS116.set_3 | refine IsS116.far ?_ NB343_338.out _ | refine IsS116.far ?_ NB343_356.out _) | exact HI343.out)) : p := h
theorem au13_16 {p : Prop} (h : p := by (with_reducible repeat (first | refine blk_drewN ?_ _ | refine blk_drew ?_ | refine blk_alloc ?_ _)); refine blk_far ?_ NB338_356.out _; (with_reducible repeat (first | refine blk_drewN ?_ _ | refine blk_drew ?_ | refine blk_alloc ?_ _)); refine blk_far ?_ NB338_356.out _; (with_reducible repeat (first | refine blk_drewN ?_ _ | refine blk_drew ?_ | refine blk_alloc ?_ _)); refine blk_far ?_ NB338_356.out _; (with_reducible repeat (first | refine blk_drewN ?_ _ | refine blk_drew ?_ | refine blk_alloc ?_ _)); exact BK338.out) : p := h
theorem au13_17 {p : Prop} (h : p := by repeat (first | (with_reducible first | exact HB.out | apply below_alloc | apply pw_below_drewN | apply below_drew1 | refine below_set ?_ (IsS116.ge HI343.out) | refine below_set ?_ GE338.out | refine below_set ?_ GE356.out) | exact HB.out)) : p := h
theorem au13_18 {p : Prop} (h : p := by repeat (first | (with_reducible first | exact HB.out | apply below_alloc | apply pw_below_drewN | apply below_drew1 | refine below_set ?_ (IsS116.ge HI343.out) | refine below_set ?_ GE338.out | refine below_set ?_ GE356.out) | exact HB.out)) : p := h
theorem au13_19 {p : Prop} (h : p := by repeat (first | (with_reducible first | exact HI0.out | apply IsS116.alloc | apply IsS116.drewN | apply IsS116.drew | apply IsS116.set_1 | apply IsS116.set_2 | apply IsS116.set_3 | refine IsS116.far ?_ NB0_255.out _) | exact HI0.out)) : p := h
theorem au13_20 {p : Prop} (h : p := by repeat (first | (with_reducible first | exact HI0.out | apply IsS116.alloc | apply IsS116.drewN | apply IsS116.drew | apply IsS116.set_1 | apply IsS116.set_2 | apply IsS116.set_3 | refine IsS116.far ?_ NB0_255.out _) | exact HI0.out)) : p := h
theorem au13_21 {p : Prop} (h : p := by repeat (first | (with_reducible first | exact HB.out | apply below_alloc | apply pw_below_drewN | apply below_drew1 | refine below_set ?_ (IsS116.ge HI0.out) | refine below_set ?_ GE255.out) | exact HB.out)) : p := h
theorem au13_22 {p : Prop} (h : p := by repeat (first | (with_reducible first | exact HB.out | apply below_alloc | apply pw_below_drewN | apply below_drew1 | refine below_set ?_ (IsS116.ge HI0.out) | refine below_set ?_ GE255.out) | exact HB.out)) : p := h
theorem au13_23 {p : Prop} (h : p := by (with_reducible repeat (first | apply Kd.R_alloc | apply Kd.R_drewN | apply Kd.R_drew)); exact (Kd.R_mono (Kd.R_far (p := ⟨gb356, 2, none⟩) (Kd.R_far (p := ⟨gb356, 1, none⟩) (Kd.R_far (p := ⟨gb356, 0, none⟩) (Kd.R_mono HO346.out (fun k_ hk => (⟨hk, hk.2⟩ : _ ∧ k_ ≠ gb356))) (fun _ hk => hk.2) (.string t350)) (fun _ hk => hk.2) (.string t351)) (fun _ hk => hk.2) (.string t352)) (fun _ h_ => h_.1))) : p := h
theorem au13_24 {p : Prop} (h : p := by repeat (first | (with_reducible first | exact HB.out | apply below_alloc | apply pw_below_drewN | apply below_drew1 | refine below_set ?_ (IsS116.ge HI343.out) | refine below_set ?_ GE338.out | refine below_set ?_ GE356.out) | exact HB.out)) : p := h
theorem au13_25 {p : Prop} (h : p := by repeat (first | (with_reducible first | exact HI343.out | apply IsS116.alloc | apply IsS116.drewN | apply IsS116.drew | apply IsS116.set_1 | apply IsS116.set_2 | apply IsS116.set_3 | refine IsS116.far ?_ NB343_338.out _) | exact HI343.out)) : p := h
theorem au13_26 {p : Prop} (h : p := by repeat (first | exact (Kd.R_reads' HO_3.out).2.2 | (with_reducible refine Kd.C_alloc ?_ _) | (with_reducible refine Kd.C_drewN ?_ _) | (with_reducible refine Kd.C_drew ?_))) : p := h
theorem au13_27 {p : Prop} (h : p := by repeat (first | (with_reducible first | exact HB.out | apply below_alloc | apply pw_below_drewN | apply below_drew1 | refine below_set ?_ GE338.out) | exact HB.out)) : p := h
theorem au13_28 {p : Prop} (h : p := by exact (keep_size (w := w) (g := g) (row := none) au13_0)) : p := h

/-! ### spec_l01Src_pick: function 75 -/
def spec_l01Src_pick.f (s0_0 : List Int) (s0_1 : Int) (s0_2 : Int) (s0_3 : Int) (l1 : List ByteArray) : Option (ByteArray × Int × Int × Int) := (spec_l01Src_n.f s0_0 s0_1 s0_2 s0_3 (l1.length : Int)).bind fun bt250 => (if 0 ≤ bt250.1 then (if bt250.1 < (l1.length : Int) then (some (rdOf ByteArray.empty l1 bt250.1, bt250.2.1, bt250.2.2.1, bt250.2.2.2)) else (none)) else (none))
set_option maxHeartbeats 8000000 in
set_option maxRecDepth 100000 in
theorem spec_l01Src_pick.calls (g : Nat) (s0_0 : List Int) (s0_1 : Int) (s0_2 : Int) (s0_3 : Int) (A1 : Option Addr) (c1 : Nat) (l1 : List ByteArray) (r1 : ByteArray) (r2 : Int) (r3 : Int) (r4 : Int) (w0 w : World) (hI : IsS116 w0 w g s0_0 s0_1 s0_2 s0_3) (hB : Below w0.heap.size w0 w) (hr1 : Kd.C Kd.string w A1 l1.length l1) (hc1 : l1.length ≤ c1) (hf1 : ∀ ad, A1 = some ad → 0 < l1.length → ad.block ≠ g) (h : spec_l01Src_pick.f s0_0 s0_1 s0_2 s0_3 l1 = some (r1, r2, r3, r4)) :
    Calls Try.prog 75 #[.pointer (some ⟨g, 0, none⟩), .slice A1 l1.length c1] w fun e w' => e = .returned (.string r1) ∧ IsS116 w0 w' g s0_0 r2 r3 r4 ∧ Below w0.heap.size w0 w' ∧ KeepBut w w' g none := by
  have HR1 := Aside0.mk hr1
  have HC1 := Aside0.mk hc1
  clear hr1 hc1
  have HI0 := Aside0.mk hI
  have HK := Aside0.mk (KeepBut.refl w g none)
  have HL := Aside0.mk hB.size
  clear hI
  have HW0 := Aside0.mk hB.size
  have HB := Aside0.mk hB
  clear hB
  have H : ((spec_l01Src_n.f s0_0 s0_1 s0_2 s0_3 (l1.length : Int)).bind fun bt250 => (if 0 ≤ bt250.1 then (if bt250.1 < (l1.length : Int) then (some (rdOf ByteArray.empty l1 bt250.1, bt250.2.1, bt250.2.2.1, bt250.2.2.2)) else (none)) else (none))) = some (r1, r2, r3, r4) := h
  clear h
  replace H := Option.bind_eq_some_iff.mp H
  obtain ⟨⟨t250, t251, t252, t253⟩, A30, H⟩ := H
  replace H : (if 0 ≤ t250 then (if t250 < (l1.length : Int) then (some (rdOf ByteArray.empty l1 t250, t251, t252, t253)) else (none)) else (none)) = some (r1, r2, r3, r4) := H
  have A3 := Aside0.mk A30
  clear A30
  by_cases c4 : 0 ≤ t250
  · rw [if_pos c4] at H
    have c4b0 : decide (0 ≤ t250) = true := decide_eq_true c4
    clear c4
    by_cases c5 : t250 < (l1.length : Int)
    · rw [if_pos c5] at H
      have c5b0 : decide (t250 < (l1.length : Int)) = true := decide_eq_true c5
      clear c5
      simp only [Option.some.injEq, Prod.mk.injEq] at H
      obtain ⟨rfl, rfl, rfl, rfl⟩ := H
      go_enter Try.func75, Try.ntmps75
      go_wp2_with (first | ((with_reducible refine gate_callee (f := 101) rfl ?_); refine gl_ 9 Try.func101 #[.pointer (some ⟨g, 0, none⟩), .int .i64 (l1.length : Int)] ?_ rfl rfl rfl rfl; (with_reducible refine (spec_l01Src_n.calls g s0_0 s0_1 s0_2 s0_3 (l1.length : Int) t250 t251 t252 t253 w0 _ ?side1 ?side2 A3.out).mono ?_); (case side1 => exact au13_3); (case side2 => exact au13_6); rintro e w6 ⟨rfl, hi, hb, hk⟩; refine ⟨_, rfl, ?_⟩; have n0_ := Aside0.mk (KeepBut.trans au13_0 hk (.inl rfl)); have n1_ := Aside0.mk (hb); have n2_ := Aside0.mk (hi); clear HK; clear HB; clear HI0; have HK := n0_; have HB := n1_; have HI0 := n2_; clear n0_ n1_ n2_; (try clear hb); (try clear hb2); (try clear hk); (try clear hi); have p254 : 0 ≤ (t250 : Int) := of_decide_eq_true as_; have q254 : t250 < (l1.length : Int) := of_decide_eq_true as_; obtain ⟨ad254, e254, hx254_0⟩ := Kd.at_string HR1.out t250 p254 q254; cases e254; replace hx254_0 := keep_cell HK.out hx254_0 (by first | (rw [add_block]; exact hf1 _ rfl (by omega)) | exact hf1 _ rfl (by omega) | exact hf1 ad254 rfl (by omega)); replace p254 := eq_true p254; replace q254 := eq_true q254))
      go_ret
      exact ⟨au13_10, au13_2, au13_5, au13_9⟩
    · rw [if_neg c5] at H
      exact absurd H (by simp)
  · rw [if_neg c4] at H
    exact absurd H (by simp)

/-! ### spec_l01Src_l08Cross: function 73 -/
def spec_l01Src_l08Cross.f (s0_0 : List Int) (s0_1 : Int) (s0_2 : Int) (s0_3 : Int) : Option (ByteArray × ByteArray × ByteArray × Int × Int × Int) := (spec_l01Src_pick.f s0_0 s0_1 s0_2 s0_3 (([(⟨#[65, 67, 77, 69]⟩ : ByteArray), (⟨#[66, 79, 76, 84]⟩ : ByteArray), (⟨#[67, 45, 49]⟩ : ByteArray)] : List ByteArray))).bind fun bt259 => ((spec_l01Src_pick.f s0_0 bt259.2.1 bt259.2.2.1 bt259.2.2.2 (([(⟨#[66, 79, 76, 84]⟩ : ByteArray), (⟨#[78, 85, 84]⟩ : ByteArray), (⟨#[71, 69, 65, 82]⟩ : ByteArray), (⟨#[67, 65, 77]⟩ : ByteArray), (⟨#[88, 49]⟩ : ByteArray)] : List ByteArray))).bind fun bt266 => ((spec_l01Src_pick.f s0_0 bt266.2.1 bt266.2.2.1 bt266.2.2.2 (([(⟨#[66, 79, 76, 84]⟩ : ByteArray), (⟨#[78, 85, 84]⟩ : ByteArray), (⟨#[71, 69, 65, 82]⟩ : ByteArray), (⟨#[66, 45, 49, 48]⟩ : ByteArray), (⟨#[66, 45, 50, 48]⟩ : ByteArray)] : List ByteArray))).bind fun bt273 => (some (bt259.1, bt266.1, bt273.1, bt273.2.1, bt273.2.2.1, bt273.2.2.2))))
set_option maxHeartbeats 8000000 in
set_option maxRecDepth 100000 in
theorem spec_l01Src_l08Cross.calls (g : Nat) (s0_0 : List Int) (s0_1 : Int) (s0_2 : Int) (s0_3 : Int) (r1 : ByteArray) (r2 : ByteArray) (r3 : ByteArray) (r4 : Int) (r5 : Int) (r6 : Int) (w0 w : World) (hI : IsS116 w0 w g s0_0 s0_1 s0_2 s0_3) (hB : Below w0.heap.size w0 w) (h : spec_l01Src_l08Cross.f s0_0 s0_1 s0_2 s0_3 = some (r1, r2, r3, r4, r5, r6)) :
    Calls Try.prog 73 #[.pointer (some ⟨g, 0, none⟩)] w fun e w' => e = .returned (.agg #[.string r1, .string r2, .string r3]) ∧ IsS116 w0 w' g s0_0 r4 r5 r6 ∧ Below w0.heap.size w0 w' ∧ KeepBut w w' g none := by
  have hu37 := Try.underlying37
  have HI0 := Aside0.mk hI
  have HK := Aside0.mk (KeepBut.refl w g none)
  have HL := Aside0.mk hB.size
  clear hI
  have HW0 := Aside0.mk hB.size
  have HB := Aside0.mk hB
  clear hB
  have H : ((spec_l01Src_pick.f s0_0 s0_1 s0_2 s0_3 (([(⟨#[65, 67, 77, 69]⟩ : ByteArray), (⟨#[66, 79, 76, 84]⟩ : ByteArray), (⟨#[67, 45, 49]⟩ : ByteArray)] : List ByteArray))).bind fun bt259 => ((spec_l01Src_pick.f s0_0 bt259.2.1 bt259.2.2.1 bt259.2.2.2 (([(⟨#[66, 79, 76, 84]⟩ : ByteArray), (⟨#[78, 85, 84]⟩ : ByteArray), (⟨#[71, 69, 65, 82]⟩ : ByteArray), (⟨#[67, 65, 77]⟩ : ByteArray), (⟨#[88, 49]⟩ : ByteArray)] : List ByteArray))).bind fun bt266 => ((spec_l01Src_pick.f s0_0 bt266.2.1 bt266.2.2.1 bt266.2.2.2 (([(⟨#[66, 79, 76, 84]⟩ : ByteArray), (⟨#[78, 85, 84]⟩ : ByteArray), (⟨#[71, 69, 65, 82]⟩ : ByteArray), (⟨#[66, 45, 49, 48]⟩ : ByteArray), (⟨#[66, 45, 50, 48]⟩ : ByteArray)] : List ByteArray))).bind fun bt273 => (some (bt259.1, bt266.1, bt273.1, bt273.2.1, bt273.2.2.1, bt273.2.2.2))))) = some (r1, r2, r3, r4, r5, r6) := h
  clear h
  obtain ⟨y256, hy256⟩ : ∃ y_ : List ByteArray, y_ = (([(⟨#[65, 67, 77, 69]⟩ : ByteArray), (⟨#[66, 79, 76, 84]⟩ : ByteArray), (⟨#[67, 45, 49]⟩ : ByteArray)] : List ByteArray)) := ⟨_, rfl⟩
  replace H : ((spec_l01Src_pick.f s0_0 s0_1 s0_2 s0_3 y256).bind fun bt259 => ((spec_l01Src_pick.f s0_0 bt259.2.1 bt259.2.2.1 bt259.2.2.2 (([(⟨#[66, 79, 76, 84]⟩ : ByteArray), (⟨#[78, 85, 84]⟩ : ByteArray), (⟨#[71, 69, 65, 82]⟩ : ByteArray), (⟨#[67, 65, 77]⟩ : ByteArray), (⟨#[88, 49]⟩ : ByteArray)] : List ByteArray))).bind fun bt266 => ((spec_l01Src_pick.f s0_0 bt266.2.1 bt266.2.2.1 bt266.2.2.2 (([(⟨#[66, 79, 76, 84]⟩ : ByteArray), (⟨#[78, 85, 84]⟩ : ByteArray), (⟨#[71, 69, 65, 82]⟩ : ByteArray), (⟨#[66, 45, 49, 48]⟩ : ByteArray), (⟨#[66, 45, 50, 48]⟩ : ByteArray)] : List ByteArray))).bind fun bt273 => (some (bt259.1, bt266.1, bt273.1, bt273.2.1, bt273.2.2.1, bt273.2.2.2))))) = some (r1, r2, r3, r4, r5, r6) := by first | (rw [hy256]; with_reducible exact H) | (have H2_ := (Option.bind_some _ _).symm.trans H; rw [hy256]; with_reducible exact H2_) | (have H2_ := (Option.bind_some _ _).symm.trans H; with_reducible exact H2_) | with_reducible exact H | (rw [hy256]; exact H) | exact H
  have Ny256 := Aside0.mk hy256
  clear hy256
  replace H := Option.bind_eq_some_iff.mp H
  obtain ⟨⟨t259, t260, t261, t262⟩, A20, H⟩ := H
  replace H : ((spec_l01Src_pick.f s0_0 t260 t261 t262 (([(⟨#[66, 79, 76, 84]⟩ : ByteArray), (⟨#[78, 85, 84]⟩ : ByteArray), (⟨#[71, 69, 65, 82]⟩ : ByteArray), (⟨#[67, 65, 77]⟩ : ByteArray), (⟨#[88, 49]⟩ : ByteArray)] : List ByteArray))).bind fun bt266 => ((spec_l01Src_pick.f s0_0 bt266.2.1 bt266.2.2.1 bt266.2.2.2 (([(⟨#[66, 79, 76, 84]⟩ : ByteArray), (⟨#[78, 85, 84]⟩ : ByteArray), (⟨#[71, 69, 65, 82]⟩ : ByteArray), (⟨#[66, 45, 49, 48]⟩ : ByteArray), (⟨#[66, 45, 50, 48]⟩ : ByteArray)] : List ByteArray))).bind fun bt273 => (some (t259, bt266.1, bt273.1, bt273.2.1, bt273.2.2.1, bt273.2.2.2)))) = some (r1, r2, r3, r4, r5, r6) := H
  have A2 := Aside0.mk A20
  clear A20
  obtain ⟨y263, hy263⟩ : ∃ y_ : List ByteArray, y_ = (([(⟨#[66, 79, 76, 84]⟩ : ByteArray), (⟨#[78, 85, 84]⟩ : ByteArray), (⟨#[71, 69, 65, 82]⟩ : ByteArray), (⟨#[67, 65, 77]⟩ : ByteArray), (⟨#[88, 49]⟩ : ByteArray)] : List ByteArray)) := ⟨_, rfl⟩
  replace H : ((spec_l01Src_pick.f s0_0 t260 t261 t262 y263).bind fun bt266 => ((spec_l01Src_pick.f s0_0 bt266.2.1 bt266.2.2.1 bt266.2.2.2 (([(⟨#[66, 79, 76, 84]⟩ : ByteArray), (⟨#[78, 85, 84]⟩ : ByteArray), (⟨#[71, 69, 65, 82]⟩ : ByteArray), (⟨#[66, 45, 49, 48]⟩ : ByteArray), (⟨#[66, 45, 50, 48]⟩ : ByteArray)] : List ByteArray))).bind fun bt273 => (some (t259, bt266.1, bt273.1, bt273.2.1, bt273.2.2.1, bt273.2.2.2)))) = some (r1, r2, r3, r4, r5, r6) := by first | (rw [hy263]; with_reducible exact H) | (have H2_ := (Option.bind_some _ _).symm.trans H; rw [hy263]; with_reducible exact H2_) | (have H2_ := (Option.bind_some _ _).symm.trans H; with_reducible exact H2_) | with_reducible exact H | (rw [hy263]; exact H) | exact H
  have Ny263 := Aside0.mk hy263
  clear hy263
  replace H := Option.bind_eq_some_iff.mp H
  obtain ⟨⟨t266, t267, t268, t269⟩, A30, H⟩ := H
  replace H : ((spec_l01Src_pick.f s0_0 t267 t268 t269 (([(⟨#[66, 79, 76, 84]⟩ : ByteArray), (⟨#[78, 85, 84]⟩ : ByteArray), (⟨#[71, 69, 65, 82]⟩ : ByteArray), (⟨#[66, 45, 49, 48]⟩ : ByteArray), (⟨#[66, 45, 50, 48]⟩ : ByteArray)] : List ByteArray))).bind fun bt273 => (some (t259, t266, bt273.1, bt273.2.1, bt273.2.2.1, bt273.2.2.2))) = some (r1, r2, r3, r4, r5, r6) := H
  have A3 := Aside0.mk A30
  clear A30
  obtain ⟨y270, hy270⟩ : ∃ y_ : List ByteArray, y_ = (([(⟨#[66, 79, 76, 84]⟩ : ByteArray), (⟨#[78, 85, 84]⟩ : ByteArray), (⟨#[71, 69, 65, 82]⟩ : ByteArray), (⟨#[66, 45, 49, 48]⟩ : ByteArray), (⟨#[66, 45, 50, 48]⟩ : ByteArray)] : List ByteArray)) := ⟨_, rfl⟩
  replace H : ((spec_l01Src_pick.f s0_0 t267 t268 t269 y270).bind fun bt273 => (some (t259, t266, bt273.1, bt273.2.1, bt273.2.2.1, bt273.2.2.2))) = some (r1, r2, r3, r4, r5, r6) := by first | (rw [hy270]; with_reducible exact H) | (have H2_ := (Option.bind_some _ _).symm.trans H; rw [hy270]; with_reducible exact H2_) | (have H2_ := (Option.bind_some _ _).symm.trans H; with_reducible exact H2_) | with_reducible exact H | (rw [hy270]; exact H) | exact H
  have Ny270 := Aside0.mk hy270
  clear hy270
  replace H := Option.bind_eq_some_iff.mp H
  obtain ⟨⟨t273, t274, t275, t276⟩, A40, H⟩ := H
  replace H : (some (t259, t266, t273, t274, t275, t276)) = some (r1, r2, r3, r4, r5, r6) := H
  have A4 := Aside0.mk A40
  clear A40
  simp only [Option.some.injEq, Prod.mk.injEq] at H
  obtain ⟨rfl, rfl, rfl, rfl, rfl, rfl⟩ := H
  go_enter Try.func73, Try.ntmps73
  go_wp2_with (first | ((with_reducible refine gate_dst (N := 2) rfl ?_); refine box_event ?hg (N := 2) ?hd (cs := #[.string (⟨#[]⟩ : ByteArray), .string (⟨#[]⟩ : ByteArray), .string (⟨#[]⟩ : ByteArray)]) (t := 37) ?hr ?_; (case hd => rfl); (case hg => rfl); (case hr => exact hr_); intro gb255 hg w5 hbox hb; have n0_ := Aside0.mk (IsS116.below au13_1 hb); have n1_ := Aside0.mk (KeepBut.trans au13_0 (KeepBut.of_below hb g none) (.inl rfl)); have n2_ := Aside0.mk (below_step au13_4 hb); have n3_ := Aside0.mk (hbox); have n4_ := Aside0.mk ((by rw [hg]; exact (keep_size (w := w) (g := g) (row := none) au13_0) : w.heap.size ≤ gb255)); have n5_ := Aside0.mk ((Nat.le_trans HW0.out (by rw [hg]; exact (keep_size (w := w) (g := g) (row := none) au13_0) : w.heap.size ≤ gb255) : w0.heap.size ≤ gb255)); have n6_ := Aside0.mk ((by rw [hg]; exact Nat.ne_of_lt (IsS116.lt (show IsS116 w0 _ g s0_0 s0_1 s0_2 s0_3 from by repeat (first | (with_reducible first | exact HI0.out | apply IsS116.alloc | apply IsS116.drewN | apply IsS116.drew | apply IsS116.set_1 | apply IsS116.set_2 | apply IsS116.set_3) | exact HI0.out))) : g ≠ gb255)); have n7_ := Aside0.mk ((by rw [hg]; exact Nat.ne_of_gt (IsS116.lt (show IsS116 w0 _ g s0_0 s0_1 s0_2 s0_3 from by repeat (first | (with_reducible first | exact HI0.out | apply IsS116.alloc | apply IsS116.drewN | apply IsS116.drew | apply IsS116.set_1 | apply IsS116.set_2 | apply IsS116.set_3) | exact HI0.out))) : gb255 ≠ g)); clear HI0; clear HK; clear HB; have HI0 := n0_; have HK := n1_; have HB := n2_; have BK255 := n3_; have GW255 := n4_; have GE255 := n5_; have NB0_255 := n6_; have NB255_0 := n7_; clear n0_ n1_ n2_ n3_ n4_ n5_ n6_ n7_; clear hb hbox hg) | ((with_reducible refine gate_dst (N := 4) rfl ?_); refine Kd.R_lit Kd.string _ 9 ?hg (N := 4) ?hd (xs := ([(⟨#[65, 67, 77, 69]⟩ : ByteArray), (⟨#[66, 79, 76, 84]⟩ : ByteArray), (⟨#[67, 45, 49]⟩ : ByteArray)] : List ByteArray)) (inner := [.string (⟨#[65, 67, 77, 69]⟩ : ByteArray), .string (⟨#[66, 79, 76, 84]⟩ : ByteArray), .string (⟨#[67, 45, 49]⟩ : ByteArray)]) (ok := fun _ => True) (okp := fun _ => True) ?hr ?hp (fun _ hk => hk) trivial (Below.refl _ _) (Nat.le_refl _) (by simp) ?_; (case hd => rfl); (case hg => rfl); (case hr => exact hr_); (case hp => exact (Reps.one (show Kd.M Kd.string _ _ _ (⟨#[65, 67, 77, 69]⟩ : ByteArray) [.string (⟨#[65, 67, 77, 69]⟩ : ByteArray)] from rfl) (Reps.one (show Kd.M Kd.string _ _ _ (⟨#[66, 79, 76, 84]⟩ : ByteArray) [.string (⟨#[66, 79, 76, 84]⟩ : ByteArray)] from rfl) (Reps.one (show Kd.M Kd.string _ _ _ (⟨#[67, 45, 49]⟩ : ByteArray) [.string (⟨#[67, 45, 49]⟩ : ByteArray)] from rfl) (Reps.none _ _))))); intro v257 w6 ho7 hb hg_ hnew_; clear hg_ hnew_; (first | rw [← Ny256.out] at ho7 | (simp only [Int.reduceToNat] at ho7; rw [← Ny256.out] at ho7)); have n0_ := Aside0.mk (Kd.R_lower ho7 (keep_size (w := w) (g := g) (row := none) au13_8)); have n1_ := Aside0.mk (IsS116.below au13_19 hb); have n2_ := Aside0.mk (blkb_ BK255 hb); have n3_ := Aside0.mk (KeepBut.trans au13_8 (KeepBut.of_below hb g none) (.inl rfl)); have n4_ := Aside0.mk (below_step au13_21 hb); clear HI0; clear BK255; clear HK; clear HB; have HO258 := n0_; have HI0 := n1_; have BK255 := n2_; have HK := n3_; have HB := n4_; clear n0_ n1_ n2_ n3_ n4_; clear hb ho7; obtain ⟨Ao8, co8, eo8⟩ := Kd.R_slice HO258.out; subst eo8) | ((with_reducible refine gate_callee (f := 75) rfl ?_); refine gl_ 5 Try.func75 #[.pointer (some ⟨g, 0, none⟩), .slice Ao8 y256.length co8] ?_ rfl rfl rfl rfl; (with_reducible refine (spec_l01Src_pick.calls g s0_0 s0_1 s0_2 s0_3 _ _ y256 t259 t260 t261 t262 w0 _ ?side1 ?side2 ?side3 ?side4 ?side5 A2.out).mono ?_); (case side1 => exact au13_20); (case side2 => exact au13_22); (case side3 => repeat (first | exact (Kd.R_reads' HO258.out).2.2 | (with_reducible refine Kd.C_alloc ?_ _) | (with_reducible refine Kd.C_drewN ?_ _) | (with_reducible refine Kd.C_drew ?_))); (case side4 => exact (Kd.R_reads' HO258.out).2.1); (case side5 => exact far_slice (IsS116.own_ne HI0.out HO258.out (by decide))); rintro e w9 ⟨rfl, hi, hb, hk⟩; refine ⟨_, rfl, ?_⟩; have n0_ := Aside0.mk (KeepBut.blk hk (g' := gb255) (o := .cells #[.string (⟨#[]⟩ : ByteArray), .string (⟨#[]⟩ : ByteArray), .string (⟨#[]⟩ : ByteArray)] 37 (0, 0)) (bk_ BK255) NB255_0.out (by simp)); have n1_ := Aside0.mk (Kd.R_mono (Kd.R_keep (IsS116.apart (show IsS116 w0 _ g s0_0 s0_1 s0_2 s0_3 from by repeat (first | (with_reducible first | exact HI0.out | apply IsS116.alloc | apply IsS116.drewN | apply IsS116.drew | apply IsS116.set_1 | apply IsS116.set_2 | apply IsS116.set_3 | refine IsS116.far ?_ NB0_255.out _) | exact HI0.out)) (rk_ HO258) (by decide)) hk (fun _ h => h.2)) (fun _ h => h.1)); have n2_ := Aside0.mk (KeepBut.trans au13_8 hk (.inl rfl)); have n3_ := Aside0.mk (hb); have n4_ := Aside0.mk (hi); clear BK255; clear HO258; clear HK; clear HB; clear HI0; have BK255 := n0_; have HO258 := n1_; have HK := n2_; have HB := n3_; have HI0 := n4_; clear n0_ n1_ n2_ n3_ n4_; (try clear hb); (try clear hb2); (try clear hk); (try clear hi)) | ((with_reducible refine gate_dst (N := 7) rfl ?_); refine Kd.R_lit Kd.string _ 9 ?hg (N := 7) ?hd (xs := ([(⟨#[66, 79, 76, 84]⟩ : ByteArray), (⟨#[78, 85, 84]⟩ : ByteArray), (⟨#[71, 69, 65, 82]⟩ : ByteArray), (⟨#[67, 65, 77]⟩ : ByteArray), (⟨#[88, 49]⟩ : ByteArray)] : List ByteArray)) (inner := [.string (⟨#[66, 79, 76, 84]⟩ : ByteArray), .string (⟨#[78, 85, 84]⟩ : ByteArray), .string (⟨#[71, 69, 65, 82]⟩ : ByteArray), .string (⟨#[67, 65, 77]⟩ : ByteArray), .string (⟨#[88, 49]⟩ : ByteArray)]) (ok := fun _ => True) (okp := fun _ => True) ?hr ?hp (fun _ hk => hk) trivial (Below.refl _ _) (Nat.le_refl _) (by simp) ?_; (case hd => rfl); (case hg => rfl); (case hr => exact hr_); (case hp => exact (Reps.one (show Kd.M Kd.string _ _ _ (⟨#[66, 79, 76, 84]⟩ : ByteArray) [.string (⟨#[66, 79, 76, 84]⟩ : ByteArray)] from rfl) (Reps.one (show Kd.M Kd.string _ _ _ (⟨#[78, 85, 84]⟩ : ByteArray) [.string (⟨#[78, 85, 84]⟩ : ByteArray)] from rfl) (Reps.one (show Kd.M Kd.string _ _ _ (⟨#[71, 69, 65, 82]⟩ : ByteArray) [.string (⟨#[71, 69, 65, 82]⟩ : ByteArray)] from rfl) (Reps.one (show Kd.M Kd.string _ _ _ (⟨#[67, 65, 77]⟩ : ByteArray) [.string (⟨#[67, 65, 77]⟩ : ByteArray)] from rfl) (Reps.one (show Kd.M Kd.string _ _ _ (⟨#[88, 49]⟩ : ByteArray) [.string (⟨#[88, 49]⟩ : ByteArray)] from rfl) (Reps.none _ _))))))); intro v264 w10 ho11 hb hg_ hnew_; clear hg_ hnew_; (first | rw [← Ny263.out] at ho11 | (simp only [Int.reduceToNat] at ho11; rw [← Ny263.out] at ho11)); have n0_ := Aside0.mk (Kd.R_elder' (rk_ HO258) (Kd.R_base ho11) hb); have n1_ := Aside0.mk (Kd.R_lower (Kd.R_new' ho11 (Kd.R_lt (rk_ HO258))) (keep_size (w := w) (g := g) (row := none) au13_8)); have n2_ := Aside0.mk (IsS116.below au13_19 hb); have n3_ := Aside0.mk (blkb_ BK255 hb); have n4_ := Aside0.mk (KeepBut.trans au13_8 (KeepBut.of_below hb g none) (.inl rfl)); have n5_ := Aside0.mk (below_step au13_21 hb); clear HO258; clear HI0; clear BK255; clear HK; clear HB; have HO258 := n0_; have HO265 := n1_; have HI0 := n2_; have BK255 := n3_; have HK := n4_; have HB := n5_; clear n0_ n1_ n2_ n3_ n4_ n5_; clear hb ho11; obtain ⟨Ao12, co12, eo12⟩ := Kd.R_slice HO265.out; subst eo12) | ((with_reducible refine gate_callee (f := 75) rfl ?_); refine gl_ 8 Try.func75 #[.pointer (some ⟨g, 0, none⟩), .slice Ao12 y263.length co12] ?_ rfl rfl rfl rfl; (with_reducible refine (spec_l01Src_pick.calls g s0_0 t260 t261 t262 _ _ y263 t266 t267 t268 t269 w0 _ ?side1 ?side2 ?side3 ?side4 ?side5 A3.out).mono ?_); (case side1 => exact au13_20); (case side2 => exact au13_22); (case side3 => repeat (first | exact (Kd.R_reads' HO265.out).2.2 | (with_reducible refine Kd.C_alloc ?_ _) | (with_reducible refine Kd.C_drewN ?_ _) | (with_reducible refine Kd.C_drew ?_))); (case side4 => exact (Kd.R_reads' HO265.out).2.1); (case side5 => exact far_slice (IsS116.own_ne HI0.out HO265.out (by decide))); rintro e w13 ⟨rfl, hi, hb, hk⟩; refine ⟨_, rfl, ?_⟩; have n0_ := Aside0.mk (KeepBut.blk hk (g' := gb255) (o := .cells #[.string (⟨#[]⟩ : ByteArray), .string (⟨#[]⟩ : ByteArray), .string (⟨#[]⟩ : ByteArray)] 37 (0, 0)) (bk_ BK255) NB255_0.out (by simp)); have n1_ := Aside0.mk (Kd.R_mono (Kd.R_keep (IsS116.apart (show IsS116 w0 _ g s0_0 t260 t261 t262 from by repeat (first | (with_reducible first | exact HI0.out | apply IsS116.alloc | apply IsS116.drewN | apply IsS116.drew | apply IsS116.set_1 | apply IsS116.set_2 | apply IsS116.set_3 | refine IsS116.far ?_ NB0_255.out _) | exact HI0.out)) (rk_ HO258) (by decide)) hk (fun _ h => h.2)) (fun _ h => h.1)); have n2_ := Aside0.mk (Kd.R_mono (Kd.R_keep (IsS116.apart (show IsS116 w0 _ g s0_0 t260 t261 t262 from by repeat (first | (with_reducible first | exact HI0.out | apply IsS116.alloc | apply IsS116.drewN | apply IsS116.drew | apply IsS116.set_1 | apply IsS116.set_2 | apply IsS116.set_3 | refine IsS116.far ?_ NB0_255.out _) | exact HI0.out)) (rk_ HO265) (by decide)) hk (fun _ h => h.2)) (fun _ h => h.1)); have n3_ := Aside0.mk (KeepBut.trans au13_8 hk (.inl rfl)); have n4_ := Aside0.mk (hb); have n5_ := Aside0.mk (hi); clear BK255; clear HO258; clear HO265; clear HK; clear HB; clear HI0; have BK255 := n0_; have HO258 := n1_; have HO265 := n2_; have HK := n3_; have HB := n4_; have HI0 := n5_; clear n0_ n1_ n2_ n3_ n4_ n5_; (try clear hb); (try clear hb2); (try clear hk); (try clear hi)) | ((with_reducible refine gate_dst (N := 10) rfl ?_); refine Kd.R_lit Kd.string _ 9 ?hg (N := 10) ?hd (xs := ([(⟨#[66, 79, 76, 84]⟩ : ByteArray), (⟨#[78, 85, 84]⟩ : ByteArray), (⟨#[71, 69, 65, 82]⟩ : ByteArray), (⟨#[66, 45, 49, 48]⟩ : ByteArray), (⟨#[66, 45, 50, 48]⟩ : ByteArray)] : List ByteArray)) (inner := [.string (⟨#[66, 79, 76, 84]⟩ : ByteArray), .string (⟨#[78, 85, 84]⟩ : ByteArray), .string (⟨#[71, 69, 65, 82]⟩ : ByteArray), .string (⟨#[66, 45, 49, 48]⟩ : ByteArray), .string (⟨#[66, 45, 50, 48]⟩ : ByteArray)]) (ok := fun _ => True) (okp := fun _ => True) ?hr ?hp (fun _ hk => hk) trivial (Below.refl _ _) (Nat.le_refl _) (by simp) ?_; (case hd => rfl); (case hg => rfl); (case hr => exact hr_); (case hp => exact (Reps.one (show Kd.M Kd.string _ _ _ (⟨#[66, 79, 76, 84]⟩ : ByteArray) [.string (⟨#[66, 79, 76, 84]⟩ : ByteArray)] from rfl) (Reps.one (show Kd.M Kd.string _ _ _ (⟨#[78, 85, 84]⟩ : ByteArray) [.string (⟨#[78, 85, 84]⟩ : ByteArray)] from rfl) (Reps.one (show Kd.M Kd.string _ _ _ (⟨#[71, 69, 65, 82]⟩ : ByteArray) [.string (⟨#[71, 69, 65, 82]⟩ : ByteArray)] from rfl) (Reps.one (show Kd.M Kd.string _ _ _ (⟨#[66, 45, 49, 48]⟩ : ByteArray) [.string (⟨#[66, 45, 49, 48]⟩ : ByteArray)] from rfl) (Reps.one (show Kd.M Kd.string _ _ _ (⟨#[66, 45, 50, 48]⟩ : ByteArray) [.string (⟨#[66, 45, 50, 48]⟩ : ByteArray)] from rfl) (Reps.none _ _))))))); intro v271 w14 ho15 hb hg_ hnew_; clear hg_ hnew_; (first | rw [← Ny270.out] at ho15 | (simp only [Int.reduceToNat] at ho15; rw [← Ny270.out] at ho15)); have n0_ := Aside0.mk (Kd.R_elder' (rk_ HO258) (Kd.R_base ho15) hb); have n1_ := Aside0.mk (Kd.R_elder' (rk_ HO265) (Kd.R_base ho15) hb); have n2_ := Aside0.mk (Kd.R_lower (Kd.R_new' (Kd.R_new' ho15 (Kd.R_lt (rk_ HO258))) (Kd.R_lt (rk_ HO265))) (keep_size (w := w) (g := g) (row := none) au13_8)); have n3_ := Aside0.mk (IsS116.below au13_19 hb); have n4_ := Aside0.mk (blkb_ BK255 hb); have n5_ := Aside0.mk (KeepBut.trans au13_8 (KeepBut.of_below hb g none) (.inl rfl)); have n6_ := Aside0.mk (below_step au13_21 hb); clear HO258; clear HO265; clear HI0; clear BK255; clear HK; clear HB; have HO258 := n0_; have HO265 := n1_; have HO272 := n2_; have HI0 := n3_; have BK255 := n4_; have HK := n5_; have HB := n6_; clear n0_ n1_ n2_ n3_ n4_ n5_ n6_; clear hb ho15; obtain ⟨Ao16, co16, eo16⟩ := Kd.R_slice HO272.out; subst eo16) | ((with_reducible refine gate_callee (f := 75) rfl ?_); refine gl_ 11 Try.func75 #[.pointer (some ⟨g, 0, none⟩), .slice Ao16 y270.length co16] ?_ rfl rfl rfl rfl; (with_reducible refine (spec_l01Src_pick.calls g s0_0 t267 t268 t269 _ _ y270 t273 t274 t275 t276 w0 _ ?side1 ?side2 ?side3 ?side4 ?side5 A4.out).mono ?_); (case side1 => exact au13_20); (case side2 => exact au13_22); (case side3 => repeat (first | exact (Kd.R_reads' HO272.out).2.2 | (with_reducible refine Kd.C_alloc ?_ _) | (with_reducible refine Kd.C_drewN ?_ _) | (with_reducible refine Kd.C_drew ?_))); (case side4 => exact (Kd.R_reads' HO272.out).2.1); (case side5 => exact far_slice (IsS116.own_ne HI0.out HO272.out (by decide))); rintro e w17 ⟨rfl, hi, hb, hk⟩; refine ⟨_, rfl, ?_⟩; have n0_ := Aside0.mk (KeepBut.blk hk (g' := gb255) (o := .cells #[.string (⟨#[]⟩ : ByteArray), .string (⟨#[]⟩ : ByteArray), .string (⟨#[]⟩ : ByteArray)] 37 (0, 0)) (bk_ BK255) NB255_0.out (by simp)); have n1_ := Aside0.mk (Kd.R_mono (Kd.R_keep (IsS116.apart (show IsS116 w0 _ g s0_0 t267 t268 t269 from by repeat (first | (with_reducible first | exact HI0.out | apply IsS116.alloc | apply IsS116.drewN | apply IsS116.drew | apply IsS116.set_1 | apply IsS116.set_2 | apply IsS116.set_3 | refine IsS116.far ?_ NB0_255.out _) | exact HI0.out)) (rk_ HO258) (by decide)) hk (fun _ h => h.2)) (fun _ h => h.1)); have n2_ := Aside0.mk (Kd.R_mono (Kd.R_keep (IsS116.apart (show IsS116 w0 _ g s0_0 t267 t268 t269 from by repeat (first | (with_reducible first | exact HI0.out | apply IsS116.alloc | apply IsS116.drewN | apply IsS116.drew | apply IsS116.set_1 | apply IsS116.set_2 | apply IsS116.set_3 | refine IsS116.far ?_ NB0_255.out _) | exact HI0.out)) (rk_ HO265) (by decide)) hk (fun _ h => h.2)) (fun _ h => h.1)); have n3_ := Aside0.mk (Kd.R_mono (Kd.R_keep (IsS116.apart (show IsS116 w0 _ g s0_0 t267 t268 t269 from by repeat (first | (with_reducible first | exact HI0.out | apply IsS116.alloc | apply IsS116.drewN | apply IsS116.drew | apply IsS116.set_1 | apply IsS116.set_2 | apply IsS116.set_3 | refine IsS116.far ?_ NB0_255.out _) | exact HI0.out)) (rk_ HO272) (by decide)) hk (fun _ h => h.2)) (fun _ h => h.1)); have n4_ := Aside0.mk (KeepBut.trans au13_8 hk (.inl rfl)); have n5_ := Aside0.mk (hb); have n6_ := Aside0.mk (hi); clear BK255; clear HO258; clear HO265; clear HO272; clear HK; clear HB; clear HI0; have BK255 := n0_; have HO258 := n1_; have HO265 := n2_; have HO272 := n3_; have HK := n4_; have HB := n5_; have HI0 := n6_; clear n0_ n1_ n2_ n3_ n4_ n5_ n6_; (try clear hb); (try clear hb2); (try clear hk); (try clear hi); have hnb18 := NB255_0.out; have hnc18 := NB0_255.out; obtain ⟨hcz19_0, hcz19_1, hcz19_2, hfz19_0, hfz19_1, hfz19_2⟩ := cellsF3 BK255.out))
  refine bodyPost_ret (results_cell_row rfl _ _ gb255 37 #[.string t259, .string t266, .string t273] (0, 0) _ rfl (by (with_reducible repeat (first | refine blk_drewN ?_ _ | refine blk_drew ?_ | refine blk_alloc ?_ _)); refine blk_put (cs := #[.string t259, .string t266, .string (⟨#[]⟩ : ByteArray)]) ?_ 2 _ rfl; (with_reducible repeat (first | refine blk_drewN ?_ _ | refine blk_drew ?_ | refine blk_alloc ?_ _)); refine blk_put (cs := #[.string t259, .string (⟨#[]⟩ : ByteArray), .string (⟨#[]⟩ : ByteArray)]) ?_ 1 _ rfl; (with_reducible repeat (first | refine blk_drewN ?_ _ | refine blk_drew ?_ | refine blk_alloc ?_ _)); refine blk_put (cs := #[.string (⟨#[]⟩ : ByteArray), .string (⟨#[]⟩ : ByteArray), .string (⟨#[]⟩ : ByteArray)]) ?_ 0 _ rfl; (with_reducible repeat (first | refine blk_drewN ?_ _ | refine blk_drew ?_ | refine blk_alloc ?_ _)); exact BK255.out) Try.underlying37 rfl (by kernel_rfl)) rfl ?_
  exact ⟨au13_10, by repeat (first | (with_reducible first | exact HI0.out | apply IsS116.alloc | apply IsS116.drewN | apply IsS116.drew | apply IsS116.set_1 | apply IsS116.set_2 | apply IsS116.set_3 | refine IsS116.far ?_ NB0_255.out _) | exact HI0.out), by repeat (first | (with_reducible first | exact HB.out | apply below_alloc | apply pw_below_drewN | apply below_drew1 | refine below_set ?_ (IsS116.ge HI0.out) | refine below_set ?_ GE255.out) | exact HB.out), by repeat (first | (with_reducible first | exact HK.out | apply KeepBut.set_ | apply keep_drewN | apply keep_drew | apply keep_alloc | refine keep_far ?_ GW255.out _) | exact HK.out)⟩

/-! ### spec_l01Src_one: function 74 -/
def spec_l01Src_one.f (s0_0 : List Int) (s0_1 : Int) (s0_2 : Int) (s0_3 : Int) (a1 : Int) : Option (Bool × Int × Int × Int) := (spec_l01Src_n.f s0_0 s0_1 s0_2 s0_3 a1).bind fun bt277 => (some ((bt277.1 == 0), bt277.2.1, bt277.2.2.1, bt277.2.2.2))
set_option maxHeartbeats 8000000 in
set_option maxRecDepth 100000 in
theorem spec_l01Src_one.calls (g : Nat) (s0_0 : List Int) (s0_1 : Int) (s0_2 : Int) (s0_3 : Int) (a1 : Int) (r1 : Bool) (r2 : Int) (r3 : Int) (r4 : Int) (w0 w : World) (hI : IsS116 w0 w g s0_0 s0_1 s0_2 s0_3) (hB : Below w0.heap.size w0 w) (h : spec_l01Src_one.f s0_0 s0_1 s0_2 s0_3 a1 = some (r1, r2, r3, r4)) :
    Calls Try.prog 74 #[.pointer (some ⟨g, 0, none⟩), .int .i64 a1] w fun e w' => e = .returned (.bool r1) ∧ IsS116 w0 w' g s0_0 r2 r3 r4 ∧ Below w0.heap.size w0 w' ∧ KeepBut w w' g none := by
  have HI0 := Aside0.mk hI
  have HK := Aside0.mk (KeepBut.refl w g none)
  have HL := Aside0.mk hB.size
  clear hI
  have HW0 := Aside0.mk hB.size
  have HB := Aside0.mk hB
  clear hB
  have H : ((spec_l01Src_n.f s0_0 s0_1 s0_2 s0_3 a1).bind fun bt277 => (some ((bt277.1 == 0), bt277.2.1, bt277.2.2.1, bt277.2.2.2))) = some (r1, r2, r3, r4) := h
  clear h
  replace H := Option.bind_eq_some_iff.mp H
  obtain ⟨⟨t277, t278, t279, t280⟩, A30, H⟩ := H
  replace H : (some ((t277 == 0), t278, t279, t280)) = some (r1, r2, r3, r4) := H
  have A3 := Aside0.mk A30
  clear A30
  simp only [Option.some.injEq, Prod.mk.injEq] at H
  obtain ⟨rfl, rfl, rfl, rfl⟩ := H
  go_enter Try.func74, Try.ntmps74
  go_wp2_with (first | ((with_reducible refine gate_callee (f := 101) rfl ?_); refine gl_ 7 Try.func101 #[.pointer (some ⟨g, 0, none⟩), .int .i64 a1] ?_ rfl rfl rfl rfl; (with_reducible refine (spec_l01Src_n.calls g s0_0 s0_1 s0_2 s0_3 a1 t277 t278 t279 t280 w0 _ ?side1 ?side2 A3.out).mono ?_); (case side1 => exact au13_3); (case side2 => exact au13_6); rintro e w4 ⟨rfl, hi, hb, hk⟩; refine ⟨_, rfl, ?_⟩; have n0_ := Aside0.mk (KeepBut.trans au13_0 hk (.inl rfl)); have n1_ := Aside0.mk (hb); have n2_ := Aside0.mk (hi); clear HK; clear HB; clear HI0; have HK := n0_; have HB := n1_; have HI0 := n2_; clear n0_ n1_ n2_; (try clear hb); (try clear hb2); (try clear hk); (try clear hi)))
  go_ret
  exact ⟨au13_10, au13_2, au13_5, au13_9⟩

/-! ### spec_l01Dec: function 114 -/
def spec_l01Dec.l0 : Nat → Int → Bool → ByteArray → Option (ByteArray)
  | 0, _, _, _ => none
  | k + 1, x0, x3, x4 => if x0 = 0 then (if x3 = true then (if 1 + x4.size ≤ 9223372036854775807 then (some ((⟨#[45]⟩ : ByteArray) ++ x4)) else (none)) else (some x4)) else (if (Int.tmod x0 10) < 0 then ((some (([(wrap64 (48 + (wrap64 (-(Int.tmod x0 10))))) % 256] : List Int) : List Int)).bind fun y281 => (if (strOfNums y281).size + x4.size ≤ 9223372036854775807 then (spec_l01Dec.l0 k (wrap64 (Int.tdiv x0 10)) x3 ((strOfNums y281) ++ x4)) else (none))) else ((some (([(wrap64 (48 + (Int.tmod x0 10))) % 256] : List Int) : List Int)).bind fun y284 => (if (strOfNums y284).size + x4.size ≤ 9223372036854775807 then (spec_l01Dec.l0 k (wrap64 (Int.tdiv x0 10)) x3 ((strOfNums y284) ++ x4)) else (none))))
def spec_l01Dec.f (k : Nat) (a0 : Int) : Option (ByteArray) := if a0 = 0 then (some (⟨#[48]⟩ : ByteArray)) else (spec_l01Dec.l0 k a0 (decide (a0 < 0)) (⟨#[]⟩ : ByteArray))
theorem spec_l01Dec.mono_l : ∀ k, (∀ y0 y1 y2, LeO (spec_l01Dec.l0 k y0 y1 y2) (spec_l01Dec.l0 (k + 1) y0 y1 y2))
  | 0 => fun _ _ _ r h => by simp [spec_l01Dec.l0] at h
  | k + 1 => by
    have ih0 := spec_l01Dec.mono_l k
    · intro y0 y1 y2
      unfold spec_l01Dec.l0
      repeat' first
      | (with_reducible exact ih0 _ _ _)
      | (with_reducible exact LeO.refl _)
      | (with_reducible exact LeO.none _)
      | (with_reducible refine LeO.ite ?_ ?_)
      | (with_reducible refine LeO.bind ?_ (fun _ => ?_))
      | exact ih0 _ _ _
      | exact LeO.none _
      | refine LeO.ite ?_ ?_
      | refine LeO.bind ?_ (fun _ => ?_)
theorem spec_l01Dec.mono : ∀ a0 k, LeO (spec_l01Dec.f k a0) (spec_l01Dec.f (k + 1) a0) := by
  intro a0 k
  have ih0 := spec_l01Dec.mono_l k
  unfold spec_l01Dec.f
  repeat' first
      | (with_reducible exact ih0 _ _ _)
      | (with_reducible exact LeO.refl _)
      | (with_reducible exact LeO.none _)
      | (with_reducible refine LeO.ite ?_ ?_)
      | (with_reducible refine LeO.bind ?_ (fun _ => ?_))
      | exact ih0 _ _ _
      | exact LeO.none _
      | refine LeO.ite ?_ ?_
      | refine LeO.bind ?_ (fun _ => ?_)
set_option maxHeartbeats 8000000 in
set_option maxRecDepth 100000 in
theorem spec_l01Dec.calls (k : Nat) (a0 : Int) (r : ByteArray) (w : World) (h : spec_l01Dec.f k a0 = some r) :
    Calls Try.prog 114 #[.int .i64 a0] w fun e w' => e = .returned (.string r) ∧ Below w.heap.size w w' := by
  have HB := Aside0.mk (Below.refl w.heap.size w)
  have H : (if a0 = 0 then (some (⟨#[48]⟩ : ByteArray)) else (spec_l01Dec.l0 k a0 (decide (a0 < 0)) (⟨#[]⟩ : ByteArray))) = some r := h
  clear h
  by_cases c2 : a0 = 0
  · rw [if_pos c2] at H
    have c2b0 : (a0 == 0) = true := beq_iff_eq.mpr c2
    have c2b1 : (a0 != 0) = false := bne_eq_false_iff_eq.mpr c2
    clear c2
    obtain rfl := Option.some.inj H
    go_enter Try.func114, Try.ntmps114
    go_wp2
    all_goals try (exfalso; first | (have h_ := of_decide_eq_true c4b0; omega) | (have h_ := of_decide_eq_false c4b0; omega))
    go_ret
    exact ⟨au13_10, bl_⟩
  · rw [if_neg c2] at H
    have c2b0 : (a0 == 0) = false := beq_eq_false_iff_ne.mpr c2
    have c2b1 : (a0 != 0) = true := bne_iff_ne.mpr c2
    have H' := Aside0.mk H
    clear H
    go_enter Try.func114, Try.ntmps114
    go_wp2
    all_goals try (exfalso; first | (have h_ := of_decide_eq_true c4b0; omega) | (have h_ := of_decide_eq_false c4b0; omega))
    go_loopg [0, 4] k (fun kq v0 v4 w' => ∃ (x0_1 : Int) (x4_1 : ByteArray), v0 = .int .i64 x0_1 ∧ v4 = .string x4_1 ∧ Aside0 (spec_l01Dec.l0 kq x0_1 (decide (a0 < 0)) x4_1 = some r) ∧ Aside0 (kq ≤ k) ∧ Aside0 (Below w.heap.size w w'))
    case atStart => exact ⟨(a0), ((⟨#[]⟩ : ByteArray)), er_, er_, H', ⟨Nat.le_refl _⟩, ⟨bl_⟩⟩
    case round =>
      clear H'
      try clear c1
      try clear c2
      try clear c2b0
      try clear c2b1
      try clear p2
      obtain ⟨x0_1, x4_1, rfl, rfl, HA, HK1, HB⟩ := hrel
      cases gk with
      | zero => exact absurd HA.out (by simp [spec_l01Dec.l0])
      | succ k1 =>
        have H := HA.out
        clear HA
        simp only [spec_l01Dec.l0] at H
        by_cases c3 : x0_1 = 0
        · rw [if_pos c3] at H
          have c3b0 : (x0_1 == 0) = true := beq_iff_eq.mpr c3
          have c3b1 : (x0_1 != 0) = false := bne_eq_false_iff_eq.mpr c3
          clear c3
          by_cases c4 : (decide (a0 < 0)) = true
          · rw [if_pos c4] at H
            have c4b0 : (decide (a0 < 0)) = true := c4
            clear c4
            by_cases c5 : 1 + x4_1.size ≤ 9223372036854775807
            · rw [if_pos c5] at H
              have c5b0 := eq_true c5
              have c5b1 : decide (1 + x4_1.size ≤ 9223372036854775807) = true := decide_eq_true c5
              try have c5b2 : (9223372036854775807 < 1 + x4_1.size) = False := eq_false (Nat.not_lt.2 c5)
              obtain rfl := Option.some.inj H
              go_wp2
              all_goals try (exfalso; first | (have h_ := of_decide_eq_true c4b0; omega) | (have h_ := of_decide_eq_false c4b0; omega))
              go_ret
              exact ⟨au13_10, bl_⟩
            · rw [if_neg c5] at H
              exact absurd H (by simp)
          · rw [if_neg c4] at H
            have c4b0 : (decide (a0 < 0)) = false := by simpa using c4
            clear c4
            obtain rfl := Option.some.inj H
            go_wp2
            all_goals try (exfalso; first | (have h_ := of_decide_eq_true c4b0; omega) | (have h_ := of_decide_eq_false c4b0; omega))
            go_ret
            exact ⟨au13_10, bl_⟩
        · rw [if_neg c3] at H
          have c3b0 : (x0_1 == 0) = false := beq_eq_false_iff_ne.mpr c3
          have c3b1 : (x0_1 != 0) = true := bne_iff_ne.mpr c3
          by_cases c6 : (Int.tmod x0_1 10) < 0
          · rw [if_pos c6] at H
            have c6b0 : decide ((Int.tmod x0_1 10) < 0) = true := decide_eq_true c6
            clear c6
            obtain ⟨y281, hy281⟩ : ∃ y_ : List Int, y_ = (([(wrap64 (48 + (wrap64 (-(Int.tmod x0_1 10))))) % 256] : List Int)) := ⟨_, rfl⟩
            replace H : (if (strOfNums y281).size + x4_1.size ≤ 9223372036854775807 then (spec_l01Dec.l0 k1 (wrap64 (Int.tdiv x0_1 10)) (decide (a0 < 0)) ((strOfNums y281) ++ x4_1)) else (none)) = some r := by first | (rw [hy281]; with_reducible exact H) | (have H2_ := (Option.bind_some _ _).symm.trans H; rw [hy281]; with_reducible exact H2_) | (have H2_ := (Option.bind_some _ _).symm.trans H; with_reducible exact H2_) | with_reducible exact H | (rw [hy281]; exact H) | exact H
            have Ny281 := Aside0.mk hy281
            clear hy281
            by_cases c7 : (strOfNums y281).size + x4_1.size ≤ 9223372036854775807
            · rw [if_pos c7] at H
              have c7b0 := eq_true c7
              have c7b1 : decide ((strOfNums y281).size + x4_1.size ≤ 9223372036854775807) = true := decide_eq_true c7
              try have c7b2 : (9223372036854775807 < (strOfNums y281).size + x4_1.size) = False := eq_false (Nat.not_lt.2 c7)
              have H' := Aside0.mk H
              clear H
              go_wp2_with (first | ((with_reducible refine gate_dst (N := 21) rfl ?_); refine Kd.R_lit (Kd.int .u8) _ 5 ?hg (N := 21) ?hd (xs := ([(wrap64 (48 + (wrap64 (-(Int.tmod x0_1 10))))) % 256] : List Int)) (inner := [.int .u8 ((wrap64 (48 + (wrap64 (-(Int.tmod x0_1 10))))) % 256)]) (ok := fun _ => True) (okp := fun _ => True) ?hr ?hp (fun _ hk => hk) trivial (Below.refl _ _) (Nat.le_refl _) (by simp) ?_; (case hd => rfl); (case hg => rfl); (case hr => exact hr_); (case hp => exact (Reps.one (show Kd.M (Kd.int .u8) _ _ _ ((wrap64 (48 + (wrap64 (-(Int.tmod x0_1 10))))) % 256) [.int .u8 ((wrap64 (48 + (wrap64 (-(Int.tmod x0_1 10))))) % 256)] from rfl) (Reps.none _ _))); intro v282 w8 ho9 hb hg_ hnew_; clear hg_ hnew_; (first | rw [← Ny281.out] at ho9 | (simp only [Int.reduceToNat] at ho9; rw [← Ny281.out] at ho9)); have n0_ := Aside0.mk (Kd.R_lower ho9 (below_size bl_)); have n1_ := Aside0.mk (below_step bl_ hb); clear HB; have HO283 := n0_; have HB := n1_; clear n0_ n1_; clear hb ho9; have hcv10 := own_string (P := Try.prog) Try.underlying40 Try.underlying5 Try.underlying9 (Kd.own_of_R HO283.out)))
              go_roundg k1
              case measure => have := HK1.out; omega
              case rel => exact ⟨(wrap64 (Int.tdiv x0_1 10)), ((strOfNums y281) ++ x4_1), er_, er_, H', ⟨by have := HK1.out; omega⟩, ⟨bl_⟩⟩
            · rw [if_neg c7] at H
              exact absurd H (by simp)
          · rw [if_neg c6] at H
            have c6b0 : decide ((Int.tmod x0_1 10) < 0) = false := decide_eq_false c6
            clear c6
            obtain ⟨y284, hy284⟩ : ∃ y_ : List Int, y_ = (([(wrap64 (48 + (Int.tmod x0_1 10))) % 256] : List Int)) := ⟨_, rfl⟩
            replace H : (if (strOfNums y284).size + x4_1.size ≤ 9223372036854775807 then (spec_l01Dec.l0 k1 (wrap64 (Int.tdiv x0_1 10)) (decide (a0 < 0)) ((strOfNums y284) ++ x4_1)) else (none)) = some r := by first | (rw [hy284]; with_reducible exact H) | (have H2_ := (Option.bind_some _ _).symm.trans H; rw [hy284]; with_reducible exact H2_) | (have H2_ := (Option.bind_some _ _).symm.trans H; with_reducible exact H2_) | with_reducible exact H | (rw [hy284]; exact H) | exact H
            have Ny284 := Aside0.mk hy284
            clear hy284
            by_cases c11 : (strOfNums y284).size + x4_1.size ≤ 9223372036854775807
            · rw [if_pos c11] at H
              have c11b0 := eq_true c11
              have c11b1 : decide ((strOfNums y284).size + x4_1.size ≤ 9223372036854775807) = true := decide_eq_true c11
              try have c11b2 : (9223372036854775807 < (strOfNums y284).size + x4_1.size) = False := eq_false (Nat.not_lt.2 c11)
              have H' := Aside0.mk H
              clear H
              go_wp2_with (first | ((with_reducible refine gate_dst (N := 21) rfl ?_); refine Kd.R_lit (Kd.int .u8) _ 5 ?hg (N := 21) ?hd (xs := ([(wrap64 (48 + (Int.tmod x0_1 10))) % 256] : List Int)) (inner := [.int .u8 ((wrap64 (48 + (Int.tmod x0_1 10))) % 256)]) (ok := fun _ => True) (okp := fun _ => True) ?hr ?hp (fun _ hk => hk) trivial (Below.refl _ _) (Nat.le_refl _) (by simp) ?_; (case hd => rfl); (case hg => rfl); (case hr => exact hr_); (case hp => exact (Reps.one (show Kd.M (Kd.int .u8) _ _ _ ((wrap64 (48 + (Int.tmod x0_1 10))) % 256) [.int .u8 ((wrap64 (48 + (Int.tmod x0_1 10))) % 256)] from rfl) (Reps.none _ _))); intro v285 w12 ho13 hb hg_ hnew_; clear hg_ hnew_; (first | rw [← Ny284.out] at ho13 | (simp only [Int.reduceToNat] at ho13; rw [← Ny284.out] at ho13)); have n0_ := Aside0.mk (Kd.R_lower ho13 (below_size bl_)); have n1_ := Aside0.mk (below_step bl_ hb); clear HB; have HO286 := n0_; have HB := n1_; clear n0_ n1_; clear hb ho13; have hcv14 := own_string (P := Try.prog) Try.underlying40 Try.underlying5 Try.underlying9 (Kd.own_of_R HO286.out)))
              go_roundg k1
              case measure => have := HK1.out; omega
              case rel => exact ⟨(wrap64 (Int.tdiv x0_1 10)), ((strOfNums y284) ++ x4_1), er_, er_, H', ⟨by have := HK1.out; omega⟩, ⟨bl_⟩⟩
            · rw [if_neg c11] at H
              exact absurd H (by simp)

/-! ### spec_l01Src_l08Crosses: function 72 -/
mutual
def spec_l01Src_l08Crosses.l0 : Nat → List (S37) → Int → List Int → Int → Int → Int → Option ((List (S37)) × Int × Int × Int)
  | 0, _, _, _, _, _, _ => none
  | k + 1, x3, x4, x1000, x1001, x1002, x1003 => if x4 > 0 then ((spec_l01Src_l08Cross.f x1000 x1001 x1002 x1003).bind fun bt294 => ((spec_CrossPut.f k x3 bt294.1 bt294.2.1 bt294.2.2.1).bind fun t300 => (spec_l01Src_l08Crosses.l0 k t300 (wrap64 (x4 - 1)) x1000 bt294.2.2.2.1 bt294.2.2.2.2.1 bt294.2.2.2.2.2))) else ((spec_l01Src_one.f x1000 x1001 x1002 x1003 12).bind fun bt303 => (if bt303.1 = true then ((some (([] : List (S37)) : List (S37))).bind fun y307 => (if y307.length + x3.length < 2932031007402 then ((some (y307 ++ x3 : List (S37))).bind fun y310 => ((spec_l01Src_l08Cross.f x1000 bt303.2.1 bt303.2.2.1 bt303.2.2.2).bind fun bt313 => (if y310.length < 2932031007402 then (spec_l01Src_l08Crosses.j1 k (y310 ++ [(⟨bt313.1, bt313.2.1, bt313.2.2.1⟩ : S37)]) x1000 bt313.2.2.2.1 bt313.2.2.2.2.1 bt313.2.2.2.2.2) else (none)))) else (none))) else (spec_l01Src_l08Crosses.j1 k x3 x1000 bt303.2.1 bt303.2.2.1 bt303.2.2.2)))
def spec_l01Src_l08Crosses.j1 : Nat → List (S37) → List Int → Int → Int → Int → Option ((List (S37)) × Int × Int × Int)
  | 0, _, _, _, _, _ => none
  | k + 1, x3, x1000, x1001, x1002, x1003 => (spec_l01Src_one.f x1000 x1001 x1002 x1003 40).bind fun bt322 => (if bt322.1 = true then (spec_l01Src_l08Crosses.l1 k (([] : List (S37))) 0 x1000 bt322.2.1 bt322.2.2.1 bt322.2.2.2) else (some (x3, bt322.2.1, bt322.2.2.1, bt322.2.2.2)))
def spec_l01Src_l08Crosses.l1 : Nat → List (S37) → Int → List Int → Int → Int → Int → Option ((List (S37)) × Int × Int × Int)
  | 0, _, _, _, _, _, _ => none
  | k + 1, x3, x5, x1000, x1001, x1002, x1003 => (spec_l01Src_n.f x1000 x1001 x1002 x1003 3).bind fun bt329 => (if (x3.length : Int) < (wrap64 (199 + bt329.1)) then ((spec_l01Dec.f k (wrap64 (1000 + x5))).bind fun t333 => (if 1 + t333.size ≤ 9223372036854775807 then ((spec_l01Dec.f k x5).bind fun t334 => (if 1 + t334.size ≤ 9223372036854775807 then (if x3.length < 2932031007402 then (spec_l01Src_l08Crosses.l1 k (x3 ++ [(⟨(⟨#[65]⟩ : ByteArray), (⟨#[78]⟩ : ByteArray) ++ t333, (⟨#[77]⟩ : ByteArray) ++ t334⟩ : S37)]) (wrap64 (x5 + 1)) x1000 bt329.2.1 bt329.2.2.1 bt329.2.2.2) else (none)) else (none))) else (none))) else (some (x3, bt329.2.1, bt329.2.2.1, bt329.2.2.2)))
end
def spec_l01Src_l08Crosses.f (k : Nat) (s0_0 : List Int) (s0_1 : Int) (s0_2 : Int) (s0_3 : Int) : Option ((List (S37)) × Int × Int × Int) := (spec_l01Src_n.f s0_0 s0_1 s0_2 s0_3 6).bind fun bt290 => (spec_l01Src_l08Crosses.l0 k (([] : List (S37))) bt290.1 s0_0 bt290.2.1 bt290.2.2.1 bt290.2.2.2)
theorem spec_l01Src_l08Crosses.mono_l : ∀ k, (∀ y0 y1 y2 y3 y4 y5, LeO (spec_l01Src_l08Crosses.l0 k y0 y1 y2 y3 y4 y5) (spec_l01Src_l08Crosses.l0 (k + 1) y0 y1 y2 y3 y4 y5)) ∧ (∀ y0 y1 y2 y3 y4, LeO (spec_l01Src_l08Crosses.j1 k y0 y1 y2 y3 y4) (spec_l01Src_l08Crosses.j1 (k + 1) y0 y1 y2 y3 y4)) ∧ (∀ y0 y1 y2 y3 y4 y5, LeO (spec_l01Src_l08Crosses.l1 k y0 y1 y2 y3 y4 y5) (spec_l01Src_l08Crosses.l1 (k + 1) y0 y1 y2 y3 y4 y5))
  | 0 => ⟨fun _ _ _ _ _ _ r h => by simp [spec_l01Src_l08Crosses.l0] at h, fun _ _ _ _ _ r h => by simp [spec_l01Src_l08Crosses.j1] at h, fun _ _ _ _ _ _ r h => by simp [spec_l01Src_l08Crosses.l1] at h⟩
  | k + 1 => by
    obtain ⟨ih0, ih1, ih2⟩ := spec_l01Src_l08Crosses.mono_l k
    refine ⟨?_, ?_, ?_⟩
    · intro y0 y1 y2 y3 y4 y5
      unfold spec_l01Src_l08Crosses.l0
      repeat' first
      | (with_reducible exact ih0 _ _ _ _ _ _)
      | (with_reducible exact ih1 _ _ _ _ _)
      | (with_reducible exact ih2 _ _ _ _ _ _)
      | (with_reducible exact spec_CrossPut.mono _ _ _ _ _)
      | (with_reducible exact spec_l01Dec.mono _ _)
      | (with_reducible exact LeO.refl _)
      | (with_reducible exact LeO.none _)
      | (with_reducible refine LeO.ite ?_ ?_)
      | (with_reducible refine LeO.bind ?_ (fun _ => ?_))
      | exact ih0 _ _ _ _ _ _
      | exact ih1 _ _ _ _ _
      | exact ih2 _ _ _ _ _ _
      | exact spec_CrossPut.mono _ _ _ _ _
      | exact spec_l01Dec.mono _ _
      | exact LeO.none _
      | refine LeO.ite ?_ ?_
      | refine LeO.bind ?_ (fun _ => ?_)
    · intro y0 y1 y2 y3 y4
      unfold spec_l01Src_l08Crosses.j1
      repeat' first
      | (with_reducible exact ih0 _ _ _ _ _ _)
      | (with_reducible exact ih1 _ _ _ _ _)
      | (with_reducible exact ih2 _ _ _ _ _ _)
      | (with_reducible exact spec_CrossPut.mono _ _ _ _ _)
      | (with_reducible exact spec_l01Dec.mono _ _)
      | (with_reducible exact LeO.refl _)
      | (with_reducible exact LeO.none _)
      | (with_reducible refine LeO.ite ?_ ?_)
      | (with_reducible refine LeO.bind ?_ (fun _ => ?_))
      | exact ih0 _ _ _ _ _ _
      | exact ih1 _ _ _ _ _
      | exact ih2 _ _ _ _ _ _
      | exact spec_CrossPut.mono _ _ _ _ _
      | exact spec_l01Dec.mono _ _
      | exact LeO.none _
      | refine LeO.ite ?_ ?_
      | refine LeO.bind ?_ (fun _ => ?_)
    · intro y0 y1 y2 y3 y4 y5
      unfold spec_l01Src_l08Crosses.l1
      repeat' first
      | (with_reducible exact ih0 _ _ _ _ _ _)
      | (with_reducible exact ih1 _ _ _ _ _)
      | (with_reducible exact ih2 _ _ _ _ _ _)
      | (with_reducible exact spec_CrossPut.mono _ _ _ _ _)
      | (with_reducible exact spec_l01Dec.mono _ _)
      | (with_reducible exact LeO.refl _)
      | (with_reducible exact LeO.none _)
      | (with_reducible refine LeO.ite ?_ ?_)
      | (with_reducible refine LeO.bind ?_ (fun _ => ?_))
      | exact ih0 _ _ _ _ _ _
      | exact ih1 _ _ _ _ _
      | exact ih2 _ _ _ _ _ _
      | exact spec_CrossPut.mono _ _ _ _ _
      | exact spec_l01Dec.mono _ _
      | exact LeO.none _
      | refine LeO.ite ?_ ?_
      | refine LeO.bind ?_ (fun _ => ?_)
theorem spec_l01Src_l08Crosses.mono : ∀ a0 a1 a2 a3 k, LeO (spec_l01Src_l08Crosses.f k a0 a1 a2 a3) (spec_l01Src_l08Crosses.f (k + 1) a0 a1 a2 a3) := by
  intro a0 a1 a2 a3 k
  obtain ⟨ih0, ih1, ih2⟩ := spec_l01Src_l08Crosses.mono_l k
  unfold spec_l01Src_l08Crosses.f
  repeat' first
      | (with_reducible exact ih0 _ _ _ _ _ _)
      | (with_reducible exact ih1 _ _ _ _ _)
      | (with_reducible exact ih2 _ _ _ _ _ _)
      | (with_reducible exact spec_CrossPut.mono _ _ _ _ _)
      | (with_reducible exact spec_l01Dec.mono _ _)
      | (with_reducible exact LeO.refl _)
      | (with_reducible exact LeO.none _)
      | (with_reducible refine LeO.ite ?_ ?_)
      | (with_reducible refine LeO.bind ?_ (fun _ => ?_))
      | exact ih0 _ _ _ _ _ _
      | exact ih1 _ _ _ _ _
      | exact ih2 _ _ _ _ _ _
      | exact spec_CrossPut.mono _ _ _ _ _
      | exact spec_l01Dec.mono _ _
      | exact LeO.none _
      | refine LeO.ite ?_ ?_
      | refine LeO.bind ?_ (fun _ => ?_)
set_option maxHeartbeats 8000000 in
set_option maxRecDepth 100000 in
theorem spec_l01Src_l08Crosses.calls (k : Nat) (g : Nat) (s0_0 : List Int) (s0_1 : Int) (s0_2 : Int) (s0_3 : Int) (r1 : List (S37)) (r2 : Int) (r3 : Int) (r4 : Int) (w0 w : World) (hI : IsS116 w0 w g s0_0 s0_1 s0_2 s0_3) (hB : Below w0.heap.size w0 w) (h : spec_l01Src_l08Crosses.f k s0_0 s0_1 s0_2 s0_3 = some (r1, r2, r3, r4)) :
    Calls Try.prog 72 #[.pointer (some ⟨g, 0, none⟩)] w fun e w' => ∃ v0_ : Value, e = .returned (v0_) ∧ Kd.R k37 37 w' w.heap.size (fun _ => True) v0_ r1 ∧ IsS116 w0 w' g s0_0 r2 r3 r4 ∧ Below w0.heap.size w0 w' ∧ KeepBut w w' g none := by
  have hu37 := Try.underlying37
  have HI0 := Aside0.mk hI
  have HK := Aside0.mk (KeepBut.refl w g none)
  have HL := Aside0.mk hB.size
  clear hI
  have HW0 := Aside0.mk hB.size
  have HB := Aside0.mk hB
  clear hB
  have H : ((spec_l01Src_n.f s0_0 s0_1 s0_2 s0_3 6).bind fun bt290 => (spec_l01Src_l08Crosses.l0 k (([] : List (S37))) bt290.1 s0_0 bt290.2.1 bt290.2.2.1 bt290.2.2.2)) = some (r1, r2, r3, r4) := h
  clear h
  obtain ⟨y287, hy287⟩ : ∃ y_ : List (S37), y_ = (([] : List (S37))) := ⟨_, rfl⟩
  replace H : ((spec_l01Src_n.f s0_0 s0_1 s0_2 s0_3 6).bind fun bt290 => (spec_l01Src_l08Crosses.l0 k y287 bt290.1 s0_0 bt290.2.1 bt290.2.2.1 bt290.2.2.2)) = some (r1, r2, r3, r4) := by first | (rw [hy287]; with_reducible exact H) | (have H2_ := (Option.bind_some _ _).symm.trans H; rw [hy287]; with_reducible exact H2_) | (have H2_ := (Option.bind_some _ _).symm.trans H; with_reducible exact H2_) | with_reducible exact H | (rw [hy287]; exact H) | exact H
  have Ny287 := Aside0.mk hy287
  clear hy287
  replace H := Option.bind_eq_some_iff.mp H
  obtain ⟨⟨t290, t291, t292, t293⟩, A20, H⟩ := H
  replace H : (spec_l01Src_l08Crosses.l0 k y287 t290 s0_0 t291 t292 t293) = some (r1, r2, r3, r4) := H
  have A2 := Aside0.mk A20
  clear A20
  have H' := Aside0.mk H
  clear H
  go_enter Try.func72, Try.ntmps72
  go_wp2_with (first | ((with_reducible refine gate_dst (N := 6) rfl ?_); refine Kd.R_lit k37 _ 37 ?hg (N := 6) ?hd (xs := ([] : List (S37))) (inner := []) (ok := fun _ => True) (okp := fun _ => True) ?hr ?hp (fun _ hk => hk) trivial (Below.refl _ _) (Nat.le_refl _) (by simp) ?_; (case hd => rfl); (case hg => rfl); (case hr => exact hr_); (case hp => exact (Reps.none _ _)); intro v288 w3 ho4 hb hg_ hnew_; clear hg_ hnew_; (first | rw [← Ny287.out] at ho4 | (simp only [Int.reduceToNat] at ho4; rw [← Ny287.out] at ho4)); have n0_ := Aside0.mk (Kd.R_lower ho4 (keep_size (w := w) (g := g) (row := none) au13_0)); have n1_ := Aside0.mk (IsS116.below au13_1 hb); have n2_ := Aside0.mk (KeepBut.trans au13_0 (KeepBut.of_below hb g none) (.inl rfl)); have n3_ := Aside0.mk (below_step au13_4 hb); clear HI0; clear HK; clear HB; have HO289 := n0_; have HI0 := n1_; have HK := n2_; have HB := n3_; clear n0_ n1_ n2_ n3_; clear hb ho4) | ((with_reducible refine gate_callee (f := 101) rfl ?_); refine gl_ 8 Try.func101 #[.pointer (some ⟨g, 0, none⟩), .int .i64 6] ?_ rfl rfl rfl rfl; (with_reducible refine (spec_l01Src_n.calls g s0_0 s0_1 s0_2 s0_3 6 t290 t291 t292 t293 w0 _ ?side1 ?side2 A2.out).mono ?_); (case side1 => exact au13_3); (case side2 => exact au13_6); rintro e w5 ⟨rfl, hi, hb, hk⟩; refine ⟨_, rfl, ?_⟩; have n0_ := Aside0.mk (Kd.R_mono (Kd.R_keep (IsS116.apart (show IsS116 w0 _ g s0_0 s0_1 s0_2 s0_3 from by repeat (first | (with_reducible first | exact HI0.out | apply IsS116.alloc | apply IsS116.drewN | apply IsS116.drew | apply IsS116.set_1 | apply IsS116.set_2 | apply IsS116.set_3) | exact HI0.out)) (rk_ HO289) (by decide)) hk (fun _ h => h.2)) (fun _ h => h.1)); have n1_ := Aside0.mk (KeepBut.trans au13_0 hk (.inl rfl)); have n2_ := Aside0.mk (hb); have n3_ := Aside0.mk (hi); clear HO289; clear HK; clear HB; clear HI0; have HO289 := n0_; have HK := n1_; have HB := n2_; have HI0 := n3_; clear n0_ n1_ n2_ n3_; (try clear hb); (try clear hb2); (try clear hk); (try clear hi)))
  go_loopg [3, 4] k (fun kq v3 v4 w' => ∃ (x3_1 : List (S37)) (x4_1 : Int) (x1001_1 : Int) (x1002_1 : Int) (x1003_1 : Int), v4 = .int .i64 x4_1 ∧ Aside0 (spec_l01Src_l08Crosses.l0 kq x3_1 x4_1 s0_0 x1001_1 x1002_1 x1003_1 = some (r1, r2, r3, r4)) ∧ Aside0 (kq ≤ k) ∧ Aside0 (Kd.R k37 37 w' w.heap.size (fun _ => True) v3 x3_1) ∧ Aside0 (IsS116 w0 w' g s0_0 x1001_1 x1002_1 x1003_1) ∧ Aside0 (KeepBut w w' g none) ∧ Aside0 (Below w0.heap.size w0 w'))
  case atStart => exact ⟨(y287), (t290), (t291), (t292), (t293), er_, H', ⟨Nat.le_refl _⟩, ⟨rk_ HO289⟩, ⟨au13_2⟩, ⟨au13_9⟩, ⟨au13_5⟩⟩
  case round =>
    clear H'
    try clear c1
    try clear p2
    obtain ⟨x3_1, x4_1, x1001_1, x1002_1, x1003_1, rfl, HA, HK1, HO_3, HI0, HK, HB⟩ := hrel
    cases gk with
    | zero => exact absurd HA.out (by simp [spec_l01Src_l08Crosses.l0])
    | succ k1 =>
      have H := HA.out
      clear HA
      simp only [spec_l01Src_l08Crosses.l0] at H
      by_cases c6 : x4_1 > 0
      · rw [if_pos c6] at H
        have c6b0 : decide (0 < x4_1) = true := decide_eq_true c6
        clear c6
        replace H := Option.bind_eq_some_iff.mp H
        obtain ⟨⟨t294, t295, t296, t297, t298, t299⟩, A70, H⟩ := H
        replace H : ((spec_CrossPut.f k1 x3_1 t294 t295 t296).bind fun t300 => (spec_l01Src_l08Crosses.l0 k1 t300 (wrap64 (x4_1 - 1)) s0_0 t297 t298 t299)) = some (r1, r2, r3, r4) := H
        have A7 := Aside0.mk A70
        clear A70
        replace H := Option.bind_eq_some_iff.mp H
        obtain ⟨t300, A80, H⟩ := H
        replace H : (spec_l01Src_l08Crosses.l0 k1 t300 (wrap64 (x4_1 - 1)) s0_0 t297 t298 t299) = some (r1, r2, r3, r4) := H
        have A8 := Aside0.mk A80
        clear A80
        have H' := Aside0.mk H
        clear H
        go_wp2_with (first | ((with_reducible refine gate_callee (f := 73) rfl ?_); refine gl_ 15 Try.func73 #[.pointer (some ⟨g, 0, none⟩)] ?_ rfl rfl rfl rfl; (with_reducible refine (spec_l01Src_l08Cross.calls g s0_0 x1001_1 x1002_1 x1003_1 t294 t295 t296 t297 t298 t299 w0 _ ?side1 ?side2 A7.out).mono ?_); (case side1 => exact au13_3); (case side2 => exact au13_6); rintro e w9 ⟨rfl, hi, hb, hk⟩; refine ⟨_, rfl, ?_⟩; have n0_ := Aside0.mk (Kd.R_mono (Kd.R_keep (IsS116.apart (show IsS116 w0 _ g s0_0 x1001_1 x1002_1 x1003_1 from by repeat (first | (with_reducible first | exact HI0.out | apply IsS116.alloc | apply IsS116.drewN | apply IsS116.drew | apply IsS116.set_1 | apply IsS116.set_2 | apply IsS116.set_3) | exact HI0.out)) (rk_ HO_3) (by decide)) hk (fun _ h => h.2)) (fun _ h => h.1)); have n1_ := Aside0.mk (KeepBut.trans au13_0 hk (.inl rfl)); have n2_ := Aside0.mk (hb); have n3_ := Aside0.mk (hi); clear HO_3; clear HK; clear HB; clear HI0; have HO_3 := n0_; have HK := n1_; have HB := n2_; have HI0 := n3_; clear n0_ n1_ n2_ n3_; (try clear hb); (try clear hb2); (try clear hk); (try clear hi); obtain ⟨Ao10, co10, eo10⟩ := Kd.R_slice HO_3.out; subst eo10) | ((with_reducible refine gate_callee (f := 28) rfl ?_); refine gl_ 16 Try.func28 #[.slice Ao10 x3_1.length co10, .agg #[.string t294, .string t295, .string t296]] ?_ rfl rfl rfl rfl; (with_reducible refine (spec_CrossPut.calls k1 _ _ x3_1 t294 t295 t296 t300 _ ?side1 ?side2 A8.out).mono ?_); (case side1 => exact au13_26); (case side2 => exact (Kd.R_reads' HO_3.out).2.1); rintro e w11 ⟨v301, rfl, ho0, hb⟩; refine ⟨_, rfl, ?_⟩; have n0_ := Aside0.mk (Kd.R_elder' (rk_ HO_3) (Kd.R_base ho0) hb); have n1_ := Aside0.mk (Kd.R_lower (Kd.R_new' ho0 (Kd.R_lt (rk_ HO_3))) (keep_size (w := w) (g := g) (row := none) au13_0)); have n2_ := Aside0.mk (IsS116.below au13_1 hb); have n3_ := Aside0.mk (KeepBut.trans au13_0 (KeepBut.of_below hb g none) (.inl rfl)); have n4_ := Aside0.mk (below_step au13_4 hb); clear HO_3; clear HI0; clear HK; clear HB; have HO_3 := n0_; have HO302 := n1_; have HI0 := n2_; have HK := n3_; have HB := n4_; clear n0_ n1_ n2_ n3_ n4_; (try clear hb); (try clear hb2); (try clear hk); (try clear hi); (try clear ho0)))
        go_roundg k1
        case measure => have := HK1.out; omega
        case rel => exact ⟨(t300), (wrap64 (x4_1 - 1)), (t297), (t298), (t299), er_, H', ⟨by have := HK1.out; omega⟩, ⟨by (with_reducible repeat (first | apply Kd.R_alloc | apply Kd.R_drewN | apply Kd.R_drew)); exact Kd.R_mono HO302.out (fun _ hk => trivial)⟩, ⟨au13_2⟩, ⟨au13_9⟩, ⟨au13_5⟩⟩
      · rw [if_neg c6] at H
        have c6b0 : decide (0 < x4_1) = false := decide_eq_false c6
        clear c6
        replace H := Option.bind_eq_some_iff.mp H
        obtain ⟨⟨t303, t304, t305, t306⟩, A120, H⟩ := H
        replace H : (if t303 = true then ((some (([] : List (S37)) : List (S37))).bind fun y307 => (if y307.length + x3_1.length < 2932031007402 then ((some (y307 ++ x3_1 : List (S37))).bind fun y310 => ((spec_l01Src_l08Cross.f s0_0 t304 t305 t306).bind fun bt313 => (if y310.length < 2932031007402 then (spec_l01Src_l08Crosses.j1 k1 (y310 ++ [(⟨bt313.1, bt313.2.1, bt313.2.2.1⟩ : S37)]) s0_0 bt313.2.2.2.1 bt313.2.2.2.2.1 bt313.2.2.2.2.2) else (none)))) else (none))) else (spec_l01Src_l08Crosses.j1 k1 x3_1 s0_0 t304 t305 t306)) = some (r1, r2, r3, r4) := H
        have A12 := Aside0.mk A120
        clear A120
        have HC13 := Aside0.mk H
        clear H
        go_upto_if 18 with (first | ((with_reducible refine gate_callee (f := 74) rfl ?_); refine gl_ 18 Try.func74 #[.pointer (some ⟨g, 0, none⟩), .int .i64 12] ?_ rfl rfl rfl rfl; (with_reducible refine (spec_l01Src_one.calls g s0_0 x1001_1 x1002_1 x1003_1 12 t303 t304 t305 t306 w0 _ ?side1 ?side2 A12.out).mono ?_); (case side1 => exact au13_3); (case side2 => exact au13_6); rintro e w14 ⟨rfl, hi, hb, hk⟩; refine ⟨_, rfl, ?_⟩; have n0_ := Aside0.mk (Kd.R_mono (Kd.R_keep (IsS116.apart (show IsS116 w0 _ g s0_0 x1001_1 x1002_1 x1003_1 from by repeat (first | (with_reducible first | exact HI0.out | apply IsS116.alloc | apply IsS116.drewN | apply IsS116.drew | apply IsS116.set_1 | apply IsS116.set_2 | apply IsS116.set_3) | exact HI0.out)) (rk_ HO_3) (by decide)) hk (fun _ h => h.2)) (fun _ h => h.1)); have n1_ := Aside0.mk (KeepBut.trans au13_0 hk (.inl rfl)); have n2_ := Aside0.mk (hb); have n3_ := Aside0.mk (hi); clear HO_3; clear HK; clear HB; clear HI0; have HO_3 := n0_; have HK := n1_; have HB := n2_; have HI0 := n3_; clear n0_ n1_ n2_ n3_; (try clear hb); (try clear hb2); (try clear hk); (try clear hi)))
        (try simp only [Act.put, List.setIfInBounds_toArray, List.set_cons_zero, List.set_cons_succ])
        go_cut [3] (fun v3 wc => ∃ (kq : Nat) (x3_12 : List (S37)) (x1001_12 : Int) (x1002_12 : Int) (x1003_12 : Int), Aside0 (spec_l01Src_l08Crosses.j1 kq x3_12 s0_0 x1001_12 x1002_12 x1003_12 = some (r1, r2, r3, r4)) ∧ Aside0 (kq ≤ k1) ∧ Aside0 (Kd.R k37 37 wc w.heap.size (fun _ => True) v3 x3_12) ∧ Aside0 (IsS116 w0 wc g s0_0 x1001_12 x1002_12 x1003_12) ∧ Aside0 (KeepBut w wc g none) ∧ Aside0 (Below w0.heap.size w0 wc))
        case first =>
          have H := HC13.out
          clear HC13
          by_cases c15 : t303 = true
          · subst c15
            have H1 : ((some (([] : List (S37)) : List (S37))).bind fun y307 => (if y307.length + x3_1.length < 2932031007402 then ((some (y307 ++ x3_1 : List (S37))).bind fun y310 => ((spec_l01Src_l08Cross.f s0_0 t304 t305 t306).bind fun bt313 => (if y310.length < 2932031007402 then (spec_l01Src_l08Crosses.j1 k1 (y310 ++ [(⟨bt313.1, bt313.2.1, bt313.2.2.1⟩ : S37)]) s0_0 bt313.2.2.2.1 bt313.2.2.2.2.1 bt313.2.2.2.2.2) else (none)))) else (none))) = some (r1, r2, r3, r4) := by rw [if_pos rfl] at H; exact H
            clear H
            have H := H1
            clear H1
            obtain ⟨y307, hy307⟩ : ∃ y_ : List (S37), y_ = (([] : List (S37))) := ⟨_, rfl⟩
            replace H : (if y307.length + x3_1.length < 2932031007402 then ((some (y307 ++ x3_1 : List (S37))).bind fun y310 => ((spec_l01Src_l08Cross.f s0_0 t304 t305 t306).bind fun bt313 => (if y310.length < 2932031007402 then (spec_l01Src_l08Crosses.j1 k1 (y310 ++ [(⟨bt313.1, bt313.2.1, bt313.2.2.1⟩ : S37)]) s0_0 bt313.2.2.2.1 bt313.2.2.2.2.1 bt313.2.2.2.2.2) else (none)))) else (none)) = some (r1, r2, r3, r4) := by first | (rw [hy307]; with_reducible exact H) | (have H2_ := (Option.bind_some _ _).symm.trans H; rw [hy307]; with_reducible exact H2_) | (have H2_ := (Option.bind_some _ _).symm.trans H; with_reducible exact H2_) | with_reducible exact H | (rw [hy307]; exact H) | exact H
            have Ny307 := Aside0.mk hy307
            clear hy307
            by_cases c16 : y307.length + x3_1.length < 2932031007402
            · rw [if_pos c16] at H
              have LMc16 := Aside0.mk c16
              clear c16
              obtain ⟨y310, hy310⟩ : ∃ y_ : List (S37), y_ = (y307 ++ x3_1) := ⟨_, rfl⟩
              replace H : ((spec_l01Src_l08Cross.f s0_0 t304 t305 t306).bind fun bt313 => (if y310.length < 2932031007402 then (spec_l01Src_l08Crosses.j1 k1 (y310 ++ [(⟨bt313.1, bt313.2.1, bt313.2.2.1⟩ : S37)]) s0_0 bt313.2.2.2.1 bt313.2.2.2.2.1 bt313.2.2.2.2.2) else (none))) = some (r1, r2, r3, r4) := by first | (rw [hy310]; with_reducible exact H) | (have H2_ := (Option.bind_some _ _).symm.trans H; rw [hy310]; with_reducible exact H2_) | (have H2_ := (Option.bind_some _ _).symm.trans H; with_reducible exact H2_) | with_reducible exact H | (rw [hy310]; exact H) | exact H
              have Ny310 := Aside0.mk hy310
              clear hy310
              replace H := Option.bind_eq_some_iff.mp H
              obtain ⟨⟨t313, t314, t315, t316, t317, t318⟩, A170, H⟩ := H
              replace H : (if y310.length < 2932031007402 then (spec_l01Src_l08Crosses.j1 k1 (y310 ++ [(⟨t313, t314, t315⟩ : S37)]) s0_0 t316 t317 t318) else (none)) = some (r1, r2, r3, r4) := H
              have A17 := Aside0.mk A170
              clear A170
              by_cases c18 : y310.length < 2932031007402
              · rw [if_pos c18] at H
                have LMc18 := Aside0.mk c18
                clear c18
                obtain ⟨y319, hy319⟩ : ∃ y_ : List (S37), y_ = (y310 ++ [(⟨t313, t314, t315⟩ : S37)]) := ⟨_, rfl⟩
                replace H : (spec_l01Src_l08Crosses.j1 k1 y319 s0_0 t316 t317 t318) = some (r1, r2, r3, r4) := by first | (rw [hy319]; with_reducible exact H) | (have H2_ := (Option.bind_some _ _).symm.trans H; rw [hy319]; with_reducible exact H2_) | (have H2_ := (Option.bind_some _ _).symm.trans H; with_reducible exact H2_) | with_reducible exact H | (rw [hy319]; exact H) | exact H
                have Ny319 := Aside0.mk hy319
                clear hy319
                have H' := Aside0.mk H
                clear H
                go_wp2_with (first | ((with_reducible refine gate_dst (N := 19) rfl ?_); refine Kd.R_lit k37 _ 37 ?hg (N := 19) ?hd (xs := ([] : List (S37))) (inner := []) (ok := fun _ => True) (okp := fun _ => True) ?hr ?hp (fun _ hk => hk) trivial (Below.refl _ _) (Nat.le_refl _) (by simp) ?_; (case hd => rfl); (case hg => rfl); (case hr => exact hr_); (case hp => exact (Reps.none _ _)); intro v308 w19 ho20 hb hg_ hnew_; clear hg_ hnew_; (first | rw [← Ny307.out] at ho20 | (simp only [Int.reduceToNat] at ho20; rw [← Ny307.out] at ho20)); have n0_ := Aside0.mk (Kd.R_elder' (rk_ HO_3) (Kd.R_base ho20) hb); have n1_ := Aside0.mk (Kd.R_lower (Kd.R_new' ho20 (Kd.R_lt (rk_ HO_3))) (keep_size (w := w) (g := g) (row := none) au13_0)); have n2_ := Aside0.mk (IsS116.below au13_1 hb); have n3_ := Aside0.mk (KeepBut.trans au13_0 (KeepBut.of_below hb g none) (.inl rfl)); have n4_ := Aside0.mk (below_step au13_4 hb); clear HO_3; clear HI0; clear HK; clear HB; have HO_3 := n0_; have HO309 := n1_; have HI0 := n2_; have HK := n3_; have HB := n4_; clear n0_ n1_ n2_ n3_ n4_; clear hb ho20; obtain ⟨Ao22, co22, eo22⟩ := Kd.R_slice HO_3.out; subst eo22) | ((with_reducible refine gate_builtin (b := .append) (xs := #[.tmp 19, .tmp 20]) rfl ?_); at_builtin; refine Kd.R_append_rows k37 w.heap.size rfl (.tmp 19) (.tmp 20) 25 37 (.agg #[(.string ⟨#[]⟩), (.string ⟨#[]⟩), (.string ⟨#[]⟩)]) 48 rfl Try.underlying25 info37 rfl (by decide) (by omega) v308 y307 x3_1 _ _ _ (fun k_ => some k_ ≠ (.slice Ao22 x3_1.length co22 : Value).ownBlock) (fun _ => False) rfl rfl ?aO ?aR (fun _ _ h => h) (fun _ h => h.elim) ?aF (Below.refl _ _) ?aS ?aL ?_; (case aR => exact au13_26); (case aF => exact (fun k_ hk => Kd.fresh' (Kd.R_lt (rk_ HO_3)) k_ hk)); (case aO => exact (by (with_reducible repeat (first | apply Kd.R_alloc | apply Kd.R_drewN | apply Kd.R_drew)); exact Kd.R_mono HO309.out (fun _ hk => hk.2))); (case aS => exact au13_28); (case aL => have := LMc16.out; omega); intro v311 w21 ho hb hg hat; rw [← Ny310.out] at ho; have n0_ := Aside0.mk (Kd.R_after (ok := (fun _ => True)) (rk_ HO_3) hg hat); have n1_ := Aside0.mk (IsS116.grown au13_1 hg (IsS116.own_ne HI0.out HO309.out (by decide))); have n2_ := Aside0.mk (below_weaken au13_4 HL.out hb); have n3_ := Aside0.mk (KeepBut.trans au13_0 (KeepBut.of_grown hg g) (Kd.R_base2 HO309.out)); have n4_ := Aside0.mk (ho); clear HO_3; clear HI0; clear HB; clear HK; clear HO309; have HO_3 := n0_; have HI0 := n1_; have HB := n2_; have HK := n3_; have HO312 := n4_; clear n0_ n1_ n2_ n3_ n4_; clear ho hb hg hat) | ((with_reducible refine gate_callee (f := 73) rfl ?_); refine gl_ 23 Try.func73 #[.pointer (some ⟨g, 0, none⟩)] ?_ rfl rfl rfl rfl; (with_reducible refine (spec_l01Src_l08Cross.calls g s0_0 t304 t305 t306 t313 t314 t315 t316 t317 t318 w0 _ ?side1 ?side2 A17.out).mono ?_); (case side1 => exact au13_3); (case side2 => exact au13_6); rintro e w23 ⟨rfl, hi, hb, hk⟩; refine ⟨_, rfl, ?_⟩; have n0_ := Aside0.mk (Kd.R_mono (Kd.R_keep (IsS116.apart (show IsS116 w0 _ g s0_0 t304 t305 t306 from by repeat (first | (with_reducible first | exact HI0.out | apply IsS116.alloc | apply IsS116.drewN | apply IsS116.drew | apply IsS116.set_1 | apply IsS116.set_2 | apply IsS116.set_3) | exact HI0.out)) (rk_ HO_3) (by decide)) hk (fun _ h => h.2)) (fun _ h => h.1)); have n1_ := Aside0.mk (Kd.R_mono (Kd.R_keep (IsS116.apart (show IsS116 w0 _ g s0_0 t304 t305 t306 from by repeat (first | (with_reducible first | exact HI0.out | apply IsS116.alloc | apply IsS116.drewN | apply IsS116.drew | apply IsS116.set_1 | apply IsS116.set_2 | apply IsS116.set_3) | exact HI0.out)) (rk_ HO312) (by decide)) hk (fun _ h => h.2)) (fun _ h => h.1)); have n2_ := Aside0.mk (KeepBut.trans au13_0 hk (.inl rfl)); have n3_ := Aside0.mk (hb); have n4_ := Aside0.mk (hi); clear HO_3; clear HO312; clear HK; clear HB; clear HI0; have HO_3 := n0_; have HO312 := n1_; have HK := n2_; have HB := n3_; have HI0 := n4_; clear n0_ n1_ n2_ n3_ n4_; (try clear hb); (try clear hb2); (try clear hk); (try clear hi)) | ((with_reducible refine gate_builtin (b := .append) (xs := #[.tmp 21, .tmp 24]) rfl ?_); at_builtin; refine Kd.R_append k37 w.heap.size rfl (.tmp 21) (.tmp 24) 25 37 (.agg #[(.string ⟨#[]⟩), (.string ⟨#[]⟩), (.string ⟨#[]⟩)]) 48 rfl Try.underlying25 info37 rfl (by decide) (by omega) v311 y310 (⟨t313, t314, t315⟩ : S37) [.string t313, .string t314, .string t315] (fun k_ => some k_ ≠ (.slice Ao22 x3_1.length co22 : Value).ownBlock) (fun _ => False) rfl rfl ?aP (fun _ hk => hk.elim) ?aF ?aO (Below.refl _ _) ?aS ?aL ?_; (case aP => exact k37_mkM _ _ _ (⟨t313, t314, t315⟩ : S37)); (case aF => exact (fun k_ hk => Kd.fresh' (Kd.R_lt (rk_ HO_3)) k_ hk)); (case aO => exact (rk_ HO312)); (case aS => exact au13_28); (case aL => have := LMc18.out; omega); intro v320 w24 ho hb hg hat; rw [← Ny319.out] at ho; have n0_ := Aside0.mk (Kd.R_after (ok := (fun _ => True)) (rk_ HO_3) hg hat); have n1_ := Aside0.mk (IsS116.grown au13_1 hg (IsS116.own_ne HI0.out HO312.out (by decide))); have n2_ := Aside0.mk (below_weaken au13_4 HL.out hb); have n3_ := Aside0.mk (KeepBut.trans au13_0 (KeepBut.of_grown hg g) (Kd.R_base2 HO312.out)); have n4_ := Aside0.mk (ho); clear HO_3; clear HI0; clear HB; clear HK; clear HO312; have HO_3 := n0_; have HI0 := n1_; have HB := n2_; have HK := n3_; have HO321 := n4_; clear n0_ n1_ n2_ n3_ n4_; clear ho hb hg hat))
                go_meet
                case rel => exact ⟨_, (y319), (t316), (t317), (t318), H', ⟨by have := HK1.out; first | omega | exact Nat.le_refl _⟩, ⟨by (with_reducible repeat (first | apply Kd.R_alloc | apply Kd.R_drewN | apply Kd.R_drew)); exact Kd.R_mono HO321.out (fun _ hk => trivial)⟩, ⟨au13_2⟩, ⟨au13_9⟩, ⟨au13_5⟩⟩
              · rw [if_neg c18] at H
                exact absurd H (by simp)
            · rw [if_neg c16] at H
              exact absurd H (by simp)
          · replace c15 := Bool.eq_false_iff.mpr c15
            subst c15
            have H1 : (spec_l01Src_l08Crosses.j1 k1 x3_1 s0_0 t304 t305 t306) = some (r1, r2, r3, r4) := by rw [if_neg (show ¬ (false = true) by decide)] at H; exact H
            clear H
            have H := H1
            clear H1
            have H' := Aside0.mk H
            clear H
            go_wp2
            go_meet
            case rel => exact ⟨_, (x3_1), (t304), (t305), (t306), H', ⟨by have := HK1.out; first | omega | exact Nat.le_refl _⟩, ⟨rk_ HO_3⟩, ⟨au13_2⟩, ⟨au13_9⟩, ⟨au13_5⟩⟩
        case rest =>
          clear HC13
          try clear c1
          try clear c2
          try clear p2
          try clear c6
          try clear c6b0
          try clear p6
          try clear c7
          try clear c10
          try clear c15
          try clear c16
          try clear c18
          try clear p2
          obtain ⟨kq, x3_12, x1001_12, x1002_12, x1003_12, HA, HJ12, HO_3, HI0, HK, HB⟩ := hcut
          cases kq with
          | zero => exact absurd HA.out (by simp [spec_l01Src_l08Crosses.j1])
          | succ kj12 =>
            have H := HA.out
            clear HA
            simp only [spec_l01Src_l08Crosses.j1] at H
            replace H := Option.bind_eq_some_iff.mp H
            obtain ⟨⟨t322, t323, t324, t325⟩, A250, H⟩ := H
            replace H : (if t322 = true then (spec_l01Src_l08Crosses.l1 kj12 (([] : List (S37))) 0 s0_0 t323 t324 t325) else (some (x3_12, t323, t324, t325))) = some (r1, r2, r3, r4) := H
            have A25 := Aside0.mk A250
            clear A250
            by_cases c26 : t322 = true
            · subst c26
              have H1 : (spec_l01Src_l08Crosses.l1 kj12 (([] : List (S37))) 0 s0_0 t323 t324 t325) = some (r1, r2, r3, r4) := by rw [if_pos rfl] at H; exact H
              clear H
              have H := H1
              clear H1
              obtain ⟨y326, hy326⟩ : ∃ y_ : List (S37), y_ = (([] : List (S37))) := ⟨_, rfl⟩
              replace H : (spec_l01Src_l08Crosses.l1 kj12 y326 0 s0_0 t323 t324 t325) = some (r1, r2, r3, r4) := by first | (rw [hy326]; with_reducible exact H) | (have H2_ := (Option.bind_some _ _).symm.trans H; rw [hy326]; with_reducible exact H2_) | (have H2_ := (Option.bind_some _ _).symm.trans H; with_reducible exact H2_) | with_reducible exact H | (rw [hy326]; exact H) | exact H
              have Ny326 := Aside0.mk hy326
              clear hy326
              have H' := Aside0.mk H
              clear H
              go_wp2_with (first | ((with_reducible refine gate_callee (f := 74) rfl ?_); refine gl_ 27 Try.func74 #[.pointer (some ⟨g, 0, none⟩), .int .i64 40] ?_ rfl rfl rfl rfl; (with_reducible refine (spec_l01Src_one.calls g s0_0 x1001_12 x1002_12 x1003_12 40 true t323 t324 t325 w0 _ ?side1 ?side2 A25.out).mono ?_); (case side1 => exact au13_3); (case side2 => exact au13_6); rintro e w27 ⟨rfl, hi, hb, hk⟩; refine ⟨_, rfl, ?_⟩; have n0_ := Aside0.mk (Kd.R_mono (Kd.R_keep (IsS116.apart (show IsS116 w0 _ g s0_0 x1001_12 x1002_12 x1003_12 from by repeat (first | (with_reducible first | exact HI0.out | apply IsS116.alloc | apply IsS116.drewN | apply IsS116.drew | apply IsS116.set_1 | apply IsS116.set_2 | apply IsS116.set_3) | exact HI0.out)) (rk_ HO_3) (by decide)) hk (fun _ h => h.2)) (fun _ h => h.1)); have n1_ := Aside0.mk (KeepBut.trans au13_0 hk (.inl rfl)); have n2_ := Aside0.mk (hb); have n3_ := Aside0.mk (hi); clear HO_3; clear HK; clear HB; clear HI0; have HO_3 := n0_; have HK := n1_; have HB := n2_; have HI0 := n3_; clear n0_ n1_ n2_ n3_; (try clear hb); (try clear hb2); (try clear hk); (try clear hi)) | ((with_reducible refine gate_dst (N := 28) rfl ?_); refine Kd.R_lit k37 _ 37 ?hg (N := 28) ?hd (xs := ([] : List (S37))) (inner := []) (ok := fun _ => True) (okp := fun _ => True) ?hr ?hp (fun _ hk => hk) trivial (Below.refl _ _) (Nat.le_refl _) (by simp) ?_; (case hd => rfl); (case hg => rfl); (case hr => exact hr_); (case hp => exact (Reps.none _ _)); intro v327 w28 ho29 hb hg_ hnew_; clear hg_ hnew_; (first | rw [← Ny326.out] at ho29 | (simp only [Int.reduceToNat] at ho29; rw [← Ny326.out] at ho29)); have n0_ := Aside0.mk (Kd.R_elder' (rk_ HO_3) (Kd.R_base ho29) hb); have n1_ := Aside0.mk (Kd.R_lower (Kd.R_new' ho29 (Kd.R_lt (rk_ HO_3))) (keep_size (w := w) (g := g) (row := none) au13_0)); have n2_ := Aside0.mk (IsS116.below au13_1 hb); have n3_ := Aside0.mk (KeepBut.trans au13_0 (KeepBut.of_below hb g none) (.inl rfl)); have n4_ := Aside0.mk (below_step au13_4 hb); clear HO_3; clear HI0; clear HK; clear HB; have HO_3 := n0_; have HO328 := n1_; have HI0 := n2_; have HK := n3_; have HB := n4_; clear n0_ n1_ n2_ n3_ n4_; clear hb ho29))
              go_loopg [3, 5] kj12 (fun kq v3 v5 w' => ∃ (x3_3 : List (S37)) (x5_3 : Int) (x1001_3 : Int) (x1002_3 : Int) (x1003_3 : Int), v5 = .int .i64 x5_3 ∧ Aside0 (spec_l01Src_l08Crosses.l1 kq x3_3 x5_3 s0_0 x1001_3 x1002_3 x1003_3 = some (r1, r2, r3, r4)) ∧ Aside0 (kq ≤ kj12) ∧ Aside0 (Kd.R k37 37 w' w.heap.size (fun _ => True) v3 x3_3) ∧ Aside0 (IsS116 w0 w' g s0_0 x1001_3 x1002_3 x1003_3) ∧ Aside0 (KeepBut w w' g none) ∧ Aside0 (Below w0.heap.size w0 w'))
              case atStart => exact ⟨(y326), (0), (t323), (t324), (t325), er_, H', ⟨Nat.le_refl _⟩, ⟨by (with_reducible repeat (first | apply Kd.R_alloc | apply Kd.R_drewN | apply Kd.R_drew)); exact Kd.R_mono HO328.out (fun _ hk => trivial)⟩, ⟨au13_2⟩, ⟨au13_9⟩, ⟨au13_5⟩⟩
              case round =>
                clear H'
                try clear c1
                try clear c2
                try clear p2
                try clear c6
                try clear c6b0
                try clear p6
                try clear c7
                try clear c10
                try clear c15
                try clear c16
                try clear c18
                try clear c26
                try clear c28
                try clear p2
                try clear p6
                obtain ⟨x3_3, x5_3, x1001_3, x1002_3, x1003_3, rfl, HA, HK3, HO_3, HI0, HK, HB⟩ := hrel
                cases gk with
                | zero => exact absurd HA.out (by simp [spec_l01Src_l08Crosses.l1])
                | succ k3 =>
                  have H := HA.out
                  clear HA
                  simp only [spec_l01Src_l08Crosses.l1] at H
                  replace H := Option.bind_eq_some_iff.mp H
                  obtain ⟨⟨t329, t330, t331, t332⟩, A300, H⟩ := H
                  replace H : (if (x3_3.length : Int) < (wrap64 (199 + t329)) then ((spec_l01Dec.f k3 (wrap64 (1000 + x5_3))).bind fun t333 => (if 1 + t333.size ≤ 9223372036854775807 then ((spec_l01Dec.f k3 x5_3).bind fun t334 => (if 1 + t334.size ≤ 9223372036854775807 then (if x3_3.length < 2932031007402 then (spec_l01Src_l08Crosses.l1 k3 (x3_3 ++ [(⟨(⟨#[65]⟩ : ByteArray), (⟨#[78]⟩ : ByteArray) ++ t333, (⟨#[77]⟩ : ByteArray) ++ t334⟩ : S37)]) (wrap64 (x5_3 + 1)) s0_0 t330 t331 t332) else (none)) else (none))) else (none))) else (some (x3_3, t330, t331, t332))) = some (r1, r2, r3, r4) := H
                  have A30 := Aside0.mk A300
                  clear A300
                  by_cases c31 : (x3_3.length : Int) < (wrap64 (199 + t329))
                  · rw [if_pos c31] at H
                    have c31b0 : decide ((x3_3.length : Int) < (wrap64 (199 + t329))) = true := decide_eq_true c31
                    clear c31
                    replace H := Option.bind_eq_some_iff.mp H
                    obtain ⟨t333, A320, H⟩ := H
                    replace H : (if 1 + t333.size ≤ 9223372036854775807 then ((spec_l01Dec.f k3 x5_3).bind fun t334 => (if 1 + t334.size ≤ 9223372036854775807 then (if x3_3.length < 2932031007402 then (spec_l01Src_l08Crosses.l1 k3 (x3_3 ++ [(⟨(⟨#[65]⟩ : ByteArray), (⟨#[78]⟩ : ByteArray) ++ t333, (⟨#[77]⟩ : ByteArray) ++ t334⟩ : S37)]) (wrap64 (x5_3 + 1)) s0_0 t330 t331 t332) else (none)) else (none))) else (none)) = some (r1, r2, r3, r4) := H
                    have A32 := Aside0.mk A320
                    clear A320
                    by_cases c33 : 1 + t333.size ≤ 9223372036854775807
                    · rw [if_pos c33] at H
                      have c33b0 := eq_true c33
                      have c33b1 : decide (1 + t333.size ≤ 9223372036854775807) = true := decide_eq_true c33
                      try have c33b2 : (9223372036854775807 < 1 + t333.size) = False := eq_false (Nat.not_lt.2 c33)
                      replace H := Option.bind_eq_some_iff.mp H
                      obtain ⟨t334, A340, H⟩ := H
                      replace H : (if 1 + t334.size ≤ 9223372036854775807 then (if x3_3.length < 2932031007402 then (spec_l01Src_l08Crosses.l1 k3 (x3_3 ++ [(⟨(⟨#[65]⟩ : ByteArray), (⟨#[78]⟩ : ByteArray) ++ t333, (⟨#[77]⟩ : ByteArray) ++ t334⟩ : S37)]) (wrap64 (x5_3 + 1)) s0_0 t330 t331 t332) else (none)) else (none)) = some (r1, r2, r3, r4) := H
                      have A34 := Aside0.mk A340
                      clear A340
                      by_cases c35 : 1 + t334.size ≤ 9223372036854775807
                      · rw [if_pos c35] at H
                        have c35b0 := eq_true c35
                        have c35b1 : decide (1 + t334.size ≤ 9223372036854775807) = true := decide_eq_true c35
                        try have c35b2 : (9223372036854775807 < 1 + t334.size) = False := eq_false (Nat.not_lt.2 c35)
                        by_cases c36 : x3_3.length < 2932031007402
                        · rw [if_pos c36] at H
                          have LMc36 := Aside0.mk c36
                          clear c36
                          obtain ⟨y335, hy335⟩ : ∃ y_ : List (S37), y_ = (x3_3 ++ [(⟨(⟨#[65]⟩ : ByteArray), (⟨#[78]⟩ : ByteArray) ++ t333, (⟨#[77]⟩ : ByteArray) ++ t334⟩ : S37)]) := ⟨_, rfl⟩
                          replace H : (spec_l01Src_l08Crosses.l1 k3 y335 (wrap64 (x5_3 + 1)) s0_0 t330 t331 t332) = some (r1, r2, r3, r4) := by first | (rw [hy335]; with_reducible exact H) | (have H2_ := (Option.bind_some _ _).symm.trans H; rw [hy335]; with_reducible exact H2_) | (have H2_ := (Option.bind_some _ _).symm.trans H; with_reducible exact H2_) | with_reducible exact H | (rw [hy335]; exact H) | exact H
                          have Ny335 := Aside0.mk hy335
                          clear hy335
                          have H' := Aside0.mk H
                          clear H
                          obtain ⟨Ao37, co37, eo37⟩ := Kd.R_slice HO_3.out
                          subst eo37
                          go_wp2_with (first | ((with_reducible refine gate_callee (f := 101) rfl ?_); refine gl_ 32 Try.func101 #[.pointer (some ⟨g, 0, none⟩), .int .i64 3] ?_ rfl rfl rfl rfl; (with_reducible refine (spec_l01Src_n.calls g s0_0 x1001_3 x1002_3 x1003_3 3 t329 t330 t331 t332 w0 _ ?side1 ?side2 A30.out).mono ?_); (case side1 => exact au13_3); (case side2 => exact au13_6); rintro e w38 ⟨rfl, hi, hb, hk⟩; refine ⟨_, rfl, ?_⟩; have n0_ := Aside0.mk (Kd.R_mono (Kd.R_keep (IsS116.apart (show IsS116 w0 _ g s0_0 x1001_3 x1002_3 x1003_3 from by repeat (first | (with_reducible first | exact HI0.out | apply IsS116.alloc | apply IsS116.drewN | apply IsS116.drew | apply IsS116.set_1 | apply IsS116.set_2 | apply IsS116.set_3) | exact HI0.out)) (rk_ HO_3) (by decide)) hk (fun _ h => h.2)) (fun _ h => h.1)); have n1_ := Aside0.mk (KeepBut.trans au13_0 hk (.inl rfl)); have n2_ := Aside0.mk (hb); have n3_ := Aside0.mk (hi); clear HO_3; clear HK; clear HB; clear HI0; have HO_3 := n0_; have HK := n1_; have HB := n2_; have HI0 := n3_; clear n0_ n1_ n2_ n3_; (try clear hb); (try clear hb2); (try clear hk); (try clear hi)) | ((with_reducible refine gate_callee (f := 114) rfl ?_); refine gl_ 40 Try.func114 #[.int .i64 (wrap64 (1000 + x5_3))] ?_ rfl rfl rfl rfl; (with_reducible refine (spec_l01Dec.calls k3 (wrap64 (1000 + x5_3)) t333 _ A32.out).mono ?_); rintro e w39 ⟨rfl, hb⟩; refine ⟨_, rfl, ?_⟩; have n0_ := Aside0.mk (Kd.R_below (rk_ HO_3) hb); have n1_ := Aside0.mk (IsS116.below au13_1 hb); have n2_ := Aside0.mk (KeepBut.trans au13_0 (KeepBut.of_below hb g none) (.inl rfl)); have n3_ := Aside0.mk (below_step au13_4 hb); clear HO_3; clear HI0; clear HK; clear HB; have HO_3 := n0_; have HI0 := n1_; have HK := n2_; have HB := n3_; clear n0_ n1_ n2_ n3_; (try clear hb); (try clear hb2); (try clear hk); (try clear hi)) | ((with_reducible refine gate_callee (f := 114) rfl ?_); refine gl_ 43 Try.func114 #[.int .i64 x5_3] ?_ rfl rfl rfl rfl; (with_reducible refine (spec_l01Dec.calls k3 x5_3 t334 _ A34.out).mono ?_); rintro e w40 ⟨rfl, hb⟩; refine ⟨_, rfl, ?_⟩; have n0_ := Aside0.mk (Kd.R_below (rk_ HO_3) hb); have n1_ := Aside0.mk (IsS116.below au13_1 hb); have n2_ := Aside0.mk (KeepBut.trans au13_0 (KeepBut.of_below hb g none) (.inl rfl)); have n3_ := Aside0.mk (below_step au13_4 hb); clear HO_3; clear HI0; clear HK; clear HB; have HO_3 := n0_; have HI0 := n1_; have HK := n2_; have HB := n3_; clear n0_ n1_ n2_ n3_; (try clear hb); (try clear hb2); (try clear hk); (try clear hi)) | ((with_reducible refine gate_builtin (b := .append) (xs := #[.tmp 37, .tmp 46]) rfl ?_); at_builtin; refine Kd.R_append k37 w.heap.size rfl (.tmp 37) (.tmp 46) 25 37 (.agg #[(.string ⟨#[]⟩), (.string ⟨#[]⟩), (.string ⟨#[]⟩)]) 48 rfl Try.underlying25 info37 rfl (by decide) (by omega) (.slice Ao37 x3_3.length co37) x3_3 (⟨(⟨#[65]⟩ : ByteArray), (⟨#[78]⟩ : ByteArray) ++ t333, (⟨#[77]⟩ : ByteArray) ++ t334⟩ : S37) [.string (⟨#[65]⟩ : ByteArray), .string ((⟨#[78]⟩ : ByteArray) ++ t333), .string ((⟨#[77]⟩ : ByteArray) ++ t334)] (fun _ => True) (fun _ => False) rfl rfl ?aP (fun _ hk => hk.elim) ?aF ?aO (Below.refl _ _) ?aS ?aL ?_; (case aP => exact k37_mkM _ _ _ (⟨(⟨#[65]⟩ : ByteArray), (⟨#[78]⟩ : ByteArray) ++ t333, (⟨#[77]⟩ : ByteArray) ++ t334⟩ : S37)); (case aF => exact (fun _ _ => trivial)); (case aO => exact (rk_ HO_3)); (case aS => exact au13_28); (case aL => have := LMc36.out; omega); intro v336 w41 ho hb hg hat; rw [← Ny335.out] at ho; have n0_ := Aside0.mk (IsS116.grown au13_1 hg (IsS116.own_ne HI0.out HO_3.out (by decide))); have n1_ := Aside0.mk (below_weaken au13_4 HL.out hb); have n2_ := Aside0.mk (KeepBut.trans au13_0 (KeepBut.of_grown hg g) (Kd.R_base2 HO_3.out)); have n3_ := Aside0.mk (ho); clear HI0; clear HB; clear HK; clear HO_3; have HI0 := n0_; have HB := n1_; have HK := n2_; have HO337 := n3_; clear n0_ n1_ n2_ n3_; clear ho hb hg hat))
                          go_roundg k3
                          case measure => have := HK1.out; have := HJ12.out; have := HK3.out; omega
                          case rel => exact ⟨(y335), (wrap64 (x5_3 + 1)), (t330), (t331), (t332), er_, H', ⟨by have := HK1.out; have := HJ12.out; have := HK3.out; omega⟩, ⟨rk_ HO337⟩, ⟨au13_2⟩, ⟨au13_9⟩, ⟨au13_5⟩⟩
                        · rw [if_neg c36] at H
                          exact absurd H (by simp)
                      · rw [if_neg c35] at H
                        exact absurd H (by simp)
                    · rw [if_neg c33] at H
                      exact absurd H (by simp)
                  · rw [if_neg c31] at H
                    have c31b0 : decide ((x3_3.length : Int) < (wrap64 (199 + t329))) = false := decide_eq_false c31
                    clear c31
                    simp only [Option.some.injEq, Prod.mk.injEq] at H
                    obtain ⟨rfl, rfl, rfl, rfl⟩ := H
                    obtain ⟨Ao42, co42, eo42⟩ := Kd.R_slice HO_3.out
                    subst eo42
                    go_wp2_with (first | ((with_reducible refine gate_callee (f := 101) rfl ?_); refine gl_ 32 Try.func101 #[.pointer (some ⟨g, 0, none⟩), .int .i64 3] ?_ rfl rfl rfl rfl; (with_reducible refine (spec_l01Src_n.calls g s0_0 x1001_3 x1002_3 x1003_3 3 t329 t330 t331 t332 w0 _ ?side1 ?side2 A30.out).mono ?_); (case side1 => exact au13_3); (case side2 => exact au13_6); rintro e w43 ⟨rfl, hi, hb, hk⟩; refine ⟨_, rfl, ?_⟩; have n0_ := Aside0.mk (Kd.R_mono (Kd.R_keep (IsS116.apart (show IsS116 w0 _ g s0_0 x1001_3 x1002_3 x1003_3 from by repeat (first | (with_reducible first | exact HI0.out | apply IsS116.alloc | apply IsS116.drewN | apply IsS116.drew | apply IsS116.set_1 | apply IsS116.set_2 | apply IsS116.set_3) | exact HI0.out)) (rk_ HO_3) (by decide)) hk (fun _ h => h.2)) (fun _ h => h.1)); have n1_ := Aside0.mk (KeepBut.trans au13_0 hk (.inl rfl)); have n2_ := Aside0.mk (hb); have n3_ := Aside0.mk (hi); clear HO_3; clear HK; clear HB; clear HI0; have HO_3 := n0_; have HK := n1_; have HB := n2_; have HI0 := n3_; clear n0_ n1_ n2_ n3_; (try clear hb); (try clear hb2); (try clear hk); (try clear hi)))
                    go_ret
                    exact ⟨_, au13_10, rk_ HO_3, au13_2, au13_5, au13_9⟩
            · replace c26 := Bool.eq_false_iff.mpr c26
              subst c26
              have H1 : (some (x3_12, t323, t324, t325)) = some (r1, r2, r3, r4) := by rw [if_neg (show ¬ (false = true) by decide)] at H; exact H
              clear H
              have H := H1
              clear H1
              simp only [Option.some.injEq, Prod.mk.injEq] at H
              obtain ⟨rfl, rfl, rfl, rfl⟩ := H
              go_wp2_with (first | ((with_reducible refine gate_callee (f := 74) rfl ?_); refine gl_ 27 Try.func74 #[.pointer (some ⟨g, 0, none⟩), .int .i64 40] ?_ rfl rfl rfl rfl; (with_reducible refine (spec_l01Src_one.calls g s0_0 x1001_12 x1002_12 x1003_12 40 false t323 t324 t325 w0 _ ?side1 ?side2 A25.out).mono ?_); (case side1 => exact au13_3); (case side2 => exact au13_6); rintro e w44 ⟨rfl, hi, hb, hk⟩; refine ⟨_, rfl, ?_⟩; have n0_ := Aside0.mk (Kd.R_mono (Kd.R_keep (IsS116.apart (show IsS116 w0 _ g s0_0 x1001_12 x1002_12 x1003_12 from by repeat (first | (with_reducible first | exact HI0.out | apply IsS116.alloc | apply IsS116.drewN | apply IsS116.drew | apply IsS116.set_1 | apply IsS116.set_2 | apply IsS116.set_3) | exact HI0.out)) (rk_ HO_3) (by decide)) hk (fun _ h => h.2)) (fun _ h => h.1)); have n1_ := Aside0.mk (KeepBut.trans au13_0 hk (.inl rfl)); have n2_ := Aside0.mk (hb); have n3_ := Aside0.mk (hi); clear HO_3; clear HK; clear HB; clear HI0; have HO_3 := n0_; have HK := n1_; have HB := n2_; have HI0 := n3_; clear n0_ n1_ n2_ n3_; (try clear hb); (try clear hb2); (try clear hk); (try clear hi)))
              go_ret
              exact ⟨_, au13_10, rk_ HO_3, au13_2, au13_5, au13_9⟩

/-! ### spec_DrawCrossPut: function 31 -/
def spec_DrawCrossPut.f (k : Nat) (l0 : List Int) : Option ((List (S37)) × ByteArray × ByteArray × ByteArray) := (spec_l01Source.f k l0).bind fun bt339 => ((spec_l01Src_l08Crosses.f k bt339.1 bt339.2.1 bt339.2.2.1 bt339.2.2.2).bind fun bt344 => ((spec_l01Src_l08Cross.f bt339.1 bt344.2.1 bt344.2.2.1 bt344.2.2.2).bind fun bt350 => ((spec_l01Src_one.f bt339.1 bt350.2.2.2.1 bt350.2.2.2.2.1 bt350.2.2.2.2.2 12).bind fun bt357 => (if bt357.1 = true then ((spec_l01Src_pick.f bt339.1 bt357.2.1 bt357.2.2.1 bt357.2.2.2 (([(⟨#[]⟩ : ByteArray), (⟨#[97]⟩ : ByteArray)] : List ByteArray))).bind fun bt364 => (some (bt344.1, bt350.1, bt350.2.1, bt364.1))) else (some (bt344.1, bt350.1, bt350.2.1, bt350.2.2.1))))))
theorem spec_DrawCrossPut.mono : ∀ a0 k, LeO (spec_DrawCrossPut.f k a0) (spec_DrawCrossPut.f (k + 1) a0) := by
  intro a0 k
  unfold spec_DrawCrossPut.f
  repeat' first
      | (with_reducible exact spec_l01Source.mono _ _)
      | (with_reducible exact spec_l01Src_l08Crosses.mono _ _ _ _ _)
      | (with_reducible exact LeO.refl _)
      | (with_reducible exact LeO.none _)
      | (with_reducible refine LeO.ite ?_ ?_)
      | (with_reducible refine LeO.bind ?_ (fun _ => ?_))
      | exact spec_l01Source.mono _ _
      | exact spec_l01Src_l08Crosses.mono _ _ _ _ _
      | exact LeO.none _
      | refine LeO.ite ?_ ?_
      | refine LeO.bind ?_ (fun _ => ?_)
set_option maxHeartbeats 8000000 in
set_option maxRecDepth 100000 in
theorem spec_DrawCrossPut.calls (k : Nat) (A0 : Option Addr) (c0 : Nat) (l0 : List Int) (r1 : List (S37)) (r2 : ByteArray) (r3 : ByteArray) (r4 : ByteArray) (w : World) (hr0 : Kd.C (Kd.int .u8) w A0 l0.length l0) (hc0 : l0.length ≤ c0) (h : spec_DrawCrossPut.f k l0 = some (r1, r2, r3, r4)) :
    Calls Try.prog 31 #[.slice A0 l0.length c0] w fun e w' => ∃ v0_ : Value, e = .returned (.tuple #[v0_, .agg #[.string r2, .string r3, .string r4]]) ∧ Kd.R k37 37 w' w.heap.size (fun _ => True) v0_ r1 ∧ Below w.heap.size w w' := by
  have hu37 := Try.underlying37
  have HR0 := Aside0.mk hr0
  have HC0 := Aside0.mk hc0
  clear hr0 hc0
  have HB := Aside0.mk (Below.refl w.heap.size w)
  have H : ((spec_l01Source.f k l0).bind fun bt339 => ((spec_l01Src_l08Crosses.f k bt339.1 bt339.2.1 bt339.2.2.1 bt339.2.2.2).bind fun bt344 => ((spec_l01Src_l08Cross.f bt339.1 bt344.2.1 bt344.2.2.1 bt344.2.2.2).bind fun bt350 => ((spec_l01Src_one.f bt339.1 bt350.2.2.2.1 bt350.2.2.2.2.1 bt350.2.2.2.2.2 12).bind fun bt357 => (if bt357.1 = true then ((spec_l01Src_pick.f bt339.1 bt357.2.1 bt357.2.2.1 bt357.2.2.2 (([(⟨#[]⟩ : ByteArray), (⟨#[97]⟩ : ByteArray)] : List ByteArray))).bind fun bt364 => (some (bt344.1, bt350.1, bt350.2.1, bt364.1))) else (some (bt344.1, bt350.1, bt350.2.1, bt350.2.2.1))))))) = some (r1, r2, r3, r4) := h
  clear h
  replace H := Option.bind_eq_some_iff.mp H
  obtain ⟨⟨t339, t340, t341, t342⟩, A20, H⟩ := H
  replace H : ((spec_l01Src_l08Crosses.f k t339 t340 t341 t342).bind fun bt344 => ((spec_l01Src_l08Cross.f t339 bt344.2.1 bt344.2.2.1 bt344.2.2.2).bind fun bt350 => ((spec_l01Src_one.f t339 bt350.2.2.2.1 bt350.2.2.2.2.1 bt350.2.2.2.2.2 12).bind fun bt357 => (if bt357.1 = true then ((spec_l01Src_pick.f t339 bt357.2.1 bt357.2.2.1 bt357.2.2.2 (([(⟨#[]⟩ : ByteArray), (⟨#[97]⟩ : ByteArray)] : List ByteArray))).bind fun bt364 => (some (bt344.1, bt350.1, bt350.2.1, bt364.1))) else (some (bt344.1, bt350.1, bt350.2.1, bt350.2.2.1)))))) = some (r1, r2, r3, r4) := H
  have A2 := Aside0.mk A20
  clear A20
  replace H := Option.bind_eq_some_iff.mp H
  obtain ⟨⟨t344, t347, t348, t349⟩, A30, H⟩ := H
  replace H : ((spec_l01Src_l08Cross.f t339 t347 t348 t349).bind fun bt350 => ((spec_l01Src_one.f t339 bt350.2.2.2.1 bt350.2.2.2.2.1 bt350.2.2.2.2.2 12).bind fun bt357 => (if bt357.1 = true then ((spec_l01Src_pick.f t339 bt357.2.1 bt357.2.2.1 bt357.2.2.2 (([(⟨#[]⟩ : ByteArray), (⟨#[97]⟩ : ByteArray)] : List ByteArray))).bind fun bt364 => (some (t344, bt350.1, bt350.2.1, bt364.1))) else (some (t344, bt350.1, bt350.2.1, bt350.2.2.1))))) = some (r1, r2, r3, r4) := H
  have A3 := Aside0.mk A30
  clear A30
  replace H := Option.bind_eq_some_iff.mp H
  obtain ⟨⟨t350, t351, t352, t353, t354, t355⟩, A40, H⟩ := H
  replace H : ((spec_l01Src_one.f t339 t353 t354 t355 12).bind fun bt357 => (if bt357.1 = true then ((spec_l01Src_pick.f t339 bt357.2.1 bt357.2.2.1 bt357.2.2.2 (([(⟨#[]⟩ : ByteArray), (⟨#[97]⟩ : ByteArray)] : List ByteArray))).bind fun bt364 => (some (t344, t350, t351, bt364.1))) else (some (t344, t350, t351, t352)))) = some (r1, r2, r3, r4) := H
  have A4 := Aside0.mk A40
  clear A40
  replace H := Option.bind_eq_some_iff.mp H
  obtain ⟨⟨t357, t358, t359, t360⟩, A50, H⟩ := H
  replace H : (if t357 = true then ((spec_l01Src_pick.f t339 t358 t359 t360 (([(⟨#[]⟩ : ByteArray), (⟨#[97]⟩ : ByteArray)] : List ByteArray))).bind fun bt364 => (some (t344, t350, t351, bt364.1))) else (some (t344, t350, t351, t352))) = some (r1, r2, r3, r4) := H
  have A5 := Aside0.mk A50
  clear A50
  by_cases c6 : t357 = true
  · subst c6
    have H1 : ((spec_l01Src_pick.f t339 t358 t359 t360 (([(⟨#[]⟩ : ByteArray), (⟨#[97]⟩ : ByteArray)] : List ByteArray))).bind fun bt364 => (some (t344, t350, t351, bt364.1))) = some (r1, r2, r3, r4) := by rw [if_pos rfl] at H; exact H
    clear H
    have H := H1
    clear H1
    obtain ⟨y361, hy361⟩ : ∃ y_ : List ByteArray, y_ = (([(⟨#[]⟩ : ByteArray), (⟨#[97]⟩ : ByteArray)] : List ByteArray)) := ⟨_, rfl⟩
    replace H : ((spec_l01Src_pick.f t339 t358 t359 t360 y361).bind fun bt364 => (some (t344, t350, t351, bt364.1))) = some (r1, r2, r3, r4) := by first | (rw [hy361]; with_reducible exact H) | (have H2_ := (Option.bind_some _ _).symm.trans H; rw [hy361]; with_reducible exact H2_) | (have H2_ := (Option.bind_some _ _).symm.trans H; with_reducible exact H2_) | with_reducible exact H | (rw [hy361]; exact H) | exact H
    have Ny361 := Aside0.mk hy361
    clear hy361
    replace H := Option.bind_eq_some_iff.mp H
    obtain ⟨⟨t364, t365, t366, t367⟩, A70, H⟩ := H
    replace H : (some (t344, t350, t351, t364)) = some (r1, r2, r3, r4) := H
    have A7 := Aside0.mk A70
    clear A70
    simp only [Option.some.injEq, Prod.mk.injEq] at H
    obtain ⟨rfl, rfl, rfl, rfl⟩ := H
    go_enter Try.func31, Try.ntmps31
    try go_wp2_with (first | ((with_reducible refine gate_dst (N := 3) rfl ?_); refine box_event ?hg (N := 3) ?hd (cs := #[.string (⟨#[]⟩ : ByteArray), .string (⟨#[]⟩ : ByteArray), .string (⟨#[]⟩ : ByteArray)]) (t := 37) ?hr ?_; (case hd => rfl); (case hg => rfl); (case hr => exact hr_); intro gb338 hg w8 hbox hb; have n0_ := Aside0.mk (below_step bl_ hb); have n1_ := Aside0.mk (hbox); have n2_ := Aside0.mk (gw_ hg bl_); have n3_ := Aside0.mk (gw_ hg bl_); clear HB; have HB := n0_; have BK338 := n1_; have GW338 := n2_; have GE338 := n3_; clear n0_ n1_ n2_ n3_; clear hb hbox hg) | ((with_reducible refine gate_callee (f := 71) rfl ?_); refine gl_ 8 Try.func71 #[.slice A0 l0.length c0] ?_ rfl rfl rfl rfl; (with_reducible refine (spec_l01Source.calls k _ _ l0 t339 t340 t341 t342 w _ ?side1 ?side2 ?side3 A2.out).mono ?_); (case side1 => exact au13_27); (case side2 => exact HR0.out); (case side3 => exact HC0.out); rintro e w9 ⟨g343, rfl, hi, hb, hb2⟩; refine ⟨_, rfl, ?_⟩; have n0_ := Aside0.mk (blkb_ BK338 hb2); have n1_ := Aside0.mk (hb); have n2_ := Aside0.mk (hi); have n3_ := Aside0.mk (IsS116.ne_blk hi (blkb_ BK338 hb2) (by decide)); have n4_ := Aside0.mk (Ne.symm (IsS116.ne_blk hi (blkb_ BK338 hb2) (by decide))); clear BK338; clear HB; have BK338 := n0_; have HB := n1_; have HI343 := n2_; have NB343_338 := n3_; have NB338_343 := n4_; clear n0_ n1_ n2_ n3_ n4_; (try clear hb); (try clear hb2); (try clear hk); (try clear hi)) | ((with_reducible refine gate_callee (f := 72) rfl ?_); refine gl_ 10 Try.func72 #[.pointer (some ⟨g343, 0, none⟩)] ?_ rfl rfl rfl rfl; (with_reducible refine (spec_l01Src_l08Crosses.calls k g343 t339 t340 t341 t342 t344 t347 t348 t349 w _ ?side1 ?side2 A3.out).mono ?_); (case side1 => exact au13_13); (case side2 => exact au13_14); rintro e w10 ⟨v345, rfl, ho0, hi, hb, hk⟩; refine ⟨_, rfl, ?_⟩; have n0_ := Aside0.mk (KeepBut.blk hk (g' := gb338) (o := .cells #[.string (⟨#[]⟩ : ByteArray), .string (⟨#[]⟩ : ByteArray), .string (⟨#[]⟩ : ByteArray)] 37 (0, 0)) (bk_ BK338) NB338_343.out (by simp)); have n1_ := Aside0.mk (Kd.R_lower (Kd.R_newB ho0 (g := gb338) (o := .cells #[.string (⟨#[]⟩ : ByteArray), .string (⟨#[]⟩ : ByteArray), .string (⟨#[]⟩ : ByteArray)] 37 (0, 0)) (bk_ BK338)) (below_size au13_7)); have n2_ := Aside0.mk (hb); have n3_ := Aside0.mk (hi); clear BK338; clear HB; clear HI343; have BK338 := n0_; have HO346 := n1_; have HB := n2_; have HI343 := n3_; clear n0_ n1_ n2_ n3_; (try clear hb); (try clear hb2); (try clear hk); (try clear hi); (try clear ho0)) | ((with_reducible refine gate_callee (f := 73) rfl ?_); refine gl_ 12 Try.func73 #[.pointer (some ⟨g343, 0, none⟩)] ?_ rfl rfl rfl rfl; (with_reducible refine (spec_l01Src_l08Cross.calls g343 t339 t347 t348 t349 t350 t351 t352 t353 t354 t355 w _ ?side1 ?side2 A4.out).mono ?_); (case side1 => exact au13_13); (case side2 => exact au13_14); rintro e w11 ⟨rfl, hi, hb, hk⟩; refine ⟨_, rfl, ?_⟩; have n0_ := Aside0.mk (KeepBut.blk hk (g' := gb338) (o := .cells #[.string (⟨#[]⟩ : ByteArray), .string (⟨#[]⟩ : ByteArray), .string (⟨#[]⟩ : ByteArray)] 37 (0, 0)) (bk_ BK338) NB338_343.out (by simp)); have n1_ := Aside0.mk (Kd.R_mono (Kd.R_keep (IsS116.apart (show IsS116 w _ g343 t339 t347 t348 t349 from by repeat (first | (with_reducible first | exact HI343.out | apply IsS116.alloc | apply IsS116.drewN | apply IsS116.drew | apply IsS116.set_1 | apply IsS116.set_2 | apply IsS116.set_3 | refine IsS116.far ?_ NB343_338.out _) | exact HI343.out)) (rk_ HO346) (by decide)) hk (fun _ h => h.2)) (fun _ h => h.1)); have n2_ := Aside0.mk (hb); have n3_ := Aside0.mk (hi); clear BK338; clear HO346; clear HB; clear HI343; have BK338 := n0_; have HO346 := n1_; have HB := n2_; have HI343 := n3_; clear n0_ n1_ n2_ n3_; (try clear hb); (try clear hb2); (try clear hk); (try clear hi)) | ((with_reducible refine gate_dst (N := 6) rfl ?_); refine box_event ?hg (N := 6) ?hd (cs := #[.string (⟨#[]⟩ : ByteArray), .string (⟨#[]⟩ : ByteArray), .string (⟨#[]⟩ : ByteArray)]) (t := 37) ?hr ?_; (case hd => rfl); (case hg => rfl); (case hr => exact hr_); intro gb356 hg w12 hbox hb; have n0_ := Aside0.mk (Kd.R_below (Kd.R_elderB (rk_ HO346) gb356 (Nat.le_of_eq hg.symm)) hb); have n1_ := Aside0.mk (blkb_ BK338 hb); have n2_ := Aside0.mk (IsS116.below au13_25 hb); have n3_ := Aside0.mk (below_step au13_7 hb); have n4_ := Aside0.mk (hbox); have n5_ := Aside0.mk ((by rw [hg]; exact (below_size au13_7) : w.heap.size ≤ gb356)); have n6_ := Aside0.mk ((by rw [hg]; exact (below_size au13_7) : w.heap.size ≤ gb356)); have n7_ := Aside0.mk (gn_ hg (blkl_ BK338)); have n8_ := Aside0.mk (gm_ hg (blkl_ BK338)); have n9_ := Aside0.mk ((by rw [hg]; exact Nat.ne_of_lt (IsS116.lt (show IsS116 w _ g343 t339 t353 t354 t355 from by repeat (first | (with_reducible first | exact HI343.out | apply IsS116.alloc | apply IsS116.drewN | apply IsS116.drew | apply IsS116.set_1 | apply IsS116.set_2 | apply IsS116.set_3 | refine IsS116.far ?_ NB343_338.out _) | exact HI343.out))) : g343 ≠ gb356)); have n10_ := Aside0.mk ((by rw [hg]; exact Nat.ne_of_gt (IsS116.lt (show IsS116 w _ g343 t339 t353 t354 t355 from by repeat (first | (with_reducible first | exact HI343.out | apply IsS116.alloc | apply IsS116.drewN | apply IsS116.drew | apply IsS116.set_1 | apply IsS116.set_2 | apply IsS116.set_3 | refine IsS116.far ?_ NB343_338.out _) | exact HI343.out))) : gb356 ≠ g343)); clear HO346; clear BK338; clear HI343; clear HB; have HO346 := n0_; have BK338 := n1_; have HI343 := n2_; have HB := n3_; have BK356 := n4_; have GW356 := n5_; have GE356 := n6_; have NB338_356 := n7_; have NB356_338 := n8_; have NB343_356 := n9_; have NB356_343 := n10_; clear n0_ n1_ n2_ n3_ n4_ n5_ n6_ n7_ n8_ n9_ n10_; clear hb hbox hg; have hnb13 := NB356_338.out; have hnc13 := NB338_356.out; have hnb14 := NB356_343.out; have hnc14 := NB343_356.out; obtain ⟨hcz15_0, hcz15_1, hcz15_2, hfz15_0, hfz15_1, hfz15_2⟩ := cellsF3 BK356.out) | ((with_reducible refine gate_callee (f := 74) rfl ?_); refine gl_ 14 Try.func74 #[.pointer (some ⟨g343, 0, none⟩), .int .i64 12] ?_ rfl rfl rfl rfl; (with_reducible refine (spec_l01Src_one.calls g343 t339 t353 t354 t355 12 true t358 t359 t360 w _ ?side1 ?side2 A5.out).mono ?_); (case side1 => exact au13_15); (case side2 => exact au13_18); rintro e w16 ⟨rfl, hi, hb, hk⟩; refine ⟨_, rfl, ?_⟩; have n0_ := Aside0.mk (KeepBut.blk hk (g' := gb338) (o := .cells #[.string (⟨#[]⟩ : ByteArray), .string (⟨#[]⟩ : ByteArray), .string (⟨#[]⟩ : ByteArray)] 37 (0, 0)) au13_16 NB338_343.out (by simp)); have n1_ := Aside0.mk (Kd.R_mono (Kd.R_keep (IsS116.apart (show IsS116 w _ g343 t339 t353 t354 t355 from by repeat (first | (with_reducible first | exact HI343.out | apply IsS116.alloc | apply IsS116.drewN | apply IsS116.drew | apply IsS116.set_1 | apply IsS116.set_2 | apply IsS116.set_3 | refine IsS116.far ?_ NB343_338.out _ | refine IsS116.far ?_ NB343_356.out _) | exact HI343.out)) au13_23 (by decide)) hk (fun _ h => h.2)) (fun _ h => h.1)); have n2_ := Aside0.mk (KeepBut.blk hk (g' := gb356) (o := .cells #[.string t350, .string t351, .string t352] 37 (0, 0)) au13_11 NB356_343.out (by simp)); have n3_ := Aside0.mk (hb); have n4_ := Aside0.mk (hi); clear BK338; clear HO346; clear BK356; clear HB; clear HI343; have BK338 := n0_; have HO346 := n1_; have BK356 := n2_; have HB := n3_; have HI343 := n4_; clear n0_ n1_ n2_ n3_ n4_; (try clear hb); (try clear hb2); (try clear hk); (try clear hi)) | ((with_reducible refine gate_dst (N := 16) rfl ?_); refine Kd.R_lit Kd.string _ 9 ?hg (N := 16) ?hd (xs := ([(⟨#[]⟩ : ByteArray), (⟨#[97]⟩ : ByteArray)] : List ByteArray)) (inner := [.string (⟨#[]⟩ : ByteArray), .string (⟨#[97]⟩ : ByteArray)]) (ok := fun _ => True) (okp := fun _ => True) ?hr ?hp (fun _ hk => hk) trivial (Below.refl _ _) (Nat.le_refl _) (by simp) ?_; (case hd => rfl); (case hg => rfl); (case hr => exact hr_); (case hp => exact (Reps.one (show Kd.M Kd.string _ _ _ (⟨#[]⟩ : ByteArray) [.string (⟨#[]⟩ : ByteArray)] from rfl) (Reps.one (show Kd.M Kd.string _ _ _ (⟨#[97]⟩ : ByteArray) [.string (⟨#[97]⟩ : ByteArray)] from rfl) (Reps.none _ _)))); intro v362 w17 ho18 hb hg_ hnew_; clear hg_ hnew_; (first | rw [← Ny361.out] at ho18 | (simp only [Int.reduceToNat] at ho18; rw [← Ny361.out] at ho18)); have n0_ := Aside0.mk (Kd.R_below (rk_ HO346) hb); have n1_ := Aside0.mk (Kd.R_lower ho18 (below_size au13_24)); have n2_ := Aside0.mk (blkb_ BK338 hb); have n3_ := Aside0.mk (IsS116.below (by repeat (first | (with_reducible first | exact HI343.out | apply IsS116.alloc | apply IsS116.drewN | apply IsS116.drew | apply IsS116.set_1 | apply IsS116.set_2 | apply IsS116.set_3 | refine IsS116.far ?_ NB343_338.out _ | refine IsS116.far ?_ NB343_356.out _) | exact HI343.out)) hb); have n4_ := Aside0.mk (blkb_ BK356 hb); have n5_ := Aside0.mk (below_step au13_24 hb); clear HO346; clear BK338; clear HI343; clear BK356; clear HB; have HO346 := n0_; have HO363 := n1_; have BK338 := n2_; have HI343 := n3_; have BK356 := n4_; have HB := n5_; clear n0_ n1_ n2_ n3_ n4_ n5_; clear hb ho18; obtain ⟨Ao19, co19, eo19⟩ := Kd.R_slice HO363.out; subst eo19) | ((with_reducible refine gate_callee (f := 75) rfl ?_); refine gl_ 17 Try.func75 #[.pointer (some ⟨g343, 0, none⟩), .slice Ao19 y361.length co19] ?_ rfl rfl rfl rfl; (with_reducible refine (spec_l01Src_pick.calls g343 t339 t358 t359 t360 _ _ y361 t364 t365 t366 t367 w _ ?side1 ?side2 ?side3 ?side4 ?side5 A7.out).mono ?_); (case side1 => exact au13_15); (case side2 => exact au13_18); (case side3 => repeat (first | exact (Kd.R_reads' HO363.out).2.2 | (with_reducible refine Kd.C_alloc ?_ _) | (with_reducible refine Kd.C_drewN ?_ _) | (with_reducible refine Kd.C_drew ?_))); (case side4 => exact (Kd.R_reads' HO363.out).2.1); (case side5 => exact far_slice (IsS116.own_ne HI343.out HO363.out (by decide))); rintro e w20 ⟨rfl, hi, hb, hk⟩; refine ⟨_, rfl, ?_⟩; have n0_ := Aside0.mk (KeepBut.blk hk (g' := gb338) (o := .cells #[.string (⟨#[]⟩ : ByteArray), .string (⟨#[]⟩ : ByteArray), .string (⟨#[]⟩ : ByteArray)] 37 (0, 0)) (bk_ BK338) NB338_343.out (by simp)); have n1_ := Aside0.mk (Kd.R_mono (Kd.R_keep (IsS116.apart (show IsS116 w _ g343 t339 t358 t359 t360 from by repeat (first | (with_reducible first | exact HI343.out | apply IsS116.alloc | apply IsS116.drewN | apply IsS116.drew | apply IsS116.set_1 | apply IsS116.set_2 | apply IsS116.set_3 | refine IsS116.far ?_ NB343_338.out _ | refine IsS116.far ?_ NB343_356.out _) | exact HI343.out)) (rk_ HO346) (by decide)) hk (fun _ h => h.2)) (fun _ h => h.1)); have n2_ := Aside0.mk (KeepBut.blk hk (g' := gb356) (o := .cells #[.string t350, .string t351, .string t352] 37 (0, 0)) (bk_ BK356) NB356_343.out (by simp)); have n3_ := Aside0.mk (Kd.R_mono (Kd.R_keep (IsS116.apart (show IsS116 w _ g343 t339 t358 t359 t360 from by repeat (first | (with_reducible first | exact HI343.out | apply IsS116.alloc | apply IsS116.drewN | apply IsS116.drew | apply IsS116.set_1 | apply IsS116.set_2 | apply IsS116.set_3 | refine IsS116.far ?_ NB343_338.out _ | refine IsS116.far ?_ NB343_356.out _) | exact HI343.out)) (rk_ HO363) (by decide)) hk (fun _ h => h.2)) (fun _ h => h.1)); have n4_ := Aside0.mk (hb); have n5_ := Aside0.mk (hi); clear BK338; clear HO346; clear BK356; clear HO363; clear HB; clear HI343; have BK338 := n0_; have HO346 := n1_; have BK356 := n2_; have HO363 := n3_; have HB := n4_; have HI343 := n5_; clear n0_ n1_ n2_ n3_ n4_ n5_; (try clear hb); (try clear hb2); (try clear hk); (try clear hi); obtain ⟨hcz21_0, hcz21_1, hcz21_2, hfz21_0, hfz21_1, hfz21_2⟩ := cellsF3 BK356.out))
    have n0_ : Aside0 (Kd.R k37 37 (w20.setCell ⟨gb356, 2, none⟩ (.string t364)) w.heap.size (fun k_ => k_ ≠ gb338 ∧ k_ ≠ gb356) v345 t344) := ⟨by (with_reducible repeat (first | apply Kd.R_alloc | apply Kd.R_drewN | apply Kd.R_drew)); exact Kd.R_mono (Kd.R_far (p := ⟨gb356, 2, none⟩) (Kd.R_mono HO346.out (fun k_ hk => (⟨hk, hk.2⟩ : _ ∧ k_ ≠ gb356))) (fun _ hk => hk.2) (.string t364)) (fun _ hk => ⟨hk.1.1.2, hk.1.2⟩)⟩
    have n1_ : Aside0 (Kd.R Kd.string 9 (w20.setCell ⟨gb356, 2, none⟩ (.string t364)) w.heap.size (fun _ => True) (.slice Ao19 y361.length co19) y361) := ⟨by (with_reducible repeat (first | apply Kd.R_alloc | apply Kd.R_drewN | apply Kd.R_drew)); exact Kd.R_mono (Kd.R_far (p := ⟨gb356, 2, none⟩) (Kd.R_types HO363.out BK356.out (by decide)) (fun _ hk => hk.2) (.string t364)) (fun _ hk => trivial)⟩
    have n2_ : Aside0 ((w20.setCell ⟨gb356, 2, none⟩ (.string t364)).heap[gb338]? = some (.cells #[.string (⟨#[]⟩ : ByteArray), .string (⟨#[]⟩ : ByteArray), .string (⟨#[]⟩ : ByteArray)] 37 (0, 0))) := ⟨by (with_reducible repeat (first | refine blk_drewN ?_ _ | refine blk_drew ?_ | refine blk_alloc ?_ _)); refine blk_far ?_ NB338_356.out _; (with_reducible repeat (first | refine blk_drewN ?_ _ | refine blk_drew ?_ | refine blk_alloc ?_ _)); exact BK338.out⟩
    have n3_ : Aside0 ((w20.setCell ⟨gb356, 2, none⟩ (.string t364)).heap[gb356]? = some (.cells #[.string t350, .string t351, .string t364] 37 (0, 0))) := ⟨by (with_reducible repeat (first | refine blk_drewN ?_ _ | refine blk_drew ?_ | refine blk_alloc ?_ _)); refine blk_put (cs := #[.string t350, .string t351, .string t352]) ?_ 2 _ rfl; (with_reducible repeat (first | refine blk_drewN ?_ _ | refine blk_drew ?_ | refine blk_alloc ?_ _)); exact BK356.out⟩
    have n4_ : Aside0 (IsS116 w (w20.setCell ⟨gb356, 2, none⟩ (.string t364)) g343 t339 t365 t366 t367) := ⟨by repeat (first | (with_reducible first | exact HI343.out | apply IsS116.alloc | apply IsS116.drewN | apply IsS116.drew | apply IsS116.set_1 | apply IsS116.set_2 | apply IsS116.set_3 | refine IsS116.far ?_ NB343_338.out _ | refine IsS116.far ?_ NB343_356.out _) | exact HI343.out)⟩
    have n5_ : Aside0 (Below w.heap.size w (w20.setCell ⟨gb356, 2, none⟩ (.string t364))) := ⟨au13_17⟩
    (try clear HO346)
    (try clear HO363)
    (try clear BK338)
    (try clear BK356)
    (try clear HI343)
    (try clear HB)
    generalize (w20.setCell ⟨gb356, 2, none⟩ (.string t364)) = w22 at n0_ n1_ n2_ n3_ n4_ n5_ ⊢
    have HO346 := n0_
    have HO363 := n1_
    have BK338 := n2_
    have BK356 := n3_
    have HI343 := n4_
    have HB := n5_
    clear n0_ n1_ n2_ n3_ n4_ n5_
    have n0_ := Aside0.mk (Kd.R_drew HO346.out)
    have n1_ := Aside0.mk (Kd.R_drew HO363.out)
    have n2_ := Aside0.mk (blk_drew BK338.out)
    have n3_ := Aside0.mk (blk_drew BK356.out)
    have n4_ := Aside0.mk (IsS116.drew HI343.out)
    have n5_ := Aside0.mk (below_drew1 HB.out)
    clear HO346
    clear HO363
    clear BK338
    clear BK356
    clear HI343
    clear HB
    have HO346 := n0_
    have HO363 := n1_
    have BK338 := n2_
    have BK356 := n3_
    have HI343 := n4_
    have HB := n5_
    clear n0_ n1_ n2_ n3_ n4_ n5_
    refine start_ (n := 4) (S := fun w' => w'.cell? ⟨gb356, 0, none⟩ = some (.string t350) ∧ w'.cell? ⟨gb356, 1, none⟩ = some (.string t351) ∧ w'.cell? ⟨gb356, 2, none⟩ = some (.string t364)) (ds := []) #[false, false, false, false] (by kernel_rfl) rfl rfl ⟨(blk_cell BK356.out 0).trans rfl, (blk_cell BK356.out 1).trans rfl, (blk_cell BK356.out 2).trans rfl⟩ (fun hHeld => ?_)
    generalize w22.drew = w23 at HO346 HO363 BK338 BK356 HI343 HB hHeld ⊢
    refine pure_ (i := 0) (N := some 19) (v := ?_) (a' := ?_) #[true, false, false, false] rfl rfl (by kernel_rfl) (fun _ _ _ h => h) (Or.inl ⟨by rfl, ?_⟩) ?_ ?_
    rotate_left
    · intro w'
      go_simp
      with_reducible rfl
    rotate_left
    · simp only [Act.put, List.setIfInBounds_toArray, List.set_cons_zero, List.set_cons_succ, i64_w, i32_w]
      rfl
    refine pure_ (i := 2) (N := some 2) (v := ?_) (a' := ?_) #[true, false, true, false] rfl rfl (by kernel_rfl) (fun _ _ _ h => h) (Or.inl ⟨by rfl, ?_⟩) ?_ ?_
    rotate_left
    · intro w'
      go_simp
      with_reducible rfl
    rotate_left
    · simp only [Act.put, List.setIfInBounds_toArray, List.set_cons_zero, List.set_cons_succ, i64_w, i32_w]
      rfl
    refine take_ (i := 1) (N := some 20) (v := ?_) (a' := ?_) #[true, true, true, false] rfl rfl (by kernel_rfl) (fun _ _ _ h => h) (Or.inl ⟨by rfl, ?_⟩) hHeld ?_ ?_
    rotate_left
    · rintro w' ⟨s0, s1, s2⟩
      go_simp
      with_reducible rfl
    rotate_left
    · simp only [Act.put, List.setIfInBounds_toArray, List.set_cons_zero, List.set_cons_succ, i64_w, i32_w]
      rfl
    refine one_ (i := 3) (N := none) #[true, true, true, true] rfl rfl (by kernel_rfl) (by decide) (fun K hK => ?_)
    have hs24 : w23.cell? ⟨gb338, 0, none⟩ = some (.string (⟨#[]⟩ : ByteArray)) := (blk_cell BK338.out 0).trans rfl
    have hfs24 := blk_frozen BK338.out 0
    have hns24_1 := NB356_338.out
    have hms24_1 := NB338_356.out
    have hs25 : w23.cell? ⟨gb338, 1, none⟩ = some (.string (⟨#[]⟩ : ByteArray)) := (blk_cell BK338.out 1).trans rfl
    have hfs25 := blk_frozen BK338.out 1
    have hns25_1 := NB356_338.out
    have hms25_1 := NB338_356.out
    have hs26 : w23.cell? ⟨gb338, 2, none⟩ = some (.string (⟨#[]⟩ : ByteArray)) := (blk_cell BK338.out 2).trans rfl
    have hfs26 := blk_frozen BK338.out 2
    have hns26_1 := NB356_338.out
    have hms26_1 := NB338_356.out
    refine skip_ (w1 := ?_) (by rfl) rfl ?_ ?_
    rotate_left
    · go_simp
      rfl
    refine hK.out _ _ ⟨((cell_far (p := ⟨gb338, _, none⟩) NB356_338.out _).trans (((cell_far (p := ⟨gb338, _, none⟩) NB356_338.out _).trans (((cell_far (p := ⟨gb338, _, none⟩) NB356_338.out _).trans (hHeld.1)))))), ((cell_far (p := ⟨gb338, _, none⟩) NB356_338.out _).trans (((cell_far (p := ⟨gb338, _, none⟩) NB356_338.out _).trans (((cell_far (p := ⟨gb338, _, none⟩) NB356_338.out _).trans (hHeld.2.1)))))), ((cell_far (p := ⟨gb338, _, none⟩) NB356_338.out _).trans (((cell_far (p := ⟨gb338, _, none⟩) NB356_338.out _).trans (((cell_far (p := ⟨gb338, _, none⟩) NB356_338.out _).trans (hHeld.2.2))))))⟩ (fun hHeld => ?_)
    clear hK K
    refine done_ (by kernel_rfl) ?_
    try go_wp2
    refine bodyPost_ret (results_tc rfl _ _ gb338 37 #[.string t350, .string t351, .string t364] (0, 0) _ rfl au13_12 Try.underlying37 rfl (by kernel_rfl)) rfl ?_
    exact ⟨_, au13_10, by (with_reducible repeat (first | apply Kd.R_alloc | apply Kd.R_drewN | apply Kd.R_drew)); exact Kd.R_mono (Kd.R_far (p := ⟨gb338, 2, none⟩) (Kd.R_far (p := ⟨gb338, 1, none⟩) (Kd.R_far (p := ⟨gb338, 0, none⟩) (Kd.R_mono HO346.out (fun k_ hk => (⟨hk, hk.1⟩ : _ ∧ k_ ≠ gb338))) (fun _ hk => hk.2) (.string t350)) (fun _ hk => hk.2) (.string t351)) (fun _ hk => hk.2) (.string t364)) (fun _ hk => trivial), au13_17⟩
  · replace c6 := Bool.eq_false_iff.mpr c6
    subst c6
    have H1 : (some (t344, t350, t351, t352)) = some (r1, r2, r3, r4) := by rw [if_neg (show ¬ (false = true) by decide)] at H; exact H
    clear H
    have H := H1
    clear H1
    simp only [Option.some.injEq, Prod.mk.injEq] at H
    obtain ⟨rfl, rfl, rfl, rfl⟩ := H
    go_enter Try.func31, Try.ntmps31
    try go_wp2_with (first | ((with_reducible refine gate_dst (N := 3) rfl ?_); refine box_event ?hg (N := 3) ?hd (cs := #[.string (⟨#[]⟩ : ByteArray), .string (⟨#[]⟩ : ByteArray), .string (⟨#[]⟩ : ByteArray)]) (t := 37) ?hr ?_; (case hd => rfl); (case hg => rfl); (case hr => exact hr_); intro gb338 hg w27 hbox hb; have n0_ := Aside0.mk (below_step bl_ hb); have n1_ := Aside0.mk (hbox); have n2_ := Aside0.mk (gw_ hg bl_); have n3_ := Aside0.mk (gw_ hg bl_); clear HB; have HB := n0_; have BK338 := n1_; have GW338 := n2_; have GE338 := n3_; clear n0_ n1_ n2_ n3_; clear hb hbox hg) | ((with_reducible refine gate_callee (f := 71) rfl ?_); refine gl_ 8 Try.func71 #[.slice A0 l0.length c0] ?_ rfl rfl rfl rfl; (with_reducible refine (spec_l01Source.calls k _ _ l0 t339 t340 t341 t342 w _ ?side1 ?side2 ?side3 A2.out).mono ?_); (case side1 => exact au13_27); (case side2 => exact HR0.out); (case side3 => exact HC0.out); rintro e w28 ⟨g343, rfl, hi, hb, hb2⟩; refine ⟨_, rfl, ?_⟩; have n0_ := Aside0.mk (blkb_ BK338 hb2); have n1_ := Aside0.mk (hb); have n2_ := Aside0.mk (hi); have n3_ := Aside0.mk (IsS116.ne_blk hi (blkb_ BK338 hb2) (by decide)); have n4_ := Aside0.mk (Ne.symm (IsS116.ne_blk hi (blkb_ BK338 hb2) (by decide))); clear BK338; clear HB; have BK338 := n0_; have HB := n1_; have HI343 := n2_; have NB343_338 := n3_; have NB338_343 := n4_; clear n0_ n1_ n2_ n3_ n4_; (try clear hb); (try clear hb2); (try clear hk); (try clear hi)) | ((with_reducible refine gate_callee (f := 72) rfl ?_); refine gl_ 10 Try.func72 #[.pointer (some ⟨g343, 0, none⟩)] ?_ rfl rfl rfl rfl; (with_reducible refine (spec_l01Src_l08Crosses.calls k g343 t339 t340 t341 t342 t344 t347 t348 t349 w _ ?side1 ?side2 A3.out).mono ?_); (case side1 => exact au13_13); (case side2 => exact au13_14); rintro e w29 ⟨v345, rfl, ho0, hi, hb, hk⟩; refine ⟨_, rfl, ?_⟩; have n0_ := Aside0.mk (KeepBut.blk hk (g' := gb338) (o := .cells #[.string (⟨#[]⟩ : ByteArray), .string (⟨#[]⟩ : ByteArray), .string (⟨#[]⟩ : ByteArray)] 37 (0, 0)) (bk_ BK338) NB338_343.out (by simp)); have n1_ := Aside0.mk (Kd.R_lower (Kd.R_newB ho0 (g := gb338) (o := .cells #[.string (⟨#[]⟩ : ByteArray), .string (⟨#[]⟩ : ByteArray), .string (⟨#[]⟩ : ByteArray)] 37 (0, 0)) (bk_ BK338)) (below_size au13_7)); have n2_ := Aside0.mk (hb); have n3_ := Aside0.mk (hi); clear BK338; clear HB; clear HI343; have BK338 := n0_; have HO346 := n1_; have HB := n2_; have HI343 := n3_; clear n0_ n1_ n2_ n3_; (try clear hb); (try clear hb2); (try clear hk); (try clear hi); (try clear ho0)) | ((with_reducible refine gate_callee (f := 73) rfl ?_); refine gl_ 12 Try.func73 #[.pointer (some ⟨g343, 0, none⟩)] ?_ rfl rfl rfl rfl; (with_reducible refine (spec_l01Src_l08Cross.calls g343 t339 t347 t348 t349 t350 t351 t352 t353 t354 t355 w _ ?side1 ?side2 A4.out).mono ?_); (case side1 => exact au13_13); (case side2 => exact au13_14); rintro e w30 ⟨rfl, hi, hb, hk⟩; refine ⟨_, rfl, ?_⟩; have n0_ := Aside0.mk (KeepBut.blk hk (g' := gb338) (o := .cells #[.string (⟨#[]⟩ : ByteArray), .string (⟨#[]⟩ : ByteArray), .string (⟨#[]⟩ : ByteArray)] 37 (0, 0)) (bk_ BK338) NB338_343.out (by simp)); have n1_ := Aside0.mk (Kd.R_mono (Kd.R_keep (IsS116.apart (show IsS116 w _ g343 t339 t347 t348 t349 from by repeat (first | (with_reducible first | exact HI343.out | apply IsS116.alloc | apply IsS116.drewN | apply IsS116.drew | apply IsS116.set_1 | apply IsS116.set_2 | apply IsS116.set_3 | refine IsS116.far ?_ NB343_338.out _) | exact HI343.out)) (rk_ HO346) (by decide)) hk (fun _ h => h.2)) (fun _ h => h.1)); have n2_ := Aside0.mk (hb); have n3_ := Aside0.mk (hi); clear BK338; clear HO346; clear HB; clear HI343; have BK338 := n0_; have HO346 := n1_; have HB := n2_; have HI343 := n3_; clear n0_ n1_ n2_ n3_; (try clear hb); (try clear hb2); (try clear hk); (try clear hi)) | ((with_reducible refine gate_dst (N := 6) rfl ?_); refine box_event ?hg (N := 6) ?hd (cs := #[.string (⟨#[]⟩ : ByteArray), .string (⟨#[]⟩ : ByteArray), .string (⟨#[]⟩ : ByteArray)]) (t := 37) ?hr ?_; (case hd => rfl); (case hg => rfl); (case hr => exact hr_); intro gb356 hg w31 hbox hb; have n0_ := Aside0.mk (Kd.R_below (Kd.R_elderB (rk_ HO346) gb356 (Nat.le_of_eq hg.symm)) hb); have n1_ := Aside0.mk (blkb_ BK338 hb); have n2_ := Aside0.mk (IsS116.below au13_25 hb); have n3_ := Aside0.mk (below_step au13_7 hb); have n4_ := Aside0.mk (hbox); have n5_ := Aside0.mk ((by rw [hg]; exact (below_size au13_7) : w.heap.size ≤ gb356)); have n6_ := Aside0.mk ((by rw [hg]; exact (below_size au13_7) : w.heap.size ≤ gb356)); have n7_ := Aside0.mk (gn_ hg (blkl_ BK338)); have n8_ := Aside0.mk (gm_ hg (blkl_ BK338)); have n9_ := Aside0.mk ((by rw [hg]; exact Nat.ne_of_lt (IsS116.lt (show IsS116 w _ g343 t339 t353 t354 t355 from by repeat (first | (with_reducible first | exact HI343.out | apply IsS116.alloc | apply IsS116.drewN | apply IsS116.drew | apply IsS116.set_1 | apply IsS116.set_2 | apply IsS116.set_3 | refine IsS116.far ?_ NB343_338.out _) | exact HI343.out))) : g343 ≠ gb356)); have n10_ := Aside0.mk ((by rw [hg]; exact Nat.ne_of_gt (IsS116.lt (show IsS116 w _ g343 t339 t353 t354 t355 from by repeat (first | (with_reducible first | exact HI343.out | apply IsS116.alloc | apply IsS116.drewN | apply IsS116.drew | apply IsS116.set_1 | apply IsS116.set_2 | apply IsS116.set_3 | refine IsS116.far ?_ NB343_338.out _) | exact HI343.out))) : gb356 ≠ g343)); clear HO346; clear BK338; clear HI343; clear HB; have HO346 := n0_; have BK338 := n1_; have HI343 := n2_; have HB := n3_; have BK356 := n4_; have GW356 := n5_; have GE356 := n6_; have NB338_356 := n7_; have NB356_338 := n8_; have NB343_356 := n9_; have NB356_343 := n10_; clear n0_ n1_ n2_ n3_ n4_ n5_ n6_ n7_ n8_ n9_ n10_; clear hb hbox hg; have hnb32 := NB356_338.out; have hnc32 := NB338_356.out; have hnb33 := NB356_343.out; have hnc33 := NB343_356.out; obtain ⟨hcz34_0, hcz34_1, hcz34_2, hfz34_0, hfz34_1, hfz34_2⟩ := cellsF3 BK356.out) | ((with_reducible refine gate_callee (f := 74) rfl ?_); refine gl_ 14 Try.func74 #[.pointer (some ⟨g343, 0, none⟩), .int .i64 12] ?_ rfl rfl rfl rfl; (with_reducible refine (spec_l01Src_one.calls g343 t339 t353 t354 t355 12 false t358 t359 t360 w _ ?side1 ?side2 A5.out).mono ?_); (case side1 => exact au13_15); (case side2 => exact au13_18); rintro e w35 ⟨rfl, hi, hb, hk⟩; refine ⟨_, rfl, ?_⟩; have n0_ := Aside0.mk (KeepBut.blk hk (g' := gb338) (o := .cells #[.string (⟨#[]⟩ : ByteArray), .string (⟨#[]⟩ : ByteArray), .string (⟨#[]⟩ : ByteArray)] 37 (0, 0)) au13_16 NB338_343.out (by simp)); have n1_ := Aside0.mk (Kd.R_mono (Kd.R_keep (IsS116.apart (show IsS116 w _ g343 t339 t353 t354 t355 from by repeat (first | (with_reducible first | exact HI343.out | apply IsS116.alloc | apply IsS116.drewN | apply IsS116.drew | apply IsS116.set_1 | apply IsS116.set_2 | apply IsS116.set_3 | refine IsS116.far ?_ NB343_338.out _ | refine IsS116.far ?_ NB343_356.out _) | exact HI343.out)) au13_23 (by decide)) hk (fun _ h => h.2)) (fun _ h => h.1)); have n2_ := Aside0.mk (KeepBut.blk hk (g' := gb356) (o := .cells #[.string t350, .string t351, .string t352] 37 (0, 0)) au13_11 NB356_343.out (by simp)); have n3_ := Aside0.mk (hb); have n4_ := Aside0.mk (hi); clear BK338; clear HO346; clear BK356; clear HB; clear HI343; have BK338 := n0_; have HO346 := n1_; have BK356 := n2_; have HB := n3_; have HI343 := n4_; clear n0_ n1_ n2_ n3_ n4_; (try clear hb); (try clear hb2); (try clear hk); (try clear hi)))
    have n0_ := Aside0.mk (Kd.R_drew HO346.out)
    have n1_ := Aside0.mk (blk_drew BK338.out)
    have n2_ := Aside0.mk (blk_drew BK356.out)
    have n3_ := Aside0.mk (IsS116.drew HI343.out)
    have n4_ := Aside0.mk (below_drew1 HB.out)
    clear HO346
    clear BK338
    clear BK356
    clear HI343
    clear HB
    have HO346 := n0_
    have BK338 := n1_
    have BK356 := n2_
    have HI343 := n3_
    have HB := n4_
    clear n0_ n1_ n2_ n3_ n4_
    refine start_ (n := 4) (S := fun w' => w'.cell? ⟨gb356, 0, none⟩ = some (.string t350) ∧ w'.cell? ⟨gb356, 1, none⟩ = some (.string t351) ∧ w'.cell? ⟨gb356, 2, none⟩ = some (.string t352)) (ds := []) #[false, false, false, false] (by kernel_rfl) rfl rfl ⟨(blk_cell BK356.out 0).trans rfl, (blk_cell BK356.out 1).trans rfl, (blk_cell BK356.out 2).trans rfl⟩ (fun hHeld => ?_)
    generalize w35.drew = w36 at HO346 BK338 BK356 HI343 HB hHeld ⊢
    refine pure_ (i := 0) (N := some 19) (v := ?_) (a' := ?_) #[true, false, false, false] rfl rfl (by kernel_rfl) (fun _ _ _ h => h) (Or.inl ⟨by rfl, ?_⟩) ?_ ?_
    rotate_left
    · intro w'
      go_simp
      with_reducible rfl
    rotate_left
    · simp only [Act.put, List.setIfInBounds_toArray, List.set_cons_zero, List.set_cons_succ, i64_w, i32_w]
      rfl
    refine pure_ (i := 2) (N := some 2) (v := ?_) (a' := ?_) #[true, false, true, false] rfl rfl (by kernel_rfl) (fun _ _ _ h => h) (Or.inl ⟨by rfl, ?_⟩) ?_ ?_
    rotate_left
    · intro w'
      go_simp
      with_reducible rfl
    rotate_left
    · simp only [Act.put, List.setIfInBounds_toArray, List.set_cons_zero, List.set_cons_succ, i64_w, i32_w]
      rfl
    refine take_ (i := 1) (N := some 20) (v := ?_) (a' := ?_) #[true, true, true, false] rfl rfl (by kernel_rfl) (fun _ _ _ h => h) (Or.inl ⟨by rfl, ?_⟩) hHeld ?_ ?_
    rotate_left
    · rintro w' ⟨s0, s1, s2⟩
      go_simp
      with_reducible rfl
    rotate_left
    · simp only [Act.put, List.setIfInBounds_toArray, List.set_cons_zero, List.set_cons_succ, i64_w, i32_w]
      rfl
    refine one_ (i := 3) (N := none) #[true, true, true, true] rfl rfl (by kernel_rfl) (by decide) (fun K hK => ?_)
    have hs37 : w36.cell? ⟨gb338, 0, none⟩ = some (.string (⟨#[]⟩ : ByteArray)) := (blk_cell BK338.out 0).trans rfl
    have hfs37 := blk_frozen BK338.out 0
    have hns37_1 := NB356_338.out
    have hms37_1 := NB338_356.out
    have hs38 : w36.cell? ⟨gb338, 1, none⟩ = some (.string (⟨#[]⟩ : ByteArray)) := (blk_cell BK338.out 1).trans rfl
    have hfs38 := blk_frozen BK338.out 1
    have hns38_1 := NB356_338.out
    have hms38_1 := NB338_356.out
    have hs39 : w36.cell? ⟨gb338, 2, none⟩ = some (.string (⟨#[]⟩ : ByteArray)) := (blk_cell BK338.out 2).trans rfl
    have hfs39 := blk_frozen BK338.out 2
    have hns39_1 := NB356_338.out
    have hms39_1 := NB338_356.out
    refine skip_ (w1 := ?_) (by rfl) rfl ?_ ?_
    rotate_left
    · go_simp
      rfl
    refine hK.out _ _ ⟨((cell_far (p := ⟨gb338, _, none⟩) NB356_338.out _).trans (((cell_far (p := ⟨gb338, _, none⟩) NB356_338.out _).trans (((cell_far (p := ⟨gb338, _, none⟩) NB356_338.out _).trans (hHeld.1)))))), ((cell_far (p := ⟨gb338, _, none⟩) NB356_338.out _).trans (((cell_far (p := ⟨gb338, _, none⟩) NB356_338.out _).trans (((cell_far (p := ⟨gb338, _, none⟩) NB356_338.out _).trans (hHeld.2.1)))))), ((cell_far (p := ⟨gb338, _, none⟩) NB356_338.out _).trans (((cell_far (p := ⟨gb338, _, none⟩) NB356_338.out _).trans (((cell_far (p := ⟨gb338, _, none⟩) NB356_338.out _).trans (hHeld.2.2))))))⟩ (fun hHeld => ?_)
    clear hK K
    refine done_ (by kernel_rfl) ?_
    try go_wp2
    refine bodyPost_ret (results_tc rfl _ _ gb338 37 #[.string t350, .string t351, .string t352] (0, 0) _ rfl au13_12 Try.underlying37 rfl (by kernel_rfl)) rfl ?_
    exact ⟨_, au13_10, by (with_reducible repeat (first | apply Kd.R_alloc | apply Kd.R_drewN | apply Kd.R_drew)); exact Kd.R_mono (Kd.R_far (p := ⟨gb338, 2, none⟩) (Kd.R_far (p := ⟨gb338, 1, none⟩) (Kd.R_far (p := ⟨gb338, 0, none⟩) (Kd.R_mono HO346.out (fun k_ hk => (⟨hk, hk.1.2⟩ : _ ∧ k_ ≠ gb338))) (fun _ hk => hk.2) (.string t350)) (fun _ hk => hk.2) (.string t351)) (fun _ hk => hk.2) (.string t352)) (fun _ hk => trivial), au13_17⟩

end Go.Proofs.Ytjffakoifpldeaa.PFnCross
