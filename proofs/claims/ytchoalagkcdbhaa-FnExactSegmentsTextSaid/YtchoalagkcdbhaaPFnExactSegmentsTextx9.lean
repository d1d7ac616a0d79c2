-- printed by a program of this session (wip/xp/xprint.py) out of the translation; Lean checks it
import Derived.Test.YtchoalagkcdbhaaPFnExactSegmentsTextx0
import Derived.Test.YtchoalagkcdbhaaPFnExactSegmentsTextx7
import Derived.Test.YtchoalagkcdbhaaPFnExactSegmentsTextx8
namespace Go.Proofs.Ytchoalagkcdbhaa.PFnExactSegmentsText
open Go.RowKit Go.Proofs.YtchoalagkcdbhaaW.PrintWords Go.Proofs.YtchoalagkcdbhaaW.PrintLast Go.Proofs.YtchoalagkcdbhaaW.PrintMore
attribute [local go_sem] max2_int min2_int max_two min_two max_three min_three max_four min_four   -- for this text's walks alone
set_option linter.unusedVariables false
set_option linter.unusedSimpArgs false

theorem au9_0 {p : Prop} (h : p := by (with_reducible repeat (first | apply Go.Proofs.YtchoalagkcdbhaaW.Mark.RM_alloc | apply Go.Proofs.YtchoalagkcdbhaaW.Mark.RM_drewN | apply Go.Proofs.YtchoalagkcdbhaaW.Mark.RM_drew)); exact HO_5.out) : p := h
theorem au9_1 {p : Prop} (h : p := by (with_reducible repeat (first | apply Go.Proofs.YtchoalagkcdbhaaW.Mark.RM_alloc | apply Go.Proofs.YtchoalagkcdbhaaW.Mark.RM_drewN | apply Go.Proofs.YtchoalagkcdbhaaW.Mark.RM_drew)); exact HO282.out) : p := h
theorem au9_2 {p : Prop} (h : p := by first | rfl | (simp [errW_none, errW_some] <;> rfl) | (simp [*, errW_none, errW_some] <;> rfl)) : p := h
theorem au9_3 {p : Prop} (h : p := by repeat (first | exact HR0.out | (with_reducible refine Kd.C_alloc ?_ _) | (with_reducible refine Kd.C_drewN ?_ _) | (with_reducible refine Kd.C_drew ?_))) : p := h
theorem au9_4 {p : Prop} (h : p := by have := HK1.out; have := HK2.out; omega) : p := h

/-! ### slices_ContainsFunc_string_string__impl_longText_1: function 80 -/
def slices_ContainsFunc_string_string__impl_longText_1.f (k : Nat) (l0 : List ByteArray)  : Option (Bool) := (slices_IndexFunc_string_string__impl_longText_1.f k l0).bind fun t245 => (some (decide (t245 ≥ 0)))
theorem slices_ContainsFunc_string_string__impl_longText_1.mono : ∀ a0 k, LeO (slices_ContainsFunc_string_string__impl_longText_1.f k a0) (slices_ContainsFunc_string_string__impl_longText_1.f (k + 1) a0) := by
  intro a0 k
  unfold slices_ContainsFunc_string_string__impl_longText_1.f
  repeat' first
      | (with_reducible exact slices_IndexFunc_string_string__impl_longText_1.mono _ _)
      | (with_reducible exact LeO.refl _)
      | (with_reducible exact LeO.none _)
      | (with_reducible refine LeO.ite ?_ ?_)
      | (with_reducible refine LeO.bind ?_ (fun _ => ?_))
      | exact slices_IndexFunc_string_string__impl_longText_1.mono _ _
      | exact LeO.none _
      | refine LeO.ite ?_ ?_
      | refine LeO.bind ?_ (fun _ => ?_)
set_option maxHeartbeats 8000000 in
set_option maxRecDepth 100000 in
theorem slices_ContainsFunc_string_string__impl_longText_1.calls (k : Nat) (A0 : Option Addr) (c0 : Nat) (l0 : List ByteArray)  (r : Bool) (w : World) (hr0 : Kd.C Kd.string w A0 l0.length l0) (hc0 : l0.length ≤ c0) (h : slices_ContainsFunc_string_string__impl_longText_1.f k l0 = some r) :
    Calls Try.prog 80 #[.slice A0 l0.length c0, .func (.func 100) #[] #[]] w fun e w' => e = .returned (.bool r) ∧ Drawn0 w w' := by
  have HR0 := Aside0.mk hr0
  have HC0 := Aside0.mk hc0
  clear hr0 hc0
  have H : ((slices_IndexFunc_string_string__impl_longText_1.f k l0).bind fun t245 => (some (decide (t245 ≥ 0)))) = some r := h
  clear h
  replace H := Option.bind_eq_some_iff.mp H
  obtain ⟨t245, A30, H⟩ := H
  replace H : (some (decide (t245 ≥ 0))) = some r := H
  have A3 := Aside0.mk A30
  clear A30
  obtain rfl := Option.some.inj H
  go_enter Try.func80, Try.ntmps80
  go_wp2_with (first | ((with_reducible refine gate_callee (f := 111) rfl ?_); refine gl_ 7 Try.func111 #[.slice A0 l0.length c0, .func (.func 100) #[] #[]] ?_ rfl rfl rfl rfl; (with_reducible refine (slices_IndexFunc_string_string__impl_longText_1.calls k _ _ l0  t245 _ ?side1 ?side2 A3.out).mono ?_); (case side1 => exact au9_3); (case side2 => exact HC0.out); rintro e w' ⟨rfl, ⟨nd, rfl⟩⟩; refine ⟨_, rfl, ?_⟩))
  go_ret
  exact ⟨er_, dn_⟩

/-! ### impl_longText: function 58 -/
def impl_longText.f (k : Nat) (l0 : List ByteArray) : Option (Bool) := (slices_ContainsFunc_string_string__impl_longText_1.f k l0).bind fun t246 => (some t246)
theorem impl_longText.mono : ∀ a0 k, LeO (impl_longText.f k a0) (impl_longText.f (k + 1) a0) := by
  intro a0 k
  unfold impl_longText.f
  repeat' first
      | (with_reducible exact slices_ContainsFunc_string_string__impl_longText_1.mono _ _)
      | (with_reducible exact LeO.refl _)
      | (with_reducible exact LeO.none _)
      | (with_reducible refine LeO.ite ?_ ?_)
      | (with_reducible refine LeO.bind ?_ (fun _ => ?_))
      | exact slices_ContainsFunc_string_string__impl_longText_1.mono _ _
      | exact LeO.none _
      | refine LeO.ite ?_ ?_
      | refine LeO.bind ?_ (fun _ => ?_)
set_option maxHeartbeats 8000000 in
set_option maxRecDepth 100000 in
theorem impl_longText.calls (k : Nat) (A0 : Option Addr) (c0 : Nat) (l0 : List ByteArray) (r : Bool) (w : World) (hr0 : Kd.C Kd.string w A0 l0.length l0) (hc0 : l0.length ≤ c0) (h : impl_longText.f k l0 = some r) :
    Calls Try.prog 58 #[.slice A0 l0.length c0] w fun e w' => e = .returned (.bool r) ∧ Drawn0 w w' := by
  have HR0 := Aside0.mk hr0
  have HC0 := Aside0.mk hc0
  clear hr0 hc0
  have H : ((slices_ContainsFunc_string_string__impl_longText_1.f k l0).bind fun t246 => (some t246)) = some r := h
  clear h
  replace H := Option.bind_eq_some_iff.mp H
  obtain ⟨t246, A20, H⟩ := H
  replace H : (some t246) = some r := H
  have A2 := Aside0.mk A20
  clear A20
  obtain rfl := Option.some.inj H
  go_enter Try.func58, Try.ntmps58
  go_wp2_with (first | ((with_reducible refine gate_callee (f := 80) rfl ?_); refine gl_ 4 Try.func80 #[.slice A0 l0.length c0, .func (.func 100) #[] #[]] ?_ rfl rfl rfl rfl; (with_reducible refine (slices_ContainsFunc_string_string__impl_longText_1.calls k _ _ l0  t246 _ ?side1 ?side2 A2.out).mono ?_); (case side1 => exact au9_3); (case side2 => exact HC0.out); rintro e w' ⟨rfl, ⟨nd, rfl⟩⟩; refine ⟨_, rfl, ?_⟩))
  go_ret
  exact ⟨er_, dn_⟩

/-! ### impl_Syntax_isOne: function 106 -/
def impl_Syntax_isOne.f (k : Nat) (a0_0 : Int) (a0_1 : Int) (a0_2 : Int) (a0_3 : Int) (a1 : Int) : Option (Bool) := (impl_Syntax_fields.f a0_0 a0_1 a0_2 a0_3).bind fun t248 => ((slices_Contains_int64_int64.f k t248 (wrap64 (a1))).bind fun t251 => (some t251))
theorem impl_Syntax_isOne.mono : ∀ a0 a1 a2 a3 a4 k, LeO (impl_Syntax_isOne.f k a0 a1 a2 a3 a4) (impl_Syntax_isOne.f (k + 1) a0 a1 a2 a3 a4) := by
  intro a0 a1 a2 a3 a4 k
  unfold impl_Syntax_isOne.f
  repeat' first
      | (with_reducible exact slices_Contains_int64_int64.mono _ _ _)
      | (with_reducible exact LeO.refl _)
      | (with_reducible exact LeO.none _)
      | (with_reducible refine LeO.ite ?_ ?_)
      | (with_reducible refine LeO.bind ?_ (fun _ => ?_))
      | exact slices_Contains_int64_int64.mono _ _ _
      | exact LeO.none _
      | refine LeO.ite ?_ ?_
      | refine LeO.bind ?_ (fun _ => ?_)
set_option maxHeartbeats 8000000 in
set_option maxRecDepth 100000 in
theorem impl_Syntax_isOne.calls (k : Nat) (a0_0 : Int) (a0_1 : Int) (a0_2 : Int) (a0_3 : Int) (a1 : Int) (r : Bool) (w : World) (h : impl_Syntax_isOne.f k a0_0 a0_1 a0_2 a0_3 a1 = some r) :
    Calls Try.prog 106 #[.agg #[.int .i64 a0_0, .int .i64 a0_1, .int .i64 a0_2, .int .i64 a0_3], .int .u8 a1] w fun e w' => e = .returned (.bool r) ∧ Below w.heap.size w w' := by
  have hu23 := Try.underlying23
  have HB := Aside0.mk (Below.refl w.heap.size w)
  have H : ((impl_Syntax_fields.f a0_0 a0_1 a0_2 a0_3).bind fun t248 => ((slices_Contains_int64_int64.f k t248 (wrap64 (a1))).bind fun t251 => (some t251))) = some r := h
  clear h
  replace H := Option.bind_eq_some_iff.mp H
  obtain ⟨t248, A30, H⟩ := H
  replace H : ((slices_Contains_int64_int64.f k t248 (wrap64 (a1))).bind fun t251 => (some t251)) = some r := H
  have A3 := Aside0.mk A30
  clear A30
  replace H := Option.bind_eq_some_iff.mp H
  obtain ⟨t251, A40, H⟩ := H
  replace H : (some t251) = some r := H
  have A4 := Aside0.mk A40
  clear A40
  obtain rfl := Option.some.inj H
  go_enter Try.func106, Try.ntmps106
  go_wp2_with (first | ((with_reducible refine gate_dst (N := 2) rfl ?_); refine box_event ?hg (N := 2) ?hd (cs := #[.int .i64 a0_0, .int .i64 a0_1, .int .i64 a0_2, .int .i64 a0_3]) (t := 23) ?hr ?_; (case hd => rfl); (case hg => rfl); (case hr => exact hr_); intro gb247 hg w5 hbox hb; have n0_ := Aside0.mk (below_step bl_ hb); have n1_ := Aside0.mk (hbox); have n2_ := Aside0.mk (gw_ hg bl_); have n3_ := Aside0.mk (gw_ hg bl_); clear HB; have HB := n0_; have BK247 := n1_; have GW247 := n2_; have GE247 := n3_; clear n0_ n1_ n2_ n3_; clear hb hbox hg; obtain ⟨hcz6_0, hcz6_1, hcz6_2, hcz6_3, hfz6_0, hfz6_1, hfz6_2, hfz6_3⟩ := cellsF4 BK247.out) | ((with_reducible refine gate_callee (f := 102) rfl ?_); refine gl_ 6 Try.func102 #[.agg #[.int .i64 a0_0, .int .i64 a0_1, .int .i64 a0_2, .int .i64 a0_3]] ?_ rfl rfl rfl rfl; (with_reducible refine (impl_Syntax_fields.calls a0_0 a0_1 a0_2 a0_3 t248 _ A3.out).mono ?_); rintro e w7 ⟨v249, rfl, ho0, hb⟩; refine ⟨_, rfl, ?_⟩; have n0_ := Aside0.mk (Kd.R_lower ho0 (below_size bl_)); have n1_ := Aside0.mk (blkb_ BK247 hb); have n2_ := Aside0.mk (below_step bl_ hb); clear BK247; clear HB; have HO250 := n0_; have BK247 := n1_; have HB := n2_; clear n0_ n1_ n2_; (try clear hb); (try clear hb2); (try clear hk); (try clear hi); (try clear ho0); obtain ⟨Ao8, co8, eo8⟩ := Kd.R_slice HO250.out; subst eo8) | ((with_reducible refine gate_callee (f := 103) rfl ?_); refine gl_ 9 Try.func103 #[.slice Ao8 t248.length co8, .int .i64 (wrap64 (a1))] ?_ rfl rfl rfl rfl; (with_reducible refine (slices_Contains_int64_int64.calls k _ _ t248 (wrap64 (a1)) t251 _ ?side1 ?side2 A4.out).mono ?_); (case side1 => repeat (first | exact (Kd.R_reads' HO250.out).2.2 | (with_reducible refine Kd.C_alloc ?_ _) | (with_reducible refine Kd.C_drewN ?_ _) | (with_reducible refine Kd.C_drew ?_))); (case side2 => exact (Kd.R_reads' HO250.out).2.1); rintro e w' ⟨rfl, ⟨nd, rfl⟩⟩; refine ⟨_, rfl, ?_⟩))
  go_ret
  exact ⟨au9_2, bl_⟩

/-! ### impl_Syntax_escaped: function 73 -/
def impl_Syntax_escaped.l0 : Nat → ByteArray → List Int → Int → Int → Int → Int → Int → Int → Option (ByteArray)
  | 0, _, _, _, _, _, _, _, _ => none
  | k + 1, x1, x5, x9, x10, x253000, x253001, x253002, x253003 => if x10 < x9 then (if 0 ≤ x10 then (if x10 < (x1.size : Int) then ((impl_Syntax_isOne.f k x253000 x253001 x253002 x253003 (bt x1 x10)).bind fun t256 => (if t256 = true then (if x5.length < 140737488355328 then ((some (x5 ++ [(x253003) % 256] : List Int)).bind fun y257 => (if y257.length < 140737488355328 then (impl_Syntax_escaped.l0 k x1 (y257 ++ [bt x1 x10]) x9 (wrap64 (x10 + 1)) x253000 x253001 x253002 x253003) else (none))) else (none)) else (if x5.length < 140737488355328 then (impl_Syntax_escaped.l0 k x1 (x5 ++ [bt x1 x10]) x9 (wrap64 (x10 + 1)) x253000 x253001 x253002 x253003) else (none)))) else (none)) else (none)) else (some (strOfNums x5))
def impl_Syntax_escaped.f (k : Nat) (a0_0 : Int) (a0_1 : Int) (a0_2 : Int) (a0_3 : Int) (a1 : ByteArray) : Option (ByteArray) := impl_Syntax_escaped.l0 k a1 (([] : List Int)) (a1.size : Int) 0 a0_0 a0_1 a0_2 a0_3
theorem impl_Syntax_escaped.mono_l : ∀ k, (∀ y0 y1 y2 y3 y4 y5 y6 y7, LeO (impl_Syntax_escaped.l0 k y0 y1 y2 y3 y4 y5 y6 y7) (impl_Syntax_escaped.l0 (k + 1) y0 y1 y2 y3 y4 y5 y6 y7))
  | 0 => fun _ _ _ _ _ _ _ _ r h => by simp [impl_Syntax_escaped.l0] at h
  | k + 1 => by
    have ih0 := impl_Syntax_escaped.mono_l k
    · intro y0 y1 y2 y3 y4 y5 y6 y7
      unfold impl_Syntax_escaped.l0
      repeat' first
      | (with_reducible exact ih0 _ _ _ _ _ _ _ _)
      | (with_reducible exact impl_Syntax_isOne.mono _ _ _ _ _ _)
      | (with_reducible exact LeO.refl _)
      | (with_reducible exact LeO.none _)
      | (with_reducible refine LeO.ite ?_ ?_)
      | (with_reducible refine LeO.bind ?_ (fun _ => ?_))
      | exact ih0 _ _ _ _ _ _ _ _
      | exact impl_Syntax_isOne.mono _ _ _ _ _ _
      | exact LeO.none _
      | refine LeO.ite ?_ ?_
      | refine LeO.bind ?_ (fun _ => ?_)
theorem impl_Syntax_escaped.mono : ∀ a0 a1 a2 a3 a4 k, LeO (impl_Syntax_escaped.f k a0 a1 a2 a3 a4) (impl_Syntax_escaped.f (k + 1) a0 a1 a2 a3 a4) := by
  intro a0 a1 a2 a3 a4 k
  have ih0 := impl_Syntax_escaped.mono_l k
  unfold impl_Syntax_escaped.f
  repeat' first
      | (with_reducible exact ih0 _ _ _ _ _ _ _ _)
      | (with_reducible exact impl_Syntax_isOne.mono _ _ _ _ _ _)
      | (with_reducible exact LeO.refl _)
      | (with_reducible exact LeO.none _)
      | (with_reducible refine LeO.ite ?_ ?_)
      | (with_reducible refine LeO.bind ?_ (fun _ => ?_))
      | exact ih0 _ _ _ _ _ _ _ _
      | exact impl_Syntax_isOne.mono _ _ _ _ _ _
      | exact LeO.none _
      | refine LeO.ite ?_ ?_
      | refine LeO.bind ?_ (fun _ => ?_)
set_option maxHeartbeats 8000000 in
set_option maxRecDepth 100000 in
theorem impl_Syntax_escaped.calls (k : Nat) (a0_0 : Int) (a0_1 : Int) (a0_2 : Int) (a0_3 : Int) (a1 : ByteArray) (r : ByteArray) (w : World) (h : impl_Syntax_escaped.f k a0_0 a0_1 a0_2 a0_3 a1 = some r) :
    Calls Try.prog 73 #[.agg #[.int .i64 a0_0, .int .i64 a0_1, .int .i64 a0_2, .int .i64 a0_3], .string a1] w fun e w' => e = .returned (.string r) ∧ Below w.heap.size w w' := by
  have hu23 := Try.underlying23
  have HB := Aside0.mk (Below.refl w.heap.size w)
  have H : (impl_Syntax_escaped.l0 k a1 (([] : List Int)) (a1.size : Int) 0 a0_0 a0_1 a0_2 a0_3) = some r := h
  clear h
  obtain ⟨y253, hy253⟩ : ∃ y_ : List Int, y_ = (([] : List Int)) := ⟨_, rfl⟩
  replace H : (impl_Syntax_escaped.l0 k a1 y253 (a1.size : Int) 0 a0_0 a0_1 a0_2 a0_3) = some r := by first | (rw [hy253]; with_reducible exact H) | (have H2_ := (Option.bind_some _ _).symm.trans H; rw [hy253]; with_reducible exact H2_) | (have H2_ := (Option.bind_some _ _).symm.trans H; with_reducible exact H2_) | with_reducible exact H | (rw [hy253]; exact H) | exact H
  have Ny253 := Aside0.mk hy253
  clear hy253
  have H' := Aside0.mk H
  clear H
  go_enter Try.func73, Try.ntmps73
  go_wp2_with (first | ((with_reducible refine gate_dst (N := 2) rfl ?_); refine box_event ?hg (N := 2) ?hd (cs := #[.int .i64 a0_0, .int .i64 a0_1, .int .i64 a0_2, .int .i64 a0_3]) (t := 23) ?hr ?_; (case hd => rfl); (case hg => rfl); (case hr => exact hr_); intro gb252 hg w3 hbox hb; have n0_ := Aside0.mk (below_step bl_ hb); have n1_ := Aside0.mk (hbox); have n2_ := Aside0.mk (gw_ hg bl_); have n3_ := Aside0.mk (gw_ hg bl_); clear HB; have HB := n0_; have BK252 := n1_; have GW252 := n2_; have GE252 := n3_; clear n0_ n1_ n2_ n3_; clear hb hbox hg) | ((with_reducible refine gate_dst (N := 7) rfl ?_); refine Kd.R_lit (Kd.int .u8) _ 5 ?hg (N := 7) ?hd (xs := ([] : List Int)) (inner := []) (ok := fun _ => True) (okp := fun _ => True) ?hr ?hp (fun _ hk => hk) trivial (Below.refl _ _) (Nat.le_refl _) (by simp) ?_; (case hd => rfl); (case hg => rfl); (case hr => exact hr_); (case hp => exact (Reps.none _ _)); intro v254 w4 ho5 hb hg_ hnew_; clear hg_ hnew_; (first | rw [← Ny253.out] at ho5 | (simp only [Int.reduceToNat] at ho5; rw [← Ny253.out] at ho5)); have n0_ := Aside0.mk (Kd.R_lower ho5 (below_size bl_)); have n1_ := Aside0.mk (blkb_ BK252 hb); have n2_ := Aside0.mk (below_step bl_ hb); clear BK252; clear HB; have HO255 := n0_; have BK252 := n1_; have HB := n2_; clear n0_ n1_ n2_; clear hb ho5))
  go_loopg [5, 10] k (fun kq v5 v10 w' => ∃ (x5_1 : List Int) (x10_1 : Int), v10 = .int .i64 x10_1 ∧ Aside0 (impl_Syntax_escaped.l0 kq a1 x5_1 (a1.size : Int) x10_1 a0_0 a0_1 a0_2 a0_3 = some r) ∧ Aside0 (kq ≤ k) ∧ Aside0 (Kd.R (Kd.int .u8) 5 w' w.heap.size (fun _ => True) v5 x5_1) ∧ Aside0 (w'.heap[gb252]? = some (.cells #[.int .i64 a0_0, .int .i64 a0_1, .int .i64 a0_2, .int .i64 a0_3] 23 (0, 0))) ∧ Aside0 (Below w.heap.size w w'))
  case atStart => exact ⟨(y253), (0), er_, H', ⟨Nat.le_refl _⟩, ⟨rk_ HO255⟩, ⟨bk_ BK252⟩, ⟨bl_⟩⟩
  case round =>
    clear H'
    try clear p2
    obtain ⟨x5_1, x10_1, rfl, HA, HK1, HO_5, BK252, HB⟩ := hrel
    cases gk with
    | zero => exact absurd HA.out (by simp [impl_Syntax_escaped.l0])
    | succ k1 =>
      have H := HA.out
      clear HA
      simp only [impl_Syntax_escaped.l0] at H
      by_cases c6 : x10_1 < (a1.size : Int)
      · rw [if_pos c6] at H
        have c6b0 : decide (x10_1 < (a1.size : Int)) = true := decide_eq_true c6
        clear c6
        by_cases c7 : 0 ≤ x10_1
        · rw [if_pos c7] at H
          have c7b0 : decide (0 ≤ x10_1) = true := decide_eq_true c7
          clear c7
          by_cases c8 : x10_1 < (a1.size : Int)
          · rw [if_pos c8] at H
            have c8b0 : decide (x10_1 < (a1.size : Int)) = true := decide_eq_true c8
            clear c8
            replace H := Option.bind_eq_some_iff.mp H
            obtain ⟨t256, A100, H⟩ := H
            replace H : (if t256 = true then (if x5_1.length < 140737488355328 then ((some (x5_1 ++ [(a0_3) % 256] : List Int)).bind fun y257 => (if y257.length < 140737488355328 then (impl_Syntax_escaped.l0 k1 a1 (y257 ++ [bt a1 x10_1]) (a1.size : Int) (wrap64 (x10_1 + 1)) a0_0 a0_1 a0_2 a0_3) else (none))) else (none)) else (if x5_1.length < 140737488355328 then (impl_Syntax_escaped.l0 k1 a1 (x5_1 ++ [bt a1 x10_1]) (a1.size : Int) (wrap64 (x10_1 + 1)) a0_0 a0_1 a0_2 a0_3) else (none))) = some r := H
            have A10 := Aside0.mk A100
            clear A100
            by_cases c11 : t256 = true
            · subst c11
              have H1 : (if x5_1.length < 140737488355328 then ((some (x5_1 ++ [(a0_3) % 256] : List Int)).bind fun y257 => (if y257.length < 140737488355328 then (impl_Syntax_escaped.l0 k1 a1 (y257 ++ [bt a1 x10_1]) (a1.size : Int) (wrap64 (x10_1 + 1)) a0_0 a0_1 a0_2 a0_3) else (none))) else (none)) = some r := by rw [if_pos rfl] at H; exact H
              clear H
              have H := H1
              clear H1
              by_cases c12 : x5_1.length < 140737488355328
              · rw [if_pos c12] at H
                have LMc12 := Aside0.mk c12
                clear c12
                obtain ⟨y257, hy257⟩ : ∃ y_ : List Int, y_ = (x5_1 ++ [(a0_3) % 256]) := ⟨_, rfl⟩
                replace H : (if y257.length < 140737488355328 then (impl_Syntax_escaped.l0 k1 a1 (y257 ++ [bt a1 x10_1]) (a1.size : Int) (wrap64 (x10_1 + 1)) a0_0 a0_1 a0_2 a0_3) else (none)) = some r := by first | (rw [hy257]; with_reducible exact H) | (have H2_ := (Option.bind_some _ _).symm.trans H; rw [hy257]; with_reducible exact H2_) | (have H2_ := (Option.bind_some _ _).symm.trans H; with_reducible exact H2_) | with_reducible exact H | (rw [hy257]; exact H) | exact H
                have Ny257 := Aside0.mk hy257
                clear hy257
                by_cases c14 : y257.length < 140737488355328
                · rw [if_pos c14] at H
                  have LMc14 := Aside0.mk c14
                  clear c14
                  obtain ⟨y260, hy260⟩ : ∃ y_ : List Int, y_ = (y257 ++ [bt a1 x10_1]) := ⟨_, rfl⟩
                  replace H : (impl_Syntax_escaped.l0 k1 a1 y260 (a1.size : Int) (wrap64 (x10_1 + 1)) a0_0 a0_1 a0_2 a0_3) = some r := by first | (rw [hy260]; with_reducible exact H) | (have H2_ := (Option.bind_some _ _).symm.trans H; rw [hy260]; with_reducible exact H2_) | (have H2_ := (Option.bind_some _ _).symm.trans H; with_reducible exact H2_) | with_reducible exact H | (rw [hy260]; exact H) | exact H
                  have Ny260 := Aside0.mk hy260
                  clear hy260
                  have H' := Aside0.mk H
                  clear H
                  try go_wp2
                  have n0_ := Aside0.mk (Kd.R_drew HO_5.out)
                  have n1_ := Aside0.mk (blk_drew BK252.out)
                  have n2_ := Aside0.mk (below_drew1 HB.out)
                  clear HO_5
                  clear BK252
                  clear HB
                  have HO_5 := n0_
                  have BK252 := n1_
                  have HB := n2_
                  clear n0_ n1_ n2_
                  have p9 : 0 ≤ (x10_1 : Int) := of_decide_eq_true as_
                  have q9 : x10_1 < (a1.size : Int) := of_decide_eq_true as_
                  have hx9 := bt_at a1 x10_1
                  replace p9 := eq_true p9
                  replace q9 := eq_true q9
                  refine start_ (n := 5) (S := fun w' => w'.cell? ⟨gb252, 0, none⟩ = some (.int .i64 a0_0) ∧ w'.cell? ⟨gb252, 1, none⟩ = some (.int .i64 a0_1) ∧ w'.cell? ⟨gb252, 2, none⟩ = some (.int .i64 a0_2) ∧ w'.cell? ⟨gb252, 3, none⟩ = some (.int .i64 a0_3)) (ds := []) #[false, false, false, false, false] (by kernel_rfl) rfl rfl ⟨(blk_cell BK252.out 0).trans rfl, (blk_cell BK252.out 1).trans rfl, (blk_cell BK252.out 2).trans rfl, (blk_cell BK252.out 3).trans rfl⟩ (fun hHeld => ?_)
                  generalize wr.drew = w15 at HO_5 BK252 HB hHeld ⊢
                  refine pure_ (i := 1) (N := some 14) (v := ?_) (a' := ?_) #[false, true, false, false, false] rfl rfl (by kernel_rfl) (fun _ _ _ h => h) (Or.inl ⟨by rfl, ?_⟩) ?_ ?_
                  rotate_left
                  · intro w'
                    go_simp
                    with_reducible rfl
                  rotate_left
                  · simp only [Act.put, List.setIfInBounds_toArray, List.set_cons_zero, List.set_cons_succ, i64_w, i32_w]
                    rfl
                  refine pure_ (i := 2) (N := some 15) (v := ?_) (a' := ?_) #[false, true, true, false, false] rfl rfl (by kernel_rfl) (fun _ _ _ h => h) (Or.inl ⟨by rfl, ?_⟩) ?_ ?_
                  rotate_left
                  · intro w'
                    go_simp
                    with_reducible rfl
                  rotate_left
                  · simp only [Act.put, List.setIfInBounds_toArray, List.set_cons_zero, List.set_cons_succ, i64_w, i32_w]
                    rfl
                  refine take_ (i := 0) (N := some 13) (v := ?_) (a' := ?_) #[true, true, true, false, false] rfl rfl (by kernel_rfl) (fun _ _ _ h => h) (Or.inl ⟨by rfl, ?_⟩) hHeld ?_ ?_
                  rotate_left
                  · rintro w' ⟨s0, s1, s2, s3⟩
                    go_simp
                    with_reducible rfl
                  rotate_left
                  · simp only [Act.put, List.setIfInBounds_toArray, List.set_cons_zero, List.set_cons_succ, i64_w, i32_w]
                    rfl
                  refine take_ (i := 3) (N := some 16) (v := ?_) (a' := ?_) #[true, true, true, true, false] rfl rfl (by kernel_rfl) (fun _ _ _ h => h) (Or.inl ⟨by rfl, ?_⟩) hHeld ?_ ?_
                  rotate_left
                  · rintro w' ⟨s0, s1, s2, s3⟩
                    go_simp
                    with_reducible rfl
                  rotate_left
                  · simp only [Act.put, List.setIfInBounds_toArray, List.set_cons_zero, List.set_cons_succ, i64_w, i32_w]
                    rfl
                  refine one_ (i := 4) (N := some 17) #[true, true, true, true, true] rfl rfl (by kernel_rfl) (by decide) (fun K hK => ?_)
                  refine gr_ Try.func106 #[.agg #[.int .i64 a0_0, .int .i64 a0_1, .int .i64 a0_2, .int .i64 a0_3], .int .u8 (bt a1 x10_1)] (by rfl) ?_ rfl rfl rfl
                  with_reducible refine (impl_Syntax_isOne.calls k1 a0_0 a0_1 a0_2 a0_3 (bt a1 x10_1) true _ A10.out).mono ?_
                  rintro e w16 ⟨rfl, hb⟩
                  refine ⟨_, rfl, ?_⟩
                  have n0_ := Aside0.mk (Kd.R_below (rk_ HO_5) hb)
                  have n1_ := Aside0.mk (blkb_ BK252 hb)
                  have n2_ := Aside0.mk (below_step bl_ hb)
                  clear HO_5
                  clear BK252
                  clear HB
                  have HO_5 := n0_
                  have BK252 := n1_
                  have HB := n2_
                  clear n0_ n1_ n2_
                  (try clear hb)
                  (try clear hb2)
                  (try clear hk)
                  (try clear hi)
                  refine hK.out _ _ ⟨(blk_cell BK252.out 0).trans rfl, (blk_cell BK252.out 1).trans rfl, (blk_cell BK252.out 2).trans rfl, (blk_cell BK252.out 3).trans rfl⟩ (fun hHeld => ?_)
                  clear hK K
                  refine norm_ (a' := ?_) ?_ ?_
                  rotate_left
                  · show Act.put _ (some 17) _ = _
                    simp only [Act.put, List.setIfInBounds_toArray, List.set_cons_zero, List.set_cons_succ, i64_w, i32_w]
                    rfl
                  refine done_ (by kernel_rfl) ?_
                  obtain ⟨hcz17_0, hcz17_1, hcz17_2, hcz17_3, hfz17_0, hfz17_1, hfz17_2, hfz17_3⟩ := cellsF4 BK252.out
                  try go_wp2_with (first | ((with_reducible refine gate_builtin (b := .append) (xs := #[.tmp 18, .tmp 22]) rfl ?_); at_builtin; refine Kd.R_append (Kd.int .u8) (w0 := w) w.heap.size rfl (.tmp 18) (.tmp 22) 36 5 (.int .u8 0) 1 rfl Try.underlying36 info5 rfl (by decide) (by omega) u5 x5_1 ((a0_3) % 256) [.int .u8 ((a0_3) % 256)] (fun _ => True) (fun _ => False) rfl rfl ?aP (fun _ hk => hk.elim) ?aF ?aO ?aB ?aS ?aL ?_; (case aP => exact rfl); (case aB => exact bl_); (case aF => exact (fun _ _ => trivial)); (case aO => exact (rk_ HO_5)); (case aS => exact (below_size bl_)); (case aL => have := LMc12.out; omega); intro v258 w18 ho hb hg hat; rw [← Ny257.out] at ho; have n0_ := Aside0.mk (blk_grown (g := gb252) (o := .cells #[.int .i64 a0_0, .int .i64 a0_1, .int .i64 a0_2, .int .i64 a0_3] 23 (0, 0)) (bk_ BK252) hg (Kd.R_ne HO_5.out BK252.out (by decide))); have n1_ := Aside0.mk (hb); have n2_ := Aside0.mk (ho); clear BK252; clear HB; clear HO_5; have BK252 := n0_; have HB := n1_; have HO259 := n2_; clear n0_ n1_ n2_; clear ho hb hg hat; have p13 : 0 ≤ (x10_1 : Int) := of_decide_eq_true as_; have q13 : x10_1 < (a1.size : Int) := of_decide_eq_true as_; have hx13 := bt_at a1 x10_1; replace p13 := eq_true p13; replace q13 := eq_true q13) | ((with_reducible refine gate_builtin (b := .append) (xs := #[.tmp 24, .tmp 28]) rfl ?_); at_builtin; refine Kd.R_append (Kd.int .u8) (w0 := w) w.heap.size rfl (.tmp 24) (.tmp 28) 36 5 (.int .u8 0) 1 rfl Try.underlying36 info5 rfl (by decide) (by omega) v258 y257 (bt a1 x10_1) [.int .u8 (bt a1 x10_1)] (fun _ => True) (fun _ => False) rfl rfl ?aP (fun _ hk => hk.elim) ?aF ?aO ?aB ?aS ?aL ?_; (case aP => exact rfl); (case aB => exact bl_); (case aF => exact (fun _ _ => trivial)); (case aO => exact (rk_ HO259)); (case aS => exact (below_size bl_)); (case aL => have := LMc14.out; omega); intro v261 w19 ho hb hg hat; rw [← Ny260.out] at ho; have n0_ := Aside0.mk (blk_grown (g := gb252) (o := .cells #[.int .i64 a0_0, .int .i64 a0_1, .int .i64 a0_2, .int .i64 a0_3] 23 (0, 0)) (bk_ BK252) hg (Kd.R_ne HO259.out BK252.out (by decide))); have n1_ := Aside0.mk (hb); have n2_ := Aside0.mk (ho); clear BK252; clear HB; clear HO259; have BK252 := n0_; have HB := n1_; have HO262 := n2_; clear n0_ n1_ n2_; clear ho hb hg hat))
                  go_roundg k1
                  case measure => have := HK1.out; omega
                  case rel => exact ⟨(y260), (wrap64 (x10_1 + 1)), er_, H', ⟨by have := HK1.out; omega⟩, ⟨rk_ HO262⟩, ⟨bk_ BK252⟩, ⟨bl_⟩⟩
                · rw [if_neg c14] at H
                  exact absurd H (by simp)
              · rw [if_neg c12] at H
                exact absurd H (by simp)
            · replace c11 := Bool.eq_false_iff.mpr c11
              subst c11
              have H1 : (if x5_1.length < 140737488355328 then (impl_Syntax_escaped.l0 k1 a1 (x5_1 ++ [bt a1 x10_1]) (a1.size : Int) (wrap64 (x10_1 + 1)) a0_0 a0_1 a0_2 a0_3) else (none)) = some r := by rw [if_neg (show ¬ (false = true) by decide)] at H; exact H
              clear H
              have H := H1
              clear H1
              by_cases c21 : x5_1.length < 140737488355328
              · rw [if_pos c21] at H
                have LMc21 := Aside0.mk c21
                clear c21
                obtain ⟨y263, hy263⟩ : ∃ y_ : List Int, y_ = (x5_1 ++ [bt a1 x10_1]) := ⟨_, rfl⟩
                replace H : (impl_Syntax_escaped.l0 k1 a1 y263 (a1.size : Int) (wrap64 (x10_1 + 1)) a0_0 a0_1 a0_2 a0_3) = some r := by first | (rw [hy263]; with_reducible exact H) | (have H2_ := (Option.bind_some _ _).symm.trans H; rw [hy263]; with_reducible exact H2_) | (have H2_ := (Option.bind_some _ _).symm.trans H; with_reducible exact H2_) | with_reducible exact H | (rw [hy263]; exact H) | exact H
                have Ny263 := Aside0.mk hy263
                clear hy263
                have H' := Aside0.mk H
                clear H
                try go_wp2
                have n0_ := Aside0.mk (Kd.R_drew HO_5.out)
                have n1_ := Aside0.mk (blk_drew BK252.out)
                have n2_ := Aside0.mk (below_drew1 HB.out)
                clear HO_5
                clear BK252
                clear HB
                have HO_5 := n0_
                have BK252 := n1_
                have HB := n2_
                clear n0_ n1_ n2_
                have p9 : 0 ≤ (x10_1 : Int) := of_decide_eq_true as_
                have q9 : x10_1 < (a1.size : Int) := of_decide_eq_true as_
                have hx9 := bt_at a1 x10_1
                replace p9 := eq_true p9
                replace q9 := eq_true q9
                refine start_ (n := 5) (S := fun w' => w'.cell? ⟨gb252, 0, none⟩ = some (.int .i64 a0_0) ∧ w'.cell? ⟨gb252, 1, none⟩ = some (.int .i64 a0_1) ∧ w'.cell? ⟨gb252, 2, none⟩ = some (.int .i64 a0_2) ∧ w'.cell? ⟨gb252, 3, none⟩ = some (.int .i64 a0_3)) (ds := []) #[false, false, false, false, false] (by kernel_rfl) rfl rfl ⟨(blk_cell BK252.out 0).trans rfl, (blk_cell BK252.out 1).trans rfl, (blk_cell BK252.out 2).trans rfl, (blk_cell BK252.out 3).trans rfl⟩ (fun hHeld => ?_)
                generalize wr.drew = w22 at HO_5 BK252 HB hHeld ⊢
                refine pure_ (i := 1) (N := some 14) (v := ?_) (a' := ?_) #[false, true, false, false, false] rfl rfl (by kernel_rfl) (fun _ _ _ h => h) (Or.inl ⟨by rfl, ?_⟩) ?_ ?_
                rotate_left
                · intro w'
                  go_simp
                  with_reducible rfl
                rotate_left
                · simp only [Act.put, List.setIfInBounds_toArray, List.set_cons_zero, List.set_cons_succ, i64_w, i32_w]
                  rfl
                refine pure_ (i := 2) (N := some 15) (v := ?_) (a' := ?_) #[false, true, true, false, false] rfl rfl (by kernel_rfl) (fun _ _ _ h => h) (Or.inl ⟨by rfl, ?_⟩) ?_ ?_
                rotate_left
                · intro w'
                  go_simp
                  with_reducible rfl
                rotate_left
                · simp only [Act.put, List.setIfInBounds_toArray, List.set_cons_zero, List.set_cons_succ, i64_w, i32_w]
                  rfl
                refine take_ (i := 0) (N := some 13) (v := ?_) (a' := ?_) #[true, true, true, false, false] rfl rfl (by kernel_rfl) (fun _ _ _ h => h) (Or.inl ⟨by rfl, ?_⟩) hHeld ?_ ?_
                rotate_left
                · rintro w' ⟨s0, s1, s2, s3⟩
                  go_simp
                  with_reducible rfl
                rotate_left
                · simp only [Act.put, List.setIfInBounds_toArray, List.set_cons_zero, List.set_cons_succ, i64_w, i32_w]
                  rfl
                refine take_ (i := 3) (N := some 16) (v := ?_) (a' := ?_) #[true, true, true, true, false] rfl rfl (by kernel_rfl) (fun _ _ _ h => h) (Or.inl ⟨by rfl, ?_⟩) hHeld ?_ ?_
                rotate_left
                · rintro w' ⟨s0, s1, s2, s3⟩
                  go_simp
                  with_reducible rfl
                rotate_left
                · simp only [Act.put, List.setIfInBounds_toArray, List.set_cons_zero, List.set_cons_succ, i64_w, i32_w]
                  rfl
                refine one_ (i := 4) (N := some 17) #[true, true, true, true, true] rfl rfl (by kernel_rfl) (by decide) (fun K hK => ?_)
                refine gr_ Try.func106 #[.agg #[.int .i64 a0_0, .int .i64 a0_1, .int .i64 a0_2, .int .i64 a0_3], .int .u8 (bt a1 x10_1)] (by rfl) ?_ rfl rfl rfl
                with_reducible refine (impl_Syntax_isOne.calls k1 a0_0 a0_1 a0_2 a0_3 (bt a1 x10_1) false _ A10.out).mono ?_
                rintro e w23 ⟨rfl, hb⟩
                refine ⟨_, rfl, ?_⟩
                have n0_ := Aside0.mk (Kd.R_below (rk_ HO_5) hb)
                have n1_ := Aside0.mk (blkb_ BK252 hb)
                have n2_ := Aside0.mk (below_step bl_ hb)
                clear HO_5
                clear BK252
                clear HB
                have HO_5 := n0_
                have BK252 := n1_
                have HB := n2_
                clear n0_ n1_ n2_
                (try clear hb)
                (try clear hb2)
                (try clear hk)
                (try clear hi)
                refine hK.out _ _ ⟨(blk_cell BK252.out 0).trans rfl, (blk_cell BK252.out 1).trans rfl, (blk_cell BK252.out 2).trans rfl, (blk_cell BK252.out 3).trans rfl⟩ (fun hHeld => ?_)
                clear hK K
                refine norm_ (a' := ?_) ?_ ?_
                rotate_left
                · show Act.put _ (some 17) _ = _
                  simp only [Act.put, List.setIfInBounds_toArray, List.set_cons_zero, List.set_cons_succ, i64_w, i32_w]
                  rfl
                refine done_ (by kernel_rfl) ?_
                have p20 : 0 ≤ (x10_1 : Int) := of_decide_eq_true as_
                have q20 : x10_1 < (a1.size : Int) := of_decide_eq_true as_
                have hx20 := bt_at a1 x10_1
                replace p20 := eq_true p20
                replace q20 := eq_true q20
                try go_wp2_with (first | ((with_reducible refine gate_builtin (b := .append) (xs := #[.tmp 24, .tmp 28]) rfl ?_); at_builtin; refine Kd.R_append (Kd.int .u8) (w0 := w) w.heap.size rfl (.tmp 24) (.tmp 28) 36 5 (.int .u8 0) 1 rfl Try.underlying36 info5 rfl (by decide) (by omega) u5 x5_1 (bt a1 x10_1) [.int .u8 (bt a1 x10_1)] (fun _ => True) (fun _ => False) rfl rfl ?aP (fun _ hk => hk.elim) ?aF ?aO ?aB ?aS ?aL ?_; (case aP => exact rfl); (case aB => exact bl_); (case aF => exact (fun _ _ => trivial)); (case aO => exact (rk_ HO_5)); (case aS => exact (below_size bl_)); (case aL => have := LMc21.out; omega); intro v264 w24 ho hb hg hat; rw [← Ny263.out] at ho; have n0_ := Aside0.mk (blk_grown (g := gb252) (o := .cells #[.int .i64 a0_0, .int .i64 a0_1, .int .i64 a0_2, .int .i64 a0_3] 23 (0, 0)) (bk_ BK252) hg (Kd.R_ne HO_5.out BK252.out (by decide))); have n1_ := Aside0.mk (hb); have n2_ := Aside0.mk (ho); clear BK252; clear HB; clear HO_5; have BK252 := n0_; have HB := n1_; have HO265 := n2_; clear n0_ n1_ n2_; clear ho hb hg hat))
                go_roundg k1
                case measure => have := HK1.out; omega
                case rel => exact ⟨(y263), (wrap64 (x10_1 + 1)), er_, H', ⟨by have := HK1.out; omega⟩, ⟨rk_ HO265⟩, ⟨bk_ BK252⟩, ⟨bl_⟩⟩
              · rw [if_neg c21] at H
                exact absurd H (by simp)
          · rw [if_neg c8] at H
            exact absurd H (by simp)
        · rw [if_neg c7] at H
          exact absurd H (by simp)
      · rw [if_neg c6] at H
        have c6b0 : decide (x10_1 < (a1.size : Int)) = false := decide_eq_false c6
        clear c6
        obtain rfl := Option.some.inj H
        have hcv25 := own_string (P := Try.prog) Try.underlying36 Try.underlying5 Try.underlying9 (Kd.own_of_R HO_5.out)
        go_wp2
        go_ret
        exact ⟨au9_2, bl_⟩

/-! ### impl_Syntax_segment: function 86 -/
mutual
def impl_Syntax_segment.l0 : Nat → List Int → List (S102) → Int → Int → Int → Int → Int → Int → Option (ByteArray)
  | 0, _, _, _, _, _, _, _, _ => none
  | k + 1, x5, x14, x15, x16, x267000, x267001, x267002, x267003 => if x16 < x15 then (if 0 ≤ x16 then (if x16 < (x14.length : Int) then (if x5.length < 140737488355328 then (impl_Syntax_segment.l1 k (x5 ++ [(x267001) % 256]) x14 x15 x16 ((rd_T102 x14 x16).f0) (((rd_T102 x14 x16).f0).length : Int) 0 x267000 x267001 x267002 x267003) else (none)) else (none)) else (none)) else (if x5.length < 140737488355328 then (some (strOfNums (x5 ++ [(x267000) % 256]))) else (none))
def impl_Syntax_segment.l1 : Nat → List Int → List (S102) → Int → Int → List ByteArray → Int → Int → Int → Int → Int → Int → Option (ByteArray)
  | 0, _, _, _, _, _, _, _, _, _, _, _ => none
  | k + 1, x5, x14, x15, x16, x27, x28, x29, x267000, x267001, x267002, x267003 => if x29 < x28 then (if 0 ≤ x29 then (if x29 < (x27.length : Int) then (if x29 > 0 then (if x5.length < 140737488355328 then ((some (x5 ++ [(x267002) % 256] : List Int)).bind fun y280 => ((impl_Syntax_escaped.f k x267000 x267001 x267002 x267003 (rdOf ByteArray.empty x27 x29)).bind fun t283 => (if y280.length + t283.size < 140737488355328 then (impl_Syntax_segment.l1 k (y280 ++ bytesOf t283) x14 x15 x16 x27 x28 (wrap64 (x29 + 1)) x267000 x267001 x267002 x267003) else (none)))) else (none)) else ((impl_Syntax_escaped.f k x267000 x267001 x267002 x267003 (rdOf ByteArray.empty x27 x29)).bind fun t287 => (if x5.length + t287.size < 140737488355328 then (impl_Syntax_segment.l1 k (x5 ++ bytesOf t287) x14 x15 x16 x27 x28 (wrap64 (x29 + 1)) x267000 x267001 x267002 x267003) else (none)))) else (none)) else (none)) else (impl_Syntax_segment.l0 k x5 x14 x15 (wrap64 (x16 + 1)) x267000 x267001 x267002 x267003)
end
def impl_Syntax_segment.f (k : Nat) (a0_0 : Int) (a0_1 : Int) (a0_2 : Int) (a0_3 : Int) (a1_0 : ByteArray) (l1_1 : List (S102)) : Option (ByteArray) := if a1_0.size ≤ 9223372036854775807 then (impl_Syntax_segment.l0 k (bytesOf a1_0) l1_1 (l1_1.length : Int) 0 a0_0 a0_1 a0_2 a0_3) else (none)
theorem impl_Syntax_segment.mono_l : ∀ k, (∀ y0 y1 y2 y3 y4 y5 y6 y7, LeO (impl_Syntax_segment.l0 k y0 y1 y2 y3 y4 y5 y6 y7) (impl_Syntax_segment.l0 (k + 1) y0 y1 y2 y3 y4 y5 y6 y7)) ∧ (∀ y0 y1 y2 y3 y4 y5 y6 y7 y8 y9 y10, LeO (impl_Syntax_segment.l1 k y0 y1 y2 y3 y4 y5 y6 y7 y8 y9 y10) (impl_Syntax_segment.l1 (k + 1) y0 y1 y2 y3 y4 y5 y6 y7 y8 y9 y10))
  | 0 => ⟨fun _ _ _ _ _ _ _ _ r h => by simp [impl_Syntax_segment.l0] at h, fun _ _ _ _ _ _ _ _ _ _ _ r h => by simp [impl_Syntax_segment.l1] at h⟩
  | k + 1 => by
    obtain ⟨ih0, ih1⟩ := impl_Syntax_segment.mono_l k
    refine ⟨?_, ?_⟩
    · intro y0 y1 y2 y3 y4 y5 y6 y7
      unfold impl_Syntax_segment.l0
      repeat' first
      | (with_reducible exact ih0 _ _ _ _ _ _ _ _)
      | (with_reducible exact ih1 _ _ _ _ _ _ _ _ _ _ _)
      | (with_reducible exact impl_Syntax_escaped.mono _ _ _ _ _ _)
      | (with_reducible exact LeO.refl _)
      | (with_reducible exact LeO.none _)
      | (with_reducible refine LeO.ite ?_ ?_)
      | (with_reducible refine LeO.bind ?_ (fun _ => ?_))
      | exact ih0 _ _ _ _ _ _ _ _
      | exact ih1 _ _ _ _ _ _ _ _ _ _ _
      | exact impl_Syntax_escaped.mono _ _ _ _ _ _
      | exact LeO.none _
      | refine LeO.ite ?_ ?_
      | refine LeO.bind ?_ (fun _ => ?_)
    · intro y0 y1 y2 y3 y4 y5 y6 y7 y8 y9 y10
      unfold impl_Syntax_segment.l1
      repeat' first
      | (with_reducible exact ih0 _ _ _ _ _ _ _ _)
      | (with_reducible exact ih1 _ _ _ _ _ _ _ _ _ _ _)
      | (with_reducible exact impl_Syntax_escaped.mono _ _ _ _ _ _)
      | (with_reducible exact LeO.refl _)
      | (with_reducible exact LeO.none _)
      | (with_reducible refine LeO.ite ?_ ?_)
      | (with_reducible refine LeO.bind ?_ (fun _ => ?_))
      | exact ih0 _ _ _ _ _ _ _ _
      | exact ih1 _ _ _ _ _ _ _ _ _ _ _
      | exact impl_Syntax_escaped.mono _ _ _ _ _ _
      | exact LeO.none _
      | refine LeO.ite ?_ ?_
      | refine LeO.bind ?_ (fun _ => ?_)
theorem impl_Syntax_segment.mono : ∀ a0 a1 a2 a3 a4 a5 k, LeO (impl_Syntax_segment.f k a0 a1 a2 a3 a4 a5) (impl_Syntax_segment.f (k + 1) a0 a1 a2 a3 a4 a5) := by
  intro a0 a1 a2 a3 a4 a5 k
  obtain ⟨ih0, ih1⟩ := impl_Syntax_segment.mono_l k
  unfold impl_Syntax_segment.f
  repeat' first
      | (with_reducible exact ih0 _ _ _ _ _ _ _ _)
      | (with_reducible exact ih1 _ _ _ _ _ _ _ _ _ _ _)
      | (with_reducible exact impl_Syntax_escaped.mono _ _ _ _ _ _)
      | (with_reducible exact LeO.refl _)
      | (with_reducible exact LeO.none _)
      | (with_reducible refine LeO.ite ?_ ?_)
      | (with_reducible refine LeO.bind ?_ (fun _ => ?_))
      | exact ih0 _ _ _ _ _ _ _ _
      | exact ih1 _ _ _ _ _ _ _ _ _ _ _
      | exact impl_Syntax_escaped.mono _ _ _ _ _ _
      | exact LeO.none _
      | refine LeO.ite ?_ ?_
      | refine LeO.bind ?_ (fun _ => ?_)
set_option maxHeartbeats 8000000 in
set_option maxRecDepth 100000 in
theorem impl_Syntax_segment.calls (k : Nat) (a0_0 : Int) (a0_1 : Int) (a0_2 : Int) (a0_3 : Int) (a1_0 : ByteArray) (A1_1 : Option Addr) (c1_1 : Nat) (l1_1 : List (S102)) (r : ByteArray) (w : World) (hr1_1 : Kd.C k102 w A1_1 l1_1.length l1_1) (hc1_1 : l1_1.length ≤ c1_1) (h : impl_Syntax_segment.f k a0_0 a0_1 a0_2 a0_3 a1_0 l1_1 = some r) :
    Calls Try.prog 86 #[.agg #[.int .i64 a0_0, .int .i64 a0_1, .int .i64 a0_2, .int .i64 a0_3], .agg #[.string a1_0, .slice A1_1 l1_1.length c1_1]] w fun e w' => e = .returned (.string r) ∧ Below w.heap.size w w' := by
  have hu23 := Try.underlying23
  have hu59 := Try.underlying59
  have hu102 := Try.underlying102
  have HR1_1 := Aside0.mk hr1_1
  have HC1_1 := Aside0.mk hc1_1
  clear hr1_1 hc1_1
  have HB := Aside0.mk (Below.refl w.heap.size w)
  have H : (if a1_0.size ≤ 9223372036854775807 then (impl_Syntax_segment.l0 k (bytesOf a1_0) l1_1 (l1_1.length : Int) 0 a0_0 a0_1 a0_2 a0_3) else (none)) = some r := h
  clear h
  by_cases c3 : a1_0.size ≤ 9223372036854775807
  · rw [if_pos c3] at H
    have c3b0 := eq_true c3
    have c3b1 : decide (a1_0.size ≤ 9223372036854775807) = true := decide_eq_true c3
    try have c3b2 : (9223372036854775807 < a1_0.size) = False := eq_false (Nat.not_lt.2 c3)
    clear c3
    obtain ⟨y268, hy268⟩ : ∃ y_ : List Int, y_ = (bytesOf a1_0) := ⟨_, rfl⟩
    replace H : (impl_Syntax_segment.l0 k y268 l1_1 (l1_1.length : Int) 0 a0_0 a0_1 a0_2 a0_3) = some r := by first | (rw [hy268]; with_reducible exact H) | (have H2_ := (Option.bind_some _ _).symm.trans H; rw [hy268]; with_reducible exact H2_) | (have H2_ := (Option.bind_some _ _).symm.trans H; with_reducible exact H2_) | with_reducible exact H | (rw [hy268]; exact H) | exact H
    have Ny268 := Aside0.mk hy268
    clear hy268
    have H' := Aside0.mk H
    clear H
    go_enter Try.func86, Try.ntmps86
    go_wp2_with (first | ((with_reducible refine gate_dst (N := 2) rfl ?_); refine box_event ?hg (N := 2) ?hd (cs := #[.int .i64 a0_0, .int .i64 a0_1, .int .i64 a0_2, .int .i64 a0_3]) (t := 23) ?hr ?_; (case hd => rfl); (case hg => rfl); (case hr => exact hr_); intro gb266 hg w4 hbox hb; have n0_ := Aside0.mk (below_step bl_ hb); have n1_ := Aside0.mk (hbox); have n2_ := Aside0.mk (gw_ hg bl_); have n3_ := Aside0.mk (gw_ hg bl_); clear HB; have HB := n0_; have BK266 := n1_; have GW266 := n2_; have GE266 := n3_; clear n0_ n1_ n2_ n3_; clear hb hbox hg) | ((with_reducible refine gate_dst (N := 3) rfl ?_); refine box_event ?hg (N := 3) ?hd (cs := #[.string a1_0, .slice A1_1 l1_1.length c1_1]) (t := 59) ?hr ?_; (case hd => rfl); (case hg => rfl); (case hr => exact hr_); intro gb267 hg w5 hbox hb; have n0_ := Aside0.mk (blkb_ BK266 hb); have n1_ := Aside0.mk (below_step bl_ hb); have n2_ := Aside0.mk (hbox); have n3_ := Aside0.mk (gw_ hg bl_); have n4_ := Aside0.mk (gw_ hg bl_); have n5_ := Aside0.mk (gn_ hg (blkl_ BK266)); have n6_ := Aside0.mk (gm_ hg (blkl_ BK266)); clear BK266; clear HB; have BK266 := n0_; have HB := n1_; have BK267 := n2_; have GW267 := n3_; have GE267 := n4_; have NB266_267 := n5_; have NB267_266 := n6_; clear n0_ n1_ n2_ n3_ n4_ n5_ n6_; clear hb hbox hg; have hnb6 := NB267_266.out; have hnc6 := NB266_267.out; obtain ⟨hcz7_0, hcz7_1, hfz7_0, hfz7_1⟩ := cellsF2 BK267.out) | ((with_reducible refine gate_dst (N := 12) rfl ?_); refine Go.Proofs.YtchoalagkcdbhaaW.Mark.RM_bytes _ 5 ?hg (N := 12) ?hd 9 36 _ rfl a1_0 (by first | rfl | (go_simp; done) | (go_simp; rfl)) Try.underlying9 Try.underlying36 Try.underlying5 (ok := fun _ => True) (okp := fun _ => True) (fun _ hk => hk) trivial (Nat.le_trans (of_decide_eq_true as_ : a1_0.size ≤ 9223372036854775807) (Nat.le_refl _)) (Below.refl _ _) (Nat.le_refl _) ?_; (case hd => rfl); (case hg => rfl); intro v269 w8 ho9 hb hg_ hnew_; clear hg_ hnew_; (first | rw [← Ny268.out] at ho9 | (simp only [Int.reduceToNat] at ho9; rw [← Ny268.out] at ho9)); have n0_ := Aside0.mk (Go.Proofs.YtchoalagkcdbhaaW.Mark.RM_lower ho9 (below_size bl_)); have n1_ := Aside0.mk (blkb_ BK266 hb); have n2_ := Aside0.mk (blkb_ BK267 hb); have n3_ := Aside0.mk (below_step bl_ hb); clear BK266; clear BK267; clear HB; have HO270 := n0_; have BK266 := n1_; have BK267 := n2_; have HB := n3_; clear n0_ n1_ n2_ n3_; clear hb ho9; obtain ⟨hcz10_0, hcz10_1, hfz10_0, hfz10_1⟩ := cellsF2 BK267.out))
    go_loopg [5, 16] k (fun kq v5 v16 w' => ∃ (x5_1 : List Int) (x16_1 : Int), v16 = .int .i64 x16_1 ∧ Aside0 (impl_Syntax_segment.l0 kq x5_1 l1_1 (l1_1.length : Int) x16_1 a0_0 a0_1 a0_2 a0_3 = some r) ∧ Aside0 (kq ≤ k) ∧ Aside0 (Go.Proofs.YtchoalagkcdbhaaW.Mark.RM 5 w' w.heap.size (fun _ => True) v5 x5_1) ∧ Aside0 (w'.heap[gb266]? = some (.cells #[.int .i64 a0_0, .int .i64 a0_1, .int .i64 a0_2, .int .i64 a0_3] 23 (0, 0))) ∧ Aside0 (w'.heap[gb267]? = some (.cells #[.string a1_0, (.slice A1_1 l1_1.length c1_1)] 59 (0, 0))) ∧ Aside0 (Below w.heap.size w w'))
    case atStart => exact ⟨(y268), (0), er_, H', ⟨Nat.le_refl _⟩, ⟨by (with_reducible repeat (first | apply Go.Proofs.YtchoalagkcdbhaaW.Mark.RM_alloc | apply Go.Proofs.YtchoalagkcdbhaaW.Mark.RM_drewN | apply Go.Proofs.YtchoalagkcdbhaaW.Mark.RM_drew)); exact HO270.out⟩, ⟨bk_ BK266⟩, ⟨bk_ BK267⟩, ⟨bl_⟩⟩
    case round =>
      clear H'
      try clear c1
      try clear p2
      try clear c3
      try clear c3b0
      try clear c3b1
      try clear c3b2
      try clear c6
      try clear c8
      try clear hcz10_0
      try clear hcz10_1
      try clear hcz7_0
      try clear hcz7_1
      try clear hfz10_0
      try clear hfz10_1
      try clear hfz7_0
      try clear hfz7_1
      obtain ⟨x5_1, x16_1, rfl, HA, HK1, HO_5, BK266, BK267, HB⟩ := hrel
      cases gk with
      | zero => exact absurd HA.out (by simp [impl_Syntax_segment.l0])
      | succ k1 =>
        have H := HA.out
        clear HA
        simp only [impl_Syntax_segment.l0] at H
        by_cases c11 : x16_1 < (l1_1.length : Int)
        · rw [if_pos c11] at H
          have c11b0 : decide (x16_1 < (l1_1.length : Int)) = true := decide_eq_true c11
          clear c11
          by_cases c12 : 0 ≤ x16_1
          · rw [if_pos c12] at H
            have c12b0 : decide (0 ≤ x16_1) = true := decide_eq_true c12
            clear c12
            by_cases c13 : x16_1 < (l1_1.length : Int)
            · rw [if_pos c13] at H
              have c13b0 : decide (x16_1 < (l1_1.length : Int)) = true := decide_eq_true c13
              clear c13
              by_cases c14 : x5_1.length < 140737488355328
              · rw [if_pos c14] at H
                have LMc14 := Aside0.mk c14
                clear c14
                obtain ⟨y276, hy276⟩ : ∃ y_ : List Int, y_ = (x5_1 ++ [(a0_1) % 256]) := ⟨_, rfl⟩
                replace H : (impl_Syntax_segment.l1 k1 y276 l1_1 (l1_1.length : Int) x16_1 ((rd_T102 l1_1 x16_1).f0) (((rd_T102 l1_1 x16_1).f0).length : Int) 0 a0_0 a0_1 a0_2 a0_3) = some r := by first | (rw [hy276]; with_reducible exact H) | (have H2_ := (Option.bind_some _ _).symm.trans H; rw [hy276]; with_reducible exact H2_) | (have H2_ := (Option.bind_some _ _).symm.trans H; with_reducible exact H2_) | with_reducible exact H | (rw [hy276]; exact H) | exact H
                have Ny276 := Aside0.mk hy276
                clear hy276
                have H' := Aside0.mk H
                clear H
                have p274 : 0 ≤ (x16_1 : Int) := of_decide_eq_true as_
                have q274 : x16_1 < (l1_1.length : Int) := of_decide_eq_true as_
                obtain ⟨ad274, A274_0, c274_0, e274, hx274_0, hl274_0, hi274_0⟩ := at_T102 HR1_1.out x16_1 p274 q274
                cases e274
                replace hx274_0 := (HB.out.cell (World.block_lt_of_cell? _ _ hx274_0)).trans hx274_0
                have HR274_0 := Aside0.mk hi274_0
                have HC274_0 := Aside0.mk hl274_0
                clear hi274_0 hl274_0
                replace p274 := eq_true p274
                replace q274 := eq_true q274
                go_wp2_with (first | ((with_reducible refine gate_dst (N := 7) rfl ?_); refine box_event ?hg (N := 7) ?hd (cs := #[.slice none 0 0]) (t := 102) ?hr ?_; (case hd => rfl); (case hg => rfl); (case hr => exact hr_); intro gb275 hg w15 hbox hb; have n0_ := Aside0.mk (Go.Proofs.YtchoalagkcdbhaaW.Mark.RM_below au9_0 hb); have n1_ := Aside0.mk (blkb_ BK266 hb); have n2_ := Aside0.mk (blkb_ BK267 hb); have n3_ := Aside0.mk (below_step bl_ hb); have n4_ := Aside0.mk (hbox); have n5_ := Aside0.mk (gw_ hg bl_); have n6_ := Aside0.mk (gw_ hg bl_); have n7_ := Aside0.mk (gn_ hg (blkl_ BK266)); have n8_ := Aside0.mk (gm_ hg (blkl_ BK266)); have n9_ := Aside0.mk (gn_ hg (blkl_ BK267)); have n10_ := Aside0.mk (gm_ hg (blkl_ BK267)); clear HO_5; clear BK266; clear BK267; clear HB; have HO_5 := n0_; have BK266 := n1_; have BK267 := n2_; have HB := n3_; have BK275 := n4_; have GW275 := n5_; have GE275 := n6_; have NB266_275 := n7_; have NB275_266 := n8_; have NB267_275 := n9_; have NB275_267 := n10_; clear n0_ n1_ n2_ n3_ n4_ n5_ n6_ n7_ n8_ n9_ n10_; clear hb hbox hg; have hnb16 := NB275_266.out; have hnc16 := NB266_275.out; have hnb17 := NB275_267.out; have hnc17 := NB267_275.out; have hcz18_0 : w15.cell? ⟨gb275, 0, none⟩ = some (.slice none 0 0) := (blk_cell BK275.out 0).trans rfl; have hfz18_0 := blk_frozen BK275.out 0; have hnb19 := NB266_267.out; have hnc19 := NB267_266.out; obtain ⟨hcz20_0, hcz20_1, hcz20_2, hcz20_3, hfz20_0, hfz20_1, hfz20_2, hfz20_3⟩ := cellsF4 BK266.out) | ((with_reducible refine gate_builtin (b := .append) (xs := #[.tmp 20, .tmp 24]) rfl ?_); at_builtin; refine Go.Proofs.YtchoalagkcdbhaaW.Mark.RM_append (w0 := w) w.heap.size rfl (.tmp 20) (.tmp 24) 36 5 (.int .u8 0) 1 rfl Try.underlying36 info5 rfl (by decide) (by omega) u5 x5_1 ((a0_1) % 256) [.int .u8 ((a0_1) % 256)] (fun _ => True) (fun _ => False) rfl (by first | (go_simp; done) | (go_simp; rfl)) ?aP (fun _ hk => hk.elim) ?aF ?aO ?aB ?aS ?aL ?_; (case aP => exact rfl); (case aB => exact bl_); (case aF => exact (fun _ _ => trivial)); (case aO => exact (by (with_reducible repeat (first | apply Go.Proofs.YtchoalagkcdbhaaW.Mark.RM_alloc | apply Go.Proofs.YtchoalagkcdbhaaW.Mark.RM_drewN | apply Go.Proofs.YtchoalagkcdbhaaW.Mark.RM_drew)); exact Go.Proofs.YtchoalagkcdbhaaW.Mark.RM_mono (Go.Proofs.YtchoalagkcdbhaaW.Mark.RM_far (p := ⟨gb275, 0, none⟩) (Go.Proofs.YtchoalagkcdbhaaW.Mark.RM_types HO_5.out BK275.out (by decide)) (fun _ hk => hk.2) (.slice A274_0 ((rd_T102 l1_1 x16_1).f0).length c274_0)) (fun _ hk => trivial))); (case aS => exact (below_size bl_)); (case aL => have := LMc14.out; omega); intro v277 w21 ho hb hg hat; rw [← Ny276.out] at ho; have n0_ := Aside0.mk (blk_grown (g := gb266) (o := .cells #[.int .i64 a0_0, .int .i64 a0_1, .int .i64 a0_2, .int .i64 a0_3] 23 (0, 0)) (by (with_reducible repeat (first | refine blk_drewN ?_ _ | refine blk_drew ?_ | refine blk_alloc ?_ _)); refine blk_far ?_ NB266_275.out _; (with_reducible repeat (first | refine blk_drewN ?_ _ | refine blk_drew ?_ | refine blk_alloc ?_ _)); exact BK266.out) hg (Go.Proofs.YtchoalagkcdbhaaW.Mark.RM_ne HO_5.out BK266.out (by decide))); have n1_ := Aside0.mk (blk_grown (g := gb267) (o := .cells #[.string a1_0, .slice (some ad274) l1_1.length c1_1] 59 (0, 0)) (by (with_reducible repeat (first | refine blk_drewN ?_ _ | refine blk_drew ?_ | refine blk_alloc ?_ _)); refine blk_far ?_ NB267_275.out _; (with_reducible repeat (first | refine blk_drewN ?_ _ | refine blk_drew ?_ | refine blk_alloc ?_ _)); exact BK267.out) hg (Go.Proofs.YtchoalagkcdbhaaW.Mark.RM_ne HO_5.out BK267.out (by decide))); have n2_ := Aside0.mk (blk_grown (g := gb275) (o := .cells #[.slice A274_0 ((rd_T102 l1_1 x16_1).f0).length c274_0] 102 (0, 0)) (by (with_reducible repeat (first | refine blk_drewN ?_ _ | refine blk_drew ?_ | refine blk_alloc ?_ _)); refine blk_put (cs := #[.slice none 0 0]) ?_ 0 _ rfl; (with_reducible repeat (first | refine blk_drewN ?_ _ | refine blk_drew ?_ | refine blk_alloc ?_ _)); exact BK275.out) hg (Go.Proofs.YtchoalagkcdbhaaW.Mark.RM_ne HO_5.out BK275.out (by decide))); have n3_ := Aside0.mk (hb); have n4_ := Aside0.mk (ho); clear BK266; clear BK267; clear BK275; clear HB; clear HO_5; have BK266 := n0_; have BK267 := n1_; have BK275 := n2_; have HB := n3_; have HO278 := n4_; clear n0_ n1_ n2_ n3_ n4_; clear ho hb hg hat; have hcz22_0 : w21.cell? ⟨gb275, 0, none⟩ = some (.slice A274_0 ((rd_T102 l1_1 x16_1).f0).length c274_0) := (blk_cell BK275.out 0).trans rfl; have hfz22_0 := blk_frozen BK275.out 0))
                go_loopg [5, 29] k1 (fun kq v5 v29 w' => ∃ (x5_2 : List Int) (x29_2 : Int), v29 = .int .i64 x29_2 ∧ Aside0 (impl_Syntax_segment.l1 kq x5_2 l1_1 (l1_1.length : Int) x16_1 ((rd_T102 l1_1 x16_1).f0) (((rd_T102 l1_1 x16_1).f0).length : Int) x29_2 a0_0 a0_1 a0_2 a0_3 = some r) ∧ Aside0 (kq ≤ k1) ∧ Aside0 (Go.Proofs.YtchoalagkcdbhaaW.Mark.RM 5 w' w.heap.size (fun _ => True) v5 x5_2) ∧ Aside0 (w'.heap[gb266]? = some (.cells #[.int .i64 a0_0, .int .i64 a0_1, .int .i64 a0_2, .int .i64 a0_3] 23 (0, 0))) ∧ Aside0 (w'.heap[gb267]? = some (.cells #[.string a1_0, (.slice (some ad274) l1_1.length c1_1)] 59 (0, 0))) ∧ Aside0 (w'.heap[gb275]? = some (.cells #[(.slice A274_0 ((rd_T102 l1_1 x16_1).f0).length c274_0)] 102 (0, 0))) ∧ Aside0 (Below w.heap.size w w'))
                case atStart => exact ⟨(y276), (0), er_, H', ⟨Nat.le_refl _⟩, ⟨by (with_reducible repeat (first | apply Go.Proofs.YtchoalagkcdbhaaW.Mark.RM_alloc | apply Go.Proofs.YtchoalagkcdbhaaW.Mark.RM_drewN | apply Go.Proofs.YtchoalagkcdbhaaW.Mark.RM_drew)); exact HO278.out⟩, ⟨bk_ BK266⟩, ⟨bk_ BK267⟩, ⟨bk_ BK275⟩, ⟨bl_⟩⟩
                case round =>
                  clear H'
                  try clear c1
                  try clear c2
                  try clear p2
                  try clear q2
                  try clear hx2
                  try clear c3
                  try clear c3b0
                  try clear c3b1
                  try clear c3b2
                  try clear c6
                  try clear c8
                  try clear c11
                  try clear c11b0
                  try clear c12
                  try clear c12b0
                  try clear c13
                  try clear c13b0
                  try clear c14
                  try clear c16
                  try clear c17
                  try clear c19
                  try clear hcz10_0
                  try clear hcz10_1
                  try clear hcz18_0
                  try clear hcz20_0
                  try clear hcz20_1
                  try clear hcz20_2
                  try clear hcz20_3
                  try clear hcz22_0
                  try clear hcz7_0
                  try clear hcz7_1
                  try clear hfz10_0
                  try clear hfz10_1
                  try clear hfz18_0
                  try clear hfz20_0
                  try clear hfz20_1
                  try clear hfz20_2
                  try clear hfz20_3
                  try clear hfz22_0
                  try clear hfz7_0
                  try clear hfz7_1
                  try clear hx274_0
                  try clear p2
                  try clear p274
                  try clear q274
                  obtain ⟨x5_2, x29_2, rfl, HA, HK2, HO_5, BK266, BK267, BK275, HB⟩ := hrel
                  cases gk with
                  | zero => exact absurd HA.out (by simp [impl_Syntax_segment.l1])
                  | succ k2 =>
                    have H := HA.out
                    clear HA
                    simp only [impl_Syntax_segment.l1] at H
                    by_cases c23 : x29_2 < (((rd_T102 l1_1 x16_1).f0).length : Int)
                    · rw [if_pos c23] at H
                      have c23b0 : decide (x29_2 < (((rd_T102 l1_1 x16_1).f0).length : Int)) = true := decide_eq_true c23
                      clear c23
                      by_cases c24 : 0 ≤ x29_2
                      · rw [if_pos c24] at H
                        have c24b0 : decide (0 ≤ x29_2) = true := decide_eq_true c24
                        clear c24
                        by_cases c25 : x29_2 < (((rd_T102 l1_1 x16_1).f0).length : Int)
                        · rw [if_pos c25] at H
                          have c25b0 : decide (x29_2 < (((rd_T102 l1_1 x16_1).f0).length : Int)) = true := decide_eq_true c25
                          clear c25
                          by_cases c26 : x29_2 > 0
                          · rw [if_pos c26] at H
                            have c26b0 : decide (0 < x29_2) = true := decide_eq_true c26
                            clear c26
                            by_cases c27 : x5_2.length < 140737488355328
                            · rw [if_pos c27] at H
                              have LMc27 := Aside0.mk c27
                              clear c27
                              obtain ⟨y280, hy280⟩ : ∃ y_ : List Int, y_ = (x5_2 ++ [(a0_2) % 256]) := ⟨_, rfl⟩
                              replace H : ((impl_Syntax_escaped.f k2 a0_0 a0_1 a0_2 a0_3 (rdOf ByteArray.empty ((rd_T102 l1_1 x16_1).f0) x29_2)).bind fun t283 => (if y280.length + t283.size < 140737488355328 then (impl_Syntax_segment.l1 k2 (y280 ++ bytesOf t283) l1_1 (l1_1.length : Int) x16_1 ((rd_T102 l1_1 x16_1).f0) (((rd_T102 l1_1 x16_1).f0).length : Int) (wrap64 (x29_2 + 1)) a0_0 a0_1 a0_2 a0_3) else (none))) = some r := by first | (rw [hy280]; with_reducible exact H) | (have H2_ := (Option.bind_some _ _).symm.trans H; rw [hy280]; with_reducible exact H2_) | (have H2_ := (Option.bind_some _ _).symm.trans H; with_reducible exact H2_) | with_reducible exact H | (rw [hy280]; exact H) | exact H
                              have Ny280 := Aside0.mk hy280
                              clear hy280
                              replace H := Option.bind_eq_some_iff.mp H
                              obtain ⟨t283, A280, H⟩ := H
                              replace H : (if y280.length + t283.size < 140737488355328 then (impl_Syntax_segment.l1 k2 (y280 ++ bytesOf t283) l1_1 (l1_1.length : Int) x16_1 ((rd_T102 l1_1 x16_1).f0) (((rd_T102 l1_1 x16_1).f0).length : Int) (wrap64 (x29_2 + 1)) a0_0 a0_1 a0_2 a0_3) else (none)) = some r := H
                              have A28 := Aside0.mk A280
                              clear A280
                              by_cases c29 : y280.length + t283.size < 140737488355328
                              · rw [if_pos c29] at H
                                have LMc29 := Aside0.mk c29
                                clear c29
                                obtain ⟨y284, hy284⟩ : ∃ y_ : List Int, y_ = (y280 ++ bytesOf t283) := ⟨_, rfl⟩
                                replace H : (impl_Syntax_segment.l1 k2 y284 l1_1 (l1_1.length : Int) x16_1 ((rd_T102 l1_1 x16_1).f0) (((rd_T102 l1_1 x16_1).f0).length : Int) (wrap64 (x29_2 + 1)) a0_0 a0_1 a0_2 a0_3) = some r := by first | (rw [hy284]; with_reducible exact H) | (have H2_ := (Option.bind_some _ _).symm.trans H; rw [hy284]; with_reducible exact H2_) | (have H2_ := (Option.bind_some _ _).symm.trans H; with_reducible exact H2_) | with_reducible exact H | (rw [hy284]; exact H) | exact H
                                have Ny284 := Aside0.mk hy284
                                clear hy284
                                have H' := Aside0.mk H
                                clear H
                                have p279 : 0 ≤ (x29_2 : Int) := of_decide_eq_true as_
                                have q279 : x29_2 < (((rd_T102 l1_1 x16_1).f0).length : Int) := of_decide_eq_true as_
                                obtain ⟨ad279, e279, hx279_0⟩ := Kd.at_string HR274_0.out x29_2 p279 q279
                                cases e279
                                replace hx279_0 := (HB.out.cell (World.block_lt_of_cell? _ _ hx279_0)).trans hx279_0
                                replace p279 := eq_true p279
                                replace q279 := eq_true q279
                                have hnb30 := NB266_267.out
                                have hnc30 := NB267_266.out
                                have hnb31 := NB266_275.out
                                have hnc31 := NB275_266.out
                                obtain ⟨hcz32_0, hcz32_1, hcz32_2, hcz32_3, hfz32_0, hfz32_1, hfz32_2, hfz32_3⟩ := cellsF4 BK266.out
                                go_wp2_with (first | ((with_reducible refine gate_builtin (b := .append) (xs := #[.tmp 36, .tmp 40]) rfl ?_); at_builtin; refine Go.Proofs.YtchoalagkcdbhaaW.Mark.RM_append (w0 := w) w.heap.size rfl (.tmp 36) (.tmp 40) 36 5 (.int .u8 0) 1 rfl Try.underlying36 info5 rfl (by decide) (by omega) u5 x5_2 ((a0_2) % 256) [.int .u8 ((a0_2) % 256)] (fun _ => True) (fun _ => False) rfl rfl ?aP (fun _ hk => hk.elim) ?aF ?aO ?aB ?aS ?aL ?_; (case aP => exact rfl); (case aB => exact bl_); (case aF => exact (fun _ _ => trivial)); (case aO => exact au9_0); (case aS => exact (below_size bl_)); (case aL => have := LMc27.out; omega); intro v281 w33 ho hb hg hat; rw [← Ny280.out] at ho; have n0_ := Aside0.mk (blk_grown (g := gb266) (o := .cells #[.int .i64 a0_0, .int .i64 a0_1, .int .i64 a0_2, .int .i64 a0_3] 23 (0, 0)) (bk_ BK266) hg (Go.Proofs.YtchoalagkcdbhaaW.Mark.RM_ne HO_5.out BK266.out (by decide))); have n1_ := Aside0.mk (blk_grown (g := gb267) (o := .cells #[.string a1_0, .slice (some ad274) l1_1.length c1_1] 59 (0, 0)) (bk_ BK267) hg (Go.Proofs.YtchoalagkcdbhaaW.Mark.RM_ne HO_5.out BK267.out (by decide))); have n2_ := Aside0.mk (blk_grown (g := gb275) (o := .cells #[.slice (some ad279) ((rd_T102 l1_1 x16_1).f0).length c274_0] 102 (0, 0)) (bk_ BK275) hg (Go.Proofs.YtchoalagkcdbhaaW.Mark.RM_ne HO_5.out BK275.out (by decide))); have n3_ := Aside0.mk (hb); have n4_ := Aside0.mk (ho); clear BK266; clear BK267; clear BK275; clear HB; clear HO_5; have BK266 := n0_; have BK267 := n1_; have BK275 := n2_; have HB := n3_; have HO282 := n4_; clear n0_ n1_ n2_ n3_ n4_; clear ho hb hg hat; obtain ⟨hcz34_0, hcz34_1, hcz34_2, hcz34_3, hfz34_0, hfz34_1, hfz34_2, hfz34_3⟩ := cellsF4 BK266.out) | ((with_reducible refine gate_callee (f := 73) rfl ?_); refine gl_ 45 Try.func73 #[.agg #[.int .i64 a0_0, .int .i64 a0_1, .int .i64 a0_2, .int .i64 a0_3], .string (rdOf ByteArray.empty ((rd_T102 l1_1 x16_1).f0) x29_2)] ?_ rfl rfl rfl rfl; (with_reducible refine (impl_Syntax_escaped.calls k2 a0_0 a0_1 a0_2 a0_3 (rdOf ByteArray.empty ((rd_T102 l1_1 x16_1).f0) x29_2) t283 _ A28.out).mono ?_); rintro e w35 ⟨rfl, hb⟩; refine ⟨_, rfl, ?_⟩; have n0_ := Aside0.mk (Go.Proofs.YtchoalagkcdbhaaW.Mark.RM_below au9_1 hb); have n1_ := Aside0.mk (blkb_ BK266 hb); have n2_ := Aside0.mk (blkb_ BK267 hb); have n3_ := Aside0.mk (blkb_ BK275 hb); have n4_ := Aside0.mk (below_step bl_ hb); clear HO282; clear BK266; clear BK267; clear BK275; clear HB; have HO282 := n0_; have BK266 := n1_; have BK267 := n2_; have BK275 := n3_; have HB := n4_; clear n0_ n1_ n2_ n3_ n4_; (try clear hb); (try clear hb2); (try clear hk); (try clear hi)) | (at_builtin; refine Go.Proofs.YtchoalagkcdbhaaW.Mark.print_append_str (w0 := w) w.heap.size rfl (.tmp 42) _ 36 9 5 rfl Try.underlying36 Try.underlying9 info5 v281 y280 t283 rfl rfl ?aO ?aB ?aS ?aL ?_; (case aB => exact bl_); (case aO => exact (Go.Proofs.YtchoalagkcdbhaaW.Mark.own_of_RM au9_1)); (case aS => exact (below_size bl_)); (case aL => have := LMc29.out; omega); intro v285 w36 ho0 hb hg; have ho := Go.Proofs.YtchoalagkcdbhaaW.Mark.RM_of_own (h1 := fun _ => rfl) (ok := fun _ => True) ho0 (fun _ _ => trivial); clear ho0; have hat := True.intro; rw [← Ny284.out] at ho; change Go.Proofs.YtchoalagkcdbhaaW.Mark.RM 5 w36 w.heap.size (fun _ => True) v285 y284 at ho; have n0_ := Aside0.mk (blk_grown (g := gb266) (o := .cells #[.int .i64 a0_0, .int .i64 a0_1, .int .i64 a0_2, .int .i64 a0_3] 23 (0, 0)) (bk_ BK266) hg (Go.Proofs.YtchoalagkcdbhaaW.Mark.RM_ne HO282.out BK266.out (by decide))); have n1_ := Aside0.mk (blk_grown (g := gb267) (o := .cells #[.string a1_0, .slice (some ad274) l1_1.length c1_1] 59 (0, 0)) (bk_ BK267) hg (Go.Proofs.YtchoalagkcdbhaaW.Mark.RM_ne HO282.out BK267.out (by decide))); have n2_ := Aside0.mk (blk_grown (g := gb275) (o := .cells #[.slice (some ad279) ((rd_T102 l1_1 x16_1).f0).length c274_0] 102 (0, 0)) (bk_ BK275) hg (Go.Proofs.YtchoalagkcdbhaaW.Mark.RM_ne HO282.out BK275.out (by decide))); have n3_ := Aside0.mk (hb); have n4_ := Aside0.mk (ho); clear BK266; clear BK267; clear BK275; clear HB; clear HO282; have BK266 := n0_; have BK267 := n1_; have BK275 := n2_; have HB := n3_; have HO286 := n4_; clear n0_ n1_ n2_ n3_ n4_; clear ho hb hg hat))
                                go_roundg k2
                                case measure => have := HK1.out; have := HK2.out; omega
                                case rel => exact ⟨(y284), (wrap64 (x29_2 + 1)), er_, H', ⟨au9_4⟩, ⟨by (with_reducible repeat (first | apply Go.Proofs.YtchoalagkcdbhaaW.Mark.RM_alloc | apply Go.Proofs.YtchoalagkcdbhaaW.Mark.RM_drewN | apply Go.Proofs.YtchoalagkcdbhaaW.Mark.RM_drew)); exact HO286.out⟩, ⟨bk_ BK266⟩, ⟨bk_ BK267⟩, ⟨bk_ BK275⟩, ⟨bl_⟩⟩
                              · rw [if_neg c29] at H
                                exact absurd H (by simp)
                            · rw [if_neg c27] at H
                              exact absurd H (by simp)
                          · rw [if_neg c26] at H
                            have c26b0 : decide (0 < x29_2) = false := decide_eq_false c26
                            clear c26
                            replace H := Option.bind_eq_some_iff.mp H
                            obtain ⟨t287, A370, H⟩ := H
                            replace H : (if x5_2.length + t287.size < 140737488355328 then (impl_Syntax_segment.l1 k2 (x5_2 ++ bytesOf t287) l1_1 (l1_1.length : Int) x16_1 ((rd_T102 l1_1 x16_1).f0) (((rd_T102 l1_1 x16_1).f0).length : Int) (wrap64 (x29_2 + 1)) a0_0 a0_1 a0_2 a0_3) else (none)) = some r := H
                            have A37 := Aside0.mk A370
                            clear A370
                            by_cases c38 : x5_2.length + t287.size < 140737488355328
                            · rw [if_pos c38] at H
                              have LMc38 := Aside0.mk c38
                              clear c38
                              obtain ⟨y288, hy288⟩ : ∃ y_ : List Int, y_ = (x5_2 ++ bytesOf t287) := ⟨_, rfl⟩
                              replace H : (impl_Syntax_segment.l1 k2 y288 l1_1 (l1_1.length : Int) x16_1 ((rd_T102 l1_1 x16_1).f0) (((rd_T102 l1_1 x16_1).f0).length : Int) (wrap64 (x29_2 + 1)) a0_0 a0_1 a0_2 a0_3) = some r := by first | (rw [hy288]; with_reducible exact H) | (have H2_ := (Option.bind_some _ _).symm.trans H; rw [hy288]; with_reducible exact H2_) | (have H2_ := (Option.bind_some _ _).symm.trans H; with_reducible exact H2_) | with_reducible exact H | (rw [hy288]; exact H) | exact H
                              have Ny288 := Aside0.mk hy288
                              clear hy288
                              have H' := Aside0.mk H
                              clear H
                              have p279 : 0 ≤ (x29_2 : Int) := of_decide_eq_true as_
                              have q279 : x29_2 < (((rd_T102 l1_1 x16_1).f0).length : Int) := of_decide_eq_true as_
                              obtain ⟨ad279, e279, hx279_0⟩ := Kd.at_string HR274_0.out x29_2 p279 q279
                              cases e279
                              replace hx279_0 := (HB.out.cell (World.block_lt_of_cell? _ _ hx279_0)).trans hx279_0
                              replace p279 := eq_true p279
                              replace q279 := eq_true q279
                              have hnb39 := NB266_267.out
                              have hnc39 := NB267_266.out
                              have hnb40 := NB266_275.out
                              have hnc40 := NB275_266.out
                              obtain ⟨hcz41_0, hcz41_1, hcz41_2, hcz41_3, hfz41_0, hfz41_1, hfz41_2, hfz41_3⟩ := cellsF4 BK266.out
                              go_wp2_with (first | ((with_reducible refine gate_callee (f := 73) rfl ?_); refine gl_ 45 Try.func73 #[.agg #[.int .i64 a0_0, .int .i64 a0_1, .int .i64 a0_2, .int .i64 a0_3], .string (rdOf ByteArray.empty ((rd_T102 l1_1 x16_1).f0) x29_2)] ?_ rfl rfl rfl rfl; (with_reducible refine (impl_Syntax_escaped.calls k2 a0_0 a0_1 a0_2 a0_3 (rdOf ByteArray.empty ((rd_T102 l1_1 x16_1).f0) x29_2) t287 _ A37.out).mono ?_); rintro e w42 ⟨rfl, hb⟩; refine ⟨_, rfl, ?_⟩; have n0_ := Aside0.mk (Go.Proofs.YtchoalagkcdbhaaW.Mark.RM_below au9_0 hb); have n1_ := Aside0.mk (blkb_ BK266 hb); have n2_ := Aside0.mk (blkb_ BK267 hb); have n3_ := Aside0.mk (blkb_ BK275 hb); have n4_ := Aside0.mk (below_step bl_ hb); clear HO_5; clear BK266; clear BK267; clear BK275; clear HB; have HO_5 := n0_; have BK266 := n1_; have BK267 := n2_; have BK275 := n3_; have HB := n4_; clear n0_ n1_ n2_ n3_ n4_; (try clear hb); (try clear hb2); (try clear hk); (try clear hi)) | (at_builtin; refine Go.Proofs.YtchoalagkcdbhaaW.Mark.print_append_str (w0 := w) w.heap.size rfl (.tmp 42) _ 36 9 5 rfl Try.underlying36 Try.underlying9 info5 u5 x5_2 t287 rfl rfl ?aO ?aB ?aS ?aL ?_; (case aB => exact bl_); (case aO => exact (Go.Proofs.YtchoalagkcdbhaaW.Mark.own_of_RM au9_0)); (case aS => exact (below_size bl_)); (case aL => have := LMc38.out; omega); intro v289 w43 ho0 hb hg; have ho := Go.Proofs.YtchoalagkcdbhaaW.Mark.RM_of_own (h1 := fun _ => rfl) (ok := fun _ => True) ho0 (fun _ _ => trivial); clear ho0; have hat := True.intro; rw [← Ny288.out] at ho; change Go.Proofs.YtchoalagkcdbhaaW.Mark.RM 5 w43 w.heap.size (fun _ => True) v289 y288 at ho; have n0_ := Aside0.mk (blk_grown (g := gb266) (o := .cells #[.int .i64 a0_0, .int .i64 a0_1, .int .i64 a0_2, .int .i64 a0_3] 23 (0, 0)) (bk_ BK266) hg (Go.Proofs.YtchoalagkcdbhaaW.Mark.RM_ne HO_5.out BK266.out (by decide))); have n1_ := Aside0.mk (blk_grown (g := gb267) (o := .cells #[.string a1_0, .slice (some ad274) l1_1.length c1_1] 59 (0, 0)) (bk_ BK267) hg (Go.Proofs.YtchoalagkcdbhaaW.Mark.RM_ne HO_5.out BK267.out (by decide))); have n2_ := Aside0.mk (blk_grown (g := gb275) (o := .cells #[.slice (some ad279) ((rd_T102 l1_1 x16_1).f0).length c274_0] 102 (0, 0)) (bk_ BK275) hg (Go.Proofs.YtchoalagkcdbhaaW.Mark.RM_ne HO_5.out BK275.out (by decide))); have n3_ := Aside0.mk (hb); have n4_ := Aside0.mk (ho); clear BK266; clear BK267; clear BK275; clear HB; clear HO_5; have BK266 := n0_; have BK267 := n1_; have BK275 := n2_; have HB := n3_; have HO290 := n4_; clear n0_ n1_ n2_ n3_ n4_; clear ho hb hg hat))
                              go_roundg k2
                              case measure => have := HK1.out; have := HK2.out; omega
                              case rel => exact ⟨(y288), (wrap64 (x29_2 + 1)), er_, H', ⟨au9_4⟩, ⟨by (with_reducible repeat (first | apply Go.Proofs.YtchoalagkcdbhaaW.Mark.RM_alloc | apply Go.Proofs.YtchoalagkcdbhaaW.Mark.RM_drewN | apply Go.Proofs.YtchoalagkcdbhaaW.Mark.RM_drew)); exact HO290.out⟩, ⟨bk_ BK266⟩, ⟨bk_ BK267⟩, ⟨bk_ BK275⟩, ⟨bl_⟩⟩
                            · rw [if_neg c38] at H
                              exact absurd H (by simp)
                        · rw [if_neg c25] at H
                          exact absurd H (by simp)
                      · rw [if_neg c24] at H
                        exact absurd H (by simp)
                    · rw [if_neg c23] at H
                      have c23b0 : decide (x29_2 < (((rd_T102 l1_1 x16_1).f0).length : Int)) = false := decide_eq_false c23
                      clear c23
                      have H' := Aside0.mk H
                      clear H
                      go_wp2
                      go_roundg k2
                      case measure => have := HK1.out; have := HK2.out; omega
                      case rel => exact ⟨(x5_2), (wrap64 (x16_1 + 1)), er_, H', ⟨au9_4⟩, ⟨by (with_reducible repeat (first | apply Go.Proofs.YtchoalagkcdbhaaW.Mark.RM_alloc | apply Go.Proofs.YtchoalagkcdbhaaW.Mark.RM_drewN | apply Go.Proofs.YtchoalagkcdbhaaW.Mark.RM_drew)); exact HO_5.out⟩, ⟨bk_ BK266⟩, ⟨bk_ BK267⟩, ⟨bl_⟩⟩
              · rw [if_neg c14] at H
                exact absurd H (by simp)
            · rw [if_neg c13] at H
              exact absurd H (by simp)
          · rw [if_neg c12] at H
            exact absurd H (by simp)
        · rw [if_neg c11] at H
          have c11b0 : decide (x16_1 < (l1_1.length : Int)) = false := decide_eq_false c11
          clear c11
          by_cases c44 : x5_1.length < 140737488355328
          · rw [if_pos c44] at H
            have LMc44 := Aside0.mk c44
            clear c44
            obtain ⟨y271, hy271⟩ : ∃ y_ : List Int, y_ = (x5_1 ++ [(a0_0) % 256]) := ⟨_, rfl⟩
            replace H : (some (strOfNums y271)) = some r := by first | (rw [hy271]; with_reducible exact H) | (have H2_ := (Option.bind_some _ _).symm.trans H; rw [hy271]; with_reducible exact H2_) | (have H2_ := (Option.bind_some _ _).symm.trans H; with_reducible exact H2_) | with_reducible exact H | (rw [hy271]; exact H) | exact H
            have Ny271 := Aside0.mk hy271
            clear hy271
            obtain rfl := Option.some.inj H
            have hnb45 := NB266_267.out
            have hnc45 := NB267_266.out
            obtain ⟨hcz46_0, hcz46_1, hcz46_2, hcz46_3, hfz46_0, hfz46_1, hfz46_2, hfz46_3⟩ := cellsF4 BK266.out
            go_wp2_with (first | ((with_reducible refine gate_builtin (b := .append) (xs := #[.tmp 49, .tmp 53]) rfl ?_); at_builtin; refine Go.Proofs.YtchoalagkcdbhaaW.Mark.RM_append (w0 := w) w.heap.size rfl (.tmp 49) (.tmp 53) 36 5 (.int .u8 0) 1 rfl Try.underlying36 info5 rfl (by decide) (by omega) u5 x5_1 ((a0_0) % 256) [.int .u8 ((a0_0) % 256)] (fun _ => True) (fun _ => False) rfl rfl ?aP (fun _ hk => hk.elim) ?aF ?aO ?aB ?aS ?aL ?_; (case aP => exact rfl); (case aB => exact bl_); (case aF => exact (fun _ _ => trivial)); (case aO => exact au9_0); (case aS => exact (below_size bl_)); (case aL => have := LMc44.out; omega); intro v272 w47 ho hb hg hat; rw [← Ny271.out] at ho; have n0_ := Aside0.mk (blk_grown (g := gb266) (o := .cells #[.int .i64 a0_0, .int .i64 a0_1, .int .i64 a0_2, .int .i64 a0_3] 23 (0, 0)) (bk_ BK266) hg (Go.Proofs.YtchoalagkcdbhaaW.Mark.RM_ne HO_5.out BK266.out (by decide))); have n1_ := Aside0.mk (blk_grown (g := gb267) (o := .cells #[.string a1_0, .slice A1_1 l1_1.length c1_1] 59 (0, 0)) (bk_ BK267) hg (Go.Proofs.YtchoalagkcdbhaaW.Mark.RM_ne HO_5.out BK267.out (by decide))); have n2_ := Aside0.mk (hb); have n3_ := Aside0.mk (ho); clear BK266; clear BK267; clear HB; clear HO_5; have BK266 := n0_; have BK267 := n1_; have HB := n2_; have HO273 := n3_; clear n0_ n1_ n2_ n3_; clear ho hb hg hat; have hcv48 := Go.Proofs.YtchoalagkcdbhaaW.Mark.own_string (P := Try.prog) Try.underlying36 Try.underlying5 Try.underlying9 (Go.Proofs.YtchoalagkcdbhaaW.Mark.own_of_RM HO273.out)))
            go_ret
            exact ⟨au9_2, bl_⟩
          · rw [if_neg c44] at H
            exact absurd H (by simp)
  · rw [if_neg c3] at H
    exact absurd H (by simp)

end Go.Proofs.Ytchoalagkcdbhaa.PFnExactSegmentsText
