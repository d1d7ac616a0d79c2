-- printed by a program of this session (wip/xp/xprint.py) out of the translation; Lean checks it
import Derived.Test.YtjffakoifpldeaaPFnExactCrossDropx0
import Derived.Test.YtjffakoifpldeaaPFnExactCrossDropx6
namespace Go.Proofs.Ytjffakoifpldeaa.PFnExactCrossDrop
open Go.RowKit Go.Proofs.YtjffakoifpldeaaW.PrintWords Go.Proofs.YtjffakoifpldeaaW.PrintLast Go.Proofs.YtjffakoifpldeaaW.PrintMore
attribute [local go_sem] max2_int min2_int max_two min_two max_three min_three max_four min_four   -- for this text's walks alone
set_option linter.unusedVariables false
set_option linter.unusedSimpArgs false

theorem au7_0 {p : Prop} (h : p := by repeat (first | exact (Kd.C_below HR0.out HB.out) | (with_reducible refine Kd.C_alloc ?_ _) | (with_reducible refine Kd.C_drewN ?_ _) | (with_reducible refine Kd.C_drew ?_))) : p := h
theorem au7_1 {p : Prop} (h : p := by first | rfl | (simp [errW_none, errW_some] <;> rfl) | (simp [*, errW_none, errW_some] <;> rfl)) : p := h
theorem au7_2 {p : Prop} (h : p := by repeat (first | exact HR0.out | (with_reducible refine Kd.C_alloc ?_ _) | (with_reducible refine Kd.C_drewN ?_ _) | (with_reducible refine Kd.C_drew ?_))) : p := h
theorem au7_3 {p : Prop} (h : p := by repeat (first | (with_reducible first | exact HB2.out | apply below_alloc | apply pw_below_drewN | apply below_drew1) | exact HB2.out)) : p := h

/-! ### impl_longText_1: function 111 -/
def impl_longText_1.f (a0 : ByteArray) : Option (Bool) := some (decide ((a0.size : Int) > 20000))
set_option maxHeartbeats 8000000 in
set_option maxRecDepth 100000 in
theorem impl_longText_1.calls (a0 : ByteArray) (r : Bool) (w : World) (h : impl_longText_1.f a0 = some r) :
    Calls Try.prog 111 #[.string a0] w fun e w' => e = .returned (.bool r) ∧ Drawn0 w w' := by
  have H : (some (decide ((a0.size : Int) > 20000))) = some r := h
  clear h
  obtain rfl := Option.some.inj H
  go_enter Try.func111, Try.ntmps111
  go_wp2
  go_ret
  exact ⟨er_, dn_⟩

/-! ### slices_IndexFunc_string_string__impl_longText_1: function 124 -/
def slices_IndexFunc_string_string__impl_longText_1.l0 : Nat → List ByteArray → Int → Int → Option (Int)
  | 0, _, _, _ => none
  | k + 1, x0, x7, x8 => if x8 < x7 then (if 0 ≤ x8 then (if x8 < (x0.length : Int) then ((impl_longText_1.f (rdOf ByteArray.empty x0 x8)).bind fun t180 => (if t180 = true then (some x8) else (slices_IndexFunc_string_string__impl_longText_1.l0 k x0 x7 (wrap64 (x8 + 1))))) else (none)) else (none)) else (some (-1))
def slices_IndexFunc_string_string__impl_longText_1.f (k : Nat) (l0 : List ByteArray)  : Option (Int) := slices_IndexFunc_string_string__impl_longText_1.l0 k l0 (l0.length : Int) 0
theorem slices_IndexFunc_string_string__impl_longText_1.mono_l : ∀ k, (∀ y0 y1 y2, LeO (slices_IndexFunc_string_string__impl_longText_1.l0 k y0 y1 y2) (slices_IndexFunc_string_string__impl_longText_1.l0 (k + 1) y0 y1 y2))
  | 0 => fun _ _ _ r h => by simp [slices_IndexFunc_string_string__impl_longText_1.l0] at h
  | k + 1 => by
    have ih0 := slices_IndexFunc_string_string__impl_longText_1.mono_l k
    · intro y0 y1 y2
      unfold slices_IndexFunc_string_string__impl_longText_1.l0
      repeat' first
      | (with_reducible exact ih0 _ _ _)
      | (with_reducible exact LeO.refl _)
      | (with_reducible exact LeO.none _)
      | (with_reducible refine LeO.ite ?_ ?_)
      | (with_reducible refine LeO.bind ?_ (fun _ => ?_))
      | exact ih0 _ _ _
      | exact LeO.none _
      | refine LeO.ite ?_ ?_
      | refine LeO.bind ?_ (fun _ => ?_)
theorem slices_IndexFunc_string_string__impl_longText_1.mono : ∀ a0 k, LeO (slices_IndexFunc_string_string__impl_longText_1.f k a0) (slices_IndexFunc_string_string__impl_longText_1.f (k + 1) a0) := by
  intro a0 k
  have ih0 := slices_IndexFunc_string_string__impl_longText_1.mono_l k
  unfold slices_IndexFunc_string_string__impl_longText_1.f
  repeat' first
      | (with_reducible exact ih0 _ _ _)
      | (with_reducible exact LeO.refl _)
      | (with_reducible exact LeO.none _)
      | (with_reducible refine LeO.ite ?_ ?_)
      | (with_reducible refine LeO.bind ?_ (fun _ => ?_))
      | exact ih0 _ _ _
      | exact LeO.none _
      | refine LeO.ite ?_ ?_
      | refine LeO.bind ?_ (fun _ => ?_)
set_option maxHeartbeats 8000000 in
set_option maxRecDepth 100000 in
theorem slices_IndexFunc_string_string__impl_longText_1.calls (k : Nat) (A0 : Option Addr) (c0 : Nat) (l0 : List ByteArray)  (r : Int) (w : World) (hr0 : Kd.C Kd.string w A0 l0.length l0) (hc0 : l0.length ≤ c0) (h : slices_IndexFunc_string_string__impl_longText_1.f k l0 = some r) :
    Calls Try.prog 124 #[.slice A0 l0.length c0, .func (.func 111) #[] #[]] w fun e w' => e = .returned (.int .i64 r) ∧ Drawn0 w w' := by
  have HR0 := Aside0.mk hr0
  have HC0 := Aside0.mk hc0
  clear hr0 hc0
  have H : (slices_IndexFunc_string_string__impl_longText_1.l0 k l0 (l0.length : Int) 0) = some r := h
  clear h
  have H' := Aside0.mk H
  clear H
  go_enter Try.func124, Try.ntmps124
  go_wp2
  go_loopg [8] k (fun kq v8 w' => ∃ (x8_1 : Int), v8 = .int .i64 x8_1 ∧ Aside0 (slices_IndexFunc_string_string__impl_longText_1.l0 kq l0 (l0.length : Int) x8_1 = some r) ∧ Aside0 (kq ≤ k) ∧ Drawn0 w w')
  case atStart => exact ⟨(0), er_, H', ⟨Nat.le_refl _⟩, dn_⟩
  case round =>
    clear H'
    try clear c1
    try clear p2
    obtain ⟨x8_1, rfl, HA, HK1, ⟨m1, rfl⟩⟩ := hrel
    cases gk with
    | zero => exact absurd HA.out (by simp [slices_IndexFunc_string_string__impl_longText_1.l0])
    | succ k1 =>
      have H := HA.out
      clear HA
      simp only [slices_IndexFunc_string_string__impl_longText_1.l0] at H
      by_cases c3 : x8_1 < (l0.length : Int)
      · rw [if_pos c3] at H
        have c3b0 : decide (x8_1 < (l0.length : Int)) = true := decide_eq_true c3
        clear c3
        by_cases c4 : 0 ≤ x8_1
        · rw [if_pos c4] at H
          have c4b0 : decide (0 ≤ x8_1) = true := decide_eq_true c4
          clear c4
          by_cases c5 : x8_1 < (l0.length : Int)
          · rw [if_pos c5] at H
            have c5b0 : decide (x8_1 < (l0.length : Int)) = true := decide_eq_true c5
            clear c5
            replace H := Option.bind_eq_some_iff.mp H
            obtain ⟨t180, A60, H⟩ := H
            replace H : (if t180 = true then (some x8_1) else (slices_IndexFunc_string_string__impl_longText_1.l0 k1 l0 (l0.length : Int) (wrap64 (x8_1 + 1)))) = some r := H
            have A6 := Aside0.mk A60
            clear A60
            by_cases c7 : t180 = true
            · subst c7
              have H1 : (some x8_1) = some r := by rw [if_pos rfl] at H; exact H
              clear H
              have H := H1
              clear H1
              obtain rfl := Option.some.inj H
              have p179 : 0 ≤ (x8_1 : Int) := of_decide_eq_true as_
              have q179 : x8_1 < (l0.length : Int) := of_decide_eq_true as_
              obtain ⟨ad179, e179, hx179_0⟩ := Kd.at_string HR0.out x8_1 p179 q179
              cases e179
              replace p179 := eq_true p179
              replace q179 := eq_true q179
              go_wp2_with (first | (go_at_call 111; (with_reducible refine (impl_longText_1.calls (rdOf ByteArray.empty l0 x8_1) true _ A6.out).mono ?_); rintro e w' ⟨rfl, ⟨nd, rfl⟩⟩))
              go_ret
              exact ⟨er_, dn_⟩
            · replace c7 := Bool.eq_false_iff.mpr c7
              subst c7
              have H1 : (slices_IndexFunc_string_string__impl_longText_1.l0 k1 l0 (l0.length : Int) (wrap64 (x8_1 + 1))) = some r := by rw [if_neg (show ¬ (false = true) by decide)] at H; exact H
              clear H
              have H := H1
              clear H1
              have H' := Aside0.mk H
              clear H
              have p179 : 0 ≤ (x8_1 : Int) := of_decide_eq_true as_
              have q179 : x8_1 < (l0.length : Int) := of_decide_eq_true as_
              obtain ⟨ad179, e179, hx179_0⟩ := Kd.at_string HR0.out x8_1 p179 q179
              cases e179
              replace p179 := eq_true p179
              replace q179 := eq_true q179
              go_wp2_with (first | (go_at_call 111; (with_reducible refine (impl_longText_1.calls (rdOf ByteArray.empty l0 x8_1) false _ A6.out).mono ?_); rintro e w' ⟨rfl, ⟨nd, rfl⟩⟩))
              go_roundg k1
              case measure => have := HK1.out; omega
              case rel => exact ⟨(wrap64 (x8_1 + 1)), er_, H', ⟨by have := HK1.out; omega⟩, dn_⟩
          · rw [if_neg c5] at H
            exact absurd H (by simp)
        · rw [if_neg c4] at H
          exact absurd H (by simp)
      · rw [if_neg c3] at H
        have c3b0 : decide (x8_1 < (l0.length : Int)) = false := decide_eq_false c3
        clear c3
        obtain rfl := Option.some.inj H
        go_wp2
        go_ret
        exact ⟨er_, dn_⟩

/-! ### slices_ContainsFunc_string_string__impl_longText_1: function 110 -/
def slices_ContainsFunc_string_string__impl_longText_1.f (k : Nat) (l0 : List ByteArray)  : Option (Bool) := (slices_IndexFunc_string_string__impl_longText_1.f k l0).bind fun t181 => (some (decide (t181 ≥ 0)))
theorem slices_ContainsFunc_string_string__impl_longText_1.mono : ∀ a0 k, LeO (slices_ContainsFunc_string_string__impl_longText_1.f k a0) (slices_ContainsFunc_string_string__impl_longText_1.f (k + 1) a0) := by
  intro a0 k
  unfold slices_ContainsFunc_string_string__impl_longText_1.f
  repeat' first
      | (with_reducible exact slices_IndexFunc_string_string__impl_longText_1.mono _ _)
      | (with_reducible exact LeO.refl _)
      | (with_reducible exact LeO.none _)
      | (with_reducible refine LeO.ite ?_ ?_)
      | (with_reducible refine LeO.bind ?_ (fun _ => ?_))
      | exact slices_IndexFunc_string_string__impl_longText_1.mono _ _
      | exact LeO.none _
      | refine LeO.ite ?_ ?_
      | refine LeO.bind ?_ (fun _ => ?_)
set_option maxHeartbeats 8000000 in
set_option maxRecDepth 100000 in
theorem slices_ContainsFunc_string_string__impl_longText_1.calls (k : Nat) (A0 : Option Addr) (c0 : Nat) (l0 : List ByteArray)  (r : Bool) (w : World) (hr0 : Kd.C Kd.string w A0 l0.length l0) (hc0 : l0.length ≤ c0) (h : slices_ContainsFunc_string_string__impl_longText_1.f k l0 = some r) :
    Calls Try.prog 110 #[.slice A0 l0.length c0, .func (.func 111) #[] #[]] w fun e w' => e = .returned (.bool r) ∧ Drawn0 w w' := by
  have HR0 := Aside0.mk hr0
  have HC0 := Aside0.mk hc0
  clear hr0 hc0
  have H : ((slices_IndexFunc_string_string__impl_longText_1.f k l0).bind fun t181 => (some (decide (t181 ≥ 0)))) = some r := h
  clear h
  replace H := Option.bind_eq_some_iff.mp H
  obtain ⟨t181, A30, H⟩ := H
  replace H : (some (decide (t181 ≥ 0))) = some r := H
  have A3 := Aside0.mk A30
  clear A30
  obtain rfl := Option.some.inj H
  go_enter Try.func110, Try.ntmps110
  go_wp2_with (first | ((with_reducible refine gate_callee (f := 124) rfl ?_); refine gl_ 7 Try.func124 #[.slice A0 l0.length c0, .func (.func 111) #[] #[]] ?_ rfl rfl rfl rfl; (with_reducible refine (slices_IndexFunc_string_string__impl_longText_1.calls k _ _ l0  t181 _ ?side1 ?side2 A3.out).mono ?_); (case side1 => exact au7_2); (case side2 => exact HC0.out); rintro e w' ⟨rfl, ⟨nd, rfl⟩⟩; refine ⟨_, rfl, ?_⟩))
  go_ret
  exact ⟨er_, dn_⟩

/-! ### impl_longText: function 61 -/
def impl_longText.f (k : Nat) (l0 : List ByteArray) : Option (Bool) := (slices_ContainsFunc_string_string__impl_longText_1.f k l0).bind fun t182 => (some t182)
theorem impl_longText.mono : ∀ a0 k, LeO (impl_longText.f k a0) (impl_longText.f (k + 1) a0) := by
  intro a0 k
  unfold impl_longText.f
  repeat' first
      | (with_reducible exact slices_ContainsFunc_string_string__impl_longText_1.mono _ _)
      | (with_reducible exact LeO.refl _)
      | (with_reducible exact LeO.none _)
      | (with_reducible refine LeO.ite ?_ ?_)
      | (with_reducible refine LeO.bind ?_ (fun _ => ?_))
      | exact slices_ContainsFunc_string_string__impl_longText_1.mono _ _
      | exact LeO.none _
      | refine LeO.ite ?_ ?_
      | refine LeO.bind ?_ (fun _ => ?_)
set_option maxHeartbeats 8000000 in
set_option maxRecDepth 100000 in
theorem impl_longText.calls (k : Nat) (A0 : Option Addr) (c0 : Nat) (l0 : List ByteArray) (r : Bool) (w : World) (hr0 : Kd.C Kd.string w A0 l0.length l0) (hc0 : l0.length ≤ c0) (h : impl_longText.f k l0 = some r) :
    Calls Try.prog 61 #[.slice A0 l0.length c0] w fun e w' => e = .returned (.bool r) ∧ Drawn0 w w' := by
  have HR0 := Aside0.mk hr0
  have HC0 := Aside0.mk hc0
  clear hr0 hc0
  have H : ((slices_ContainsFunc_string_string__impl_longText_1.f k l0).bind fun t182 => (some t182)) = some r := h
  clear h
  replace H := Option.bind_eq_some_iff.mp H
  obtain ⟨t182, A20, H⟩ := H
  replace H : (some t182) = some r := H
  have A2 := Aside0.mk A20
  clear A20
  obtain rfl := Option.some.inj H
  go_enter Try.func61, Try.ntmps61
  go_wp2_with (first | ((with_reducible refine gate_callee (f := 110) rfl ?_); refine gl_ 4 Try.func110 #[.slice A0 l0.length c0, .func (.func 111) #[] #[]] ?_ rfl rfl rfl rfl; (with_reducible refine (slices_ContainsFunc_string_string__impl_longText_1.calls k _ _ l0  t182 _ ?side1 ?side2 A2.out).mono ?_); (case side1 => exact au7_2); (case side2 => exact HC0.out); rintro e w' ⟨rfl, ⟨nd, rfl⟩⟩; refine ⟨_, rfl, ?_⟩))
  go_ret
  exact ⟨er_, dn_⟩

/-! ### impl_Cross_64: function 64 -/
def impl_Cross_64.f (l0 : List (S37)) : Option (Bool) := some (decide ((l0.length : Int) > 400))
set_option maxHeartbeats 8000000 in
set_option maxRecDepth 100000 in
theorem impl_Cross_64.calls (A0 : Option Addr) (c0 : Nat) (l0 : List (S37)) (r : Bool) (w : World) (hr0 : Kd.C k37 w A0 l0.length l0) (hc0 : l0.length ≤ c0) (h : impl_Cross_64.f l0 = some r) :
    Calls Try.prog 64 #[.slice A0 l0.length c0] w fun e w' => e = .returned (.bool r) ∧ Drawn0 w w' := by
  have HR0 := Aside0.mk hr0
  have HC0 := Aside0.mk hc0
  clear hr0 hc0
  have H : (some (decide ((l0.length : Int) > 400))) = some r := h
  clear h
  obtain rfl := Option.some.inj H
  go_enter Try.func64, Try.ntmps64
  go_wp2
  go_ret
  exact ⟨er_, dn_⟩

/-! ### impl_Cross_65: function 65 -/
def impl_Cross_65.f (l0 : List (S37)) : Option (List (S37)) := if l0.length < 2932031007402 then (some l0) else (none)
set_option maxHeartbeats 8000000 in
set_option maxRecDepth 100000 in
theorem impl_Cross_65.calls (A0 : Option Addr) (c0 : Nat) (l0 : List (S37)) (r : List (S37)) (w : World) (hr0 : Kd.C k37 w A0 l0.length l0) (hc0 : l0.length ≤ c0) (h : impl_Cross_65.f l0 = some r) :
    Calls Try.prog 65 #[.slice A0 l0.length c0] w fun e w' => ∃ v0_ : Value, e = .returned (v0_) ∧ Kd.R k37 37 w' w.heap.size (fun _ => True) v0_ r ∧ Below w.heap.size w w' := by
  have hu := Try.underlying25
  have HR := Aside0.mk hr0
  clear hr0
  have HB := Aside0.mk (Below.refl w.heap.size w)
  by_cases hl : l0.length < 2932031007402
  · have H := h
    unfold impl_Cross_65.f at H
    rw [if_pos hl] at H
    obtain rfl := Option.some.inj H
    clear H h
    have HL := Aside0.mk hl
    clear hl
    cases A0 with
    | none =>
      have h0 : l0 = [] := by
        rcases l0 with _ | ⟨x, xs⟩
        · rfl
        · obtain ⟨ad, h1, _⟩ := HR.out.2.2 (by simp)
          cases h1
      subst h0
      have hq := fun (w : World) => Go.Lib.run_eql_slice_nil (P := Try.prog) w 25 37 none 0 c0 0 0 hu
      go_enter Try.func65, Try.ntmps65
      go_wp2
      go_ret
      exact ⟨_, rfl, Kd.R_nil _ _ _ _ _, HB.out⟩
    | some ad =>
      have hq := fun (w : World) => Go.Lib.run_eql_slice_nil (P := Try.prog) w 25 37 (some ad) l0.length c0 0 0 hu
      go_enter Try.func65, Try.ntmps65
      go_wp2_with (first
        | ((with_reducible refine gate_dst (N := 5) rfl ?_); refine Kd.R_lit k37 _ 37 ?hg (N := 5) ?hd (xs := ([] : List (S37))) (inner := []) (ok := fun _ => True) (okp := fun _ => True) ?hr ?hp (fun _ hk => hk) trivial (Below.refl _ _) (Nat.le_refl _) (by simp) ?_; (case hd => rfl); (case hg => rfl); (case hr => exact hr_); (case hp => exact (Reps.none _ _)); intro v1 w1 ho hb hg_ hnew_; clear hg_ hnew_; have HO := Aside0.mk (Kd.R_lower ho (below_size HB.out)); have HB2 := Aside0.mk (below_step HB.out hb); clear ho hb)
        | ((with_reducible refine gate_builtin (b := .append) (xs := #[.tmp 5, .tmp 6]) rfl ?_); at_builtin; refine Kd.R_append_rows k37 (w0 := w) w.heap.size rfl (.tmp 5) (.tmp 6) 25 37 (.agg #[(.string ⟨#[]⟩), (.string ⟨#[]⟩), (.string ⟨#[]⟩)]) 48 rfl Try.underlying25 info37 rfl (by decide) (by omega) v1 ([] : List (S37)) l0 _ _ _ (fun _ => True) (fun _ => False) rfl rfl ?aO ?aR (fun _ _ h => h) (fun _ h => h.elim) ?aF ?aB ?aS ?aL ?_; (case aR => repeat (first | exact (Kd.C_below HR.out HB2.out) | (with_reducible refine Kd.C_alloc ?_ _) | (with_reducible refine Kd.C_drewN ?_ _) | (with_reducible refine Kd.C_drew ?_))); (case aB => exact au7_3); (case aF => exact (fun _ _ => trivial)); (case aO => exact (by (with_reducible repeat (first | apply Kd.R_alloc | apply Kd.R_drewN | apply Kd.R_drew)); exact HO.out)); (case aS => exact (below_size au7_3)); (case aL => have := HL.out; simp only [List.length_nil]; omega); intro v2 w2 ho hb hg hat))
      go_ret
      exact ⟨_, rfl, by (with_reducible repeat (first | apply Kd.R_alloc | apply Kd.R_drewN | apply Kd.R_drew)); exact ho, by repeat (first | (with_reducible first | exact hb | apply below_alloc | apply pw_below_drewN | apply below_drew1) | exact hb)⟩
  · have H := h
    unfold impl_Cross_65.f at H
    rw [if_neg hl] at H
    cases H

/-! ### impl_CrossDrop_1: function 67 -/
def impl_CrossDrop_1.f (a0_0 : ByteArray) (a0_1 : ByteArray) (a0_2 : ByteArray) (a1_0 : ByteArray) (a2_0 : ByteArray) : Option (Bool) := if a0_0.toList = a1_0.toList then (some (a0_1.toList == a2_0.toList)) else (some false)
set_option maxHeartbeats 8000000 in
set_option maxRecDepth 100000 in
theorem impl_CrossDrop_1.calls (a0_0 : ByteArray) (a0_1 : ByteArray) (a0_2 : ByteArray) (gb1 : Nat) (a1_0 : ByteArray) (gb2 : Nat) (a2_0 : ByteArray) (r : Bool) (w : World) (hb1 : w.heap[gb1]? = some (.cells #[.string a1_0] 9 (0, 0))) (hb2 : w.heap[gb2]? = some (.cells #[.string a2_0] 9 (0, 0))) (h : impl_CrossDrop_1.f a0_0 a0_1 a0_2 a1_0 a2_0 = some r) :
    Calls Try.prog 67 #[.agg #[.string a0_0, .string a0_1, .string a0_2], .pointer (some ⟨gb1, 0, none⟩), .pointer (some ⟨gb2, 0, none⟩)] w fun e w' => e = .returned (.bool r) ∧ Below w.heap.size w w' := by
  have hu37 := Try.underlying37
  have BK1 := Aside0.mk hb1
  clear hb1
  have BK2 := Aside0.mk hb2
  clear hb2
  have HB := Aside0.mk (Below.refl w.heap.size w)
  have H : (if a0_0.toList = a1_0.toList then (some (a0_1.toList == a2_0.toList)) else (some false)) = some r := h
  clear h
  by_cases c4 : a0_0.toList = a1_0.toList
  · rw [if_pos c4] at H
    have c4b0 : (a0_0.toList == a1_0.toList) = true := beq_iff_eq.mpr c4
    have c4b1 : (a0_0.toList != a1_0.toList) = false := bne_eq_false_iff_eq.mpr c4
    clear c4
    obtain rfl := Option.some.inj H
    go_enter Try.func67, Try.ntmps67
    go_wp2_with (first | ((with_reducible refine gate_dst (N := 3) rfl ?_); refine box_event ?hg (N := 3) ?hd (cs := #[.string a0_0, .string a0_1, .string a0_2]) (t := 37) ?hr ?_; (case hd => rfl); (case hg => rfl); (case hr => exact hr_); intro gb183 hg w5 hbox hb; have n0_ := Aside0.mk (blkb_ BK1 hb); have n1_ := Aside0.mk (blkb_ BK2 hb); have n2_ := Aside0.mk (below_step bl_ hb); have n3_ := Aside0.mk (hbox); have n4_ := Aside0.mk (gw_ hg bl_); have n5_ := Aside0.mk (gw_ hg bl_); have n6_ := Aside0.mk (gn_ hg (blkl_ BK1)); have n7_ := Aside0.mk (gm_ hg (blkl_ BK1)); have n8_ := Aside0.mk (gn_ hg (blkl_ BK2)); have n9_ := Aside0.mk (gm_ hg (blkl_ BK2)); clear BK1; clear BK2; clear HB; have BK1 := n0_; have BK2 := n1_; have HB := n2_; have BK183 := n3_; have GW183 := n4_; have GE183 := n5_; have NB1_183 := n6_; have NB183_1 := n7_; have NB2_183 := n8_; have NB183_2 := n9_; clear n0_ n1_ n2_ n3_ n4_ n5_ n6_ n7_ n8_ n9_; clear hb hbox hg; have hnb6 := NB183_1.out; have hnc6 := NB1_183.out; have hnb7 := NB183_2.out; have hnc7 := NB2_183.out; obtain ⟨hcz8_0, hcz8_1, hcz8_2, hfz8_0, hfz8_1, hfz8_2⟩ := cellsF3 BK183.out; have hcz9_0 : w5.cell? ⟨gb1, 0, none⟩ = some (.string a1_0) := (blk_cell BK1.out 0).trans rfl; have hfz9_0 := blk_frozen BK1.out 0; have hcz10_0 : w5.cell? ⟨gb2, 0, none⟩ = some (.string a2_0) := (blk_cell BK2.out 0).trans rfl; have hfz10_0 := blk_frozen BK2.out 0))
    go_ret
    exact ⟨au7_1, bl_⟩
  · rw [if_neg c4] at H
    have c4b0 : (a0_0.toList == a1_0.toList) = false := beq_eq_false_iff_ne.mpr c4
    have c4b1 : (a0_0.toList != a1_0.toList) = true := bne_iff_ne.mpr c4
    obtain rfl := Option.some.inj H
    go_enter Try.func67, Try.ntmps67
    go_wp2_with (first | ((with_reducible refine gate_dst (N := 3) rfl ?_); refine box_event ?hg (N := 3) ?hd (cs := #[.string a0_0, .string a0_1, .string a0_2]) (t := 37) ?hr ?_; (case hd => rfl); (case hg => rfl); (case hr => exact hr_); intro gb183 hg w11 hbox hb; have n0_ := Aside0.mk (blkb_ BK1 hb); have n1_ := Aside0.mk (blkb_ BK2 hb); have n2_ := Aside0.mk (below_step bl_ hb); have n3_ := Aside0.mk (hbox); have n4_ := Aside0.mk (gw_ hg bl_); have n5_ := Aside0.mk (gw_ hg bl_); have n6_ := Aside0.mk (gn_ hg (blkl_ BK1)); have n7_ := Aside0.mk (gm_ hg (blkl_ BK1)); have n8_ := Aside0.mk (gn_ hg (blkl_ BK2)); have n9_ := Aside0.mk (gm_ hg (blkl_ BK2)); clear BK1; clear BK2; clear HB; have BK1 := n0_; have BK2 := n1_; have HB := n2_; have BK183 := n3_; have GW183 := n4_; have GE183 := n5_; have NB1_183 := n6_; have NB183_1 := n7_; have NB2_183 := n8_; have NB183_2 := n9_; clear n0_ n1_ n2_ n3_ n4_ n5_ n6_ n7_ n8_ n9_; clear hb hbox hg; have hnb12 := NB183_1.out; have hnc12 := NB1_183.out; have hnb13 := NB183_2.out; have hnc13 := NB2_183.out; obtain ⟨hcz14_0, hcz14_1, hcz14_2, hfz14_0, hfz14_1, hfz14_2⟩ := cellsF3 BK183.out; have hcz15_0 : w11.cell? ⟨gb1, 0, none⟩ = some (.string a1_0) := (blk_cell BK1.out 0).trans rfl; have hfz15_0 := blk_frozen BK1.out 0))
    go_ret
    exact ⟨au7_1, bl_⟩

/-! ### impl_Cross_109__impl_CrossDrop_1: function 109 -/
def impl_Cross_109__impl_CrossDrop_1.l0 : Nat → List (S37) → Int → Int → ByteArray → ByteArray → Option (Int)
  | 0, _, _, _, _, _ => none
  | k + 1, x0, x7, x8, x2000, x3000 => if x8 < x7 then (if 0 ≤ x8 then (if x8 < (x0.length : Int) then ((impl_CrossDrop_1.f ((rd_T37 x0 x8).f0) ((rd_T37 x0 x8).f1) ((rd_T37 x0 x8).f2) x2000 x3000).bind fun t185 => (if t185 = true then (some x8) else (impl_Cross_109__impl_CrossDrop_1.l0 k x0 x7 (wrap64 (x8 + 1)) x2000 x3000))) else (none)) else (none)) else (some (-1))
def impl_Cross_109__impl_CrossDrop_1.f (k : Nat) (l0 : List (S37)) (a1_0 : ByteArray) (a2_0 : ByteArray) : Option (Int) := impl_Cross_109__impl_CrossDrop_1.l0 k l0 (l0.length : Int) 0 a1_0 a2_0
theorem impl_Cross_109__impl_CrossDrop_1.mono_l : ∀ k, (∀ y0 y1 y2 y3 y4, LeO (impl_Cross_109__impl_CrossDrop_1.l0 k y0 y1 y2 y3 y4) (impl_Cross_109__impl_CrossDrop_1.l0 (k + 1) y0 y1 y2 y3 y4))
  | 0 => fun _ _ _ _ _ r h => by simp [impl_Cross_109__impl_CrossDrop_1.l0] at h
  | k + 1 => by
    have ih0 := impl_Cross_109__impl_CrossDrop_1.mono_l k
    · intro y0 y1 y2 y3 y4
      unfold impl_Cross_109__impl_CrossDrop_1.l0
      repeat' first
      | (with_reducible exact ih0 _ _ _ _ _)
      | (with_reducible exact LeO.refl _)
      | (with_reducible exact LeO.none _)
      | (with_reducible refine LeO.ite ?_ ?_)
      | (with_reducible refine LeO.bind ?_ (fun _ => ?_))
      | exact ih0 _ _ _ _ _
      | exact LeO.none _
      | refine LeO.ite ?_ ?_
      | refine LeO.bind ?_ (fun _ => ?_)
theorem impl_Cross_109__impl_CrossDrop_1.mono : ∀ a0 a1 a2 k, LeO (impl_Cross_109__impl_CrossDrop_1.f k a0 a1 a2) (impl_Cross_109__impl_CrossDrop_1.f (k + 1) a0 a1 a2) := by
  intro a0 a1 a2 k
  have ih0 := impl_Cross_109__impl_CrossDrop_1.mono_l k
  unfold impl_Cross_109__impl_CrossDrop_1.f
  repeat' first
      | (with_reducible exact ih0 _ _ _ _ _)
      | (with_reducible exact LeO.refl _)
      | (with_reducible exact LeO.none _)
      | (with_reducible refine LeO.ite ?_ ?_)
      | (with_reducible refine LeO.bind ?_ (fun _ => ?_))
      | exact ih0 _ _ _ _ _
      | exact LeO.none _
      | refine LeO.ite ?_ ?_
      | refine LeO.bind ?_ (fun _ => ?_)
set_option maxHeartbeats 8000000 in
set_option maxRecDepth 100000 in
theorem impl_Cross_109__impl_CrossDrop_1.calls (k : Nat) (A0 : Option Addr) (c0 : Nat) (l0 : List (S37)) (gb1 : Nat) (a1_0 : ByteArray) (gb2 : Nat) (a2_0 : ByteArray) (r : Int) (w : World) (hr0 : Kd.C k37 w A0 l0.length l0) (hc0 : l0.length ≤ c0) (hb1 : w.heap[gb1]? = some (.cells #[.string a1_0] 9 (0, 0))) (hb2 : w.heap[gb2]? = some (.cells #[.string a2_0] 9 (0, 0))) (h : impl_Cross_109__impl_CrossDrop_1.f k l0 a1_0 a2_0 = some r) :
    Calls Try.prog 109 #[.slice A0 l0.length c0, .func (.func 67) #[] #[.pointer (some ⟨gb1, 0, none⟩), .pointer (some ⟨gb2, 0, none⟩)]] w fun e w' => e = .returned (.int .i64 r) ∧ Below w.heap.size w w' := by
  have hu37 := Try.underlying37
  have HR0 := Aside0.mk hr0
  have HC0 := Aside0.mk hc0
  clear hr0 hc0
  have BK1 := Aside0.mk hb1
  clear hb1
  have BK2 := Aside0.mk hb2
  clear hb2
  have HB := Aside0.mk (Below.refl w.heap.size w)
  have H : (impl_Cross_109__impl_CrossDrop_1.l0 k l0 (l0.length : Int) 0 a1_0 a2_0) = some r := h
  clear h
  have H' := Aside0.mk H
  clear H
  go_enter Try.func109, Try.ntmps109
  go_wp2
  go_loopg [8] k (fun kq v8 w' => ∃ (x8_1 : Int), v8 = .int .i64 x8_1 ∧ Aside0 (impl_Cross_109__impl_CrossDrop_1.l0 kq l0 (l0.length : Int) x8_1 a1_0 a2_0 = some r) ∧ Aside0 (kq ≤ k) ∧ Aside0 (w'.heap[gb1]? = some (.cells #[.string a1_0] 9 (0, 0))) ∧ Aside0 (w'.heap[gb2]? = some (.cells #[.string a2_0] 9 (0, 0))) ∧ Aside0 (Below w.heap.size w w'))
  case atStart => exact ⟨(0), er_, H', ⟨Nat.le_refl _⟩, ⟨bk_ BK1⟩, ⟨bk_ BK2⟩, ⟨bl_⟩⟩
  case round =>
    clear H'
    try clear c1
    try clear p2
    obtain ⟨x8_1, rfl, HA, HK1, BK1, BK2, HB⟩ := hrel
    cases gk with
    | zero => exact absurd HA.out (by simp [impl_Cross_109__impl_CrossDrop_1.l0])
    | succ k1 =>
      have H := HA.out
      clear HA
      simp only [impl_Cross_109__impl_CrossDrop_1.l0] at H
      by_cases c4 : x8_1 < (l0.length : Int)
      · rw [if_pos c4] at H
        have c4b0 : decide (x8_1 < (l0.length : Int)) = true := decide_eq_true c4
        clear c4
        by_cases c5 : 0 ≤ x8_1
        · rw [if_pos c5] at H
          have c5b0 : decide (0 ≤ x8_1) = true := decide_eq_true c5
          clear c5
          by_cases c6 : x8_1 < (l0.length : Int)
          · rw [if_pos c6] at H
            have c6b0 : decide (x8_1 < (l0.length : Int)) = true := decide_eq_true c6
            clear c6
            replace H := Option.bind_eq_some_iff.mp H
            obtain ⟨t185, A70, H⟩ := H
            replace H : (if t185 = true then (some x8_1) else (impl_Cross_109__impl_CrossDrop_1.l0 k1 l0 (l0.length : Int) (wrap64 (x8_1 + 1)) a1_0 a2_0)) = some r := H
            have A7 := Aside0.mk A70
            clear A70
            by_cases c8 : t185 = true
            · subst c8
              have H1 : (some x8_1) = some r := by rw [if_pos rfl] at H; exact H
              clear H
              have H := H1
              clear H1
              obtain rfl := Option.some.inj H
              have p184 : 0 ≤ (x8_1 : Int) := of_decide_eq_true as_
              have q184 : x8_1 < (l0.length : Int) := of_decide_eq_true as_
              obtain ⟨ad184, e184, hx184_0, hx184_1, hx184_2⟩ := at_T37 HR0.out x8_1 p184 q184
              cases e184
              replace hx184_0 := (HB.out.cell (World.block_lt_of_cell? _ _ hx184_0)).trans hx184_0
              replace hx184_1 := (HB.out.cell (World.block_lt_of_cell? _ _ hx184_1)).trans hx184_1
              replace hx184_2 := (HB.out.cell (World.block_lt_of_cell? _ _ hx184_2)).trans hx184_2
              replace p184 := eq_true p184
              replace q184 := eq_true q184
              go_wp2_with (first | (go_at_call 67; (with_reducible refine (impl_CrossDrop_1.calls ((rd_T37 l0 x8_1).f0) ((rd_T37 l0 x8_1).f1) ((rd_T37 l0 x8_1).f2) gb1 a1_0 gb2 a2_0 true _ ?side1 ?side2 A7.out).mono ?_); (case side1 => exact (bk_ BK1)); (case side2 => exact (bk_ BK2)); rintro e w9 ⟨rfl, hb⟩; have n0_ := Aside0.mk (blkb_ BK1 hb); have n1_ := Aside0.mk (blkb_ BK2 hb); have n2_ := Aside0.mk (below_step bl_ hb); clear BK1; clear BK2; clear HB; have BK1 := n0_; have BK2 := n1_; have HB := n2_; clear n0_ n1_ n2_; (try clear hb); (try clear hb2); (try clear hk); (try clear hi)))
              go_ret
              exact ⟨au7_1, bl_⟩
            · replace c8 := Bool.eq_false_iff.mpr c8
              subst c8
              have H1 : (impl_Cross_109__impl_CrossDrop_1.l0 k1 l0 (l0.length : Int) (wrap64 (x8_1 + 1)) a1_0 a2_0) = some r := by rw [if_neg (show ¬ (false = true) by decide)] at H; exact H
              clear H
              have H := H1
              clear H1
              have H' := Aside0.mk H
              clear H
              have p184 : 0 ≤ (x8_1 : Int) := of_decide_eq_true as_
              have q184 : x8_1 < (l0.length : Int) := of_decide_eq_true as_
              obtain ⟨ad184, e184, hx184_0, hx184_1, hx184_2⟩ := at_T37 HR0.out x8_1 p184 q184
              cases e184
              replace hx184_0 := (HB.out.cell (World.block_lt_of_cell? _ _ hx184_0)).trans hx184_0
              replace hx184_1 := (HB.out.cell (World.block_lt_of_cell? _ _ hx184_1)).trans hx184_1
              replace hx184_2 := (HB.out.cell (World.block_lt_of_cell? _ _ hx184_2)).trans hx184_2
              replace p184 := eq_true p184
              replace q184 := eq_true q184
              go_wp2_with (first | (go_at_call 67; (with_reducible refine (impl_CrossDrop_1.calls ((rd_T37 l0 x8_1).f0) ((rd_T37 l0 x8_1).f1) ((rd_T37 l0 x8_1).f2) gb1 a1_0 gb2 a2_0 false _ ?side1 ?side2 A7.out).mono ?_); (case side1 => exact (bk_ BK1)); (case side2 => exact (bk_ BK2)); rintro e w10 ⟨rfl, hb⟩; have n0_ := Aside0.mk (blkb_ BK1 hb); have n1_ := Aside0.mk (blkb_ BK2 hb); have n2_ := Aside0.mk (below_step bl_ hb); clear BK1; clear BK2; clear HB; have BK1 := n0_; have BK2 := n1_; have HB := n2_; clear n0_ n1_ n2_; (try clear hb); (try clear hb2); (try clear hk); (try clear hi)))
              go_roundg k1
              case measure => have := HK1.out; omega
              case rel => exact ⟨(wrap64 (x8_1 + 1)), er_, H', ⟨by have := HK1.out; omega⟩, ⟨bk_ BK1⟩, ⟨bk_ BK2⟩, ⟨bl_⟩⟩
          · rw [if_neg c6] at H
            exact absurd H (by simp)
        · rw [if_neg c5] at H
          exact absurd H (by simp)
      · rw [if_neg c4] at H
        have c4b0 : decide (x8_1 < (l0.length : Int)) = false := decide_eq_false c4
        clear c4
        obtain rfl := Option.some.inj H
        go_wp2
        go_ret
        exact ⟨au7_1, bl_⟩

/-! ### impl_Cross_66__impl_CrossDrop_1: function 66 -/
def impl_Cross_66__impl_CrossDrop_1.f (k : Nat) (l0 : List (S37)) (a1_0 : ByteArray) (a2_0 : ByteArray) : Option (List (S37)) := (impl_Cross_109__impl_CrossDrop_1.f k l0 a1_0 a2_0).bind fun i => if i = -1 then (some l0) else (if 0 ≤ i then (if i < (l0.length : Int) then (some (l0.take i.toNat ++ (l0.drop (i.toNat + 1)).filter (fun x => !((impl_CrossDrop_1.f x.f0 x.f1 x.f2 a1_0 a2_0).getD false)))) else (none)) else (none))
theorem impl_Cross_66__impl_CrossDrop_1.mono : ∀ l0 a1_0 a2_0 k, LeO (impl_Cross_66__impl_CrossDrop_1.f k l0 a1_0 a2_0) (impl_Cross_66__impl_CrossDrop_1.f (k + 1) l0 a1_0 a2_0) := by
  intro l0 a1_0 a2_0 k
  unfold impl_Cross_66__impl_CrossDrop_1.f
  exact LeO.bind (impl_Cross_109__impl_CrossDrop_1.mono _ _ _ _) (fun _ => LeO.refl _)
theorem impl_Cross_66__impl_CrossDrop_1.plain : Go.Proofs.YtjffakoifpldeaaW.Row.Plain k37 (fun x : S37 => ([.string x.f0, .string x.f1, .string x.f2] : List Value)) where
  K := ⟨fun h => k37_open h, fun h => by rw [h]; exact k37_mk _ _⟩
  M := ⟨fun h => k37_openM h, fun h => by rw [h]; exact k37_mkM _ _ _ _⟩
  sz := rfl
  len := fun x => ⟨_, _, _, rfl⟩
  one := fun x v hv => by
    simp only [List.mem_cons, List.not_mem_nil, or_false] at hv
    rcases hv with rfl | rfl | rfl <;> rfl
theorem impl_Cross_66__impl_CrossDrop_1.some_ (u : S37) (a1_0 : ByteArray) (a2_0 : ByteArray) : ∃ b, impl_CrossDrop_1.f u.f0 u.f1 u.f2 a1_0 a2_0 = some b := by
  unfold impl_CrossDrop_1.f
  repeat' split
  all_goals exact ⟨_, rfl⟩
set_option maxHeartbeats 8000000 in
set_option maxRecDepth 100000 in
theorem impl_Cross_66__impl_CrossDrop_1.calls (k : Nat) (P0_ : Nat → Prop) (u9000_ : Value) (l0 : List (S37)) (gb1 : Nat) (a1_0 : ByteArray) (gb2 : Nat) (a2_0 : ByteArray) (r : List (S37)) (w0 w : World) (hB : Below w0.heap.size w0 w) (ho0 : Kd.R k37 37 w w0.heap.size P0_ u9000_ l0) (hb1 : w.heap[gb1]? = some (.cells #[.string a1_0] 9 (0, 0))) (hn1 : ¬ P0_ gb1) (hb2 : w.heap[gb2]? = some (.cells #[.string a2_0] 9 (0, 0))) (hn2 : ¬ P0_ gb2)  (h : impl_Cross_66__impl_CrossDrop_1.f k l0 a1_0 a2_0 = some r) :
    Calls Try.prog 66 #[u9000_, .func (.func 67) #[] #[.pointer (some ⟨gb1, 0, none⟩), .pointer (some ⟨gb2, 0, none⟩)]] w fun e w' => ∃ v0_ : Value, e = .returned (v0_) ∧ Kd.R k37 37 w' w0.heap.size (fun k_ => (P0_ k_ ∨ w.heap.size ≤ k_)) v0_ r ∧ Below w0.heap.size w0 w' ∧ Kept w w' (fun k_ => P0_ k_) := by
  have hu37 := Try.underlying37
  have hu25 := Try.underlying25
  unfold impl_Cross_66__impl_CrossDrop_1.f at h
  obtain ⟨i, hi, h⟩ := Option.bind_eq_some_iff.mp h
  have HI := Aside0.mk hi
  clear hi
  have HO := Aside0.mk ho0
  have HB0 := Aside0.mk hB
  have BK1 := Aside0.mk hb1
  have HN1 := Aside0.mk hn1
  have BK2 := Aside0.mk hb2
  have HN2 := Aside0.mk hn2
  clear ho0 hB hb1 hn1 hb2 hn2
  by_cases h1 : i = -1
  · rw [if_pos h1] at h
    obtain rfl := Option.some.inj h
    subst h1
    clear h
    obtain ⟨A, c, rfl, hc, hC⟩ := Kd.R_reads HO.out
    have HC := Aside0.mk hC
    have HL := Aside0.mk hc
    clear hC hc
    go_enter Try.func66, Try.ntmps66
    go_wp2_with (go_at_call 109; (with_reducible refine (impl_Cross_109__impl_CrossDrop_1.calls k _ _ l0 gb1 a1_0 gb2 a2_0 (-1) _ ?side1 ?side2 ?sb1 ?sb2 HI.out).mono ?_); (case side1 => exact HC.out); (case side2 => exact HL.out); (case sb1 => exact BK1.out); (case sb2 => exact BK2.out);  rintro e w1 ⟨rfl, hb⟩; have HB := Aside0.mk hb; clear hb)
    go_ret
    exact ⟨_, rfl, Kd.R_mono (Kd.R_below HO.out HB.out) (fun _ h => .inl h), below_step HB0.out HB.out, Kept.of_below HB.out _⟩
  · rw [if_neg h1] at h
    by_cases h2 : 0 ≤ i
    · rw [if_pos h2] at h
      by_cases h3 : i < (l0.length : Int)
      · rw [if_pos h3] at h
        have hr := Option.some.inj h
        clear h
        obtain ⟨i0, rfl⟩ : ∃ i0 : Nat, i = (i0 : Int) := ⟨i.toNat, by omega⟩
        simp only [Int.toNat_natCast] at hr
        have hi0 : i0 < l0.length := by omega
        have hne : l0 ≠ [] := fun e => by rw [e] at hi0; simp at hi0
        obtain ⟨g, cap, t, rfl, hbase, hP, hg, hn, hm, hs⟩ := impl_Cross_66__impl_CrossDrop_1.plain.blk HO.out hne
        have hne1 : ((i0 : Int) == -1) = false := beq_eq_false_iff_ne.2 h1
        have hC : Kd.C k37 w (some ⟨g, 0, none⟩) l0.length l0 := impl_Cross_66__impl_CrossDrop_1.plain.read (by unfold maxLen at hm; omega) hg
        have HC := Aside0.mk hC
        have HG := Aside0.mk hg
        have HS := Aside0.mk hs
        have HR := Aside0.mk hr
        have HP := Aside0.mk hP
        have HBS := Aside0.mk hbase
        have HL := Aside0.mk hn
        have HM := Aside0.mk hm
        have hgb1 : g ≠ gb1 := fun e => HN1.out (by rw [← e]; exact hP)
        have hgb2 : g ≠ gb2 := fun e => HN2.out (by rw [← e]; exact hP)
        have hcap : cap ≤ 9223372036854775807 := by unfold maxLen at hm; omega
        have hl63 : l0.length ≤ 9223372036854775807 := by omega
        clear hC hg hs hr hP hbase hn hm h1 h2 h3 hne
        go_enter Try.func66, Try.ntmps66
        go_wp2_with (go_at_call 109; (with_reducible refine (impl_Cross_109__impl_CrossDrop_1.calls k _ _ l0 gb1 a1_0 gb2 a2_0 (i0 : Int) _ ?side1 ?side2 ?sb1 ?sb2 HI.out).mono ?_); (case side1 => exact HC.out); (case side2 => exact HL.out); (case sb1 => exact BK1.out); (case sb2 => exact BK2.out);  rintro e w1 ⟨rfl, hb⟩; have HB := Aside0.mk hb; clear hb)
        go_loopg [5, 6, 7] l0.length (fun gg s5 s6 _ wr => ∃ (i j : Nat) (dk : List (S37)), s5 = .int .i64 i ∧ s6 = .int .i64 j ∧ i < j ∧ j ≤ l0.length ∧ l0.length - j ≤ gg ∧ Aside0 (dk.length = l0.length) ∧ Aside0 (dk.drop j = l0.drop j) ∧ Aside0 (dk.take i ++ (l0.drop j).filter (fun x => !((impl_CrossDrop_1.f x.f0 x.f1 x.f2 a1_0 a2_0).getD false)) = r) ∧ Aside0 (wr.heap[g]? = some (.cells (dk.flatMap (fun x : S37 => ([.string x.f0, .string x.f1, .string x.f2] : List Value)) ++ t).toArray 37 (0, 0))) ∧ Aside0 (wr.heap[gb1]? = some (.cells #[.string a1_0] 9 (0, 0))) ∧ Aside0 (wr.heap[gb2]? = some (.cells #[.string a2_0] 9 (0, 0))) ∧ Aside0 (Below w0.heap.size w0 wr) ∧ Aside0 (Kept w wr (fun k_ => P0_ k_)))
        case atStart => exact ⟨i0, i0 + 1, l0, rfl, by go_num, Nat.lt_succ_self _, by omega, by omega, ⟨rfl⟩, ⟨rfl⟩, HR, ⟨blk_below HG.out HB.out⟩, ⟨blk_below BK1.out HB.out⟩, ⟨blk_below BK2.out HB.out⟩, ⟨below_step HB0.out HB.out⟩, ⟨Kept.of_below HB.out _⟩⟩
        case round =>
          clear HI HC HG HR BK1 BK2 HB HB0 HO
          obtain ⟨i, j, dk, rfl, rfl, hij, hjn, hgg, HDL, HDJ, HR, HG, BK1, BK2, HB, HK⟩ := hrel
          by_cases hlt : j < l0.length
          · have hltz : (j : Int) < (l0.length : Int) := by omega
            have hjd : j < dk.length := by rw [HDL.out]; exact hlt
            have hid : i < dk.length := by omega
            obtain ⟨u, hu⟩ : ∃ u, dk[j] = u := ⟨_, rfl⟩
            have hu2 : l0[j] = u := by
              have e1 : (dk.drop j)[0]? = (l0.drop j)[0]? := by rw [HDJ.out]
              rw [List.getElem?_drop, List.getElem?_drop, Nat.add_zero, List.getElem?_eq_getElem hjd, List.getElem?_eq_getElem hlt, hu] at e1
              exact (Option.some.inj e1).symm
            have hdrop : l0.drop j = u :: l0.drop (j + 1) := by rw [List.drop_eq_getElem_cons hlt, hu2]
            obtain ⟨cj0, cj1, cj2⟩ := impl_Cross_66__impl_CrossDrop_1.plain.cell HG.out j hjd (by rw [hu])
            obtain ⟨ci0, ci1, ci2⟩ := impl_Cross_66__impl_CrossDrop_1.plain.cell HG.out i hid rfl
            have fz := fun q => blk_frozen HG.out q
            obtain ⟨b, hb⟩ := impl_Cross_66__impl_CrossDrop_1.some_ u a1_0 a2_0
            have HU := Aside0.mk hb
            have HD := Aside0.mk hdrop
            have HDD : Aside0 (dk.drop (j + 1) = l0.drop (j + 1)) := ⟨by
              have e := congrArg (fun l : List (S37) => l.drop 1) HDJ.out
              simpa [List.drop_drop] using e⟩
            clear hu hu2 hdrop hb
            cases b with
            | false =>
              go_wp2_with (go_at_call 67; (with_reducible refine (impl_CrossDrop_1.calls u.f0 u.f1 u.f2 gb1 a1_0 gb2 a2_0 false _ ?sb1 ?sb2 HU.out).mono ?_); (case sb1 => exact blk_alloc BK1.out _); (case sb2 => exact blk_alloc BK2.out _);  rintro e w2 ⟨rfl, hb⟩; have HG2 := Aside0.mk (blk_below (blk_alloc HG.out _) hb); have BKn1 := Aside0.mk (blk_below (blk_alloc BK1.out _) hb); have BKn2 := Aside0.mk (blk_below (blk_alloc BK2.out _) hb); have hnb := blk_below (blk_new wr _) hb; obtain ⟨di0, di1, di2⟩ := impl_Cross_66__impl_CrossDrop_1.plain.cell HG2.out i hid rfl; have fz2 := fun q => blk_frozen HG2.out q; have bx0 := (blk_cell hnb 0).trans rfl; have bx1 := (blk_cell hnb 1).trans rfl; have bx2 := (blk_cell hnb 2).trans rfl; have HB2 := Aside0.mk (below_step (below_alloc HB.out _) hb); have HK2 := Aside0.mk (Kept.below (Kept.alloc HK.out _) hb); clear hnb hb)
              go_roundg (l0.length - (j + 1))
              case measure => omega
              case rel =>
                refine ⟨i + 1, j + 1, dk.set i u, by go_num, by go_num, by omega, by omega, Nat.le_refl _, ⟨by rw [List.length_set]; exact HDL.out⟩, ⟨by rw [List.drop_set_of_lt (by omega)]; exact HDD.out⟩, ⟨?_⟩, ⟨impl_Cross_66__impl_CrossDrop_1.plain.put HG2.out i hid u rfl⟩, ⟨?_⟩, ⟨?_⟩, ⟨?_⟩, ⟨?_⟩⟩
                · rw [← HR.out, HD.out, List.filter_cons_of_pos (by rw [HU.out]; rfl), List.take_set, List.take_succ_eq_append_getElem hid, List.set_append, if_neg (by rw [List.length_take]; omega)]
                  simp [List.length_take, Nat.min_eq_left (Nat.le_of_lt hid)]
                · exact blk_far (blk_far (blk_far BKn1.out (Ne.symm hgb1) _) (Ne.symm hgb1) _) (Ne.symm hgb1) _
                · exact blk_far (blk_far (blk_far BKn2.out (Ne.symm hgb2) _) (Ne.symm hgb2) _) (Ne.symm hgb2) _
                · exact below_set (below_set (below_set HB2.out HBS.out) HBS.out) HBS.out
                · exact Kept.setCell (Kept.setCell (Kept.setCell HK2.out (.inl HP.out) _) (.inl HP.out) _) (.inl HP.out) _
            | true =>
              go_wp2_with (go_at_call 67; (with_reducible refine (impl_CrossDrop_1.calls u.f0 u.f1 u.f2 gb1 a1_0 gb2 a2_0 true _ ?sb1 ?sb2 HU.out).mono ?_); (case sb1 => exact blk_alloc BK1.out _); (case sb2 => exact blk_alloc BK2.out _);  rintro e w2 ⟨rfl, hb⟩; have HG2 := Aside0.mk (blk_below (blk_alloc HG.out _) hb); have BKn1 := Aside0.mk (blk_below (blk_alloc BK1.out _) hb); have BKn2 := Aside0.mk (blk_below (blk_alloc BK2.out _) hb); have hnb := blk_below (blk_new wr _) hb; obtain ⟨di0, di1, di2⟩ := impl_Cross_66__impl_CrossDrop_1.plain.cell HG2.out i hid rfl; have fz2 := fun q => blk_frozen HG2.out q; have bx0 := (blk_cell hnb 0).trans rfl; have bx1 := (blk_cell hnb 1).trans rfl; have bx2 := (blk_cell hnb 2).trans rfl; have HB2 := Aside0.mk (below_step (below_alloc HB.out _) hb); have HK2 := Aside0.mk (Kept.below (Kept.alloc HK.out _) hb); clear hnb hb)
              go_roundg (l0.length - (j + 1))
              case measure => omega
              case rel =>
                refine ⟨i, j + 1, dk, rfl, by go_num, by omega, by omega, Nat.le_refl _, HDL, HDD, ⟨?_⟩, HG2, BKn1, BKn2, HB2, HK2⟩
                rw [← HR.out, HD.out, List.filter_cons_of_neg (by rw [HU.out]; decide)]
          · obtain rfl : j = l0.length := by omega
            have hltz : ¬ (l0.length : Int) < (l0.length : Int) := by omega
            have hic : i ≤ cap := by have := HL.out; omega
            have hicz : (i : Int) ≤ (cap : Int) := by omega
            have hcne : ¬ (cap = i) := by have := HL.out; omega
            obtain ⟨iz, hz0, hz1, _, _⟩ := info_parts info37
            have hfl : (dk.flatMap (fun x : S37 => ([.string x.f0, .string x.f1, .string x.f2] : List Value))).length = l0.length * 3 := by rw [Go.Proofs.YtjffakoifpldeaaW.Row.flat_len impl_Cross_66__impl_CrossDrop_1.plain.l3, HDL.out]
            obtain ⟨zs, hzs⟩ : ∃ zs, zs = (Builtin.zeroCells ((.agg #[(.string ⟨#[]⟩), (.string ⟨#[]⟩), (.string ⟨#[]⟩)]) : Value).cells (l0.length - i)).toList := ⟨_, rfl⟩
            have hzl : zs.length = (l0.length - i) * 3 := by rw [hzs]; exact Go.Proofs.YtjffakoifpldeaaW.Row.zeros_len _ _ _ _
            obtain ⟨ROW, hROW⟩ : ∃ ROW : Array Value, ROW = ((dk.flatMap (fun x : S37 => ([.string x.f0, .string x.f1, .string x.f2] : List Value)) ++ t).take (i * 3) ++ zs ++ (dk.flatMap (fun x : S37 => ([.string x.f0, .string x.f1, .string x.f2] : List Value)) ++ t).drop (i * 3 + zs.length)).toArray := ⟨_, rfl⟩
            have hcl : ∀ ty, (Builtin.clear_ #[25] ty #[.slice (some ⟨g, i * 3, none⟩) (l0.length - i) (cap - i)]).run Try.prog wr = .ok (.tuple #[]) (wr.setRow g ROW) := fun ty => by
              rw [hROW]
              exact Go.Proofs.YtjffakoifpldeaaW.Row.run_clear_rowk (P := Try.prog) wr 25 37 ty (.agg #[(.string ⟨#[]⟩), (.string ⟨#[]⟩), (.string ⟨#[]⟩)]) hu25 (fun _ => by simp [zeroValue, typeInfo, hz0, hz1]) g (i * 3) (l0.length - i) (cap - i) (by omega) _ 37 HG.out zs hzs.symm (by rw [List.size_toArray, List.length_append, hfl, hzl]; omega) (fun v hv => by rw [hzs] at hv; rcases Go.Proofs.YtjffakoifpldeaaW.Row.zeros_mem _ _ _ _ v hv with rfl | rfl | rfl <;> rfl)
            have HROW := Aside0.mk hROW
            have HZL := Aside0.mk hzl
            have HFL := Aside0.mk hfl
            clear hROW hzl hfl hzs hz0 hz1
            go_wp2
            go_ret
            have hr2 : dk.take i = r := by
              have := HR.out
              rwa [List.drop_length, List.filter_nil, List.append_nil] at this
            have hrl : r.length = i := by rw [← hr2, List.length_take, HDL.out]; omega
            have hrow : ROW = (r.flatMap (fun x : S37 => ([.string x.f0, .string x.f1, .string x.f2] : List Value)) ++ (zs ++ t)).toArray := by
              rw [HROW.out, Go.Proofs.YtjffakoifpldeaaW.Row.flat_take impl_Cross_66__impl_CrossDrop_1.plain.l3 dk t i (by rw [HDL.out]; omega), hr2, HZL.out, show i * 3 + (l0.length - i) * 3 = dk.length * 3 by rw [HDL.out]; omega, Go.Proofs.YtjffakoifpldeaaW.Row.flat_drop_all impl_Cross_66__impl_CrossDrop_1.plain.l3, List.append_assoc]
            refine ⟨_, rfl, ?_, Go.Proofs.YtjffakoifpldeaaW.Row.below_setRow HB.out HBS.out _, Go.Proofs.YtjffakoifpldeaaW.Row.kept_setRow HK.out (.inl HP.out) _⟩
            refine impl_Cross_66__impl_CrossDrop_1.plain.of_blk (g := g) (cap := cap) (t := zs ++ t) (by rw [hrl]; rfl) HBS.out (.inl HP.out) (by rw [← hrow]; exact setRow_heap _ _ _ _ _ _ HG.out) (by rw [hrl]; exact hic) HM.out ?_
            have e1 := HS.out
            rw [List.length_append, Go.Proofs.YtjffakoifpldeaaW.Row.flat_len impl_Cross_66__impl_CrossDrop_1.plain.l3] at e1
            have e2 := HZL.out
            rw [List.length_append, Go.Proofs.YtjffakoifpldeaaW.Row.flat_len impl_Cross_66__impl_CrossDrop_1.plain.l3, hrl, List.length_append, e2]
            omega
      · rw [if_neg h3] at h
        cases h
    · rw [if_neg h2] at h
      cases h

/-! ### impl_CrossDrop: function 24 -/
def impl_CrossDrop.j0 : Nat → List (S37) → Bool → ByteArray → ByteArray → Option ((List (S37)))
  | 0, _, _, _, _ => none
  | k + 1, x0, x15, x187000, x188000 => if x15 = true then (some ([] : List (S37))) else ((impl_Cross_65.f x0).bind fun t193 => ((impl_CrossRight.f k x0).bind fun t196 => (if t196 = true then ((impl_Cross_66__impl_CrossDrop_1.f k t193 x187000 x188000).bind fun t197 => (some t197)) else (some t193))))
def impl_CrossDrop.f (k : Nat) (l0 : List (S37)) (a1 : ByteArray) (a2 : ByteArray) : Option ((List (S37))) := (impl_Cross_64.f l0).bind fun t188 => (if t188 = true then (impl_CrossDrop.j0 k l0 true a1 a2) else ((impl_longText.f k (([a1, a2] : List ByteArray))).bind fun t192 => (impl_CrossDrop.j0 k l0 t192 a1 a2)))
theorem impl_CrossDrop.mono_l : ∀ k, (∀ y0 y1 y2 y3, LeO (impl_CrossDrop.j0 k y0 y1 y2 y3) (impl_CrossDrop.j0 (k + 1) y0 y1 y2 y3))
  | 0 => fun _ _ _ _ r h => by simp [impl_CrossDrop.j0] at h
  | k + 1 => by
    have ih0 := impl_CrossDrop.mono_l k
    · intro y0 y1 y2 y3
      unfold impl_CrossDrop.j0
      repeat' first
      | (with_reducible exact ih0 _ _ _ _)
      | (with_reducible exact impl_CrossRight.mono _ _)
      | (with_reducible exact impl_Cross_66__impl_CrossDrop_1.mono _ _ _ _)
      | (with_reducible exact impl_longText.mono _ _)
      | (with_reducible exact LeO.refl _)
      | (with_reducible exact LeO.none _)
      | (with_reducible refine LeO.ite ?_ ?_)
      | (with_reducible refine LeO.bind ?_ (fun _ => ?_))
      | exact ih0 _ _ _ _
      | exact impl_CrossRight.mono _ _
      | exact impl_Cross_66__impl_CrossDrop_1.mono _ _ _ _
      | exact impl_longText.mono _ _
      | exact LeO.none _
      | refine LeO.ite ?_ ?_
      | refine LeO.bind ?_ (fun _ => ?_)
theorem impl_CrossDrop.mono : ∀ a0 a1 a2 k, LeO (impl_CrossDrop.f k a0 a1 a2) (impl_CrossDrop.f (k + 1) a0 a1 a2) := by
  intro a0 a1 a2 k
  have ih0 := impl_CrossDrop.mono_l k
  unfold impl_CrossDrop.f
  repeat' first
      | (with_reducible exact ih0 _ _ _ _)
      | (with_reducible exact impl_CrossRight.mono _ _)
      | (with_reducible exact impl_Cross_66__impl_CrossDrop_1.mono _ _ _ _)
      | (with_reducible exact impl_longText.mono _ _)
      | (with_reducible exact LeO.refl _)
      | (with_reducible exact LeO.none _)
      | (with_reducible refine LeO.ite ?_ ?_)
      | (with_reducible refine LeO.bind ?_ (fun _ => ?_))
      | exact ih0 _ _ _ _
      | exact impl_CrossRight.mono _ _
      | exact impl_Cross_66__impl_CrossDrop_1.mono _ _ _ _
      | exact impl_longText.mono _ _
      | exact LeO.none _
      | refine LeO.ite ?_ ?_
      | refine LeO.bind ?_ (fun _ => ?_)
set_option maxHeartbeats 8000000 in
set_option maxRecDepth 100000 in
theorem impl_CrossDrop.calls (k : Nat) (A0 : Option Addr) (c0 : Nat) (l0 : List (S37)) (a1 : ByteArray) (a2 : ByteArray) (r : List (S37)) (w : World) (hr0 : Kd.C k37 w A0 l0.length l0) (hc0 : l0.length ≤ c0) (h : impl_CrossDrop.f k l0 a1 a2 = some r) :
    Calls Try.prog 24 #[.slice A0 l0.length c0, .string a1, .string a2] w fun e w' => ∃ v0_ : Value, e = .returned (v0_) ∧ Kd.R k37 37 w' w.heap.size (fun _ => True) v0_ r ∧ Below w.heap.size w w' := by
  have HR0 := Aside0.mk hr0
  have HC0 := Aside0.mk hc0
  clear hr0 hc0
  have HB := Aside0.mk (Below.refl w.heap.size w)
  have H : ((impl_Cross_64.f l0).bind fun t188 => (if t188 = true then (impl_CrossDrop.j0 k l0 true a1 a2) else ((impl_longText.f k (([a1, a2] : List ByteArray))).bind fun t192 => (impl_CrossDrop.j0 k l0 t192 a1 a2)))) = some r := h
  clear h
  have HC4 := Aside0.mk H
  clear H
  go_enter Try.func24, Try.ntmps24
  go_upto_region 1 with (first | ((with_reducible refine gate_dst (N := 4) rfl ?_); (try (refine gate_guard (by rfl) ?_; dsimp only)); refine box_event ?hg (N := 4) ?hd (cs := #[.string a1]) (t := 9) ?hr ?_; (case hd => rfl); (case hg => rfl); (case hr => exact hr_); intro gb186 hg w5 hbox hb; have n0_ := Aside0.mk (below_step bl_ hb); have n1_ := Aside0.mk (hbox); have n2_ := Aside0.mk (gw_ hg bl_); have n3_ := Aside0.mk (gw_ hg bl_); clear HB; have HB := n0_; have BK186 := n1_; have GW186 := n2_; have GE186 := n3_; clear n0_ n1_ n2_ n3_; clear hb hbox hg) | ((with_reducible refine gate_dst (N := 5) rfl ?_); (try (refine gate_guard (by rfl) ?_; dsimp only)); refine box_event ?hg (N := 5) ?hd (cs := #[.string a2]) (t := 9) ?hr ?_; (case hd => rfl); (case hg => rfl); (case hr => exact hr_); intro gb187 hg w6 hbox hb; have n0_ := Aside0.mk (blkb_ BK186 hb); have n1_ := Aside0.mk (below_step bl_ hb); have n2_ := Aside0.mk (hbox); have n3_ := Aside0.mk (gw_ hg bl_); have n4_ := Aside0.mk (gw_ hg bl_); have n5_ := Aside0.mk (gn_ hg (blkl_ BK186)); have n6_ := Aside0.mk (gm_ hg (blkl_ BK186)); clear BK186; clear HB; have BK186 := n0_; have HB := n1_; have BK187 := n2_; have GW187 := n3_; have GE187 := n4_; have NB186_187 := n5_; have NB187_186 := n6_; clear n0_ n1_ n2_ n3_ n4_ n5_ n6_; clear hb hbox hg))
  (try simp only [Act.put, List.setIfInBounds_toArray, List.set_cons_zero, List.set_cons_succ])
  go_cut [15] (fun v15 wc => ∃ (kq : Nat) (x15_3 : Bool), v15 = .bool x15_3 ∧ Aside0 (impl_CrossDrop.j0 kq l0 x15_3 a1 a2 = some r) ∧ Aside0 (kq ≤ k) ∧ Aside0 (wc.heap[gb186]? = some (.cells #[.string a1] 9 (0, 0))) ∧ Aside0 (wc.heap[gb187]? = some (.cells #[.string a2] 9 (0, 0))) ∧ Aside0 (Below w.heap.size w wc))
  case first =>
    have H := HC4.out
    clear HC4
    replace H := Option.bind_eq_some_iff.mp H
    obtain ⟨t188, A70, H⟩ := H
    replace H : (if t188 = true then (impl_CrossDrop.j0 k l0 true a1 a2) else ((impl_longText.f k (([a1, a2] : List ByteArray))).bind fun t192 => (impl_CrossDrop.j0 k l0 t192 a1 a2))) = some r := H
    have A7 := Aside0.mk A70
    clear A70
    by_cases c8 : t188 = true
    · subst c8
      have H1 : (impl_CrossDrop.j0 k l0 true a1 a2) = some r := by rw [if_pos rfl] at H; exact H
      clear H
      have H := H1
      clear H1
      have H' := Aside0.mk H
      clear H
      go_wp2_with (first | ((with_reducible refine gate_callee (f := 64) rfl ?_); refine gl_ 9 Try.func64 #[.slice A0 l0.length c0] ?_ rfl rfl rfl rfl; (with_reducible refine (impl_Cross_64.calls _ _ l0 true _ ?side1 ?side2 A7.out).mono ?_); (case side1 => exact au7_0); (case side2 => exact HC0.out); rintro e w' ⟨rfl, ⟨nd, rfl⟩⟩; refine ⟨_, rfl, ?_⟩))
      go_meet
      case rel => exact ⟨_, (true), er_, H', ⟨by first | omega | exact Nat.le_refl _⟩, ⟨bk_ BK186⟩, ⟨bk_ BK187⟩, ⟨bl_⟩⟩
    · replace c8 := Bool.eq_false_iff.mpr c8
      subst c8
      have H1 : ((impl_longText.f k (([a1, a2] : List ByteArray))).bind fun t192 => (impl_CrossDrop.j0 k l0 t192 a1 a2)) = some r := by rw [if_neg (show ¬ (false = true) by decide)] at H; exact H
      clear H
      have H := H1
      clear H1
      obtain ⟨y189, hy189⟩ : ∃ y_ : List ByteArray, y_ = (([a1, a2] : List ByteArray)) := ⟨_, rfl⟩
      replace H : ((impl_longText.f k y189).bind fun t192 => (impl_CrossDrop.j0 k l0 t192 a1 a2)) = some r := by first | (rw [hy189]; with_reducible exact H) | (have H2_ := (Option.bind_some _ _).symm.trans H; rw [hy189]; with_reducible exact H2_) | (have H2_ := (Option.bind_some _ _).symm.trans H; with_reducible exact H2_) | with_reducible exact H | (rw [hy189]; exact H) | exact H
      have Ny189 := Aside0.mk hy189
      clear hy189
      replace H := Option.bind_eq_some_iff.mp H
      obtain ⟨t192, A90, H⟩ := H
      replace H : (impl_CrossDrop.j0 k l0 t192 a1 a2) = some r := H
      have A9 := Aside0.mk A90
      clear A90
      have H' := Aside0.mk H
      clear H
      go_wp2_with (first | ((with_reducible refine gate_callee (f := 64) rfl ?_); refine gl_ 9 Try.func64 #[.slice A0 l0.length c0] ?_ rfl rfl rfl rfl; (with_reducible refine (impl_Cross_64.calls _ _ l0 false _ ?side1 ?side2 A7.out).mono ?_); (case side1 => exact au7_0); (case side2 => exact HC0.out); rintro e w' ⟨rfl, ⟨nd, rfl⟩⟩; refine ⟨_, rfl, ?_⟩; have hnb10 := NB186_187.out; have hnc10 := NB187_186.out; have hcz11_0 : w6.cell? ⟨gb186, 0, none⟩ = some (.string a1) := (blk_cell BK186.out 0).trans rfl; have hfz11_0 := blk_frozen BK186.out 0; have hcz12_0 : w6.cell? ⟨gb187, 0, none⟩ = some (.string a2) := (blk_cell BK187.out 0).trans rfl; have hfz12_0 := blk_frozen BK187.out 0) | ((with_reducible refine gate_dst (N := 13) rfl ?_); (try (refine gate_guard (by rfl) ?_; dsimp only)); refine Kd.R_lit Kd.string _ 9 ?hg (N := 13) ?hd (xs := ([a1, a2] : List ByteArray)) (inner := [.string a1, .string a2]) (ok := fun _ => True) (okp := fun _ => True) ?hr ?hp (fun _ hk => hk) trivial (Below.refl _ _) (Nat.le_refl _) (by simp) ?_; (case hd => rfl); (case hg => rfl); (case hr => exact hr_); (case hp => exact (Reps.one (show Kd.M Kd.string _ _ _ a1 [.string a1] from rfl) (Reps.one (show Kd.M Kd.string _ _ _ a2 [.string a2] from rfl) (Reps.none _ _)))); intro v190 w13 ho14 hb hg_ hnew_; clear hg_ hnew_; (first | rw [← Ny189.out] at ho14 | (simp only [Int.reduceToNat] at ho14; rw [← Ny189.out] at ho14)); have n0_ := Aside0.mk (Kd.R_lower (Kd.R_newB (Kd.R_newB ho14 (g := gb186) (o := .cells #[.string a1] 9 (0, 0)) (bk_ BK186)) (g := gb187) (o := .cells #[.string a2] 9 (0, 0)) (bk_ BK187)) (below_size bl_)); have n1_ := Aside0.mk (blkb_ BK186 hb); have n2_ := Aside0.mk (blkb_ BK187 hb); have n3_ := Aside0.mk (below_step bl_ hb); clear BK186; clear BK187; clear HB; have HO191 := n0_; have BK186 := n1_; have BK187 := n2_; have HB := n3_; clear n0_ n1_ n2_ n3_; clear hb ho14; obtain ⟨Ao15, co15, eo15⟩ := Kd.R_slice HO191.out; subst eo15) | (go_at_call 61; (with_reducible refine (impl_longText.calls k _ _ y189 t192 _ ?side1 ?side2 A9.out).mono ?_); (case side1 => repeat (first | exact (Kd.R_reads' HO191.out).2.2 | (with_reducible refine Kd.C_alloc ?_ _) | (with_reducible refine Kd.C_drewN ?_ _) | (with_reducible refine Kd.C_drew ?_))); (case side2 => exact (Kd.R_reads' HO191.out).2.1); rintro e w' ⟨rfl, ⟨nd, rfl⟩⟩))
      go_meet
      case rel => exact ⟨_, (t192), er_, H', ⟨by first | omega | exact Nat.le_refl _⟩, ⟨bk_ BK186⟩, ⟨bk_ BK187⟩, ⟨bl_⟩⟩
  case rest =>
    clear HC4
    try clear c1
    try clear c2
    try clear p2
    try clear c6
    try clear c8
    try clear c10
    try clear hcz11_0
    try clear hcz12_0
    try clear hfz11_0
    try clear hfz12_0
    obtain ⟨kq, x15_3, rfl, HA, HJ3, BK186, BK187, HB⟩ := hcut
    cases kq with
    | zero => exact absurd HA.out (by simp [impl_CrossDrop.j0])
    | succ kj3 =>
      have H := HA.out
      clear HA
      simp only [impl_CrossDrop.j0] at H
      by_cases c16 : x15_3 = true
      · subst c16
        have H1 : (some ([] : List (S37))) = some r := by rw [if_pos rfl] at H; exact H
        clear H
        have H := H1
        clear H1
        obtain rfl := Option.some.inj H
        go_wp2
        go_ret
        exact ⟨_, au7_1, by first | exact Kd.R_nil _ _ _ _ _ | exact Kd.N_nil _ _ _ _ _ | exact Kd.V_nil _ _ _ _ _ | exact Kd.Q_nil _ _ _ _ _ | exact Kd.S_nil _ _ _ _ _, bl_⟩
      · replace c16 := Bool.eq_false_iff.mpr c16
        subst c16
        have H1 : ((impl_Cross_65.f l0).bind fun t193 => ((impl_CrossRight.f kj3 l0).bind fun t196 => (if t196 = true then ((impl_Cross_66__impl_CrossDrop_1.f kj3 t193 a1 a2).bind fun t197 => (some t197)) else (some t193)))) = some r := by rw [if_neg (show ¬ (false = true) by decide)] at H; exact H
        clear H
        have H := H1
        clear H1
        replace H := Option.bind_eq_some_iff.mp H
        obtain ⟨t193, A170, H⟩ := H
        replace H : ((impl_CrossRight.f kj3 l0).bind fun t196 => (if t196 = true then ((impl_Cross_66__impl_CrossDrop_1.f kj3 t193 a1 a2).bind fun t197 => (some t197)) else (some t193))) = some r := H
        have A17 := Aside0.mk A170
        clear A170
        replace H := Option.bind_eq_some_iff.mp H
        obtain ⟨t196, A180, H⟩ := H
        replace H : (if t196 = true then ((impl_Cross_66__impl_CrossDrop_1.f kj3 t193 a1 a2).bind fun t197 => (some t197)) else (some t193)) = some r := H
        have A18 := Aside0.mk A180
        clear A180
        by_cases c19 : t196 = true
        · subst c19
          have H1 : ((impl_Cross_66__impl_CrossDrop_1.f kj3 t193 a1 a2).bind fun t197 => (some t197)) = some r := by rw [if_pos rfl] at H; exact H
          clear H
          have H := H1
          clear H1
          replace H := Option.bind_eq_some_iff.mp H
          obtain ⟨t197, A200, H⟩ := H
          replace H : (some t197) = some r := H
          have A20 := Aside0.mk A200
          clear A200
          obtain rfl := Option.some.inj H
          go_wp2_with (first | ((with_reducible refine gate_callee (f := 65) rfl ?_); refine gl_ 17 Try.func65 #[.slice A0 l0.length c0] ?_ rfl rfl rfl rfl; (with_reducible refine (impl_Cross_65.calls _ _ l0 t193 _ ?side1 ?side2 A17.out).mono ?_); (case side1 => exact au7_0); (case side2 => exact HC0.out); rintro e w21 ⟨v194, rfl, ho0, hb⟩; refine ⟨_, rfl, ?_⟩; have n0_ := Aside0.mk (Kd.R_lower ho0 (below_size bl_)); have n1_ := Aside0.mk (blkb_ BK186 hb); have n2_ := Aside0.mk (blkb_ BK187 hb); have n3_ := Aside0.mk (below_step bl_ hb); clear BK186; clear BK187; clear HB; have HO195 := n0_; have BK186 := n1_; have BK187 := n2_; have HB := n3_; clear n0_ n1_ n2_ n3_; (try clear hb); (try clear hb2); (try clear hk); (try clear hi); (try clear ho0)) | ((with_reducible refine gate_callee (f := 17) rfl ?_); refine gl_ 19 Try.func17 #[.slice A0 l0.length c0] ?_ rfl rfl rfl rfl; (with_reducible refine (impl_CrossRight.calls kj3 _ _ l0 true _ ?side1 ?side2 A18.out).mono ?_); (case side1 => exact au7_0); (case side2 => exact HC0.out); rintro e w22 ⟨rfl, hb⟩; refine ⟨_, rfl, ?_⟩; have n0_ := Aside0.mk (Kd.R_below (rk_ HO195) hb); have n1_ := Aside0.mk (blkb_ BK186 hb); have n2_ := Aside0.mk (blkb_ BK187 hb); have n3_ := Aside0.mk (below_step bl_ hb); clear HO195; clear BK186; clear BK187; clear HB; have HO195 := n0_; have BK186 := n1_; have BK187 := n2_; have HB := n3_; clear n0_ n1_ n2_ n3_; (try clear hb); (try clear hb2); (try clear hk); (try clear hi); obtain ⟨Ao23, co23, eo23⟩ := Kd.R_slice HO195.out; subst eo23) | ((with_reducible refine gate_callee (f := 66) rfl ?_); refine gl_ 24 Try.func66 #[.slice Ao23 t193.length co23, .func (.func 67) #[] #[.pointer (some ⟨gb186, 0, none⟩), .pointer (some ⟨gb187, 0, none⟩)]] ?_ rfl rfl rfl rfl; (with_reducible refine (impl_Cross_66__impl_CrossDrop_1.calls kj3 (fun k_ => some k_ = (.slice Ao23 t193.length co23 : Value).ownBlock) (.slice Ao23 t193.length co23) t193 gb186 a1 gb187 a2 t197 w _ ?side1 ?side2 ?side3 ?side4 ?side5 ?side6 A20.out).mono ?_); (case side1 => repeat (first | (with_reducible first | exact HB.out | apply below_alloc | apply pw_below_drewN | apply below_drew1 | refine below_set ?_ GE186.out | refine below_set ?_ GE187.out) | exact HB.out)); (case side2 => exact Kd.R_tight rfl HO195.out); (case side3 => exact (bk_ BK186)); (case side4 => exact fun h_ => (Kd.R_ne HO195.out BK186.out (by decide)) h_); (case side5 => exact (bk_ BK187)); (case side6 => exact fun h_ => (Kd.R_ne HO195.out BK187.out (by decide)) h_); rintro e w24 ⟨v198, rfl, ho0, hb, hkp⟩; refine ⟨_, rfl, ?_⟩; have n0_ := Aside0.mk (blk_kept (bk_ BK186) hkp (fun hs_ => (fun e_ => (Kd.R_ne HO195.out BK186.out (by decide)) e_) hs_)); have n1_ := Aside0.mk (blk_kept (bk_ BK187) hkp (fun hs_ => (fun e_ => (Kd.R_ne HO195.out BK187.out (by decide)) e_) hs_)); have n2_ := Aside0.mk (Kd.R_mono (ok' := fun k_ => True) ho0 (fun k_ hk_ => trivial)); have n3_ := Aside0.mk (hb); clear BK186; clear BK187; clear HB; clear HO195; have BK186 := n0_; have BK187 := n1_; have HO199 := n2_; have HB := n3_; clear n0_ n1_ n2_ n3_; (try clear hb); (try clear hkp); (try clear ho0)))
          go_ret
          exact ⟨_, au7_1, rk_ HO199, bl_⟩
        · replace c19 := Bool.eq_false_iff.mpr c19
          subst c19
          have H1 : (some t193) = some r := by rw [if_neg (show ¬ (false = true) by decide)] at H; exact H
          clear H
          have H := H1
          clear H1
          obtain rfl := Option.some.inj H
          go_wp2_with (first | ((with_reducible refine gate_callee (f := 65) rfl ?_); refine gl_ 17 Try.func65 #[.slice A0 l0.length c0] ?_ rfl rfl rfl rfl; (with_reducible refine (impl_Cross_65.calls _ _ l0 t193 _ ?side1 ?side2 A17.out).mono ?_); (case side1 => exact au7_0); (case side2 => exact HC0.out); rintro e w25 ⟨v194, rfl, ho0, hb⟩; refine ⟨_, rfl, ?_⟩; have n0_ := Aside0.mk (Kd.R_lower ho0 (below_size bl_)); have n1_ := Aside0.mk (blkb_ BK186 hb); have n2_ := Aside0.mk (blkb_ BK187 hb); have n3_ := Aside0.mk (below_step bl_ hb); clear BK186; clear BK187; clear HB; have HO195 := n0_; have BK186 := n1_; have BK187 := n2_; have HB := n3_; clear n0_ n1_ n2_ n3_; (try clear hb); (try clear hb2); (try clear hk); (try clear hi); (try clear ho0)) | ((with_reducible refine gate_callee (f := 17) rfl ?_); refine gl_ 19 Try.func17 #[.slice A0 l0.length c0] ?_ rfl rfl rfl rfl; (with_reducible refine (impl_CrossRight.calls kj3 _ _ l0 false _ ?side1 ?side2 A18.out).mono ?_); (case side1 => exact au7_0); (case side2 => exact HC0.out); rintro e w26 ⟨rfl, hb⟩; refine ⟨_, rfl, ?_⟩; have n0_ := Aside0.mk (Kd.R_below (rk_ HO195) hb); have n1_ := Aside0.mk (blkb_ BK186 hb); have n2_ := Aside0.mk (blkb_ BK187 hb); have n3_ := Aside0.mk (below_step bl_ hb); clear HO195; clear BK186; clear BK187; clear HB; have HO195 := n0_; have BK186 := n1_; have BK187 := n2_; have HB := n3_; clear n0_ n1_ n2_ n3_; (try clear hb); (try clear hb2); (try clear hk); (try clear hi)))
          go_ret
          exact ⟨_, au7_1, rk_ HO195, bl_⟩

/-! ### laws_markText: function 68 -/
def laws_markText.l0 : Nat → Int → ByteArray → Option (ByteArray)
  | 0, _, _ => none
  | k + 1, x0, x3 => if x0 > 0 then ((some (([(wrap64 (48 + (Int.tmod x0 10))) % 256] : List Int) : List Int)).bind fun y200 => (if (strOfNums y200).size + x3.size ≤ 9223372036854775807 then (laws_markText.l0 k (wrap64 (Int.tdiv x0 10)) ((strOfNums y200) ++ x3)) else (none))) else (if 1 + x3.size ≤ 9223372036854775807 then (some ((⟨#[109]⟩ : ByteArray) ++ x3)) else (none))
def laws_markText.f (k : Nat) (a0 : Int) : Option (ByteArray) := if a0 ≤ 0 then (some (⟨#[109, 48]⟩ : ByteArray)) else (laws_markText.l0 k a0 (⟨#[]⟩ : ByteArray))
theorem laws_markText.mono_l : ∀ k, (∀ y0 y1, LeO (laws_markText.l0 k y0 y1) (laws_markText.l0 (k + 1) y0 y1))
  | 0 => fun _ _ r h => by simp [laws_markText.l0] at h
  | k + 1 => by
    have ih0 := laws_markText.mono_l k
    · intro y0 y1
      unfold laws_markText.l0
      repeat' first
      | (with_reducible exact ih0 _ _)
      | (with_reducible exact LeO.refl _)
      | (with_reducible exact LeO.none _)
      | (with_reducible refine LeO.ite ?_ ?_)
      | (with_reducible refine LeO.bind ?_ (fun _ => ?_))
      | exact ih0 _ _
      | exact LeO.none _
      | refine LeO.ite ?_ ?_
      | refine LeO.bind ?_ (fun _ => ?_)
theorem laws_markText.mono : ∀ a0 k, LeO (laws_markText.f k a0) (laws_markText.f (k + 1) a0) := by
  intro a0 k
  have ih0 := laws_markText.mono_l k
  unfold laws_markText.f
  repeat' first
      | (with_reducible exact ih0 _ _)
      | (with_reducible exact LeO.refl _)
      | (with_reducible exact LeO.none _)
      | (with_reducible refine LeO.ite ?_ ?_)
      | (with_reducible refine LeO.bind ?_ (fun _ => ?_))
      | exact ih0 _ _
      | exact LeO.none _
      | refine LeO.ite ?_ ?_
      | refine LeO.bind ?_ (fun _ => ?_)
set_option maxHeartbeats 8000000 in
set_option maxRecDepth 100000 in
theorem laws_markText.calls (k : Nat) (a0 : Int) (r : ByteArray) (w : World) (h : laws_markText.f k a0 = some r) :
    Calls Try.prog 68 #[.int .i64 a0] w fun e w' => e = .returned (.string r) ∧ Below w.heap.size w w' := by
  have HB := Aside0.mk (Below.refl w.heap.size w)
  have H : (if a0 ≤ 0 then (some (⟨#[109, 48]⟩ : ByteArray)) else (laws_markText.l0 k a0 (⟨#[]⟩ : ByteArray))) = some r := h
  clear h
  by_cases c2 : a0 ≤ 0
  · rw [if_pos c2] at H
    have c2b0 : decide (a0 ≤ 0) = true := decide_eq_true c2
    clear c2
    obtain rfl := Option.some.inj H
    go_enter Try.func68, Try.ntmps68
    go_wp2
    go_ret
    exact ⟨au7_1, bl_⟩
  · rw [if_neg c2] at H
    have c2b0 : decide (a0 ≤ 0) = false := decide_eq_false c2
    clear c2
    have H' := Aside0.mk H
    clear H
    go_enter Try.func68, Try.ntmps68
    go_wp2
    go_loopg [0, 3] k (fun kq v0 v3 w' => ∃ (x0_1 : Int) (x3_1 : ByteArray), v0 = .int .i64 x0_1 ∧ v3 = .string x3_1 ∧ Aside0 (laws_markText.l0 kq x0_1 x3_1 = some r) ∧ Aside0 (kq ≤ k) ∧ Aside0 (Below w.heap.size w w'))
    case atStart => exact ⟨(a0), ((⟨#[]⟩ : ByteArray)), er_, er_, H', ⟨Nat.le_refl _⟩, ⟨bl_⟩⟩
    case round =>
      clear H'
      try clear c2
      try clear c2b0
      try clear p2
      obtain ⟨x0_1, x3_1, rfl, rfl, HA, HK1, HB⟩ := hrel
      cases gk with
      | zero => exact absurd HA.out (by simp [laws_markText.l0])
      | succ k1 =>
        have H := HA.out
        clear HA
        simp only [laws_markText.l0] at H
        by_cases c3 : x0_1 > 0
        · rw [if_pos c3] at H
          have c3b0 : decide (0 < x0_1) = true := decide_eq_true c3
          clear c3
          obtain ⟨y200, hy200⟩ : ∃ y_ : List Int, y_ = (([(wrap64 (48 + (Int.tmod x0_1 10))) % 256] : List Int)) := ⟨_, rfl⟩
          replace H : (if (strOfNums y200).size + x3_1.size ≤ 9223372036854775807 then (laws_markText.l0 k1 (wrap64 (Int.tdiv x0_1 10)) ((strOfNums y200) ++ x3_1)) else (none)) = some r := by first | (rw [hy200]; with_reducible exact H) | (have H2_ := (Option.bind_some _ _).symm.trans H; rw [hy200]; with_reducible exact H2_) | (have H2_ := (Option.bind_some _ _).symm.trans H; with_reducible exact H2_) | with_reducible exact H | (rw [hy200]; exact H) | exact H
          have Ny200 := Aside0.mk hy200
          clear hy200
          by_cases c4 : (strOfNums y200).size + x3_1.size ≤ 9223372036854775807
          · rw [if_pos c4] at H
            have c4b0 := eq_true c4
            have c4b1 : decide ((strOfNums y200).size + x3_1.size ≤ 9223372036854775807) = true := decide_eq_true c4
            try have c4b2 : (9223372036854775807 < (strOfNums y200).size + x3_1.size) = False := eq_false (Nat.not_lt.2 c4)
            have H' := Aside0.mk H
            clear H
            go_wp2_with (first | ((with_reducible refine gate_dst (N := 12) rfl ?_); refine Kd.R_lit (Kd.int .u8) _ 5 ?hg (N := 12) ?hd (xs := ([(wrap64 (48 + (Int.tmod x0_1 10))) % 256] : List Int)) (inner := [.int .u8 ((wrap64 (48 + (Int.tmod x0_1 10))) % 256)]) (ok := fun _ => True) (okp := fun _ => True) ?hr ?hp (fun _ hk => hk) trivial (Below.refl _ _) (Nat.le_refl _) (by simp) ?_; (case hd => rfl); (case hg => rfl); (case hr => exact hr_); (case hp => exact (Reps.one (show Kd.M (Kd.int .u8) _ _ _ ((wrap64 (48 + (Int.tmod x0_1 10))) % 256) [.int .u8 ((wrap64 (48 + (Int.tmod x0_1 10))) % 256)] from rfl) (Reps.none _ _))); intro v201 w5 ho6 hb hg_ hnew_; clear hg_ hnew_; (first | rw [← Ny200.out] at ho6 | (simp only [Int.reduceToNat] at ho6; rw [← Ny200.out] at ho6)); have n0_ := Aside0.mk (Kd.R_lower ho6 (below_size bl_)); have n1_ := Aside0.mk (below_step bl_ hb); clear HB; have HO202 := n0_; have HB := n1_; clear n0_ n1_; clear hb ho6; have hcv7 := own_string (P := Try.prog) Try.underlying40 Try.underlying5 Try.underlying9 (Kd.own_of_R HO202.out)))
            go_roundg k1
            case measure => have := HK1.out; omega
            case rel => exact ⟨(wrap64 (Int.tdiv x0_1 10)), ((strOfNums y200) ++ x3_1), er_, er_, H', ⟨by have := HK1.out; omega⟩, ⟨bl_⟩⟩
          · rw [if_neg c4] at H
            exact absurd H (by simp)
        · rw [if_neg c3] at H
          have c3b0 : decide (0 < x0_1) = false := decide_eq_false c3
          clear c3
          by_cases c8 : 1 + x3_1.size ≤ 9223372036854775807
          · rw [if_pos c8] at H
            have c8b0 := eq_true c8
            have c8b1 : decide (1 + x3_1.size ≤ 9223372036854775807) = true := decide_eq_true c8
            try have c8b2 : (9223372036854775807 < 1 + x3_1.size) = False := eq_false (Nat.not_lt.2 c8)
            obtain rfl := Option.some.inj H
            go_wp2
            go_ret
            exact ⟨au7_1, bl_⟩
          · rw [if_neg c8] at H
            exact absurd H (by simp)

end Go.Proofs.Ytjffakoifpldeaa.PFnExactCrossDrop
