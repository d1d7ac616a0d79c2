-- printed by a program of this session (wip/xp/xprint.py) out of the translation; Lean checks it
import Derived.Test.YtjffakoifpldeaaPFnWindowx0
import Derived.Test.YtjffakoifpldeaaPFnWindowx3
import Derived.Test.YtjffakoifpldeaaPFnWindowx11
import Derived.Test.YtjffakoifpldeaaPFnWindowx12
namespace Go.Proofs.Ytjffakoifpldeaa.PFnWindow
open Go.RowKit Go.Proofs.YtjffakoifpldeaaW.PrintWords Go.Proofs.YtjffakoifpldeaaW.PrintLast Go.Proofs.YtjffakoifpldeaaW.PrintMore
attribute [local go_sem] max2_int min2_int max_two min_two max_three min_three max_four min_four   -- for this text's walks alone
set_option linter.unusedVariables false
set_option linter.unusedSimpArgs false

theorem au13_0 {p : Prop} (h : p := by repeat (first | (with_reducible first | exact HK.out | apply KeepBut.set_ | apply keep_drewN | apply keep_drew | apply keep_alloc) | exact HK.out)) : p := h
theorem au13_1 {p : Prop} (h : p := by repeat (first | (with_reducible first | exact HI0.out | apply IsS116.alloc | apply IsS116.drewN | apply IsS116.drew | apply IsS116.set_1 | apply IsS116.set_2 | apply IsS116.set_3) | exact HI0.out)) : p := h
theorem au13_2 {p : Prop} (h : p := by repeat (first | (with_reducible first | exact HI360.out | apply IsS116.alloc | apply IsS116.drewN | apply IsS116.drew | apply IsS116.set_1 | apply IsS116.set_2 | apply IsS116.set_3) | exact HI360.out)) : p := h
theorem au13_3 {p : Prop} (h : p := by repeat (first | (with_reducible first | exact HB.out | apply below_alloc | apply pw_below_drewN | apply below_drew1 | refine below_set ?_ (IsS116.ge HI0.out)) | exact HB.out)) : p := h
theorem au13_4 {p : Prop} (h : p := by repeat (first | (with_reducible first | exact HI0.out | apply IsS116.alloc | apply IsS116.drewN | apply IsS116.drew | apply IsS116.set_1 | apply IsS116.set_2 | apply IsS116.set_3) | exact HI0.out)) : p := h
theorem au13_5 {p : Prop} (h : p := by repeat (first | (with_reducible first | exact HB.out | apply below_alloc | apply pw_below_drewN | apply below_drew1 | refine below_set ?_ (IsS116.ge HI360.out)) | exact HB.out)) : p := h
theorem au13_6 {p : Prop} (h : p := by repeat (first | (with_reducible first | exact HB.out | apply below_alloc | apply pw_below_drewN | apply below_drew1 | refine below_set ?_ (IsS116.ge HI0.out)) | exact HB.out)) : p := h
theorem au13_7 {p : Prop} (h : p := by repeat (first | (with_reducible first | exact HB.out | apply below_alloc | apply pw_below_drewN | apply below_drew1 | refine below_set ?_ (IsS116.ge HI360.out)) | exact HB.out)) : p := h
theorem au13_8 {p : Prop} (h : p := by repeat (first | (with_reducible first | exact HK.out | apply KeepBut.set_ | apply keep_drewN | apply keep_drew | apply keep_alloc) | exact HK.out)) : p := h
theorem au13_9 {p : Prop} (h : p := by repeat (first | (with_reducible first | exact HI0.out | apply IsS116.alloc | apply IsS116.drewN | apply IsS116.drew | apply IsS116.set_1 | apply IsS116.set_2 | apply IsS116.set_3) | exact HI0.out)) : p := h
theorem au13_10 {p : Prop} (h : p := by repeat (first | (with_reducible first | exact HB.out | apply below_alloc | apply pw_below_drewN | apply below_drew1 | refine below_set ?_ (IsS116.ge HI0.out)) | exact HB.out)) : p := h
theorem au13_11 {p : Prop} (h : p := by repeat (first | (with_reducible first | exact HB.out | apply below_alloc | apply pw_below_drewN | apply below_drew1 | refine below_set ?_ (IsS116.ge HI360.out)) | exact HB.out)) : p := h
theorem au13_12 {p : Prop} (h : p := by exact (Reps.one (show Kd.M Kd.string _ _ _ (⟨#[65, 67, 77, 69]⟩ : ByteArray) [.string (⟨#[65, 67, 77, 69]⟩ : ByteArray)] from rfl) (Reps.one (show Kd.M Kd.string _ _ _ (⟨#[65, 67, 77, 69]⟩ : ByteArray) [.string (⟨#[65, 67, 77, 69]⟩ : ByteArray)] from rfl) (Reps.one (show Kd.M Kd.string _ _ _ (⟨#[65, 67, 77, 69]⟩ : ByteArray) [.string (⟨#[65, 67, 77, 69]⟩ : ByteArray)] from rfl) (Reps.one (show Kd.M Kd.string _ _ _ (⟨#[97]⟩ : ByteArray) [.string (⟨#[97]⟩ : ByteArray)] from rfl) (Reps.none _ _)))))) : p := h
theorem au13_13 {p : Prop} (h : p := by first | rfl | (simp [errW_none, errW_some] <;> rfl) | (simp [*, errW_none, errW_some] <;> rfl)) : p := h
theorem au13_14 {p : Prop} (h : p := by repeat (first | (with_reducible first | exact HI360.out | apply IsS116.alloc | apply IsS116.drewN | apply IsS116.drew | apply IsS116.set_1 | apply IsS116.set_2 | apply IsS116.set_3) | exact HI360.out)) : p := h
theorem au13_15 {p : Prop} (h : p := by repeat (first | (with_reducible first | exact HI360.out | apply IsS116.alloc | apply IsS116.drewN | apply IsS116.drew | apply IsS116.set_1 | apply IsS116.set_2 | apply IsS116.set_3) | exact HI360.out)) : p := h
theorem au13_16 {p : Prop} (h : p := by exact (keep_size (w := w) (g := g) (row := none) au13_0)) : p := h

/-! ### spec_l01Src_one: function 74 -/
def spec_l01Src_one.f (s0_0 : List Int) (s0_1 : Int) (s0_2 : Int) (s0_3 : Int) (a1 : Int) : Option (Bool × Int × Int × Int) := (spec_l01Src_n.f s0_0 s0_1 s0_2 s0_3 a1).bind fun bt303 => (some ((bt303.1 == 0), bt303.2.1, bt303.2.2.1, bt303.2.2.2))
set_option maxHeartbeats 8000000 in
set_option maxRecDepth 100000 in
theorem spec_l01Src_one.calls (g : Nat) (s0_0 : List Int) (s0_1 : Int) (s0_2 : Int) (s0_3 : Int) (a1 : Int) (r1 : Bool) (r2 : Int) (r3 : Int) (r4 : Int) (w0 w : World) (hI : IsS116 w0 w g s0_0 s0_1 s0_2 s0_3) (hB : Below w0.heap.size w0 w) (h : spec_l01Src_one.f s0_0 s0_1 s0_2 s0_3 a1 = some (r1, r2, r3, r4)) :
    Calls Try.prog 74 #[.pointer (some ⟨g, 0, none⟩), .int .i64 a1] w fun e w' => e = .returned (.bool r1) ∧ IsS116 w0 w' g s0_0 r2 r3 r4 ∧ Below w0.heap.size w0 w' ∧ KeepBut w w' g none := by
  have HI0 := Aside0.mk hI
  have HK := Aside0.mk (KeepBut.refl w g none)
  have HL := Aside0.mk hB.size
  clear hI
  have HW0 := Aside0.mk hB.size
  have HB := Aside0.mk hB
  clear hB
  have H : ((spec_l01Src_n.f s0_0 s0_1 s0_2 s0_3 a1).bind fun bt303 => (some ((bt303.1 == 0), bt303.2.1, bt303.2.2.1, bt303.2.2.2))) = some (r1, r2, r3, r4) := h
  clear h
  replace H := Option.bind_eq_some_iff.mp H
  obtain ⟨⟨t303, t304, t305, t306⟩, A30, H⟩ := H
  replace H : (some ((t303 == 0), t304, t305, t306)) = some (r1, r2, r3, r4) := H
  have A3 := Aside0.mk A30
  clear A30
  simp only [Option.some.injEq, Prod.mk.injEq] at H
  obtain ⟨rfl, rfl, rfl, rfl⟩ := H
  go_enter Try.func74, Try.ntmps74
  go_wp2_with (first | ((with_reducible refine gate_callee (f := 101) rfl ?_); refine gl_ 7 Try.func101 #[.pointer (some ⟨g, 0, none⟩), .int .i64 a1] ?_ rfl rfl rfl rfl; (with_reducible refine (spec_l01Src_n.calls g s0_0 s0_1 s0_2 s0_3 a1 t303 t304 t305 t306 w0 _ ?side1 ?side2 A3.out).mono ?_); (case side1 => exact au13_1); (case side2 => exact au13_3); rintro e w4 ⟨rfl, hi, hb, hk⟩; refine ⟨_, rfl, ?_⟩; have n0_ := Aside0.mk (KeepBut.trans au13_0 hk (.inl rfl)); have n1_ := Aside0.mk (hb); have n2_ := Aside0.mk (hi); clear HK; clear HB; clear HI0; have HK := n0_; have HB := n1_; have HI0 := n2_; clear n0_ n1_ n2_; (try clear hb); (try clear hb2); (try clear hk); (try clear hi)))
  go_ret
  exact ⟨au13_13, au13_4, au13_6, au13_8⟩

/-! ### spec_l01Src_pick: function 75 -/
def spec_l01Src_pick.f (s0_0 : List Int) (s0_1 : Int) (s0_2 : Int) (s0_3 : Int) (l1 : List ByteArray) : Option (ByteArray × Int × Int × Int) := (spec_l01Src_n.f s0_0 s0_1 s0_2 s0_3 (l1.length : Int)).bind fun bt307 => (if 0 ≤ bt307.1 then (if bt307.1 < (l1.length : Int) then (some (rdOf ByteArray.empty l1 bt307.1, bt307.2.1, bt307.2.2.1, bt307.2.2.2)) else (none)) else (none))
set_option maxHeartbeats 8000000 in
set_option maxRecDepth 100000 in
theorem spec_l01Src_pick.calls (g : Nat) (s0_0 : List Int) (s0_1 : Int) (s0_2 : Int) (s0_3 : Int) (A1 : Option Addr) (c1 : Nat) (l1 : List ByteArray) (r1 : ByteArray) (r2 : Int) (r3 : Int) (r4 : Int) (w0 w : World) (hI : IsS116 w0 w g s0_0 s0_1 s0_2 s0_3) (hB : Below w0.heap.size w0 w) (hr1 : Kd.C Kd.string w A1 l1.length l1) (hc1 : l1.length ≤ c1) (hf1 : ∀ ad, A1 = some ad → 0 < l1.length → ad.block ≠ g) (h : spec_l01Src_pick.f s0_0 s0_1 s0_2 s0_3 l1 = some (r1, r2, r3, r4)) :
    Calls Try.prog 75 #[.pointer (some ⟨g, 0, none⟩), .slice A1 l1.length c1] w fun e w' => e = .returned (.string r1) ∧ IsS116 w0 w' g s0_0 r2 r3 r4 ∧ Below w0.heap.size w0 w' ∧ KeepBut w w' g none := by
  have HR1 := Aside0.mk hr1
  have HC1 := Aside0.mk hc1
  clear hr1 hc1
  have HI0 := Aside0.mk hI
  have HK := Aside0.mk (KeepBut.refl w g none)
  have HL := Aside0.mk hB.size
  clear hI
  have HW0 := Aside0.mk hB.size
  have HB := Aside0.mk hB
  clear hB
  have H : ((spec_l01Src_n.f s0_0 s0_1 s0_2 s0_3 (l1.length : Int)).bind fun bt307 => (if 0 ≤ bt307.1 then (if bt307.1 < (l1.length : Int) then (some (rdOf ByteArray.empty l1 bt307.1, bt307.2.1, bt307.2.2.1, bt307.2.2.2)) else (none)) else (none))) = some (r1, r2, r3, r4) := h
  clear h
  replace H := Option.bind_eq_some_iff.mp H
  obtain ⟨⟨t307, t308, t309, t310⟩, A30, H⟩ := H
  replace H : (if 0 ≤ t307 then (if t307 < (l1.length : Int) then (some (rdOf ByteArray.empty l1 t307, t308, t309, t310)) else (none)) else (none)) = some (r1, r2, r3, r4) := H
  have A3 := Aside0.mk A30
  clear A30
  by_cases c4 : 0 ≤ t307
  · rw [if_pos c4] at H
    have c4b0 : decide (0 ≤ t307) = true := decide_eq_true c4
    clear c4
    by_cases c5 : t307 < (l1.length : Int)
    · rw [if_pos c5] at H
      have c5b0 : decide (t307 < (l1.length : Int)) = true := decide_eq_true c5
      clear c5
      simp only [Option.some.injEq, Prod.mk.injEq] at H
      obtain ⟨rfl, rfl, rfl, rfl⟩ := H
      go_enter Try.func75, Try.ntmps75
      go_wp2_with (first | ((with_reducible refine gate_callee (f := 101) rfl ?_); refine gl_ 9 Try.func101 #[.pointer (some ⟨g, 0, none⟩), .int .i64 (l1.length : Int)] ?_ rfl rfl rfl rfl; (with_reducible refine (spec_l01Src_n.calls g s0_0 s0_1 s0_2 s0_3 (l1.length : Int) t307 t308 t309 t310 w0 _ ?side1 ?side2 A3.out).mono ?_); (case side1 => exact au13_1); (case side2 => exact au13_3); rintro e w6 ⟨rfl, hi, hb, hk⟩; refine ⟨_, rfl, ?_⟩; have n0_ := Aside0.mk (KeepBut.trans au13_0 hk (.inl rfl)); have n1_ := Aside0.mk (hb); have n2_ := Aside0.mk (hi); clear HK; clear HB; clear HI0; have HK := n0_; have HB := n1_; have HI0 := n2_; clear n0_ n1_ n2_; (try clear hb); (try clear hb2); (try clear hk); (try clear hi); have p311 : 0 ≤ (t307 : Int) := of_decide_eq_true as_; have q311 : t307 < (l1.length : Int) := of_decide_eq_true as_; obtain ⟨ad311, e311, hx311_0⟩ := Kd.at_string HR1.out t307 p311 q311; cases e311; replace hx311_0 := keep_cell HK.out hx311_0 (by first | (rw [add_block]; exact hf1 _ rfl (by omega)) | exact hf1 _ rfl (by omega) | exact hf1 ad311 rfl (by omega)); replace p311 := eq_true p311; replace q311 := eq_true q311))
      go_ret
      exact ⟨au13_13, au13_4, au13_6, au13_8⟩
    · rw [if_neg c5] at H
      exact absurd H (by simp)
  · rw [if_neg c4] at H
    exact absurd H (by simp)

/-! ### spec_l01Src_l07Numbers: function 103 -/
def spec_l01Src_l07Numbers.l0 : Nat → Int → List Int → Int → List Int → Int → Int → Int → Option (List Int × Int × Int × Int)
  | 0, _, _, _, _, _, _, _ => none
  | k + 1, x1, x5, x6, x1000, x1001, x1002, x1003 => if x1 > 0 then ((spec_l01Src_n.f x1000 x1001 x1002 x1003 8).bind fun bt315 => (if bt315.1 = 0 then ((spec_l01Src_n.f x1000 bt315.2.1 bt315.2.2.1 bt315.2.2.2 (wrap64 (x6 + 4))).bind fun bt319 => (if x5.length < 17592186044416 then (spec_l01Src_l07Numbers.l0 k (wrap64 (x1 - 1)) (x5 ++ [wrap64 (1 + bt319.1)]) x6 x1000 bt319.2.1 bt319.2.2.1 bt319.2.2.2) else (none))) else (if bt315.1 = 1 then ((spec_l01Src_n.f x1000 bt315.2.1 bt315.2.2.1 bt315.2.2.2 30).bind fun bt326 => (if x5.length < 17592186044416 then (spec_l01Src_l07Numbers.l0 k (wrap64 (x1 - 1)) (x5 ++ [wrap64 (x6 + bt326.1)]) (wrap64 (x6 + bt326.1)) x1000 bt326.2.1 bt326.2.2.1 bt326.2.2.2) else (none))) else (if bt315.1 = 2 then ((spec_l01Src_n.f x1000 bt315.2.1 bt315.2.2.1 bt315.2.2.2 4).bind fun bt333 => ((spec_l01Max.f 1 (wrap64 ((wrap64 (x6 - 30)) - bt333.1))).bind fun t337 => (if x5.length < 17592186044416 then (spec_l01Src_l07Numbers.l0 k (wrap64 (x1 - 1)) (x5 ++ [t337]) x6 x1000 bt333.2.1 bt333.2.2.1 bt333.2.2.2) else (none)))) else (if x5.length < 17592186044416 then ((spec_l01Src_n.f x1000 bt315.2.1 bt315.2.2.1 bt315.2.2.2 2).bind fun bt344 => (spec_l01Src_l07Numbers.l0 k (wrap64 (x1 - 1)) (x5 ++ [x6]) (wrap64 ((wrap64 (x6 + 1)) + bt344.1)) x1000 bt344.2.1 bt344.2.2.1 bt344.2.2.2)) else (none)))))) else (some (x5, x1001, x1002, x1003))
def spec_l01Src_l07Numbers.f (k : Nat) (s0_0 : List Int) (s0_1 : Int) (s0_2 : Int) (s0_3 : Int) (a1 : Int) : Option (List Int × Int × Int × Int) := spec_l01Src_l07Numbers.l0 k a1 (([] : List Int)) 1 s0_0 s0_1 s0_2 s0_3
theorem spec_l01Src_l07Numbers.mono_l : ∀ k, (∀ y0 y1 y2 y3 y4 y5 y6, LeO (spec_l01Src_l07Numbers.l0 k y0 y1 y2 y3 y4 y5 y6) (spec_l01Src_l07Numbers.l0 (k + 1) y0 y1 y2 y3 y4 y5 y6))
  | 0 => fun _ _ _ _ _ _ _ r h => by simp [spec_l01Src_l07Numbers.l0] at h
  | k + 1 => by
    have ih0 := spec_l01Src_l07Numbers.mono_l k
    · intro y0 y1 y2 y3 y4 y5 y6
      unfold spec_l01Src_l07Numbers.l0
      repeat' first
      | (with_reducible exact ih0 _ _ _ _ _ _ _)
      | (with_reducible exact LeO.refl _)
      | (with_reducible exact LeO.none _)
      | (with_reducible refine LeO.ite ?_ ?_)
      | (with_reducible refine LeO.bind ?_ (fun _ => ?_))
      | exact ih0 _ _ _ _ _ _ _
      | exact LeO.none _
      | refine LeO.ite ?_ ?_
      | refine LeO.bind ?_ (fun _ => ?_)
theorem spec_l01Src_l07Numbers.mono : ∀ a0 a1 a2 a3 a4 k, LeO (spec_l01Src_l07Numbers.f k a0 a1 a2 a3 a4) (spec_l01Src_l07Numbers.f (k + 1) a0 a1 a2 a3 a4) := by
  intro a0 a1 a2 a3 a4 k
  have ih0 := spec_l01Src_l07Numbers.mono_l k
  unfold spec_l01Src_l07Numbers.f
  repeat' first
      | (with_reducible exact ih0 _ _ _ _ _ _ _)
      | (with_reducible exact LeO.refl _)
      | (with_reducible exact LeO.none _)
      | (with_reducible refine LeO.ite ?_ ?_)
      | (with_reducible refine LeO.bind ?_ (fun _ => ?_))
      | exact ih0 _ _ _ _ _ _ _
      | exact LeO.none _
      | refine LeO.ite ?_ ?_
      | refine LeO.bind ?_ (fun _ => ?_)
set_option maxHeartbeats 8000000 in
set_option maxRecDepth 100000 in
theorem spec_l01Src_l07Numbers.calls (k : Nat) (g : Nat) (s0_0 : List Int) (s0_1 : Int) (s0_2 : Int) (s0_3 : Int) (a1 : Int) (r1 : List Int) (r2 : Int) (r3 : Int) (r4 : Int) (w0 w : World) (hI : IsS116 w0 w g s0_0 s0_1 s0_2 s0_3) (hB : Below w0.heap.size w0 w) (h : spec_l01Src_l07Numbers.f k s0_0 s0_1 s0_2 s0_3 a1 = some (r1, r2, r3, r4)) :
    Calls Try.prog 103 #[.pointer (some ⟨g, 0, none⟩), .int .i64 a1] w fun e w' => ∃ v0_ : Value, e = .returned (v0_) ∧ Kd.R (Kd.int .i64) 2 w' w.heap.size (fun _ => True) v0_ r1 ∧ IsS116 w0 w' g s0_0 r2 r3 r4 ∧ Below w0.heap.size w0 w' ∧ KeepBut w w' g none := by
  have HI0 := Aside0.mk hI
  have HK := Aside0.mk (KeepBut.refl w g none)
  have HL := Aside0.mk hB.size
  clear hI
  have HW0 := Aside0.mk hB.size
  have HB := Aside0.mk hB
  clear hB
  have H : (spec_l01Src_l07Numbers.l0 k a1 (([] : List Int)) 1 s0_0 s0_1 s0_2 s0_3) = some (r1, r2, r3, r4) := h
  clear h
  obtain ⟨y312, hy312⟩ : ∃ y_ : List Int, y_ = (([] : List Int)) := ⟨_, rfl⟩
  replace H : (spec_l01Src_l07Numbers.l0 k a1 y312 1 s0_0 s0_1 s0_2 s0_3) = some (r1, r2, r3, r4) := by first | (rw [hy312]; with_reducible exact H) | (have H2_ := (Option.bind_some _ _).symm.trans H; rw [hy312]; with_reducible exact H2_) | (have H2_ := (Option.bind_some _ _).symm.trans H; with_reducible exact H2_) | with_reducible exact H | (rw [hy312]; exact H) | exact H
  have Ny312 := Aside0.mk hy312
  clear hy312
  have H' := Aside0.mk H
  clear H
  go_enter Try.func103, Try.ntmps103
  go_wp2_with (first | ((with_reducible refine gate_dst (N := 7) rfl ?_); refine Kd.R_lit (Kd.int .i64) _ 2 ?hg (N := 7) ?hd (xs := ([] : List Int)) (inner := []) (ok := fun _ => True) (okp := fun _ => True) ?hr ?hp (fun _ hk => hk) trivial (Below.refl _ _) (Nat.le_refl _) (by simp) ?_; (case hd => rfl); (case hg => rfl); (case hr => exact hr_); (case hp => exact (Reps.none _ _)); intro v313 w3 ho4 hb hg_ hnew_; clear hg_ hnew_; (first | rw [← Ny312.out] at ho4 | (simp only [Int.reduceToNat] at ho4; rw [← Ny312.out] at ho4)); have n0_ := Aside0.mk (Kd.R_lower ho4 (keep_size (w := w) (g := g) (row := none) au13_0)); have n1_ := Aside0.mk (IsS116.below au13_9 hb); have n2_ := Aside0.mk (KeepBut.trans au13_0 (KeepBut.of_below hb g none) (.inl rfl)); have n3_ := Aside0.mk (below_step au13_10 hb); clear HI0; clear HK; clear HB; have HO314 := n0_; have HI0 := n1_; have HK := n2_; have HB := n3_; clear n0_ n1_ n2_ n3_; clear hb ho4))
  go_loopg [1, 5, 6] k (fun kq v1 v5 v6 w' => ∃ (x1_1 : Int) (x5_1 : List Int) (x6_1 : Int) (x1001_1 : Int) (x1002_1 : Int) (x1003_1 : Int), v1 = .int .i64 x1_1 ∧ v6 = .int .i64 x6_1 ∧ Aside0 (spec_l01Src_l07Numbers.l0 kq x1_1 x5_1 x6_1 s0_0 x1001_1 x1002_1 x1003_1 = some (r1, r2, r3, r4)) ∧ Aside0 (kq ≤ k) ∧ Aside0 (Kd.R (Kd.int .i64) 2 w' w.heap.size (fun _ => True) v5 x5_1) ∧ Aside0 (IsS116 w0 w' g s0_0 x1001_1 x1002_1 x1003_1) ∧ Aside0 (KeepBut w w' g none) ∧ Aside0 (Below w0.heap.size w0 w'))
  case atStart => exact ⟨(a1), (y312), (1), (s0_1), (s0_2), (s0_3), er_, er_, H', ⟨Nat.le_refl _⟩, ⟨rk_ HO314⟩, ⟨au13_4⟩, ⟨au13_8⟩, ⟨au13_6⟩⟩
  case round =>
    clear H'
    try clear c1
    try clear p2
    obtain ⟨x1_1, x5_1, x6_1, x1001_1, x1002_1, x1003_1, rfl, rfl, HA, HK1, HO_5, HI0, HK, HB⟩ := hrel
    cases gk with
    | zero => exact absurd HA.out (by simp [spec_l01Src_l07Numbers.l0])
    | succ k1 =>
      have H := HA.out
      clear HA
      simp only [spec_l01Src_l07Numbers.l0] at H
      by_cases c5 : x1_1 > 0
      · rw [if_pos c5] at H
        have c5b0 : decide (0 < x1_1) = true := decide_eq_true c5
        clear c5
        replace H := Option.bind_eq_some_iff.mp H
        obtain ⟨⟨t315, t316, t317, t318⟩, A60, H⟩ := H
        replace H : (if t315 = 0 then ((spec_l01Src_n.f s0_0 t316 t317 t318 (wrap64 (x6_1 + 4))).bind fun bt319 => (if x5_1.length < 17592186044416 then (spec_l01Src_l07Numbers.l0 k1 (wrap64 (x1_1 - 1)) (x5_1 ++ [wrap64 (1 + bt319.1)]) x6_1 s0_0 bt319.2.1 bt319.2.2.1 bt319.2.2.2) else (none))) else (if t315 = 1 then ((spec_l01Src_n.f s0_0 t316 t317 t318 30).bind fun bt326 => (if x5_1.length < 17592186044416 then (spec_l01Src_l07Numbers.l0 k1 (wrap64 (x1_1 - 1)) (x5_1 ++ [wrap64 (x6_1 + bt326.1)]) (wrap64 (x6_1 + bt326.1)) s0_0 bt326.2.1 bt326.2.2.1 bt326.2.2.2) else (none))) else (if t315 = 2 then ((spec_l01Src_n.f s0_0 t316 t317 t318 4).bind fun bt333 => ((spec_l01Max.f 1 (wrap64 ((wrap64 (x6_1 - 30)) - bt333.1))).bind fun t337 => (if x5_1.length < 17592186044416 then (spec_l01Src_l07Numbers.l0 k1 (wrap64 (x1_1 - 1)) (x5_1 ++ [t337]) x6_1 s0_0 bt333.2.1 bt333.2.2.1 bt333.2.2.2) else (none)))) else (if x5_1.length < 17592186044416 then ((spec_l01Src_n.f s0_0 t316 t317 t318 2).bind fun bt344 => (spec_l01Src_l07Numbers.l0 k1 (wrap64 (x1_1 - 1)) (x5_1 ++ [x6_1]) (wrap64 ((wrap64 (x6_1 + 1)) + bt344.1)) s0_0 bt344.2.1 bt344.2.2.1 bt344.2.2.2)) else (none))))) = some (r1, r2, r3, r4) := H
        have A6 := Aside0.mk A60
        clear A60
        by_cases c7 : t315 = 0
        · rw [if_pos c7] at H
          have c7b0 : (t315 == 0) = true := beq_iff_eq.mpr c7
          have c7b1 : (t315 != 0) = false := bne_eq_false_iff_eq.mpr c7
          clear c7
          replace H := Option.bind_eq_some_iff.mp H
          obtain ⟨⟨t319, t320, t321, t322⟩, A80, H⟩ := H
          replace H : (if x5_1.length < 17592186044416 then (spec_l01Src_l07Numbers.l0 k1 (wrap64 (x1_1 - 1)) (x5_1 ++ [wrap64 (1 + t319)]) x6_1 s0_0 t320 t321 t322) else (none)) = some (r1, r2, r3, r4) := H
          have A8 := Aside0.mk A80
          clear A80
          by_cases c9 : x5_1.length < 17592186044416
          · rw [if_pos c9] at H
            have LMc9 := Aside0.mk c9
            clear c9
            obtain ⟨y323, hy323⟩ : ∃ y_ : List Int, y_ = (x5_1 ++ [wrap64 (1 + t319)]) := ⟨_, rfl⟩
            replace H : (spec_l01Src_l07Numbers.l0 k1 (wrap64 (x1_1 - 1)) y323 x6_1 s0_0 t320 t321 t322) = some (r1, r2, r3, r4) := by first | (rw [hy323]; with_reducible exact H) | (have H2_ := (Option.bind_some _ _).symm.trans H; rw [hy323]; with_reducible exact H2_) | (have H2_ := (Option.bind_some _ _).symm.trans H; with_reducible exact H2_) | with_reducible exact H | (rw [hy323]; exact H) | exact H
            have Ny323 := Aside0.mk hy323
            clear hy323
            have H' := Aside0.mk H
            clear H
            go_wp2_with (first | ((with_reducible refine gate_callee (f := 101) rfl ?_); refine gl_ 13 Try.func101 #[.pointer (some ⟨g, 0, none⟩), .int .i64 8] ?_ rfl rfl rfl rfl; (with_reducible refine (spec_l01Src_n.calls g s0_0 x1001_1 x1002_1 x1003_1 8 t315 t316 t317 t318 w0 _ ?side1 ?side2 A6.out).mono ?_); (case side1 => exact au13_1); (case side2 => exact au13_3); rintro e w10 ⟨rfl, hi, hb, hk⟩; refine ⟨_, rfl, ?_⟩; have n0_ := Aside0.mk (Kd.R_mono (Kd.R_keep (IsS116.apart (show IsS116 w0 _ g s0_0 x1001_1 x1002_1 x1003_1 from by repeat (first | (with_reducible first | exact HI0.out | apply IsS116.alloc | apply IsS116.drewN | apply IsS116.drew | apply IsS116.set_1 | apply IsS116.set_2 | apply IsS116.set_3) | exact HI0.out)) (rk_ HO_5) (by decide)) hk (fun _ h => h.2)) (fun _ h => h.1)); have n1_ := Aside0.mk (KeepBut.trans au13_0 hk (.inl rfl)); have n2_ := Aside0.mk (hb); have n3_ := Aside0.mk (hi); clear HO_5; clear HK; clear HB; clear HI0; have HO_5 := n0_; have HK := n1_; have HB := n2_; have HI0 := n3_; clear n0_ n1_ n2_ n3_; (try clear hb); (try clear hb2); (try clear hk); (try clear hi)) | ((with_reducible refine gate_callee (f := 101) rfl ?_); refine gl_ 29 Try.func101 #[.pointer (some ⟨g, 0, none⟩), .int .i64 (wrap64 (x6_1 + 4))] ?_ rfl rfl rfl rfl; (with_reducible refine (spec_l01Src_n.calls g s0_0 t316 t317 t318 (wrap64 (x6_1 + 4)) t319 t320 t321 t322 w0 _ ?side1 ?side2 A8.out).mono ?_); (case side1 => exact au13_1); (case side2 => exact au13_3); rintro e w11 ⟨rfl, hi, hb, hk⟩; refine ⟨_, rfl, ?_⟩; have n0_ := Aside0.mk (Kd.R_mono (Kd.R_keep (IsS116.apart (show IsS116 w0 _ g s0_0 t316 t317 t318 from by repeat (first | (with_reducible first | exact HI0.out | apply IsS116.alloc | apply IsS116.drewN | apply IsS116.drew | apply IsS116.set_1 | apply IsS116.set_2 | apply IsS116.set_3) | exact HI0.out)) (rk_ HO_5) (by decide)) hk (fun _ h => h.2)) (fun _ h => h.1)); have n1_ := Aside0.mk (KeepBut.trans au13_0 hk (.inl rfl)); have n2_ := Aside0.mk (hb); have n3_ := Aside0.mk (hi); clear HO_5; clear HK; clear HB; clear HI0; have HO_5 := n0_; have HK := n1_; have HB := n2_; have HI0 := n3_; clear n0_ n1_ n2_ n3_; (try clear hb); (try clear hb2); (try clear hk); (try clear hi)) | ((with_reducible refine gate_builtin (b := .append) (xs := #[.tmp 25, .tmp 31]) rfl ?_); at_builtin; refine Kd.R_append (Kd.int .i64) w.heap.size rfl (.tmp 25) (.tmp 31) 55 2 (.int .i64 0) 8 rfl Try.underlying55 info2 rfl (by decide) (by omega) u5 x5_1 (wrap64 (1 + t319)) [.int .i64 (wrap64 (1 + t319))] (fun _ => True) (fun _ => False) rfl rfl ?aP (fun _ hk => hk.elim) ?aF ?aO (Below.refl _ _) ?aS ?aL ?_; (case aP => exact rfl); (case aF => exact (fun _ _ => trivial)); (case aO => exact (rk_ HO_5)); (case aS => exact au13_16); (case aL => have := LMc9.out; omega); intro v324 w12 ho hb hg hat; rw [← Ny323.out] at ho; have n0_ := Aside0.mk (IsS116.grown au13_9 hg (IsS116.own_ne HI0.out HO_5.out (by decide))); have n1_ := Aside0.mk (below_weaken au13_10 HL.out hb); have n2_ := Aside0.mk (KeepBut.trans au13_0 (KeepBut.of_grown hg g) (Kd.R_base2 HO_5.out)); have n3_ := Aside0.mk (ho); clear HI0; clear HB; clear HK; clear HO_5; have HI0 := n0_; have HB := n1_; have HK := n2_; have HO325 := n3_; clear n0_ n1_ n2_ n3_; clear ho hb hg hat))
            go_roundg k1
            case measure => have := HK1.out; omega
            case rel => exact ⟨(wrap64 (x1_1 - 1)), (y323), (x6_1), (t320), (t321), (t322), er_, er_, H', ⟨by have := HK1.out; omega⟩, ⟨rk_ HO325⟩, ⟨au13_4⟩, ⟨au13_8⟩, ⟨au13_6⟩⟩
          · rw [if_neg c9] at H
            exact absurd H (by simp)
        · rw [if_neg c7] at H
          have c7b0 : (t315 == 0) = false := beq_eq_false_iff_ne.mpr c7
          have c7b1 : (t315 != 0) = true := bne_iff_ne.mpr c7
          by_cases c13 : t315 = 1
          · rw [if_pos c13] at H
            have c13b0 : (t315 == 1) = true := beq_iff_eq.mpr c13
            have c13b1 : (t315 != 1) = false := bne_eq_false_iff_eq.mpr c13
            clear c13
            replace H := Option.bind_eq_some_iff.mp H
            obtain ⟨⟨t326, t327, t328, t329⟩, A140, H⟩ := H
            replace H : (if x5_1.length < 17592186044416 then (spec_l01Src_l07Numbers.l0 k1 (wrap64 (x1_1 - 1)) (x5_1 ++ [wrap64 (x6_1 + t326)]) (wrap64 (x6_1 + t326)) s0_0 t327 t328 t329) else (none)) = some (r1, r2, r3, r4) := H
            have A14 := Aside0.mk A140
            clear A140
            by_cases c15 : x5_1.length < 17592186044416
            · rw [if_pos c15] at H
              have LMc15 := Aside0.mk c15
              clear c15
              obtain ⟨y330, hy330⟩ : ∃ y_ : List Int, y_ = (x5_1 ++ [wrap64 (x6_1 + t326)]) := ⟨_, rfl⟩
              replace H : (spec_l01Src_l07Numbers.l0 k1 (wrap64 (x1_1 - 1)) y330 (wrap64 (x6_1 + t326)) s0_0 t327 t328 t329) = some (r1, r2, r3, r4) := by first | (rw [hy330]; with_reducible exact H) | (have H2_ := (Option.bind_some _ _).symm.trans H; rw [hy330]; with_reducible exact H2_) | (have H2_ := (Option.bind_some _ _).symm.trans H; with_reducible exact H2_) | with_reducible exact H | (rw [hy330]; exact H) | exact H
              have Ny330 := Aside0.mk hy330
              clear hy330
              have H' := Aside0.mk H
              clear H
              go_wp2_with (first | ((with_reducible refine gate_callee (f := 101) rfl ?_); refine gl_ 13 Try.func101 #[.pointer (some ⟨g, 0, none⟩), .int .i64 8] ?_ rfl rfl rfl rfl; (with_reducible refine (spec_l01Src_n.calls g s0_0 x1001_1 x1002_1 x1003_1 8 t315 t316 t317 t318 w0 _ ?side1 ?side2 A6.out).mono ?_); (case side1 => exact au13_1); (case side2 => exact au13_3); rintro e w16 ⟨rfl, hi, hb, hk⟩; refine ⟨_, rfl, ?_⟩; have n0_ := Aside0.mk (Kd.R_mono (Kd.R_keep (IsS116.apart (show IsS116 w0 _ g s0_0 x1001_1 x1002_1 x1003_1 from by repeat (first | (with_reducible first | exact HI0.out | apply IsS116.alloc | apply IsS116.drewN | apply IsS116.drew | apply IsS116.set_1 | apply IsS116.set_2 | apply IsS116.set_3) | exact HI0.out)) (rk_ HO_5) (by decide)) hk (fun _ h => h.2)) (fun _ h => h.1)); have n1_ := Aside0.mk (KeepBut.trans au13_0 hk (.inl rfl)); have n2_ := Aside0.mk (hb); have n3_ := Aside0.mk (hi); clear HO_5; clear HK; clear HB; clear HI0; have HO_5 := n0_; have HK := n1_; have HB := n2_; have HI0 := n3_; clear n0_ n1_ n2_ n3_; (try clear hb); (try clear hb2); (try clear hk); (try clear hi)) | ((with_reducible refine gate_callee (f := 101) rfl ?_); refine gl_ 37 Try.func101 #[.pointer (some ⟨g, 0, none⟩), .int .i64 30] ?_ rfl rfl rfl rfl; (with_reducible refine (spec_l01Src_n.calls g s0_0 t316 t317 t318 30 t326 t327 t328 t329 w0 _ ?side1 ?side2 A14.out).mono ?_); (case side1 => exact au13_1); (case side2 => exact au13_3); rintro e w17 ⟨rfl, hi, hb, hk⟩; refine ⟨_, rfl, ?_⟩; have n0_ := Aside0.mk (Kd.R_mono (Kd.R_keep (IsS116.apart (show IsS116 w0 _ g s0_0 t316 t317 t318 from by repeat (first | (with_reducible first | exact HI0.out | apply IsS116.alloc | apply IsS116.drewN | apply IsS116.drew | apply IsS116.set_1 | apply IsS116.set_2 | apply IsS116.set_3) | exact HI0.out)) (rk_ HO_5) (by decide)) hk (fun _ h => h.2)) (fun _ h => h.1)); have n1_ := Aside0.mk (KeepBut.trans au13_0 hk (.inl rfl)); have n2_ := Aside0.mk (hb); have n3_ := Aside0.mk (hi); clear HO_5; clear HK; clear HB; clear HI0; have HO_5 := n0_; have HK := n1_; have HB := n2_; have HI0 := n3_; clear n0_ n1_ n2_ n3_; (try clear hb); (try clear hb2); (try clear hk); (try clear hi)) | ((with_reducible refine gate_builtin (b := .append) (xs := #[.tmp 39, .tmp 41]) rfl ?_); at_builtin; refine Kd.R_append (Kd.int .i64) w.heap.size rfl (.tmp 39) (.tmp 41) 55 2 (.int .i64 0) 8 rfl Try.underlying55 info2 rfl (by decide) (by omega) u5 x5_1 (wrap64 (x6_1 + t326)) [.int .i64 (wrap64 (x6_1 + t326))] (fun _ => True) (fun _ => False) rfl rfl ?aP (fun _ hk => hk.elim) ?aF ?aO (Below.refl _ _) ?aS ?aL ?_; (case aP => exact rfl); (case aF => exact (fun _ _ => trivial)); (case aO => exact (rk_ HO_5)); (case aS => exact au13_16); (case aL => have := LMc15.out; omega); intro v331 w18 ho hb hg hat; rw [← Ny330.out] at ho; have n0_ := Aside0.mk (IsS116.grown au13_9 hg (IsS116.own_ne HI0.out HO_5.out (by decide))); have n1_ := Aside0.mk (below_weaken au13_10 HL.out hb); have n2_ := Aside0.mk (KeepBut.trans au13_0 (KeepBut.of_grown hg g) (Kd.R_base2 HO_5.out)); have n3_ := Aside0.mk (ho); clear HI0; clear HB; clear HK; clear HO_5; have HI0 := n0_; have HB := n1_; have HK := n2_; have HO332 := n3_; clear n0_ n1_ n2_ n3_; clear ho hb hg hat))
              go_roundg k1
              case measure => have := HK1.out; omega
              case rel => exact ⟨(wrap64 (x1_1 - 1)), (y330), (wrap64 (x6_1 + t326)), (t327), (t328), (t329), er_, er_, H', ⟨by have := HK1.out; omega⟩, ⟨rk_ HO332⟩, ⟨au13_4⟩, ⟨au13_8⟩, ⟨au13_6⟩⟩
            · rw [if_neg c15] at H
              exact absurd H (by simp)
          · rw [if_neg c13] at H
            have c13b0 : (t315 == 1) = false := beq_eq_false_iff_ne.mpr c13
            have c13b1 : (t315 != 1) = true := bne_iff_ne.mpr c13
            by_cases c19 : t315 = 2
            · rw [if_pos c19] at H
              have c19b0 : (t315 == 2) = true := beq_iff_eq.mpr c19
              have c19b1 : (t315 != 2) = false := bne_eq_false_iff_eq.mpr c19
              clear c19
              replace H := Option.bind_eq_some_iff.mp H
              obtain ⟨⟨t333, t334, t335, t336⟩, A200, H⟩ := H
              replace H : ((spec_l01Max.f 1 (wrap64 ((wrap64 (x6_1 - 30)) - t333))).bind fun t337 => (if x5_1.length < 17592186044416 then (spec_l01Src_l07Numbers.l0 k1 (wrap64 (x1_1 - 1)) (x5_1 ++ [t337]) x6_1 s0_0 t334 t335 t336) else (none))) = some (r1, r2, r3, r4) := H
              have A20 := Aside0.mk A200
              clear A200
              replace H := Option.bind_eq_some_iff.mp H
              obtain ⟨t337, A210, H⟩ := H
              replace H : (if x5_1.length < 17592186044416 then (spec_l01Src_l07Numbers.l0 k1 (wrap64 (x1_1 - 1)) (x5_1 ++ [t337]) x6_1 s0_0 t334 t335 t336) else (none)) = some (r1, r2, r3, r4) := H
              have A21 := Aside0.mk A210
              clear A210
              by_cases c22 : x5_1.length < 17592186044416
              · rw [if_pos c22] at H
                have LMc22 := Aside0.mk c22
                clear c22
                obtain ⟨y338, hy338⟩ : ∃ y_ : List Int, y_ = (x5_1 ++ [t337]) := ⟨_, rfl⟩
                replace H : (spec_l01Src_l07Numbers.l0 k1 (wrap64 (x1_1 - 1)) y338 x6_1 s0_0 t334 t335 t336) = some (r1, r2, r3, r4) := by first | (rw [hy338]; with_reducible exact H) | (have H2_ := (Option.bind_some _ _).symm.trans H; rw [hy338]; with_reducible exact H2_) | (have H2_ := (Option.bind_some _ _).symm.trans H; with_reducible exact H2_) | with_reducible exact H | (rw [hy338]; exact H) | exact H
                have Ny338 := Aside0.mk hy338
                clear hy338
                have H' := Aside0.mk H
                clear H
                go_wp2_with (first | ((with_reducible refine gate_callee (f := 101) rfl ?_); refine gl_ 13 Try.func101 #[.pointer (some ⟨g, 0, none⟩), .int .i64 8] ?_ rfl rfl rfl rfl; (with_reducible refine (spec_l01Src_n.calls g s0_0 x1001_1 x1002_1 x1003_1 8 t315 t316 t317 t318 w0 _ ?side1 ?side2 A6.out).mono ?_); (case side1 => exact au13_1); (case side2 => exact au13_3); rintro e w23 ⟨rfl, hi, hb, hk⟩; refine ⟨_, rfl, ?_⟩; have n0_ := Aside0.mk (Kd.R_mono (Kd.R_keep (IsS116.apart (show IsS116 w0 _ g s0_0 x1001_1 x1002_1 x1003_1 from by repeat (first | (with_reducible first | exact HI0.out | apply IsS116.alloc | apply IsS116.drewN | apply IsS116.drew | apply IsS116.set_1 | apply IsS116.set_2 | apply IsS116.set_3) | exact HI0.out)) (rk_ HO_5) (by decide)) hk (fun _ h => h.2)) (fun _ h => h.1)); have n1_ := Aside0.mk (KeepBut.trans au13_0 hk (.inl rfl)); have n2_ := Aside0.mk (hb); have n3_ := Aside0.mk (hi); clear HO_5; clear HK; clear HB; clear HI0; have HO_5 := n0_; have HK := n1_; have HB := n2_; have HI0 := n3_; clear n0_ n1_ n2_ n3_; (try clear hb); (try clear hb2); (try clear hk); (try clear hi)) | ((with_reducible refine gate_callee (f := 101) rfl ?_); refine gl_ 49 Try.func101 #[.pointer (some ⟨g, 0, none⟩), .int .i64 4] ?_ rfl rfl rfl rfl; (with_reducible refine (spec_l01Src_n.calls g s0_0 t316 t317 t318 4 t333 t334 t335 t336 w0 _ ?side1 ?side2 A20.out).mono ?_); (case side1 => exact au13_1); (case side2 => exact au13_3); rintro e w24 ⟨rfl, hi, hb, hk⟩; refine ⟨_, rfl, ?_⟩; have n0_ := Aside0.mk (Kd.R_mono (Kd.R_keep (IsS116.apart (show IsS116 w0 _ g s0_0 t316 t317 t318 from by repeat (first | (with_reducible first | exact HI0.out | apply IsS116.alloc | apply IsS116.drewN | apply IsS116.drew | apply IsS116.set_1 | apply IsS116.set_2 | apply IsS116.set_3) | exact HI0.out)) (rk_ HO_5) (by decide)) hk (fun _ h => h.2)) (fun _ h => h.1)); have n1_ := Aside0.mk (KeepBut.trans au13_0 hk (.inl rfl)); have n2_ := Aside0.mk (hb); have n3_ := Aside0.mk (hi); clear HO_5; clear HK; clear HB; clear HI0; have HO_5 := n0_; have HK := n1_; have HB := n2_; have HI0 := n3_; clear n0_ n1_ n2_ n3_; (try clear hb); (try clear hb2); (try clear hk); (try clear hi)) | ((with_reducible refine gate_callee (f := 90) rfl ?_); refine gl_ 51 Try.func90 #[.int .i64 1, .int .i64 (wrap64 ((wrap64 (x6_1 - 30)) - t333))] ?_ rfl rfl rfl rfl; (with_reducible refine (spec_l01Max.calls 1 (wrap64 ((wrap64 (x6_1 - 30)) - t333)) t337 _ A21.out).mono ?_); rintro e w' ⟨rfl, ⟨nd, rfl⟩⟩; refine ⟨_, rfl, ?_⟩) | ((with_reducible refine gate_builtin (b := .append) (xs := #[.tmp 45, .tmp 52]) rfl ?_); at_builtin; refine Kd.R_append (Kd.int .i64) w.heap.size rfl (.tmp 45) (.tmp 52) 55 2 (.int .i64 0) 8 rfl Try.underlying55 info2 rfl (by decide) (by omega) u5 x5_1 t337 [.int .i64 t337] (fun _ => True) (fun _ => False) rfl rfl ?aP (fun _ hk => hk.elim) ?aF ?aO (Below.refl _ _) ?aS ?aL ?_; (case aP => exact rfl); (case aF => exact (fun _ _ => trivial)); (case aO => exact (rk_ HO_5)); (case aS => exact au13_16); (case aL => have := LMc22.out; omega); intro v339 w25 ho hb hg hat; rw [← Ny338.out] at ho; have n0_ := Aside0.mk (IsS116.grown au13_9 hg (IsS116.own_ne HI0.out HO_5.out (by decide))); have n1_ := Aside0.mk (below_weaken au13_10 HL.out hb); have n2_ := Aside0.mk (KeepBut.trans au13_0 (KeepBut.of_grown hg g) (Kd.R_base2 HO_5.out)); have n3_ := Aside0.mk (ho); clear HI0; clear HB; clear HK; clear HO_5; have HI0 := n0_; have HB := n1_; have HK := n2_; have HO340 := n3_; clear n0_ n1_ n2_ n3_; clear ho hb hg hat))
                go_roundg k1
                case measure => have := HK1.out; omega
                case rel => exact ⟨(wrap64 (x1_1 - 1)), (y338), (x6_1), (t334), (t335), (t336), er_, er_, H', ⟨by have := HK1.out; omega⟩, ⟨rk_ HO340⟩, ⟨au13_4⟩, ⟨au13_8⟩, ⟨au13_6⟩⟩
              · rw [if_neg c22] at H
                exact absurd H (by simp)
            · rw [if_neg c19] at H
              have c19b0 : (t315 == 2) = false := beq_eq_false_iff_ne.mpr c19
              have c19b1 : (t315 != 2) = true := bne_iff_ne.mpr c19
              by_cases c26 : x5_1.length < 17592186044416
              · rw [if_pos c26] at H
                have LMc26 := Aside0.mk c26
                clear c26
                obtain ⟨y341, hy341⟩ : ∃ y_ : List Int, y_ = (x5_1 ++ [x6_1]) := ⟨_, rfl⟩
                replace H : ((spec_l01Src_n.f s0_0 t316 t317 t318 2).bind fun bt344 => (spec_l01Src_l07Numbers.l0 k1 (wrap64 (x1_1 - 1)) y341 (wrap64 ((wrap64 (x6_1 + 1)) + bt344.1)) s0_0 bt344.2.1 bt344.2.2.1 bt344.2.2.2)) = some (r1, r2, r3, r4) := by first | (rw [hy341]; with_reducible exact H) | (have H2_ := (Option.bind_some _ _).symm.trans H; rw [hy341]; with_reducible exact H2_) | (have H2_ := (Option.bind_some _ _).symm.trans H; with_reducible exact H2_) | with_reducible exact H | (rw [hy341]; exact H) | exact H
                have Ny341 := Aside0.mk hy341
                clear hy341
                replace H := Option.bind_eq_some_iff.mp H
                obtain ⟨⟨t344, t345, t346, t347⟩, A270, H⟩ := H
                replace H : (spec_l01Src_l07Numbers.l0 k1 (wrap64 (x1_1 - 1)) y341 (wrap64 ((wrap64 (x6_1 + 1)) + t344)) s0_0 t345 t346 t347) = some (r1, r2, r3, r4) := H
                have A27 := Aside0.mk A270
                clear A270
                have H' := Aside0.mk H
                clear H
                go_wp2_with (first | ((with_reducible refine gate_callee (f := 101) rfl ?_); refine gl_ 13 Try.func101 #[.pointer (some ⟨g, 0, none⟩), .int .i64 8] ?_ rfl rfl rfl rfl; (with_reducible refine (spec_l01Src_n.calls g s0_0 x1001_1 x1002_1 x1003_1 8 t315 t316 t317 t318 w0 _ ?side1 ?side2 A6.out).mono ?_); (case side1 => exact au13_1); (case side2 => exact au13_3); rintro e w28 ⟨rfl, hi, hb, hk⟩; refine ⟨_, rfl, ?_⟩; have n0_ := Aside0.mk (Kd.R_mono (Kd.R_keep (IsS116.apart (show IsS116 w0 _ g s0_0 x1001_1 x1002_1 x1003_1 from by repeat (first | (with_reducible first | exact HI0.out | apply IsS116.alloc | apply IsS116.drewN | apply IsS116.drew | apply IsS116.set_1 | apply IsS116.set_2 | apply IsS116.set_3) | exact HI0.out)) (rk_ HO_5) (by decide)) hk (fun _ h => h.2)) (fun _ h => h.1)); have n1_ := Aside0.mk (KeepBut.trans au13_0 hk (.inl rfl)); have n2_ := Aside0.mk (hb); have n3_ := Aside0.mk (hi); clear HO_5; clear HK; clear HB; clear HI0; have HO_5 := n0_; have HK := n1_; have HB := n2_; have HI0 := n3_; clear n0_ n1_ n2_ n3_; (try clear hb); (try clear hb2); (try clear hk); (try clear hi)) | ((with_reducible refine gate_builtin (b := .append) (xs := #[.tmp 14, .tmp 16]) rfl ?_); at_builtin; refine Kd.R_append (Kd.int .i64) w.heap.size rfl (.tmp 14) (.tmp 16) 55 2 (.int .i64 0) 8 rfl Try.underlying55 info2 rfl (by decide) (by omega) u5 x5_1 x6_1 [.int .i64 x6_1] (fun _ => True) (fun _ => False) rfl rfl ?aP (fun _ hk => hk.elim) ?aF ?aO (Below.refl _ _) ?aS ?aL ?_; (case aP => exact rfl); (case aF => exact (fun _ _ => trivial)); (case aO => exact (rk_ HO_5)); (case aS => exact au13_16); (case aL => have := LMc26.out; omega); intro v342 w29 ho hb hg hat; rw [← Ny341.out] at ho; have n0_ := Aside0.mk (IsS116.grown au13_9 hg (IsS116.own_ne HI0.out HO_5.out (by decide))); have n1_ := Aside0.mk (below_weaken au13_10 HL.out hb); have n2_ := Aside0.mk (KeepBut.trans au13_0 (KeepBut.of_grown hg g) (Kd.R_base2 HO_5.out)); have n3_ := Aside0.mk (ho); clear HI0; clear HB; clear HK; clear HO_5; have HI0 := n0_; have HB := n1_; have HK := n2_; have HO343 := n3_; clear n0_ n1_ n2_ n3_; clear ho hb hg hat) | ((with_reducible refine gate_callee (f := 101) rfl ?_); refine gl_ 21 Try.func101 #[.pointer (some ⟨g, 0, none⟩), .int .i64 2] ?_ rfl rfl rfl rfl; (with_reducible refine (spec_l01Src_n.calls g s0_0 t316 t317 t318 2 t344 t345 t346 t347 w0 _ ?side1 ?side2 A27.out).mono ?_); (case side1 => exact au13_1); (case side2 => exact au13_3); rintro e w30 ⟨rfl, hi, hb, hk⟩; refine ⟨_, rfl, ?_⟩; have n0_ := Aside0.mk (Kd.R_mono (Kd.R_keep (IsS116.apart (show IsS116 w0 _ g s0_0 t316 t317 t318 from by repeat (first | (with_reducible first | exact HI0.out | apply IsS116.alloc | apply IsS116.drewN | apply IsS116.drew | apply IsS116.set_1 | apply IsS116.set_2 | apply IsS116.set_3) | exact HI0.out)) (rk_ HO343) (by decide)) hk (fun _ h => h.2)) (fun _ h => h.1)); have n1_ := Aside0.mk (KeepBut.trans au13_0 hk (.inl rfl)); have n2_ := Aside0.mk (hb); have n3_ := Aside0.mk (hi); clear HO343; clear HK; clear HB; clear HI0; have HO343 := n0_; have HK := n1_; have HB := n2_; have HI0 := n3_; clear n0_ n1_ n2_ n3_; (try clear hb); (try clear hb2); (try clear hk); (try clear hi)))
                go_roundg k1
                case measure => have := HK1.out; omega
                case rel => exact ⟨(wrap64 (x1_1 - 1)), (y341), (wrap64 ((wrap64 (x6_1 + 1)) + t344)), (t345), (t346), (t347), er_, er_, H', ⟨by have := HK1.out; omega⟩, ⟨rk_ HO343⟩, ⟨au13_4⟩, ⟨au13_8⟩, ⟨au13_6⟩⟩
              · rw [if_neg c26] at H
                exact absurd H (by simp)
      · rw [if_neg c5] at H
        have c5b0 : decide (0 < x1_1) = false := decide_eq_false c5
        clear c5
        simp only [Option.some.injEq, Prod.mk.injEq] at H
        obtain ⟨rfl, rfl, rfl, rfl⟩ := H
        go_wp2
        go_ret
        exact ⟨_, au13_13, rk_ HO_5, au13_4, au13_6, au13_8⟩

/-! ### spec_l01Src_edge: function 104 -/
def spec_l01Src_edge.f (s0_0 : List Int) (s0_1 : Int) (s0_2 : Int) (s0_3 : Int) : Option (Int × Int × Int × Int) := (some (([0, 1, (-1), 2, 1000, 1001, 2147483648, 2147483647, (-2147483648), 4611686018427387904, 9223372036854775807, (-9223372036854775808), 1000000, 1000001] : List Int) : List Int)).bind fun y348 => ((spec_l01Src_n.f s0_0 s0_1 s0_2 s0_3 14).bind fun bt351 => (if 0 ≤ bt351.1 then (if bt351.1 < (y348.length : Int) then (some (rd y348 bt351.1, bt351.2.1, bt351.2.2.1, bt351.2.2.2)) else (none)) else (none)))
set_option maxHeartbeats 8000000 in
set_option maxRecDepth 100000 in
theorem spec_l01Src_edge.calls (g : Nat) (s0_0 : List Int) (s0_1 : Int) (s0_2 : Int) (s0_3 : Int) (r1 : Int) (r2 : Int) (r3 : Int) (r4 : Int) (w0 w : World) (hI : IsS116 w0 w g s0_0 s0_1 s0_2 s0_3) (hB : Below w0.heap.size w0 w) (h : spec_l01Src_edge.f s0_0 s0_1 s0_2 s0_3 = some (r1, r2, r3, r4)) :
    Calls Try.prog 104 #[.pointer (some ⟨g, 0, none⟩)] w fun e w' => e = .returned (.int .i64 r1) ∧ IsS116 w0 w' g s0_0 r2 r3 r4 ∧ Below w0.heap.size w0 w' ∧ KeepBut w w' g none := by
  have HI0 := Aside0.mk hI
  have HK := Aside0.mk (KeepBut.refl w g none)
  have HL := Aside0.mk hB.size
  clear hI
  have HW0 := Aside0.mk hB.size
  have HB := Aside0.mk hB
  clear hB
  have H : ((some (([0, 1, (-1), 2, 1000, 1001, 2147483648, 2147483647, (-2147483648), 4611686018427387904, 9223372036854775807, (-9223372036854775808), 1000000, 1000001] : List Int) : List Int)).bind fun y348 => ((spec_l01Src_n.f s0_0 s0_1 s0_2 s0_3 14).bind fun bt351 => (if 0 ≤ bt351.1 then (if bt351.1 < (y348.length : Int) then (some (rd y348 bt351.1, bt351.2.1, bt351.2.2.1, bt351.2.2.2)) else (none)) else (none)))) = some (r1, r2, r3, r4) := h
  clear h
  obtain ⟨y348, hy348⟩ : ∃ y_ : List Int, y_ = (([0, 1, (-1), 2, 1000, 1001, 2147483648, 2147483647, (-2147483648), 4611686018427387904, 9223372036854775807, (-9223372036854775808), 1000000, 1000001] : List Int)) := ⟨_, rfl⟩
  replace H : ((spec_l01Src_n.f s0_0 s0_1 s0_2 s0_3 14).bind fun bt351 => (if 0 ≤ bt351.1 then (if bt351.1 < (y348.length : Int) then (some (rd y348 bt351.1, bt351.2.1, bt351.2.2.1, bt351.2.2.2)) else (none)) else (none))) = some (r1, r2, r3, r4) := by first | (rw [hy348]; with_reducible exact H) | (have H2_ := (Option.bind_some _ _).symm.trans H; rw [hy348]; with_reducible exact H2_) | (have H2_ := (Option.bind_some _ _).symm.trans H; with_reducible exact H2_) | with_reducible exact H | (rw [hy348]; exact H) | exact H
  have Ny348 := Aside0.mk hy348
  clear hy348
  replace H := Option.bind_eq_some_iff.mp H
  obtain ⟨⟨t351, t352, t353, t354⟩, A20, H⟩ := H
  replace H : (if 0 ≤ t351 then (if t351 < (y348.length : Int) then (some (rd y348 t351, t352, t353, t354)) else (none)) else (none)) = some (r1, r2, r3, r4) := H
  have A2 := Aside0.mk A20
  clear A20
  by_cases c3 : 0 ≤ t351
  · rw [if_pos c3] at H
    have c3b0 : decide (0 ≤ t351) = true := decide_eq_true c3
    clear c3
    by_cases c4 : t351 < (y348.length : Int)
    · rw [if_pos c4] at H
      have c4b0 : decide (t351 < (y348.length : Int)) = true := decide_eq_true c4
      clear c4
      simp only [Option.some.injEq, Prod.mk.injEq] at H
      obtain ⟨rfl, rfl, rfl, rfl⟩ := H
      go_enter Try.func104, Try.ntmps104
      go_wp2_with (first | ((with_reducible refine gate_dst (N := 3) rfl ?_); refine Kd.R_lit (Kd.int .i64) _ 2 ?hg (N := 3) ?hd (xs := ([0, 1, (-1), 2, 1000, 1001, 2147483648, 2147483647, (-2147483648), 4611686018427387904, 9223372036854775807, (-9223372036854775808), 1000000, 1000001] : List Int)) (inner := [.int .i64 0, .int .i64 1, .int .i64 (-1), .int .i64 2, .int .i64 1000, .int .i64 1001, .int .i64 2147483648, .int .i64 2147483647, .int .i64 (-2147483648), .int .i64 4611686018427387904, .int .i64 9223372036854775807, .int .i64 (-9223372036854775808), .int .i64 1000000, .int .i64 1000001]) (ok := fun _ => True) (okp := fun _ => True) ?hr ?hp (fun _ hk => hk) trivial (Below.refl _ _) (Nat.le_refl _) (by simp) ?_; (case hd => rfl); (case hg => rfl); (case hr => exact hr_); (case hp => exact (Reps.one (show Kd.M (Kd.int .i64) _ _ _ 0 [.int .i64 0] from rfl) (Reps.one (show Kd.M (Kd.int .i64) _ _ _ 1 [.int .i64 1] from rfl) (Reps.one (show Kd.M (Kd.int .i64) _ _ _ (-1) [.int .i64 (-1)] from rfl) (Reps.one (show Kd.M (Kd.int .i64) _ _ _ 2 [.int .i64 2] from rfl) (Reps.one (show Kd.M (Kd.int .i64) _ _ _ 1000 [.int .i64 1000] from rfl) (Reps.one (show Kd.M (Kd.int .i64) _ _ _ 1001 [.int .i64 1001] from rfl) (Reps.one (show Kd.M (Kd.int .i64) _ _ _ 2147483648 [.int .i64 2147483648] from rfl) (Reps.one (show Kd.M (Kd.int .i64) _ _ _ 2147483647 [.int .i64 2147483647] from rfl) (Reps.one (show Kd.M (Kd.int .i64) _ _ _ (-2147483648) [.int .i64 (-2147483648)] from rfl) (Reps.one (show Kd.M (Kd.int .i64) _ _ _ 4611686018427387904 [.int .i64 4611686018427387904] from rfl) (Reps.one (show Kd.M (Kd.int .i64) _ _ _ 9223372036854775807 [.int .i64 9223372036854775807] from rfl) (Reps.one (show Kd.M (Kd.int .i64) _ _ _ (-9223372036854775808) [.int .i64 (-9223372036854775808)] from rfl) (Reps.one (show Kd.M (Kd.int .i64) _ _ _ 1000000 [.int .i64 1000000] from rfl) (Reps.one (show Kd.M (Kd.int .i64) _ _ _ 1000001 [.int .i64 1000001] from rfl) (Reps.none _ _)))))))))))))))); intro v349 w5 ho6 hb hg_ hnew_; clear hg_ hnew_; (first | rw [← Ny348.out] at ho6 | (simp only [Int.reduceToNat] at ho6; rw [← Ny348.out] at ho6)); have n0_ := Aside0.mk (Kd.R_lower ho6 (keep_size (w := w) (g := g) (row := none) au13_0)); have n1_ := Aside0.mk (IsS116.below au13_9 hb); have n2_ := Aside0.mk (KeepBut.trans au13_0 (KeepBut.of_below hb g none) (.inl rfl)); have n3_ := Aside0.mk (below_step au13_10 hb); clear HI0; clear HK; clear HB; have HO350 := n0_; have HI0 := n1_; have HK := n2_; have HB := n3_; clear n0_ n1_ n2_ n3_; clear hb ho6) | ((with_reducible refine gate_callee (f := 101) rfl ?_); refine gl_ 5 Try.func101 #[.pointer (some ⟨g, 0, none⟩), .int .i64 14] ?_ rfl rfl rfl rfl; (with_reducible refine (spec_l01Src_n.calls g s0_0 s0_1 s0_2 s0_3 14 t351 t352 t353 t354 w0 _ ?side1 ?side2 A2.out).mono ?_); (case side1 => exact au13_1); (case side2 => exact au13_3); rintro e w7 ⟨rfl, hi, hb, hk⟩; refine ⟨_, rfl, ?_⟩; have n0_ := Aside0.mk (Kd.R_mono (Kd.R_keep (IsS116.apart (show IsS116 w0 _ g s0_0 s0_1 s0_2 s0_3 from by repeat (first | (with_reducible first | exact HI0.out | apply IsS116.alloc | apply IsS116.drewN | apply IsS116.drew | apply IsS116.set_1 | apply IsS116.set_2 | apply IsS116.set_3) | exact HI0.out)) (rk_ HO350) (by decide)) hk (fun _ h => h.2)) (fun _ h => h.1)); have n1_ := Aside0.mk (KeepBut.trans au13_0 hk (.inl rfl)); have n2_ := Aside0.mk (hb); have n3_ := Aside0.mk (hi); clear HO350; clear HK; clear HB; clear HI0; have HO350 := n0_; have HK := n1_; have HB := n2_; have HI0 := n3_; clear n0_ n1_ n2_ n3_; (try clear hb); (try clear hb2); (try clear hk); (try clear hi); obtain ⟨Ao8, co8, eo8⟩ := Kd.R_slice HO350.out; subst eo8; have p355 : 0 ≤ (t351 : Int) := of_decide_eq_true as_; have q355 : t351 < (y348.length : Int) := of_decide_eq_true as_; obtain ⟨ad355, e355, hx355_0⟩ := Kd.at_int (Kd.R_reads' HO350.out).2.2 t351 p355 q355; cases e355; replace p355 := eq_true p355; replace q355 := eq_true q355))
      go_ret
      exact ⟨au13_13, au13_4, au13_6, au13_8⟩
    · rw [if_neg c4] at H
      exact absurd H (by simp)
  · rw [if_neg c3] at H
    exact absurd H (by simp)

/-! ### spec_DrawPartnerRun: function 53 -/
def spec_DrawPartnerRun.j0 : Nat → List Int → List Int → Int → Int → Int → Option (ByteArray × List Int)
  | 0, _, _, _, _, _ => none
  | k + 1, x5, x361000, x361001, x361002, x361003 => (spec_l01Src_one.f x361000 x361001 x361002 x361003 50).bind fun bt382 => (if bt382.1 = true then ((spec_l01Src_n.f x361000 bt382.2.1 bt382.2.2.1 bt382.2.2.2 3).bind fun bt386 => ((spec_l01Src_l07Numbers.f k x361000 bt386.2.1 bt386.2.2.1 bt386.2.2.2 (wrap64 (399 + bt386.1))).bind fun bt390 => ((spec_l01Src_pick.f x361000 bt390.2.1 bt390.2.2.1 bt390.2.2.2 (([(⟨#[65, 67, 77, 69]⟩ : ByteArray), (⟨#[65, 67, 77, 69]⟩ : ByteArray), (⟨#[65, 67, 77, 69]⟩ : ByteArray), (⟨#[97]⟩ : ByteArray)] : List ByteArray))).bind fun bt399 => (some (bt399.1, bt390.1))))) else ((spec_l01Src_pick.f x361000 bt382.2.1 bt382.2.2.1 bt382.2.2.2 (([(⟨#[65, 67, 77, 69]⟩ : ByteArray), (⟨#[65, 67, 77, 69]⟩ : ByteArray), (⟨#[65, 67, 77, 69]⟩ : ByteArray), (⟨#[97]⟩ : ByteArray)] : List ByteArray))).bind fun bt406 => (some (bt406.1, x5))))
def spec_DrawPartnerRun.f (k : Nat) (l0 : List Int) : Option (ByteArray × List Int) := (spec_l01Source.f k l0).bind fun bt356 => ((spec_l01Src_n.f bt356.1 bt356.2.1 bt356.2.2.1 bt356.2.2.2 (wrap64 (8 + (wrap64 (3 * bt356.2.2.2))))).bind fun bt361 => ((spec_l01Src_l07Numbers.f k bt356.1 bt361.2.1 bt361.2.2.1 bt361.2.2.2 bt361.1).bind fun bt365 => ((spec_l01Src_one.f bt356.1 bt365.2.1 bt365.2.2.1 bt365.2.2.2 20).bind fun bt371 => (if bt371.1 = true then ((spec_l01Src_edge.f bt356.1 bt371.2.1 bt371.2.2.1 bt371.2.2.2).bind fun bt375 => (if bt365.1.length < 17592186044416 then (spec_DrawPartnerRun.j0 k (bt365.1 ++ [bt375.1]) bt356.1 bt375.2.1 bt375.2.2.1 bt375.2.2.2) else (none))) else (spec_DrawPartnerRun.j0 k bt365.1 bt356.1 bt371.2.1 bt371.2.2.1 bt371.2.2.2)))))
theorem spec_DrawPartnerRun.mono_l : ∀ k, (∀ y0 y1 y2 y3 y4, LeO (spec_DrawPartnerRun.j0 k y0 y1 y2 y3 y4) (spec_DrawPartnerRun.j0 (k + 1) y0 y1 y2 y3 y4))
  | 0 => fun _ _ _ _ _ r h => by simp [spec_DrawPartnerRun.j0] at h
  | k + 1 => by
    have ih0 := spec_DrawPartnerRun.mono_l k
    · intro y0 y1 y2 y3 y4
      unfold spec_DrawPartnerRun.j0
      repeat' first
      | (with_reducible exact ih0 _ _ _ _ _)
      | (with_reducible exact spec_l01Source.mono _ _)
      | (with_reducible exact spec_l01Src_l07Numbers.mono _ _ _ _ _ _)
      | (with_reducible exact LeO.refl _)
      | (with_reducible exact LeO.none _)
      | (with_reducible refine LeO.ite ?_ ?_)
      | (with_reducible refine LeO.bind ?_ (fun _ => ?_))
      | exact ih0 _ _ _ _ _
      | exact spec_l01Source.mono _ _
      | exact spec_l01Src_l07Numbers.mono _ _ _ _ _ _
      | exact LeO.none _
      | refine LeO.ite ?_ ?_
      | refine LeO.bind ?_ (fun _ => ?_)
theorem spec_DrawPartnerRun.mono : ∀ a0 k, LeO (spec_DrawPartnerRun.f k a0) (spec_DrawPartnerRun.f (k + 1) a0) := by
  intro a0 k
  have ih0 := spec_DrawPartnerRun.mono_l k
  unfold spec_DrawPartnerRun.f
  repeat' first
      | (with_reducible exact ih0 _ _ _ _ _)
      | (with_reducible exact spec_l01Source.mono _ _)
      | (with_reducible exact spec_l01Src_l07Numbers.mono _ _ _ _ _ _)
      | (with_reducible exact LeO.refl _)
      | (with_reducible exact LeO.none _)
      | (with_reducible refine LeO.ite ?_ ?_)
      | (with_reducible refine LeO.bind ?_ (fun _ => ?_))
      | exact ih0 _ _ _ _ _
      | exact spec_l01Source.mono _ _
      | exact spec_l01Src_l07Numbers.mono _ _ _ _ _ _
      | exact LeO.none _
      | refine LeO.ite ?_ ?_
      | refine LeO.bind ?_ (fun _ => ?_)
set_option maxHeartbeats 8000000 in
set_option maxRecDepth 100000 in
theorem spec_DrawPartnerRun.calls (k : Nat) (A0 : Option Addr) (c0 : Nat) (l0 : List Int) (r1 : ByteArray) (r2 : List Int) (w : World) (hr0 : Kd.C (Kd.int .u8) w A0 l0.length l0) (hc0 : l0.length ≤ c0) (h : spec_DrawPartnerRun.f k l0 = some (r1, r2)) :
    Calls Try.prog 53 #[.slice A0 l0.length c0] w fun e w' => ∃ v1_ : Value, e = .returned (.tuple #[.string r1, v1_]) ∧ Kd.R (Kd.int .i64) 2 w' w.heap.size (fun _ => True) v1_ r2 ∧ Below w.heap.size w w' := by
  have HR0 := Aside0.mk hr0
  have HC0 := Aside0.mk hc0
  clear hr0 hc0
  have HB := Aside0.mk (Below.refl w.heap.size w)
  have H : ((spec_l01Source.f k l0).bind fun bt356 => ((spec_l01Src_n.f bt356.1 bt356.2.1 bt356.2.2.1 bt356.2.2.2 (wrap64 (8 + (wrap64 (3 * bt356.2.2.2))))).bind fun bt361 => ((spec_l01Src_l07Numbers.f k bt356.1 bt361.2.1 bt361.2.2.1 bt361.2.2.2 bt361.1).bind fun bt365 => ((spec_l01Src_one.f bt356.1 bt365.2.1 bt365.2.2.1 bt365.2.2.2 20).bind fun bt371 => (if bt371.1 = true then ((spec_l01Src_edge.f bt356.1 bt371.2.1 bt371.2.2.1 bt371.2.2.2).bind fun bt375 => (if bt365.1.length < 17592186044416 then (spec_DrawPartnerRun.j0 k (bt365.1 ++ [bt375.1]) bt356.1 bt375.2.1 bt375.2.2.1 bt375.2.2.2) else (none))) else (spec_DrawPartnerRun.j0 k bt365.1 bt356.1 bt371.2.1 bt371.2.2.1 bt371.2.2.2)))))) = some (r1, r2) := h
  clear h
  replace H := Option.bind_eq_some_iff.mp H
  obtain ⟨⟨t356, t357, t358, t359⟩, A20, H⟩ := H
  replace H : ((spec_l01Src_n.f t356 t357 t358 t359 (wrap64 (8 + (wrap64 (3 * t359))))).bind fun bt361 => ((spec_l01Src_l07Numbers.f k t356 bt361.2.1 bt361.2.2.1 bt361.2.2.2 bt361.1).bind fun bt365 => ((spec_l01Src_one.f t356 bt365.2.1 bt365.2.2.1 bt365.2.2.2 20).bind fun bt371 => (if bt371.1 = true then ((spec_l01Src_edge.f t356 bt371.2.1 bt371.2.2.1 bt371.2.2.2).bind fun bt375 => (if bt365.1.length < 17592186044416 then (spec_DrawPartnerRun.j0 k (bt365.1 ++ [bt375.1]) t356 bt375.2.1 bt375.2.2.1 bt375.2.2.2) else (none))) else (spec_DrawPartnerRun.j0 k bt365.1 t356 bt371.2.1 bt371.2.2.1 bt371.2.2.2))))) = some (r1, r2) := H
  have A2 := Aside0.mk A20
  clear A20
  replace H := Option.bind_eq_some_iff.mp H
  obtain ⟨⟨t361, t362, t363, t364⟩, A30, H⟩ := H
  replace H : ((spec_l01Src_l07Numbers.f k t356 t362 t363 t364 t361).bind fun bt365 => ((spec_l01Src_one.f t356 bt365.2.1 bt365.2.2.1 bt365.2.2.2 20).bind fun bt371 => (if bt371.1 = true then ((spec_l01Src_edge.f t356 bt371.2.1 bt371.2.2.1 bt371.2.2.2).bind fun bt375 => (if bt365.1.length < 17592186044416 then (spec_DrawPartnerRun.j0 k (bt365.1 ++ [bt375.1]) t356 bt375.2.1 bt375.2.2.1 bt375.2.2.2) else (none))) else (spec_DrawPartnerRun.j0 k bt365.1 t356 bt371.2.1 bt371.2.2.1 bt371.2.2.2)))) = some (r1, r2) := H
  have A3 := Aside0.mk A30
  clear A30
  replace H := Option.bind_eq_some_iff.mp H
  obtain ⟨⟨t365, t368, t369, t370⟩, A40, H⟩ := H
  replace H : ((spec_l01Src_one.f t356 t368 t369 t370 20).bind fun bt371 => (if bt371.1 = true then ((spec_l01Src_edge.f t356 bt371.2.1 bt371.2.2.1 bt371.2.2.2).bind fun bt375 => (if t365.length < 17592186044416 then (spec_DrawPartnerRun.j0 k (t365 ++ [bt375.1]) t356 bt375.2.1 bt375.2.2.1 bt375.2.2.2) else (none))) else (spec_DrawPartnerRun.j0 k t365 t356 bt371.2.1 bt371.2.2.1 bt371.2.2.2))) = some (r1, r2) := H
  have A4 := Aside0.mk A40
  clear A40
  replace H := Option.bind_eq_some_iff.mp H
  obtain ⟨⟨t371, t372, t373, t374⟩, A50, H⟩ := H
  replace H : (if t371 = true then ((spec_l01Src_edge.f t356 t372 t373 t374).bind fun bt375 => (if t365.length < 17592186044416 then (spec_DrawPartnerRun.j0 k (t365 ++ [bt375.1]) t356 bt375.2.1 bt375.2.2.1 bt375.2.2.2) else (none))) else (spec_DrawPartnerRun.j0 k t365 t356 t372 t373 t374)) = some (r1, r2) := H
  have A5 := Aside0.mk A50
  clear A50
  have HC6 := Aside0.mk H
  clear H
  go_enter Try.func53, Try.ntmps53
  go_upto_if 19 with (first | ((with_reducible refine gate_callee (f := 71) rfl ?_); refine gl_ 7 Try.func71 #[.slice A0 l0.length c0] ?_ rfl rfl rfl rfl; (with_reducible refine (spec_l01Source.calls k _ _ l0 t356 t357 t358 t359 w _ ?side1 ?side2 ?side3 A2.out).mono ?_); (case side1 => repeat (first | (with_reducible first | exact HB.out | apply below_alloc | apply pw_below_drewN | apply below_drew1) | exact HB.out)); (case side2 => exact HR0.out); (case side3 => exact HC0.out); rintro e w7 ⟨g360, rfl, hi, hb, hb2⟩; refine ⟨_, rfl, ?_⟩; have n0_ := Aside0.mk (hb); have n1_ := Aside0.mk (hi); clear HB; have HB := n0_; have HI360 := n1_; clear n0_ n1_; (try clear hb); (try clear hb2); (try clear hk); (try clear hi); obtain ⟨ASz8_0, cSz8_0, HGz8, hgz8, HSz8_0⟩ := HI360.out; have hcz8_0 := cellS116_0 HGz8; have hcz8_1 := cellS116_1 HGz8; have hcz8_2 := cellS116_2 HGz8; have hcz8_3 := cellS116_3 HGz8; have hfz8_1 := blk_frozen HGz8 1; have hfz8_2 := blk_frozen HGz8 2; have hfz8_3 := blk_frozen HGz8 3; clear HGz8 hgz8) | ((with_reducible refine gate_callee (f := 101) rfl ?_); refine gl_ 16 Try.func101 #[.pointer (some ⟨g360, 0, none⟩), .int .i64 (wrap64 (8 + (wrap64 (3 * t359))))] ?_ rfl rfl rfl rfl; (with_reducible refine (spec_l01Src_n.calls g360 t356 t357 t358 t359 (wrap64 (8 + (wrap64 (3 * t359)))) t361 t362 t363 t364 w _ ?side1 ?side2 A3.out).mono ?_); (case side1 => exact au13_2); (case side2 => exact au13_5); rintro e w9 ⟨rfl, hi, hb, hk⟩; refine ⟨_, rfl, ?_⟩; have n0_ := Aside0.mk (hb); have n1_ := Aside0.mk (hi); clear HB; clear HI360; have HB := n0_; have HI360 := n1_; clear n0_ n1_; (try clear hb); (try clear hb2); (try clear hk); (try clear hi)) | ((with_reducible refine gate_callee (f := 103) rfl ?_); refine gl_ 17 Try.func103 #[.pointer (some ⟨g360, 0, none⟩), .int .i64 t361] ?_ rfl rfl rfl rfl; (with_reducible refine (spec_l01Src_l07Numbers.calls k g360 t356 t362 t363 t364 t361 t365 t368 t369 t370 w _ ?side1 ?side2 A4.out).mono ?_); (case side1 => exact au13_2); (case side2 => exact au13_5); rintro e w10 ⟨v366, rfl, ho0, hi, hb, hk⟩; refine ⟨_, rfl, ?_⟩; have n0_ := Aside0.mk (Kd.R_lower ho0 (below_size au13_7)); have n1_ := Aside0.mk (hb); have n2_ := Aside0.mk (hi); clear HB; clear HI360; have HO367 := n0_; have HB := n1_; have HI360 := n2_; clear n0_ n1_ n2_; (try clear hb); (try clear hb2); (try clear hk); (try clear hi); (try clear ho0)) | ((with_reducible refine gate_callee (f := 74) rfl ?_); refine gl_ 19 Try.func74 #[.pointer (some ⟨g360, 0, none⟩), .int .i64 20] ?_ rfl rfl rfl rfl; (with_reducible refine (spec_l01Src_one.calls g360 t356 t368 t369 t370 20 t371 t372 t373 t374 w _ ?side1 ?side2 A5.out).mono ?_); (case side1 => exact au13_2); (case side2 => exact au13_5); rintro e w11 ⟨rfl, hi, hb, hk⟩; refine ⟨_, rfl, ?_⟩; have n0_ := Aside0.mk (Kd.R_mono (Kd.R_keep (IsS116.apart (show IsS116 w _ g360 t356 t368 t369 t370 from by repeat (first | (with_reducible first | exact HI360.out | apply IsS116.alloc | apply IsS116.drewN | apply IsS116.drew | apply IsS116.set_1 | apply IsS116.set_2 | apply IsS116.set_3) | exact HI360.out)) (rk_ HO367) (by decide)) hk (fun _ h => h.2)) (fun _ h => h.1)); have n1_ := Aside0.mk (hb); have n2_ := Aside0.mk (hi); clear HO367; clear HB; clear HI360; have HO367 := n0_; have HB := n1_; have HI360 := n2_; clear n0_ n1_ n2_; (try clear hb); (try clear hb2); (try clear hk); (try clear hi)))
  (try simp only [Act.put, List.setIfInBounds_toArray, List.set_cons_zero, List.set_cons_succ])
  go_cut [5] (fun v5 wc => ∃ (kq : Nat) (x5_5 : List Int) (x361001_5 : Int) (x361002_5 : Int) (x361003_5 : Int), Aside0 (spec_DrawPartnerRun.j0 kq x5_5 t356 x361001_5 x361002_5 x361003_5 = some (r1, r2)) ∧ Aside0 (kq ≤ k) ∧ Aside0 (Kd.R (Kd.int .i64) 2 wc w.heap.size (fun _ => True) v5 x5_5) ∧ Aside0 (IsS116 w wc g360 t356 x361001_5 x361002_5 x361003_5) ∧ Aside0 (Below w.heap.size w wc))
  case first =>
    have H := HC6.out
    clear HC6
    by_cases c12 : t371 = true
    · subst c12
      have H1 : ((spec_l01Src_edge.f t356 t372 t373 t374).bind fun bt375 => (if t365.length < 17592186044416 then (spec_DrawPartnerRun.j0 k (t365 ++ [bt375.1]) t356 bt375.2.1 bt375.2.2.1 bt375.2.2.2) else (none))) = some (r1, r2) := by rw [if_pos rfl] at H; exact H
      clear H
      have H := H1
      clear H1
      replace H := Option.bind_eq_some_iff.mp H
      obtain ⟨⟨t375, t376, t377, t378⟩, A130, H⟩ := H
      replace H : (if t365.length < 17592186044416 then (spec_DrawPartnerRun.j0 k (t365 ++ [t375]) t356 t376 t377 t378) else (none)) = some (r1, r2) := H
      have A13 := Aside0.mk A130
      clear A130
      by_cases c14 : t365.length < 17592186044416
      · rw [if_pos c14] at H
        have LMc14 := Aside0.mk c14
        clear c14
        obtain ⟨y379, hy379⟩ : ∃ y_ : List Int, y_ = (t365 ++ [t375]) := ⟨_, rfl⟩
        replace H : (spec_DrawPartnerRun.j0 k y379 t356 t376 t377 t378) = some (r1, r2) := by first | (rw [hy379]; with_reducible exact H) | (have H2_ := (Option.bind_some _ _).symm.trans H; rw [hy379]; with_reducible exact H2_) | (have H2_ := (Option.bind_some _ _).symm.trans H; with_reducible exact H2_) | with_reducible exact H | (rw [hy379]; exact H) | exact H
        have Ny379 := Aside0.mk hy379
        clear hy379
        have H' := Aside0.mk H
        clear H
        go_wp2_with (first | ((with_reducible refine gate_callee (f := 104) rfl ?_); refine gl_ 22 Try.func104 #[.pointer (some ⟨g360, 0, none⟩)] ?_ rfl rfl rfl rfl; (with_reducible refine (spec_l01Src_edge.calls g360 t356 t372 t373 t374 t375 t376 t377 t378 w _ ?side1 ?side2 A13.out).mono ?_); (case side1 => exact au13_2); (case side2 => exact au13_5); rintro e w15 ⟨rfl, hi, hb, hk⟩; refine ⟨_, rfl, ?_⟩; have n0_ := Aside0.mk (Kd.R_mono (Kd.R_keep (IsS116.apart (show IsS116 w _ g360 t356 t372 t373 t374 from by repeat (first | (with_reducible first | exact HI360.out | apply IsS116.alloc | apply IsS116.drewN | apply IsS116.drew | apply IsS116.set_1 | apply IsS116.set_2 | apply IsS116.set_3) | exact HI360.out)) (rk_ HO367) (by decide)) hk (fun _ h => h.2)) (fun _ h => h.1)); have n1_ := Aside0.mk (hb); have n2_ := Aside0.mk (hi); clear HO367; clear HB; clear HI360; have HO367 := n0_; have HB := n1_; have HI360 := n2_; clear n0_ n1_ n2_; (try clear hb); (try clear hb2); (try clear hk); (try clear hi)) | ((with_reducible refine gate_builtin (b := .append) (xs := #[.tmp 20, .tmp 23]) rfl ?_); at_builtin; refine Kd.R_append (Kd.int .i64) (w0 := w) w.heap.size rfl (.tmp 20) (.tmp 23) 55 2 (.int .i64 0) 8 rfl Try.underlying55 info2 rfl (by decide) (by omega) v366 t365 t375 [.int .i64 t375] (fun _ => True) (fun _ => False) rfl rfl ?aP (fun _ hk => hk.elim) ?aF ?aO ?aB ?aS ?aL ?_; (case aP => exact rfl); (case aB => exact au13_7); (case aF => exact (fun _ _ => trivial)); (case aO => exact (rk_ HO367)); (case aS => exact (below_size au13_7)); (case aL => have := LMc14.out; omega); intro v380 w16 ho hb hg hat; rw [← Ny379.out] at ho; have n0_ := Aside0.mk (IsS116.grown au13_14 hg (IsS116.own_ne HI360.out HO367.out (by decide))); have n1_ := Aside0.mk (hb); have n2_ := Aside0.mk (ho); clear HI360; clear HB; clear HO367; have HI360 := n0_; have HB := n1_; have HO381 := n2_; clear n0_ n1_ n2_; clear ho hb hg hat))
        go_meet
        case rel => exact ⟨_, (y379), (t376), (t377), (t378), H', ⟨by first | omega | exact Nat.le_refl _⟩, ⟨rk_ HO381⟩, ⟨au13_15⟩, ⟨au13_11⟩⟩
      · rw [if_neg c14] at H
        exact absurd H (by simp)
    · replace c12 := Bool.eq_false_iff.mpr c12
      subst c12
      have H1 : (spec_DrawPartnerRun.j0 k t365 t356 t372 t373 t374) = some (r1, r2) := by rw [if_neg (show ¬ (false = true) by decide)] at H; exact H
      clear H
      have H := H1
      clear H1
      have H' := Aside0.mk H
      clear H
      go_wp2
      go_meet
      case rel => exact ⟨_, (t365), (t372), (t373), (t374), H', ⟨by first | omega | exact Nat.le_refl _⟩, ⟨rk_ HO367⟩, ⟨au13_15⟩, ⟨au13_11⟩⟩
  case rest =>
    clear HC6
    try clear c1
    try clear p2
    try clear c5
    try clear p6
    try clear c7
    try clear c10
    try clear c12
    try clear c14
    try clear hcz8_0
    try clear hcz8_1
    try clear hcz8_2
    try clear hcz8_3
    try clear hfz8_1
    try clear hfz8_2
    try clear hfz8_3
    obtain ⟨kq, x5_5, x361001_5, x361002_5, x361003_5, HA, HJ5, HO_5, HI360, HB⟩ := hcut
    cases kq with
    | zero => exact absurd HA.out (by simp [spec_DrawPartnerRun.j0])
    | succ kj5 =>
      have H := HA.out
      clear HA
      simp only [spec_DrawPartnerRun.j0] at H
      replace H := Option.bind_eq_some_iff.mp H
      obtain ⟨⟨t382, t383, t384, t385⟩, A170, H⟩ := H
      replace H : (if t382 = true then ((spec_l01Src_n.f t356 t383 t384 t385 3).bind fun bt386 => ((spec_l01Src_l07Numbers.f kj5 t356 bt386.2.1 bt386.2.2.1 bt386.2.2.2 (wrap64 (399 + bt386.1))).bind fun bt390 => ((spec_l01Src_pick.f t356 bt390.2.1 bt390.2.2.1 bt390.2.2.2 (([(⟨#[65, 67, 77, 69]⟩ : ByteArray), (⟨#[65, 67, 77, 69]⟩ : ByteArray), (⟨#[65, 67, 77, 69]⟩ : ByteArray), (⟨#[97]⟩ : ByteArray)] : List ByteArray))).bind fun bt399 => (some (bt399.1, bt390.1))))) else ((spec_l01Src_pick.f t356 t383 t384 t385 (([(⟨#[65, 67, 77, 69]⟩ : ByteArray), (⟨#[65, 67, 77, 69]⟩ : ByteArray), (⟨#[65, 67, 77, 69]⟩ : ByteArray), (⟨#[97]⟩ : ByteArray)] : List ByteArray))).bind fun bt406 => (some (bt406.1, x5_5)))) = some (r1, r2) := H
      have A17 := Aside0.mk A170
      clear A170
      by_cases c18 : t382 = true
      · subst c18
        have H1 : ((spec_l01Src_n.f t356 t383 t384 t385 3).bind fun bt386 => ((spec_l01Src_l07Numbers.f kj5 t356 bt386.2.1 bt386.2.2.1 bt386.2.2.2 (wrap64 (399 + bt386.1))).bind fun bt390 => ((spec_l01Src_pick.f t356 bt390.2.1 bt390.2.2.1 bt390.2.2.2 (([(⟨#[65, 67, 77, 69]⟩ : ByteArray), (⟨#[65, 67, 77, 69]⟩ : ByteArray), (⟨#[65, 67, 77, 69]⟩ : ByteArray), (⟨#[97]⟩ : ByteArray)] : List ByteArray))).bind fun bt399 => (some (bt399.1, bt390.1))))) = some (r1, r2) := by rw [if_pos rfl] at H; exact H
        clear H
        have H := H1
        clear H1
        replace H := Option.bind_eq_some_iff.mp H
        obtain ⟨⟨t386, t387, t388, t389⟩, A190, H⟩ := H
        replace H : ((spec_l01Src_l07Numbers.f kj5 t356 t387 t388 t389 (wrap64 (399 + t386))).bind fun bt390 => ((spec_l01Src_pick.f t356 bt390.2.1 bt390.2.2.1 bt390.2.2.2 (([(⟨#[65, 67, 77, 69]⟩ : ByteArray), (⟨#[65, 67, 77, 69]⟩ : ByteArray), (⟨#[65, 67, 77, 69]⟩ : ByteArray), (⟨#[97]⟩ : ByteArray)] : List ByteArray))).bind fun bt399 => (some (bt399.1, bt390.1)))) = some (r1, r2) := H
        have A19 := Aside0.mk A190
        clear A190
        replace H := Option.bind_eq_some_iff.mp H
        obtain ⟨⟨t390, t393, t394, t395⟩, A200, H⟩ := H
        replace H : ((spec_l01Src_pick.f t356 t393 t394 t395 (([(⟨#[65, 67, 77, 69]⟩ : ByteArray), (⟨#[65, 67, 77, 69]⟩ : ByteArray), (⟨#[65, 67, 77, 69]⟩ : ByteArray), (⟨#[97]⟩ : ByteArray)] : List ByteArray))).bind fun bt399 => (some (bt399.1, t390))) = some (r1, r2) := H
        have A20 := Aside0.mk A200
        clear A200
        obtain ⟨y396, hy396⟩ : ∃ y_ : List ByteArray, y_ = (([(⟨#[65, 67, 77, 69]⟩ : ByteArray), (⟨#[65, 67, 77, 69]⟩ : ByteArray), (⟨#[65, 67, 77, 69]⟩ : ByteArray), (⟨#[97]⟩ : ByteArray)] : List ByteArray)) := ⟨_, rfl⟩
        replace H : ((spec_l01Src_pick.f t356 t393 t394 t395 y396).bind fun bt399 => (some (bt399.1, t390))) = some (r1, r2) := by first | (rw [hy396]; with_reducible exact H) | (have H2_ := (Option.bind_some _ _).symm.trans H; rw [hy396]; with_reducible exact H2_) | (have H2_ := (Option.bind_some _ _).symm.trans H; with_reducible exact H2_) | with_reducible exact H | (rw [hy396]; exact H) | exact H
        have Ny396 := Aside0.mk hy396
        clear hy396
        replace H := Option.bind_eq_some_iff.mp H
        obtain ⟨⟨t399, t400, t401, t402⟩, A210, H⟩ := H
        replace H : (some (t399, t390)) = some (r1, r2) := H
        have A21 := Aside0.mk A210
        clear A210
        simp only [Option.some.injEq, Prod.mk.injEq] at H
        obtain ⟨rfl, rfl⟩ := H
        go_wp2_with (first | ((with_reducible refine gate_callee (f := 74) rfl ?_); refine gl_ 26 Try.func74 #[.pointer (some ⟨g360, 0, none⟩), .int .i64 50] ?_ rfl rfl rfl rfl; (with_reducible refine (spec_l01Src_one.calls g360 t356 x361001_5 x361002_5 x361003_5 50 true t383 t384 t385 w _ ?side1 ?side2 A17.out).mono ?_); (case side1 => exact au13_2); (case side2 => exact au13_5); rintro e w22 ⟨rfl, hi, hb, hk⟩; refine ⟨_, rfl, ?_⟩; have n0_ := Aside0.mk (Kd.R_mono (Kd.R_keep (IsS116.apart (show IsS116 w _ g360 t356 x361001_5 x361002_5 x361003_5 from by repeat (first | (with_reducible first | exact HI360.out | apply IsS116.alloc | apply IsS116.drewN | apply IsS116.drew | apply IsS116.set_1 | apply IsS116.set_2 | apply IsS116.set_3) | exact HI360.out)) (rk_ HO_5) (by decide)) hk (fun _ h => h.2)) (fun _ h => h.1)); have n1_ := Aside0.mk (hb); have n2_ := Aside0.mk (hi); clear HO_5; clear HB; clear HI360; have HO_5 := n0_; have HB := n1_; have HI360 := n2_; clear n0_ n1_ n2_; (try clear hb); (try clear hb2); (try clear hk); (try clear hi)) | ((with_reducible refine gate_callee (f := 101) rfl ?_); refine gl_ 29 Try.func101 #[.pointer (some ⟨g360, 0, none⟩), .int .i64 3] ?_ rfl rfl rfl rfl; (with_reducible refine (spec_l01Src_n.calls g360 t356 t383 t384 t385 3 t386 t387 t388 t389 w _ ?side1 ?side2 A19.out).mono ?_); (case side1 => exact au13_2); (case side2 => exact au13_5); rintro e w23 ⟨rfl, hi, hb, hk⟩; refine ⟨_, rfl, ?_⟩; have n0_ := Aside0.mk (Kd.R_mono (Kd.R_keep (IsS116.apart (show IsS116 w _ g360 t356 t383 t384 t385 from by repeat (first | (with_reducible first | exact HI360.out | apply IsS116.alloc | apply IsS116.drewN | apply IsS116.drew | apply IsS116.set_1 | apply IsS116.set_2 | apply IsS116.set_3) | exact HI360.out)) (rk_ HO_5) (by decide)) hk (fun _ h => h.2)) (fun _ h => h.1)); have n1_ := Aside0.mk (hb); have n2_ := Aside0.mk (hi); clear HO_5; clear HB; clear HI360; have HO_5 := n0_; have HB := n1_; have HI360 := n2_; clear n0_ n1_ n2_; (try clear hb); (try clear hb2); (try clear hk); (try clear hi)) | ((with_reducible refine gate_callee (f := 103) rfl ?_); refine gl_ 31 Try.func103 #[.pointer (some ⟨g360, 0, none⟩), .int .i64 (wrap64 (399 + t386))] ?_ rfl rfl rfl rfl; (with_reducible refine (spec_l01Src_l07Numbers.calls kj5 g360 t356 t387 t388 t389 (wrap64 (399 + t386)) t390 t393 t394 t395 w _ ?side1 ?side2 A20.out).mono ?_); (case side1 => exact au13_2); (case side2 => exact au13_5); rintro e w24 ⟨v391, rfl, ho0, hi, hb, hk⟩; refine ⟨_, rfl, ?_⟩; have n0_ := Aside0.mk (Kd.R_mono (Kd.R_told (Kd.R_oldK (IsS116.apart (show IsS116 w _ g360 t356 t387 t388 t389 from by repeat (first | (with_reducible first | exact HI360.out | apply IsS116.alloc | apply IsS116.drewN | apply IsS116.drew | apply IsS116.set_1 | apply IsS116.set_2 | apply IsS116.set_3) | exact HI360.out)) (rk_ HO_5) (by decide)) hk) (Kd.R_base ho0)) (fun _ h_ => h_.1)); have n1_ := Aside0.mk (Kd.R_lower (Kd.R_new' ho0 (Kd.R_lt (rk_ HO_5))) (below_size au13_7)); have n2_ := Aside0.mk (hb); have n3_ := Aside0.mk (hi); clear HO_5; clear HB; clear HI360; have HO_5 := n0_; have HO392 := n1_; have HB := n2_; have HI360 := n3_; clear n0_ n1_ n2_ n3_; (try clear hb); (try clear hb2); (try clear hk); (try clear hi); (try clear ho0)) | ((with_reducible refine gate_dst (N := 33) rfl ?_); refine Kd.R_lit Kd.string _ 9 ?hg (N := 33) ?hd (xs := ([(⟨#[65, 67, 77, 69]⟩ : ByteArray), (⟨#[65, 67, 77, 69]⟩ : ByteArray), (⟨#[65, 67, 77, 69]⟩ : ByteArray), (⟨#[97]⟩ : ByteArray)] : List ByteArray)) (inner := [.string (⟨#[65, 67, 77, 69]⟩ : ByteArray), .string (⟨#[65, 67, 77, 69]⟩ : ByteArray), .string (⟨#[65, 67, 77, 69]⟩ : ByteArray), .string (⟨#[97]⟩ : ByteArray)]) (ok := fun _ => True) (okp := fun _ => True) ?hr ?hp (fun _ hk => hk) trivial (Below.refl _ _) (Nat.le_refl _) (by simp) ?_; (case hd => rfl); (case hg => rfl); (case hr => exact hr_); (case hp => exact au13_12); intro v397 w25 ho26 hb hg_ hnew_; clear hg_ hnew_; (first | rw [← Ny396.out] at ho26 | (simp only [Int.reduceToNat] at ho26; rw [← Ny396.out] at ho26)); have n0_ := Aside0.mk (Kd.R_below (rk_ HO_5) hb); have n1_ := Aside0.mk (Kd.R_below (rk_ HO392) hb); have n2_ := Aside0.mk (Kd.R_lower ho26 (below_size au13_7)); have n3_ := Aside0.mk (IsS116.below au13_14 hb); have n4_ := Aside0.mk (below_step au13_7 hb); clear HO_5; clear HO392; clear HI360; clear HB; have HO_5 := n0_; have HO392 := n1_; have HO398 := n2_; have HI360 := n3_; have HB := n4_; clear n0_ n1_ n2_ n3_ n4_; clear hb ho26; obtain ⟨Ao27, co27, eo27⟩ := Kd.R_slice HO398.out; subst eo27) | ((with_reducible refine gate_callee (f := 75) rfl ?_); refine gl_ 34 Try.func75 #[.pointer (some ⟨g360, 0, none⟩), .slice Ao27 y396.length co27] ?_ rfl rfl rfl rfl; (with_reducible refine (spec_l01Src_pick.calls g360 t356 t393 t394 t395 _ _ y396 t399 t400 t401 t402 w _ ?side1 ?side2 ?side3 ?side4 ?side5 A21.out).mono ?_); (case side1 => exact au13_2); (case side2 => exact au13_5); (case side3 => repeat (first | exact (Kd.R_reads' HO398.out).2.2 | (with_reducible refine Kd.C_alloc ?_ _) | (with_reducible refine Kd.C_drewN ?_ _) | (with_reducible refine Kd.C_drew ?_))); (case side4 => exact (Kd.R_reads' HO398.out).2.1); (case side5 => exact far_slice (IsS116.own_ne HI360.out HO398.out (by decide))); rintro e w28 ⟨rfl, hi, hb, hk⟩; refine ⟨_, rfl, ?_⟩; have n0_ := Aside0.mk (Kd.R_mono (Kd.R_keep (IsS116.apart (show IsS116 w _ g360 t356 t393 t394 t395 from by repeat (first | (with_reducible first | exact HI360.out | apply IsS116.alloc | apply IsS116.drewN | apply IsS116.drew | apply IsS116.set_1 | apply IsS116.set_2 | apply IsS116.set_3) | exact HI360.out)) (rk_ HO_5) (by decide)) hk (fun _ h => h.2)) (fun _ h => h.1)); have n1_ := Aside0.mk (Kd.R_mono (Kd.R_keep (IsS116.apart (show IsS116 w _ g360 t356 t393 t394 t395 from by repeat (first | (with_reducible first | exact HI360.out | apply IsS116.alloc | apply IsS116.drewN | apply IsS116.drew | apply IsS116.set_1 | apply IsS116.set_2 | apply IsS116.set_3) | exact HI360.out)) (rk_ HO392) (by decide)) hk (fun _ h => h.2)) (fun _ h => h.1)); have n2_ := Aside0.mk (Kd.R_mono (Kd.R_keep (IsS116.apart (show IsS116 w _ g360 t356 t393 t394 t395 from by repeat (first | (with_reducible first | exact HI360.out | apply IsS116.alloc | apply IsS116.drewN | apply IsS116.drew | apply IsS116.set_1 | apply IsS116.set_2 | apply IsS116.set_3) | exact HI360.out)) (rk_ HO398) (by decide)) hk (fun _ h => h.2)) (fun _ h => h.1)); have n3_ := Aside0.mk (hb); have n4_ := Aside0.mk (hi); clear HO_5; clear HO392; clear HO398; clear HB; clear HI360; have HO_5 := n0_; have HO392 := n1_; have HO398 := n2_; have HB := n3_; have HI360 := n4_; clear n0_ n1_ n2_ n3_ n4_; (try clear hb); (try clear hb2); (try clear hk); (try clear hi)))
        go_ret2
        exact ⟨_, au13_13, by (with_reducible repeat (first | apply Kd.R_alloc | apply Kd.R_drewN | apply Kd.R_drew)); exact Kd.R_mono HO392.out (fun _ hk => trivial), au13_11⟩
      · replace c18 := Bool.eq_false_iff.mpr c18
        subst c18
        have H1 : ((spec_l01Src_pick.f t356 t383 t384 t385 (([(⟨#[65, 67, 77, 69]⟩ : ByteArray), (⟨#[65, 67, 77, 69]⟩ : ByteArray), (⟨#[65, 67, 77, 69]⟩ : ByteArray), (⟨#[97]⟩ : ByteArray)] : List ByteArray))).bind fun bt406 => (some (bt406.1, x5_5))) = some (r1, r2) := by rw [if_neg (show ¬ (false = true) by decide)] at H; exact H
        clear H
        have H := H1
        clear H1
        obtain ⟨y403, hy403⟩ : ∃ y_ : List ByteArray, y_ = (([(⟨#[65, 67, 77, 69]⟩ : ByteArray), (⟨#[65, 67, 77, 69]⟩ : ByteArray), (⟨#[65, 67, 77, 69]⟩ : ByteArray), (⟨#[97]⟩ : ByteArray)] : List ByteArray)) := ⟨_, rfl⟩
        replace H : ((spec_l01Src_pick.f t356 t383 t384 t385 y403).bind fun bt406 => (some (bt406.1, x5_5))) = some (r1, r2) := by first | (rw [hy403]; with_reducible exact H) | (have H2_ := (Option.bind_some _ _).symm.trans H; rw [hy403]; with_reducible exact H2_) | (have H2_ := (Option.bind_some _ _).symm.trans H; with_reducible exact H2_) | with_reducible exact H | (rw [hy403]; exact H) | exact H
        have Ny403 := Aside0.mk hy403
        clear hy403
        replace H := Option.bind_eq_some_iff.mp H
        obtain ⟨⟨t406, t407, t408, t409⟩, A290, H⟩ := H
        replace H : (some (t406, x5_5)) = some (r1, r2) := H
        have A29 := Aside0.mk A290
        clear A290
        simp only [Option.some.injEq, Prod.mk.injEq] at H
        obtain ⟨rfl, rfl⟩ := H
        go_wp2_with (first | ((with_reducible refine gate_callee (f := 74) rfl ?_); refine gl_ 26 Try.func74 #[.pointer (some ⟨g360, 0, none⟩), .int .i64 50] ?_ rfl rfl rfl rfl; (with_reducible refine (spec_l01Src_one.calls g360 t356 x361001_5 x361002_5 x361003_5 50 false t383 t384 t385 w _ ?side1 ?side2 A17.out).mono ?_); (case side1 => exact au13_2); (case side2 => exact au13_5); rintro e w30 ⟨rfl, hi, hb, hk⟩; refine ⟨_, rfl, ?_⟩; have n0_ := Aside0.mk (Kd.R_mono (Kd.R_keep (IsS116.apart (show IsS116 w _ g360 t356 x361001_5 x361002_5 x361003_5 from by repeat (first | (with_reducible first | exact HI360.out | apply IsS116.alloc | apply IsS116.drewN | apply IsS116.drew | apply IsS116.set_1 | apply IsS116.set_2 | apply IsS116.set_3) | exact HI360.out)) (rk_ HO_5) (by decide)) hk (fun _ h => h.2)) (fun _ h => h.1)); have n1_ := Aside0.mk (hb); have n2_ := Aside0.mk (hi); clear HO_5; clear HB; clear HI360; have HO_5 := n0_; have HB := n1_; have HI360 := n2_; clear n0_ n1_ n2_; (try clear hb); (try clear hb2); (try clear hk); (try clear hi)) | ((with_reducible refine gate_dst (N := 33) rfl ?_); refine Kd.R_lit Kd.string _ 9 ?hg (N := 33) ?hd (xs := ([(⟨#[65, 67, 77, 69]⟩ : ByteArray), (⟨#[65, 67, 77, 69]⟩ : ByteArray), (⟨#[65, 67, 77, 69]⟩ : ByteArray), (⟨#[97]⟩ : ByteArray)] : List ByteArray)) (inner := [.string (⟨#[65, 67, 77, 69]⟩ : ByteArray), .string (⟨#[65, 67, 77, 69]⟩ : ByteArray), .string (⟨#[65, 67, 77, 69]⟩ : ByteArray), .string (⟨#[97]⟩ : ByteArray)]) (ok := fun _ => True) (okp := fun _ => True) ?hr ?hp (fun _ hk => hk) trivial (Below.refl _ _) (Nat.le_refl _) (by simp) ?_; (case hd => rfl); (case hg => rfl); (case hr => exact hr_); (case hp => exact au13_12); intro v404 w31 ho32 hb hg_ hnew_; clear hg_ hnew_; (first | rw [← Ny403.out] at ho32 | (simp only [Int.reduceToNat] at ho32; rw [← Ny403.out] at ho32)); have n0_ := Aside0.mk (Kd.R_below (rk_ HO_5) hb); have n1_ := Aside0.mk (Kd.R_lower ho32 (below_size au13_7)); have n2_ := Aside0.mk (IsS116.below au13_14 hb); have n3_ := Aside0.mk (below_step au13_7 hb); clear HO_5; clear HI360; clear HB; have HO_5 := n0_; have HO405 := n1_; have HI360 := n2_; have HB := n3_; clear n0_ n1_ n2_ n3_; clear hb ho32; obtain ⟨Ao33, co33, eo33⟩ := Kd.R_slice HO405.out; subst eo33) | ((with_reducible refine gate_callee (f := 75) rfl ?_); refine gl_ 34 Try.func75 #[.pointer (some ⟨g360, 0, none⟩), .slice Ao33 y403.length co33] ?_ rfl rfl rfl rfl; (with_reducible refine (spec_l01Src_pick.calls g360 t356 t383 t384 t385 _ _ y403 t406 t407 t408 t409 w _ ?side1 ?side2 ?side3 ?side4 ?side5 A29.out).mono ?_); (case side1 => exact au13_2); (case side2 => exact au13_5); (case side3 => repeat (first | exact (Kd.R_reads' HO405.out).2.2 | (with_reducible refine Kd.C_alloc ?_ _) | (with_reducible refine Kd.C_drewN ?_ _) | (with_reducible refine Kd.C_drew ?_))); (case side4 => exact (Kd.R_reads' HO405.out).2.1); (case side5 => exact far_slice (IsS116.own_ne HI360.out HO405.out (by decide))); rintro e w34 ⟨rfl, hi, hb, hk⟩; refine ⟨_, rfl, ?_⟩; have n0_ := Aside0.mk (Kd.R_mono (Kd.R_keep (IsS116.apart (show IsS116 w _ g360 t356 t383 t384 t385 from by repeat (first | (with_reducible first | exact HI360.out | apply IsS116.alloc | apply IsS116.drewN | apply IsS116.drew | apply IsS116.set_1 | apply IsS116.set_2 | apply IsS116.set_3) | exact HI360.out)) (rk_ HO_5) (by decide)) hk (fun _ h => h.2)) (fun _ h => h.1)); have n1_ := Aside0.mk (Kd.R_mono (Kd.R_keep (IsS116.apart (show IsS116 w _ g360 t356 t383 t384 t385 from by repeat (first | (with_reducible first | exact HI360.out | apply IsS116.alloc | apply IsS116.drewN | apply IsS116.drew | apply IsS116.set_1 | apply IsS116.set_2 | apply IsS116.set_3) | exact HI360.out)) (rk_ HO405) (by decide)) hk (fun _ h => h.2)) (fun _ h => h.1)); have n2_ := Aside0.mk (hb); have n3_ := Aside0.mk (hi); clear HO_5; clear HO405; clear HB; clear HI360; have HO_5 := n0_; have HO405 := n1_; have HB := n2_; have HI360 := n3_; clear n0_ n1_ n2_ n3_; (try clear hb); (try clear hb2); (try clear hk); (try clear hi)))
        go_ret2
        exact ⟨_, au13_13, rk_ HO_5, au13_11⟩

end Go.Proofs.Ytjffakoifpldeaa.PFnWindow
