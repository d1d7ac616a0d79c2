-- printed by a program of this session (wip/xp/xprint.py) out of the translation; Lean checks it
import Derived.Test.YtlghcbmkhdibdaaDoorPFnTrailersx0
import Derived.Test.YtlghcbmkhdibdaaDoorPFnTrailersx1
import Derived.Test.YtlghcbmkhdibdaaDoorPFnTrailersx3
namespace Go.Proofs.YtlghcbmkhdibdaaDoor.PFnTrailers
open Go.RowKit Go.Proofs.YtlghcbmkhdibdaaDoorW.PrintWords Go.Proofs.YtlghcbmkhdibdaaDoorW.PrintLast Go.Proofs.YtlghcbmkhdibdaaDoorW.PrintMore
attribute [local go_sem] max2_int min2_int max_two min_two max_three min_three max_four min_four   -- for this text's walks alone
set_option linter.unusedVariables false
set_option linter.unusedSimpArgs false
set_option maxHeartbeats 8000000
set_option maxRecDepth 100000

theorem is4_0_ {p : Prop} (h : p := by repeat (first | (with_reducible first | exact om.out | apply IsS111.alloc | apply IsS111.drewN | apply IsS111.drew | apply IsS111.set_1 | apply IsS111.set_2 | apply IsS111.set_3 | refine IsS111.far ?_ (Aside0.out (by assumption)) _) | exact om.out)) : p := h

theorem au4_0 {p : Prop} (h : p := by first | rfl | (simp [errW_none, errW_some] <;> rfl) | (simp [*, errW_none, errW_some] <;> rfl)) : p := h
theorem au4_2 {p : Prop} (h : p := by (with_reducible repeat (first | apply Kd.S_alloc | apply Kd.S_drewN | apply Kd.S_drew)); exact da.out) : p := h
theorem au4_3 {p : Prop} (h : p := by have g_ := (Kd.S_R da.out).1 k_ e_.symm; first | exact g_.1.1 | exact g_.1 | exact g_.1.1.1) : p := h
theorem au4_4 {p : Prop} (h : p := by first | exact hk.1.1 | exact hk.1 | exact hk.1.1.1) : p := h
theorem au4_5 {p : Prop} (h : p := by repeat (first | exact (Kd.C_below sc.out HB.out) | (with_reducible refine Kd.C_alloc ?_ _) | (with_reducible refine Kd.C_drewN ?_ _) | (with_reducible refine Kd.C_drew ?_))) : p := h
theorem au4_6 {p : Prop} (h : p := by repeat (first | exact (Kd.C_below tQ.out HB.out) | (with_reducible refine Kd.C_alloc ?_ _) | (with_reducible refine Kd.C_drewN ?_ _) | (with_reducible refine Kd.C_drew ?_))) : p := h
theorem au4_7 {p : Prop} (h : p := by first | omega | exact Nat.le_refl _) : p := h
theorem au4_8 {p : Prop} (h : p := by have := HJ1.out; have := HK2.out; first | omega | exact Nat.le_refl _) : p := h
theorem au4_9 {p : Prop} (h : p := by repeat (first | (with_reducible first | exact HB.out | apply below_alloc | apply pw_below_drewN | apply below_drew1 | refine below_set ?_ (IsS111.ge om.out) | refine below_set ?_ e8.out) | exact HB.out)) : p := h
theorem au4_10 {p : Prop} (h : p := by (with_reducible repeat (first | apply Kd.S_alloc | apply Kd.S_drewN | apply Kd.S_drew)); exact kC.out) : p := h
theorem au4_11 {p : Prop} (h : p := by first | exact Kd.S_nil _ _ _ _ _ | exact Kd.N_nil _ _ _ _ _ | exact Kd.V_nil _ _ _ _ _ | exact Kd.Q_nil _ _ _ _ _ | exact Kd.R_nil _ _ _ _ _) : p := h
theorem au4_12 {p : Prop} (h : p := by rintro w' ⟨s0, s1, s2, s3, s4⟩; go_simp; with_reducible rfl) : p := h
theorem au4_13 {p : Prop} (h : p := by have := HJ1.out; have := HK2.out; have := Aq.out; have := Fs.out; have := Mw.out; have := HK6.out; omega) : p := h
theorem au4_14 {p : Prop} (h : p := by (with_reducible repeat (first | apply Kd.S_alloc | apply Kd.S_drewN | apply Kd.S_drew)); exact cd.out) : p := h
theorem au4_15 {p : Prop} (h : p := by have := HJ1.out; have := HK2.out; have := Aq.out; have := Fs.out; first | omega | exact Nat.le_refl _) : p := h
theorem au4_16 {p : Prop} (h : p := by rintro w' ⟨s0, s1, s2, s3⟩; go_simp; with_reducible rfl) : p := h
theorem au4_1 {p : Prop} (h : p := by exact (by (with_reducible repeat (first | apply Kd.S_alloc | apply Kd.S_drewN | apply Kd.S_drew)); exact Kd.S_mono da.out (fun k_ hk => ⟨trivial, fun xV => Nat.not_le.2 au4_4 xV.1⟩))) : p := h

/-! ### F20: function 20 -/
def F20.f (k : Nat) (l0 : List Int) : Option (ByteArray × ByteArray × Int × (List (S83))) := (F44.f k l0).bind fun mw => ((F45.f k mw.1 mw.2.1 mw.2.2.1 mw.2.2.2).bind fun mx => (some (mx.1, mx.2.1, mx.2.2.1, mx.2.2.2.1)))
theorem F20.mono : ∀ a0 k, LeO (F20.f k a0) (F20.f (k + 1) a0) := by
 intro a0 k
 unfold F20.f
 repeat' with_reducible first | exact F44.mono _ _ | exact F45.mono _ _ _ _ _ | exact LeO.refl _ | exact LeO.none _ | refine LeO.ite ?_ ?_ | refine LeO.bind ?_ (fun _ => ?_)
theorem F20.calls (k : Nat) (A0 : Option Addr) (c0 : Nat) (l0 : List Int) (r1 : ByteArray) (r2 : ByteArray) (r3 : Int) (r4 : List (S83)) (w : World) (eQ : Kd.C (Kd.int .u8) w A0 l0.length l0) (f9 : l0.length ≤ c0) (h : F20.f k l0 = some (r1, r2, r3, r4)) :
  Calls Tryd.prog 20 #[.slice A0 l0.length c0] w fun e w' => ∃ yc : Value, e = .returned (.agg #[.string r1, .string r2, .int .i64 r3, yc]) ∧ Kd.N k83 83 w' w.heap.size (fun k_ => (w.heap.size ≤ k_)) yc r4 ∧ Below w.heap.size w w' := by
 have tH := Tryd.underlying29
 have n3 := am_ eQ
 have sV := am_ f9
 clear eQ f9
 have HB := am_ (Below.refl w.heap.size w)
 have H : ((F44.f k l0).bind fun mw => ((F45.f k mw.1 mw.2.1 mw.2.2.1 mw.2.2.2).bind fun mx => (some (mx.1, mx.2.1, mx.2.2.1, mx.2.2.2.1)))) = some (r1, r2, r3, r4) := h
 clear h
 replace H := bi_ H; rcases H with ⟨⟨Vh, Vi, Vj, cu⟩, A2, H⟩
 replace H := bi_ H; rcases H with ⟨⟨uF, uG, cq, rW, a5W, GM, GN⟩, A3, H⟩
 simp only [Option.some.injEq, Prod.mk.injEq] at H
 obtain ⟨rfl, rfl, rfl, rfl⟩ := H
 go_enter Tryd.func20, Tryd.ntmps20
 go_wp2_with (first | ((with_reducible refine gate_dst (N := 2) rfl ?_); refine be_ 2 #[.string (⟨#[]⟩ : ByteArray), .string (⟨#[]⟩ : ByteArray), .int .i64 0, .slice none 0 0] 29 ?_; intro ba hg w4 hbox hb; have af := am_ (hbox); have j9 := am_ (gw_ hg bl_); have e8 := j9; replace HB := hs_ w hb; clear hb hbox hg) | ((with_reducible refine gate_callee (f := 44) rfl ?_); refine gl_ 4 Tryd.func44 #[.slice A0 l0.length c0] ?_ rfl rfl rfl rfl; (with_reducible refine (F44.calls k _ _ l0 Vh Vi Vj cu w _ ?s1 ?s2 ?s3 A2.out).mono ?_); (case s1 => repeat (first | (with_reducible first | exact HB.out | apply below_alloc | apply pw_below_drewN | apply below_drew1 | refine below_set ?_ e8.out) | exact HB.out)); (case s2 => exact n3.out); (case s3 => exact sV.out); rintro e w5 ⟨Mx, rfl, hi, hb, hb2⟩; refine ⟨_, rfl, ?_⟩; replace HB := am_ (hb); have om := am_ (hi); have qU := am_ (IsS111.ne_blk hi (blkb_ af hb2) (by decide)); have qV := am_ (Ne.symm (IsS111.ne_blk hi (blkb_ af hb2) (by decide))); replace af := am_ (blkb_ af hb2); (try clear hb hb2 hi)) | ((with_reducible refine gate_callee (f := 45) rfl ?_); refine gl_ 5 Tryd.func45 #[.pointer (some ⟨Mx, 0, none⟩)] ?_ rfl rfl rfl rfl; (with_reducible refine (F45.calls k Mx Vh Vi Vj cu uF uG cq rW a5W GM GN w _ ?s1 ?s2 A3.out).mono ?_); (case s1 => repeat (first | (with_reducible first | exact om.out | apply IsS111.alloc | apply IsS111.drewN | apply IsS111.drew | apply IsS111.set_1 | apply IsS111.set_2 | apply IsS111.set_3 | refine IsS111.far ?_ qU.out _) | exact om.out)); (case s2 => repeat (first | (with_reducible first | exact HB.out | apply below_alloc | apply pw_below_drewN | apply below_drew1 | refine below_set ?_ (IsS111.ge om.out) | refine below_set ?_ e8.out) | exact HB.out)); rintro e w6 ⟨b3I, rfl, bm, hi, hb, hk⟩; refine ⟨_, rfl, ?_⟩; have JW := am_ (Kd.N_lower (Kd.N_mono (ok' := fun k_ => (w.heap.size ≤ k_) ∧ k_ ≠ ba ∧ k_ ≠ Mx) bm (fun k_ hk_ => ⟨(Nat.le_trans (below_size au4_9) hk_), (Kd.freshB (g := ba) (o := .cells #[.string (⟨#[]⟩ : ByteArray), .string (⟨#[]⟩ : ByteArray), .int .i64 0, .slice none 0 0] 29 (0, 0)) (bk_ af) k_ hk_), (IsS111.fresh is4_0_ k_ hk_)⟩)) (below_size au4_9)); replace af := ka_ hk af qV; replace HB := am_ (hb); replace om := am_ (hi); clear hb hk hi bm; have Vk := qV.out; have Vl := qU.out; obtain ⟨uT, uU, My, Mz, uV, uW, MA, MB⟩ := cellsF4 af.out; obtain ⟨Ao9, co9, eo9⟩ := Kd.N_slice JW.out; subst eo9))
 refine bodyPost_ret (results_cell_row rfl _ _ ba 29 #[.string uF, .string uG, .int .i64 cq, .slice Ao9 rW.length co9] (0, 0) _ rfl (bq_ af) Tryd.underlying29 rfl (by kernel_rfl)) rfl ?_
 exact ⟨_, au4_0, by (with_reducible repeat (first | apply Kd.N_alloc | apply Kd.N_drewN | apply Kd.N_drew)); exact Kd.N_mono (Kd.N_far (p := ⟨ba, 3, none⟩) (Kd.N_far (p := ⟨ba, 2, none⟩) (Kd.N_far (p := ⟨ba, 1, none⟩) (Kd.N_far (p := ⟨ba, 0, none⟩) (Kd.N_mono JW.out (fun k_ hk => (⟨hk, hk.2.1⟩ : _ ∧ k_ ≠ ba))) (fun _ hk => hk.2) (.string uF)) (fun _ hk => hk.2) (.string uG)) (fun _ hk => hk.2) (.int .i64 cq)) (fun _ hk => hk.2) (.slice Ao9 rW.length co9)) (fun _ hk => hk.1.1), by repeat (first | (with_reducible first | exact HB.out | apply below_alloc | apply pw_below_drewN | apply below_drew1 | refine below_set ?_ (IsS111.ge om.out) | refine below_set ?_ e8.out) | exact HB.out)⟩

/-! ### F32: function 32 -/
mutual
def F32.j0 : Nat → ByteArray → Bool → Option (Bool)
  | 0, _, _ => none
  | k + 1, x0, x22 => if x22 = true then (some false) else (F32.l0 k x0 0)
def F32.l0 : Nat → ByteArray → Int → Option (Bool)
  | 0, _, _ => none
  | k + 1, x0, x3 => if x3 < (x0.size : Int) then (if 0 ≤ x3 then (if (bt x0 x3) ≥ 65 then (if (bt x0 x3) ≤ 90 then (F32.l0 k x0 (wrap64 (x3 + 1))) else (if (bt x0 x3) ≥ 48 then (if (bt x0 x3) ≤ 57 then (F32.l0 k x0 (wrap64 (x3 + 1))) else (if ((bt x0 x3) = 45) then (F32.l0 k x0 (wrap64 (x3 + 1))) else (some false))) else (if ((bt x0 x3) = 45) then (F32.l0 k x0 (wrap64 (x3 + 1))) else (some false)))) else (if (bt x0 x3) ≥ 48 then (if (bt x0 x3) ≤ 57 then (F32.l0 k x0 (wrap64 (x3 + 1))) else (if ((bt x0 x3) = 45) then (F32.l0 k x0 (wrap64 (x3 + 1))) else (some false))) else (if ((bt x0 x3) = 45) then (F32.l0 k x0 (wrap64 (x3 + 1))) else (some false)))) else (none)) else (some true)
end
def F32.f (k : Nat) (a0 : ByteArray) : Option (Bool) := if (a0.size : Int) < 1 then (F32.j0 k a0 true) else (if (a0.size : Int) > 12 then (F32.j0 k a0 true) else (if 0 < (a0.size : Int) then (if (bt a0 0) < 65 then (F32.j0 k a0 true) else (F32.j0 k a0 (decide ((bt a0 0) > 90)))) else (none)))
theorem F32.mono_l : ∀ k, (∀ y0 y1, LeO (F32.j0 k y0 y1) (F32.j0 (k + 1) y0 y1)) ∧ (∀ y0 y1, LeO (F32.l0 k y0 y1) (F32.l0 (k + 1) y0 y1))
 | 0 => ⟨fun _ _ r h => by simp [F32.j0] at h, fun _ _ r h => by simp [F32.l0] at h⟩
 | k + 1 => by
  obtain ⟨b6, fd⟩ := F32.mono_l k
  refine ⟨?_, ?_⟩
  rotate_left
  ·intro y0 y1
   unfold F32.l0
   repeat' with_reducible first | exact b6 _ _ | exact fd _ _ | exact LeO.refl _ | exact LeO.none _ | refine LeO.ite ?_ ?_ | refine LeO.bind ?_ (fun _ => ?_)
  intro y0 y1
  unfold F32.j0
  repeat' with_reducible first | exact b6 _ _ | exact fd _ _ | exact LeO.refl _ | exact LeO.none _ | refine LeO.ite ?_ ?_ | refine LeO.bind ?_ (fun _ => ?_)
theorem F32.mono : ∀ a0 k, LeO (F32.f k a0) (F32.f (k + 1) a0) := by
 intro a0 k
 obtain ⟨b6, fd⟩ := F32.mono_l k
 unfold F32.f
 repeat' with_reducible first | exact b6 _ _ | exact fd _ _ | exact LeO.refl _ | exact LeO.none _ | refine LeO.ite ?_ ?_ | refine LeO.bind ?_ (fun _ => ?_)
theorem F32.calls (k : Nat) (a0 : ByteArray) (r : Bool) (w : World) (h : F32.f k a0 = some r) :
  Calls Tryd.prog 32 #[.string a0] w fun e w' => e = .returned (.bool r) ∧ Drawn0 w w' := by
 have H : (if (a0.size : Int) < 1 then (F32.j0 k a0 true) else (if (a0.size : Int) > 12 then (F32.j0 k a0 true) else (if 0 < (a0.size : Int) then (if (bt a0 0) < 65 then (F32.j0 k a0 true) else (F32.j0 k a0 (decide ((bt a0 0) > 90)))) else (none)))) = some r := h
 clear h
 have ie := am_ H
 clear H
 go_enter Tryd.func32, Tryd.ntmps32
 go_upto_region 1 with (fail)
 go_cut [22] (fun v22 wc => ∃ (kq : Nat) (Dj : Bool), v22 = .bool Dj ∧ Aside0 (F32.j0 kq a0 Dj = some r) ∧ Aside0 (kq ≤ k) ∧ Drawn0 w wc)
 case first =>
  have H := ie.out
  clear ie
  replace H := it_ H; rcases H with ⟨c3b0, H⟩ | ⟨c3b0, H⟩
  ·have c3b1 : decide (a0.size < 1) = true := n2_ c3b0
   (first | rw [c3b0] | (simp only [i64_w, i32_w]; rw [c3b0]) | skip)
   have H' := am_ H
   clear H
   go_wp2
   go_meet
   case rel => exact ⟨_, (true), er_, H', ⟨au4_7⟩, dn_⟩
  have c3b1 : decide (a0.size < 1) = false := n2_ c3b0
  (first | rw [c3b0] | (simp only [i64_w, i32_w]; rw [c3b0]) | skip)
  replace H := it_ H; rcases H with ⟨(c4b0 : decide (12 < (a0.size : Int)) = true), H⟩ | ⟨(c4b0 : decide (12 < (a0.size : Int)) = false), H⟩
  ·have c4b1 : decide (12 < a0.size) = true := n2_ c4b0
   have H' := am_ H
   clear H
   go_wp2
   go_meet
   case rel => exact ⟨_, (true), er_, H', ⟨au4_7⟩, dn_⟩
  have c4b1 : decide (12 < a0.size) = false := n2_ c4b0
  replace H := itn_ H; rcases H with ⟨c5b0, H⟩
  have c5b1 : decide (0 < a0.size) = true := n2_ c5b0
  replace H := it_ H; rcases H with ⟨c7b0, H⟩ | ⟨c7b0, H⟩
  ·have H' := am_ H
   clear H
   have p6 : 0 ≤ (0 : Int) := (by omega)
   have q6 : 0 < a0.size := (by have : (0 : Int) < (a0.size : Int) := od_; omega)
   have OA : ∀ h : 0 < a0.size, ((a0[0]'h).toNat : Int) = bt a0 0 := bt_at a0 0
   clear p6
   have qi6 : (0 < (a0.size : Int)) = True := eq_true (of_decide_eq_true as_)
   replace q6 := eq_true q6
   go_wp2
   go_meet
   case rel => exact ⟨_, (true), er_, H', ⟨au4_7⟩, dn_⟩
  have H' := am_ H
  clear H
  have p6 : 0 ≤ (0 : Int) := (by omega)
  have q6 : 0 < a0.size := (by have : (0 : Int) < (a0.size : Int) := od_; omega)
  have OA : ∀ h : 0 < a0.size, ((a0[0]'h).toNat : Int) = bt a0 0 := bt_at a0 0
  clear p6
  have qi6 : (0 < (a0.size : Int)) = True := eq_true (of_decide_eq_true as_)
  replace q6 := eq_true q6
  have p8 : 0 ≤ (0 : Int) := (by omega)
  have q8 : 0 < a0.size := (by have : (0 : Int) < (a0.size : Int) := od_; omega)
  have OB : ∀ h : 0 < a0.size, ((a0[0]'h).toNat : Int) = bt a0 0 := bt_at a0 0
  clear p8
  have ZF : (0 < (a0.size : Int)) = True := eq_true (of_decide_eq_true as_)
  replace q8 := eq_true q8
  go_wp2
  go_meet
  case rel => exact ⟨_, (decide ((bt a0 0) > 90)), er_, H', ⟨au4_7⟩, dn_⟩
 case rest =>
  clear ie
  try clear c3b0
  try clear c3b1
  try clear c4b0
  try clear c4b1
  try clear c5b0
  try clear c5b1
  try clear p6
  try clear q6
  try clear OA
  try clear qi6
  try clear c7b0
  try clear p8
  try clear q8
  try clear OB
  try clear ZF
  try clear p6
  try clear p8
  try clear q6
  try clear q8
  obtain ⟨kq, Dj, rfl, HA, HJ1, ⟨mc1, rfl⟩⟩ := hcut
  cases kq with
  | zero => exact absurd HA.out (by simp [F32.j0])
  | succ Ft =>
   have H := HA.out
   clear HA
   simp only [F32.j0] at H
   replace H := ib_ H; rcases H with ⟨rfl, H⟩ | ⟨rfl, H⟩
   ·obtain rfl := Option.some.inj H
    go_wp2
    go_ret
    exact ⟨er_, dn_⟩
   have H' := am_ H
   clear H
   go_wp2
   go_loopg [3] Ft (fun kq v3 w' => ∃ (aw : Int), v3 = .int .i64 aw ∧ Aside0 (F32.l0 kq a0 aw = some r) ∧ Aside0 (kq ≤ Ft) ∧ Drawn0 w w')
   case atStart => exact ⟨(0), er_, H', ⟨Nat.le_refl _⟩, dn_⟩
   case round =>
    clear H'
    try clear c3b0
    try clear c3b1
    try clear c4b0
    try clear c4b1
    try clear c5b0
    try clear c5b1
    try clear p6
    try clear q6
    try clear OA
    try clear qi6
    try clear c7b0
    try clear p8
    try clear q8
    try clear OB
    try clear ZF
    try clear p6
    try clear p8
    try clear q6
    try clear q8
    obtain ⟨aw, rfl, HA, HK2, ⟨m2, rfl⟩⟩ := hrel
    cases gk with
    | zero => exact absurd HA.out (by simp [F32.l0])
    | succ k2 =>
     have H := HA.out
     clear HA
     simp only [F32.l0] at H
     replace H := it_ H; rcases H with ⟨c10b0, H⟩ | ⟨c10b0, H⟩
     rotate_left
     ·obtain rfl := Option.some.inj H
      go_wp2
      go_ret
      exact ⟨er_, dn_⟩

     replace H := itn_ H; rcases H with ⟨c11b0, H⟩
     replace H := it_ H; rcases H with ⟨(c13b0 : decide (65 ≤ (bt a0 aw)) = true), H⟩ | ⟨(c13b0 : decide (65 ≤ (bt a0 aw)) = false), H⟩
     rotate_left
     ·replace H := it_ H; rcases H with ⟨(c19b0 : decide (48 ≤ (bt a0 aw)) = true), H⟩ | ⟨(c19b0 : decide (48 ≤ (bt a0 aw)) = false), H⟩
      rotate_left
      ·by_cases MC : ((bt a0 aw) = 45)
       rotate_left
       ·rw [if_neg MC] at H
        have c22b0 : ((bt a0 aw) == 45) = false := beq_eq_false_iff_ne.mpr MC
        have c22b1 : ((bt a0 aw) != 45) = true := bne_iff_ne.mpr MC
        obtain rfl := Option.some.inj H
        have iA : 0 ≤ (aw : Int) := od_
        have il : aw < (a0.size : Int) := od_
        have lG := bt_at a0 aw
        replace iA := eq_true iA
        replace il := eq_true il
        go_wp2
        go_ret
        exact ⟨er_, dn_⟩
       rw [if_pos MC] at H
       have c22b0 : ((bt a0 aw) == 45) = true := beq_iff_eq.mpr MC
       have c22b1 : ((bt a0 aw) != 45) = false := bne_eq_false_iff_eq.mpr MC
       clear MC
       have H' := am_ H
       clear H
       have iA : 0 ≤ (aw : Int) := od_
       have il : aw < (a0.size : Int) := od_
       have lG := bt_at a0 aw
       replace iA := eq_true iA
       replace il := eq_true il
       go_wp2
       go_roundg k2
       case measure => have := HJ1.out; have := HK2.out; omega
       case rel => exact ⟨(wrap64 (aw + 1)), er_, H', ⟨om_⟩, dn_⟩
      replace H := it_ H; rcases H with ⟨c20b0, H⟩ | ⟨c20b0, H⟩
      ·have H' := am_ H
       clear H
       have iA : 0 ≤ (aw : Int) := od_
       have il : aw < (a0.size : Int) := od_
       have lG := bt_at a0 aw
       replace iA := eq_true iA
       replace il := eq_true il
       go_wp2
       go_roundg k2
       case measure => have := HJ1.out; have := HK2.out; omega
       case rel => exact ⟨(wrap64 (aw + 1)), er_, H', ⟨om_⟩, dn_⟩
      by_cases lu : ((bt a0 aw) = 45)
      rotate_left
      ·rw [if_neg lu] at H
       have c21b0 : ((bt a0 aw) == 45) = false := beq_eq_false_iff_ne.mpr lu
       have c21b1 : ((bt a0 aw) != 45) = true := bne_iff_ne.mpr lu
       obtain rfl := Option.some.inj H
       have iA : 0 ≤ (aw : Int) := od_
       have il : aw < (a0.size : Int) := od_
       have lG := bt_at a0 aw
       replace iA := eq_true iA
       replace il := eq_true il
       go_wp2
       go_ret
       exact ⟨er_, dn_⟩
      rw [if_pos lu] at H
      have c21b0 : ((bt a0 aw) == 45) = true := beq_iff_eq.mpr lu
      have c21b1 : ((bt a0 aw) != 45) = false := bne_eq_false_iff_eq.mpr lu
      clear lu
      have H' := am_ H
      clear H
      have iA : 0 ≤ (aw : Int) := od_
      have il : aw < (a0.size : Int) := od_
      have lG := bt_at a0 aw
      replace iA := eq_true iA
      replace il := eq_true il
      go_wp2
      go_roundg k2
      case measure => have := HJ1.out; have := HK2.out; omega
      case rel => exact ⟨(wrap64 (aw + 1)), er_, H', ⟨om_⟩, dn_⟩
     replace H := it_ H; rcases H with ⟨c14b0, H⟩ | ⟨c14b0, H⟩
     ·have H' := am_ H
      clear H
      have iA : 0 ≤ (aw : Int) := od_
      have il : aw < (a0.size : Int) := od_
      have lG := bt_at a0 aw
      replace iA := eq_true iA
      replace il := eq_true il
      go_wp2
      go_roundg k2
      case measure => have := HJ1.out; have := HK2.out; omega
      case rel => exact ⟨(wrap64 (aw + 1)), er_, H', ⟨om_⟩, dn_⟩
     replace H := it_ H; rcases H with ⟨(c15b0 : decide (48 ≤ (bt a0 aw)) = true), H⟩ | ⟨(c15b0 : decide (48 ≤ (bt a0 aw)) = false), H⟩
     rotate_left
     ·by_cases uX : ((bt a0 aw) = 45)
      rotate_left
      ·rw [if_neg uX] at H
       have c18b0 : ((bt a0 aw) == 45) = false := beq_eq_false_iff_ne.mpr uX
       have c18b1 : ((bt a0 aw) != 45) = true := bne_iff_ne.mpr uX
       obtain rfl := Option.some.inj H
       have iA : 0 ≤ (aw : Int) := od_
       have il : aw < (a0.size : Int) := od_
       have lG := bt_at a0 aw
       replace iA := eq_true iA
       replace il := eq_true il
       go_wp2
       go_ret
       exact ⟨er_, dn_⟩
      rw [if_pos uX] at H
      have c18b0 : ((bt a0 aw) == 45) = true := beq_iff_eq.mpr uX
      have c18b1 : ((bt a0 aw) != 45) = false := bne_eq_false_iff_eq.mpr uX
      clear uX
      have H' := am_ H
      clear H
      have iA : 0 ≤ (aw : Int) := od_
      have il : aw < (a0.size : Int) := od_
      have lG := bt_at a0 aw
      replace iA := eq_true iA
      replace il := eq_true il
      go_wp2
      go_roundg k2
      case measure => have := HJ1.out; have := HK2.out; omega
      case rel => exact ⟨(wrap64 (aw + 1)), er_, H', ⟨om_⟩, dn_⟩
     replace H := it_ H; rcases H with ⟨c16b0, H⟩ | ⟨c16b0, H⟩
     ·have H' := am_ H
      clear H
      have iA : 0 ≤ (aw : Int) := od_
      have il : aw < (a0.size : Int) := od_
      have lG := bt_at a0 aw
      replace iA := eq_true iA
      replace il := eq_true il
      go_wp2
      go_roundg k2
      case measure => have := HJ1.out; have := HK2.out; omega
      case rel => exact ⟨(wrap64 (aw + 1)), er_, H', ⟨om_⟩, dn_⟩
     by_cases MD : ((bt a0 aw) = 45)
     rotate_left
     ·rw [if_neg MD] at H
      have c17b0 : ((bt a0 aw) == 45) = false := beq_eq_false_iff_ne.mpr MD
      have c17b1 : ((bt a0 aw) != 45) = true := bne_iff_ne.mpr MD
      obtain rfl := Option.some.inj H
      have iA : 0 ≤ (aw : Int) := od_
      have il : aw < (a0.size : Int) := od_
      have lG := bt_at a0 aw
      replace iA := eq_true iA
      replace il := eq_true il
      go_wp2
      go_ret
      exact ⟨er_, dn_⟩
     rw [if_pos MD] at H
     have c17b0 : ((bt a0 aw) == 45) = true := beq_iff_eq.mpr MD
     have c17b1 : ((bt a0 aw) != 45) = false := bne_eq_false_iff_eq.mpr MD
     clear MD
     have H' := am_ H
     clear H
     have iA : 0 ≤ (aw : Int) := od_
     have il : aw < (a0.size : Int) := od_
     have lG := bt_at a0 aw
     replace iA := eq_true iA
     replace il := eq_true il
     go_wp2
     go_roundg k2
     case measure => have := HJ1.out; have := HK2.out; omega
     case rel => exact ⟨(wrap64 (aw + 1)), er_, H', ⟨om_⟩, dn_⟩
/-! ### F33: function 33 -/
def F33.f (a0 : Int) : Option (Bool) := if a0 ≥ 1 then (some (decide (a0 ≤ 999999))) else (some false)
theorem F33.calls (a0 : Int) (r : Bool) (w : World) (h : F33.f a0 = some r) :
  Calls Tryd.prog 33 #[.int .i64 a0] w fun e w' => e = .returned (.bool r) ∧ Drawn0 w w' := by
 have H : (if a0 ≥ 1 then (some (decide (a0 ≤ 999999))) else (some false)) = some r := h
 clear h
 replace H := it_ H; rcases H with ⟨(c2b0 : decide (1 ≤ a0) = true), H⟩ | ⟨(c2b0 : decide (1 ≤ a0) = false), H⟩
 ·obtain rfl := Option.some.inj H
  go_enter Tryd.func33, Tryd.ntmps33
  go_wp2
  go_ret
  exact ⟨er_, dn_⟩
 obtain rfl := Option.some.inj H
 go_enter Tryd.func33, Tryd.ntmps33
 go_wp2
 go_ret
 exact ⟨er_, dn_⟩

/-! ### F21: function 21 -/
mutual
def F21.j0 : Nat → Bool → ByteArray → ByteArray → Int → List (S83) → Option (Bool)
  | 0, _, _, _, _, _ => none
  | k + 1, x35, cG, cH, cI, bc => if x35 = true then (some false) else (F21.l0 k 0 cG cH cI bc)
def F21.l0 : Nat → Int → ByteArray → ByteArray → Int → List (S83) → Option (Bool)
  | 0, _, _, _, _, _ => none
  | k + 1, x3, cG, cH, cI, bc => if x3 < (bc.length : Int) then (if 0 ≤ x3 then (if ((rd_T83 bc x3).f0) < 1 then (F21.j2 k x3 true cG cH cI bc ((rd_T83 bc x3).f0) ((rd_T83 bc x3).f1) ((rd_T83 bc x3).f2)) else (if ((rd_T83 bc x3).f0) > 7 then (F21.j2 k x3 true cG cH cI bc ((rd_T83 bc x3).f0) ((rd_T83 bc x3).f1) ((rd_T83 bc x3).f2)) else ((F33.f ((rd_T83 bc x3).f1)).bind fun gj => (if gj = true then (if (((rd_T83 bc x3).f2).length : Int) < 1 then (F21.j2 k x3 true cG cH cI bc ((rd_T83 bc x3).f0) ((rd_T83 bc x3).f1) ((rd_T83 bc x3).f2)) else (F21.j2 k x3 (decide ((((rd_T83 bc x3).f2).length : Int) > 10)) cG cH cI bc ((rd_T83 bc x3).f0) ((rd_T83 bc x3).f1) ((rd_T83 bc x3).f2))) else (F21.j2 k x3 true cG cH cI bc ((rd_T83 bc x3).f0) ((rd_T83 bc x3).f1) ((rd_T83 bc x3).f2)))))) else (none)) else (some true)
def F21.j2 : Nat → Int → Bool → ByteArray → ByteArray → Int → List (S83) → Int → Int → List (S85) → Option (Bool)
  | 0, _, _, _, _, _, _, _, _, _ => none
  | k + 1, x3, x73, cG, cH, cI, bc, g7, g8, dl => if x73 = true then (some false) else (F21.l1 k x3 0 cG cH cI bc g7 g8 dl)
def F21.l1 : Nat → Int → Int → ByteArray → ByteArray → Int → List (S83) → Int → Int → List (S85) → Option (Bool)
  | 0, _, _, _, _, _, _, _, _, _ => none
  | k + 1, x3, x5, cG, cH, cI, bc, g7, g8, dl => if x5 < (dl.length : Int) then (if 0 ≤ x5 then ((F33.f ((rd_T85 dl x5).f0)).bind fun tJ => (if tJ = true then (F21.j4 k x3 x5 (decide ((((rd_T85 dl x5).f1).length : Int) > 40)) cG cH cI bc g7 g8 dl ((rd_T85 dl x5).f0) ((rd_T85 dl x5).f1)) else (F21.j4 k x3 x5 true cG cH cI bc g7 g8 dl ((rd_T85 dl x5).f0) ((rd_T85 dl x5).f1)))) else (none)) else (F21.l0 k (wrap64 (x3 + 1)) cG cH cI bc)
def F21.j4 : Nat → Int → Int → Bool → ByteArray → ByteArray → Int → List (S83) → Int → Int → List (S85) → Int → List (S52) → Option (Bool)
  | 0, _, _, _, _, _, _, _, _, _, _, _, _ => none
  | k + 1, x3, x5, x95, cG, cH, cI, bc, g7, g8, dl, sd, jQ => if x95 = true then (some false) else (F21.l2 k x3 x5 0 cG cH cI bc g7 g8 dl sd jQ)
def F21.l2 : Nat → Int → Int → Int → ByteArray → ByteArray → Int → List (S83) → Int → Int → List (S85) → Int → List (S52) → Option (Bool)
  | 0, _, _, _, _, _, _, _, _, _, _, _, _ => none
  | k + 1, x3, x5, x7, cG, cH, cI, bc, g7, g8, dl, sd, jQ => if x7 < (jQ.length : Int) then (if 0 ≤ x7 then ((F46.f k ((rd_T52 jQ x7).f0) ((rd_T52 jQ x7).f1)).bind fun CN => (if CN = true then ((F47.f ((rd_T52 jQ x7).f0)).bind fun CO => (if CO = true then (some false) else (F21.l2 k x3 x5 (wrap64 (x7 + 1)) cG cH cI bc g7 g8 dl sd jQ))) else (some false))) else (none)) else (F21.l1 k x3 (wrap64 (x5 + 1)) cG cH cI bc g7 g8 dl)
end
def F21.f (k : Nat) (ao : ByteArray) (bD : ByteArray) (bJ : Int) (ar : List (S83)) : Option (Bool) := (F32.f k ao).bind fun uH => (if uH = true then ((F32.f k bD).bind fun fC => (if fC = true then ((F33.f bJ).bind fun tI => (if tI = true then (if (ar.length : Int) < 1 then (F21.j0 k true ao bD bJ ar) else (F21.j0 k (decide ((ar.length : Int) > 5)) ao bD bJ ar)) else (F21.j0 k true ao bD bJ ar))) else (F21.j0 k true ao bD bJ ar))) else (F21.j0 k true ao bD bJ ar))
theorem F21.mono_l : ∀ k, (∀ y0 y1 y2 y3 y4, LeO (F21.j0 k y0 y1 y2 y3 y4) (F21.j0 (k + 1) y0 y1 y2 y3 y4)) ∧ (∀ y0 y1 y2 y3 y4, LeO (F21.l0 k y0 y1 y2 y3 y4) (F21.l0 (k + 1) y0 y1 y2 y3 y4)) ∧ (∀ y0 y1 y2 y3 y4 y5 y6 y7 y8, LeO (F21.j2 k y0 y1 y2 y3 y4 y5 y6 y7 y8) (F21.j2 (k + 1) y0 y1 y2 y3 y4 y5 y6 y7 y8)) ∧ (∀ y0 y1 y2 y3 y4 y5 y6 y7 y8, LeO (F21.l1 k y0 y1 y2 y3 y4 y5 y6 y7 y8) (F21.l1 (k + 1) y0 y1 y2 y3 y4 y5 y6 y7 y8)) ∧ (∀ y0 y1 y2 y3 y4 y5 y6 y7 y8 y9 lD pF, LeO (F21.j4 k y0 y1 y2 y3 y4 y5 y6 y7 y8 y9 lD pF) (F21.j4 (k + 1) y0 y1 y2 y3 y4 y5 y6 y7 y8 y9 lD pF)) ∧ (∀ y0 y1 y2 y3 y4 y5 y6 y7 y8 y9 lD pF, LeO (F21.l2 k y0 y1 y2 y3 y4 y5 y6 y7 y8 y9 lD pF) (F21.l2 (k + 1) y0 y1 y2 y3 y4 y5 y6 y7 y8 y9 lD pF))
 | 0 => ⟨fun _ _ _ _ _ r h => by simp [F21.j0] at h, fun _ _ _ _ _ r h => by simp [F21.l0] at h, fun _ _ _ _ _ _ _ _ _ r h => by simp [F21.j2] at h, fun _ _ _ _ _ _ _ _ _ r h => by simp [F21.l1] at h, fun _ _ _ _ _ _ _ _ _ _ _ _ r h => by simp [F21.j4] at h, fun _ _ _ _ _ _ _ _ _ _ _ _ r h => by simp [F21.l2] at h⟩
 | k + 1 => by
  obtain ⟨b6, fd, gI, ke, uq, JX⟩ := F21.mono_l k
  refine ⟨?_, ?_, ?_, ?_, ?_, ?_⟩
  rotate_left
  ·intro y0 y1 y2 y3 y4
   unfold F21.l0
   repeat' with_reducible first | exact b6 _ _ _ _ _ | exact fd _ _ _ _ _ | exact gI _ _ _ _ _ _ _ _ _ | exact ke _ _ _ _ _ _ _ _ _ | exact uq _ _ _ _ _ _ _ _ _ _ _ _ | exact JX _ _ _ _ _ _ _ _ _ _ _ _ | exact F46.mono _ _ _ | exact F32.mono _ _ | exact LeO.refl _ | exact LeO.none _ | refine LeO.ite ?_ ?_ | refine LeO.bind ?_ (fun _ => ?_)
  ·intro y0 y1 y2 y3 y4 y5 y6 y7 y8
   unfold F21.j2
   repeat' with_reducible first | exact b6 _ _ _ _ _ | exact fd _ _ _ _ _ | exact gI _ _ _ _ _ _ _ _ _ | exact ke _ _ _ _ _ _ _ _ _ | exact uq _ _ _ _ _ _ _ _ _ _ _ _ | exact JX _ _ _ _ _ _ _ _ _ _ _ _ | exact F46.mono _ _ _ | exact F32.mono _ _ | exact LeO.refl _ | exact LeO.none _ | refine LeO.ite ?_ ?_ | refine LeO.bind ?_ (fun _ => ?_)
  ·intro y0 y1 y2 y3 y4 y5 y6 y7 y8
   unfold F21.l1
   repeat' with_reducible first | exact b6 _ _ _ _ _ | exact fd _ _ _ _ _ | exact gI _ _ _ _ _ _ _ _ _ | exact ke _ _ _ _ _ _ _ _ _ | exact uq _ _ _ _ _ _ _ _ _ _ _ _ | exact JX _ _ _ _ _ _ _ _ _ _ _ _ | exact F46.mono _ _ _ | exact F32.mono _ _ | exact LeO.refl _ | exact LeO.none _ | refine LeO.ite ?_ ?_ | refine LeO.bind ?_ (fun _ => ?_)
  ·intro y0 y1 y2 y3 y4 y5 y6 y7 y8 y9 lD pF
   unfold F21.j4
   repeat' with_reducible first | exact b6 _ _ _ _ _ | exact fd _ _ _ _ _ | exact gI _ _ _ _ _ _ _ _ _ | exact ke _ _ _ _ _ _ _ _ _ | exact uq _ _ _ _ _ _ _ _ _ _ _ _ | exact JX _ _ _ _ _ _ _ _ _ _ _ _ | exact F46.mono _ _ _ | exact F32.mono _ _ | exact LeO.refl _ | exact LeO.none _ | refine LeO.ite ?_ ?_ | refine LeO.bind ?_ (fun _ => ?_)
  ·intro y0 y1 y2 y3 y4 y5 y6 y7 y8 y9 lD pF
   unfold F21.l2
   repeat' with_reducible first | exact b6 _ _ _ _ _ | exact fd _ _ _ _ _ | exact gI _ _ _ _ _ _ _ _ _ | exact ke _ _ _ _ _ _ _ _ _ | exact uq _ _ _ _ _ _ _ _ _ _ _ _ | exact JX _ _ _ _ _ _ _ _ _ _ _ _ | exact F46.mono _ _ _ | exact F32.mono _ _ | exact LeO.refl _ | exact LeO.none _ | refine LeO.ite ?_ ?_ | refine LeO.bind ?_ (fun _ => ?_)
  intro y0 y1 y2 y3 y4
  unfold F21.j0
  repeat' with_reducible first | exact b6 _ _ _ _ _ | exact fd _ _ _ _ _ | exact gI _ _ _ _ _ _ _ _ _ | exact ke _ _ _ _ _ _ _ _ _ | exact uq _ _ _ _ _ _ _ _ _ _ _ _ | exact JX _ _ _ _ _ _ _ _ _ _ _ _ | exact F46.mono _ _ _ | exact F32.mono _ _ | exact LeO.refl _ | exact LeO.none _ | refine LeO.ite ?_ ?_ | refine LeO.bind ?_ (fun _ => ?_)
theorem F21.mono : ∀ a0 a1 a2 a3 k, LeO (F21.f k a0 a1 a2 a3) (F21.f (k + 1) a0 a1 a2 a3) := by
 intro a0 a1 a2 a3 k
 obtain ⟨b6, fd, gI, ke, uq, JX⟩ := F21.mono_l k
 unfold F21.f
 repeat' with_reducible first | exact b6 _ _ _ _ _ | exact fd _ _ _ _ _ | exact gI _ _ _ _ _ _ _ _ _ | exact ke _ _ _ _ _ _ _ _ _ | exact uq _ _ _ _ _ _ _ _ _ _ _ _ | exact JX _ _ _ _ _ _ _ _ _ _ _ _ | exact F46.mono _ _ _ | exact F32.mono _ _ | exact LeO.refl _ | exact LeO.none _ | refine LeO.ite ?_ ?_ | refine LeO.bind ?_ (fun _ => ?_)
theorem F21.calls (k : Nat) (ao : ByteArray) (bD : ByteArray) (bJ : Int) (ls : Option Addr) (g9 : Nat) (ar : List (S83)) (r : Bool) (w : World) (oo : Kd.C k83 w ls ar.length ar) (oq : ar.length ≤ g9) (h : F21.f k ao bD bJ ar = some r) :
  Calls Tryd.prog 21 #[.agg #[.string ao, .string bD, .int .i64 bJ, .slice ls ar.length g9]] w fun e w' => e = .returned (.bool r) ∧ Below w.heap.size w w' := by
 have tH := Tryd.underlying29
 have Aa := Tryd.underlying83
 have GL := Tryd.underlying85
 have jn := Tryd.underlying52
 have tQ := am_ oo
 have tR := am_ oq
 clear oo oq
 have HB := am_ (Below.refl w.heap.size w)
 have H : ((F32.f k ao).bind fun uH => (if uH = true then ((F32.f k bD).bind fun fC => (if fC = true then ((F33.f bJ).bind fun tI => (if tI = true then (if (ar.length : Int) < 1 then (F21.j0 k true ao bD bJ ar) else (F21.j0 k (decide ((ar.length : Int) > 5)) ao bD bJ ar)) else (F21.j0 k true ao bD bJ ar))) else (F21.j0 k true ao bD bJ ar))) else (F21.j0 k true ao bD bJ ar))) = some r := h
 clear h
 have ie := am_ H
 clear H
 go_enter Tryd.func21, Tryd.ntmps21
 go_upto_region 1 with (first | ((with_reducible refine gate_dst (N := 1) rfl ?_); (try (refine gate_guard (by rfl) ?_; dsimp only)); refine be_ 1 #[.string ao, .string bD, .int .i64 bJ, .slice ls ar.length g9] 29 ?_; intro qW hg w3 hbox hb; have bS := am_ (hbox); have Vm := am_ (gw_ hg bl_); have b0z := Vm; replace HB := hs_ w hb; clear hb hbox hg))
 (try simp only [Act.put, List.setIfInBounds_toArray, List.set_cons_zero, List.set_cons_succ])
 go_cut [35] (fun v35 wc => ∃ (kq : Nat) (Dk : Bool), v35 = .bool Dk ∧ Aside0 (F21.j0 kq Dk ao bD bJ ar = some r) ∧ Aside0 (kq ≤ k) ∧ Aside0 (wc.heap[qW]? = some (.cells #[.string ao, .string bD, .int .i64 bJ, (.slice ls ar.length g9)] 29 (0, 0))) ∧ Aside0 (Below w.heap.size w wc))
 case first =>
  have H := ie.out
  clear ie
  replace H := bi_ H; rcases H with ⟨uH, A4, H⟩
  replace H := ib_ H; rcases H with ⟨rfl, H⟩ | ⟨rfl, H⟩
  rotate_left
  ·have H' := am_ H
   clear H
   obtain ⟨eT, fZ, hD, hJ, eU, f4, hU, hX⟩ := cellsF4 bS.out
   go_wp2_with (first | (go_at_call 32; (with_reducible refine (F32.calls k ao false _ A4.out).mono ?_); rintro e w' ⟨rfl, ⟨nd, rfl⟩⟩; (try clear A4)))
   go_meet
   case rel => exact ⟨_, (true), er_, H', ⟨au4_7⟩, ⟨bk_ bS⟩, ⟨bl_⟩⟩
  replace H := bi_ H; rcases H with ⟨fC, A6, H⟩
  replace H := ib_ H; rcases H with ⟨rfl, H⟩ | ⟨rfl, H⟩
  rotate_left
  ·have H' := am_ H
   clear H
   obtain ⟨iS, iT, jM, jN, iU, iV, jO, jP⟩ := cellsF4 bS.out
   go_wp2_with (first | (go_at_call 32; (with_reducible refine (F32.calls k ao true _ A4.out).mono ?_); rintro e w' ⟨rfl, ⟨nd, rfl⟩⟩; (try clear A4)) | (go_at_call 32; (with_reducible refine (F32.calls k bD false _ A6.out).mono ?_); rintro e w' ⟨rfl, ⟨nd, rfl⟩⟩; (try clear A6)))
   go_meet
   case rel => exact ⟨_, (true), er_, H', ⟨au4_7⟩, ⟨bk_ bS⟩, ⟨bl_⟩⟩
  replace H := bi_ H; rcases H with ⟨tI, A8, H⟩
  replace H := ib_ H; rcases H with ⟨rfl, H⟩ | ⟨rfl, H⟩
  rotate_left
  ·have H' := am_ H
   clear H
   obtain ⟨fQ, fR, fS, fT, iF, fU, fV, fW⟩ := cellsF4 bS.out
   go_wp2_with (first | (go_at_call 32; (with_reducible refine (F32.calls k ao true _ A4.out).mono ?_); rintro e w' ⟨rfl, ⟨nd, rfl⟩⟩; (try clear A4)) | (go_at_call 32; (with_reducible refine (F32.calls k bD true _ A6.out).mono ?_); rintro e w' ⟨rfl, ⟨nd, rfl⟩⟩; (try clear A6)) | (go_at_call 33; (with_reducible refine (F33.calls bJ false _ A8.out).mono ?_); rintro e w' ⟨rfl, ⟨nd, rfl⟩⟩; (try clear A8)))
   go_meet
   case rel => exact ⟨_, (true), er_, H', ⟨au4_7⟩, ⟨bk_ bS⟩, ⟨bl_⟩⟩
  replace H := it_ H; rcases H with ⟨c10b0, H⟩ | ⟨c10b0, H⟩
  rotate_left
  ·have c10b1 : decide (ar.length < 1) = false := n2_ c10b0
   (first | rw [c10b0] | (simp only [i64_w, i32_w]; rw [c10b0]) | skip)
   have H' := am_ H
   clear H
   obtain ⟨cQ, cR, dR, dS, cS, cT, dT, dU⟩ := cellsF4 bS.out
   go_wp2_with (first | (go_at_call 32; (with_reducible refine (F32.calls k ao true _ A4.out).mono ?_); rintro e w' ⟨rfl, ⟨nd, rfl⟩⟩; (try clear A4)) | (go_at_call 32; (with_reducible refine (F32.calls k bD true _ A6.out).mono ?_); rintro e w' ⟨rfl, ⟨nd, rfl⟩⟩; (try clear A6)) | (go_at_call 33; (with_reducible refine (F33.calls bJ true _ A8.out).mono ?_); rintro e w' ⟨rfl, ⟨nd, rfl⟩⟩; (try clear A8)))
   go_meet
   case rel => exact ⟨_, (decide ((ar.length : Int) > 5)), er_, H', ⟨au4_7⟩, ⟨bk_ bS⟩, ⟨bl_⟩⟩
  have c10b1 : decide (ar.length < 1) = true := n2_ c10b0
  (first | rw [c10b0] | (simp only [i64_w, i32_w]; rw [c10b0]) | skip)
  have H' := am_ H
  clear H
  obtain ⟨fe, ff, fg, fh, f6, fi, fj, fk⟩ := cellsF4 bS.out
  go_wp2_with (first | (go_at_call 32; (with_reducible refine (F32.calls k ao true _ A4.out).mono ?_); rintro e w' ⟨rfl, ⟨nd, rfl⟩⟩; (try clear A4)) | (go_at_call 32; (with_reducible refine (F32.calls k bD true _ A6.out).mono ?_); rintro e w' ⟨rfl, ⟨nd, rfl⟩⟩; (try clear A6)) | (go_at_call 33; (with_reducible refine (F33.calls bJ true _ A8.out).mono ?_); rintro e w' ⟨rfl, ⟨nd, rfl⟩⟩; (try clear A8)))
  go_meet
  case rel => exact ⟨_, (true), er_, H', ⟨au4_7⟩, ⟨bk_ bS⟩, ⟨bl_⟩⟩
 case rest =>
  clear ie
  try clear c10b0
  try clear c10b1
  try clear fe ff fg fh
  try clear cQ cR dR dS
  try clear fQ fR fS fT
  try clear iS iT jM jN
  try clear eT fZ hD hJ
  try clear f6 fi fj fk
  try clear cS cT dT dU
  try clear iF fU fV fW
  try clear iU iV jO jP
  try clear eU f4 hU hX
  obtain ⟨kq, Dk, rfl, HA, HJ1, bS, HB⟩ := hcut
  cases kq with
  | zero => exact absurd HA.out (by simp [F21.j0])
  | succ Ft =>
   have H := HA.out
   clear HA
   simp only [F21.j0] at H
   replace H := ib_ H; rcases H with ⟨rfl, H⟩ | ⟨rfl, H⟩
   ·obtain rfl := Option.some.inj H
    go_wp2
    go_ret
    exact ⟨au4_0, bl_⟩
   have H' := am_ H
   clear H
   go_wp2
   go_loopg [3] Ft (fun kq v3 w' => ∃ (aw : Int), v3 = .int .i64 aw ∧ Aside0 (F21.l0 kq aw ao bD bJ ar = some r) ∧ Aside0 (kq ≤ Ft) ∧ Aside0 (w'.heap[qW]? = some (.cells #[.string ao, .string bD, .int .i64 bJ, (.slice ls ar.length g9)] 29 (0, 0))) ∧ Aside0 (Below w.heap.size w w'))
   case atStart => exact ⟨(0), er_, H', ⟨Nat.le_refl _⟩, ⟨bk_ bS⟩, ⟨bl_⟩⟩
   case round =>
    clear H'
    try clear c10b0
    try clear c10b1
    try clear fe ff fg fh
    try clear cQ cR dR dS
    try clear fQ fR fS fT
    try clear iS iT jM jN
    try clear eT fZ hD hJ
    try clear f6 fi fj fk
    try clear cS cT dT dU
    try clear iF fU fV fW
    try clear iU iV jO jP
    try clear eU f4 hU hX
    obtain ⟨aw, rfl, HA, HK2, bS, HB⟩ := hrel
    cases gk with
    | zero => exact absurd HA.out (by simp [F21.l0])
    | succ k2 =>
     have H := HA.out
     clear HA
     simp only [F21.l0] at H
     replace H := it_ H; rcases H with ⟨c17b0, H⟩ | ⟨c17b0, H⟩
     rotate_left
     ·obtain rfl := Option.some.inj H
      obtain ⟨rL, ZG, ZH, ZI, rN, ZJ, ZK, ZL⟩ := cellsF4 bS.out
      go_wp2
      go_ret
      exact ⟨au4_0, bl_⟩

     replace H := itn_ H; rcases H with ⟨c18b0, H⟩
     have ME := am_ H
     clear H
     obtain ⟨lc, o1, o2, o3, ld, o4, o5, o6⟩ := cellsF4 bS.out
     have uY : 0 ≤ (aw : Int) := od_
     have uZ : aw < (ar.length : Int) := od_
     obtain ⟨yp, Dl, se, a5Y, jR, jS, jT, yq, yr⟩ := at_T83 tQ.out aw uY uZ
     cases a5Y
     replace jR := (HB.out.cell (World.block_lt_of_cell? _ _ jR)).trans jR
     replace jS := (HB.out.cell (World.block_lt_of_cell? _ _ jS)).trans jS
     replace jT := (HB.out.cell (World.block_lt_of_cell? _ _ jT)).trans jT
     have Hm := am_ yr
     have ZM := am_ yq
     clear yr yq
     replace uY := eq_true uY
     replace uZ := eq_true uZ
     go_upto_region 7 with (first | ((with_reducible refine gate_dst (N := 4) rfl ?_); (try (refine gate_guard (by rfl) ?_; dsimp only)); refine be_ 4 #[.int .i64 0, .int .i64 0, .slice none 0 0] 83 ?_; intro yt hg Zf hbox hb; have cv := am_ (hbox); have Vn := am_ (gw_ hg bl_); have b0A := Vn; replace HB := hs_ w hb; have e9 := am_ (gn_ hg (blkl_ bS)); have fa := am_ (gm_ hg (blkl_ bS)); replace bS := bb_ bS hb; clear hb hbox hg; have JY := fa.out; have JZ := e9.out; obtain ⟨lf, my, mz, lg, mA, mB⟩ := cellsF3 cv.out))
     (try simp only [Act.put, List.setIfInBounds_toArray, List.set_cons_zero, List.set_cons_succ])
     go_cut [73] (fun v73 wc => ∃ (kq : Nat) (u0 : Bool), v73 = .bool u0 ∧ Aside0 (F21.j2 kq aw u0 ao bD bJ ar ((rd_T83 ar aw).f0) ((rd_T83 ar aw).f1) ((rd_T83 ar aw).f2) = some r) ∧ Aside0 (kq ≤ k2) ∧ Aside0 (wc.heap[qW]? = some (.cells #[.string ao, .string bD, .int .i64 bJ, (.slice (some yp) ar.length g9)] 29 (0, 0))) ∧ Aside0 (wc.heap[yt]? = some (.cells #[.int .i64 ((rd_T83 ar aw).f0), .int .i64 ((rd_T83 ar aw).f1), (.slice Dl ((rd_T83 ar aw).f2).length se)] 83 (0, 0))) ∧ Aside0 (Below w.heap.size w wc))
     case first =>
      have H := ME.out
      clear ME
      replace H := it_ H; rcases H with ⟨c24b0, H⟩ | ⟨c24b0, H⟩
      ·(first | rw [c24b0] | (simp only [i64_w, i32_w]; rw [c24b0]) | skip)
       have H' := am_ H
       clear H
       have CP := fa.out
       have CQ := e9.out
       obtain ⟨iH, jH, jI, la, jJ, jK⟩ := cellsF3 cv.out
       go_wp2
       go_meet
       case rel => exact ⟨_, (true), er_, H', ⟨au4_8⟩, ⟨bf_ bS⟩, ⟨bq_ cv⟩, ⟨bl_⟩⟩
      (first | rw [c24b0] | (simp only [i64_w, i32_w]; rw [c24b0]) | skip)
      replace H := it_ H; rcases H with ⟨(c27b0 : decide (7 < ((rd_T83 ar aw).f0)) = true), H⟩ | ⟨(c27b0 : decide (7 < ((rd_T83 ar aw).f0)) = false), H⟩
      ·have H' := am_ H
       clear H
       have Dm := fa.out
       have Dn := e9.out
       obtain ⟨lh, mC, o7, ll, mD, o8⟩ := cellsF3 cv.out
       go_wp2
       go_meet
       case rel => exact ⟨_, (true), er_, H', ⟨au4_8⟩, ⟨bf_ bS⟩, ⟨bq_ cv⟩, ⟨bl_⟩⟩
      replace H := bi_ H; rcases H with ⟨gj, GP, H⟩
      replace H := ib_ H; rcases H with ⟨rfl, H⟩ | ⟨rfl, H⟩
      rotate_left
      ·have H' := am_ H
       clear H
       have b0B := fa.out
       have b0C := e9.out
       obtain ⟨o9, pa, pb, pc, pd, pe⟩ := cellsF3 cv.out
       go_wp2_with (first | (go_at_call 33; (with_reducible refine (F33.calls ((rd_T83 ar aw).f1) false _ GP.out).mono ?_); rintro e w' ⟨rfl, ⟨nd, rfl⟩⟩; (try clear GP)))
       go_meet
       case rel => exact ⟨_, (true), er_, H', ⟨au4_8⟩, ⟨bf_ bS⟩, ⟨bq_ cv⟩, ⟨bl_⟩⟩
      replace H := it_ H; rcases H with ⟨c32b0, H⟩ | ⟨c32b0, H⟩
      rotate_left
      ·have c32b1 : decide (((rd_T83 ar aw).f2).length < 1) = false := n2_ c32b0
       have H' := am_ H
       clear H
       have Jt := fa.out
       have Ju := e9.out
       obtain ⟨gJ, gK, kN, jU, gL, kO⟩ := cellsF3 cv.out
       go_wp2_with (first | (go_at_call 33; (with_reducible refine (F33.calls ((rd_T83 ar aw).f1) true _ GP.out).mono ?_); rintro e w' ⟨rfl, ⟨nd, rfl⟩⟩; (try clear GP)))
       go_meet
       case rel => exact ⟨_, (decide ((((rd_T83 ar aw).f2).length : Int) > 10)), er_, H', ⟨au4_8⟩, ⟨bf_ bS⟩, ⟨bq_ cv⟩, ⟨bl_⟩⟩
      have c32b1 : decide (((rd_T83 ar aw).f2).length < 1) = true := n2_ c32b0
      have H' := am_ H
      clear H
      have BR := fa.out
      have BS := e9.out
      obtain ⟨mE, mF, pf, mG, mH, pg⟩ := cellsF3 cv.out
      go_wp2_with (first | (go_at_call 33; (with_reducible refine (F33.calls ((rd_T83 ar aw).f1) true _ GP.out).mono ?_); rintro e w' ⟨rfl, ⟨nd, rfl⟩⟩; (try clear GP)))
      go_meet
      case rel => exact ⟨_, (true), er_, H', ⟨au4_8⟩, ⟨bf_ bS⟩, ⟨bq_ cv⟩, ⟨bl_⟩⟩
     case rest =>
      clear ME
      try clear c10b0
      try clear c10b1
      try clear c17b0
      try clear c18b0
      try clear c24b0
      try clear c27b0
      try clear c32b0
      try clear c32b1
      try clear fe ff fg fh
      try clear cQ cR dR dS
      try clear fQ fR fS fT
      try clear iS iT jM jN
      try clear eT fZ hD hJ
      try clear lc o1 o2 o3
      try clear lf my mz
      try clear iH jH jI
      try clear lh mC o7
      try clear mE mF pf
      try clear gJ gK kN
      try clear o9 pa pb
      try clear f6 fi fj fk
      try clear cS cT dT dU
      try clear iF fU fV fW
      try clear iU iV jO jP
      try clear eU f4 hU hX
      try clear ld o4 o5 o6
      try clear lg mA mB
      try clear la jJ jK
      try clear ll mD o8
      try clear mG mH pg
      try clear jU gL kO
      try clear pc pd pe
      try clear jR
      try clear jS
      try clear jT
      try clear uY
      try clear uZ
      obtain ⟨kq, u0, rfl, HA, Aq, bS, cv, HB⟩ := hcut
      cases kq with
      | zero => exact absurd HA.out (by simp [F21.j2])
      | succ Vo =>
       have H := HA.out
       clear HA
       simp only [F21.j2] at H
       replace H := ib_ H; rcases H with ⟨rfl, H⟩ | ⟨rfl, H⟩
       ·obtain rfl := Option.some.inj H
        go_wp2
        go_ret
        exact ⟨au4_0, bl_⟩
       have H' := am_ H
       clear H
       go_wp2
       go_loopg [5] Vo (fun kq v5 w' => ∃ (cJ : Int), v5 = .int .i64 cJ ∧ Aside0 (F21.l1 kq aw cJ ao bD bJ ar ((rd_T83 ar aw).f0) ((rd_T83 ar aw).f1) ((rd_T83 ar aw).f2) = some r) ∧ Aside0 (kq ≤ Vo) ∧ Aside0 (w'.heap[qW]? = some (.cells #[.string ao, .string bD, .int .i64 bJ, (.slice (some yp) ar.length g9)] 29 (0, 0))) ∧ Aside0 (w'.heap[yt]? = some (.cells #[.int .i64 ((rd_T83 ar aw).f0), .int .i64 ((rd_T83 ar aw).f1), (.slice Dl ((rd_T83 ar aw).f2).length se)] 83 (0, 0))) ∧ Aside0 (Below w.heap.size w w'))
       case atStart => exact ⟨(0), er_, H', ⟨Nat.le_refl _⟩, ⟨bk_ bS⟩, ⟨bk_ cv⟩, ⟨bl_⟩⟩
       case round =>
        clear H'
        try clear c10b0
        try clear c10b1
        try clear c17b0
        try clear c18b0
        try clear c24b0
        try clear c27b0
        try clear c32b0
        try clear c32b1
        try clear fe ff fg fh
        try clear cQ cR dR dS
        try clear fQ fR fS fT
        try clear iS iT jM jN
        try clear eT fZ hD hJ
        try clear lc o1 o2 o3
        try clear lf my mz
        try clear iH jH jI
        try clear lh mC o7
        try clear mE mF pf
        try clear gJ gK kN
        try clear o9 pa pb
        try clear f6 fi fj fk
        try clear cS cT dT dU
        try clear iF fU fV fW
        try clear iU iV jO jP
        try clear eU f4 hU hX
        try clear ld o4 o5 o6
        try clear lg mA mB
        try clear la jJ jK
        try clear ll mD o8
        try clear mG mH pg
        try clear jU gL kO
        try clear pc pd pe
        try clear jR
        try clear jS
        try clear jT
        try clear uY
        try clear uZ
        obtain ⟨cJ, rfl, HA, Fs, bS, cv, HB⟩ := hrel
        cases gk with
        | zero => exact absurd HA.out (by simp [F21.l1])
        | succ k4 =>
         have H := HA.out
         clear HA
         simp only [F21.l1] at H
         replace H := it_ H; rcases H with ⟨c40b0, H⟩ | ⟨c40b0, H⟩
         rotate_left
         ·have H' := am_ H
          clear H
          have PZ := fa.out
          have P0 := e9.out
          obtain ⟨ZN, ZO, ZP, ZQ, ZR, ZS⟩ := cellsF3 cv.out
          go_wp2
          go_roundg k4
          case measure => have := HJ1.out; have := HK2.out; have := Aq.out; have := Fs.out; omega
          case rel => exact ⟨(wrap64 (aw + 1)), er_, H', ⟨by have := HJ1.out; have := HK2.out; have := Aq.out; have := Fs.out; omega⟩, ⟨bk_ bS⟩, ⟨bl_⟩⟩
         replace H := itn_ H; rcases H with ⟨c41b0, H⟩
         have MF := am_ H
         clear H
         have Vp := fa.out
         have Vq := e9.out
         obtain ⟨sf, sg, yu, sh, si, yv⟩ := cellsF3 cv.out
         have Do : 0 ≤ (cJ : Int) := od_
         have Dp : cJ < (((rd_T83 ar aw).f2).length : Int) := od_
         obtain ⟨J0, Dq, Dr, a5Z, mI, mJ, yw, yx⟩ := at_T85 Hm.out cJ Do Dp
         cases a5Z
         replace mI := (HB.out.cell (World.block_lt_of_cell? _ _ mI)).trans mI
         replace mJ := (HB.out.cell (World.block_lt_of_cell? _ _ mJ)).trans mJ
         have mK := am_ yx
         have ZT := am_ yw
         clear yx yw
         replace Do := eq_true Do
         replace Dp := eq_true Dp
         go_upto_region 13 with (first | ((with_reducible refine gate_dst (N := 6) rfl ?_); (try (refine gate_guard (by rfl) ?_; dsimp only)); refine be_ 6 #[.int .i64 0, .slice none 0 0] 85 ?_; intro J1 hg Y6 hbox hb; have eL := am_ (hbox); have Vr := am_ (gw_ hg bl_); have b0D := Vr; replace HB := hs_ w hb; have fJ := am_ (gn_ hg (blkl_ bS)); have fK := am_ (gm_ hg (blkl_ bS)); replace bS := bb_ bS hb; have fL := am_ (gn_ hg (blkl_ cv)); have fM := am_ (gm_ hg (blkl_ cv)); replace cv := bb_ cv hb; clear hb hbox hg; have b0E := fK.out; have b0F := fJ.out; have b0G := fM.out; have b0H := fL.out; obtain ⟨yy, yz, yA, yB⟩ := cellsF2 eL.out))
         (try simp only [Act.put, List.setIfInBounds_toArray, List.set_cons_zero, List.set_cons_succ])
         go_cut [95] (fun v95 wc => ∃ (kq : Nat) (u2 : Bool), v95 = .bool u2 ∧ Aside0 (F21.j4 kq aw cJ u2 ao bD bJ ar ((rd_T83 ar aw).f0) ((rd_T83 ar aw).f1) ((rd_T83 ar aw).f2) ((rd_T85 ((rd_T83 ar aw).f2) cJ).f0) ((rd_T85 ((rd_T83 ar aw).f2) cJ).f1) = some r) ∧ Aside0 (kq ≤ k4) ∧ Aside0 (wc.heap[qW]? = some (.cells #[.string ao, .string bD, .int .i64 bJ, (.slice (some yp) ar.length g9)] 29 (0, 0))) ∧ Aside0 (wc.heap[yt]? = some (.cells #[.int .i64 ((rd_T83 ar aw).f0), .int .i64 ((rd_T83 ar aw).f1), (.slice (some J0) ((rd_T83 ar aw).f2).length se)] 83 (0, 0))) ∧ Aside0 (wc.heap[J1]? = some (.cells #[.int .i64 ((rd_T85 ((rd_T83 ar aw).f2) cJ).f0), (.slice Dq ((rd_T85 ((rd_T83 ar aw).f2) cJ).f1).length Dr)] 85 (0, 0))) ∧ Aside0 (Below w.heap.size w wc))
         case first =>
          have H := MF.out
          clear MF
          replace H := bi_ H; rcases H with ⟨tJ, ZU, H⟩
          replace H := ib_ H; rcases H with ⟨rfl, H⟩ | ⟨rfl, H⟩
          rotate_left
          ·have H' := am_ H
           clear H
           have SP := fK.out
           have SQ := fJ.out
           have b0I := fM.out
           have b0J := fL.out
           obtain ⟨yC, yD, yE, yF⟩ := cellsF2 eL.out
           go_wp2_with (first | (go_at_call 33; (with_reducible refine (F33.calls ((rd_T85 ((rd_T83 ar aw).f2) cJ).f0) false _ ZU.out).mono ?_); rintro e w' ⟨rfl, ⟨nd, rfl⟩⟩; (try clear ZU)))
           go_meet
           case rel => exact ⟨_, (true), er_, H', ⟨au4_15⟩, ⟨bf_ bS⟩, ⟨bf_ cv⟩, ⟨bq_ eL⟩, ⟨bl_⟩⟩
          have H' := am_ H
          clear H
          have SL := fK.out
          have SM := fJ.out
          have SN := fM.out
          have SO := fL.out
          obtain ⟨yG, yH, yI, yJ⟩ := cellsF2 eL.out
          go_wp2_with (first | (go_at_call 33; (with_reducible refine (F33.calls ((rd_T85 ((rd_T83 ar aw).f2) cJ).f0) true _ ZU.out).mono ?_); rintro e w' ⟨rfl, ⟨nd, rfl⟩⟩; (try clear ZU)))
          go_meet
          case rel => exact ⟨_, (decide ((((rd_T85 ((rd_T83 ar aw).f2) cJ).f1).length : Int) > 40)), er_, H', ⟨au4_15⟩, ⟨bf_ bS⟩, ⟨bf_ cv⟩, ⟨bq_ eL⟩, ⟨bl_⟩⟩
         case rest =>
          clear MF
          try clear c10b0
          try clear c10b1
          try clear c17b0
          try clear c18b0
          try clear c24b0
          try clear c27b0
          try clear c32b0
          try clear c32b1
          try clear c40b0
          try clear c41b0
          try clear fe ff fg fh
          try clear cQ cR dR dS
          try clear fQ fR fS fT
          try clear iS iT jM jN
          try clear eT fZ hD hJ
          try clear lc o1 o2 o3
          try clear lf my mz
          try clear iH jH jI
          try clear lh mC o7
          try clear mE mF pf
          try clear gJ gK kN
          try clear o9 pa pb
          try clear sf sg yu
          try clear yy yz
          try clear yG yH
          try clear yC yD
          try clear f6 fi fj fk
          try clear cS cT dT dU
          try clear iF fU fV fW
          try clear iU iV jO jP
          try clear eU f4 hU hX
          try clear ld o4 o5 o6
          try clear lg mA mB
          try clear la jJ jK
          try clear ll mD o8
          try clear mG mH pg
          try clear jU gL kO
          try clear pc pd pe
          try clear sh si yv
          try clear yA yB
          try clear yI yJ
          try clear yE yF
          try clear jR
          try clear jS
          try clear jT
          try clear mI
          try clear mJ
          try clear uY
          try clear Do
          try clear uZ
          try clear Dp
          obtain ⟨kq, u2, rfl, HA, Mw, bS, cv, eL, HB⟩ := hcut
          cases kq with
          | zero => exact absurd HA.out (by simp [F21.j4])
          | succ Vs =>
           have H := HA.out
           clear HA
           simp only [F21.j4] at H
           replace H := ib_ H; rcases H with ⟨rfl, H⟩ | ⟨rfl, H⟩
           ·obtain rfl := Option.some.inj H
            go_wp2
            go_ret
            exact ⟨au4_0, bl_⟩
           have H' := am_ H
           clear H
           go_wp2
           go_loopg [7] Vs (fun kq v7 w' => ∃ (fN : Int), v7 = .int .i64 fN ∧ Aside0 (F21.l2 kq aw cJ fN ao bD bJ ar ((rd_T83 ar aw).f0) ((rd_T83 ar aw).f1) ((rd_T83 ar aw).f2) ((rd_T85 ((rd_T83 ar aw).f2) cJ).f0) ((rd_T85 ((rd_T83 ar aw).f2) cJ).f1) = some r) ∧ Aside0 (kq ≤ Vs) ∧ Aside0 (w'.heap[qW]? = some (.cells #[.string ao, .string bD, .int .i64 bJ, (.slice (some yp) ar.length g9)] 29 (0, 0))) ∧ Aside0 (w'.heap[yt]? = some (.cells #[.int .i64 ((rd_T83 ar aw).f0), .int .i64 ((rd_T83 ar aw).f1), (.slice (some J0) ((rd_T83 ar aw).f2).length se)] 83 (0, 0))) ∧ Aside0 (w'.heap[J1]? = some (.cells #[.int .i64 ((rd_T85 ((rd_T83 ar aw).f2) cJ).f0), (.slice Dq ((rd_T85 ((rd_T83 ar aw).f2) cJ).f1).length Dr)] 85 (0, 0))) ∧ Aside0 (Below w.heap.size w w'))
           case atStart => exact ⟨(0), er_, H', ⟨Nat.le_refl _⟩, ⟨bk_ bS⟩, ⟨bk_ cv⟩, ⟨bk_ eL⟩, ⟨bl_⟩⟩
           case round =>
            clear H'
            try clear c10b0
            try clear c10b1
            try clear c17b0
            try clear c18b0
            try clear c24b0
            try clear c27b0
            try clear c32b0
            try clear c32b1
            try clear c40b0
            try clear c41b0
            try clear fe ff fg fh
            try clear cQ cR dR dS
            try clear fQ fR fS fT
            try clear iS iT jM jN
            try clear eT fZ hD hJ
            try clear lc o1 o2 o3
            try clear lf my mz
            try clear iH jH jI
            try clear lh mC o7
            try clear mE mF pf
            try clear gJ gK kN
            try clear o9 pa pb
            try clear sf sg yu
            try clear yy yz
            try clear yG yH
            try clear yC yD
            try clear f6 fi fj fk
            try clear cS cT dT dU
            try clear iF fU fV fW
            try clear iU iV jO jP
            try clear eU f4 hU hX
            try clear ld o4 o5 o6
            try clear lg mA mB
            try clear la jJ jK
            try clear ll mD o8
            try clear mG mH pg
            try clear jU gL kO
            try clear pc pd pe
            try clear sh si yv
            try clear yA yB
            try clear yI yJ
            try clear yE yF
            try clear jR
            try clear jS
            try clear jT
            try clear mI
            try clear mJ
            try clear uY
            try clear Do
            try clear uZ
            try clear Dp
            obtain ⟨fN, rfl, HA, HK6, bS, cv, eL, HB⟩ := hrel
            cases gk with
            | zero => exact absurd HA.out (by simp [F21.l2])
            | succ k6 =>
             have H := HA.out
             clear HA
             simp only [F21.l2] at H
             replace H := it_ H; rcases H with ⟨c58b0, H⟩ | ⟨c58b0, H⟩
             rotate_left
             ·have H' := am_ H
              clear H
              have PV := fK.out
              have PW := fJ.out
              have Vt := fM.out
              have Vu := fL.out
              obtain ⟨ZV, ZW, ZX, ZY⟩ := cellsF2 eL.out
              go_wp2
              go_roundg k6
              case measure => have := HJ1.out; have := HK2.out; have := Aq.out; have := Fs.out; have := Mw.out; have := HK6.out; omega
              case rel => exact ⟨(wrap64 (cJ + 1)), er_, H', ⟨au4_13⟩, ⟨bk_ bS⟩, ⟨bk_ cv⟩, ⟨bl_⟩⟩
             replace H := itn_ H; rcases H with ⟨c59b0, H⟩
             replace H := bi_ H; rcases H with ⟨CN, Hn, H⟩
             replace H := ib_ H; rcases H with ⟨rfl, H⟩ | ⟨rfl, H⟩
             rotate_left
             ·obtain rfl := Option.some.inj H
              have Jz := fK.out
              have JA := fJ.out
              have IY := fM.out
              have IZ := fL.out
              obtain ⟨G0, G1, G2, G3⟩ := cellsF2 eL.out
              have pU : 0 ≤ (fN : Int) := od_
              have pV : fN < (((rd_T85 ((rd_T83 ar aw).f2) cJ).f1).length : Int) := od_
              obtain ⟨yK, Ds, Dt, Du, fw, fx, iW, iX⟩ := at_T52 mK.out fN pU pV
              cases Du
              replace fw := (HB.out.cell (World.block_lt_of_cell? _ _ fw)).trans fw
              replace fx := (HB.out.cell (World.block_lt_of_cell? _ _ fx)).trans fx
              have sc := am_ iX
              have mL := am_ iW
              clear iX iW
              replace pU := eq_true pU
              replace pV := eq_true pV
              go_wp2_with (first | (go_at_call 46; (with_reducible refine (F46.calls k6 ((rd_T52 ((rd_T85 ((rd_T83 ar aw).f2) cJ).f1) fN).f0) _ _ ((rd_T52 ((rd_T85 ((rd_T83 ar aw).f2) cJ).f1) fN).f1) false _ ?s1 ?s2 Hn.out).mono ?_); (case s1 => exact au4_5); (case s2 => exact mL.out); rintro e w77 ⟨rfl, hb⟩; (try clear Hn); replace bS := bb_ bS hb; replace cv := bb_ cv hb; replace eL := bb_ eL hb; replace HB := hs_ w hb; (try clear hb)))
              go_ret
              exact ⟨au4_0, bl_⟩
             replace H := bi_ H; rcases H with ⟨CO, sX, H⟩
             replace H := ib_ H; rcases H with ⟨rfl, H⟩ | ⟨rfl, H⟩
             ·obtain rfl := Option.some.inj H
              have I1 := fK.out
              have I2 := fJ.out
              have b0K := fM.out
              have b0L := fL.out
              obtain ⟨ZZ, Z0, Z1, Z2⟩ := cellsF2 eL.out
              have pU : 0 ≤ (fN : Int) := od_
              have pV : fN < (((rd_T85 ((rd_T83 ar aw).f2) cJ).f1).length : Int) := od_
              obtain ⟨yK, Ds, Dt, Du, fw, fx, iW, iX⟩ := at_T52 mK.out fN pU pV
              cases Du
              replace fw := (HB.out.cell (World.block_lt_of_cell? _ _ fw)).trans fw
              replace fx := (HB.out.cell (World.block_lt_of_cell? _ _ fx)).trans fx
              have sc := am_ iX
              have mL := am_ iW
              clear iX iW
              replace pU := eq_true pU
              replace pV := eq_true pV
              go_wp2_with (first | (go_at_call 46; (with_reducible refine (F46.calls k6 ((rd_T52 ((rd_T85 ((rd_T83 ar aw).f2) cJ).f1) fN).f0) _ _ ((rd_T52 ((rd_T85 ((rd_T83 ar aw).f2) cJ).f1) fN).f1) true _ ?s1 ?s2 Hn.out).mono ?_); (case s1 => exact au4_5); (case s2 => exact mL.out); rintro e w67 ⟨rfl, hb⟩; (try clear Hn); replace bS := bb_ bS hb; replace cv := bb_ cv hb; replace eL := bb_ eL hb; replace HB := hs_ w hb; (try clear hb); obtain ⟨G8, G9, Ha, Hb⟩ := cellsF2 eL.out; have u4 : 0 ≤ (fN : Int) := od_; have u5 : fN < (((rd_T85 ((rd_T83 ar aw).f2) cJ).f1).length : Int) := od_; obtain ⟨Dv, MG, MH, MI, jV, jW, mM, mN⟩ := at_T52 mK.out fN u4 u5; obtain rfl : yK = Dv := (by injection MI); replace jV := (HB.out.cell (World.block_lt_of_cell? _ _ jV)).trans jV; replace jW := (HB.out.cell (World.block_lt_of_cell? _ _ jW)).trans jW; have Ho := am_ mN; have Hp := am_ mM; clear mN mM; replace u4 := eq_true u4; replace u5 := eq_true u5) | (go_at_call 47; (with_reducible refine (F47.calls ((rd_T52 ((rd_T85 ((rd_T83 ar aw).f2) cJ).f1) fN).f0) true _ sX.out).mono ?_); rintro e w' ⟨rfl, ⟨nd, rfl⟩⟩; (try clear sX)))
              go_ret
              exact ⟨au4_0, bl_⟩
             have H' := am_ H
             clear H
             have b0M := fK.out
             have b0N := fJ.out
             have Vv := fM.out
             have Vw := fL.out
             obtain ⟨Hq, Hr, Hs, Ht⟩ := cellsF2 eL.out
             have pU : 0 ≤ (fN : Int) := od_
             have pV : fN < (((rd_T85 ((rd_T83 ar aw).f2) cJ).f1).length : Int) := od_
             obtain ⟨yK, Ds, Dt, Du, fw, fx, iW, iX⟩ := at_T52 mK.out fN pU pV
             cases Du
             replace fw := (HB.out.cell (World.block_lt_of_cell? _ _ fw)).trans fw
             replace fx := (HB.out.cell (World.block_lt_of_cell? _ _ fx)).trans fx
             have sc := am_ iX
             have mL := am_ iW
             clear iX iW
             replace pU := eq_true pU
             replace pV := eq_true pV
             go_wp2_with (first | (go_at_call 46; (with_reducible refine (F46.calls k6 ((rd_T52 ((rd_T85 ((rd_T83 ar aw).f2) cJ).f1) fN).f0) _ _ ((rd_T52 ((rd_T85 ((rd_T83 ar aw).f2) cJ).f1) fN).f1) true _ ?s1 ?s2 Hn.out).mono ?_); (case s1 => exact au4_5); (case s2 => exact mL.out); rintro e w72 ⟨rfl, hb⟩; (try clear Hn); replace bS := bb_ bS hb; replace cv := bb_ cv hb; replace eL := bb_ eL hb; replace HB := hs_ w hb; (try clear hb); obtain ⟨Z3, Z4, Z5, Z6⟩ := cellsF2 eL.out; have u4 : 0 ≤ (fN : Int) := od_; have u5 : fN < (((rd_T85 ((rd_T83 ar aw).f2) cJ).f1).length : Int) := od_; obtain ⟨Dv, MG, MH, MI, jV, jW, mM, mN⟩ := at_T52 mK.out fN u4 u5; obtain rfl : yK = Dv := (by injection MI); replace jV := (HB.out.cell (World.block_lt_of_cell? _ _ jV)).trans jV; replace jW := (HB.out.cell (World.block_lt_of_cell? _ _ jW)).trans jW; have Ho := am_ mN; have Hp := am_ mM; clear mN mM; replace u4 := eq_true u4; replace u5 := eq_true u5) | (go_at_call 47; (with_reducible refine (F47.calls ((rd_T52 ((rd_T85 ((rd_T83 ar aw).f2) cJ).f1) fN).f0) false _ sX.out).mono ?_); rintro e w' ⟨rfl, ⟨nd, rfl⟩⟩; (try clear sX)))
             go_roundg k6
             case measure => have := HJ1.out; have := HK2.out; have := Aq.out; have := Fs.out; have := Mw.out; have := HK6.out; omega
             case rel => exact ⟨(wrap64 (fN + 1)), er_, H', ⟨au4_13⟩, ⟨bk_ bS⟩, ⟨bk_ cv⟩, ⟨bk_ eL⟩, ⟨bl_⟩⟩
/-! ### F49: function 49 -/
def F49.l0 : Nat → List ByteArray → Int → ByteArray → List (S55) → Option (ByteArray × (List (S55)))
  | 0, _, _, _, _ => none
  | k + 1, x1, x6, yL, sj => if x6 < (x1.length : Int) then (if 0 ≤ x6 then (if sj.length < 5864062014805 then (F49.l0 k x1 (wrap64 (x6 + 1)) yL (sj ++ [(⟨(([rdOf ByteArray.empty x1 x6] : List ByteArray))⟩ : S55)])) else (none)) else (none)) else (some (yL, sj))
def F49.f (k : Nat) (a0 : ByteArray) (l1 : List ByteArray) : Option (ByteArray × (List (S55))) := F49.l0 k l1 0 a0 ([] : List (S55))
theorem F49.mono_l : ∀ k, (∀ y0 y1 y2 y3, LeO (F49.l0 k y0 y1 y2 y3) (F49.l0 (k + 1) y0 y1 y2 y3))
 | 0 => fun _ _ _ _ r h => by simp [F49.l0] at h
 | k + 1 => by
  have b6 := F49.mono_l k
  intro y0 y1 y2 y3
  unfold F49.l0
  repeat' with_reducible first | exact b6 _ _ _ _ | exact LeO.refl _ | exact LeO.none _ | refine LeO.ite ?_ ?_ | refine LeO.bind ?_ (fun _ => ?_)
theorem F49.mono : ∀ a0 a1 k, LeO (F49.f k a0 a1) (F49.f (k + 1) a0 a1) := by
 intro a0 a1 k
 have b6 := F49.mono_l k
 unfold F49.f
 repeat' with_reducible first | exact b6 _ _ _ _ | exact LeO.refl _ | exact LeO.none _ | refine LeO.ite ?_ ?_ | refine LeO.bind ?_ (fun _ => ?_)
def F49.T5 : Bool × List (List Nat × List Nat) := (true, [([], []), ([0], [0]), ([], []), ([], []), ([2, 3], [2, 3]), ([4], [4]), ([5], [5]), ([6], [6]), ([7], [7]), ([1, 8], [1, 8]), ([0, 1, 2, 3, 4, 5, 6, 7, 8, 9], []), ([10, 9, 9, 0, 1, 2, 3, 4, 5, 6, 7, 8, 9], [9, 10])])
def F49.B5 : List Nat := [0, 1, 0, 0, 12, 28, 60, 124, 252, 511, 1023, 2047]
theorem F49.tab5 : rtab .any (opsOf Tryd.f49 5) = F49.T5 := by kernel_rfl
theorem F49.bits5 : waitsOk F49.T5.2 F49.B5 = true := by kernel_rfl
theorem F49.calls (k : Nat) (a0 : ByteArray) (A1 : Option Addr) (c1 : Nat) (l1 : List ByteArray) (r1 : ByteArray) (r2 : List (S55)) (w : World) (hr1 : Kd.C Kd.string w A1 l1.length l1) (hc1 : l1.length ≤ c1) (h : F49.f k a0 l1 = some (r1, r2)) :
  Calls Tryd.prog 49 #[.string a0, .slice A1 l1.length c1] w fun e w' => ∃ tj : Value, e = .returned (.agg #[.string r1, tj]) ∧ Kd.S k55 55 w' w.heap.size (fun _ => True) tj r2 ∧ Below w.heap.size w w' := by
 have jn := Tryd.underlying52
 have sY := Tryd.underlying55
 have Pb := am_ hr1
 have ko := am_ hc1
 clear hr1 hc1
 have HB := am_ (Below.refl w.heap.size w)
 have H : (F49.l0 k l1 0 a0 ([] : List (S55))) = some (r1, r2) := h
 clear h
 have H' := am_ H
 clear H
 go_enter Tryd.func49, Tryd.ntmps49
 go_wp2_with (first | ((with_reducible refine gate_dst (N := 4) rfl ?_); refine be_ 4 #[.string (⟨#[]⟩ : ByteArray), .slice none 0 0] 52 ?_; intro yM hg w3 hbox hb; have fG := am_ (hbox); have Vx := am_ (gw_ hg bl_); have b0O := Vx; replace HB := hs_ w hb; clear hb hbox hg) | ((with_reducible refine gate_dst (N := 5) rfl ?_); refine be_ 5 #[.string (⟨#[]⟩ : ByteArray), .slice none 0 0] 52 ?_; intro tS hg w4 hbox hb; have d5 := am_ (hbox); have Vy := am_ (gw_ hg bl_); have b0P := Vy; replace HB := hs_ w hb; have nG := am_ (gn_ hg (blkl_ fG)); have nH := am_ (gm_ hg (blkl_ fG)); replace fG := bb_ fG hb; clear hb hbox hg; have b3W := nH.out; have b3X := nG.out; obtain ⟨nn, np, nq, nr⟩ := cellsF2 d5.out))
 go_loopg [6] k (fun kq v6 w' => ∃ (bg : Int) (ev : List (S55)) (iY : Value), v6 = .int .i64 bg ∧ Aside0 (F49.l0 kq l1 bg a0 ev = some (r1, r2)) ∧ Aside0 (kq ≤ k) ∧ Aside0 (Kd.S k55 55 w' w.heap.size (fun _ => True) iY ev) ∧ Aside0 (w'.heap[yM]? = some (.cells #[.string (⟨#[]⟩ : ByteArray), (.slice none 0 0)] 52 (0, 0))) ∧ Aside0 (w'.heap[tS]? = some (.cells #[.string a0, iY] 52 (0, 0))) ∧ Aside0 (Below w.heap.size w w'))
 case atStart => exact ⟨(0), (([] : List (S55))), (.slice none 0 0), er_, H', ⟨Nat.le_refl _⟩, ⟨au4_11⟩, ⟨bf_ fG⟩, ⟨bq_ d5⟩, ⟨bl_⟩⟩
 case round =>
  clear H'
  try clear c1
  try clear nn np
  try clear nq nr
  obtain ⟨bg, ev, iY, rfl, HA, dk, cA, fG, d5, HB⟩ := hrel
  cases gk with
  | zero => exact absurd HA.out (by simp [F49.l0])
  | succ k1 =>
   have H := HA.out
   clear HA
   simp only [F49.l0] at H
   replace H := it_ H; rcases H with ⟨c7b0, H⟩ | ⟨c7b0, H⟩
   rotate_left
   ·simp only [Option.some.injEq, Prod.mk.injEq] at H
    obtain ⟨rfl, rfl⟩ := H
    have Vz := nH.out
    have VA := nG.out
    obtain ⟨Hu, Hv, Hw, Hx⟩ := cellsF2 d5.out
    obtain ⟨oP, oQ, oR, oS⟩ := cellsF2 fG.out
    obtain ⟨VB, VC, a50⟩ := Kd.S_slice cA.out
    subst a50
    go_wp2
    refine bodyPost_ret (results_cell_row rfl _ _ yM 52 #[.string a0, .slice VB ev.length VC] (0, 0) _ rfl (bq_ fG) Tryd.underlying52 rfl (by kernel_rfl)) rfl ?_
    exact ⟨_, au4_0, by (with_reducible repeat (first | apply Kd.S_alloc | apply Kd.S_drewN | apply Kd.S_drew)); exact Kd.S_mono (Kd.S_far (p := ⟨yM, 1, none⟩) (Kd.S_far (p := ⟨yM, 0, none⟩) (Kd.S_types cA.out fG.out (by decide)) (fun _ hk => hk.2) (.string a0)) (fun _ hk => hk.2) (.slice VB ev.length VC)) (fun _ hk => trivial), bl_⟩

   replace H := itn_ H; rcases H with ⟨c8b0, H⟩
   obtain ⟨Ar, Dw⟩ : ∃ y_ : List ByteArray, y_ = (([rdOf ByteArray.empty l1 bg] : List ByteArray)) := ⟨_, rfl⟩
   replace H : (if ev.length < 5864062014805 then (F49.l0 k1 l1 (wrap64 (bg + 1)) a0 (ev ++ [(⟨Ar⟩ : S55)])) else (none)) = some (r1, r2) := by first | (rw [Dw]; exact H) | exact H
   have J2 := am_ Dw
   clear Dw
   replace H := iln_ H; rcases H with ⟨a52, H⟩
   obtain ⟨Hy, Dx⟩ : ∃ y_ : List (S55), y_ = (ev ++ [(⟨Ar⟩ : S55)]) := ⟨_, rfl⟩
   replace H : (F49.l0 k1 l1 (wrap64 (bg + 1)) a0 Hy) = some (r1, r2) := by first | (rw [Dx]; exact H) | exact H
   have VD := am_ Dx
   clear Dx
   have H' := am_ H
   clear H
   try go_wp2
   replace cA := am_ (Kd.S_drew cA.out)
   replace fG := bd_ fG
   replace d5 := bd_ d5
   replace HB := am_ (below_drew1 HB.out)
   have MJ : 0 ≤ (bg : Int) := od_
   have MK : bg < (l1.length : Int) := od_
   obtain ⟨VE, a54, mO⟩ := Kd.at_string Pb.out bg MJ MK
   have f7 := mO
   cases a54
   replace mO := (HB.out.cell (World.block_lt_of_cell? _ _ mO)).trans mO
   replace MJ := eq_true MJ
   replace MK := eq_true MK
   refine start_ (n := 12) (S := fun w' => w'.cell? ⟨tS, 0, none⟩ = some (.string a0) ∧ w'.cell? ⟨tS, 1, none⟩ = some (iY) ∧ w'.cell? (VE.add (bg).toNat) = some (.string (rdOf ByteArray.empty l1 bg))) (ds := [11]) (bs 12 0) (by kernel_rfl) rfl rfl ⟨(blk_cell d5.out 0).trans rfl, (blk_cell d5.out 1).trans rfl, ((HB.out.cell (World.block_lt_of_cell? _ _ f7)).trans f7)⟩ (fun hHeld => ?_); refine with_tabW F49.tab5 F49.bits5 (fun HT_ HW_ => ?_)
   generalize wr.drew = F4 at cA fG d5 HB mO hHeld ⊢
   refine pu_ 0 15 (bs 12 1) HT_ ?_ rfl rfl
   refine pu_ 2 17 (bs 12 5) HT_ ?_ rfl rfl
   refine pu_ 3 18 (bs 12 13) HT_ ?_ rfl rfl
   refine pu_ 4 19 (bs 12 29) HT_ ?_ rfl rfl
   refine tk_ 1 16 (bs 12 31) HT_ HW_ hHeld (by rintro w' ⟨s0, s1, s2⟩; go_simp; with_reducible rfl) ?_ rfl rfl
   refine tk_ 5 20 (bs 12 63) HT_ HW_ hHeld (by rintro w' ⟨s0, s1, s2⟩; go_simp; with_reducible rfl) ?_ rfl rfl
   refine one_ (i := 6) (N := some 21) (bs 12 127) rfl rfl (one_of HT_.out (by kernel_rfl)) (by decide) (fun K hK => ?_)
   refine Kd.R_lit_step Kd.string _ 9 ?hg (N := 21) ?hd (xs := ([rdOf ByteArray.empty l1 bg] : List ByteArray)) (inner := [.string (rdOf ByteArray.empty l1 bg)]) (ok := fun _ => True) (okp := fun _ => True) ?hr ?hp (fun _ hk => hk) trivial (Below.refl _ _) (Nat.le_refl _) (by simp) ?_; (case hd => rfl); (case hg => rfl); (case hr => exact hr_); (case hp => exact (Reps.one (show Kd.M Kd.string _ _ _ (rdOf ByteArray.empty l1 bg) [.string (rdOf ByteArray.empty l1 bg)] from rfl) (Reps.none _ _)))
   intro b3Y IP As hb hg_ hnew_
   clear hg_ hnew_
   (first | rw [← J2.out] at As | (simp only [Int.reduceToNat] at As; rw [← J2.out] at As))
   replace cA := am_ (Kd.S_elder' (by (with_reducible repeat (first | apply Kd.S_alloc | apply Kd.S_drewN | apply Kd.S_drew)); exact cA.out) (Kd.R_base As) hb)
   have yN := am_ (Kd.R_lower As (below_size bl_))
   replace fG := bb_ fG hb
   replace d5 := bb_ d5 hb
   replace HB := hs_ w hb
   clear hb As
   obtain ⟨aU, aT, u6⟩ := Kd.R_slice yN.out
   (first | subst u6 | (injection u6 with dY gS dZ; have gT := dY.symm; have gU := dZ.symm; clear dY gS dZ; subst gT; subst gU))
   refine hK.out _ _ ⟨(blk_cell d5.out 0).trans rfl, (blk_cell d5.out 1).trans rfl, ((HB.out.cell (World.block_lt_of_cell? _ _ f7)).trans f7)⟩ (fun hHeld => ?_)
   clear hK K
   refine no_ 21 ?_
   refine pu_ 7 22 (bs 12 255) HT_ ?_ rfl rfl
   refine one_ (i := 8) (N := some 23) (bs 12 511) rfl rfl (one_of HT_.out (by kernel_rfl)) (by decide) (fun K hK => ?_)
   refine value_ (w1 := ?_) (v := ?_) (by rfl) rfl ?_ ?_
   rotate_left 2
   ·go_simp
    constructor
    ·rfl
    ·rfl
   refine hK.out _ _ ⟨(blk_cell (blk_alloc d5.out _) 0).trans rfl, (blk_cell (blk_alloc d5.out _) 1).trans rfl, (World.cell?_alloc_lt _ _ _ (World.block_lt_of_cell? _ _ (((HB.out.cell (World.block_lt_of_cell? _ _ f7)).trans f7)))).trans (((HB.out.cell (World.block_lt_of_cell? _ _ f7)).trans f7))⟩ (fun hHeld => ?_)
   clear hK K
   refine no_ 23 ?_
   refine one_ (i := 9) (N := some 24) (bs 12 1023) rfl rfl (one_of HT_.out (by kernel_rfl)) (by decide) (fun K hK => ?_)
   refine Kd.S_append_step k55 (w0 := w) w.heap.size (by rfl) (.tmp 16) (.tmp 23) 50 55 (.agg #[(.slice none 0 0)]) 24 rfl Tryd.underlying50 info55 rfl (by decide) (by omega) iY ev (⟨Ar⟩ : S55) [.slice aU Ar.length aT] (fun _ => True) (fun k_ => some k_ = (.slice aU Ar.length aT : Value).ownBlock) rfl rfl ?aP (fun k_ hk_ => ((Kd.R_mono (ok' := fun k_ => ((fun _ => True)) k_ ∧ some k_ ≠ (iY : Value).ownBlock) (Kd.R_apart' (yN.out) (Kd.S_typed cA.out) (by decide)) (fun k_ hk => ⟨trivial, hk.2⟩))).1 k_ hk_.symm) ?aF ?aO ?aB ?aS ?aL ?_
   (case aP => exact k55_mkM _ _ _ (⟨Ar⟩ : S55) (Kd.R_mono (Kd.R_tight rfl (Kd.R_mono (ok' := fun k_ => ((fun _ => True)) k_ ∧ some k_ ≠ (iY : Value).ownBlock) (Kd.R_apart' (yN.out) (Kd.S_typed cA.out) (by decide)) (fun k_ hk => ⟨trivial, hk.2⟩))) (fun _ h_ => h_)))
   (case aB => exact bl_)
   (case aF => exact (fun _ _ => trivial))
   (case aO => exact (by (with_reducible repeat (first | apply Kd.S_alloc | apply Kd.S_drewN | apply Kd.S_drew)); exact Kd.S_mono cA.out (fun k_ hk => ⟨trivial, fun e_ => hk.2 e_⟩)))
   (case aS => exact (below_size bl_))
   (case aL => have := a52.out; omega)
   intro b3Z AN ho hb hg hat
   rw [← VD.out] at ho
   replace fG := am_ (bg_ fG hg (Kd.S_ne cA.out fG.out (by decide)))
   replace d5 := am_ (bg_ d5 hg (Kd.S_ne cA.out d5.out (by decide)))
   replace HB := am_ (hb)
   have J3 := am_ (ho)
   clear cA yN
   clear ho hb hg hat
   obtain ⟨zV, zW, zX⟩ := Kd.S_slice J3.out
   (first | subst zX | (injection zX with dY gS dZ; have gT := dY.symm; have gU := dZ.symm; clear dY gS dZ; subst gT; subst gU))
   refine hK.out _ _ ⟨(blk_cell d5.out 0).trans rfl, (blk_cell d5.out 1).trans rfl, ((HB.out.cell (World.block_lt_of_cell? _ _ f7)).trans f7)⟩ (fun hHeld => ?_)
   clear hK K
   refine no_ 24 ?_
   refine pu_ 10 25 (bs 12 2047) HT_ ?_ rfl rfl
   refine last_ (i := 11) (N := none) (bs 12 4095) rfl rfl (one_of HT_.out (by kernel_rfl)) (by decide) (fun K hK => ?_)
   have b30 : AN.cell? ⟨tS, 1, none⟩ = some (iY) := (blk_cell d5.out 1).trans rfl
   have b0Q := blk_frozen d5.out 1
   have Z7 := nG.out
   have Z8 := nH.out
   refine skip_ (w1 := ?_) (by rfl) rfl ?_ ?_
   rotate_left
   ·go_simp
    rfl
   refine hK.out _ _ ?_
   clear hK K
   refine done_ (done_of HT_.out (by kernel_rfl)) ?_
   try go_wp2
   go_roundg k1
   case measure => have := dk.out; omega
   case rel => exact ⟨(wrap64 (bg + 1)), (Hy), (.slice zV Hy.length zW), er_, H', ⟨by have := dk.out; omega⟩, ⟨by (with_reducible repeat (first | apply Kd.S_alloc | apply Kd.S_drewN | apply Kd.S_drew)); exact Kd.S_mono (Kd.S_far (p := ⟨tS, 1, none⟩) (Kd.S_types J3.out d5.out (by decide)) (fun _ hk => hk.2) (.slice zV Hy.length zW)) (fun _ hk => trivial)⟩, ⟨bf_ fG⟩, ⟨bq_ d5⟩, ⟨bl_⟩⟩
/-! ### F50: function 50 -/
def F50.l0 : Nat → Int → Bool → ByteArray → Option (ByteArray)
  | 0, _, _, _ => none
  | k + 1, x0, x3, x4 => if x0 = 0 then (if x3 = true then (if 1 + x4.size ≤ 9223372036854775807 then (some ((⟨#[45]⟩ : ByteArray) ++ x4)) else (none)) else (some x4)) else (if (Int.tmod x0 10) < 0 then ((some (([(wrap64 (48 + (wrap64 (-(Int.tmod x0 10))))) % 256] : List Int) : List Int)).bind fun sk => (if (strOfNums sk).size + x4.size ≤ 9223372036854775807 then (F50.l0 k (wrap64 (Int.tdiv x0 10)) x3 ((strOfNums sk) ++ x4)) else (none))) else ((some (([(wrap64 (48 + (Int.tmod x0 10))) % 256] : List Int) : List Int)).bind fun sl => (if (strOfNums sl).size + x4.size ≤ 9223372036854775807 then (F50.l0 k (wrap64 (Int.tdiv x0 10)) x3 ((strOfNums sl) ++ x4)) else (none))))
def F50.f (k : Nat) (a0 : Int) : Option (ByteArray) := if a0 = 0 then (some (⟨#[48]⟩ : ByteArray)) else (F50.l0 k a0 (decide (a0 < 0)) (⟨#[]⟩ : ByteArray))
theorem F50.mono_l : ∀ k, (∀ y0 y1 y2, LeO (F50.l0 k y0 y1 y2) (F50.l0 (k + 1) y0 y1 y2))
 | 0 => fun _ _ _ r h => by simp [F50.l0] at h
 | k + 1 => by
  have b6 := F50.mono_l k
  intro y0 y1 y2
  unfold F50.l0
  repeat' with_reducible first | exact b6 _ _ _ | exact LeO.refl _ | exact LeO.none _ | refine LeO.ite ?_ ?_ | refine LeO.bind ?_ (fun _ => ?_)
theorem F50.mono : ∀ a0 k, LeO (F50.f k a0) (F50.f (k + 1) a0) := by
 intro a0 k
 have b6 := F50.mono_l k
 unfold F50.f
 repeat' with_reducible first | exact b6 _ _ _ | exact LeO.refl _ | exact LeO.none _ | refine LeO.ite ?_ ?_ | refine LeO.bind ?_ (fun _ => ?_)
theorem F50.calls (k : Nat) (a0 : Int) (r : ByteArray) (w : World) (h : F50.f k a0 = some r) :
  Calls Tryd.prog 50 #[.int .i64 a0] w fun e w' => e = .returned (.string r) ∧ Below w.heap.size w w' := by
 have HB := am_ (Below.refl w.heap.size w)
 have H : (if a0 = 0 then (some (⟨#[48]⟩ : ByteArray)) else (F50.l0 k a0 (decide (a0 < 0)) (⟨#[]⟩ : ByteArray))) = some r := h
 clear h
 by_cases c2 : a0 = 0
 ·rw [if_pos c2] at H
  have c2b0 : (a0 == 0) = true := beq_iff_eq.mpr c2
  have c2b1 : (a0 != 0) = false := bne_eq_false_iff_eq.mpr c2
  clear c2
  obtain rfl := Option.some.inj H
  go_enter Tryd.func50, Tryd.ntmps50
  go_wp2
  all_goals try (exfalso; first | (have h_ := of_decide_eq_true c4b0; omega) | (have h_ := of_decide_eq_false c4b0; omega))
  go_ret
  exact ⟨au4_0, bl_⟩
 rw [if_neg c2] at H
 have c2b0 : (a0 == 0) = false := beq_eq_false_iff_ne.mpr c2
 have c2b1 : (a0 != 0) = true := bne_iff_ne.mpr c2
 have H' := am_ H
 clear H
 go_enter Tryd.func50, Tryd.ntmps50
 go_wp2
 all_goals try (exfalso; first | (have h_ := of_decide_eq_true c4b0; omega) | (have h_ := of_decide_eq_false c4b0; omega))
 go_loopg [0, 4] k (fun kq v0 v4 w' => ∃ (iC : Int) (aJ : ByteArray), v0 = .int .i64 iC ∧ v4 = .string aJ ∧ Aside0 (F50.l0 kq iC (decide (a0 < 0)) aJ = some r) ∧ Aside0 (kq ≤ k) ∧ Aside0 (Below w.heap.size w w'))
 case atStart => exact ⟨(a0), ((⟨#[]⟩ : ByteArray)), er_, er_, H', ⟨Nat.le_refl _⟩, ⟨bl_⟩⟩
 case round =>
  clear H'
  try clear c2
  try clear c2b0
  try clear c2b1
  obtain ⟨iC, aJ, rfl, rfl, HA, dk, HB⟩ := hrel
  cases gk with
  | zero => exact absurd HA.out (by simp [F50.l0])
  | succ k1 =>
   have H := HA.out
   clear HA
   simp only [F50.l0] at H
   by_cases c3 : iC = 0
   ·rw [if_pos c3] at H
    have c3b0 : (iC == 0) = true := beq_iff_eq.mpr c3
    have c3b1 : (iC != 0) = false := bne_eq_false_iff_eq.mpr c3
    clear c3
    by_cases c4 : (decide (a0 < 0)) = true
    rotate_left
    ·rw [if_neg c4] at H
     have c4b0 : (decide (a0 < 0)) = false := by simpa using c4
     clear c4
     obtain rfl := Option.some.inj H
     go_wp2
     all_goals try (exfalso; first | (have h_ := of_decide_eq_true c4b0; omega) | (have h_ := of_decide_eq_false c4b0; omega))
     go_ret
     exact ⟨au4_0, bl_⟩
    rw [if_pos c4] at H
    have c4b0 : (decide (a0 < 0)) = true := c4
    clear c4
    by_cases c5 : 1 + aJ.size ≤ 9223372036854775807
    rotate_left
    ·rw [if_neg c5] at H
     exact absurd H (by simp)
    rw [if_pos c5] at H
    have c5b0 := eq_true c5
    have c5b1 : decide (1 + aJ.size ≤ 9223372036854775807) = true := decide_eq_true c5
    try have c5b2 : (9223372036854775807 < 1 + aJ.size) = False := eq_false (Nat.not_lt.2 c5)
    obtain rfl := Option.some.inj H
    go_wp2
    all_goals try (exfalso; first | (have h_ := of_decide_eq_true c4b0; omega) | (have h_ := of_decide_eq_false c4b0; omega))
    go_ret
    exact ⟨au4_0, bl_⟩
   rw [if_neg c3] at H
   have c3b0 : (iC == 0) = false := beq_eq_false_iff_ne.mpr c3
   have c3b1 : (iC != 0) = true := bne_iff_ne.mpr c3
   replace H := it_ H; rcases H with ⟨c6b0, H⟩ | ⟨c6b0, H⟩
   ·obtain ⟨sk, Dy⟩ : ∃ y_ : List Int, y_ = (([(wrap64 (48 + (wrap64 (-(Int.tmod iC 10))))) % 256] : List Int)) := ⟨_, rfl⟩
    replace H : (if (strOfNums sk).size + aJ.size ≤ 9223372036854775807 then (F50.l0 k1 (wrap64 (Int.tdiv iC 10)) (decide (a0 < 0)) ((strOfNums sk) ++ aJ)) else (none)) = some r := by first | (rw [Dy]; exact H) | exact H
    have J4 := am_ Dy
    clear Dy
    by_cases c7 : (strOfNums sk).size + aJ.size ≤ 9223372036854775807
    rotate_left
    ·rw [if_neg c7] at H
     exact absurd H (by simp)
    rw [if_pos c7] at H
    have c7b0 := eq_true c7
    have c7b1 : decide ((strOfNums sk).size + aJ.size ≤ 9223372036854775807) = true := decide_eq_true c7
    try have c7b2 : (9223372036854775807 < (strOfNums sk).size + aJ.size) = False := eq_false (Nat.not_lt.2 c7)
    have H' := am_ H
    clear H
    go_wp2_with (first | ((with_reducible refine gate_dst (N := 21) rfl ?_); refine Kd.R_lit (Kd.int .u8) _ 5 ?hg (N := 21) ?hd (xs := ([(wrap64 (48 + (wrap64 (-(Int.tmod iC 10))))) % 256] : List Int)) (inner := [.int .u8 ((wrap64 (48 + (wrap64 (-(Int.tmod iC 10))))) % 256)]) (ok := fun _ => True) (okp := fun _ => True) ?hr ?hp (fun _ hk => hk) trivial (Below.refl _ _) (Nat.le_refl _) (by simp) ?_; (case hd => rfl); (case hg => rfl); (case hr => exact hr_); (case hp => exact (Reps.one (show Kd.M (Kd.int .u8) _ _ _ ((wrap64 (48 + (wrap64 (-(Int.tmod iC 10))))) % 256) [.int .u8 ((wrap64 (48 + (wrap64 (-(Int.tmod iC 10))))) % 256)] from rfl) (Reps.none _ _))); intro b31 w8 Dz hb hg_ hnew_; clear hg_ hnew_; (first | rw [← J4.out] at Dz | (simp only [Int.reduceToNat] at Dz; rw [← J4.out] at Dz)); have VF := am_ (Kd.R_lower Dz (below_size bl_)); replace HB := hs_ w hb; clear hb Dz; have b0R := own_string (P := Tryd.prog) Tryd.underlying45 Tryd.underlying5 Tryd.underlying9 (Kd.own_of_R VF.out)))
    go_roundg k1
    case measure => have := dk.out; omega
    case rel => exact ⟨(wrap64 (Int.tdiv iC 10)), ((strOfNums sk) ++ aJ), er_, er_, H', ⟨by have := dk.out; omega⟩, ⟨bl_⟩⟩
   obtain ⟨sl, DA⟩ : ∃ y_ : List Int, y_ = (([(wrap64 (48 + (Int.tmod iC 10))) % 256] : List Int)) := ⟨_, rfl⟩
   replace H : (if (strOfNums sl).size + aJ.size ≤ 9223372036854775807 then (F50.l0 k1 (wrap64 (Int.tdiv iC 10)) (decide (a0 < 0)) ((strOfNums sl) ++ aJ)) else (none)) = some r := by first | (rw [DA]; exact H) | exact H
   have J5 := am_ DA
   clear DA
   by_cases ng : (strOfNums sl).size + aJ.size ≤ 9223372036854775807
   rotate_left
   ·rw [if_neg ng] at H
    exact absurd H (by simp)

   rw [if_pos ng] at H
   have c11b0 := eq_true ng
   have c11b1 : decide ((strOfNums sl).size + aJ.size ≤ 9223372036854775807) = true := decide_eq_true ng
   try have c11b2 : (9223372036854775807 < (strOfNums sl).size + aJ.size) = False := eq_false (Nat.not_lt.2 ng)
   have H' := am_ H
   clear H
   go_wp2_with (first | ((with_reducible refine gate_dst (N := 21) rfl ?_); refine Kd.R_lit (Kd.int .u8) _ 5 ?hg (N := 21) ?hd (xs := ([(wrap64 (48 + (Int.tmod iC 10))) % 256] : List Int)) (inner := [.int .u8 ((wrap64 (48 + (Int.tmod iC 10))) % 256)]) (ok := fun _ => True) (okp := fun _ => True) ?hr ?hp (fun _ hk => hk) trivial (Below.refl _ _) (Nat.le_refl _) (by simp) ?_; (case hd => rfl); (case hg => rfl); (case hr => exact hr_); (case hp => exact (Reps.one (show Kd.M (Kd.int .u8) _ _ _ ((wrap64 (48 + (Int.tmod iC 10))) % 256) [.int .u8 ((wrap64 (48 + (Int.tmod iC 10))) % 256)] from rfl) (Reps.none _ _))); intro b32 rx DB hb hg_ hnew_; clear hg_ hnew_; (first | rw [← J5.out] at DB | (simp only [Int.reduceToNat] at DB; rw [← J5.out] at DB)); have VG := am_ (Kd.R_lower DB (below_size bl_)); replace HB := hs_ w hb; clear hb DB; have b0S := own_string (P := Tryd.prog) Tryd.underlying45 Tryd.underlying5 Tryd.underlying9 (Kd.own_of_R VG.out)))
   go_roundg k1
   case measure => have := dk.out; omega
   case rel => exact ⟨(wrap64 (Int.tdiv iC 10)), ((strOfNums sl) ++ aJ), er_, er_, H', ⟨by have := dk.out; omega⟩, ⟨bl_⟩⟩
/-! ### F35: function 35 -/
def F35.f (k : Nat) (ao : ByteArray) (bD : ByteArray) (bJ : Int) (ar : List (S83)) : Option (ByteArray × (List (S55))) := (F50.f k bJ).bind fun bw => ((F49.f k (⟨#[73, 88, 72]⟩ : ByteArray) (([ao, bD, bw] : List ByteArray))).bind fun ot => (some (ot.1, ot.2)))
theorem F35.mono : ∀ a0 a1 a2 a3 k, LeO (F35.f k a0 a1 a2 a3) (F35.f (k + 1) a0 a1 a2 a3) := by
 intro a0 a1 a2 a3 k
 unfold F35.f
 repeat' with_reducible first | exact F50.mono _ _ | exact F49.mono _ _ _ | exact LeO.refl _ | exact LeO.none _ | refine LeO.ite ?_ ?_ | refine LeO.bind ?_ (fun _ => ?_)
def F35.T1 : Bool × List (List Nat × List Nat) := (true, [([], []), ([0], [0]), ([], []), ([2], [2]), ([], []), ([4], [4]), ([5], [5]), ([1, 3, 6], [1, 3, 6]), ([7, 6], [7]), ([8, 8, 0, 1, 2, 3, 4, 5, 6, 7, 8], [8])])
def F35.B1 : List Nat := [0, 1, 0, 4, 0, 16, 48, 127, 255, 511]
theorem F35.tab1 : rtab .any (opsOf Tryd.f35 1) = F35.T1 := by kernel_rfl
theorem F35.bits1 : waitsOk F35.T1.2 F35.B1 = true := by kernel_rfl
theorem F35.calls (k : Nat) (ao : ByteArray) (bD : ByteArray) (bJ : Int) (ls : Option Addr) (g9 : Nat) (ar : List (S83)) (r1 : ByteArray) (r2 : List (S55)) (w : World) (oo : Kd.C k83 w ls ar.length ar) (oq : ar.length ≤ g9) (h : F35.f k ao bD bJ ar = some (r1, r2)) :
  Calls Tryd.prog 35 #[.agg #[.string ao, .string bD, .int .i64 bJ, .slice ls ar.length g9]] w fun e w' => ∃ tj : Value, e = .returned (.agg #[.string r1, tj]) ∧ Kd.S k55 55 w' w.heap.size (fun _ => True) tj r2 ∧ Below w.heap.size w w' := by
 have tH := Tryd.underlying29
 have jn := Tryd.underlying52
 have tQ := am_ oo
 have tR := am_ oq
 clear oo oq
 have HB := am_ (Below.refl w.heap.size w)
 have H : ((F50.f k bJ).bind fun bw => ((F49.f k (⟨#[73, 88, 72]⟩ : ByteArray) (([ao, bD, bw] : List ByteArray))).bind fun ot => (some (ot.1, ot.2)))) = some (r1, r2) := h
 clear h
 replace H := bi_ H; rcases H with ⟨bw, A2, H⟩
 obtain ⟨ML, DC⟩ : ∃ y_ : List ByteArray, y_ = (([ao, bD, bw] : List ByteArray)) := ⟨_, rfl⟩
 replace H : ((F49.f k (⟨#[73, 88, 72]⟩ : ByteArray) ML).bind fun ot => (some (ot.1, ot.2))) = some (r1, r2) := by first | (rw [DC]; exact H) | exact H
 have J6 := am_ DC
 clear DC
 replace H := bi_ H; rcases H with ⟨⟨cy, cz⟩, A3, H⟩
 simp only [Option.some.injEq, Prod.mk.injEq] at H
 obtain ⟨rfl, rfl⟩ := H
 go_enter Tryd.func35, Tryd.ntmps35
 try go_wp2_with (first | ((with_reducible refine gate_dst (N := 1) rfl ?_); refine be_ 1 #[.string ao, .string bD, .int .i64 bJ, .slice ls ar.length g9] 29 ?_; intro yO hg w4 hbox hb; have db := am_ (hbox); have VH := am_ (gw_ hg bl_); have b0T := VH; replace HB := hs_ w hb; clear hb hbox hg) | ((with_reducible refine gate_dst (N := 2) rfl ?_); refine be_ 2 #[.string (⟨#[]⟩ : ByteArray), .slice none 0 0] 52 ?_; intro jD hg w5 hbox hb; have im := am_ (hbox); have VI := am_ (gw_ hg bl_); have b0U := VI; replace HB := hs_ w hb; have dQ := am_ (gn_ hg (blkl_ db)); have qX := am_ (gm_ hg (blkl_ db)); replace db := bb_ db hb; clear hb hbox hg))
 replace db := bd_ db
 replace im := bd_ im
 replace HB := am_ (below_drew1 HB.out)
 refine start_ (n := 10) (S := fun w' => w'.cell? ⟨yO, 0, none⟩ = some (.string ao) ∧ w'.cell? ⟨yO, 1, none⟩ = some (.string bD) ∧ w'.cell? ⟨yO, 2, none⟩ = some (.int .i64 bJ) ∧ w'.cell? ⟨yO, 3, none⟩ = some (.slice ls ar.length g9)) (ds := []) (bs 10 0) (by kernel_rfl) rfl rfl ⟨(blk_cell db.out 0).trans rfl, (blk_cell db.out 1).trans rfl, (blk_cell db.out 2).trans rfl, (blk_cell db.out 3).trans rfl⟩ (fun hHeld => ?_); refine with_tabW F35.tab1 F35.bits1 (fun HT_ HW_ => ?_)
 generalize w5.drew = w6 at db im HB hHeld ⊢
 refine pu_ 0 3 (bs 10 1) HT_ ?_ rfl rfl
 refine pu_ 2 5 (bs 10 5) HT_ ?_ rfl rfl
 refine pu_ 4 7 (bs 10 21) HT_ ?_ rfl rfl
 refine tk_ 1 4 (bs 10 23) HT_ HW_ hHeld au4_16 ?_ rfl rfl
 refine tk_ 3 6 (bs 10 31) HT_ HW_ hHeld au4_16 ?_ rfl rfl
 refine tk_ 5 8 (bs 10 63) HT_ HW_ hHeld au4_16 ?_ rfl rfl
 refine one_ (i := 6) (N := some 9) (bs 10 127) rfl rfl (one_of HT_.out (by kernel_rfl)) (by decide) (fun K hK => ?_)
 refine gr_ Tryd.func50 #[.int .i64 bJ] (by rfl) ?_ rfl rfl rfl
 with_reducible refine (F50.calls k bJ bw _ A2.out).mono ?_
 rintro e w7 ⟨rfl, hb⟩
 refine ⟨_, rfl, ?_⟩
 replace db := bb_ db hb
 replace im := bb_ im hb
 replace HB := hs_ w hb
 (try clear hb)
 (try clear hb2)
 (try clear hk)
 (try clear hi)
 refine hK.out _ _ ⟨(blk_cell db.out 0).trans rfl, (blk_cell db.out 1).trans rfl, (blk_cell db.out 2).trans rfl, (blk_cell db.out 3).trans rfl⟩ (fun hHeld => ?_)
 clear hK K
 refine no_ 9 ?_
 refine one_ (i := 7) (N := some 10) (bs 10 255) rfl rfl (one_of HT_.out (by kernel_rfl)) (by decide) (fun K hK => ?_)
 refine Kd.R_lit_step Kd.string _ 9 ?hg (N := 10) ?hd (xs := ([ao, bD, bw] : List ByteArray)) (inner := [.string ao, .string bD, .string bw]) (ok := fun _ => True) (okp := fun _ => True) ?hr ?hp (fun _ hk => hk) trivial (Below.refl _ _) (Nat.le_refl _) (by simp) ?_; (case hd => rfl); (case hg => rfl); (case hr => exact hr_); (case hp => exact (Reps.one (show Kd.M Kd.string _ _ _ ao [.string ao] from rfl) (Reps.one (show Kd.M Kd.string _ _ _ bD [.string bD] from rfl) (Reps.one (show Kd.M Kd.string _ _ _ bw [.string bw] from rfl) (Reps.none _ _)))))
 intro b33 w8 Dz hb hg_ hnew_
 clear hg_ hnew_
 (first | rw [← J6.out] at Dz | (simp only [Int.reduceToNat] at Dz; rw [← J6.out] at Dz))
 have qY := am_ (Kd.R_lower Dz (below_size bl_))
 replace db := bb_ db hb
 replace im := bb_ im hb
 replace HB := hs_ w hb
 clear hb Dz
 obtain ⟨MM, MN, DD⟩ := Kd.R_slice qY.out
 (first | subst DD | (injection DD with dY gS dZ; have gT := dY.symm; have gU := dZ.symm; clear dY gS dZ; subst gT; subst gU))
 refine hK.out _ _ ⟨(blk_cell db.out 0).trans rfl, (blk_cell db.out 1).trans rfl, (blk_cell db.out 2).trans rfl, (blk_cell db.out 3).trans rfl⟩ (fun hHeld => ?_)
 clear hK K
 refine no_ 10 ?_
 refine one_ (i := 8) (N := some 11) (bs 10 511) rfl rfl (one_of HT_.out (by kernel_rfl)) (by decide) (fun K hK => ?_)
 refine gr_ Tryd.func49 #[.string (⟨#[73, 88, 72]⟩ : ByteArray), .slice MM ML.length MN] (by rfl) ?_ rfl rfl rfl
 with_reducible refine (F49.calls k (⟨#[73, 88, 72]⟩ : ByteArray) _ _ ML cy cz _ ?s1 ?s2 A3.out).mono ?_
 (case s1 => repeat (first | exact (Kd.R_reads' qY.out).2.2 | (with_reducible refine Kd.C_alloc ?_ _) | (with_reducible refine Kd.C_drewN ?_ _) | (with_reducible refine Kd.C_drew ?_)))
 (case s2 => exact (Kd.R_reads' qY.out).2.1)
 rintro e IP ⟨b34, rfl, bm, hb⟩
 refine ⟨_, rfl, ?_⟩
 have J7 := am_ (Kd.S_lower (Kd.S_new' bm (Kd.R_lt (rk_ qY))) (below_size bl_))
 replace qY := am_ (Kd.R_below (rk_ qY) hb)
 replace db := bb_ db hb
 replace im := bb_ im hb
 replace HB := hs_ w hb
 (try clear hb)
 (try clear hb2)
 (try clear hk)
 (try clear hi)
 (try clear bm)
 obtain ⟨aU, aT, u6⟩ := Kd.S_slice J7.out
 (first | subst u6 | (injection u6 with dY gS dZ; have gT := dY.symm; have gU := dZ.symm; clear dY gS dZ; subst gT; subst gU))
 refine hK.out _ _ ⟨(blk_cell db.out 0).trans rfl, (blk_cell db.out 1).trans rfl, (blk_cell db.out 2).trans rfl, (blk_cell db.out 3).trans rfl⟩ (fun hHeld => ?_)
 clear hK K
 refine no_ 11 ?_
 refine one_ (i := 9) (N := none) (bs 10 1023) rfl rfl (one_of HT_.out (by kernel_rfl)) (by decide) (fun K hK => ?_)
 have b35 : IP.cell? ⟨jD, 0, none⟩ = some (.string (⟨#[]⟩ : ByteArray)) := (blk_cell im.out 0).trans rfl
 have b0V := blk_frozen im.out 0
 have Z9 := dQ.out
 have a0a := qX.out
 have b36 : IP.cell? ⟨jD, 1, none⟩ = some (.slice none 0 0) := (blk_cell im.out 1).trans rfl
 have b0W := blk_frozen im.out 1
 have a0b := dQ.out
 have a0c := qX.out
 refine skip_ (w1 := ?_) (by rfl) rfl ?_ ?_
 rotate_left
 ·go_simp
  rfl
 refine hK.out _ _ ⟨((cell_far (p := ⟨jD, _, none⟩) dQ.out _).trans (((cell_far (p := ⟨jD, _, none⟩) dQ.out _).trans (hHeld.1)))), ((cell_far (p := ⟨jD, _, none⟩) dQ.out _).trans (((cell_far (p := ⟨jD, _, none⟩) dQ.out _).trans (hHeld.2.1)))), ((cell_far (p := ⟨jD, _, none⟩) dQ.out _).trans (((cell_far (p := ⟨jD, _, none⟩) dQ.out _).trans (hHeld.2.2.1)))), ((cell_far (p := ⟨jD, _, none⟩) dQ.out _).trans (((cell_far (p := ⟨jD, _, none⟩) dQ.out _).trans (hHeld.2.2.2))))⟩ (fun hHeld => ?_)
 clear hK K
 refine done_ (done_of HT_.out (by kernel_rfl)) ?_
 try go_wp2
 refine bodyPost_ret (results_cell_row rfl _ _ jD 52 #[.string cy, .slice aU cz.length aT] (0, 0) _ rfl (bq_ im) Tryd.underlying52 rfl (by kernel_rfl)) rfl ?_
 exact ⟨_, au4_0, by (with_reducible repeat (first | apply Kd.S_alloc | apply Kd.S_drewN | apply Kd.S_drew)); exact Kd.S_mono (Kd.S_far (p := ⟨jD, 1, none⟩) (Kd.S_far (p := ⟨jD, 0, none⟩) (Kd.S_types J7.out im.out (by decide)) (fun _ hk => hk.2) (.string cy)) (fun _ hk => hk.2) (.slice aU cz.length aT)) (fun _ hk => trivial), bl_⟩

/-! ### F48: function 48 -/
def F48.f (k : Nat) (a0 : ByteArray) (a1 : Int) (a2 : Int) : Option (ByteArray × (List (S55))) := (F50.f k a1).bind fun pS => ((F50.f k a2).bind fun lr => ((F49.f k a0 (([pS, lr] : List ByteArray))).bind fun ou => (some (ou.1, ou.2))))
theorem F48.mono : ∀ a0 a1 a2 k, LeO (F48.f k a0 a1 a2) (F48.f (k + 1) a0 a1 a2) := by
 intro a0 a1 a2 k
 unfold F48.f
 repeat' with_reducible first | exact F50.mono _ _ | exact F49.mono _ _ _ | exact LeO.refl _ | exact LeO.none _ | refine LeO.ite ?_ ?_ | refine LeO.bind ?_ (fun _ => ?_)
theorem F48.calls (k : Nat) (a0 : ByteArray) (a1 : Int) (a2 : Int) (r1 : ByteArray) (r2 : List (S55)) (w : World) (h : F48.f k a0 a1 a2 = some (r1, r2)) :
  Calls Tryd.prog 48 #[.string a0, .int .i64 a1, .int .i64 a2] w fun e w' => ∃ tj : Value, e = .returned (.agg #[.string r1, tj]) ∧ Kd.S k55 55 w' w.heap.size (fun _ => True) tj r2 ∧ Below w.heap.size w w' := by
 have jn := Tryd.underlying52
 have HB := am_ (Below.refl w.heap.size w)
 have H : ((F50.f k a1).bind fun pS => ((F50.f k a2).bind fun lr => ((F49.f k a0 (([pS, lr] : List ByteArray))).bind fun ou => (some (ou.1, ou.2))))) = some (r1, r2) := h
 clear h
 replace H := bi_ H; rcases H with ⟨pS, A4, H⟩
 replace H := bi_ H; rcases H with ⟨lr, A5, H⟩
 obtain ⟨MO, DE⟩ : ∃ y_ : List ByteArray, y_ = (([pS, lr] : List ByteArray)) := ⟨_, rfl⟩
 replace H : ((F49.f k a0 MO).bind fun ou => (some (ou.1, ou.2))) = some (r1, r2) := by first | (rw [DE]; exact H) | exact H
 have J8 := am_ DE
 clear DE
 replace H := bi_ H; rcases H with ⟨⟨MP, MQ⟩, A6, H⟩
 simp only [Option.some.injEq, Prod.mk.injEq] at H
 obtain ⟨rfl, rfl⟩ := H
 go_enter Tryd.func48, Tryd.ntmps48
 go_wp2_with (first | ((with_reducible refine gate_dst (N := 6) rfl ?_); refine be_ 6 #[.string (⟨#[]⟩ : ByteArray), .slice none 0 0] 52 ?_; intro DF hg w7 hbox hb; have kD := am_ (hbox); have VJ := am_ (gw_ hg bl_); have b0X := VJ; replace HB := hs_ w hb; clear hb hbox hg) | ((with_reducible refine gate_callee (f := 50) rfl ?_); refine gl_ 9 Tryd.func50 #[.int .i64 a1] ?_ rfl rfl rfl rfl; (with_reducible refine (F50.calls k a1 pS _ A4.out).mono ?_); rintro e w8 ⟨rfl, hb⟩; refine ⟨_, rfl, ?_⟩; replace kD := bb_ kD hb; replace HB := hs_ w hb; (try clear hb)) | ((with_reducible refine gate_callee (f := 50) rfl ?_); refine gl_ 11 Tryd.func50 #[.int .i64 a2] ?_ rfl rfl rfl rfl; (with_reducible refine (F50.calls k a2 lr _ A5.out).mono ?_); rintro e w9 ⟨rfl, hb⟩; refine ⟨_, rfl, ?_⟩; replace kD := bb_ kD hb; replace HB := hs_ w hb; (try clear hb)) | ((with_reducible refine gate_dst (N := 12) rfl ?_); refine Kd.R_lit Kd.string _ 9 ?hg (N := 12) ?hd (xs := ([pS, lr] : List ByteArray)) (inner := [.string pS, .string lr]) (ok := fun _ => True) (okp := fun _ => True) ?hr ?hp (fun _ hk => hk) trivial (Below.refl _ _) (Nat.le_refl _) (by simp) ?_; (case hd => rfl); (case hg => rfl); (case hr => exact hr_); (case hp => exact (Reps.one (show Kd.M Kd.string _ _ _ pS [.string pS] from rfl) (Reps.one (show Kd.M Kd.string _ _ _ lr [.string lr] from rfl) (Reps.none _ _)))); intro b37 F4 DG hb hg_ hnew_; clear hg_ hnew_; (first | rw [← J8.out] at DG | (simp only [Int.reduceToNat] at DG; rw [← J8.out] at DG)); have qZ := am_ (Kd.R_lower DG (below_size bl_)); replace kD := bb_ kD hb; replace HB := hs_ w hb; clear hb DG; obtain ⟨a55, a56, a57⟩ := Kd.R_slice qZ.out; subst a57) | ((with_reducible refine gate_callee (f := 49) rfl ?_); refine gl_ 13 Tryd.func49 #[.string a0, .slice a55 MO.length a56] ?_ rfl rfl rfl rfl; (with_reducible refine (F49.calls k a0 _ _ MO MP MQ _ ?s1 ?s2 A6.out).mono ?_); (case s1 => repeat (first | exact (Kd.R_reads' qZ.out).2.2 | (with_reducible refine Kd.C_alloc ?_ _) | (with_reducible refine Kd.C_drewN ?_ _) | (with_reducible refine Kd.C_drew ?_))); (case s2 => exact (Kd.R_reads' qZ.out).2.1); rintro e OD ⟨b38, rfl, bm, hb⟩; refine ⟨_, rfl, ?_⟩; have J9 := am_ (Kd.S_lower (Kd.S_new' bm (Kd.R_lt (rk_ qZ))) (below_size bl_)); replace qZ := am_ (Kd.R_below (rk_ qZ) hb); replace kD := bb_ kD hb; replace HB := hs_ w hb; clear hb bm; obtain ⟨iS, iT, iU, iV⟩ := cellsF2 kD.out; obtain ⟨zV, zW, zX⟩ := Kd.S_slice J9.out; subst zX))
 refine bodyPost_ret (results_cell_row rfl _ _ DF 52 #[.string MP, .slice zV MQ.length zW] (0, 0) _ rfl (bq_ kD) Tryd.underlying52 rfl (by kernel_rfl)) rfl ?_
 exact ⟨_, au4_0, by (with_reducible repeat (first | apply Kd.S_alloc | apply Kd.S_drewN | apply Kd.S_drew)); exact Kd.S_mono (Kd.S_far (p := ⟨DF, 1, none⟩) (Kd.S_far (p := ⟨DF, 0, none⟩) (Kd.S_types J9.out kD.out (by decide)) (fun _ hk => hk.2) (.string MP)) (fun _ hk => hk.2) (.slice zV MQ.length zW)) (fun _ hk => trivial), bl_⟩

/-! ### F51: function 51 -/
def F51.l0 : Nat → Int → ByteArray → List (S55) → ByteArray → List (S55) → Option (ByteArray × (List (S55)))
  | 0, _, _, _, _, _ => none
  | k + 1, x4, Hz, ph, yP, sm => if x4 < (ph.length : Int) then ((some (([] : List ByteArray) : List ByteArray)).bind fun u9 => (if 0 ≤ x4 then (if u9.length + ((rd_T55 ph x4).f0).length < 8796093022208 then (if sm.length < 5864062014805 then (F51.l0 k (wrap64 (x4 + 1)) Hz ph yP (sm ++ [(⟨(u9 ++ ((rd_T55 ph x4).f0))⟩ : S55)])) else (none)) else (none)) else (none))) else (some (yP, sm))
def F51.f (k : Nat) (ao : ByteArray) (ah : List (S55)) : Option (ByteArray × (List (S55))) := F51.l0 k 0 ao ah ao ([] : List (S55))
theorem F51.mono_l : ∀ k, (∀ y0 y1 y2 y3 y4, LeO (F51.l0 k y0 y1 y2 y3 y4) (F51.l0 (k + 1) y0 y1 y2 y3 y4))
 | 0 => fun _ _ _ _ _ r h => by simp [F51.l0] at h
 | k + 1 => by
  have b6 := F51.mono_l k
  intro y0 y1 y2 y3 y4
  unfold F51.l0
  repeat' with_reducible first | exact b6 _ _ _ _ _ | exact LeO.refl _ | exact LeO.none _ | refine LeO.ite ?_ ?_ | refine LeO.bind ?_ (fun _ => ?_)
theorem F51.mono : ∀ a0 a1 k, LeO (F51.f k a0 a1) (F51.f (k + 1) a0 a1) := by
 intro a0 a1 k
 have b6 := F51.mono_l k
 unfold F51.f
 repeat' with_reducible first | exact b6 _ _ _ _ _ | exact LeO.refl _ | exact LeO.none _ | refine LeO.ite ?_ ?_ | refine LeO.bind ?_ (fun _ => ?_)
def F51.T5 : Bool × List (List Nat × List Nat) := (true, [([], []), ([0], [0]), ([], []), ([], []), ([3], [3]), ([], []), ([4, 5], [4, 5]), ([6], [6]), ([7], [7]), ([2, 8], [2, 8]), ([9], [9]), ([10], [10]), ([1, 11, 9], [1, 11]), ([0, 1, 2, 3, 4, 5, 6, 7, 8, 9, 10, 11, 12], []), ([13, 12, 12, 0, 1, 2, 3, 4, 5, 6, 7, 8, 9, 10, 11, 12], [12, 13])])
def F51.B5 : List Nat := [0, 1, 0, 0, 8, 0, 56, 120, 248, 508, 1020, 2044, 4095, 8191, 16383]
theorem F51.tab5 : rtab .any (opsOf Tryd.f51 5) = F51.T5 := by kernel_rfl
theorem F51.bits5 : waitsOk F51.T5.2 F51.B5 = true := by kernel_rfl
theorem F51.calls (k : Nat) (ao : ByteArray) (b7 : Option Addr) (bV : Nat) (ah : List (S55)) (r1 : ByteArray) (r2 : List (S55)) (w : World) (d9 : Kd.C k55 w b7 ah.length ah) (ea : ah.length ≤ bV) (h : F51.f k ao ah = some (r1, r2)) :
  Calls Tryd.prog 51 #[.agg #[.string ao, .slice b7 ah.length bV]] w fun e w' => ∃ tj : Value, e = .returned (.agg #[.string r1, tj]) ∧ Kd.S k55 55 w' w.heap.size (fun _ => True) tj r2 ∧ Below w.heap.size w w' := by
 have jn := Tryd.underlying52
 have sY := Tryd.underlying55
 have gD := am_ d9
 have iG := am_ ea
 clear d9 ea
 have HB := am_ (Below.refl w.heap.size w)
 have H : (F51.l0 k 0 ao ah ao ([] : List (S55))) = some (r1, r2) := h
 clear h
 have H' := am_ H
 clear H
 go_enter Tryd.func51, Tryd.ntmps51
 go_wp2_with (first | ((with_reducible refine gate_dst (N := 1) rfl ?_); refine be_ 1 #[.string ao, .slice b7 ah.length bV] 52 ?_; intro DH hg w2 hbox hb; have cg := am_ (hbox); have VK := am_ (gw_ hg bl_); have b0Y := VK; replace HB := hs_ w hb; clear hb hbox hg) | ((with_reducible refine gate_dst (N := 2) rfl ?_); refine be_ 2 #[.string (⟨#[]⟩ : ByteArray), .slice none 0 0] 52 ?_; intro yQ hg w3 hbox hb; have eM := am_ (hbox); have VL := am_ (gw_ hg bl_); have b0Z := VL; replace HB := hs_ w hb; have nI := am_ (gn_ hg (blkl_ cg)); have nJ := am_ (gm_ hg (blkl_ cg)); replace cg := bb_ cg hb; clear hb hbox hg; have a58 := nI.out; have a59 := nJ.out; obtain ⟨px, sn, pz, sq⟩ := cellsF2 cg.out) | ((with_reducible refine gate_dst (N := 3) rfl ?_); refine be_ 3 #[.string (⟨#[]⟩ : ByteArray), .slice none 0 0] 52 ?_; intro tT hg w6 hbox hb; have dc := am_ (hbox); have VM := am_ (gw_ hg bl_); have b00 := VM; replace HB := hs_ w hb; have lm := am_ (gn_ hg (blkl_ cg)); have ln := am_ (gm_ hg (blkl_ cg)); replace cg := bb_ cg hb; have nK := am_ (gn_ hg (blkl_ eM)); have nL := am_ (gm_ hg (blkl_ eM)); replace eM := bb_ eM hb; clear hb hbox hg; have Vk := ln.out; have Vl := lm.out; have a6a := nL.out; have a6b := nK.out; obtain ⟨jf, jg, kp, jh⟩ := cellsF2 dc.out))
 go_loopg [4] k (fun kq v4 w' => ∃ (aJ : Int) (dr : List (S55)) (iZ : Value), v4 = .int .i64 aJ ∧ Aside0 (F51.l0 kq aJ ao ah ao dr = some (r1, r2)) ∧ Aside0 (kq ≤ k) ∧ Aside0 (Kd.S k55 55 w' w.heap.size (fun _ => True) iZ dr) ∧ Aside0 (w'.heap[DH]? = some (.cells #[.string ao, (.slice b7 ah.length bV)] 52 (0, 0))) ∧ Aside0 (w'.heap[yQ]? = some (.cells #[.string (⟨#[]⟩ : ByteArray), (.slice none 0 0)] 52 (0, 0))) ∧ Aside0 (w'.heap[tT]? = some (.cells #[.string ao, iZ] 52 (0, 0))) ∧ Aside0 (Below w.heap.size w w'))
 case atStart => exact ⟨(0), (([] : List (S55))), (.slice none 0 0), er_, H', ⟨Nat.le_refl _⟩, ⟨au4_11⟩, ⟨bf_ cg⟩, ⟨bf_ eM⟩, ⟨bq_ dc⟩, ⟨bl_⟩⟩
 case round =>
  clear H'
  try clear px sn
  try clear jf jg
  try clear pz sq
  try clear kp jh
  obtain ⟨aJ, dr, iZ, rfl, HA, dk, cd, cg, eM, dc, HB⟩ := hrel
  cases gk with
  | zero => exact absurd HA.out (by simp [F51.l0])
  | succ k1 =>
   have H := HA.out
   clear HA
   simp only [F51.l0] at H
   replace H := it_ H; rcases H with ⟨c10b0, H⟩ | ⟨c10b0, H⟩
   rotate_left
   ·simp only [Option.some.injEq, Prod.mk.injEq] at H
    obtain ⟨rfl, rfl⟩ := H
    have CP := nI.out
    have CQ := nJ.out
    have VN := lm.out
    have VO := ln.out
    obtain ⟨yR, yS, yT, yU⟩ := cellsF2 cg.out
    have Dm := nL.out
    have Dn := nK.out
    obtain ⟨lh, mC, ll, mD⟩ := cellsF2 dc.out
    obtain ⟨oI, oJ, oK, oL⟩ := cellsF2 eM.out
    obtain ⟨VP, VQ, a6c⟩ := Kd.S_slice cd.out
    subst a6c
    go_wp2
    refine bodyPost_ret (results_cell_row rfl _ _ yQ 52 #[.string ao, .slice VP dr.length VQ] (0, 0) _ rfl (bq_ eM) Tryd.underlying52 rfl (by kernel_rfl)) rfl ?_
    exact ⟨_, au4_0, by (with_reducible repeat (first | apply Kd.S_alloc | apply Kd.S_drewN | apply Kd.S_drew)); exact Kd.S_mono (Kd.S_far (p := ⟨yQ, 1, none⟩) (Kd.S_far (p := ⟨yQ, 0, none⟩) (Kd.S_types cd.out eM.out (by decide)) (fun _ hk => hk.2) (.string ao)) (fun _ hk => hk.2) (.slice VP dr.length VQ)) (fun _ hk => trivial), bl_⟩

   obtain ⟨u9, DI⟩ : ∃ y_ : List ByteArray, y_ = (([] : List ByteArray)) := ⟨_, rfl⟩
   replace H : (if 0 ≤ aJ then (if u9.length + ((rd_T55 ah aJ).f0).length < 8796093022208 then (if dr.length < 5864062014805 then (F51.l0 k1 (wrap64 (aJ + 1)) ao ah ao (dr ++ [(⟨(u9 ++ ((rd_T55 ah aJ).f0))⟩ : S55)])) else (none)) else (none)) else (none)) = some (r1, r2) := by first | (rw [DI]; exact H) | exact H
   have Ka := am_ DI
   clear DI
   replace H := itn_ H; rcases H with ⟨c11b0, H⟩
   replace H := iln_ H; rcases H with ⟨VR, H⟩
   obtain ⟨At, DJ⟩ : ∃ y_ : List ByteArray, y_ = (u9 ++ ((rd_T55 ah aJ).f0)) := ⟨_, rfl⟩
   replace H : (if dr.length < 5864062014805 then (F51.l0 k1 (wrap64 (aJ + 1)) ao ah ao (dr ++ [(⟨At⟩ : S55)])) else (none)) = some (r1, r2) := by first | (rw [DJ]; exact H) | exact H
   have VS := am_ DJ
   clear DJ
   replace H := iln_ H; rcases H with ⟨DK, H⟩
   obtain ⟨HE, DL⟩ : ∃ y_ : List (S55), y_ = (dr ++ [(⟨At⟩ : S55)]) := ⟨_, rfl⟩
   replace H : (F51.l0 k1 (wrap64 (aJ + 1)) ao ah ao HE) = some (r1, r2) := by first | (rw [DL]; exact H) | exact H
   have VT := am_ DL
   clear DL
   have H' := am_ H
   clear H
   have Kb := nI.out
   have Ke := nJ.out
   have Kf := lm.out
   have Kg := ln.out
   obtain ⟨yV, HF, yW, HI⟩ := cellsF2 cg.out
   try go_wp2
   replace cd := am_ (Kd.S_drew cd.out)
   replace cg := bd_ cg
   replace eM := bd_ eM
   replace dc := bd_ dc
   replace HB := am_ (below_drew1 HB.out)
   have MR : 0 ≤ (aJ : Int) := od_
   have MS : aJ < (ah.length : Int) := od_
   obtain ⟨Kh, MT, MU, a6d, mP, yX, yY⟩ := at_T55 gD.out aJ MR MS
   have eV := mP
   cases a6d
   replace mP := (HB.out.cell (World.block_lt_of_cell? _ _ mP)).trans mP
   have yZ := am_ yY
   have a0d := am_ yX
   clear yY yX
   replace MR := eq_true MR
   replace MS := eq_true MS
   refine start_ (n := 15) (S := fun w' => w'.cell? ⟨tT, 0, none⟩ = some (.string ao) ∧ w'.cell? ⟨tT, 1, none⟩ = some (iZ) ∧ w'.cell? ⟨DH, 0, none⟩ = some (.string ao) ∧ w'.cell? ⟨DH, 1, none⟩ = some (.slice (some Kh) ah.length bV) ∧ w'.cell? (Kh.add (aJ).toNat) = some (.slice MT ((rd_T55 ah aJ).f0).length MU)) (ds := [14]) (bs 15 0) (by kernel_rfl) rfl rfl ⟨(blk_cell dc.out 0).trans rfl, (blk_cell dc.out 1).trans rfl, (blk_cell cg.out 0).trans rfl, (blk_cell cg.out 1).trans rfl, ((HB.out.cell (World.block_lt_of_cell? _ _ eV)).trans eV)⟩ (fun hHeld => ?_); refine with_tabW F51.tab5 F51.bits5 (fun HT_ HW_ => ?_)
   generalize wr.drew = w17 at cd cg eM dc HB yZ mP hHeld ⊢
   refine pu_ 0 15 (bs 15 1) HT_ ?_ rfl rfl
   refine pu_ 3 18 (bs 15 9) HT_ ?_ rfl rfl
   refine pu_ 5 20 (bs 15 41) HT_ ?_ rfl rfl
   refine tk_ 1 16 (bs 15 43) HT_ HW_ hHeld au4_12 ?_ rfl rfl
   refine tk_ 4 19 (bs 15 59) HT_ HW_ hHeld au4_12 ?_ rfl rfl
   refine pu_ 6 21 (bs 15 123) HT_ ?_ rfl rfl
   refine pu_ 7 22 (bs 15 251) HT_ ?_ rfl rfl
   refine tk_ 8 23 (bs 15 507) HT_ HW_ hHeld au4_12 ?_ rfl rfl
   refine one_ (i := 2) (N := some 17) (bs 15 511) rfl rfl (one_of HT_.out (by kernel_rfl)) (by decide) (fun K hK => ?_)
   refine Kd.R_lit_step Kd.string _ 9 ?hg (N := 17) ?hd (xs := ([] : List ByteArray)) (inner := []) (ok := fun _ => True) (okp := fun _ => True) ?hr ?hp (fun _ hk => hk) trivial (Below.refl _ _) (Nat.le_refl _) (by simp) ?_; (case hd => rfl); (case hg => rfl); (case hr => exact hr_); (case hp => exact (Reps.none _ _))
   intro a6e Fv Au hb hg_ hnew_
   clear hg_ hnew_
   (first | rw [← Ka.out] at Au | (simp only [Int.reduceToNat] at Au; rw [← Ka.out] at Au))
   replace cd := am_ (Kd.S_elder' au4_14 (Kd.R_base Au) hb)
   have tU := am_ (Kd.R_lower Au (below_size bl_))
   replace cg := bb_ cg hb
   replace eM := bb_ eM hb
   replace dc := bb_ dc hb
   replace HB := hs_ w hb
   clear hb Au
   refine hK.out _ _ ⟨(blk_cell dc.out 0).trans rfl, (blk_cell dc.out 1).trans rfl, (blk_cell cg.out 0).trans rfl, (blk_cell cg.out 1).trans rfl, ((HB.out.cell (World.block_lt_of_cell? _ _ eV)).trans eV)⟩ (fun hHeld => ?_)
   clear hK K
   refine no_ 17 ?_
   refine one_ (i := 9) (N := some 24) (bs 15 1023) rfl rfl (one_of HT_.out (by kernel_rfl)) (by decide) (fun K hK => ?_)
   refine Kd.R_append_rows_step Kd.string (w0 := w) w.heap.size (by rfl) (.tmp 17) (.tmp 23) 53 9 (.string ⟨#[]⟩) 16 rfl Tryd.underlying53 info9 rfl (by decide) (by omega) a6e u9 ((rd_T55 ah aJ).f0) _ _ _ (fun _ => True) (fun _ => False) rfl rfl ?aO ?aR (fun _ _ h => h) (fun _ h => h.elim) ?aF ?aB ?aS ?aL ?_
   (case aR => repeat (first | exact (Kd.C_below yZ.out HB.out) | (with_reducible refine Kd.C_alloc ?_ _) | (with_reducible refine Kd.C_drewN ?_ _) | (with_reducible refine Kd.C_drew ?_)))
   (case aB => exact bl_)
   (case aF => exact (fun _ _ => trivial))
   (case aO => exact (rk_ tU))
   (case aS => exact (below_size bl_))
   (case aL => have := VR.out; omega)
   intro b39 xr ho hb hg hat
   rw [← VS.out] at ho
   replace cd := am_ (Kd.S_after (ok := (fun _ => True)) au4_14 hg hat)
   replace cg := am_ (bg_ cg hg (Kd.R_ne tU.out cg.out (by decide)))
   replace eM := am_ (bg_ eM hg (Kd.R_ne tU.out eM.out (by decide)))
   replace dc := am_ (bg_ dc hg (Kd.R_ne tU.out dc.out (by decide)))
   replace HB := am_ (hb)
   have za := am_ (ho)
   clear tU
   clear ho hb hg hat
   obtain ⟨VU, VV, VW⟩ := Kd.R_slice za.out
   (first | subst VW | (injection VW with dY gS dZ; have gT := dY.symm; have gU := dZ.symm; clear dY gS dZ; subst gT; subst gU))
   refine hK.out _ _ ⟨(blk_cell dc.out 0).trans rfl, (blk_cell dc.out 1).trans rfl, (blk_cell cg.out 0).trans rfl, (blk_cell cg.out 1).trans rfl, ((HB.out.cell (World.block_lt_of_cell? _ _ eV)).trans eV)⟩ (fun hHeld => ?_)
   clear hK K
   refine no_ 24 ?_
   refine pu_ 10 25 (bs 15 2047) HT_ ?_ rfl rfl
   refine one_ (i := 11) (N := some 26) (bs 15 4095) rfl rfl (one_of HT_.out (by kernel_rfl)) (by decide) (fun K hK => ?_)
   refine value_ (w1 := ?_) (v := ?_) (by rfl) rfl ?_ ?_
   rotate_left 2
   ·go_simp
    constructor
    ·rfl
    ·rfl
   refine hK.out _ _ ⟨(blk_cell (blk_alloc dc.out _) 0).trans rfl, (blk_cell (blk_alloc dc.out _) 1).trans rfl, (blk_cell (blk_alloc cg.out _) 0).trans rfl, (blk_cell (blk_alloc cg.out _) 1).trans rfl, (World.cell?_alloc_lt _ _ _ (World.block_lt_of_cell? _ _ (((HB.out.cell (World.block_lt_of_cell? _ _ eV)).trans eV)))).trans (((HB.out.cell (World.block_lt_of_cell? _ _ eV)).trans eV))⟩ (fun hHeld => ?_)
   clear hK K
   refine no_ 26 ?_
   refine one_ (i := 12) (N := some 27) (bs 15 8191) rfl rfl (one_of HT_.out (by kernel_rfl)) (by decide) (fun K hK => ?_)
   refine Kd.S_append_step k55 (w0 := w) w.heap.size (by rfl) (.tmp 16) (.tmp 26) 50 55 (.agg #[(.slice none 0 0)]) 24 rfl Tryd.underlying50 info55 rfl (by decide) (by omega) iZ dr (⟨At⟩ : S55) [.slice VU At.length VV] (fun _ => True) (fun k_ => some k_ = (.slice VU At.length VV : Value).ownBlock) rfl rfl ?aP (fun k_ hk_ => ((Kd.R_mono (ok' := fun k_ => ((fun _ => True)) k_ ∧ some k_ ≠ (iZ : Value).ownBlock) (Kd.R_apart' (za.out) (Kd.S_typed cd.out) (by decide)) (fun k_ hk => ⟨trivial, hk.2⟩))).1 k_ hk_.symm) ?aF ?aO ?aB ?aS ?aL ?_
   (case aP => exact k55_mkM _ _ _ (⟨At⟩ : S55) (Kd.R_mono (Kd.R_tight rfl (Kd.R_mono (ok' := fun k_ => ((fun _ => True)) k_ ∧ some k_ ≠ (iZ : Value).ownBlock) (Kd.R_apart' (za.out) (Kd.S_typed cd.out) (by decide)) (fun k_ hk => ⟨trivial, hk.2⟩))) (fun _ h_ => h_)))
   (case aB => exact bl_)
   (case aF => exact (fun _ _ => trivial))
   (case aO => exact (by (with_reducible repeat (first | apply Kd.S_alloc | apply Kd.S_drewN | apply Kd.S_drew)); exact Kd.S_mono cd.out (fun k_ hk => ⟨trivial, fun e_ => hk.2 e_⟩)))
   (case aS => exact (below_size bl_))
   (case aL => have := DK.out; omega)
   intro b4a OC ho hb hg hat
   rw [← VT.out] at ho
   replace cg := am_ (bg_ cg hg (Kd.S_ne cd.out cg.out (by decide)))
   replace eM := am_ (bg_ eM hg (Kd.S_ne cd.out eM.out (by decide)))
   replace dc := am_ (bg_ dc hg (Kd.S_ne cd.out dc.out (by decide)))
   replace HB := am_ (hb)
   have Ki := am_ (ho)
   clear cd za
   clear ho hb hg hat
   obtain ⟨MV, MW, HJ⟩ := Kd.S_slice Ki.out
   (first | subst HJ | (injection HJ with dY gS dZ; have gT := dY.symm; have gU := dZ.symm; clear dY gS dZ; subst gT; subst gU))
   refine hK.out _ _ ⟨(blk_cell dc.out 0).trans rfl, (blk_cell dc.out 1).trans rfl, (blk_cell cg.out 0).trans rfl, (blk_cell cg.out 1).trans rfl, ((HB.out.cell (World.block_lt_of_cell? _ _ eV)).trans eV)⟩ (fun hHeld => ?_)
   clear hK K
   refine no_ 27 ?_
   refine pu_ 13 28 (bs 15 16383) HT_ ?_ rfl rfl
   refine last_ (i := 14) (N := none) (bs 15 32767) rfl rfl (one_of HT_.out (by kernel_rfl)) (by decide) (fun K hK => ?_)
   have b4b : OC.cell? ⟨tT, 1, none⟩ = some (iZ) := (blk_cell dc.out 1).trans rfl
   have b01 := blk_frozen dc.out 1
   have a0e := lm.out
   have a0f := nK.out
   have a0g := ln.out
   have a0h := nL.out
   refine skip_ (w1 := ?_) (by rfl) rfl ?_ ?_
   rotate_left
   ·go_simp
    rfl
   refine hK.out _ _ ?_
   clear hK K
   refine done_ (done_of HT_.out (by kernel_rfl)) ?_
   try go_wp2
   go_roundg k1
   case measure => have := dk.out; omega
   case rel => exact ⟨(wrap64 (aJ + 1)), (HE), (.slice MV HE.length MW), er_, H', ⟨by have := dk.out; omega⟩, ⟨by (with_reducible repeat (first | apply Kd.S_alloc | apply Kd.S_drewN | apply Kd.S_drew)); exact Kd.S_mono (Kd.S_far (p := ⟨tT, 1, none⟩) (Kd.S_types Ki.out dc.out (by decide)) (fun _ hk => hk.2) (.slice MV HE.length MW)) (fun _ hk => trivial)⟩, ⟨bf_ cg⟩, ⟨bf_ eM⟩, ⟨bq_ dc⟩, ⟨bl_⟩⟩
/-! ### F22: function 22 -/
mutual
def F22.l0 : Nat → List (S52) → Int → ByteArray → ByteArray → Int → List (S83) → Option ((List (S52)))
  | 0, _, _, _, _, _, _ => none
  | k + 1, x3, x4, jX, jY, i6, d6 => if x4 < (d6.length : Int) then (if 0 ≤ x4 then ((F48.f k (⟨#[71, 82, 72]⟩ : ByteArray) ((rd_T83 d6 x4).f0) ((rd_T83 d6 x4).f1)).bind fun Kj => (if x3.length < 3518437208883 then (F22.l1 k (x3 ++ [(⟨Kj.1, Kj.2⟩ : S52)]) x4 0 jX jY i6 d6 ((rd_T83 d6 x4).f0) ((rd_T83 d6 x4).f1) ((rd_T83 d6 x4).f2)) else (none))) else (none)) else ((F48.f k (⟨#[73, 88, 84]⟩ : ByteArray) (d6.length : Int) i6).bind fun Kk => (if x3.length < 3518437208883 then (some (x3 ++ [(⟨Kk.1, Kk.2⟩ : S52)])) else (none)))
def F22.l1 : Nat → List (S52) → Int → Int → ByteArray → ByteArray → Int → List (S83) → Int → Int → List (S85) → Option ((List (S52)))
  | 0, _, _, _, _, _, _, _, _, _, _ => none
  | k + 1, x3, x4, x6, jX, jY, i6, d6, pi, mQ, hY => if x6 < (hY.length : Int) then (if 0 ≤ x6 then ((F50.f k ((rd_T85 hY x6).f0)).bind fun tV => ((F49.f k (⟨#[77, 83, 72]⟩ : ByteArray) (([tV] : List ByteArray))).bind fun tW => (if x3.length < 3518437208883 then (F22.l2 k (x3 ++ [(⟨tW.1, tW.2⟩ : S52)]) x4 x6 0 jX jY i6 d6 pi mQ hY ((rd_T85 hY x6).f0) ((rd_T85 hY x6).f1)) else (none)))) else (none)) else ((F48.f k (⟨#[71, 82, 84]⟩ : ByteArray) (hY.length : Int) mQ).bind fun Kl => (if x3.length < 3518437208883 then (F22.l0 k (x3 ++ [(⟨Kl.1, Kl.2⟩ : S52)]) (wrap64 (x4 + 1)) jX jY i6 d6) else (none)))
def F22.l2 : Nat → List (S52) → Int → Int → Int → ByteArray → ByteArray → Int → List (S83) → Int → Int → List (S85) → Int → List (S52) → Option ((List (S52)))
  | 0, _, _, _, _, _, _, _, _, _, _, _, _, _ => none
  | k + 1, x3, x4, x6, x8, jX, jY, i6, d6, pi, mQ, hY, zb, mR => if x8 < (mR.length : Int) then (if 0 ≤ x8 then ((F51.f k ((rd_T52 mR x8).f0) ((rd_T52 mR x8).f1)).bind fun Km => (if x3.length < 3518437208883 then (F22.l2 k (x3 ++ [(⟨Km.1, Km.2⟩ : S52)]) x4 x6 (wrap64 (x8 + 1)) jX jY i6 d6 pi mQ hY zb mR) else (none))) else (none)) else ((F48.f k (⟨#[77, 83, 84]⟩ : ByteArray) (mR.length : Int) zb).bind fun Kn => (if x3.length < 3518437208883 then (F22.l1 k (x3 ++ [(⟨Kn.1, Kn.2⟩ : S52)]) x4 (wrap64 (x6 + 1)) jX jY i6 d6 pi mQ hY) else (none)))
end
def F22.f (k : Nat) (ao : ByteArray) (bD : ByteArray) (bJ : Int) (ar : List (S83)) : Option ((List (S52))) := (some (([] : List (S52)) : List (S52))).bind fun nM => ((F21.f k ao bD bJ ar).bind fun Av => (if Av = true then ((F35.f k ao bD bJ ar).bind fun ov => (if nM.length < 3518437208883 then (F22.l0 k (nM ++ [(⟨ov.1, ov.2⟩ : S52)]) 0 ao bD bJ ar) else (none))) else (some nM)))
theorem F22.mono_l : ∀ k, (∀ y0 y1 y2 y3 y4 y5, LeO (F22.l0 k y0 y1 y2 y3 y4 y5) (F22.l0 (k + 1) y0 y1 y2 y3 y4 y5)) ∧ (∀ y0 y1 y2 y3 y4 y5 y6 y7 y8 y9, LeO (F22.l1 k y0 y1 y2 y3 y4 y5 y6 y7 y8 y9) (F22.l1 (k + 1) y0 y1 y2 y3 y4 y5 y6 y7 y8 y9)) ∧ (∀ y0 y1 y2 y3 y4 y5 y6 y7 y8 y9 lD pF uw, LeO (F22.l2 k y0 y1 y2 y3 y4 y5 y6 y7 y8 y9 lD pF uw) (F22.l2 (k + 1) y0 y1 y2 y3 y4 y5 y6 y7 y8 y9 lD pF uw))
 | 0 => ⟨fun _ _ _ _ _ _ r h => by simp [F22.l0] at h, fun _ _ _ _ _ _ _ _ _ _ r h => by simp [F22.l1] at h, fun _ _ _ _ _ _ _ _ _ _ _ _ _ r h => by simp [F22.l2] at h⟩
 | k + 1 => by
  obtain ⟨b6, fd, gI⟩ := F22.mono_l k
  refine ⟨?_, ?_, ?_⟩
  rotate_left
  ·intro y0 y1 y2 y3 y4 y5 y6 y7 y8 y9
   unfold F22.l1
   repeat' with_reducible first | exact b6 _ _ _ _ _ _ | exact fd _ _ _ _ _ _ _ _ _ _ | exact gI _ _ _ _ _ _ _ _ _ _ _ _ _ | exact F21.mono _ _ _ _ _ | exact F50.mono _ _ | exact F51.mono _ _ _ | exact F35.mono _ _ _ _ _ | exact F49.mono _ _ _ | exact F48.mono _ _ _ _ | exact LeO.refl _ | exact LeO.none _ | refine LeO.ite ?_ ?_ | refine LeO.bind ?_ (fun _ => ?_)
  ·intro y0 y1 y2 y3 y4 y5 y6 y7 y8 y9 lD pF uw
   unfold F22.l2
   repeat' with_reducible first | exact b6 _ _ _ _ _ _ | exact fd _ _ _ _ _ _ _ _ _ _ | exact gI _ _ _ _ _ _ _ _ _ _ _ _ _ | exact F21.mono _ _ _ _ _ | exact F50.mono _ _ | exact F51.mono _ _ _ | exact F35.mono _ _ _ _ _ | exact F49.mono _ _ _ | exact F48.mono _ _ _ _ | exact LeO.refl _ | exact LeO.none _ | refine LeO.ite ?_ ?_ | refine LeO.bind ?_ (fun _ => ?_)
  intro y0 y1 y2 y3 y4 y5
  unfold F22.l0
  repeat' with_reducible first | exact b6 _ _ _ _ _ _ | exact fd _ _ _ _ _ _ _ _ _ _ | exact gI _ _ _ _ _ _ _ _ _ _ _ _ _ | exact F21.mono _ _ _ _ _ | exact F50.mono _ _ | exact F51.mono _ _ _ | exact F35.mono _ _ _ _ _ | exact F49.mono _ _ _ | exact F48.mono _ _ _ _ | exact LeO.refl _ | exact LeO.none _ | refine LeO.ite ?_ ?_ | refine LeO.bind ?_ (fun _ => ?_)
theorem F22.mono : ∀ a0 a1 a2 a3 k, LeO (F22.f k a0 a1 a2 a3) (F22.f (k + 1) a0 a1 a2 a3) := by
 intro a0 a1 a2 a3 k
 obtain ⟨b6, fd, gI⟩ := F22.mono_l k
 unfold F22.f
 repeat' with_reducible first | exact b6 _ _ _ _ _ _ | exact fd _ _ _ _ _ _ _ _ _ _ | exact gI _ _ _ _ _ _ _ _ _ _ _ _ _ | exact F21.mono _ _ _ _ _ | exact F50.mono _ _ | exact F51.mono _ _ _ | exact F35.mono _ _ _ _ _ | exact F49.mono _ _ _ | exact F48.mono _ _ _ _ | exact LeO.refl _ | exact LeO.none _ | refine LeO.ite ?_ ?_ | refine LeO.bind ?_ (fun _ => ?_)
theorem F22.calls (k : Nat) (ao : ByteArray) (bD : ByteArray) (bJ : Int) (ls : Option Addr) (g9 : Nat) (ar : List (S83)) (r : List (S52)) (w : World) (oo : Kd.C k83 w ls ar.length ar) (oq : ar.length ≤ g9) (h : F22.f k ao bD bJ ar = some r) :
  Calls Tryd.prog 22 #[.agg #[.string ao, .string bD, .int .i64 bJ, .slice ls ar.length g9]] w fun e w' => ∃ DM : Value, e = .returned (DM) ∧ Kd.S k52 52 w' w.heap.size (fun _ => True) DM r ∧ Below w.heap.size w w' := by
 have tH := Tryd.underlying29
 have Aa := Tryd.underlying83
 have GL := Tryd.underlying85
 have jn := Tryd.underlying52
 have tQ := am_ oo
 have tR := am_ oq
 clear oo oq
 have HB := am_ (Below.refl w.heap.size w)
 have H : ((some (([] : List (S52)) : List (S52))).bind fun nM => ((F21.f k ao bD bJ ar).bind fun Av => (if Av = true then ((F35.f k ao bD bJ ar).bind fun ov => (if nM.length < 3518437208883 then (F22.l0 k (nM ++ [(⟨ov.1, ov.2⟩ : S52)]) 0 ao bD bJ ar) else (none))) else (some nM)))) = some r := h
 clear h
 obtain ⟨nM, DN⟩ : ∃ y_ : List (S52), y_ = (([] : List (S52))) := ⟨_, rfl⟩
 replace H : ((F21.f k ao bD bJ ar).bind fun Av => (if Av = true then ((F35.f k ao bD bJ ar).bind fun ov => (if nM.length < 3518437208883 then (F22.l0 k (nM ++ [(⟨ov.1, ov.2⟩ : S52)]) 0 ao bD bJ ar) else (none))) else (some nM))) = some r := by first | (rw [DN]; exact H) | exact H
 have zc := am_ DN
 clear DN
 replace H := bi_ H; rcases H with ⟨Av, A2, H⟩
 replace H := ib_ H; rcases H with ⟨rfl, H⟩ | ⟨rfl, H⟩
 rotate_left
 ·obtain rfl := Option.some.inj H
  go_enter Tryd.func22, Tryd.ntmps22
  go_wp2_with (first | ((with_reducible refine gate_dst (N := 1) rfl ?_); refine be_ 1 #[.string ao, .string bD, .int .i64 bJ, .slice ls ar.length g9] 29 ?_; intro ra hg w75 hbox hb; have bb := am_ (hbox); have DO := am_ (gw_ hg bl_); have VX := DO; replace HB := hs_ w hb; clear hb hbox hg) | ((with_reducible refine gate_dst (N := 9) rfl ?_); refine Kd.S_lit k52 _ 52 ?hg (N := 9) ?hd (xs := ([] : List (S52))) (inner := []) (ok := fun _ => True) (okp := fun _ => True) ?hr ?hp (fun _ hk => hk) trivial (Below.refl _ _) (Nat.le_refl _) (by simp) ?_; (case hd => rfl); (case hg => rfl); (case hr => exact hr_); (case hp => exact (Reps.none _ _)); intro MX w76 DP hb hg_ hnew_; clear hg_ hnew_; (first | rw [← zc.out] at DP | (simp only [Int.reduceToNat] at DP; rw [← zc.out] at DP)); have kC := am_ (Kd.S_lower DP (below_size bl_)); replace bb := bb_ bb hb; replace HB := hs_ w hb; clear hb DP; obtain ⟨a0i, a0j, a0k, a0l, a0m, a0n, a0o, a0p⟩ := cellsF4 bb.out) | (go_at_call 21; (with_reducible refine (F21.calls k ao bD bJ _ _ ar false _ ?s1 ?s2 A2.out).mono ?_); (case s1 => exact au4_6); (case s2 => exact tR.out); rintro e w79 ⟨rfl, hb⟩; (try clear A2); replace kC := am_ (Kd.S_below au4_10 hb); replace bb := bb_ bb hb; replace HB := hs_ w hb; clear hb))
  go_ret
  exact ⟨_, au4_0, by (with_reducible repeat (first | apply Kd.S_alloc | apply Kd.S_drewN | apply Kd.S_drew)); exact kC.out, bl_⟩

 replace H := bi_ H; rcases H with ⟨⟨DQ, qH⟩, A4, H⟩
 replace H := iln_ H; rcases H with ⟨a6f, H⟩
 obtain ⟨VY, DR⟩ : ∃ y_ : List (S52), y_ = (nM ++ [(⟨DQ, qH⟩ : S52)]) := ⟨_, rfl⟩
 replace H : (F22.l0 k VY 0 ao bD bJ ar) = some r := by first | (rw [DR]; exact H) | exact H
 have VZ := am_ DR
 clear DR
 have H' := am_ H
 clear H
 go_enter Tryd.func22, Tryd.ntmps22
 go_wp2_with (first | ((with_reducible refine gate_dst (N := 1) rfl ?_); refine be_ 1 #[.string ao, .string bD, .int .i64 bJ, .slice ls ar.length g9] 29 ?_; intro ra hg w6 hbox hb; have bb := am_ (hbox); have DO := am_ (gw_ hg bl_); have VX := DO; replace HB := hs_ w hb; clear hb hbox hg) | ((with_reducible refine gate_dst (N := 9) rfl ?_); refine Kd.S_lit k52 _ 52 ?hg (N := 9) ?hd (xs := ([] : List (S52))) (inner := []) (ok := fun _ => True) (okp := fun _ => True) ?hr ?hp (fun _ hk => hk) trivial (Below.refl _ _) (Nat.le_refl _) (by simp) ?_; (case hd => rfl); (case hg => rfl); (case hr => exact hr_); (case hp => exact (Reps.none _ _)); intro MX w7 V0 hb hg_ hnew_; clear hg_ hnew_; (first | rw [← zc.out] at V0 | (simp only [Int.reduceToNat] at V0; rw [← zc.out] at V0)); have kC := am_ (Kd.S_lower V0 (below_size bl_)); replace bb := bb_ bb hb; replace HB := hs_ w hb; clear hb V0; obtain ⟨jf, jg, nh, ni, kp, jh, nj, nk⟩ := cellsF4 bb.out) | (go_at_call 21; (with_reducible refine (F21.calls k ao bD bJ _ _ ar true _ ?s1 ?s2 A2.out).mono ?_); (case s1 => exact au4_6); (case s2 => exact tR.out); rintro e F4 ⟨rfl, hb⟩; (try clear A2); replace kC := am_ (Kd.S_below au4_10 hb); replace bb := bb_ bb hb; replace HB := hs_ w hb; clear hb; obtain ⟨fe, ff, fg, fh, f6, fi, fj, fk⟩ := cellsF4 bb.out) | (go_at_call 35; (with_reducible refine (F35.calls k ao bD bJ _ _ ar DQ qH _ ?s1 ?s2 A4.out).mono ?_); (case s1 => exact au4_6); (case s2 => exact tR.out); rintro e rx ⟨b4c, rfl, bm, hb⟩; (try clear A4); obtain ⟨jE, ij, ik⟩ := nb9_ bm; replace kC := am_ (Kd.S_elder' (Kd.S_mono (Kd.S_bound au4_10) (fun k_ hk_ => (⟨ij _ hk_.2.2.1, hk_.1⟩ : k_ < jE ∧ _))) (Kd.S_base bm) hb); have DS := am_ (Kd.S_lower ik (below_size bl_)); replace bb := bb_ bb hb; replace HB := hs_ w hb; clear hb bm; obtain ⟨a6g, a6h, a6i⟩ := Kd.S_slice DS.out; subst a6i) | ((with_reducible refine gate_builtin (b := .append) (xs := #[.tmp 14, .tmp 17]) rfl ?_); at_builtin; refine Kd.S_append k52 (w0 := w) w.heap.size rfl (.tmp 14) (.tmp 17) 38 52 (.agg #[(.string ⟨#[]⟩), (.slice none 0 0)]) 40 rfl Tryd.underlying38 info52 rfl (by decide) (by omega) MX nM (⟨DQ, qH⟩ : S52) [.string DQ, .slice a6g qH.length a6h] (fun _ => True) (fun k_ => jE ≤ k_ ∧ (fun _ => True) k_) rfl rfl ?aP (fun k_ hk_ => ⟨hk_.2, fun e_ => Nat.not_le.2 (by have g_ := (Kd.S_R kC.out).1 k_ e_.symm; first | exact g_.1.1 | exact g_.1 | exact g_.1.1.1) hk_.1⟩) ?aF ?aO ?aB ?aS ?aL ?_; (case aP => exact k52_mkM _ _ _ (⟨DQ, qH⟩ : S52) (Kd.S_mono (Kd.S_apart' (DS.out) (Kd.S_typed kC.out) (by decide)) (fun k_ hk => ⟨au4_4, (show ((fun _ => True)) k_ ∧ some k_ ≠ (MX : Value).ownBlock from ⟨trivial, hk.2⟩).1⟩))); (case aB => exact bl_); (case aF => exact (fun _ _ => trivial)); (case aO => exact (by (with_reducible repeat (first | apply Kd.S_alloc | apply Kd.S_drewN | apply Kd.S_drew)); exact Kd.S_mono kC.out (fun k_ hk => ⟨trivial, fun xV => Nat.not_le.2 au4_4 xV.1⟩))); (case aS => exact (below_size bl_)); (case aL => have := a6f.out; omega); intro b4d OD ho hb hg hat; rw [← VZ.out] at ho; replace bb := am_ (bg_ bb hg (Kd.S_ne kC.out bb.out (by decide))); replace HB := am_ (hb); have V1 := am_ (ho); clear kC DS; clear ho hb hg hat))
 go_loopg [3, 4] k (fun kq v3 v4 w' => ∃ (cl : List (S52)) (aJ : Int), v4 = .int .i64 aJ ∧ Aside0 (F22.l0 kq cl aJ ao bD bJ ar = some r) ∧ Aside0 (kq ≤ k) ∧ Aside0 (Kd.S k52 52 w' w.heap.size (fun _ => True) v3 cl) ∧ Aside0 (w'.heap[ra]? = some (.cells #[.string ao, .string bD, .int .i64 bJ, (.slice ls ar.length g9)] 29 (0, 0))) ∧ Aside0 (Below w.heap.size w w'))
 case atStart => exact ⟨(VY), (0), er_, H', ⟨Nat.le_refl _⟩, ⟨by (with_reducible repeat (first | apply Kd.S_alloc | apply Kd.S_drewN | apply Kd.S_drew)); exact V1.out⟩, ⟨bk_ bb⟩, ⟨bl_⟩⟩
 case round =>
  clear H'
  try clear fe ff fg fh
  try clear jf jg nh ni
  try clear f6 fi fj fk
  try clear kp jh nj nk
  obtain ⟨cl, aJ, rfl, HA, dk, da, bb, HB⟩ := hrel
  cases gk with
  | zero => exact absurd HA.out (by simp [F22.l0])
  | succ k1 =>
   have H := HA.out
   clear HA
   simp only [F22.l0] at H
   replace H := it_ H; rcases H with ⟨c15b0, H⟩ | ⟨c15b0, H⟩
   rotate_left
   ·replace H := bi_ H; rcases H with ⟨⟨DT, nF⟩, A69, H⟩
    replace H := iln_ H; rcases H with ⟨V2, H⟩
    obtain ⟨a6j, DU⟩ : ∃ y_ : List (S52), y_ = (cl ++ [(⟨DT, nF⟩ : S52)]) := ⟨_, rfl⟩
    replace H : (some a6j) = some r := by first | (rw [DU]; exact H) | exact H
    have V3 := am_ DU
    clear DU
    obtain rfl := Option.some.inj H
    obtain ⟨Hq, Hr, a0q, a0r, Hs, Ht, a0s, a0t⟩ := cellsF4 bb.out
    go_wp2_with (first | (go_at_call 48; (with_reducible refine (F48.calls k1 (⟨#[73, 88, 84]⟩ : ByteArray) (ar.length : Int) bJ DT nF _ A69.out).mono ?_); rintro e w72 ⟨b4e, rfl, bm, hb⟩; (try clear A69); obtain ⟨jE, ij, ik⟩ := nb9_ bm; replace da := am_ (Kd.S_elder' (Kd.S_mono (Kd.S_bound au4_2) (fun k_ hk_ => (⟨ij _ hk_.2.2.1, hk_.1⟩ : k_ < jE ∧ _))) (Kd.S_base bm) hb); have DV := am_ (Kd.S_lower ik (below_size bl_)); replace bb := bb_ bb hb; replace HB := hs_ w hb; clear hb bm; obtain ⟨a6k, a6l, a6m⟩ := Kd.S_slice DV.out; subst a6m) | ((with_reducible refine gate_builtin (b := .append) (xs := #[.tmp 93, .tmp 100]) rfl ?_); at_builtin; refine Kd.S_append k52 (w0 := w) w.heap.size rfl (.tmp 93) (.tmp 100) 38 52 (.agg #[(.string ⟨#[]⟩), (.slice none 0 0)]) 40 rfl Tryd.underlying38 info52 rfl (by decide) (by omega) u3 cl (⟨DT, nF⟩ : S52) [.string DT, .slice a6k nF.length a6l] (fun _ => True) (fun k_ => jE ≤ k_ ∧ (fun _ => True) k_) rfl rfl ?aP (fun k_ hk_ => ⟨hk_.2, fun e_ => Nat.not_le.2 au4_3 hk_.1⟩) ?aF ?aO ?aB ?aS ?aL ?_; (case aP => exact k52_mkM _ _ _ (⟨DT, nF⟩ : S52) (Kd.S_mono (Kd.S_apart' (DV.out) (Kd.S_typed da.out) (by decide)) (fun k_ hk => ⟨au4_4, (show ((fun _ => True)) k_ ∧ some k_ ≠ (u3 : Value).ownBlock from ⟨trivial, hk.2⟩).1⟩))); (case aB => exact bl_); (case aF => exact (fun _ _ => trivial)); (case aO => exact au4_1); (case aS => exact (below_size bl_)); (case aL => have := V2.out; omega); intro b4f w73 ho hb hg hat; rw [← V3.out] at ho; replace bb := am_ (bg_ bb hg (Kd.S_ne da.out bb.out (by decide))); replace HB := am_ (hb); have V4 := am_ (ho); clear da DV; clear ho hb hg hat))
    go_ret
    exact ⟨_, au4_0, by (with_reducible repeat (first | apply Kd.S_alloc | apply Kd.S_drewN | apply Kd.S_drew)); exact V4.out, bl_⟩
   replace H := itn_ H; rcases H with ⟨c16b0, H⟩
   replace H := bi_ H; rcases H with ⟨⟨rX, DW⟩, Rp, H⟩
   replace H := iln_ H; rcases H with ⟨V5, H⟩
   obtain ⟨V6, DX⟩ : ∃ y_ : List (S52), y_ = (cl ++ [(⟨rX, DW⟩ : S52)]) := ⟨_, rfl⟩
   replace H : (F22.l1 k1 V6 aJ 0 ao bD bJ ar ((rd_T83 ar aJ).f0) ((rd_T83 ar aJ).f1) ((rd_T83 ar aJ).f2)) = some r := by first | (rw [DX]; exact H) | exact H
   have V7 := am_ DX
   clear DX
   have H' := am_ H
   clear H
   obtain ⟨oP, oQ, rC, rD, oR, oS, rE, rF⟩ := cellsF4 bb.out
   have DY : 0 ≤ (aJ : Int) := od_
   have DZ : aJ < (ar.length : Int) := od_
   obtain ⟨zd, vj, pW, a6n, mS, mT, mU, ze, zf⟩ := at_T83 tQ.out aJ DY DZ
   cases a6n
   replace mS := (HB.out.cell (World.block_lt_of_cell? _ _ mS)).trans mS
   replace mT := (HB.out.cell (World.block_lt_of_cell? _ _ mT)).trans mT
   replace mU := (HB.out.cell (World.block_lt_of_cell? _ _ mU)).trans mU
   have HU := am_ zf
   have a0u := am_ ze
   clear zf ze
   replace DY := eq_true DY
   replace DZ := eq_true DZ
   go_wp2_with (first | ((with_reducible refine gate_dst (N := 5) rfl ?_); refine be_ 5 #[.int .i64 0, .int .i64 0, .slice none 0 0] 83 ?_; intro pX hg xr hbox hb; replace da := am_ (Kd.S_below au4_2 hb); have bT := am_ (hbox); have V8 := am_ (gw_ hg bl_); have b03 := V8; replace HB := hs_ w hb; have nN := am_ (gn_ hg (blkl_ bb)); have nO := am_ (gm_ hg (blkl_ bb)); replace bb := bb_ bb hb; clear hb hbox hg; have b04 := nO.out; have b05 := nN.out; obtain ⟨sr, ss, zg, st, su, zh⟩ := cellsF3 bT.out) | (go_at_call 48; (with_reducible refine (F48.calls k1 (⟨#[71, 82, 72]⟩ : ByteArray) ((rd_T83 ar aJ).f0) ((rd_T83 ar aJ).f1) rX DW _ Rp.out).mono ?_); rintro e w23 ⟨b4g, rfl, bm, hb⟩; (try clear Rp); obtain ⟨jE, ij, ik⟩ := nb9_ bm; replace da := am_ (Kd.S_elder' (Kd.S_mono (Kd.S_bound (by (with_reducible repeat (first | apply Kd.S_alloc | apply Kd.S_drewN | apply Kd.S_drew)); exact (Kd.S_mono (Kd.S_far (p := ⟨pX, 2, none⟩) (Kd.S_far (p := ⟨pX, 1, none⟩) (Kd.S_far (p := ⟨pX, 0, none⟩) (Kd.S_types da.out bT.out (by decide)) (fun _ hk => hk.2) (.int .i64 ((rd_T83 ar aJ).f0))) (fun _ hk => hk.2) (.int .i64 ((rd_T83 ar aJ).f1))) (fun _ hk => hk.2) (.slice vj ((rd_T83 ar aJ).f2).length pW)) (fun _ h_ => h_.1)))) (fun k_ hk_ => (⟨ij _ hk_.2.2.1, hk_.1⟩ : k_ < jE ∧ _))) (Kd.S_base bm) hb); have D0 := am_ (Kd.S_lower ik (below_size bl_)); replace bb := am_ (blk_below (g := ra) (o := .cells #[.string ao, .string bD, .int .i64 bJ, .slice (some zd) ar.length g9] 29 (0, 0)) (bf_ bb) hb); replace bT := am_ (blk_below (g := pX) (o := .cells #[.int .i64 ((rd_T83 ar aJ).f0), .int .i64 ((rd_T83 ar aJ).f1), .slice vj ((rd_T83 ar aJ).f2).length pW] 83 (0, 0)) (bq_ bT) hb); replace HB := hs_ w hb; clear hb bm; obtain ⟨a6o, a6p, a6q⟩ := Kd.S_slice D0.out; subst a6q) | ((with_reducible refine gate_builtin (b := .append) (xs := #[.tmp 31, .tmp 37]) rfl ?_); at_builtin; refine Kd.S_append k52 (w0 := w) w.heap.size rfl (.tmp 31) (.tmp 37) 38 52 (.agg #[(.string ⟨#[]⟩), (.slice none 0 0)]) 40 rfl Tryd.underlying38 info52 rfl (by decide) (by omega) u3 cl (⟨rX, DW⟩ : S52) [.string rX, .slice a6o DW.length a6p] (fun _ => True) (fun k_ => jE ≤ k_ ∧ (fun _ => True) k_) rfl rfl ?aP (fun k_ hk_ => ⟨hk_.2, fun e_ => Nat.not_le.2 au4_3 hk_.1⟩) ?aF ?aO ?aB ?aS ?aL ?_; (case aP => exact k52_mkM _ _ _ (⟨rX, DW⟩ : S52) (Kd.S_mono (Kd.S_apart' (D0.out) (Kd.S_typed da.out) (by decide)) (fun k_ hk => ⟨au4_4, (show ((fun _ => True)) k_ ∧ some k_ ≠ (u3 : Value).ownBlock from ⟨trivial, hk.2⟩).1⟩))); (case aB => exact bl_); (case aF => exact (fun _ _ => trivial)); (case aO => exact au4_1); (case aS => exact (below_size bl_)); (case aL => have := V5.out; omega); intro b4h w24 ho hb hg hat; rw [← V7.out] at ho; replace bb := am_ (bg_ bb hg (Kd.S_ne da.out bb.out (by decide))); replace bT := am_ (bg_ bT hg (Kd.S_ne da.out bT.out (by decide))); replace HB := am_ (hb); have V9 := am_ (ho); clear da D0; clear ho hb hg hat))
   go_loopg [3, 6] k1 (fun kq v3 v6 w' => ∃ (aw : List (S52)) (cY : Int), v6 = .int .i64 cY ∧ Aside0 (F22.l1 kq aw aJ cY ao bD bJ ar ((rd_T83 ar aJ).f0) ((rd_T83 ar aJ).f1) ((rd_T83 ar aJ).f2) = some r) ∧ Aside0 (kq ≤ k1) ∧ Aside0 (Kd.S k52 52 w' w.heap.size (fun _ => True) v3 aw) ∧ Aside0 (w'.heap[ra]? = some (.cells #[.string ao, .string bD, .int .i64 bJ, (.slice (some zd) ar.length g9)] 29 (0, 0))) ∧ Aside0 (w'.heap[pX]? = some (.cells #[.int .i64 ((rd_T83 ar aJ).f0), .int .i64 ((rd_T83 ar aJ).f1), (.slice vj ((rd_T83 ar aJ).f2).length pW)] 83 (0, 0))) ∧ Aside0 (Below w.heap.size w w'))
   case atStart => exact ⟨(V6), (0), er_, H', ⟨Nat.le_refl _⟩, ⟨by (with_reducible repeat (first | apply Kd.S_alloc | apply Kd.S_drewN | apply Kd.S_drew)); exact V9.out⟩, ⟨bk_ bb⟩, ⟨bk_ bT⟩, ⟨bl_⟩⟩
   case round =>
    clear H'
    try clear c15b0
    try clear c16b0
    try clear fe ff fg fh
    try clear oP oQ rC rD
    try clear sr ss zg
    try clear jf jg nh ni
    try clear f6 fi fj fk
    try clear oR oS rE rF
    try clear st su zh
    try clear kp jh nj nk
    try clear mS
    try clear mT
    try clear mU
    try clear DY
    try clear DZ
    obtain ⟨aw, cY, rfl, HA, HK2, da, bb, bT, HB⟩ := hrel
    cases gk with
    | zero => exact absurd HA.out (by simp [F22.l1])
    | succ k2 =>
     have H := HA.out
     clear HA
     simp only [F22.l1] at H
     replace H := it_ H; rcases H with ⟨c26b0, H⟩ | ⟨c26b0, H⟩
     rotate_left
     ·replace H := bi_ H; rcases H with ⟨⟨D1, D2⟩, sX, H⟩
      replace H := iln_ H; rcases H with ⟨Wa, H⟩
      obtain ⟨Wb, D3⟩ : ∃ y_ : List (S52), y_ = (aw ++ [(⟨D1, D2⟩ : S52)]) := ⟨_, rfl⟩
      replace H : (F22.l0 k2 Wb (wrap64 (aJ + 1)) ao bD bJ ar) = some r := by first | (rw [D3]; exact H) | exact H
      have Wc := am_ D3
      clear D3
      have H' := am_ H
      clear H
      have I1 := nO.out
      have I2 := nN.out
      obtain ⟨oW, oX, a0v, oY, oZ, a0w⟩ := cellsF3 bT.out
      go_wp2_with (first | (go_at_call 48; (with_reducible refine (F48.calls k2 (⟨#[71, 82, 84]⟩ : ByteArray) (((rd_T83 ar aJ).f2).length : Int) ((rd_T83 ar aJ).f1) D1 D2 _ sX.out).mono ?_); rintro e w66 ⟨b4j, rfl, bm, hb⟩; (try clear sX); obtain ⟨jE, ij, ik⟩ := nb9_ bm; replace da := am_ (Kd.S_elder' (Kd.S_mono (Kd.S_bound au4_2) (fun k_ hk_ => (⟨ij _ hk_.2.2.1, hk_.1⟩ : k_ < jE ∧ _))) (Kd.S_base bm) hb); have D4 := am_ (Kd.S_lower ik (below_size bl_)); replace bb := bb_ bb hb; replace bT := bb_ bT hb; replace HB := hs_ w hb; clear hb bm; obtain ⟨a6r, a6s, a6t⟩ := Kd.S_slice D4.out; subst a6t) | ((with_reducible refine gate_builtin (b := .append) (xs := #[.tmp 84, .tmp 91]) rfl ?_); at_builtin; refine Kd.S_append k52 (w0 := w) w.heap.size rfl (.tmp 84) (.tmp 91) 38 52 (.agg #[(.string ⟨#[]⟩), (.slice none 0 0)]) 40 rfl Tryd.underlying38 info52 rfl (by decide) (by omega) u3 aw (⟨D1, D2⟩ : S52) [.string D1, .slice a6r D2.length a6s] (fun _ => True) (fun k_ => jE ≤ k_ ∧ (fun _ => True) k_) rfl rfl ?aP (fun k_ hk_ => ⟨hk_.2, fun e_ => Nat.not_le.2 au4_3 hk_.1⟩) ?aF ?aO ?aB ?aS ?aL ?_; (case aP => exact k52_mkM _ _ _ (⟨D1, D2⟩ : S52) (Kd.S_mono (Kd.S_apart' (D4.out) (Kd.S_typed da.out) (by decide)) (fun k_ hk => ⟨au4_4, (show ((fun _ => True)) k_ ∧ some k_ ≠ (u3 : Value).ownBlock from ⟨trivial, hk.2⟩).1⟩))); (case aB => exact bl_); (case aF => exact (fun _ _ => trivial)); (case aO => exact au4_1); (case aS => exact (below_size bl_)); (case aL => have := Wa.out; omega); intro b4k w67 ho hb hg hat; rw [← Wc.out] at ho; replace bb := am_ (bg_ bb hg (Kd.S_ne da.out bb.out (by decide))); replace bT := am_ (bg_ bT hg (Kd.S_ne da.out bT.out (by decide))); replace HB := am_ (hb); have Wd := am_ (ho); clear da D4; clear ho hb hg hat))
      go_roundg k2
      case measure => have := dk.out; have := HK2.out; omega
      case rel => exact ⟨(Wb), (wrap64 (aJ + 1)), er_, H', ⟨by have := dk.out; have := HK2.out; omega⟩, ⟨by (with_reducible repeat (first | apply Kd.S_alloc | apply Kd.S_drewN | apply Kd.S_drew)); exact Wd.out⟩, ⟨bk_ bb⟩, ⟨bl_⟩⟩
     replace H := itn_ H; rcases H with ⟨c27b0, H⟩
     replace H := bi_ H; rcases H with ⟨tV, PL, H⟩
     obtain ⟨D5, D6⟩ : ∃ y_ : List ByteArray, y_ = (([tV] : List ByteArray)) := ⟨_, rfl⟩
     replace H : ((F49.f k2 (⟨#[77, 83, 72]⟩ : ByteArray) D5).bind fun tW => (if aw.length < 3518437208883 then (F22.l2 k2 (aw ++ [(⟨tW.1, tW.2⟩ : S52)]) aJ cY 0 ao bD bJ ar ((rd_T83 ar aJ).f0) ((rd_T83 ar aJ).f1) ((rd_T83 ar aJ).f2) ((rd_T85 ((rd_T83 ar aJ).f2) cY).f0) ((rd_T85 ((rd_T83 ar aJ).f2) cY).f1)) else (none))) = some r := by first | (rw [D6]; exact H) | exact H
     have Ko := am_ D6
     clear D6
     replace H := bi_ H; rcases H with ⟨⟨D7, D8⟩, AW, H⟩
     replace H := iln_ H; rcases H with ⟨We, H⟩
     obtain ⟨Wf, D9⟩ : ∃ y_ : List (S52), y_ = (aw ++ [(⟨D7, D8⟩ : S52)]) := ⟨_, rfl⟩
     replace H : (F22.l2 k2 Wf aJ cY 0 ao bD bJ ar ((rd_T83 ar aJ).f0) ((rd_T83 ar aJ).f1) ((rd_T83 ar aJ).f2) ((rd_T85 ((rd_T83 ar aJ).f2) cY).f0) ((rd_T85 ((rd_T83 ar aJ).f2) cY).f1)) = some r := by first | (rw [D9]; exact H) | exact H
     have Wg := am_ D9
     clear D9
     have H' := am_ H
     clear H
     have BP := nO.out
     have BQ := nN.out
     obtain ⟨lY, oM, rq, sv, oN, rr⟩ := cellsF3 bT.out
     have HW : 0 ≤ (cY : Int) := od_
     have HX : cY < (((rd_T83 ar aJ).f2).length : Int) := od_
     obtain ⟨Kp, vk, vl, a6u, pj, pk, zi, zj⟩ := at_T85 HU.out cY HW HX
     cases a6u
     replace pj := (HB.out.cell (World.block_lt_of_cell? _ _ pj)).trans pj
     replace pk := (HB.out.cell (World.block_lt_of_cell? _ _ pk)).trans pk
     have HY := am_ zj
     have a0x := am_ zi
     clear zj zi
     replace HW := eq_true HW
     replace HX := eq_true HX
     go_wp2_with (first | ((with_reducible refine gate_dst (N := 7) rfl ?_); refine be_ 7 #[.int .i64 0, .slice none 0 0] 85 ?_; intro zk hg K1 hbox hb; replace da := am_ (Kd.S_below au4_2 hb); have dw := am_ (hbox); have Wh := am_ (gw_ hg bl_); have b06 := Wh; replace HB := hs_ w hb; have nP := am_ (gn_ hg (blkl_ bb)); have nQ := am_ (gm_ hg (blkl_ bb)); replace bb := bb_ bb hb; have nR := am_ (gn_ hg (blkl_ bT)); have nS := am_ (gm_ hg (blkl_ bT)); replace bT := bb_ bT hb; clear hb hbox hg; have IV := nQ.out; have IW := nP.out; have Jt := nS.out; have Ju := nR.out; obtain ⟨gJ, gK, jU, gL⟩ := cellsF2 dw.out) | (go_at_call 50; (with_reducible refine (F50.calls k2 ((rd_T85 ((rd_T83 ar aJ).f2) cY).f0) tV _ PL.out).mono ?_); rintro e w37 ⟨rfl, hb⟩; (try clear PL); replace da := am_ (Kd.S_below (by (with_reducible repeat (first | apply Kd.S_alloc | apply Kd.S_drewN | apply Kd.S_drew)); exact (Kd.S_mono (Kd.S_far (p := ⟨zk, 1, none⟩) (Kd.S_far (p := ⟨zk, 0, none⟩) (Kd.S_types da.out dw.out (by decide)) (fun _ hk => hk.2) (.int .i64 ((rd_T85 ((rd_T83 ar aJ).f2) cY).f0))) (fun _ hk => hk.2) (.slice vk ((rd_T85 ((rd_T83 ar aJ).f2) cY).f1).length vl)) (fun _ h_ => h_.1))) hb); replace bb := am_ (blk_below (g := ra) (o := .cells #[.string ao, .string bD, .int .i64 bJ, .slice (some zd) ar.length g9] 29 (0, 0)) (bf_ bb) hb); replace bT := am_ (blk_below (g := pX) (o := .cells #[.int .i64 ((rd_T83 ar aJ).f0), .int .i64 ((rd_T83 ar aJ).f1), .slice (some Kp) ((rd_T83 ar aJ).f2).length pW] 83 (0, 0)) (bf_ bT) hb); replace dw := am_ (blk_below (g := zk) (o := .cells #[.int .i64 ((rd_T85 ((rd_T83 ar aJ).f2) cY).f0), .slice vk ((rd_T85 ((rd_T83 ar aJ).f2) cY).f1).length vl] 85 (0, 0)) (bq_ dw) hb); replace HB := hs_ w hb; clear hb) | ((with_reducible refine gate_dst (N := 55) rfl ?_); refine Kd.R_lit Kd.string _ 9 ?hg (N := 55) ?hd (xs := ([tV] : List ByteArray)) (inner := [.string tV]) (ok := fun _ => True) (okp := fun _ => True) ?hr ?hp (fun _ hk => hk) trivial (Below.refl _ _) (Nat.le_refl _) (by simp) ?_; (case hd => rfl); (case hg => rfl); (case hr => exact hr_); (case hp => exact (Reps.one (show Kd.M Kd.string _ _ _ tV [.string tV] from rfl) (Reps.none _ _))); intro b4l w38 Aw hb hg_ hnew_; clear hg_ hnew_; (first | rw [← Ko.out] at Aw | (simp only [Int.reduceToNat] at Aw; rw [← Ko.out] at Aw)); replace da := am_ (Kd.S_elder' au4_2 (Kd.R_base Aw) hb); have mV := am_ (Kd.R_lower Aw (below_size bl_)); replace bb := bb_ bb hb; replace bT := bb_ bT hb; replace dw := bb_ dw hb; replace HB := hs_ w hb; clear hb Aw; obtain ⟨MY, MZ, a6v⟩ := Kd.R_slice mV.out; subst a6v) | (go_at_call 49; (with_reducible refine (F49.calls k2 (⟨#[77, 83, 72]⟩ : ByteArray) _ _ D5 D7 D8 _ ?s1 ?s2 AW.out).mono ?_); (case s1 => repeat (first | exact (Kd.R_reads' mV.out).2.2 | (with_reducible refine Kd.C_alloc ?_ _) | (with_reducible refine Kd.C_drewN ?_ _) | (with_reducible refine Kd.C_drew ?_))); (case s2 => exact (Kd.R_reads' mV.out).2.1); rintro e w41 ⟨b4m, rfl, bm, hb⟩; (try clear AW); obtain ⟨jE, ij, ik⟩ := nb9_ bm; replace da := am_ (Kd.S_elder' (Kd.S_mono (Kd.S_bound au4_2) (fun k_ hk_ => (⟨ij _ hk_.2.2.1, hk_.1⟩ : k_ < jE ∧ _))) (Kd.S_base bm) hb); have Ea := am_ (Kd.S_lower (Kd.S_new' ik (Kd.R_lt (rk_ mV))) (below_size bl_)); replace mV := am_ (Kd.R_below (rk_ mV) hb); replace bb := bb_ bb hb; replace bT := bb_ bT hb; replace dw := bb_ dw hb; replace HB := hs_ w hb; clear hb bm; obtain ⟨a6w, a6x, a6y⟩ := Kd.S_slice Ea.out; subst a6y) | ((with_reducible refine gate_builtin (b := .append) (xs := #[.tmp 51, .tmp 57]) rfl ?_); at_builtin; refine Kd.S_append k52 (w0 := w) w.heap.size rfl (.tmp 51) (.tmp 57) 38 52 (.agg #[(.string ⟨#[]⟩), (.slice none 0 0)]) 40 rfl Tryd.underlying38 info52 rfl (by decide) (by omega) u3 aw (⟨D7, D8⟩ : S52) [.string D7, .slice a6w D8.length a6x] (fun k_ => some k_ ≠ (.slice MY D5.length MZ : Value).ownBlock) (fun k_ => jE ≤ k_ ∧ (fun k_ => some k_ ≠ (.slice MY D5.length MZ : Value).ownBlock) k_) rfl rfl ?aP (fun k_ hk_ => ⟨hk_.2, fun e_ => Nat.not_le.2 au4_3 hk_.1⟩) ?aF ?aO ?aB ?aS ?aL ?_; (case aP => exact k52_mkM _ _ _ (⟨D7, D8⟩ : S52) (Kd.S_mono (Kd.S_apart' (Ea.out) (Kd.S_typed da.out) (by decide)) (fun k_ hk => ⟨au4_4, (show ((fun k_ => some k_ ≠ (.slice MY D5.length MZ : Value).ownBlock)) k_ ∧ some k_ ≠ (u3 : Value).ownBlock from ⟨hk.1.2, hk.2⟩).1⟩))); (case aB => exact bl_); (case aF => exact (fun k_ hk => Kd.fresh' (Kd.R_lt (rk_ mV)) k_ hk)); (case aO => exact (by (with_reducible repeat (first | apply Kd.S_alloc | apply Kd.S_drewN | apply Kd.S_drew)); exact Kd.S_mono da.out (fun k_ hk => ⟨hk.1.2.2, fun xV => Nat.not_le.2 au4_4 xV.1⟩))); (case aS => exact (below_size bl_)); (case aL => have := We.out; omega); intro b4n AP ho hb hg hat; rw [← Wg.out] at ho; replace bb := am_ (bg_ bb hg (Kd.S_ne da.out bb.out (by decide))); replace bT := am_ (bg_ bT hg (Kd.S_ne da.out bT.out (by decide))); replace dw := am_ (bg_ dw hg (Kd.S_ne da.out dw.out (by decide))); replace mV := am_ (Kd.R_over' (rk_ mV) (Kd.S_typed au4_2) (by decide) hg); replace HB := am_ (hb); have Wi := am_ (ho); clear da Ea; clear ho hb hg hat))
     go_loopg [3, 8] k2 (fun kq v3 v8 w' => ∃ (vm : List (S52)) (gY : Int), v8 = .int .i64 gY ∧ Aside0 (F22.l2 kq vm aJ cY gY ao bD bJ ar ((rd_T83 ar aJ).f0) ((rd_T83 ar aJ).f1) ((rd_T83 ar aJ).f2) ((rd_T85 ((rd_T83 ar aJ).f2) cY).f0) ((rd_T85 ((rd_T83 ar aJ).f2) cY).f1) = some r) ∧ Aside0 (kq ≤ k2) ∧ Aside0 (Kd.S k52 52 w' w.heap.size (fun _ => True) v3 vm) ∧ Aside0 (w'.heap[ra]? = some (.cells #[.string ao, .string bD, .int .i64 bJ, (.slice (some zd) ar.length g9)] 29 (0, 0))) ∧ Aside0 (w'.heap[pX]? = some (.cells #[.int .i64 ((rd_T83 ar aJ).f0), .int .i64 ((rd_T83 ar aJ).f1), (.slice (some Kp) ((rd_T83 ar aJ).f2).length pW)] 83 (0, 0))) ∧ Aside0 (w'.heap[zk]? = some (.cells #[.int .i64 ((rd_T85 ((rd_T83 ar aJ).f2) cY).f0), (.slice vk ((rd_T85 ((rd_T83 ar aJ).f2) cY).f1).length vl)] 85 (0, 0))) ∧ Aside0 (Below w.heap.size w w'))
     case atStart => exact ⟨(Wf), (0), er_, H', ⟨Nat.le_refl _⟩, ⟨by (with_reducible repeat (first | apply Kd.S_alloc | apply Kd.S_drewN | apply Kd.S_drew)); exact Kd.S_mono Wi.out (fun _ hk => trivial)⟩, ⟨bk_ bb⟩, ⟨bk_ bT⟩, ⟨bk_ dw⟩, ⟨bl_⟩⟩
     case round =>
      clear H'
      try clear c15b0
      try clear c16b0
      try clear c26b0
      try clear c27b0
      try clear fe ff fg fh
      try clear oP oQ rC rD
      try clear sr ss zg
      try clear lY oM rq
      try clear gJ gK
      try clear jf jg nh ni
      try clear f6 fi fj fk
      try clear oR oS rE rF
      try clear st su zh
      try clear sv oN rr
      try clear jU gL
      try clear kp jh nj nk
      try clear mS
      try clear mT
      try clear mU
      try clear pj
      try clear pk
      try clear DY
      try clear HW
      try clear DZ
      try clear HX
      obtain ⟨vm, gY, rfl, HA, pC, da, bb, bT, dw, HB⟩ := hrel
      cases gk with
      | zero => exact absurd HA.out (by simp [F22.l2])
      | succ k3 =>
       have H := HA.out
       clear HA
       simp only [F22.l2] at H
       replace H := it_ H; rcases H with ⟨c44b0, H⟩ | ⟨c44b0, H⟩
       rotate_left
       ·replace H := bi_ H; rcases H with ⟨⟨Eb, Ec⟩, A54, H⟩
        replace H := iln_ H; rcases H with ⟨Wj, H⟩
        obtain ⟨Wk, Ed⟩ : ∃ y_ : List (S52), y_ = (vm ++ [(⟨Eb, Ec⟩ : S52)]) := ⟨_, rfl⟩
        replace H : (F22.l1 k3 Wk aJ (wrap64 (cY + 1)) ao bD bJ ar ((rd_T83 ar aJ).f0) ((rd_T83 ar aJ).f1) ((rd_T83 ar aJ).f2)) = some r := by first | (rw [Ed]; exact H) | exact H
        have Wl := am_ Ed
        clear Ed
        have H' := am_ H
        clear H
        have b08 := nQ.out
        have b09 := nP.out
        have b1a := nS.out
        have b1b := nR.out
        obtain ⟨G4, G5, G6, G7⟩ := cellsF2 dw.out
        go_wp2_with (first | (go_at_call 48; (with_reducible refine (F48.calls k3 (⟨#[77, 83, 84]⟩ : ByteArray) (((rd_T85 ((rd_T83 ar aJ).f2) cY).f1).length : Int) ((rd_T85 ((rd_T83 ar aJ).f2) cY).f0) Eb Ec _ A54.out).mono ?_); rintro e w59 ⟨b4o, rfl, bm, hb⟩; (try clear A54); obtain ⟨jE, ij, ik⟩ := nb9_ bm; replace da := am_ (Kd.S_elder' (Kd.S_mono (Kd.S_bound au4_2) (fun k_ hk_ => (⟨ij _ hk_.2.2.1, hk_.1⟩ : k_ < jE ∧ _))) (Kd.S_base bm) hb); have Ee := am_ (Kd.S_lower ik (below_size bl_)); replace bb := bb_ bb hb; replace bT := bb_ bT hb; replace dw := bb_ dw hb; replace HB := hs_ w hb; clear hb bm; obtain ⟨a6z, a6A, a6B⟩ := Kd.S_slice Ee.out; subst a6B) | ((with_reducible refine gate_builtin (b := .append) (xs := #[.tmp 75, .tmp 82]) rfl ?_); at_builtin; refine Kd.S_append k52 (w0 := w) w.heap.size rfl (.tmp 75) (.tmp 82) 38 52 (.agg #[(.string ⟨#[]⟩), (.slice none 0 0)]) 40 rfl Tryd.underlying38 info52 rfl (by decide) (by omega) u3 vm (⟨Eb, Ec⟩ : S52) [.string Eb, .slice a6z Ec.length a6A] (fun _ => True) (fun k_ => jE ≤ k_ ∧ (fun _ => True) k_) rfl rfl ?aP (fun k_ hk_ => ⟨hk_.2, fun e_ => Nat.not_le.2 au4_3 hk_.1⟩) ?aF ?aO ?aB ?aS ?aL ?_; (case aP => exact k52_mkM _ _ _ (⟨Eb, Ec⟩ : S52) (Kd.S_mono (Kd.S_apart' (Ee.out) (Kd.S_typed da.out) (by decide)) (fun k_ hk => ⟨au4_4, (show ((fun _ => True)) k_ ∧ some k_ ≠ (u3 : Value).ownBlock from ⟨trivial, hk.2⟩).1⟩))); (case aB => exact bl_); (case aF => exact (fun _ _ => trivial)); (case aO => exact au4_1); (case aS => exact (below_size bl_)); (case aL => have := Wj.out; omega); intro b4p w60 ho hb hg hat; rw [← Wl.out] at ho; replace bb := am_ (bg_ bb hg (Kd.S_ne da.out bb.out (by decide))); replace bT := am_ (bg_ bT hg (Kd.S_ne da.out bT.out (by decide))); replace dw := am_ (bg_ dw hg (Kd.S_ne da.out dw.out (by decide))); replace HB := am_ (hb); have Wm := am_ (ho); clear da Ee; clear ho hb hg hat))
        go_roundg k3
        case measure => have := dk.out; have := HK2.out; have := pC.out; omega
        case rel => exact ⟨(Wk), (wrap64 (cY + 1)), er_, H', ⟨by have := dk.out; have := HK2.out; have := pC.out; omega⟩, ⟨by (with_reducible repeat (first | apply Kd.S_alloc | apply Kd.S_drewN | apply Kd.S_drew)); exact Wm.out⟩, ⟨bk_ bb⟩, ⟨bk_ bT⟩, ⟨bl_⟩⟩
       replace H := itn_ H; rcases H with ⟨c45b0, H⟩
       replace H := bi_ H; rcases H with ⟨⟨Ef, Eg⟩, A46, H⟩
       replace H := iln_ H; rcases H with ⟨C8, H⟩
       obtain ⟨Wn, Eh⟩ : ∃ y_ : List (S52), y_ = (vm ++ [(⟨Ef, Eg⟩ : S52)]) := ⟨_, rfl⟩
       replace H : (F22.l2 k3 Wn aJ cY (wrap64 (gY + 1)) ao bD bJ ar ((rd_T83 ar aJ).f0) ((rd_T83 ar aJ).f1) ((rd_T83 ar aJ).f2) ((rd_T85 ((rd_T83 ar aJ).f2) cY).f0) ((rd_T85 ((rd_T83 ar aJ).f2) cY).f1)) = some r := by first | (rw [Eh]; exact H) | exact H
       have Wo := am_ Eh
       clear Eh
       have H' := am_ H
       clear H
       have b1d := nQ.out
       have b1e := nP.out
       have b1f := nS.out
       have b1g := nR.out
       obtain ⟨a0y, a0z, a0A, a0B⟩ := cellsF2 dw.out
       have M0 : 0 ≤ (gY : Int) := od_
       have M2 : gY < (((rd_T85 ((rd_T83 ar aJ).f2) cY).f1).length : Int) := od_
       obtain ⟨b1h, a6C, a6D, a6E, sw, sx, zl, zm⟩ := at_T52 HY.out gY M0 M2
       cases a6E
       replace sw := (HB.out.cell (World.block_lt_of_cell? _ _ sw)).trans sw
       replace sx := (HB.out.cell (World.block_lt_of_cell? _ _ sx)).trans sx
       have H0 := am_ zm
       have H3 := am_ zl
       clear zm zl
       replace M0 := eq_true M0
       replace M2 := eq_true M2
       go_wp2_with (first | (go_at_call 51; (with_reducible refine (F51.calls k3 ((rd_T52 ((rd_T85 ((rd_T83 ar aJ).f2) cY).f1) gY).f0) _ _ ((rd_T52 ((rd_T85 ((rd_T83 ar aJ).f2) cY).f1) gY).f1) Ef Eg _ ?s1 ?s2 A46.out).mono ?_); (case s1 => repeat (first | exact (Kd.C_below H0.out HB.out) | (with_reducible refine Kd.C_alloc ?_ _) | (with_reducible refine Kd.C_drewN ?_ _) | (with_reducible refine Kd.C_drew ?_))); (case s2 => exact H3.out); rintro e w51 ⟨b4r, rfl, bm, hb⟩; (try clear A46); obtain ⟨jE, ij, ik⟩ := nb9_ bm; replace da := am_ (Kd.S_elder' (Kd.S_mono (Kd.S_bound au4_2) (fun k_ hk_ => (⟨ij _ hk_.2.2.1, hk_.1⟩ : k_ < jE ∧ _))) (Kd.S_base bm) hb); have Ei := am_ (Kd.S_lower ik (below_size bl_)); replace bb := bb_ bb hb; replace bT := bb_ bT hb; replace dw := bb_ dw hb; replace HB := hs_ w hb; clear hb bm; obtain ⟨a6F, rO, GG⟩ := Kd.S_slice Ei.out; subst GG) | ((with_reducible refine gate_builtin (b := .append) (xs := #[.tmp 66, .tmp 73]) rfl ?_); at_builtin; refine Kd.S_append k52 (w0 := w) w.heap.size rfl (.tmp 66) (.tmp 73) 38 52 (.agg #[(.string ⟨#[]⟩), (.slice none 0 0)]) 40 rfl Tryd.underlying38 info52 rfl (by decide) (by omega) u3 vm (⟨Ef, Eg⟩ : S52) [.string Ef, .slice a6F Eg.length rO] (fun _ => True) (fun k_ => jE ≤ k_ ∧ (fun _ => True) k_) rfl rfl ?aP (fun k_ hk_ => ⟨hk_.2, fun e_ => Nat.not_le.2 au4_3 hk_.1⟩) ?aF ?aO ?aB ?aS ?aL ?_; (case aP => exact k52_mkM _ _ _ (⟨Ef, Eg⟩ : S52) (Kd.S_mono (Kd.S_apart' (Ei.out) (Kd.S_typed da.out) (by decide)) (fun k_ hk => ⟨au4_4, (show ((fun _ => True)) k_ ∧ some k_ ≠ (u3 : Value).ownBlock from ⟨trivial, hk.2⟩).1⟩))); (case aB => exact bl_); (case aF => exact (fun _ _ => trivial)); (case aO => exact au4_1); (case aS => exact (below_size bl_)); (case aL => have := C8.out; omega); intro b4s w52 ho hb hg hat; rw [← Wo.out] at ho; replace bb := am_ (bg_ bb hg (Kd.S_ne da.out bb.out (by decide))); replace bT := am_ (bg_ bT hg (Kd.S_ne da.out bT.out (by decide))); replace dw := am_ (bg_ dw hg (Kd.S_ne da.out dw.out (by decide))); replace HB := am_ (hb); have Wp := am_ (ho); clear da Ei; clear ho hb hg hat))
       go_roundg k3
       case measure => have := dk.out; have := HK2.out; have := pC.out; omega
       case rel => exact ⟨(Wn), (wrap64 (gY + 1)), er_, H', ⟨by have := dk.out; have := HK2.out; have := pC.out; omega⟩, ⟨by (with_reducible repeat (first | apply Kd.S_alloc | apply Kd.S_drewN | apply Kd.S_drew)); exact Wp.out⟩, ⟨bk_ bb⟩, ⟨bk_ bT⟩, ⟨bk_ dw⟩, ⟨bl_⟩⟩
/-! ### F23: function 23 -/
def F23.f (l0 : List Int) (a1 : Int) (a2 : Int) : Option (Int) := if a2 ≤ 1 then (some 0) else (if (l0.length : Int) = 0 then (some 0) else (if 0 ≤ (Int.tmod a1 (l0.length : Int)) then (if (Int.tmod a1 (l0.length : Int)) < (l0.length : Int) then (if a2 = 0 then (none) else (some (Int.tmod (wrap64 (rd l0 (Int.tmod a1 (l0.length : Int)))) a2))) else (none)) else (none)))
theorem F23.calls (A0 : Option Addr) (c0 : Nat) (l0 : List Int) (a1 : Int) (a2 : Int) (r : Int) (w : World) (eQ : Kd.C (Kd.int .u8) w A0 l0.length l0) (f9 : l0.length ≤ c0) (h : F23.f l0 a1 a2 = some r) :
  Calls Tryd.prog 23 #[.slice A0 l0.length c0, .int .i64 a1, .int .i64 a2] w fun e w' => e = .returned (.int .i64 r) ∧ Drawn0 w w' := by
 have n3 := am_ eQ
 have sV := am_ f9
 clear eQ f9
 have H : (if a2 ≤ 1 then (some 0) else (if (l0.length : Int) = 0 then (some 0) else (if 0 ≤ (Int.tmod a1 (l0.length : Int)) then (if (Int.tmod a1 (l0.length : Int)) < (l0.length : Int) then (if a2 = 0 then (none) else (some (Int.tmod (wrap64 (rd l0 (Int.tmod a1 (l0.length : Int)))) a2))) else (none)) else (none)))) = some r := h
 clear h
 replace H := it_ H; rcases H with ⟨c4b0, H⟩ | ⟨c4b0, H⟩
 ·obtain rfl := Option.some.inj H
  go_enter Tryd.func23, Tryd.ntmps23
  go_wp2
  go_ret
  exact ⟨er_, dn_⟩
 by_cases c5 : (l0.length : Int) = 0
 ·rw [if_pos c5] at H
  have c5b0 : ((l0.length : Int) == 0) = true := beq_iff_eq.mpr c5
  have c5b1 : ((l0.length : Int) != 0) = false := bne_eq_false_iff_eq.mpr c5
  clear c5
  obtain rfl := Option.some.inj H
  go_enter Tryd.func23, Tryd.ntmps23
  go_wp2
  go_ret
  exact ⟨er_, dn_⟩
 rw [if_neg c5] at H
 have c5b0 : ((l0.length : Int) == 0) = false := beq_eq_false_iff_ne.mpr c5
 have c5b1 : ((l0.length : Int) != 0) = true := bne_iff_ne.mpr c5
 have c5b2 : ¬ (l0 = []) := fun h_ => c5 (by rw [h_]; rfl)
 obtain ⟨Kq, M3⟩ : ∃ j_ : Int, (Int.tmod a1 (l0.length : Int)) = j_ := ⟨_, rfl⟩
 replace H : (if 0 ≤ (Kq) then (if (Kq) < (l0.length : Int) then (if a2 = 0 then (none) else (some (Int.tmod (wrap64 (rd l0 (Kq))) a2))) else (none)) else (none)) = some r := by first | (rw [M3] at H; exact H) | (simp only [M3] at H ⊢; exact H)
 by_cases c7 : 0 ≤ (Kq)
 rotate_left
 ·rw [if_neg c7] at H
  exact absurd H (by simp)

 rw [if_pos c7] at H
 have c7b0 : decide (0 ≤ (Kq)) = true := decide_eq_true c7
 clear c7
 replace H := itn_ H; rcases H with ⟨c8b0, H⟩
 by_cases c9 : a2 = 0
 ·rw [if_pos c9] at H
  exact absurd H (by simp)
 rw [if_neg c9] at H
 have c9b0 : (a2 == 0) = false := beq_eq_false_iff_ne.mpr c9
 have c9b1 : (a2 != 0) = true := bne_iff_ne.mpr c9
 obtain rfl := Option.some.inj H
 have M4 : 0 ≤ ((Kq) : Int) := od_
 have M5 : (Kq) < (l0.length : Int) := od_
 obtain ⟨b1j, a6G, a0C⟩ := Kd.at_int n3.out (Kq) M4 M5
 cases a6G
 replace M4 := eq_true M4
 replace M5 := eq_true M5
 go_enter Tryd.func23, Tryd.ntmps23
 go_wp2
 go_ret
 exact ⟨by first | rfl | (simp; done) | (simp only [← M3] <;> (first | rfl | simp)) | (simp [*]; done), dn_⟩
/-! ### F37: function 37 -/
def F37.f (l0 : List (S52)) : Option (Bool) := some (decide ((l0.length : Int) > 400))
theorem F37.calls (A0 : Option Addr) (c0 : Nat) (l0 : List (S52)) (r : Bool) (w : World) (eQ : Kd.C k52 w A0 l0.length l0) (f9 : l0.length ≤ c0) (h : F37.f l0 = some r) :
  Calls Tryd.prog 37 #[.slice A0 l0.length c0] w fun e w' => e = .returned (.bool r) ∧ Drawn0 w w' := by
 have n3 := am_ eQ
 have sV := am_ f9
 clear eQ f9
 have H : (some (decide ((l0.length : Int) > 400))) = some r := h
 clear h
 obtain rfl := Option.some.inj H
 go_enter Tryd.func37, Tryd.ntmps37
 go_wp2
 go_ret
 exact ⟨er_, dn_⟩

/-! ### F60: function 60 -/
def F60.l0 : Nat → ByteArray → Int → List ByteArray → List (S55) → Int → Int → ByteArray → List (S55) → Option (List ByteArray × Bool)
  | 0, _, _, _, _, _, _, _, _ => none
  | k + 1, x1, x2, x8, Wq, x14, FE, zn, H4 => if FE < x14 then (if 0 ≤ FE then (if FE < (Wq.length : Int) then (if (((rd_T55 Wq FE).f0).length : Int) = 1 then (if 0 < (((rd_T55 Wq FE).f0).length : Int) then (if x8.length < 8796093022208 then (F60.l0 k x1 x2 (x8 ++ [rdOf ByteArray.empty ((rd_T55 Wq FE).f0) 0]) Wq x14 (wrap64 (FE + 1)) zn H4) else (none)) else (none)) else (some (([] : List ByteArray), false))) else (none)) else (none)) else (if zn.toList = x1.toList then (some (x8, ((x8.length : Int) == x2))) else (some (x8, false)))
def F60.f (k : Nat) (ao : ByteArray) (ah : List (S55)) (a1 : ByteArray) (a2 : Int) : Option (List ByteArray × Bool) := F60.l0 k a1 a2 (([] : List ByteArray)) ah (ah.length : Int) 0 ao ah
theorem F60.mono_l : ∀ k, (∀ y0 y1 y2 y3 y4 y5 y6 y7, LeO (F60.l0 k y0 y1 y2 y3 y4 y5 y6 y7) (F60.l0 (k + 1) y0 y1 y2 y3 y4 y5 y6 y7))
 | 0 => fun _ _ _ _ _ _ _ _ r h => by simp [F60.l0] at h
 | k + 1 => by
  have b6 := F60.mono_l k
  intro y0 y1 y2 y3 y4 y5 y6 y7
  unfold F60.l0
  repeat' with_reducible first | exact b6 _ _ _ _ _ _ _ _ | exact LeO.refl _ | exact LeO.none _ | refine LeO.ite ?_ ?_ | refine LeO.bind ?_ (fun _ => ?_)
theorem F60.mono : ∀ a0 a1 a2 a3 k, LeO (F60.f k a0 a1 a2 a3) (F60.f (k + 1) a0 a1 a2 a3) := by
 intro a0 a1 a2 a3 k
 have b6 := F60.mono_l k
 unfold F60.f
 repeat' with_reducible first | exact b6 _ _ _ _ _ _ _ _ | exact LeO.refl _ | exact LeO.none _ | refine LeO.ite ?_ ?_ | refine LeO.bind ?_ (fun _ => ?_)
theorem F60.calls (k : Nat) (ao : ByteArray) (b7 : Option Addr) (bV : Nat) (ah : List (S55)) (a1 : ByteArray) (a2 : Int) (r1 : List ByteArray) (r2 : Bool) (w : World) (d9 : Kd.C k55 w b7 ah.length ah) (ea : ah.length ≤ bV) (h : F60.f k ao ah a1 a2 = some (r1, r2)) :
  Calls Tryd.prog 60 #[.agg #[.string ao, .slice b7 ah.length bV], .string a1, .int .i64 a2] w fun e w' => ∃ DM : Value, e = .returned (.tuple #[DM, .bool r2]) ∧ Kd.R Kd.string 9 w' w.heap.size (fun _ => True) DM r1 ∧ Below w.heap.size w w' := by
 have jn := Tryd.underlying52
 have sY := Tryd.underlying55
 have gD := am_ d9
 have iG := am_ ea
 clear d9 ea
 have HB := am_ (Below.refl w.heap.size w)
 have H : (F60.l0 k a1 a2 (([] : List ByteArray)) ah (ah.length : Int) 0 ao ah) = some (r1, r2) := h
 clear h
 obtain ⟨Wr, Ej⟩ : ∃ y_ : List ByteArray, y_ = (([] : List ByteArray)) := ⟨_, rfl⟩
 replace H : (F60.l0 k a1 a2 Wr ah (ah.length : Int) 0 ao ah) = some (r1, r2) := by first | (rw [Ej]; exact H) | exact H
 have Kr := am_ Ej
 clear Ej
 have H' := am_ H
 clear H
 go_enter Tryd.func60, Tryd.ntmps60
 go_wp2_with (first | ((with_reducible refine gate_dst (N := 3) rfl ?_); (try (refine gate_guard (by rfl) ?_; dsimp only)); refine be_ 3 #[.string ao, .slice b7 ah.length bV] 52 ?_; intro Ws hg w4 hbox hb; have fy := am_ (hbox); have Wt := am_ (gw_ hg bl_); have b1l := Wt; replace HB := hs_ w hb; clear hb hbox hg) | ((with_reducible refine gate_dst (N := 11) rfl ?_); (try (refine gate_guard (by rfl) ?_; dsimp only)); refine Kd.R_lit Kd.string _ 9 ?hg (N := 11) ?hd (xs := ([] : List ByteArray)) (inner := []) (ok := fun _ => True) (okp := fun _ => True) ?hr ?hp (fun _ hk => hk) trivial (Below.refl _ _) (Nat.le_refl _) (by simp) ?_; (case hd => rfl); (case hg => rfl); (case hr => exact hr_); (case hp => exact (Reps.none _ _)); intro b4t w5 up hb hg_ hnew_; clear hg_ hnew_; (first | rw [← Kr.out] at up | (simp only [Int.reduceToNat] at up; rw [← Kr.out] at up)); have Wu := am_ (Kd.R_lower up (below_size bl_)); replace fy := bb_ fy hb; replace HB := hs_ w hb; clear hb up; obtain ⟨jF, kr, ly, ks⟩ := cellsF2 fy.out))
 go_loopg [8, 15] k (fun kq v8 v15 w' => ∃ (ew : List ByteArray) (cU : Int), v15 = .int .i64 cU ∧ Aside0 (F60.l0 kq a1 a2 ew ah (ah.length : Int) cU ao ah = some (r1, r2)) ∧ Aside0 (kq ≤ k) ∧ Aside0 (Kd.R Kd.string 9 w' w.heap.size (fun _ => True) v8 ew) ∧ Aside0 (w'.heap[Ws]? = some (.cells #[.string ao, (.slice b7 ah.length bV)] 52 (0, 0))) ∧ Aside0 (Below w.heap.size w w'))
 case atStart => exact ⟨(Wr), (0), er_, H', ⟨Nat.le_refl _⟩, ⟨rk_ Wu⟩, ⟨bk_ fy⟩, ⟨bl_⟩⟩
 case round =>
  clear H'
  try clear jF kr
  try clear ly ks
  obtain ⟨ew, cU, rfl, HA, dk, pY, fy, HB⟩ := hrel
  cases gk with
  | zero => exact absurd HA.out (by simp [F60.l0])
  | succ k1 =>
   have H := HA.out
   clear HA
   simp only [F60.l0] at H
   replace H := it_ H; rcases H with ⟨c8b0, H⟩ | ⟨c8b0, H⟩
   rotate_left
   ·by_cases lu : ao.toList = a1.toList
    rotate_left
    ·rw [if_neg lu] at H
     have c21b0 : (ao.toList == a1.toList) = false := beq_eq_false_iff_ne.mpr lu
     have c21b1 : (ao.toList != a1.toList) = true := bne_iff_ne.mpr lu
     simp only [Option.some.injEq, Prod.mk.injEq] at H
     obtain ⟨rfl, rfl⟩ := H
     obtain ⟨Gh, Gi, a0D, Gj⟩ := cellsF2 fy.out
     go_wp2
     go_ret2
     exact ⟨_, au4_0, rk_ pY, bl_⟩

    rw [if_pos lu] at H
    have c21b0 : (ao.toList == a1.toList) = true := beq_iff_eq.mpr lu
    have c21b1 : (ao.toList != a1.toList) = false := bne_eq_false_iff_eq.mpr lu
    clear lu
    simp only [Option.some.injEq, Prod.mk.injEq] at H
    obtain ⟨rfl, rfl⟩ := H
    obtain ⟨sr, ss, st, su⟩ := cellsF2 fy.out
    obtain ⟨MV, MW, HJ⟩ := Kd.R_slice pY.out
    subst HJ
    go_wp2
    go_ret2
    exact ⟨_, au4_0, rk_ pY, bl_⟩
   replace H := itn_ H; rcases H with ⟨c9b0, H⟩
   replace H := itn_ H; rcases H with ⟨c10b0, H⟩
   by_cases ng : (((rd_T55 ah cU).f0).length : Int) = 1
   rotate_left
   ·rw [if_neg ng] at H
    have c11b0 : ((((rd_T55 ah cU).f0).length : Int) == 1) = false := beq_eq_false_iff_ne.mpr ng
    have c11b1 : ((((rd_T55 ah cU).f0).length : Int) != 1) = true := bne_iff_ne.mpr ng
    simp only [Option.some.injEq, Prod.mk.injEq] at H
    obtain ⟨rfl, rfl⟩ := H
    have vn : 0 ≤ (cU : Int) := od_
    have vo : cU < (ah.length : Int) := od_
    obtain ⟨Wv, M6, sy, M7, jZ, mW, mX⟩ := at_T55 gD.out cU vn vo
    cases M7
    replace jZ := (HB.out.cell (World.block_lt_of_cell? _ _ jZ)).trans jZ
    have zo := am_ mX
    have H5 := am_ mW
    clear mX mW
    replace vn := eq_true vn
    replace vo := eq_true vo
    go_wp2_with (first | ((with_reducible refine gate_dst (N := 10) rfl ?_); (try (refine gate_guard (by rfl) ?_; dsimp only)); refine be_ 10 #[.slice none 0 0] 55 ?_; intro pZ hg Fv hbox hb; replace pY := am_ (Kd.R_below (rk_ pY) hb); have mY := am_ (hbox); have zp := am_ (gw_ hg bl_); have Ww := zp; replace HB := hs_ w hb; have nT := am_ (gn_ hg (blkl_ fy)); have nU := am_ (gm_ hg (blkl_ fy)); replace fy := bb_ fy hb; clear hb hbox hg; have IT := nU.out; have IU := nT.out; have lc : Fv.cell? ⟨pZ, 0, none⟩ = some (.slice none 0 0) := (blk_cell mY.out 0).trans rfl; have ld := blk_frozen mY.out 0))
    go_ret2
    exact ⟨_, au4_0, by first | exact Kd.R_nil _ _ _ _ _ | exact Kd.N_nil _ _ _ _ _ | exact Kd.V_nil _ _ _ _ _ | exact Kd.Q_nil _ _ _ _ _ | exact Kd.S_nil _ _ _ _ _, bl_⟩
   rw [if_pos ng] at H
   have c11b0 : ((((rd_T55 ah cU).f0).length : Int) == 1) = true := beq_iff_eq.mpr ng
   have c11b1 : ((((rd_T55 ah cU).f0).length : Int) != 1) = false := bne_eq_false_iff_eq.mpr ng
   clear ng
   replace H := itn_ H; rcases H with ⟨c12b0, H⟩
   have c12b1 : decide (0 < ((rd_T55 ah cU).f0).length) = true := n2_ c12b0
   replace H := iln_ H; rcases H with ⟨DK, H⟩
   obtain ⟨Wx, Ek⟩ : ∃ y_ : List ByteArray, y_ = (ew ++ [rdOf ByteArray.empty ((rd_T55 ah cU).f0) 0]) := ⟨_, rfl⟩
   replace H : (F60.l0 k1 a1 a2 Wx ah (ah.length : Int) (wrap64 (cU + 1)) ao ah) = some (r1, r2) := by first | (rw [Ek]; exact H) | exact H
   have Wy := am_ Ek
   clear Ek
   have H' := am_ H
   clear H
   have vn : 0 ≤ (cU : Int) := od_
   have vo : cU < (ah.length : Int) := od_
   obtain ⟨Wv, M6, sy, M7, jZ, mW, mX⟩ := at_T55 gD.out cU vn vo
   cases M7
   replace jZ := (HB.out.cell (World.block_lt_of_cell? _ _ jZ)).trans jZ
   have zo := am_ mX
   have H5 := am_ mW
   clear mX mW
   replace vn := eq_true vn
   replace vo := eq_true vo
   go_wp2_with (first | ((with_reducible refine gate_dst (N := 10) rfl ?_); (try (refine gate_guard (by rfl) ?_; dsimp only)); refine be_ 10 #[.slice none 0 0] 55 ?_; intro pZ hg AN hbox hb; replace pY := am_ (Kd.R_below (rk_ pY) hb); have mY := am_ (hbox); have zp := am_ (gw_ hg bl_); have Ww := zp; replace HB := hs_ w hb; have nT := am_ (gn_ hg (blkl_ fy)); have nU := am_ (gm_ hg (blkl_ fy)); replace fy := bb_ fy hb; clear hb hbox hg; have Kf := nU.out; have Kg := nT.out; have yV : AN.cell? ⟨pZ, 0, none⟩ = some (.slice none 0 0) := (blk_cell mY.out 0).trans rfl; have yW := blk_frozen mY.out 0; have M8 : 0 ≤ (0 : Int) := (by omega); have M9 : 0 < (((rd_T55 ah cU).f0).length : Int) := od_; obtain ⟨zq, a6H, i7⟩ := Kd.at_string zo.out 0 M8 M9; cases a6H; have b1m : (0 < ((rd_T55 ah cU).f0).length) = True := eq_true (by omega); (try rw [show ((0 : Int)).toNat = 0 from rfl] at i7); (try rw [Addr.add_zero'] at i7); have pm : zq.block ≠ pZ := Nat.ne_of_lt (Nat.lt_of_lt_of_le (by have := World.block_lt_of_cell? _ _ i7; first | rwa [add_block] at this | exact this) zp.out); replace i7 := (HB.out.cell (World.block_lt_of_cell? _ _ i7)).trans i7; replace i7 := (cell_far (p := ⟨pZ, 0, none⟩) (by first | (rw [add_block]; exact pm) | (show (Addr.add _ _).block ≠ _; rw [add_block]; exact pm) | exact pm) (.slice (some zq) ((rd_T55 ah cU).f0).length sy)).trans i7; clear pm; replace M8 := eq_true M8; replace M9 := eq_true M9) | ((with_reducible refine gate_builtin (b := .append) (xs := #[.tmp 23, .tmp 28]) rfl ?_); (try (refine gate_guard (by rfl) ?_; dsimp only)); at_builtin; refine Kd.R_append Kd.string (w0 := w) w.heap.size rfl (.tmp 23) (.tmp 28) 53 9 (.string ⟨#[]⟩) 16 rfl Tryd.underlying53 info9 rfl (by decide) (by omega) u8 ew (rdOf ByteArray.empty ((rd_T55 ah cU).f0) 0) [.string (rdOf ByteArray.empty ((rd_T55 ah cU).f0) 0)] (fun _ => True) (fun _ => False) rfl (by first | (go_simp; done) | (go_simp; rfl)) ?aP (fun _ hk => hk.elim) ?aF ?aO ?aB ?aS ?aL ?_; (case aP => exact rfl); (case aB => exact bl_); (case aF => exact (fun _ _ => trivial)); (case aO => exact (by (with_reducible repeat (first | apply Kd.R_alloc | apply Kd.R_drewN | apply Kd.R_drew)); exact Kd.R_mono (Kd.R_far (p := ⟨pZ, 0, none⟩) (Kd.R_types pY.out mY.out (by decide)) (fun _ hk => hk.2) (.slice (some zq) ((rd_T55 ah cU).f0).length sy)) (fun _ hk => trivial))); (case aS => exact (below_size bl_)); (case aL => have := DK.out; omega); intro b4u w17 ho hb hg hat; rw [← Wy.out] at ho; replace fy := am_ (bg_ fy hg (Kd.R_ne pY.out fy.out (by decide))); replace mY := am_ (blk_grown (g := pZ) (o := .cells #[.slice (some zq) ((rd_T55 ah cU).f0).length sy] 55 (0, 0)) (bq_ mY) hg (Kd.R_ne pY.out mY.out (by decide))); replace HB := am_ (hb); have Wz := am_ (ho); clear pY; clear ho hb hg hat))
   go_roundg k1
   case measure => have := dk.out; omega
   case rel => exact ⟨(Wx), (wrap64 (cU + 1)), er_, H', ⟨by have := dk.out; omega⟩, ⟨rk_ Wz⟩, ⟨bk_ fy⟩, ⟨bl_⟩⟩
/-! ### F83: function 83 -/
def F83.f (a0 : Int) (a1 : Int) (a2 : Int) : Option (Bool) := if a1 ≤ a0 then (some (decide (a0 ≤ a2))) else (some false)
theorem F83.calls (a0 : Int) (a1 : Int) (a2 : Int) (r : Bool) (w : World) (h : F83.f a0 a1 a2 = some r) :
  Calls Tryd.prog 83 #[.int .i64 a0, .int .i64 a1, .int .i64 a2] w fun e w' => e = .returned (.bool r) ∧ Drawn0 w w' := by
 have H : (if a1 ≤ a0 then (some (decide (a0 ≤ a2))) else (some false)) = some r := h
 clear h
 replace H := it_ H; rcases H with ⟨c4b0, H⟩ | ⟨c4b0, H⟩
 ·obtain rfl := Option.some.inj H
  go_enter Tryd.func83, Tryd.ntmps83
  go_wp2
  go_ret
  exact ⟨er_, dn_⟩
 obtain rfl := Option.some.inj H
 go_enter Tryd.func83, Tryd.ntmps83
 go_wp2
 go_ret
 exact ⟨er_, dn_⟩

/-! ### F93: function 93 -/
def F93.f (a0 : Int) : Option (Bool) := if a0 ≥ 65 then (some (decide (a0 ≤ 90))) else (some false)
theorem F93.calls (a0 : Int) (r : Bool) (w : World) (h : F93.f a0 = some r) :
  Calls Tryd.prog 93 #[.int .u8 a0] w fun e w' => e = .returned (.bool r) ∧ Drawn0 w w' := by
 have H : (if a0 ≥ 65 then (some (decide (a0 ≤ 90))) else (some false)) = some r := h
 clear h
 replace H := it_ H; rcases H with ⟨(c2b0 : decide (65 ≤ a0) = true), H⟩ | ⟨(c2b0 : decide (65 ≤ a0) = false), H⟩
 ·obtain rfl := Option.some.inj H
  go_enter Tryd.func93, Tryd.ntmps93
  go_wp2
  go_ret
  exact ⟨er_, dn_⟩
 obtain rfl := Option.some.inj H
 go_enter Tryd.func93, Tryd.ntmps93
 go_wp2
 go_ret
 exact ⟨er_, dn_⟩

/-! ### F94: function 94 -/
def F94.f (a0 : Int) : Option (Bool) := if a0 ≥ 48 then (some (decide (a0 ≤ 57))) else (some false)
theorem F94.calls (a0 : Int) (r : Bool) (w : World) (h : F94.f a0 = some r) :
  Calls Tryd.prog 94 #[.int .u8 a0] w fun e w' => e = .returned (.bool r) ∧ Drawn0 w w' := by
 have H : (if a0 ≥ 48 then (some (decide (a0 ≤ 57))) else (some false)) = some r := h
 clear h
 replace H := it_ H; rcases H with ⟨(c2b0 : decide (48 ≤ a0) = true), H⟩ | ⟨(c2b0 : decide (48 ≤ a0) = false), H⟩
 ·obtain rfl := Option.some.inj H
  go_enter Tryd.func94, Tryd.ntmps94
  go_wp2
  go_ret
  exact ⟨er_, dn_⟩
 obtain rfl := Option.some.inj H
 go_enter Tryd.func94, Tryd.ntmps94
 go_wp2
 go_ret
 exact ⟨er_, dn_⟩

/-! ### F61: function 61 -/
def F61.l0 : Nat → ByteArray → Int → Int → Option (Bool)
  | 0, _, _, _ => none
  | k + 1, x0, x5, x6 => if x6 < x5 then (if 0 ≤ x6 then (if x6 < (x0.size : Int) then ((F93.f (bt x0 x6)).bind fun WA => (if WA = true then (F61.l0 k x0 x5 (wrap64 (x6 + 1))) else (if x6 = 0 then (some false) else ((F94.f (bt x0 x6)).bind fun WB => (if WB = true then (F61.l0 k x0 x5 (wrap64 (x6 + 1))) else (if (bt x0 x6) = 45 then (F61.l0 k x0 x5 (wrap64 (x6 + 1))) else (some false))))))) else (none)) else (none)) else ((F83.f (x0.size : Int) 1 12).bind fun Na => (some Na))
def F61.f (k : Nat) (a0 : ByteArray) : Option (Bool) := F61.l0 k a0 (a0.size : Int) 0
theorem F61.mono_l : ∀ k, (∀ y0 y1 y2, LeO (F61.l0 k y0 y1 y2) (F61.l0 (k + 1) y0 y1 y2))
 | 0 => fun _ _ _ r h => by simp [F61.l0] at h
 | k + 1 => by
  have b6 := F61.mono_l k
  intro y0 y1 y2
  unfold F61.l0
  repeat' with_reducible first | exact b6 _ _ _ | exact LeO.refl _ | exact LeO.none _ | refine LeO.ite ?_ ?_ | refine LeO.bind ?_ (fun _ => ?_)
theorem F61.mono : ∀ a0 k, LeO (F61.f k a0) (F61.f (k + 1) a0) := by
 intro a0 k
 have b6 := F61.mono_l k
 unfold F61.f
 repeat' with_reducible first | exact b6 _ _ _ | exact LeO.refl _ | exact LeO.none _ | refine LeO.ite ?_ ?_ | refine LeO.bind ?_ (fun _ => ?_)
theorem F61.calls (k : Nat) (a0 : ByteArray) (r : Bool) (w : World) (h : F61.f k a0 = some r) :
  Calls Tryd.prog 61 #[.string a0] w fun e w' => e = .returned (.bool r) ∧ Drawn0 w w' := by
 have H : (F61.l0 k a0 (a0.size : Int) 0) = some r := h
 clear h
 have H' := am_ H
 clear H
 go_enter Tryd.func61, Tryd.ntmps61
 go_wp2
 go_loopg [6] k (fun kq v6 w' => ∃ (bg : Int), v6 = .int .i64 bg ∧ Aside0 (F61.l0 kq a0 (a0.size : Int) bg = some r) ∧ Aside0 (kq ≤ k) ∧ Drawn0 w w')
 case atStart => exact ⟨(0), er_, H', ⟨Nat.le_refl _⟩, dn_⟩
 case round =>
  clear H'
  obtain ⟨bg, rfl, HA, dk, ⟨m1, rfl⟩⟩ := hrel
  cases gk with
  | zero => exact absurd HA.out (by simp [F61.l0])
  | succ k1 =>
   have H := HA.out
   clear HA
   simp only [F61.l0] at H
   replace H := it_ H; rcases H with ⟨c2b0, H⟩ | ⟨c2b0, H⟩
   rotate_left
   ·replace H := bi_ H; rcases H with ⟨Na, A14, H⟩
    obtain rfl := Option.some.inj H
    go_wp2_with (first | ((with_reducible refine gate_callee (f := 83) rfl ?_); refine gl_ 34 Tryd.func83 #[.int .i64 (a0.size : Int), .int .i64 1, .int .i64 12] ?_ rfl rfl rfl rfl; (with_reducible refine (F83.calls (a0.size : Int) 1 12 Na _ A14.out).mono ?_); rintro e w' ⟨rfl, ⟨nd, rfl⟩⟩; refine ⟨_, rfl, ?_⟩))
    go_ret
    exact ⟨er_, dn_⟩

   replace H := itn_ H; rcases H with ⟨c3b0, H⟩
   replace H := itn_ H; rcases H with ⟨c4b0, H⟩
   replace H := bi_ H; rcases H with ⟨WA, A6, H⟩
   replace H := ib_ H; rcases H with ⟨rfl, H⟩ | ⟨rfl, H⟩
   ·have H' := am_ H
    clear H
    have p5 : 0 ≤ (bg : Int) := od_
    have q5 : bg < (a0.size : Int) := od_
    have wy := bt_at a0 bg
    replace p5 := eq_true p5
    replace q5 := eq_true q5
    go_wp2_with (first | ((with_reducible refine gate_callee (f := 93) rfl ?_); refine gl_ 12 Tryd.func93 #[.int .u8 (bt a0 bg)] ?_ rfl rfl rfl rfl; (with_reducible refine (F93.calls (bt a0 bg) true _ A6.out).mono ?_); rintro e w' ⟨rfl, ⟨nd, rfl⟩⟩; refine ⟨_, rfl, ?_⟩))
    go_roundg k1
    case measure => have := dk.out; omega
    case rel => exact ⟨(wrap64 (bg + 1)), er_, H', ⟨by have := dk.out; omega⟩, dn_⟩
   by_cases c8 : bg = 0
   ·rw [if_pos c8] at H
    have c8b0 : (bg == 0) = true := beq_iff_eq.mpr c8
    have c8b1 : (bg != 0) = false := bne_eq_false_iff_eq.mpr c8
    clear c8
    obtain rfl := Option.some.inj H
    have p5 : 0 ≤ (bg : Int) := od_
    have q5 : bg < (a0.size : Int) := od_
    have wy := bt_at a0 bg
    replace p5 := eq_true p5
    replace q5 := eq_true q5
    go_wp2_with (first | ((with_reducible refine gate_callee (f := 93) rfl ?_); refine gl_ 12 Tryd.func93 #[.int .u8 (bt a0 bg)] ?_ rfl rfl rfl rfl; (with_reducible refine (F93.calls (bt a0 bg) false _ A6.out).mono ?_); rintro e w' ⟨rfl, ⟨nd, rfl⟩⟩; refine ⟨_, rfl, ?_⟩))
    go_ret
    exact ⟨er_, dn_⟩
   rw [if_neg c8] at H
   have c8b0 : (bg == 0) = false := beq_eq_false_iff_ne.mpr c8
   have c8b1 : (bg != 0) = true := bne_iff_ne.mpr c8
   replace H := bi_ H; rcases H with ⟨WB, OK, H⟩
   replace H := ib_ H; rcases H with ⟨rfl, H⟩ | ⟨rfl, H⟩
   ·have H' := am_ H
    clear H
    have p5 : 0 ≤ (bg : Int) := od_
    have q5 : bg < (a0.size : Int) := od_
    have wy := bt_at a0 bg
    replace p5 := eq_true p5
    replace q5 := eq_true q5
    go_wp2_with (first | ((with_reducible refine gate_callee (f := 93) rfl ?_); refine gl_ 12 Tryd.func93 #[.int .u8 (bt a0 bg)] ?_ rfl rfl rfl rfl; (with_reducible refine (F93.calls (bt a0 bg) false _ A6.out).mono ?_); rintro e w' ⟨rfl, ⟨nd, rfl⟩⟩; refine ⟨_, rfl, ?_⟩; have p9 : 0 ≤ (bg : Int) := od_; have q9 : bg < (a0.size : Int) := od_; have hx9 := bt_at a0 bg; replace p9 := eq_true p9; replace q9 := eq_true q9) | (go_at_call 94; (with_reducible refine (F94.calls (bt a0 bg) true _ OK.out).mono ?_); rintro e w' ⟨rfl, ⟨nd, rfl⟩⟩))
    go_roundg k1
    case measure => have := dk.out; omega
    case rel => exact ⟨(wrap64 (bg + 1)), er_, H', ⟨by have := dk.out; omega⟩, dn_⟩
   by_cases Nb : (bt a0 bg) = 45
   rotate_left
   ·rw [if_neg Nb] at H
    have c13b0 : ((bt a0 bg) == 45) = false := beq_eq_false_iff_ne.mpr Nb
    have c13b1 : ((bt a0 bg) != 45) = true := bne_iff_ne.mpr Nb
    obtain rfl := Option.some.inj H
    have p5 : 0 ≤ (bg : Int) := od_
    have q5 : bg < (a0.size : Int) := od_
    have wy := bt_at a0 bg
    replace p5 := eq_true p5
    replace q5 := eq_true q5
    go_wp2_with (first | ((with_reducible refine gate_callee (f := 93) rfl ?_); refine gl_ 12 Tryd.func93 #[.int .u8 (bt a0 bg)] ?_ rfl rfl rfl rfl; (with_reducible refine (F93.calls (bt a0 bg) false _ A6.out).mono ?_); rintro e w' ⟨rfl, ⟨nd, rfl⟩⟩; refine ⟨_, rfl, ?_⟩; have p9 : 0 ≤ (bg : Int) := od_; have q9 : bg < (a0.size : Int) := od_; have hx9 := bt_at a0 bg; replace p9 := eq_true p9; replace q9 := eq_true q9) | (go_at_call 94; (with_reducible refine (F94.calls (bt a0 bg) false _ OK.out).mono ?_); rintro e w' ⟨rfl, ⟨nd, rfl⟩⟩; have iA : 0 ≤ (bg : Int) := od_; have il : bg < (a0.size : Int) := od_; have lG := bt_at a0 bg; replace iA := eq_true iA; replace il := eq_true il))
    go_ret
    exact ⟨er_, dn_⟩
   rw [if_pos Nb] at H
   have c13b0 : ((bt a0 bg) == 45) = true := beq_iff_eq.mpr Nb
   have c13b1 : ((bt a0 bg) != 45) = false := bne_eq_false_iff_eq.mpr Nb
   clear Nb
   have H' := am_ H
   clear H
   have p5 : 0 ≤ (bg : Int) := od_
   have q5 : bg < (a0.size : Int) := od_
   have wy := bt_at a0 bg
   replace p5 := eq_true p5
   replace q5 := eq_true q5
   go_wp2_with (first | ((with_reducible refine gate_callee (f := 93) rfl ?_); refine gl_ 12 Tryd.func93 #[.int .u8 (bt a0 bg)] ?_ rfl rfl rfl rfl; (with_reducible refine (F93.calls (bt a0 bg) false _ A6.out).mono ?_); rintro e w' ⟨rfl, ⟨nd, rfl⟩⟩; refine ⟨_, rfl, ?_⟩; have p9 : 0 ≤ (bg : Int) := od_; have q9 : bg < (a0.size : Int) := od_; have hx9 := bt_at a0 bg; replace p9 := eq_true p9; replace q9 := eq_true q9) | (go_at_call 94; (with_reducible refine (F94.calls (bt a0 bg) false _ OK.out).mono ?_); rintro e w' ⟨rfl, ⟨nd, rfl⟩⟩; have iA : 0 ≤ (bg : Int) := od_; have il : bg < (a0.size : Int) := od_; have lG := bt_at a0 bg; replace iA := eq_true iA; replace il := eq_true il))
   go_roundg k1
   case measure => have := dk.out; omega
   case rel => exact ⟨(wrap64 (bg + 1)), er_, H', ⟨by have := dk.out; omega⟩, dn_⟩
/-! ### F96: function 96 -/
mutual
def F96.j0 : Nat → ByteArray → ByteArray → Bool → Option (Bool)
  | 0, _, _, _ => none
  | k + 1, x0, x3, H6 => if H6 = true then (if 1 ≤ (x0.size : Int) then (F96.j1 k x0 (x0.extract 1 x0.size)) else (none)) else (F96.j1 k x0 x3)
def F96.j1 : Nat → ByteArray → ByteArray → Option (Bool)
  | 0, _, _ => none
  | k + 1, x0, x3 => F96.l0 k x0 x3 (x3.size : Int) 0
def F96.l0 : Nat → ByteArray → ByteArray → Int → Int → Option (Bool)
  | 0, _, _, _, _ => none
  | k + 1, x0, x3, x16, Nc => if Nc < x16 then (if 0 ≤ Nc then (if Nc < (x3.size : Int) then ((F94.f (bt x3 Nc)).bind fun WC => (if WC = true then (F96.l0 k x0 x3 x16 (wrap64 (Nc + 1))) else (some false))) else (none)) else (none)) else (if x3.toList = ([] : List UInt8) then (some false) else (if 0 < (x3.size : Int) then (if (bt x3 0) = 48 then (some (x0.toList == ([48] : List UInt8))) else (some true)) else (none)))
end
def F96.f (k : Nat) (a0 : ByteArray) : Option (Bool) := if a0.toList = ([] : List UInt8) then (F96.j0 k a0 a0 false) else (if 0 < (a0.size : Int) then (F96.j0 k a0 a0 ((bt a0 0) == 45)) else (none))
theorem F96.mono_l : ∀ k, (∀ y0 y1 y2, LeO (F96.j0 k y0 y1 y2) (F96.j0 (k + 1) y0 y1 y2)) ∧ (∀ y0 y1, LeO (F96.j1 k y0 y1) (F96.j1 (k + 1) y0 y1)) ∧ (∀ y0 y1 y2 y3, LeO (F96.l0 k y0 y1 y2 y3) (F96.l0 (k + 1) y0 y1 y2 y3))
 | 0 => ⟨fun _ _ _ r h => by simp [F96.j0] at h, fun _ _ r h => by simp [F96.j1] at h, fun _ _ _ _ r h => by simp [F96.l0] at h⟩
 | k + 1 => by
  obtain ⟨b6, fd, gI⟩ := F96.mono_l k
  refine ⟨?_, ?_, ?_⟩
  rotate_left
  ·intro y0 y1
   unfold F96.j1
   repeat' with_reducible first | exact b6 _ _ _ | exact fd _ _ | exact gI _ _ _ _ | exact LeO.refl _ | exact LeO.none _ | refine LeO.ite ?_ ?_ | refine LeO.bind ?_ (fun _ => ?_)
  ·intro y0 y1 y2 y3
   unfold F96.l0
   repeat' with_reducible first | exact b6 _ _ _ | exact fd _ _ | exact gI _ _ _ _ | exact LeO.refl _ | exact LeO.none _ | refine LeO.ite ?_ ?_ | refine LeO.bind ?_ (fun _ => ?_)
  intro y0 y1 y2
  unfold F96.j0
  repeat' with_reducible first | exact b6 _ _ _ | exact fd _ _ | exact gI _ _ _ _ | exact LeO.refl _ | exact LeO.none _ | refine LeO.ite ?_ ?_ | refine LeO.bind ?_ (fun _ => ?_)
theorem F96.mono : ∀ a0 k, LeO (F96.f k a0) (F96.f (k + 1) a0) := by
 intro a0 k
 obtain ⟨b6, fd, gI⟩ := F96.mono_l k
 unfold F96.f
 repeat' with_reducible first | exact b6 _ _ _ | exact fd _ _ | exact gI _ _ _ _ | exact LeO.refl _ | exact LeO.none _ | refine LeO.ite ?_ ?_ | refine LeO.bind ?_ (fun _ => ?_)
theorem F96.calls (k : Nat) (a0 : ByteArray) (r : Bool) (w : World) (h : F96.f k a0 = some r) :
  Calls Tryd.prog 96 #[.string a0] w fun e w' => e = .returned (.bool r) ∧ Drawn0 w w' := by
 have H : (if a0.toList = ([] : List UInt8) then (F96.j0 k a0 a0 false) else (if 0 < (a0.size : Int) then (F96.j0 k a0 a0 ((bt a0 0) == 45)) else (none))) = some r := h
 clear h
 have ie := am_ H
 clear H
 go_enter Tryd.func96, Tryd.ntmps96
 go_upto_region 2 with (fail)
 go_cut [12] (fun OL wc => ∃ (kq : Nat) (dE : Bool), OL = .bool dE ∧ Aside0 (F96.j0 kq a0 a0 dE = some r) ∧ Aside0 (kq ≤ k) ∧ Drawn0 w wc)
 case first =>
  have H := ie.out
  clear ie
  by_cases c3 : a0.toList = ([] : List UInt8)
  ·rw [if_pos c3] at H
   have c3b0 : (a0.toList == ([] : List UInt8)) = true := beq_iff_eq.mpr c3
   have c3b1 : (a0.toList != ([] : List UInt8)) = false := bne_eq_false_iff_eq.mpr c3
   clear c3
   (first | rw [c3b0] | (simp only [i64_w, i32_w]; rw [c3b0]) | skip)
   have H' := am_ H
   clear H
   go_wp2
   go_meet
   case rel => exact ⟨_, (false), er_, H', ⟨au4_7⟩, dn_⟩
  rw [if_neg c3] at H
  have c3b0 : (a0.toList == ([] : List UInt8)) = false := beq_eq_false_iff_ne.mpr c3
  have c3b1 : (a0.toList != ([] : List UInt8)) = true := bne_iff_ne.mpr c3
  (first | rw [c3b0] | (simp only [i64_w, i32_w]; rw [c3b0]) | skip)
  replace H := itn_ H; rcases H with ⟨c4b0, H⟩
  have c4b1 : decide (0 < a0.size) = true := n2_ c4b0
  have H' := am_ H
  clear H
  have p5 : 0 ≤ (0 : Int) := (by omega)
  have q5 : 0 < a0.size := (by have : (0 : Int) < (a0.size : Int) := od_; omega)
  have wy : ∀ h : 0 < a0.size, ((a0[0]'h).toNat : Int) = bt a0 0 := bt_at a0 0
  clear p5
  have qi5 : (0 < (a0.size : Int)) = True := eq_true (of_decide_eq_true as_)
  replace q5 := eq_true q5
  go_wp2
  go_meet
  case rel => exact ⟨_, (((bt a0 0) == 45)), er_, H', ⟨au4_7⟩, dn_⟩
 case rest =>
  clear ie
  try clear c3
  try clear c3b0
  try clear c3b1
  try clear c4b0
  try clear c4b1
  try clear p5
  try clear q5
  try clear wy
  try clear qi5
  try clear p5
  try clear q5
  obtain ⟨kq, dE, rfl, HA, HJ1, ⟨mc1, rfl⟩⟩ := hcut
  cases kq with
  | zero => exact absurd HA.out (by simp [F96.j0])
  | succ Ft =>
   have H := HA.out
   clear HA
   simp only [F96.j0] at H
   have BN := am_ H
   clear H
   go_upto_if 12 with (fail)
   go_cut [3] (fun v3 wc => ∃ (kq : Nat) (dF : ByteArray), v3 = .string dF ∧ Aside0 (F96.j1 kq a0 dF = some r) ∧ Aside0 (kq ≤ Ft) ∧ Drawn0 w wc)
   case first =>
    have H := BN.out
    clear BN
    replace H := ib_ H; rcases H with ⟨rfl, H⟩ | ⟨rfl, H⟩
    rotate_left
    ·have H' := am_ H
     clear H
     go_wp2
     go_meet
     case rel => exact ⟨_, (a0), er_, H', ⟨by have := HJ1.out; first | omega | exact Nat.le_refl _⟩, dn_⟩
    by_cases c8 : 1 ≤ (a0.size : Int)
    rotate_left
    ·rw [if_neg c8] at H
     exact absurd H (by simp)
    rw [if_pos c8] at H
    have c8b0 := eq_true c8
    have c8b1 : decide (1 ≤ (a0.size : Int)) = true := decide_eq_true c8
    clear c8
    have H' := am_ H
    clear H
    go_wp2
    go_meet
    case rel => exact ⟨_, (a0.extract 1 a0.size), er_, H', ⟨by have := HJ1.out; first | omega | exact Nat.le_refl _⟩, dn_⟩
   case rest =>
    clear BN
    try clear c3
    try clear c3b0
    try clear c3b1
    try clear c4b0
    try clear c4b1
    try clear p5
    try clear q5
    try clear wy
    try clear qi5
    try clear c8
    try clear c8b0
    try clear c8b1
    try clear p5
    try clear q5
    obtain ⟨kq, dF, rfl, HA, Fw, ⟨mc5, rfl⟩⟩ := hcut
    cases kq with
    | zero => exact absurd HA.out (by simp [F96.j1])
    | succ OE =>
     have H := HA.out
     clear HA
     simp only [F96.j1] at H
     have H' := am_ H
     clear H
     go_wp2
     go_loopg [17] OE (fun kq v17 w' => ∃ (i8 : Int), v17 = .int .i64 i8 ∧ Aside0 (F96.l0 kq a0 dF (dF.size : Int) i8 = some r) ∧ Aside0 (kq ≤ OE) ∧ Drawn0 w w')
     case atStart => exact ⟨(0), er_, H', ⟨Nat.le_refl _⟩, dn_⟩
     case round =>
      clear H'
      try clear c3
      try clear c3b0
      try clear c3b1
      try clear c4b0
      try clear c4b1
      try clear p5
      try clear q5
      try clear wy
      try clear qi5
      try clear c8
      try clear c8b0
      try clear c8b1
      try clear p5
      try clear q5
      obtain ⟨i8, rfl, HA, pC, ⟨m3, rfl⟩⟩ := hrel
      cases gk with
      | zero => exact absurd HA.out (by simp [F96.l0])
      | succ k3 =>
       have H := HA.out
       clear HA
       simp only [F96.l0] at H
       replace H := it_ H; rcases H with ⟨c9b0, H⟩ | ⟨c9b0, H⟩
       ·replace H := itn_ H; rcases H with ⟨c10b0, H⟩
        replace H := itn_ H; rcases H with ⟨c11b0, H⟩
        replace H := bi_ H; rcases H with ⟨WC, OM, H⟩
        replace H := ib_ H; rcases H with ⟨rfl, H⟩ | ⟨rfl, H⟩
        rotate_left
        ·obtain rfl := Option.some.inj H
         have iA : 0 ≤ (i8 : Int) := od_
         have il : i8 < (dF.size : Int) := od_
         have lG := bt_at dF i8
         replace iA := eq_true iA
         replace il := eq_true il
         go_wp2_with (first | ((with_reducible refine gate_callee (f := 94) rfl ?_); refine gl_ 23 Tryd.func94 #[.int .u8 (bt dF i8)] ?_ rfl rfl rfl rfl; (with_reducible refine (F94.calls (bt dF i8) false _ OM.out).mono ?_); rintro e w' ⟨rfl, ⟨nd, rfl⟩⟩; refine ⟨_, rfl, ?_⟩))
         go_ret
         exact ⟨er_, dn_⟩
        have H' := am_ H
        clear H
        have iA : 0 ≤ (i8 : Int) := od_
        have il : i8 < (dF.size : Int) := od_
        have lG := bt_at dF i8
        replace iA := eq_true iA
        replace il := eq_true il
        go_wp2_with (first | ((with_reducible refine gate_callee (f := 94) rfl ?_); refine gl_ 23 Tryd.func94 #[.int .u8 (bt dF i8)] ?_ rfl rfl rfl rfl; (with_reducible refine (F94.calls (bt dF i8) true _ OM.out).mono ?_); rintro e w' ⟨rfl, ⟨nd, rfl⟩⟩; refine ⟨_, rfl, ?_⟩))
        go_roundg k3
        case measure => have := HJ1.out; have := Fw.out; have := pC.out; omega
        case rel => exact ⟨(wrap64 (i8 + 1)), er_, H', ⟨by have := HJ1.out; have := Fw.out; have := pC.out; omega⟩, dn_⟩
       by_cases uu : dF.toList = ([] : List UInt8)
       ·rw [if_pos uu] at H
        have c15b0 : (dF.toList == ([] : List UInt8)) = true := beq_iff_eq.mpr uu
        have c15b1 : (dF.toList != ([] : List UInt8)) = false := bne_eq_false_iff_eq.mpr uu
        clear uu
        obtain rfl := Option.some.inj H
        go_wp2
        go_ret
        exact ⟨er_, dn_⟩
       rw [if_neg uu] at H
       have c15b0 : (dF.toList == ([] : List UInt8)) = false := beq_eq_false_iff_ne.mpr uu
       have c15b1 : (dF.toList != ([] : List UInt8)) = true := bne_iff_ne.mpr uu
       replace H := itn_ H; rcases H with ⟨c16b0, H⟩
       have c16b1 : decide (0 < dF.size) = true := n2_ c16b0
       by_cases uX : (bt dF 0) = 48
       rotate_left
       ·rw [if_neg uX] at H
        have c18b0 : ((bt dF 0) == 48) = false := beq_eq_false_iff_ne.mpr uX
        have c18b1 : ((bt dF 0) != 48) = true := bne_iff_ne.mpr uX
        obtain rfl := Option.some.inj H
        have p17 : 0 ≤ (0 : Int) := (by omega)
        have WD : 0 < dF.size := (by have : (0 : Int) < (dF.size : Int) := od_; omega)
        have a6M : ∀ h : 0 < dF.size, ((dF[0]'h).toNat : Int) = bt dF 0 := bt_at dF 0
        clear p17
        have a6N : (0 < (dF.size : Int)) = True := eq_true (of_decide_eq_true as_)
        replace WD := eq_true WD
        go_wp2
        go_ret
        exact ⟨er_, dn_⟩
       rw [if_pos uX] at H
       have c18b0 : ((bt dF 0) == 48) = true := beq_iff_eq.mpr uX
       have c18b1 : ((bt dF 0) != 48) = false := bne_eq_false_iff_eq.mpr uX
       clear uX
       obtain rfl := Option.some.inj H
       have p17 : 0 ≤ (0 : Int) := (by omega)
       have WD : 0 < dF.size := (by have : (0 : Int) < (dF.size : Int) := od_; omega)
       have a6M : ∀ h : 0 < dF.size, ((dF[0]'h).toNat : Int) = bt dF 0 := bt_at dF 0
       clear p17
       have a6N : (0 < (dF.size : Int)) = True := eq_true (of_decide_eq_true as_)
       replace WD := eq_true WD
       go_wp2
       go_ret
       exact ⟨er_, dn_⟩
end Go.Proofs.YtlghcbmkhdibdaaDoor.PFnTrailers
