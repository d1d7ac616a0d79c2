-- printed by a program of this session (wip/xp/xprint.py) out of the translation; Lean checks it
import Derived.Test.YtlghcbmkhdibdaaGreatDoorPFnExactIxSegmentsx0
namespace Go.Proofs.YtlghcbmkhdibdaaGreatDoor.PFnExactIxSegments
open Go.RowKit Go.Proofs.YtlghcbmkhdibdaaGreatDoorW.PrintWords Go.Proofs.YtlghcbmkhdibdaaGreatDoorW.PrintLast Go.Proofs.YtlghcbmkhdibdaaGreatDoorW.PrintMore
attribute [local go_sem] max2_int min2_int max_two min_two max_three min_three max_four min_four   -- for this text's walks alone
set_option linter.unusedVariables false
set_option linter.unusedSimpArgs false
set_option maxHeartbeats 8000000
set_option maxRecDepth 100000

theorem au1_0 {p : Prop} (h : p := by first | rfl | (simp [errW_none, errW_some] <;> rfl) | (simp [*, errW_none, errW_some] <;> rfl)) : p := h
theorem au1_1 {p : Prop} (h : p := by repeat (first | exact (Kd.C_below HR0_1.out HB.out) | (with_reducible refine Kd.C_alloc ?_ _) | (with_reducible refine Kd.C_drewN ?_ _) | (with_reducible refine Kd.C_drew ?_))) : p := h
theorem au1_2 {p : Prop} (h : p := by have := HJ1.out; have := HK2.out; first | omega | exact Nat.le_refl _) : p := h
theorem au1_3 {p : Prop} (h : p := by repeat (first | exact (Kd.C_below HR140_1.out HB.out) | (with_reducible refine Kd.C_alloc ?_ _) | (with_reducible refine Kd.C_drewN ?_ _) | (with_reducible refine Kd.C_drew ?_))) : p := h
theorem au1_4 {p : Prop} (h : p := by first | omega | exact Nat.le_refl _) : p := h
theorem au1_5 {p : Prop} (h : p := by repeat (first | exact (Kd.C_below HR104_0.out HB.out) | (with_reducible refine Kd.C_alloc ?_ _) | (with_reducible refine Kd.C_drewN ?_ _) | (with_reducible refine Kd.C_drew ?_))) : p := h
theorem au1_6 {p : Prop} (h : p := by repeat (first | exact (Kd.C_below HR108_1.out HB.out) | (with_reducible refine Kd.C_alloc ?_ _) | (with_reducible refine Kd.C_drewN ?_ _) | (with_reducible refine Kd.C_drew ?_))) : p := h
theorem au1_7 {p : Prop} (h : p := by repeat (first | exact (Kd.C_below HR112_1.out HB.out) | (with_reducible refine Kd.C_alloc ?_ _) | (with_reducible refine Kd.C_drewN ?_ _) | (with_reducible refine Kd.C_drew ?_))) : p := h
theorem au1_8 {p : Prop} (h : p := by repeat (first | exact (Kd.C_below HR116_2.out HB.out) | (with_reducible refine Kd.C_alloc ?_ _) | (with_reducible refine Kd.C_drewN ?_ _) | (with_reducible refine Kd.C_drew ?_))) : p := h
theorem au1_9 {p : Prop} (h : p := by repeat (first | exact (Kd.C_below HR0_0.out HB.out) | (with_reducible refine Kd.C_alloc ?_ _) | (with_reducible refine Kd.C_drewN ?_ _) | (with_reducible refine Kd.C_drew ?_))) : p := h
theorem au1_10 {p : Prop} (h : p := by repeat (first | exact (Kd.C_below HR0_2.out HB.out) | (with_reducible refine Kd.C_alloc ?_ _) | (with_reducible refine Kd.C_drewN ?_ _) | (with_reducible refine Kd.C_drew ?_))) : p := h
theorem au1_11 {p : Prop} (h : p := by repeat (first | exact (Kd.C_below HR0_3.out HB.out) | (with_reducible refine Kd.C_alloc ?_ _) | (with_reducible refine Kd.C_drewN ?_ _) | (with_reducible refine Kd.C_drew ?_))) : p := h
theorem au1_12 {p : Prop} (h : p := by first | exact Kd.S_nil _ _ _ _ _ | exact Kd.N_nil _ _ _ _ _ | exact Kd.V_nil _ _ _ _ _ | exact Kd.Q_nil _ _ _ _ _ | exact Kd.R_nil _ _ _ _ _) : p := h
theorem au1_13 {p : Prop} (h : p := by rintro w' ⟨s0, s1, s2, s3, s4⟩; go_simp; with_reducible rfl) : p := h
theorem au1_14 {p : Prop} (h : p := by have := HJ1.out; have := HK2.out; have := HJ18.out; have := HK4.out; have := HJ41.out; have := HK6.out; omega) : p := h
theorem au1_15 {p : Prop} (h : p := by (with_reducible repeat (first | apply Kd.S_alloc | apply Kd.S_drewN | apply Kd.S_drew)); exact HO_182001.out) : p := h
theorem au1_16 {p : Prop} (h : p := by have := HJ1.out; have := HK2.out; have := HJ18.out; have := HK4.out; first | omega | exact Nat.le_refl _) : p := h
theorem au1_17 {p : Prop} (h : p := by rintro w' ⟨s0, s1, s2, s3⟩; go_simp; with_reducible rfl) : p := h
theorem au1_18 {p : Prop} (h : p := by have := HJ1.out; have := HK2.out; have := HJ10.out; have := HK4.out; omega) : p := h

/-! ### F158: function 158 -/
def F158.l0 : Nat → List ByteArray → Int → Int → Option (Int)
  | 0, _, _, _ => none
  | k + 1, x0, x1, x5 => if x5 < (x0.length : Int) then (if 0 ≤ x5 then (if (wrap64 (x1 - ((rdOf ByteArray.empty x0 x5).size : Int))) < 0 then (some (-1)) else (F158.l0 k x0 (wrap64 (x1 - ((rdOf ByteArray.empty x0 x5).size : Int))) (wrap64 (x5 + 1)))) else (none)) else (some x1)
def F158.f (k : Nat) (l0 : List ByteArray) (a1 : Int) : Option (Int) := if (wrap64 (a1 - (l0.length : Int))) < 0 then (some (-1)) else (F158.l0 k l0 (wrap64 (a1 - (l0.length : Int))) 0)
theorem F158.mono_l : ∀ k, (∀ y0 y1 y2, LeO (F158.l0 k y0 y1 y2) (F158.l0 (k + 1) y0 y1 y2))
 | 0 => fun _ _ _ r h => by simp [F158.l0] at h
 | k + 1 => by
  have ih0 := F158.mono_l k
  intro y0 y1 y2
  unfold F158.l0
  repeat' with_reducible first | exact ih0 _ _ _ | exact LeO.refl _ | exact LeO.none _ | refine LeO.ite ?_ ?_ | refine LeO.bind ?_ (fun _ => ?_)
theorem F158.mono : ∀ a0 a1 k, LeO (F158.f k a0 a1) (F158.f (k + 1) a0 a1) := by
 intro a0 a1 k
 have ih0 := F158.mono_l k
 unfold F158.f
 repeat' with_reducible first | exact ih0 _ _ _ | exact LeO.refl _ | exact LeO.none _ | refine LeO.ite ?_ ?_ | refine LeO.bind ?_ (fun _ => ?_)
theorem F158.calls (k : Nat) (A0 : Option Addr) (c0 : Nat) (l0 : List ByteArray) (a1 : Int) (r : Int) (w : World) (hr0 : Kd.C Kd.string w A0 l0.length l0) (hc0 : l0.length ≤ c0) (h : F158.f k l0 a1 = some r) :
  Calls Tryz.prog 158 #[.slice A0 l0.length c0, .int .i64 a1] w fun e w' => e = .returned (.int .i64 r) ∧ Drawn0 w w' := by
 have HR0 := am_ hr0
 have HC0 := am_ hc0
 clear hr0 hc0
 have H : (if (wrap64 (a1 - (l0.length : Int))) < 0 then (some (-1)) else (F158.l0 k l0 (wrap64 (a1 - (l0.length : Int))) 0)) = some r := h
 clear h
 replace H := it_ H; rcases H with ⟨c3b0, H⟩ | ⟨c3b0, H⟩
 ·obtain rfl := Option.some.inj H
  go_enter Tryz.func158, Tryz.ntmps158
  go_wp2
  go_ret
  exact ⟨er_, dn_⟩
 have H' := am_ H
 clear H
 go_enter Tryz.func158, Tryz.ntmps158
 go_wp2
 go_loopg [1, 5] k (fun kq v1 v5 w' => ∃ (x1_1 : Int) (x5_1 : Int), v1 = .int .i64 x1_1 ∧ v5 = .int .i64 x5_1 ∧ Aside0 (F158.l0 kq l0 x1_1 x5_1 = some r) ∧ Aside0 (kq ≤ k) ∧ Drawn0 w w')
 case atStart => exact ⟨(wrap64 (a1 - (l0.length : Int))), (0), er_, er_, H', ⟨Nat.le_refl _⟩, dn_⟩
 case round =>
  clear H'
  try clear c3b0
  obtain ⟨x1_1, x5_1, rfl, rfl, HA, HK1, ⟨m1, rfl⟩⟩ := hrel
  cases gk with
  | zero => exact absurd HA.out (by simp [F158.l0])
  | succ k1 =>
   have H := HA.out
   clear HA
   simp only [F158.l0] at H
   replace H := it_ H; rcases H with ⟨c4b0, H⟩ | ⟨c4b0, H⟩
   rotate_left
   ·obtain rfl := Option.some.inj H
    go_wp2
    go_ret
    exact ⟨er_, dn_⟩

   replace H := itn_ H; rcases H with ⟨c5b0, H⟩
   replace H := it_ H; rcases H with ⟨c6b0, H⟩ | ⟨c6b0, H⟩
   ·obtain rfl := Option.some.inj H
    have p101 : 0 ≤ (x5_1 : Int) := od_
    have q101 : x5_1 < (l0.length : Int) := od_
    obtain ⟨ad101, e101, hx101_0⟩ := Kd.at_string HR0.out x5_1 p101 q101
    cases e101
    replace p101 := eq_true p101
    replace q101 := eq_true q101
    go_wp2
    go_ret
    exact ⟨er_, dn_⟩
   have H' := am_ H
   clear H
   have p101 : 0 ≤ (x5_1 : Int) := od_
   have q101 : x5_1 < (l0.length : Int) := od_
   obtain ⟨ad101, e101, hx101_0⟩ := Kd.at_string HR0.out x5_1 p101 q101
   cases e101
   replace p101 := eq_true p101
   replace q101 := eq_true q101
   go_wp2
   go_roundg k1
   case measure => have := HK1.out; omega
   case rel => exact ⟨(wrap64 (x1_1 - ((rdOf ByteArray.empty l0 x5_1).size : Int))), (wrap64 (x5_1 + 1)), er_, er_, H', ⟨by have := HK1.out; omega⟩, dn_⟩
/-! ### F155: function 155 -/
def F155.f (k : Nat) (l0_0 : List ByteArray) (a1 : Int) : Option (Int) := (F158.f k l0_0 a1).bind fun t103 => (if t103 < 0 then (some (-1)) else (some t103))
theorem F155.mono : ∀ a0 a1 k, LeO (F155.f k a0 a1) (F155.f (k + 1) a0 a1) := by
 intro a0 a1 k
 unfold F155.f
 repeat' with_reducible first | exact F158.mono _ _ _ | exact LeO.refl _ | exact LeO.none _ | refine LeO.ite ?_ ?_ | refine LeO.bind ?_ (fun _ => ?_)
theorem F155.calls (k : Nat) (A0_0 : Option Addr) (c0_0 : Nat) (l0_0 : List ByteArray) (a1 : Int) (r : Int) (w : World) (hr0_0 : Kd.C Kd.string w A0_0 l0_0.length l0_0) (hc0_0 : l0_0.length ≤ c0_0) (h : F155.f k l0_0 a1 = some r) :
  Calls Tryz.prog 155 #[.agg #[.slice A0_0 l0_0.length c0_0], .int .i64 a1] w fun e w' => e = .returned (.int .i64 r) ∧ Below w.heap.size w w' := by
 have hu197 := Tryz.underlying197
 have HR0_0 := am_ hr0_0
 have HC0_0 := am_ hc0_0
 clear hr0_0 hc0_0
 have HB := am_ (Below.refl w.heap.size w)
 have H : ((F158.f k l0_0 a1).bind fun t103 => (if t103 < 0 then (some (-1)) else (some t103))) = some r := h
 clear h
 replace H := bi_ H; rcases H with ⟨t103, A3, H⟩
 replace H := it_ H; rcases H with ⟨c4b0, H⟩ | ⟨c4b0, H⟩
 ·obtain rfl := Option.some.inj H
  go_enter Tryz.func155, Tryz.ntmps155
  go_wp2_with (first | ((with_reducible refine gate_dst (N := 2) rfl ?_); refine be_ 2 #[.slice A0_0 l0_0.length c0_0] 197 ?_; intro gb102 hg w5 hbox hb; have BK102 := am_ (hbox); have GW102 := am_ (gw_ hg bl_); have GE102 := GW102; replace HB := hs_ w hb; clear hb hbox hg; have hcz6_0 : w5.cell? ⟨gb102, 0, none⟩ = some (.slice A0_0 l0_0.length c0_0) := (blk_cell BK102.out 0).trans rfl; have hfz6_0 := blk_frozen BK102.out 0) | ((with_reducible refine gate_callee (f := 158) rfl ?_); refine gl_ 8 Tryz.func158 #[.slice A0_0 l0_0.length c0_0, .int .i64 a1] ?_ rfl rfl rfl rfl; (with_reducible refine (F158.calls k _ _ l0_0 a1 t103 _ ?s1 ?s2 A3.out).mono ?_); (case s1 => exact au1_9); (case s2 => exact HC0_0.out); rintro e w' ⟨rfl, ⟨nd, rfl⟩⟩; refine ⟨_, rfl, ?_⟩))
  go_ret
  exact ⟨au1_0, bl_⟩
 obtain rfl := Option.some.inj H
 go_enter Tryz.func155, Tryz.ntmps155
 go_wp2_with (first | ((with_reducible refine gate_dst (N := 2) rfl ?_); refine be_ 2 #[.slice A0_0 l0_0.length c0_0] 197 ?_; intro gb102 hg w7 hbox hb; have BK102 := am_ (hbox); have GW102 := am_ (gw_ hg bl_); have GE102 := GW102; replace HB := hs_ w hb; clear hb hbox hg; have hcz8_0 : w7.cell? ⟨gb102, 0, none⟩ = some (.slice A0_0 l0_0.length c0_0) := (blk_cell BK102.out 0).trans rfl; have hfz8_0 := blk_frozen BK102.out 0) | ((with_reducible refine gate_callee (f := 158) rfl ?_); refine gl_ 8 Tryz.func158 #[.slice A0_0 l0_0.length c0_0, .int .i64 a1] ?_ rfl rfl rfl rfl; (with_reducible refine (F158.calls k _ _ l0_0 a1 t103 _ ?s1 ?s2 A3.out).mono ?_); (case s1 => exact au1_9); (case s2 => exact HC0_0.out); rintro e w' ⟨rfl, ⟨nd, rfl⟩⟩; refine ⟨_, rfl, ?_⟩))
 go_ret
 exact ⟨au1_0, bl_⟩

/-! ### F146: function 146 -/
def F146.l0 : Nat → List (S197) → Int → Int → Option (Int)
  | 0, _, _, _ => none
  | k + 1, x0, x1, x5 => if x5 < (x0.length : Int) then (if 0 ≤ x5 then ((F155.f k ((rd_T197 x0 x5).f0) x1).bind fun t105 => (if t105 < 0 then (some (-1)) else (F146.l0 k x0 t105 (wrap64 (x5 + 1))))) else (none)) else (some x1)
def F146.f (k : Nat) (l0 : List (S197)) (a1 : Int) : Option (Int) := if (wrap64 (a1 - (l0.length : Int))) < 0 then (some (-1)) else (F146.l0 k l0 (wrap64 (a1 - (l0.length : Int))) 0)
theorem F146.mono_l : ∀ k, (∀ y0 y1 y2, LeO (F146.l0 k y0 y1 y2) (F146.l0 (k + 1) y0 y1 y2))
 | 0 => fun _ _ _ r h => by simp [F146.l0] at h
 | k + 1 => by
  have ih0 := F146.mono_l k
  intro y0 y1 y2
  unfold F146.l0
  repeat' with_reducible first | exact ih0 _ _ _ | exact F155.mono _ _ _ | exact LeO.refl _ | exact LeO.none _ | refine LeO.ite ?_ ?_ | refine LeO.bind ?_ (fun _ => ?_)
theorem F146.mono : ∀ a0 a1 k, LeO (F146.f k a0 a1) (F146.f (k + 1) a0 a1) := by
 intro a0 a1 k
 have ih0 := F146.mono_l k
 unfold F146.f
 repeat' with_reducible first | exact ih0 _ _ _ | exact F155.mono _ _ _ | exact LeO.refl _ | exact LeO.none _ | refine LeO.ite ?_ ?_ | refine LeO.bind ?_ (fun _ => ?_)
theorem F146.calls (k : Nat) (A0 : Option Addr) (c0 : Nat) (l0 : List (S197)) (a1 : Int) (r : Int) (w : World) (hr0 : Kd.C k197 w A0 l0.length l0) (hc0 : l0.length ≤ c0) (h : F146.f k l0 a1 = some r) :
  Calls Tryz.prog 146 #[.slice A0 l0.length c0, .int .i64 a1] w fun e w' => e = .returned (.int .i64 r) ∧ Below w.heap.size w w' := by
 have hu197 := Tryz.underlying197
 have HR0 := am_ hr0
 have HC0 := am_ hc0
 clear hr0 hc0
 have HB := am_ (Below.refl w.heap.size w)
 have H : (if (wrap64 (a1 - (l0.length : Int))) < 0 then (some (-1)) else (F146.l0 k l0 (wrap64 (a1 - (l0.length : Int))) 0)) = some r := h
 clear h
 replace H := it_ H; rcases H with ⟨c3b0, H⟩ | ⟨c3b0, H⟩
 ·obtain rfl := Option.some.inj H
  go_enter Tryz.func146, Tryz.ntmps146
  go_wp2
  go_ret
  exact ⟨au1_0, bl_⟩
 have H' := am_ H
 clear H
 go_enter Tryz.func146, Tryz.ntmps146
 go_wp2
 go_loopg [1, 5] k (fun kq v1 v5 w' => ∃ (x1_1 : Int) (x5_1 : Int), v1 = .int .i64 x1_1 ∧ v5 = .int .i64 x5_1 ∧ Aside0 (F146.l0 kq l0 x1_1 x5_1 = some r) ∧ Aside0 (kq ≤ k) ∧ Aside0 (Below w.heap.size w w'))
 case atStart => exact ⟨(wrap64 (a1 - (l0.length : Int))), (0), er_, er_, H', ⟨Nat.le_refl _⟩, ⟨bl_⟩⟩
 case round =>
  clear H'
  try clear c3b0
  obtain ⟨x1_1, x5_1, rfl, rfl, HA, HK1, HB⟩ := hrel
  cases gk with
  | zero => exact absurd HA.out (by simp [F146.l0])
  | succ k1 =>
   have H := HA.out
   clear HA
   simp only [F146.l0] at H
   replace H := it_ H; rcases H with ⟨c4b0, H⟩ | ⟨c4b0, H⟩
   rotate_left
   ·obtain rfl := Option.some.inj H
    go_wp2
    go_ret
    exact ⟨au1_0, bl_⟩

   replace H := itn_ H; rcases H with ⟨c5b0, H⟩
   replace H := bi_ H; rcases H with ⟨t105, A6, H⟩
   replace H := it_ H; rcases H with ⟨c7b0, H⟩ | ⟨c7b0, H⟩
   ·obtain rfl := Option.some.inj H
    have p104 : 0 ≤ (x5_1 : Int) := od_
    have q104 : x5_1 < (l0.length : Int) := od_
    obtain ⟨ad104, A104_0, c104_0, e104, hx104_0, hl104_0, hi104_0⟩ := at_T197 HR0.out x5_1 p104 q104
    cases e104
    replace hx104_0 := (HB.out.cell (World.block_lt_of_cell? _ _ hx104_0)).trans hx104_0
    have HR104_0 := am_ hi104_0
    have HC104_0 := am_ hl104_0
    clear hi104_0 hl104_0
    replace p104 := eq_true p104
    replace q104 := eq_true q104
    go_wp2_with (first | ((with_reducible refine gate_callee (f := 155) rfl ?_); refine gl_ 23 Tryz.func155 #[.agg #[.slice A104_0 ((rd_T197 l0 x5_1).f0).length c104_0], .int .i64 x1_1] ?_ rfl rfl rfl rfl; (with_reducible refine (F155.calls k1 _ _ ((rd_T197 l0 x5_1).f0) x1_1 t105 _ ?s1 ?s2 A6.out).mono ?_); (case s1 => exact au1_5); (case s2 => exact HC104_0.out); rintro e w8 ⟨rfl, hb⟩; refine ⟨_, rfl, ?_⟩; replace HB := hs_ w hb; (try clear hb)))
    go_ret
    exact ⟨au1_0, bl_⟩
   have H' := am_ H
   clear H
   have p104 : 0 ≤ (x5_1 : Int) := od_
   have q104 : x5_1 < (l0.length : Int) := od_
   obtain ⟨ad104, A104_0, c104_0, e104, hx104_0, hl104_0, hi104_0⟩ := at_T197 HR0.out x5_1 p104 q104
   cases e104
   replace hx104_0 := (HB.out.cell (World.block_lt_of_cell? _ _ hx104_0)).trans hx104_0
   have HR104_0 := am_ hi104_0
   have HC104_0 := am_ hl104_0
   clear hi104_0 hl104_0
   replace p104 := eq_true p104
   replace q104 := eq_true q104
   go_wp2_with (first | ((with_reducible refine gate_callee (f := 155) rfl ?_); refine gl_ 23 Tryz.func155 #[.agg #[.slice A104_0 ((rd_T197 l0 x5_1).f0).length c104_0], .int .i64 x1_1] ?_ rfl rfl rfl rfl; (with_reducible refine (F155.calls k1 _ _ ((rd_T197 l0 x5_1).f0) x1_1 t105 _ ?s1 ?s2 A6.out).mono ?_); (case s1 => exact au1_5); (case s2 => exact HC104_0.out); rintro e w9 ⟨rfl, hb⟩; refine ⟨_, rfl, ?_⟩; replace HB := hs_ w hb; (try clear hb)))
   go_roundg k1
   case measure => have := HK1.out; omega
   case rel => exact ⟨(t105), (wrap64 (x5_1 + 1)), er_, er_, H', ⟨by have := HK1.out; omega⟩, ⟨bl_⟩⟩
/-! ### F134: function 134 -/
def F134.f (k : Nat) (a0_0 : ByteArray) (l0_1 : List (S197)) (a1 : Int) : Option (Int) := if (wrap64 (a1 - (a0_0.size : Int))) < 0 then (some (-1)) else ((F146.f k l0_1 (wrap64 (a1 - (a0_0.size : Int)))).bind fun t107 => (if t107 < 0 then (some (-1)) else (some t107)))
theorem F134.mono : ∀ a0 a1 a2 k, LeO (F134.f k a0 a1 a2) (F134.f (k + 1) a0 a1 a2) := by
 intro a0 a1 a2 k
 unfold F134.f
 repeat' with_reducible first | exact F146.mono _ _ _ | exact LeO.refl _ | exact LeO.none _ | refine LeO.ite ?_ ?_ | refine LeO.bind ?_ (fun _ => ?_)
theorem F134.calls (k : Nat) (a0_0 : ByteArray) (A0_1 : Option Addr) (c0_1 : Nat) (l0_1 : List (S197)) (a1 : Int) (r : Int) (w : World) (hr0_1 : Kd.C k197 w A0_1 l0_1.length l0_1) (hc0_1 : l0_1.length ≤ c0_1) (h : F134.f k a0_0 l0_1 a1 = some r) :
  Calls Tryz.prog 134 #[.agg #[.string a0_0, .slice A0_1 l0_1.length c0_1], .int .i64 a1] w fun e w' => e = .returned (.int .i64 r) ∧ Below w.heap.size w w' := by
 have hu173 := Tryz.underlying173
 have HR0_1 := am_ hr0_1
 have HC0_1 := am_ hc0_1
 clear hr0_1 hc0_1
 have HB := am_ (Below.refl w.heap.size w)
 have H : (if (wrap64 (a1 - (a0_0.size : Int))) < 0 then (some (-1)) else ((F146.f k l0_1 (wrap64 (a1 - (a0_0.size : Int)))).bind fun t107 => (if t107 < 0 then (some (-1)) else (some t107)))) = some r := h
 clear h
 replace H := it_ H; rcases H with ⟨c3b0, H⟩ | ⟨c3b0, H⟩
 ·obtain rfl := Option.some.inj H
  go_enter Tryz.func134, Tryz.ntmps134
  go_wp2_with (first | ((with_reducible refine gate_dst (N := 2) rfl ?_); refine be_ 2 #[.string a0_0, .slice A0_1 l0_1.length c0_1] 173 ?_; intro gb106 hg w4 hbox hb; have BK106 := am_ (hbox); have GW106 := am_ (gw_ hg bl_); have GE106 := GW106; replace HB := hs_ w hb; clear hb hbox hg; obtain ⟨hcz5_0, hcz5_1, hfz5_0, hfz5_1⟩ := cellsF2 BK106.out))
  go_ret
  exact ⟨au1_0, bl_⟩
 replace H := bi_ H; rcases H with ⟨t107, A6, H⟩
 replace H := it_ H; rcases H with ⟨c7b0, H⟩ | ⟨c7b0, H⟩
 ·obtain rfl := Option.some.inj H
  go_enter Tryz.func134, Tryz.ntmps134
  go_wp2_with (first | ((with_reducible refine gate_dst (N := 2) rfl ?_); refine be_ 2 #[.string a0_0, .slice A0_1 l0_1.length c0_1] 173 ?_; intro gb106 hg w8 hbox hb; have BK106 := am_ (hbox); have GW106 := am_ (gw_ hg bl_); have GE106 := GW106; replace HB := hs_ w hb; clear hb hbox hg; obtain ⟨hcz9_0, hcz9_1, hfz9_0, hfz9_1⟩ := cellsF2 BK106.out) | ((with_reducible refine gate_callee (f := 146) rfl ?_); refine gl_ 15 Tryz.func146 #[.slice A0_1 l0_1.length c0_1, .int .i64 (wrap64 (a1 - (a0_0.size : Int)))] ?_ rfl rfl rfl rfl; (with_reducible refine (F146.calls k _ _ l0_1 (wrap64 (a1 - (a0_0.size : Int))) t107 _ ?s1 ?s2 A6.out).mono ?_); (case s1 => exact au1_1); (case s2 => exact HC0_1.out); rintro e w10 ⟨rfl, hb⟩; refine ⟨_, rfl, ?_⟩; replace BK106 := bb_ BK106 hb; replace HB := hs_ w hb; (try clear hb)))
  go_ret
  exact ⟨au1_0, bl_⟩
 obtain rfl := Option.some.inj H
 go_enter Tryz.func134, Tryz.ntmps134
 go_wp2_with (first | ((with_reducible refine gate_dst (N := 2) rfl ?_); refine be_ 2 #[.string a0_0, .slice A0_1 l0_1.length c0_1] 173 ?_; intro gb106 hg w11 hbox hb; have BK106 := am_ (hbox); have GW106 := am_ (gw_ hg bl_); have GE106 := GW106; replace HB := hs_ w hb; clear hb hbox hg; obtain ⟨hcz12_0, hcz12_1, hfz12_0, hfz12_1⟩ := cellsF2 BK106.out) | ((with_reducible refine gate_callee (f := 146) rfl ?_); refine gl_ 15 Tryz.func146 #[.slice A0_1 l0_1.length c0_1, .int .i64 (wrap64 (a1 - (a0_0.size : Int)))] ?_ rfl rfl rfl rfl; (with_reducible refine (F146.calls k _ _ l0_1 (wrap64 (a1 - (a0_0.size : Int))) t107 _ ?s1 ?s2 A6.out).mono ?_); (case s1 => exact au1_1); (case s2 => exact HC0_1.out); rintro e w13 ⟨rfl, hb⟩; refine ⟨_, rfl, ?_⟩; replace BK106 := bb_ BK106 hb; replace HB := hs_ w hb; (try clear hb)))
 go_ret
 exact ⟨au1_0, bl_⟩

/-! ### F123: function 123 -/
def F123.l0 : Nat → List (S173) → Int → Int → Option (Int)
  | 0, _, _, _ => none
  | k + 1, x0, x1, x5 => if x5 < (x0.length : Int) then (if 0 ≤ x5 then ((F134.f k ((rd_T173 x0 x5).f0) ((rd_T173 x0 x5).f1) x1).bind fun t109 => (if t109 < 0 then (some (-1)) else (F123.l0 k x0 t109 (wrap64 (x5 + 1))))) else (none)) else (some x1)
def F123.f (k : Nat) (l0 : List (S173)) (a1 : Int) : Option (Int) := if (wrap64 (a1 - (l0.length : Int))) < 0 then (some (-1)) else (F123.l0 k l0 (wrap64 (a1 - (l0.length : Int))) 0)
theorem F123.mono_l : ∀ k, (∀ y0 y1 y2, LeO (F123.l0 k y0 y1 y2) (F123.l0 (k + 1) y0 y1 y2))
 | 0 => fun _ _ _ r h => by simp [F123.l0] at h
 | k + 1 => by
  have ih0 := F123.mono_l k
  intro y0 y1 y2
  unfold F123.l0
  repeat' with_reducible first | exact ih0 _ _ _ | exact F134.mono _ _ _ _ | exact LeO.refl _ | exact LeO.none _ | refine LeO.ite ?_ ?_ | refine LeO.bind ?_ (fun _ => ?_)
theorem F123.mono : ∀ a0 a1 k, LeO (F123.f k a0 a1) (F123.f (k + 1) a0 a1) := by
 intro a0 a1 k
 have ih0 := F123.mono_l k
 unfold F123.f
 repeat' with_reducible first | exact ih0 _ _ _ | exact F134.mono _ _ _ _ | exact LeO.refl _ | exact LeO.none _ | refine LeO.ite ?_ ?_ | refine LeO.bind ?_ (fun _ => ?_)
theorem F123.calls (k : Nat) (A0 : Option Addr) (c0 : Nat) (l0 : List (S173)) (a1 : Int) (r : Int) (w : World) (hr0 : Kd.C k173 w A0 l0.length l0) (hc0 : l0.length ≤ c0) (h : F123.f k l0 a1 = some r) :
  Calls Tryz.prog 123 #[.slice A0 l0.length c0, .int .i64 a1] w fun e w' => e = .returned (.int .i64 r) ∧ Below w.heap.size w w' := by
 have hu173 := Tryz.underlying173
 have HR0 := am_ hr0
 have HC0 := am_ hc0
 clear hr0 hc0
 have HB := am_ (Below.refl w.heap.size w)
 have H : (if (wrap64 (a1 - (l0.length : Int))) < 0 then (some (-1)) else (F123.l0 k l0 (wrap64 (a1 - (l0.length : Int))) 0)) = some r := h
 clear h
 replace H := it_ H; rcases H with ⟨c3b0, H⟩ | ⟨c3b0, H⟩
 ·obtain rfl := Option.some.inj H
  go_enter Tryz.func123, Tryz.ntmps123
  go_wp2
  go_ret
  exact ⟨au1_0, bl_⟩
 have H' := am_ H
 clear H
 go_enter Tryz.func123, Tryz.ntmps123
 go_wp2
 go_loopg [1, 5] k (fun kq v1 v5 w' => ∃ (x1_1 : Int) (x5_1 : Int), v1 = .int .i64 x1_1 ∧ v5 = .int .i64 x5_1 ∧ Aside0 (F123.l0 kq l0 x1_1 x5_1 = some r) ∧ Aside0 (kq ≤ k) ∧ Aside0 (Below w.heap.size w w'))
 case atStart => exact ⟨(wrap64 (a1 - (l0.length : Int))), (0), er_, er_, H', ⟨Nat.le_refl _⟩, ⟨bl_⟩⟩
 case round =>
  clear H'
  try clear c3b0
  obtain ⟨x1_1, x5_1, rfl, rfl, HA, HK1, HB⟩ := hrel
  cases gk with
  | zero => exact absurd HA.out (by simp [F123.l0])
  | succ k1 =>
   have H := HA.out
   clear HA
   simp only [F123.l0] at H
   replace H := it_ H; rcases H with ⟨c4b0, H⟩ | ⟨c4b0, H⟩
   rotate_left
   ·obtain rfl := Option.some.inj H
    go_wp2
    go_ret
    exact ⟨au1_0, bl_⟩

   replace H := itn_ H; rcases H with ⟨c5b0, H⟩
   replace H := bi_ H; rcases H with ⟨t109, A6, H⟩
   replace H := it_ H; rcases H with ⟨c7b0, H⟩ | ⟨c7b0, H⟩
   ·obtain rfl := Option.some.inj H
    have p108 : 0 ≤ (x5_1 : Int) := od_
    have q108 : x5_1 < (l0.length : Int) := od_
    obtain ⟨ad108, A108_1, c108_1, e108, hx108_0, hx108_1, hl108_1, hi108_1⟩ := at_T173 HR0.out x5_1 p108 q108
    cases e108
    replace hx108_0 := (HB.out.cell (World.block_lt_of_cell? _ _ hx108_0)).trans hx108_0
    replace hx108_1 := (HB.out.cell (World.block_lt_of_cell? _ _ hx108_1)).trans hx108_1
    have HR108_1 := am_ hi108_1
    have HC108_1 := am_ hl108_1
    clear hi108_1 hl108_1
    replace p108 := eq_true p108
    replace q108 := eq_true q108
    go_wp2_with (first | ((with_reducible refine gate_callee (f := 134) rfl ?_); refine gl_ 23 Tryz.func134 #[.agg #[.string ((rd_T173 l0 x5_1).f0), .slice A108_1 ((rd_T173 l0 x5_1).f1).length c108_1], .int .i64 x1_1] ?_ rfl rfl rfl rfl; (with_reducible refine (F134.calls k1 ((rd_T173 l0 x5_1).f0) _ _ ((rd_T173 l0 x5_1).f1) x1_1 t109 _ ?s1 ?s2 A6.out).mono ?_); (case s1 => exact au1_6); (case s2 => exact HC108_1.out); rintro e w8 ⟨rfl, hb⟩; refine ⟨_, rfl, ?_⟩; replace HB := hs_ w hb; (try clear hb)))
    go_ret
    exact ⟨au1_0, bl_⟩
   have H' := am_ H
   clear H
   have p108 : 0 ≤ (x5_1 : Int) := od_
   have q108 : x5_1 < (l0.length : Int) := od_
   obtain ⟨ad108, A108_1, c108_1, e108, hx108_0, hx108_1, hl108_1, hi108_1⟩ := at_T173 HR0.out x5_1 p108 q108
   cases e108
   replace hx108_0 := (HB.out.cell (World.block_lt_of_cell? _ _ hx108_0)).trans hx108_0
   replace hx108_1 := (HB.out.cell (World.block_lt_of_cell? _ _ hx108_1)).trans hx108_1
   have HR108_1 := am_ hi108_1
   have HC108_1 := am_ hl108_1
   clear hi108_1 hl108_1
   replace p108 := eq_true p108
   replace q108 := eq_true q108
   go_wp2_with (first | ((with_reducible refine gate_callee (f := 134) rfl ?_); refine gl_ 23 Tryz.func134 #[.agg #[.string ((rd_T173 l0 x5_1).f0), .slice A108_1 ((rd_T173 l0 x5_1).f1).length c108_1], .int .i64 x1_1] ?_ rfl rfl rfl rfl; (with_reducible refine (F134.calls k1 ((rd_T173 l0 x5_1).f0) _ _ ((rd_T173 l0 x5_1).f1) x1_1 t109 _ ?s1 ?s2 A6.out).mono ?_); (case s1 => exact au1_6); (case s2 => exact HC108_1.out); rintro e w9 ⟨rfl, hb⟩; refine ⟨_, rfl, ?_⟩; replace HB := hs_ w hb; (try clear hb)))
   go_roundg k1
   case measure => have := HK1.out; omega
   case rel => exact ⟨(t109), (wrap64 (x5_1 + 1)), er_, er_, H', ⟨by have := HK1.out; omega⟩, ⟨bl_⟩⟩
/-! ### F109: function 109 -/
def F109.f (k : Nat) (a0_0 : Int) (l0_1 : List (S173)) (a1 : Int) : Option (Int) := (F123.f k l0_1 a1).bind fun t111 => (if t111 < 0 then (some (-1)) else (some t111))
theorem F109.mono : ∀ a0 a1 a2 k, LeO (F109.f k a0 a1 a2) (F109.f (k + 1) a0 a1 a2) := by
 intro a0 a1 a2 k
 unfold F109.f
 repeat' with_reducible first | exact F123.mono _ _ _ | exact LeO.refl _ | exact LeO.none _ | refine LeO.ite ?_ ?_ | refine LeO.bind ?_ (fun _ => ?_)
theorem F109.calls (k : Nat) (a0_0 : Int) (A0_1 : Option Addr) (c0_1 : Nat) (l0_1 : List (S173)) (a1 : Int) (r : Int) (w : World) (hr0_1 : Kd.C k173 w A0_1 l0_1.length l0_1) (hc0_1 : l0_1.length ≤ c0_1) (h : F109.f k a0_0 l0_1 a1 = some r) :
  Calls Tryz.prog 109 #[.agg #[.int .i64 a0_0, .slice A0_1 l0_1.length c0_1], .int .i64 a1] w fun e w' => e = .returned (.int .i64 r) ∧ Below w.heap.size w w' := by
 have hu148 := Tryz.underlying148
 have HR0_1 := am_ hr0_1
 have HC0_1 := am_ hc0_1
 clear hr0_1 hc0_1
 have HB := am_ (Below.refl w.heap.size w)
 have H : ((F123.f k l0_1 a1).bind fun t111 => (if t111 < 0 then (some (-1)) else (some t111))) = some r := h
 clear h
 replace H := bi_ H; rcases H with ⟨t111, A3, H⟩
 replace H := it_ H; rcases H with ⟨c4b0, H⟩ | ⟨c4b0, H⟩
 ·obtain rfl := Option.some.inj H
  go_enter Tryz.func109, Tryz.ntmps109
  go_wp2_with (first | ((with_reducible refine gate_dst (N := 2) rfl ?_); refine be_ 2 #[.int .i64 a0_0, .slice A0_1 l0_1.length c0_1] 148 ?_; intro gb110 hg w5 hbox hb; have BK110 := am_ (hbox); have GW110 := am_ (gw_ hg bl_); have GE110 := GW110; replace HB := hs_ w hb; clear hb hbox hg; obtain ⟨hcz6_0, hcz6_1, hfz6_0, hfz6_1⟩ := cellsF2 BK110.out) | ((with_reducible refine gate_callee (f := 123) rfl ?_); refine gl_ 8 Tryz.func123 #[.slice A0_1 l0_1.length c0_1, .int .i64 a1] ?_ rfl rfl rfl rfl; (with_reducible refine (F123.calls k _ _ l0_1 a1 t111 _ ?s1 ?s2 A3.out).mono ?_); (case s1 => exact au1_1); (case s2 => exact HC0_1.out); rintro e w7 ⟨rfl, hb⟩; refine ⟨_, rfl, ?_⟩; replace BK110 := bb_ BK110 hb; replace HB := hs_ w hb; (try clear hb)))
  go_ret
  exact ⟨au1_0, bl_⟩
 obtain rfl := Option.some.inj H
 go_enter Tryz.func109, Tryz.ntmps109
 go_wp2_with (first | ((with_reducible refine gate_dst (N := 2) rfl ?_); refine be_ 2 #[.int .i64 a0_0, .slice A0_1 l0_1.length c0_1] 148 ?_; intro gb110 hg w8 hbox hb; have BK110 := am_ (hbox); have GW110 := am_ (gw_ hg bl_); have GE110 := GW110; replace HB := hs_ w hb; clear hb hbox hg; obtain ⟨hcz9_0, hcz9_1, hfz9_0, hfz9_1⟩ := cellsF2 BK110.out) | ((with_reducible refine gate_callee (f := 123) rfl ?_); refine gl_ 8 Tryz.func123 #[.slice A0_1 l0_1.length c0_1, .int .i64 a1] ?_ rfl rfl rfl rfl; (with_reducible refine (F123.calls k _ _ l0_1 a1 t111 _ ?s1 ?s2 A3.out).mono ?_); (case s1 => exact au1_1); (case s2 => exact HC0_1.out); rintro e w10 ⟨rfl, hb⟩; refine ⟨_, rfl, ?_⟩; replace BK110 := bb_ BK110 hb; replace HB := hs_ w hb; (try clear hb)))
 go_ret
 exact ⟨au1_0, bl_⟩

/-! ### F88: function 88 -/
def F88.l0 : Nat → List (S148) → Int → Int → Option (Int)
  | 0, _, _, _ => none
  | k + 1, x0, x1, x5 => if x5 < (x0.length : Int) then (if 0 ≤ x5 then ((F109.f k ((rd_T148 x0 x5).f0) ((rd_T148 x0 x5).f1) x1).bind fun t113 => (if t113 < 0 then (some (-1)) else (F88.l0 k x0 t113 (wrap64 (x5 + 1))))) else (none)) else (some x1)
def F88.f (k : Nat) (l0 : List (S148)) (a1 : Int) : Option (Int) := if (wrap64 (a1 - (l0.length : Int))) < 0 then (some (-1)) else (F88.l0 k l0 (wrap64 (a1 - (l0.length : Int))) 0)
theorem F88.mono_l : ∀ k, (∀ y0 y1 y2, LeO (F88.l0 k y0 y1 y2) (F88.l0 (k + 1) y0 y1 y2))
 | 0 => fun _ _ _ r h => by simp [F88.l0] at h
 | k + 1 => by
  have ih0 := F88.mono_l k
  intro y0 y1 y2
  unfold F88.l0
  repeat' with_reducible first | exact ih0 _ _ _ | exact F109.mono _ _ _ _ | exact LeO.refl _ | exact LeO.none _ | refine LeO.ite ?_ ?_ | refine LeO.bind ?_ (fun _ => ?_)
theorem F88.mono : ∀ a0 a1 k, LeO (F88.f k a0 a1) (F88.f (k + 1) a0 a1) := by
 intro a0 a1 k
 have ih0 := F88.mono_l k
 unfold F88.f
 repeat' with_reducible first | exact ih0 _ _ _ | exact F109.mono _ _ _ _ | exact LeO.refl _ | exact LeO.none _ | refine LeO.ite ?_ ?_ | refine LeO.bind ?_ (fun _ => ?_)
theorem F88.calls (k : Nat) (A0 : Option Addr) (c0 : Nat) (l0 : List (S148)) (a1 : Int) (r : Int) (w : World) (hr0 : Kd.C k148 w A0 l0.length l0) (hc0 : l0.length ≤ c0) (h : F88.f k l0 a1 = some r) :
  Calls Tryz.prog 88 #[.slice A0 l0.length c0, .int .i64 a1] w fun e w' => e = .returned (.int .i64 r) ∧ Below w.heap.size w w' := by
 have hu148 := Tryz.underlying148
 have HR0 := am_ hr0
 have HC0 := am_ hc0
 clear hr0 hc0
 have HB := am_ (Below.refl w.heap.size w)
 have H : (if (wrap64 (a1 - (l0.length : Int))) < 0 then (some (-1)) else (F88.l0 k l0 (wrap64 (a1 - (l0.length : Int))) 0)) = some r := h
 clear h
 replace H := it_ H; rcases H with ⟨c3b0, H⟩ | ⟨c3b0, H⟩
 ·obtain rfl := Option.some.inj H
  go_enter Tryz.func88, Tryz.ntmps88
  go_wp2
  go_ret
  exact ⟨au1_0, bl_⟩
 have H' := am_ H
 clear H
 go_enter Tryz.func88, Tryz.ntmps88
 go_wp2
 go_loopg [1, 5] k (fun kq v1 v5 w' => ∃ (x1_1 : Int) (x5_1 : Int), v1 = .int .i64 x1_1 ∧ v5 = .int .i64 x5_1 ∧ Aside0 (F88.l0 kq l0 x1_1 x5_1 = some r) ∧ Aside0 (kq ≤ k) ∧ Aside0 (Below w.heap.size w w'))
 case atStart => exact ⟨(wrap64 (a1 - (l0.length : Int))), (0), er_, er_, H', ⟨Nat.le_refl _⟩, ⟨bl_⟩⟩
 case round =>
  clear H'
  try clear c3b0
  obtain ⟨x1_1, x5_1, rfl, rfl, HA, HK1, HB⟩ := hrel
  cases gk with
  | zero => exact absurd HA.out (by simp [F88.l0])
  | succ k1 =>
   have H := HA.out
   clear HA
   simp only [F88.l0] at H
   replace H := it_ H; rcases H with ⟨c4b0, H⟩ | ⟨c4b0, H⟩
   rotate_left
   ·obtain rfl := Option.some.inj H
    go_wp2
    go_ret
    exact ⟨au1_0, bl_⟩

   replace H := itn_ H; rcases H with ⟨c5b0, H⟩
   replace H := bi_ H; rcases H with ⟨t113, A6, H⟩
   replace H := it_ H; rcases H with ⟨c7b0, H⟩ | ⟨c7b0, H⟩
   ·obtain rfl := Option.some.inj H
    have p112 : 0 ≤ (x5_1 : Int) := od_
    have q112 : x5_1 < (l0.length : Int) := od_
    obtain ⟨ad112, A112_1, c112_1, e112, hx112_0, hx112_1, hl112_1, hi112_1⟩ := at_T148 HR0.out x5_1 p112 q112
    cases e112
    replace hx112_0 := (HB.out.cell (World.block_lt_of_cell? _ _ hx112_0)).trans hx112_0
    replace hx112_1 := (HB.out.cell (World.block_lt_of_cell? _ _ hx112_1)).trans hx112_1
    have HR112_1 := am_ hi112_1
    have HC112_1 := am_ hl112_1
    clear hi112_1 hl112_1
    replace p112 := eq_true p112
    replace q112 := eq_true q112
    go_wp2_with (first | ((with_reducible refine gate_callee (f := 109) rfl ?_); refine gl_ 23 Tryz.func109 #[.agg #[.int .i64 ((rd_T148 l0 x5_1).f0), .slice A112_1 ((rd_T148 l0 x5_1).f1).length c112_1], .int .i64 x1_1] ?_ rfl rfl rfl rfl; (with_reducible refine (F109.calls k1 ((rd_T148 l0 x5_1).f0) _ _ ((rd_T148 l0 x5_1).f1) x1_1 t113 _ ?s1 ?s2 A6.out).mono ?_); (case s1 => exact au1_7); (case s2 => exact HC112_1.out); rintro e w8 ⟨rfl, hb⟩; refine ⟨_, rfl, ?_⟩; replace HB := hs_ w hb; (try clear hb)))
    go_ret
    exact ⟨au1_0, bl_⟩
   have H' := am_ H
   clear H
   have p112 : 0 ≤ (x5_1 : Int) := od_
   have q112 : x5_1 < (l0.length : Int) := od_
   obtain ⟨ad112, A112_1, c112_1, e112, hx112_0, hx112_1, hl112_1, hi112_1⟩ := at_T148 HR0.out x5_1 p112 q112
   cases e112
   replace hx112_0 := (HB.out.cell (World.block_lt_of_cell? _ _ hx112_0)).trans hx112_0
   replace hx112_1 := (HB.out.cell (World.block_lt_of_cell? _ _ hx112_1)).trans hx112_1
   have HR112_1 := am_ hi112_1
   have HC112_1 := am_ hl112_1
   clear hi112_1 hl112_1
   replace p112 := eq_true p112
   replace q112 := eq_true q112
   go_wp2_with (first | ((with_reducible refine gate_callee (f := 109) rfl ?_); refine gl_ 23 Tryz.func109 #[.agg #[.int .i64 ((rd_T148 l0 x5_1).f0), .slice A112_1 ((rd_T148 l0 x5_1).f1).length c112_1], .int .i64 x1_1] ?_ rfl rfl rfl rfl; (with_reducible refine (F109.calls k1 ((rd_T148 l0 x5_1).f0) _ _ ((rd_T148 l0 x5_1).f1) x1_1 t113 _ ?s1 ?s2 A6.out).mono ?_); (case s1 => exact au1_7); (case s2 => exact HC112_1.out); rintro e w9 ⟨rfl, hb⟩; refine ⟨_, rfl, ?_⟩; replace HB := hs_ w hb; (try clear hb)))
   go_roundg k1
   case measure => have := HK1.out; omega
   case rel => exact ⟨(t113), (wrap64 (x5_1 + 1)), er_, er_, H', ⟨by have := HK1.out; omega⟩, ⟨bl_⟩⟩
/-! ### F52: function 52 -/
def F52.f (k : Nat) (a0_0 : Int) (a0_1 : Int) (l0_2 : List (S148)) (a1 : Int) : Option (Int) := (F88.f k l0_2 a1).bind fun t115 => (if t115 < 0 then (some (-1)) else (some t115))
theorem F52.mono : ∀ a0 a1 a2 a3 k, LeO (F52.f k a0 a1 a2 a3) (F52.f (k + 1) a0 a1 a2 a3) := by
 intro a0 a1 a2 a3 k
 unfold F52.f
 repeat' with_reducible first | exact F88.mono _ _ _ | exact LeO.refl _ | exact LeO.none _ | refine LeO.ite ?_ ?_ | refine LeO.bind ?_ (fun _ => ?_)
theorem F52.calls (k : Nat) (a0_0 : Int) (a0_1 : Int) (A0_2 : Option Addr) (c0_2 : Nat) (l0_2 : List (S148)) (a1 : Int) (r : Int) (w : World) (hr0_2 : Kd.C k148 w A0_2 l0_2.length l0_2) (hc0_2 : l0_2.length ≤ c0_2) (h : F52.f k a0_0 a0_1 l0_2 a1 = some r) :
  Calls Tryz.prog 52 #[.agg #[.int .i64 a0_0, .int .i64 a0_1, .slice A0_2 l0_2.length c0_2], .int .i64 a1] w fun e w' => e = .returned (.int .i64 r) ∧ Below w.heap.size w w' := by
 have hu89 := Tryz.underlying89
 have HR0_2 := am_ hr0_2
 have HC0_2 := am_ hc0_2
 clear hr0_2 hc0_2
 have HB := am_ (Below.refl w.heap.size w)
 have H : ((F88.f k l0_2 a1).bind fun t115 => (if t115 < 0 then (some (-1)) else (some t115))) = some r := h
 clear h
 replace H := bi_ H; rcases H with ⟨t115, A3, H⟩
 replace H := it_ H; rcases H with ⟨c4b0, H⟩ | ⟨c4b0, H⟩
 ·obtain rfl := Option.some.inj H
  go_enter Tryz.func52, Tryz.ntmps52
  go_wp2_with (first | ((with_reducible refine gate_dst (N := 2) rfl ?_); refine be_ 2 #[.int .i64 a0_0, .int .i64 a0_1, .slice A0_2 l0_2.length c0_2] 89 ?_; intro gb114 hg w5 hbox hb; have BK114 := am_ (hbox); have GW114 := am_ (gw_ hg bl_); have GE114 := GW114; replace HB := hs_ w hb; clear hb hbox hg; obtain ⟨hcz6_0, hcz6_1, hcz6_2, hfz6_0, hfz6_1, hfz6_2⟩ := cellsF3 BK114.out) | ((with_reducible refine gate_callee (f := 88) rfl ?_); refine gl_ 8 Tryz.func88 #[.slice A0_2 l0_2.length c0_2, .int .i64 a1] ?_ rfl rfl rfl rfl; (with_reducible refine (F88.calls k _ _ l0_2 a1 t115 _ ?s1 ?s2 A3.out).mono ?_); (case s1 => exact au1_10); (case s2 => exact HC0_2.out); rintro e w7 ⟨rfl, hb⟩; refine ⟨_, rfl, ?_⟩; replace BK114 := bb_ BK114 hb; replace HB := hs_ w hb; (try clear hb)))
  go_ret
  exact ⟨au1_0, bl_⟩
 obtain rfl := Option.some.inj H
 go_enter Tryz.func52, Tryz.ntmps52
 go_wp2_with (first | ((with_reducible refine gate_dst (N := 2) rfl ?_); refine be_ 2 #[.int .i64 a0_0, .int .i64 a0_1, .slice A0_2 l0_2.length c0_2] 89 ?_; intro gb114 hg w8 hbox hb; have BK114 := am_ (hbox); have GW114 := am_ (gw_ hg bl_); have GE114 := GW114; replace HB := hs_ w hb; clear hb hbox hg; obtain ⟨hcz9_0, hcz9_1, hcz9_2, hfz9_0, hfz9_1, hfz9_2⟩ := cellsF3 BK114.out) | ((with_reducible refine gate_callee (f := 88) rfl ?_); refine gl_ 8 Tryz.func88 #[.slice A0_2 l0_2.length c0_2, .int .i64 a1] ?_ rfl rfl rfl rfl; (with_reducible refine (F88.calls k _ _ l0_2 a1 t115 _ ?s1 ?s2 A3.out).mono ?_); (case s1 => exact au1_10); (case s2 => exact HC0_2.out); rintro e w10 ⟨rfl, hb⟩; refine ⟨_, rfl, ?_⟩; replace BK114 := bb_ BK114 hb; replace HB := hs_ w hb; (try clear hb)))
 go_ret
 exact ⟨au1_0, bl_⟩

/-! ### F22: function 22 -/
def F22.l0 : Nat → List (S89) → Int → Int → Option (Int)
  | 0, _, _, _ => none
  | k + 1, x0, x1, x5 => if x5 < (x0.length : Int) then (if 0 ≤ x5 then ((F52.f k ((rd_T89 x0 x5).f0) ((rd_T89 x0 x5).f1) ((rd_T89 x0 x5).f2) x1).bind fun t117 => (if t117 < 0 then (some (-1)) else (F22.l0 k x0 t117 (wrap64 (x5 + 1))))) else (none)) else (some x1)
def F22.f (k : Nat) (l0 : List (S89)) (a1 : Int) : Option (Int) := if (wrap64 (a1 - (l0.length : Int))) < 0 then (some (-1)) else (F22.l0 k l0 (wrap64 (a1 - (l0.length : Int))) 0)
theorem F22.mono_l : ∀ k, (∀ y0 y1 y2, LeO (F22.l0 k y0 y1 y2) (F22.l0 (k + 1) y0 y1 y2))
 | 0 => fun _ _ _ r h => by simp [F22.l0] at h
 | k + 1 => by
  have ih0 := F22.mono_l k
  intro y0 y1 y2
  unfold F22.l0
  repeat' with_reducible first | exact ih0 _ _ _ | exact F52.mono _ _ _ _ _ | exact LeO.refl _ | exact LeO.none _ | refine LeO.ite ?_ ?_ | refine LeO.bind ?_ (fun _ => ?_)
theorem F22.mono : ∀ a0 a1 k, LeO (F22.f k a0 a1) (F22.f (k + 1) a0 a1) := by
 intro a0 a1 k
 have ih0 := F22.mono_l k
 unfold F22.f
 repeat' with_reducible first | exact ih0 _ _ _ | exact F52.mono _ _ _ _ _ | exact LeO.refl _ | exact LeO.none _ | refine LeO.ite ?_ ?_ | refine LeO.bind ?_ (fun _ => ?_)
theorem F22.calls (k : Nat) (A0 : Option Addr) (c0 : Nat) (l0 : List (S89)) (a1 : Int) (r : Int) (w : World) (hr0 : Kd.C k89 w A0 l0.length l0) (hc0 : l0.length ≤ c0) (h : F22.f k l0 a1 = some r) :
  Calls Tryz.prog 22 #[.slice A0 l0.length c0, .int .i64 a1] w fun e w' => e = .returned (.int .i64 r) ∧ Below w.heap.size w w' := by
 have hu89 := Tryz.underlying89
 have HR0 := am_ hr0
 have HC0 := am_ hc0
 clear hr0 hc0
 have HB := am_ (Below.refl w.heap.size w)
 have H : (if (wrap64 (a1 - (l0.length : Int))) < 0 then (some (-1)) else (F22.l0 k l0 (wrap64 (a1 - (l0.length : Int))) 0)) = some r := h
 clear h
 replace H := it_ H; rcases H with ⟨c3b0, H⟩ | ⟨c3b0, H⟩
 ·obtain rfl := Option.some.inj H
  go_enter Tryz.func22, Tryz.ntmps22
  go_wp2
  go_ret
  exact ⟨au1_0, bl_⟩
 have H' := am_ H
 clear H
 go_enter Tryz.func22, Tryz.ntmps22
 go_wp2
 go_loopg [1, 5] k (fun kq v1 v5 w' => ∃ (x1_1 : Int) (x5_1 : Int), v1 = .int .i64 x1_1 ∧ v5 = .int .i64 x5_1 ∧ Aside0 (F22.l0 kq l0 x1_1 x5_1 = some r) ∧ Aside0 (kq ≤ k) ∧ Aside0 (Below w.heap.size w w'))
 case atStart => exact ⟨(wrap64 (a1 - (l0.length : Int))), (0), er_, er_, H', ⟨Nat.le_refl _⟩, ⟨bl_⟩⟩
 case round =>
  clear H'
  try clear c3b0
  obtain ⟨x1_1, x5_1, rfl, rfl, HA, HK1, HB⟩ := hrel
  cases gk with
  | zero => exact absurd HA.out (by simp [F22.l0])
  | succ k1 =>
   have H := HA.out
   clear HA
   simp only [F22.l0] at H
   replace H := it_ H; rcases H with ⟨c4b0, H⟩ | ⟨c4b0, H⟩
   rotate_left
   ·obtain rfl := Option.some.inj H
    go_wp2
    go_ret
    exact ⟨au1_0, bl_⟩

   replace H := itn_ H; rcases H with ⟨c5b0, H⟩
   replace H := bi_ H; rcases H with ⟨t117, A6, H⟩
   replace H := it_ H; rcases H with ⟨c7b0, H⟩ | ⟨c7b0, H⟩
   ·obtain rfl := Option.some.inj H
    have p116 : 0 ≤ (x5_1 : Int) := od_
    have q116 : x5_1 < (l0.length : Int) := od_
    obtain ⟨ad116, A116_2, c116_2, e116, hx116_0, hx116_1, hx116_2, hl116_2, hi116_2⟩ := at_T89 HR0.out x5_1 p116 q116
    cases e116
    replace hx116_0 := (HB.out.cell (World.block_lt_of_cell? _ _ hx116_0)).trans hx116_0
    replace hx116_1 := (HB.out.cell (World.block_lt_of_cell? _ _ hx116_1)).trans hx116_1
    replace hx116_2 := (HB.out.cell (World.block_lt_of_cell? _ _ hx116_2)).trans hx116_2
    have HR116_2 := am_ hi116_2
    have HC116_2 := am_ hl116_2
    clear hi116_2 hl116_2
    replace p116 := eq_true p116
    replace q116 := eq_true q116
    go_wp2_with (first | ((with_reducible refine gate_callee (f := 52) rfl ?_); refine gl_ 23 Tryz.func52 #[.agg #[.int .i64 ((rd_T89 l0 x5_1).f0), .int .i64 ((rd_T89 l0 x5_1).f1), .slice A116_2 ((rd_T89 l0 x5_1).f2).length c116_2], .int .i64 x1_1] ?_ rfl rfl rfl rfl; (with_reducible refine (F52.calls k1 ((rd_T89 l0 x5_1).f0) ((rd_T89 l0 x5_1).f1) _ _ ((rd_T89 l0 x5_1).f2) x1_1 t117 _ ?s1 ?s2 A6.out).mono ?_); (case s1 => exact au1_8); (case s2 => exact HC116_2.out); rintro e w8 ⟨rfl, hb⟩; refine ⟨_, rfl, ?_⟩; replace HB := hs_ w hb; (try clear hb)))
    go_ret
    exact ⟨au1_0, bl_⟩
   have H' := am_ H
   clear H
   have p116 : 0 ≤ (x5_1 : Int) := od_
   have q116 : x5_1 < (l0.length : Int) := od_
   obtain ⟨ad116, A116_2, c116_2, e116, hx116_0, hx116_1, hx116_2, hl116_2, hi116_2⟩ := at_T89 HR0.out x5_1 p116 q116
   cases e116
   replace hx116_0 := (HB.out.cell (World.block_lt_of_cell? _ _ hx116_0)).trans hx116_0
   replace hx116_1 := (HB.out.cell (World.block_lt_of_cell? _ _ hx116_1)).trans hx116_1
   replace hx116_2 := (HB.out.cell (World.block_lt_of_cell? _ _ hx116_2)).trans hx116_2
   have HR116_2 := am_ hi116_2
   have HC116_2 := am_ hl116_2
   clear hi116_2 hl116_2
   replace p116 := eq_true p116
   replace q116 := eq_true q116
   go_wp2_with (first | ((with_reducible refine gate_callee (f := 52) rfl ?_); refine gl_ 23 Tryz.func52 #[.agg #[.int .i64 ((rd_T89 l0 x5_1).f0), .int .i64 ((rd_T89 l0 x5_1).f1), .slice A116_2 ((rd_T89 l0 x5_1).f2).length c116_2], .int .i64 x1_1] ?_ rfl rfl rfl rfl; (with_reducible refine (F52.calls k1 ((rd_T89 l0 x5_1).f0) ((rd_T89 l0 x5_1).f1) _ _ ((rd_T89 l0 x5_1).f2) x1_1 t117 _ ?s1 ?s2 A6.out).mono ?_); (case s1 => exact au1_8); (case s2 => exact HC116_2.out); rintro e w9 ⟨rfl, hb⟩; refine ⟨_, rfl, ?_⟩; replace HB := hs_ w hb; (try clear hb)))
   go_roundg k1
   case measure => have := HK1.out; omega
   case rel => exact ⟨(t117), (wrap64 (x5_1 + 1)), er_, er_, H', ⟨by have := HK1.out; omega⟩, ⟨bl_⟩⟩
/-! ### F5: function 5 -/
def F5.f (k : Nat) (a0_0 : ByteArray) (a0_1 : ByteArray) (a0_2 : Int) (l0_3 : List (S89)) (a1 : Int) : Option (Int) := if (wrap64 (a1 - (a0_0.size : Int))) < 0 then (some (-1)) else (if (wrap64 ((wrap64 (a1 - (a0_0.size : Int))) - (a0_1.size : Int))) < 0 then (some (-1)) else ((F22.f k l0_3 (wrap64 ((wrap64 (a1 - (a0_0.size : Int))) - (a0_1.size : Int)))).bind fun t119 => (if t119 < 0 then (some (-1)) else (some t119))))
theorem F5.mono : ∀ a0 a1 a2 a3 a4 k, LeO (F5.f k a0 a1 a2 a3 a4) (F5.f (k + 1) a0 a1 a2 a3 a4) := by
 intro a0 a1 a2 a3 a4 k
 unfold F5.f
 repeat' with_reducible first | exact F22.mono _ _ _ | exact LeO.refl _ | exact LeO.none _ | refine LeO.ite ?_ ?_ | refine LeO.bind ?_ (fun _ => ?_)
theorem F5.calls (k : Nat) (a0_0 : ByteArray) (a0_1 : ByteArray) (a0_2 : Int) (A0_3 : Option Addr) (c0_3 : Nat) (l0_3 : List (S89)) (a1 : Int) (r : Int) (w : World) (hr0_3 : Kd.C k89 w A0_3 l0_3.length l0_3) (hc0_3 : l0_3.length ≤ c0_3) (h : F5.f k a0_0 a0_1 a0_2 l0_3 a1 = some r) :
  Calls Tryz.prog 5 #[.agg #[.string a0_0, .string a0_1, .int .i64 a0_2, .slice A0_3 l0_3.length c0_3], .int .i64 a1] w fun e w' => e = .returned (.int .i64 r) ∧ Below w.heap.size w w' := by
 have hu24 := Tryz.underlying24
 have HR0_3 := am_ hr0_3
 have HC0_3 := am_ hc0_3
 clear hr0_3 hc0_3
 have HB := am_ (Below.refl w.heap.size w)
 have H : (if (wrap64 (a1 - (a0_0.size : Int))) < 0 then (some (-1)) else (if (wrap64 ((wrap64 (a1 - (a0_0.size : Int))) - (a0_1.size : Int))) < 0 then (some (-1)) else ((F22.f k l0_3 (wrap64 ((wrap64 (a1 - (a0_0.size : Int))) - (a0_1.size : Int)))).bind fun t119 => (if t119 < 0 then (some (-1)) else (some t119))))) = some r := h
 clear h
 replace H := it_ H; rcases H with ⟨c3b0, H⟩ | ⟨c3b0, H⟩
 ·obtain rfl := Option.some.inj H
  go_enter Tryz.func5, Tryz.ntmps5
  go_wp2_with (first | ((with_reducible refine gate_dst (N := 2) rfl ?_); refine be_ 2 #[.string a0_0, .string a0_1, .int .i64 a0_2, .slice A0_3 l0_3.length c0_3] 24 ?_; intro gb118 hg w4 hbox hb; have BK118 := am_ (hbox); have GW118 := am_ (gw_ hg bl_); have GE118 := GW118; replace HB := hs_ w hb; clear hb hbox hg; obtain ⟨hcz5_0, hcz5_1, hcz5_2, hcz5_3, hfz5_0, hfz5_1, hfz5_2, hfz5_3⟩ := cellsF4 BK118.out))
  go_ret
  exact ⟨au1_0, bl_⟩
 replace H := it_ H; rcases H with ⟨c6b0, H⟩ | ⟨c6b0, H⟩
 ·obtain rfl := Option.some.inj H
  go_enter Tryz.func5, Tryz.ntmps5
  go_wp2_with (first | ((with_reducible refine gate_dst (N := 2) rfl ?_); refine be_ 2 #[.string a0_0, .string a0_1, .int .i64 a0_2, .slice A0_3 l0_3.length c0_3] 24 ?_; intro gb118 hg w7 hbox hb; have BK118 := am_ (hbox); have GW118 := am_ (gw_ hg bl_); have GE118 := GW118; replace HB := hs_ w hb; clear hb hbox hg; obtain ⟨hcz8_0, hcz8_1, hcz8_2, hcz8_3, hfz8_0, hfz8_1, hfz8_2, hfz8_3⟩ := cellsF4 BK118.out))
  go_ret
  exact ⟨au1_0, bl_⟩
 replace H := bi_ H; rcases H with ⟨t119, A9, H⟩
 replace H := it_ H; rcases H with ⟨c10b0, H⟩ | ⟨c10b0, H⟩
 ·obtain rfl := Option.some.inj H
  go_enter Tryz.func5, Tryz.ntmps5
  go_wp2_with (first | ((with_reducible refine gate_dst (N := 2) rfl ?_); refine be_ 2 #[.string a0_0, .string a0_1, .int .i64 a0_2, .slice A0_3 l0_3.length c0_3] 24 ?_; intro gb118 hg w11 hbox hb; have BK118 := am_ (hbox); have GW118 := am_ (gw_ hg bl_); have GE118 := GW118; replace HB := hs_ w hb; clear hb hbox hg; obtain ⟨hcz12_0, hcz12_1, hcz12_2, hcz12_3, hfz12_0, hfz12_1, hfz12_2, hfz12_3⟩ := cellsF4 BK118.out) | ((with_reducible refine gate_callee (f := 22) rfl ?_); refine gl_ 22 Tryz.func22 #[.slice A0_3 l0_3.length c0_3, .int .i64 (wrap64 ((wrap64 (a1 - (a0_0.size : Int))) - (a0_1.size : Int)))] ?_ rfl rfl rfl rfl; (with_reducible refine (F22.calls k _ _ l0_3 (wrap64 ((wrap64 (a1 - (a0_0.size : Int))) - (a0_1.size : Int))) t119 _ ?s1 ?s2 A9.out).mono ?_); (case s1 => exact au1_11); (case s2 => exact HC0_3.out); rintro e w13 ⟨rfl, hb⟩; refine ⟨_, rfl, ?_⟩; replace BK118 := bb_ BK118 hb; replace HB := hs_ w hb; (try clear hb)))
  go_ret
  exact ⟨au1_0, bl_⟩
 obtain rfl := Option.some.inj H
 go_enter Tryz.func5, Tryz.ntmps5
 go_wp2_with (first | ((with_reducible refine gate_dst (N := 2) rfl ?_); refine be_ 2 #[.string a0_0, .string a0_1, .int .i64 a0_2, .slice A0_3 l0_3.length c0_3] 24 ?_; intro gb118 hg w14 hbox hb; have BK118 := am_ (hbox); have GW118 := am_ (gw_ hg bl_); have GE118 := GW118; replace HB := hs_ w hb; clear hb hbox hg; obtain ⟨hcz15_0, hcz15_1, hcz15_2, hcz15_3, hfz15_0, hfz15_1, hfz15_2, hfz15_3⟩ := cellsF4 BK118.out) | ((with_reducible refine gate_callee (f := 22) rfl ?_); refine gl_ 22 Tryz.func22 #[.slice A0_3 l0_3.length c0_3, .int .i64 (wrap64 ((wrap64 (a1 - (a0_0.size : Int))) - (a0_1.size : Int)))] ?_ rfl rfl rfl rfl; (with_reducible refine (F22.calls k _ _ l0_3 (wrap64 ((wrap64 (a1 - (a0_0.size : Int))) - (a0_1.size : Int))) t119 _ ?s1 ?s2 A9.out).mono ?_); (case s1 => exact au1_11); (case s2 => exact HC0_3.out); rintro e w16 ⟨rfl, hb⟩; refine ⟨_, rfl, ?_⟩; replace BK118 := bb_ BK118 hb; replace HB := hs_ w hb; (try clear hb)))
 go_ret
 exact ⟨au1_0, bl_⟩

/-! ### F39: function 39 -/
mutual
def F39.j0 : Nat → ByteArray → Bool → Option (Bool)
  | 0, _, _ => none
  | k + 1, x0, x22 => if x22 = true then (some false) else (F39.l0 k x0 0)
def F39.l0 : Nat → ByteArray → Int → Option (Bool)
  | 0, _, _ => none
  | k + 1, x0, x3 => if x3 < (x0.size : Int) then (if 0 ≤ x3 then (if (bt x0 x3) ≥ 65 then (if (bt x0 x3) ≤ 90 then (F39.l0 k x0 (wrap64 (x3 + 1))) else (if (bt x0 x3) ≥ 48 then (if (bt x0 x3) ≤ 57 then (F39.l0 k x0 (wrap64 (x3 + 1))) else (if ((bt x0 x3) = 45) then (F39.l0 k x0 (wrap64 (x3 + 1))) else (some false))) else (if ((bt x0 x3) = 45) then (F39.l0 k x0 (wrap64 (x3 + 1))) else (some false)))) else (if (bt x0 x3) ≥ 48 then (if (bt x0 x3) ≤ 57 then (F39.l0 k x0 (wrap64 (x3 + 1))) else (if ((bt x0 x3) = 45) then (F39.l0 k x0 (wrap64 (x3 + 1))) else (some false))) else (if ((bt x0 x3) = 45) then (F39.l0 k x0 (wrap64 (x3 + 1))) else (some false)))) else (none)) else (some true)
end
def F39.f (k : Nat) (a0 : ByteArray) : Option (Bool) := if (a0.size : Int) < 1 then (F39.j0 k a0 true) else (if (a0.size : Int) > 12 then (F39.j0 k a0 true) else (if 0 < (a0.size : Int) then (if (bt a0 0) < 65 then (F39.j0 k a0 true) else (F39.j0 k a0 (decide ((bt a0 0) > 90)))) else (none)))
theorem F39.mono_l : ∀ k, (∀ y0 y1, LeO (F39.j0 k y0 y1) (F39.j0 (k + 1) y0 y1)) ∧ (∀ y0 y1, LeO (F39.l0 k y0 y1) (F39.l0 (k + 1) y0 y1))
 | 0 => ⟨fun _ _ r h => by simp [F39.j0] at h, fun _ _ r h => by simp [F39.l0] at h⟩
 | k + 1 => by
  obtain ⟨ih0, ih1⟩ := F39.mono_l k
  refine ⟨?_, ?_⟩
  rotate_left
  ·intro y0 y1
   unfold F39.l0
   repeat' with_reducible first | exact ih0 _ _ | exact ih1 _ _ | exact LeO.refl _ | exact LeO.none _ | refine LeO.ite ?_ ?_ | refine LeO.bind ?_ (fun _ => ?_)
  intro y0 y1
  unfold F39.j0
  repeat' with_reducible first | exact ih0 _ _ | exact ih1 _ _ | exact LeO.refl _ | exact LeO.none _ | refine LeO.ite ?_ ?_ | refine LeO.bind ?_ (fun _ => ?_)
theorem F39.mono : ∀ a0 k, LeO (F39.f k a0) (F39.f (k + 1) a0) := by
 intro a0 k
 obtain ⟨ih0, ih1⟩ := F39.mono_l k
 unfold F39.f
 repeat' with_reducible first | exact ih0 _ _ | exact ih1 _ _ | exact LeO.refl _ | exact LeO.none _ | refine LeO.ite ?_ ?_ | refine LeO.bind ?_ (fun _ => ?_)
theorem F39.calls (k : Nat) (a0 : ByteArray) (r : Bool) (w : World) (h : F39.f k a0 = some r) :
  Calls Tryz.prog 39 #[.string a0] w fun e w' => e = .returned (.bool r) ∧ Drawn0 w w' := by
 have H : (if (a0.size : Int) < 1 then (F39.j0 k a0 true) else (if (a0.size : Int) > 12 then (F39.j0 k a0 true) else (if 0 < (a0.size : Int) then (if (bt a0 0) < 65 then (F39.j0 k a0 true) else (F39.j0 k a0 (decide ((bt a0 0) > 90)))) else (none)))) = some r := h
 clear h
 have HC2 := am_ H
 clear H
 go_enter Tryz.func39, Tryz.ntmps39
 go_upto_region 1 with (fail)
 go_cut [22] (fun v22 wc => ∃ (kq : Nat) (x22_1 : Bool), v22 = .bool x22_1 ∧ Aside0 (F39.j0 kq a0 x22_1 = some r) ∧ Aside0 (kq ≤ k) ∧ Drawn0 w wc)
 case first =>
  have H := HC2.out
  clear HC2
  replace H := it_ H; rcases H with ⟨c3b0, H⟩ | ⟨c3b0, H⟩
  ·have c3b1 : decide (a0.size < 1) = true := n2_ c3b0
   (first | rw [c3b0] | (simp only [i64_w, i32_w]; rw [c3b0]) | skip)
   have H' := am_ H
   clear H
   go_wp2
   go_meet
   case rel => exact ⟨_, (true), er_, H', ⟨au1_4⟩, dn_⟩
  have c3b1 : decide (a0.size < 1) = false := n2_ c3b0
  (first | rw [c3b0] | (simp only [i64_w, i32_w]; rw [c3b0]) | skip)
  replace H := it_ H; rcases H with ⟨(c4b0 : decide (12 < (a0.size : Int)) = true), H⟩ | ⟨(c4b0 : decide (12 < (a0.size : Int)) = false), H⟩
  ·have c4b1 : decide (12 < a0.size) = true := n2_ c4b0
   have H' := am_ H
   clear H
   go_wp2
   go_meet
   case rel => exact ⟨_, (true), er_, H', ⟨au1_4⟩, dn_⟩
  have c4b1 : decide (12 < a0.size) = false := n2_ c4b0
  replace H := itn_ H; rcases H with ⟨c5b0, H⟩
  have c5b1 : decide (0 < a0.size) = true := n2_ c5b0
  replace H := it_ H; rcases H with ⟨c7b0, H⟩ | ⟨c7b0, H⟩
  ·have H' := am_ H
   clear H
   have p6 : 0 ≤ (0 : Int) := (by omega)
   have q6 : 0 < a0.size := (by have : (0 : Int) < (a0.size : Int) := od_; omega)
   have hx6 : ∀ h : 0 < a0.size, ((a0[0]'h).toNat : Int) = bt a0 0 := bt_at a0 0
   clear p6
   have qi6 : (0 < (a0.size : Int)) = True := eq_true (of_decide_eq_true as_)
   replace q6 := eq_true q6
   go_wp2
   go_meet
   case rel => exact ⟨_, (true), er_, H', ⟨au1_4⟩, dn_⟩
  have H' := am_ H
  clear H
  have p6 : 0 ≤ (0 : Int) := (by omega)
  have q6 : 0 < a0.size := (by have : (0 : Int) < (a0.size : Int) := od_; omega)
  have hx6 : ∀ h : 0 < a0.size, ((a0[0]'h).toNat : Int) = bt a0 0 := bt_at a0 0
  clear p6
  have qi6 : (0 < (a0.size : Int)) = True := eq_true (of_decide_eq_true as_)
  replace q6 := eq_true q6
  have p8 : 0 ≤ (0 : Int) := (by omega)
  have q8 : 0 < a0.size := (by have : (0 : Int) < (a0.size : Int) := od_; omega)
  have hx8 : ∀ h : 0 < a0.size, ((a0[0]'h).toNat : Int) = bt a0 0 := bt_at a0 0
  clear p8
  have qi8 : (0 < (a0.size : Int)) = True := eq_true (of_decide_eq_true as_)
  replace q8 := eq_true q8
  go_wp2
  go_meet
  case rel => exact ⟨_, (decide ((bt a0 0) > 90)), er_, H', ⟨au1_4⟩, dn_⟩
 case rest =>
  clear HC2
  try clear c3b0
  try clear c3b1
  try clear c4b0
  try clear c4b1
  try clear c5b0
  try clear c5b1
  try clear p6
  try clear q6
  try clear hx6
  try clear qi6
  try clear c7b0
  try clear p8
  try clear q8
  try clear hx8
  try clear qi8
  try clear p6
  try clear p8
  try clear q6
  try clear q8
  obtain ⟨kq, x22_1, rfl, HA, HJ1, ⟨mc1, rfl⟩⟩ := hcut
  cases kq with
  | zero => exact absurd HA.out (by simp [F39.j0])
  | succ kj1 =>
   have H := HA.out
   clear HA
   simp only [F39.j0] at H
   replace H := ib_ H; rcases H with ⟨rfl, H⟩ | ⟨rfl, H⟩
   ·obtain rfl := Option.some.inj H
    go_wp2
    go_ret
    exact ⟨er_, dn_⟩
   have H' := am_ H
   clear H
   go_wp2
   go_loopg [3] kj1 (fun kq v3 w' => ∃ (x3_2 : Int), v3 = .int .i64 x3_2 ∧ Aside0 (F39.l0 kq a0 x3_2 = some r) ∧ Aside0 (kq ≤ kj1) ∧ Drawn0 w w')
   case atStart => exact ⟨(0), er_, H', ⟨Nat.le_refl _⟩, dn_⟩
   case round =>
    clear H'
    try clear c3b0
    try clear c3b1
    try clear c4b0
    try clear c4b1
    try clear c5b0
    try clear c5b1
    try clear p6
    try clear q6
    try clear hx6
    try clear qi6
    try clear c7b0
    try clear p8
    try clear q8
    try clear hx8
    try clear qi8
    try clear p6
    try clear p8
    try clear q6
    try clear q8
    obtain ⟨x3_2, rfl, HA, HK2, ⟨m2, rfl⟩⟩ := hrel
    cases gk with
    | zero => exact absurd HA.out (by simp [F39.l0])
    | succ k2 =>
     have H := HA.out
     clear HA
     simp only [F39.l0] at H
     replace H := it_ H; rcases H with ⟨c10b0, H⟩ | ⟨c10b0, H⟩
     rotate_left
     ·obtain rfl := Option.some.inj H
      go_wp2
      go_ret
      exact ⟨er_, dn_⟩

     replace H := itn_ H; rcases H with ⟨c11b0, H⟩
     replace H := it_ H; rcases H with ⟨(c13b0 : decide (65 ≤ (bt a0 x3_2)) = true), H⟩ | ⟨(c13b0 : decide (65 ≤ (bt a0 x3_2)) = false), H⟩
     rotate_left
     ·replace H := it_ H; rcases H with ⟨(c19b0 : decide (48 ≤ (bt a0 x3_2)) = true), H⟩ | ⟨(c19b0 : decide (48 ≤ (bt a0 x3_2)) = false), H⟩
      rotate_left
      ·by_cases c22 : ((bt a0 x3_2) = 45)
       rotate_left
       ·rw [if_neg c22] at H
        have c22b0 : ((bt a0 x3_2) == 45) = false := beq_eq_false_iff_ne.mpr c22
        have c22b1 : ((bt a0 x3_2) != 45) = true := bne_iff_ne.mpr c22
        obtain rfl := Option.some.inj H
        have p12 : 0 ≤ (x3_2 : Int) := od_
        have q12 : x3_2 < (a0.size : Int) := od_
        have hx12 := bt_at a0 x3_2
        replace p12 := eq_true p12
        replace q12 := eq_true q12
        go_wp2
        go_ret
        exact ⟨er_, dn_⟩
       rw [if_pos c22] at H
       have c22b0 : ((bt a0 x3_2) == 45) = true := beq_iff_eq.mpr c22
       have c22b1 : ((bt a0 x3_2) != 45) = false := bne_eq_false_iff_eq.mpr c22
       clear c22
       have H' := am_ H
       clear H
       have p12 : 0 ≤ (x3_2 : Int) := od_
       have q12 : x3_2 < (a0.size : Int) := od_
       have hx12 := bt_at a0 x3_2
       replace p12 := eq_true p12
       replace q12 := eq_true q12
       go_wp2
       go_roundg k2
       case measure => have := HJ1.out; have := HK2.out; omega
       case rel => exact ⟨(wrap64 (x3_2 + 1)), er_, H', ⟨om_⟩, dn_⟩
      replace H := it_ H; rcases H with ⟨c20b0, H⟩ | ⟨c20b0, H⟩
      ·have H' := am_ H
       clear H
       have p12 : 0 ≤ (x3_2 : Int) := od_
       have q12 : x3_2 < (a0.size : Int) := od_
       have hx12 := bt_at a0 x3_2
       replace p12 := eq_true p12
       replace q12 := eq_true q12
       go_wp2
       go_roundg k2
       case measure => have := HJ1.out; have := HK2.out; omega
       case rel => exact ⟨(wrap64 (x3_2 + 1)), er_, H', ⟨om_⟩, dn_⟩
      by_cases c21 : ((bt a0 x3_2) = 45)
      rotate_left
      ·rw [if_neg c21] at H
       have c21b0 : ((bt a0 x3_2) == 45) = false := beq_eq_false_iff_ne.mpr c21
       have c21b1 : ((bt a0 x3_2) != 45) = true := bne_iff_ne.mpr c21
       obtain rfl := Option.some.inj H
       have p12 : 0 ≤ (x3_2 : Int) := od_
       have q12 : x3_2 < (a0.size : Int) := od_
       have hx12 := bt_at a0 x3_2
       replace p12 := eq_true p12
       replace q12 := eq_true q12
       go_wp2
       go_ret
       exact ⟨er_, dn_⟩
      rw [if_pos c21] at H
      have c21b0 : ((bt a0 x3_2) == 45) = true := beq_iff_eq.mpr c21
      have c21b1 : ((bt a0 x3_2) != 45) = false := bne_eq_false_iff_eq.mpr c21
      clear c21
      have H' := am_ H
      clear H
      have p12 : 0 ≤ (x3_2 : Int) := od_
      have q12 : x3_2 < (a0.size : Int) := od_
      have hx12 := bt_at a0 x3_2
      replace p12 := eq_true p12
      replace q12 := eq_true q12
      go_wp2
      go_roundg k2
      case measure => have := HJ1.out; have := HK2.out; omega
      case rel => exact ⟨(wrap64 (x3_2 + 1)), er_, H', ⟨om_⟩, dn_⟩
     replace H := it_ H; rcases H with ⟨c14b0, H⟩ | ⟨c14b0, H⟩
     ·have H' := am_ H
      clear H
      have p12 : 0 ≤ (x3_2 : Int) := od_
      have q12 : x3_2 < (a0.size : Int) := od_
      have hx12 := bt_at a0 x3_2
      replace p12 := eq_true p12
      replace q12 := eq_true q12
      go_wp2
      go_roundg k2
      case measure => have := HJ1.out; have := HK2.out; omega
      case rel => exact ⟨(wrap64 (x3_2 + 1)), er_, H', ⟨om_⟩, dn_⟩
     replace H := it_ H; rcases H with ⟨(c15b0 : decide (48 ≤ (bt a0 x3_2)) = true), H⟩ | ⟨(c15b0 : decide (48 ≤ (bt a0 x3_2)) = false), H⟩
     rotate_left
     ·by_cases c18 : ((bt a0 x3_2) = 45)
      rotate_left
      ·rw [if_neg c18] at H
       have c18b0 : ((bt a0 x3_2) == 45) = false := beq_eq_false_iff_ne.mpr c18
       have c18b1 : ((bt a0 x3_2) != 45) = true := bne_iff_ne.mpr c18
       obtain rfl := Option.some.inj H
       have p12 : 0 ≤ (x3_2 : Int) := od_
       have q12 : x3_2 < (a0.size : Int) := od_
       have hx12 := bt_at a0 x3_2
       replace p12 := eq_true p12
       replace q12 := eq_true q12
       go_wp2
       go_ret
       exact ⟨er_, dn_⟩
      rw [if_pos c18] at H
      have c18b0 : ((bt a0 x3_2) == 45) = true := beq_iff_eq.mpr c18
      have c18b1 : ((bt a0 x3_2) != 45) = false := bne_eq_false_iff_eq.mpr c18
      clear c18
      have H' := am_ H
      clear H
      have p12 : 0 ≤ (x3_2 : Int) := od_
      have q12 : x3_2 < (a0.size : Int) := od_
      have hx12 := bt_at a0 x3_2
      replace p12 := eq_true p12
      replace q12 := eq_true q12
      go_wp2
      go_roundg k2
      case measure => have := HJ1.out; have := HK2.out; omega
      case rel => exact ⟨(wrap64 (x3_2 + 1)), er_, H', ⟨om_⟩, dn_⟩
     replace H := it_ H; rcases H with ⟨c16b0, H⟩ | ⟨c16b0, H⟩
     ·have H' := am_ H
      clear H
      have p12 : 0 ≤ (x3_2 : Int) := od_
      have q12 : x3_2 < (a0.size : Int) := od_
      have hx12 := bt_at a0 x3_2
      replace p12 := eq_true p12
      replace q12 := eq_true q12
      go_wp2
      go_roundg k2
      case measure => have := HJ1.out; have := HK2.out; omega
      case rel => exact ⟨(wrap64 (x3_2 + 1)), er_, H', ⟨om_⟩, dn_⟩
     by_cases c17 : ((bt a0 x3_2) = 45)
     rotate_left
     ·rw [if_neg c17] at H
      have c17b0 : ((bt a0 x3_2) == 45) = false := beq_eq_false_iff_ne.mpr c17
      have c17b1 : ((bt a0 x3_2) != 45) = true := bne_iff_ne.mpr c17
      obtain rfl := Option.some.inj H
      have p12 : 0 ≤ (x3_2 : Int) := od_
      have q12 : x3_2 < (a0.size : Int) := od_
      have hx12 := bt_at a0 x3_2
      replace p12 := eq_true p12
      replace q12 := eq_true q12
      go_wp2
      go_ret
      exact ⟨er_, dn_⟩
     rw [if_pos c17] at H
     have c17b0 : ((bt a0 x3_2) == 45) = true := beq_iff_eq.mpr c17
     have c17b1 : ((bt a0 x3_2) != 45) = false := bne_eq_false_iff_eq.mpr c17
     clear c17
     have H' := am_ H
     clear H
     have p12 : 0 ≤ (x3_2 : Int) := od_
     have q12 : x3_2 < (a0.size : Int) := od_
     have hx12 := bt_at a0 x3_2
     replace p12 := eq_true p12
     replace q12 := eq_true q12
     go_wp2
     go_roundg k2
     case measure => have := HJ1.out; have := HK2.out; omega
     case rel => exact ⟨(wrap64 (x3_2 + 1)), er_, H', ⟨om_⟩, dn_⟩
/-! ### F40: function 40 -/
def F40.f (a0 : Int) : Option (Bool) := if a0 ≥ 1 then (some (decide (a0 ≤ 999999))) else (some false)
theorem F40.calls (a0 : Int) (r : Bool) (w : World) (h : F40.f a0 = some r) :
  Calls Tryz.prog 40 #[.int .i64 a0] w fun e w' => e = .returned (.bool r) ∧ Drawn0 w w' := by
 have H : (if a0 ≥ 1 then (some (decide (a0 ≤ 999999))) else (some false)) = some r := h
 clear h
 replace H := it_ H; rcases H with ⟨(c2b0 : decide (1 ≤ a0) = true), H⟩ | ⟨(c2b0 : decide (1 ≤ a0) = false), H⟩
 ·obtain rfl := Option.some.inj H
  go_enter Tryz.func40, Tryz.ntmps40
  go_wp2
  go_ret
  exact ⟨er_, dn_⟩
 obtain rfl := Option.some.inj H
 go_enter Tryz.func40, Tryz.ntmps40
 go_wp2
 go_ret
 exact ⟨er_, dn_⟩

/-! ### F72: function 72 -/
def F72.l0 : Nat → ByteArray → Int → Option (Bool)
  | 0, _, _ => none
  | k + 1, x0, x3 => if x3 < 3 then (if 0 ≤ x3 then (if x3 < (x0.size : Int) then (if (bt x0 x3) < 65 then (some false) else (if (bt x0 x3) > 90 then (some false) else (F72.l0 k x0 (wrap64 (x3 + 1))))) else (none)) else (none)) else (some true)
def F72.f (k : Nat) (a0 : ByteArray) : Option (Bool) := if (a0.size : Int) = 3 then (F72.l0 k a0 0) else (some false)
theorem F72.mono_l : ∀ k, (∀ y0 y1, LeO (F72.l0 k y0 y1) (F72.l0 (k + 1) y0 y1))
 | 0 => fun _ _ r h => by simp [F72.l0] at h
 | k + 1 => by
  have ih0 := F72.mono_l k
  intro y0 y1
  unfold F72.l0
  repeat' with_reducible first | exact ih0 _ _ | exact LeO.refl _ | exact LeO.none _ | refine LeO.ite ?_ ?_ | refine LeO.bind ?_ (fun _ => ?_)
theorem F72.mono : ∀ a0 k, LeO (F72.f k a0) (F72.f (k + 1) a0) := by
 intro a0 k
 have ih0 := F72.mono_l k
 unfold F72.f
 repeat' with_reducible first | exact ih0 _ _ | exact LeO.refl _ | exact LeO.none _ | refine LeO.ite ?_ ?_ | refine LeO.bind ?_ (fun _ => ?_)
theorem F72.calls (k : Nat) (a0 : ByteArray) (r : Bool) (w : World) (h : F72.f k a0 = some r) :
  Calls Tryz.prog 72 #[.string a0] w fun e w' => e = .returned (.bool r) ∧ Drawn0 w w' := by
 have H : (if (a0.size : Int) = 3 then (F72.l0 k a0 0) else (some false)) = some r := h
 clear h
 by_cases c2 : (a0.size : Int) = 3
 rotate_left
 ·rw [if_neg c2] at H
  have c2b0 : ((a0.size : Int) == 3) = false := beq_eq_false_iff_ne.mpr c2
  have c2b1 : ((a0.size : Int) != 3) = true := bne_iff_ne.mpr c2
  obtain rfl := Option.some.inj H
  go_enter Tryz.func72, Tryz.ntmps72
  go_wp2
  go_ret
  exact ⟨er_, dn_⟩

 rw [if_pos c2] at H
 have c2b0 : ((a0.size : Int) == 3) = true := beq_iff_eq.mpr c2
 have c2b1 : ((a0.size : Int) != 3) = false := bne_eq_false_iff_eq.mpr c2
 clear c2
 have H' := am_ H
 clear H
 go_enter Tryz.func72, Tryz.ntmps72
 go_wp2
 go_loopg [3] k (fun kq v3 w' => ∃ (x3_1 : Int), v3 = .int .i64 x3_1 ∧ Aside0 (F72.l0 kq a0 x3_1 = some r) ∧ Aside0 (kq ≤ k) ∧ Drawn0 w w')
 case atStart => exact ⟨(0), er_, H', ⟨Nat.le_refl _⟩, dn_⟩
 case round =>
  clear H'
  try clear c2
  try clear c2b0
  try clear c2b1
  obtain ⟨x3_1, rfl, HA, HK1, ⟨m1, rfl⟩⟩ := hrel
  cases gk with
  | zero => exact absurd HA.out (by simp [F72.l0])
  | succ k1 =>
   have H := HA.out
   clear HA
   simp only [F72.l0] at H
   replace H := it_ H; rcases H with ⟨c3b0, H⟩ | ⟨c3b0, H⟩
   rotate_left
   ·obtain rfl := Option.some.inj H
    go_wp2
    go_ret
    exact ⟨er_, dn_⟩
   replace H := itn_ H; rcases H with ⟨c4b0, H⟩
   replace H := itn_ H; rcases H with ⟨c5b0, H⟩
   replace H := it_ H; rcases H with ⟨c7b0, H⟩ | ⟨c7b0, H⟩
   ·obtain rfl := Option.some.inj H
    have p6 : 0 ≤ (x3_1 : Int) := od_
    have q6 : x3_1 < (a0.size : Int) := od_
    have hx6 := bt_at a0 x3_1
    replace p6 := eq_true p6
    replace q6 := eq_true q6
    go_wp2
    go_ret
    exact ⟨er_, dn_⟩
   replace H := it_ H; rcases H with ⟨(c9b0 : decide (90 < (bt a0 x3_1)) = true), H⟩ | ⟨(c9b0 : decide (90 < (bt a0 x3_1)) = false), H⟩
   ·obtain rfl := Option.some.inj H
    have p6 : 0 ≤ (x3_1 : Int) := od_
    have q6 : x3_1 < (a0.size : Int) := od_
    have hx6 := bt_at a0 x3_1
    replace p6 := eq_true p6
    replace q6 := eq_true q6
    have p8 : 0 ≤ (x3_1 : Int) := od_
    have q8 : x3_1 < (a0.size : Int) := od_
    have hx8 := bt_at a0 x3_1
    replace p8 := eq_true p8
    replace q8 := eq_true q8
    go_wp2
    go_ret
    exact ⟨er_, dn_⟩
   have H' := am_ H
   clear H
   have p6 : 0 ≤ (x3_1 : Int) := od_
   have q6 : x3_1 < (a0.size : Int) := od_
   have hx6 := bt_at a0 x3_1
   replace p6 := eq_true p6
   replace q6 := eq_true q6
   have p8 : 0 ≤ (x3_1 : Int) := od_
   have q8 : x3_1 < (a0.size : Int) := od_
   have hx8 := bt_at a0 x3_1
   replace p8 := eq_true p8
   replace q8 := eq_true q8
   go_wp2
   go_roundg k1
   case measure => have := HK1.out; omega
   case rel => exact ⟨(wrap64 (x3_1 + 1)), er_, H', ⟨by have := HK1.out; omega⟩, dn_⟩
/-! ### F73: function 73 -/
def F73.l0 : Nat → ByteArray → Int → Option (Bool)
  | 0, _, _ => none
  | k + 1, x0, x3 => if x3 < (x0.size : Int) then (if 0 ≤ x3 then (if (bt x0 x3) < 32 then (some false) else (if (bt x0 x3) > 126 then (some false) else (F73.l0 k x0 (wrap64 (x3 + 1))))) else (none)) else (some true)
def F73.f (k : Nat) (a0 : ByteArray) : Option (Bool) := if (a0.size : Int) > 40 then (some false) else (F73.l0 k a0 0)
theorem F73.mono_l : ∀ k, (∀ y0 y1, LeO (F73.l0 k y0 y1) (F73.l0 (k + 1) y0 y1))
 | 0 => fun _ _ r h => by simp [F73.l0] at h
 | k + 1 => by
  have ih0 := F73.mono_l k
  intro y0 y1
  unfold F73.l0
  repeat' with_reducible first | exact ih0 _ _ | exact LeO.refl _ | exact LeO.none _ | refine LeO.ite ?_ ?_ | refine LeO.bind ?_ (fun _ => ?_)
theorem F73.mono : ∀ a0 k, LeO (F73.f k a0) (F73.f (k + 1) a0) := by
 intro a0 k
 have ih0 := F73.mono_l k
 unfold F73.f
 repeat' with_reducible first | exact ih0 _ _ | exact LeO.refl _ | exact LeO.none _ | refine LeO.ite ?_ ?_ | refine LeO.bind ?_ (fun _ => ?_)
theorem F73.calls (k : Nat) (a0 : ByteArray) (r : Bool) (w : World) (h : F73.f k a0 = some r) :
  Calls Tryz.prog 73 #[.string a0] w fun e w' => e = .returned (.bool r) ∧ Drawn0 w w' := by
 have H : (if (a0.size : Int) > 40 then (some false) else (F73.l0 k a0 0)) = some r := h
 clear h
 replace H := it_ H; rcases H with ⟨(c2b0 : decide (40 < (a0.size : Int)) = true), H⟩ | ⟨(c2b0 : decide (40 < (a0.size : Int)) = false), H⟩
 ·have c2b1 : decide (40 < a0.size) = true := n2_ c2b0
  obtain rfl := Option.some.inj H
  go_enter Tryz.func73, Tryz.ntmps73
  go_wp2
  go_ret
  exact ⟨er_, dn_⟩
 have c2b1 : decide (40 < a0.size) = false := n2_ c2b0
 have H' := am_ H
 clear H
 go_enter Tryz.func73, Tryz.ntmps73
 go_wp2
 go_loopg [3] k (fun kq v3 w' => ∃ (x3_1 : Int), v3 = .int .i64 x3_1 ∧ Aside0 (F73.l0 kq a0 x3_1 = some r) ∧ Aside0 (kq ≤ k) ∧ Drawn0 w w')
 case atStart => exact ⟨(0), er_, H', ⟨Nat.le_refl _⟩, dn_⟩
 case round =>
  clear H'
  try clear c2b0
  try clear c2b1
  obtain ⟨x3_1, rfl, HA, HK1, ⟨m1, rfl⟩⟩ := hrel
  cases gk with
  | zero => exact absurd HA.out (by simp [F73.l0])
  | succ k1 =>
   have H := HA.out
   clear HA
   simp only [F73.l0] at H
   replace H := it_ H; rcases H with ⟨c3b0, H⟩ | ⟨c3b0, H⟩
   rotate_left
   ·obtain rfl := Option.some.inj H
    go_wp2
    go_ret
    exact ⟨er_, dn_⟩

   replace H := itn_ H; rcases H with ⟨c4b0, H⟩
   replace H := it_ H; rcases H with ⟨c6b0, H⟩ | ⟨c6b0, H⟩
   ·obtain rfl := Option.some.inj H
    have p5 : 0 ≤ (x3_1 : Int) := od_
    have q5 : x3_1 < (a0.size : Int) := od_
    have hx5 := bt_at a0 x3_1
    replace p5 := eq_true p5
    replace q5 := eq_true q5
    go_wp2
    go_ret
    exact ⟨er_, dn_⟩
   replace H := it_ H; rcases H with ⟨(c8b0 : decide (126 < (bt a0 x3_1)) = true), H⟩ | ⟨(c8b0 : decide (126 < (bt a0 x3_1)) = false), H⟩
   ·obtain rfl := Option.some.inj H
    have p5 : 0 ≤ (x3_1 : Int) := od_
    have q5 : x3_1 < (a0.size : Int) := od_
    have hx5 := bt_at a0 x3_1
    replace p5 := eq_true p5
    replace q5 := eq_true q5
    have p7 : 0 ≤ (x3_1 : Int) := od_
    have q7 : x3_1 < (a0.size : Int) := od_
    have hx7 := bt_at a0 x3_1
    replace p7 := eq_true p7
    replace q7 := eq_true q7
    go_wp2
    go_ret
    exact ⟨er_, dn_⟩
   have H' := am_ H
   clear H
   have p5 : 0 ≤ (x3_1 : Int) := od_
   have q5 : x3_1 < (a0.size : Int) := od_
   have hx5 := bt_at a0 x3_1
   replace p5 := eq_true p5
   replace q5 := eq_true q5
   have p7 : 0 ≤ (x3_1 : Int) := od_
   have q7 : x3_1 < (a0.size : Int) := od_
   have hx7 := bt_at a0 x3_1
   replace p7 := eq_true p7
   replace q7 := eq_true q7
   go_wp2
   go_roundg k1
   case measure => have := HK1.out; omega
   case rel => exact ⟨(wrap64 (x3_1 + 1)), er_, H', ⟨by have := HK1.out; omega⟩, dn_⟩
/-! ### F74: function 74 -/
def F74.f (l0_0 : List ByteArray) : Option (Bool) := if (l0_0.length : Int) = 1 then (if 0 < (l0_0.length : Int) then (some ((rdOf ByteArray.empty l0_0 0).toList == ([] : List UInt8))) else (none)) else (some false)
theorem F74.calls (A0_0 : Option Addr) (c0_0 : Nat) (l0_0 : List ByteArray) (r : Bool) (w : World) (hr0_0 : Kd.C Kd.string w A0_0 l0_0.length l0_0) (hc0_0 : l0_0.length ≤ c0_0) (h : F74.f l0_0 = some r) :
  Calls Tryz.prog 74 #[.agg #[.slice A0_0 l0_0.length c0_0]] w fun e w' => e = .returned (.bool r) ∧ Below w.heap.size w w' := by
 have hu91 := Tryz.underlying91
 have HR0_0 := am_ hr0_0
 have HC0_0 := am_ hc0_0
 clear hr0_0 hc0_0
 have HB := am_ (Below.refl w.heap.size w)
 have H : (if (l0_0.length : Int) = 1 then (if 0 < (l0_0.length : Int) then (some ((rdOf ByteArray.empty l0_0 0).toList == ([] : List UInt8))) else (none)) else (some false)) = some r := h
 clear h
 by_cases c2 : (l0_0.length : Int) = 1
 rotate_left
 ·rw [if_neg c2] at H
  have c2b0 : ((l0_0.length : Int) == 1) = false := beq_eq_false_iff_ne.mpr c2
  have c2b1 : ((l0_0.length : Int) != 1) = true := bne_iff_ne.mpr c2
  obtain rfl := Option.some.inj H
  go_enter Tryz.func74, Tryz.ntmps74
  go_wp2_with (first | ((with_reducible refine gate_dst (N := 1) rfl ?_); refine be_ 1 #[.slice A0_0 l0_0.length c0_0] 91 ?_; intro gb120 hg w6 hbox hb; have BK120 := am_ (hbox); have GW120 := am_ (gw_ hg bl_); have GE120 := GW120; replace HB := hs_ w hb; clear hb hbox hg; have hcz7_0 : w6.cell? ⟨gb120, 0, none⟩ = some (.slice A0_0 l0_0.length c0_0) := (blk_cell BK120.out 0).trans rfl; have hfz7_0 := blk_frozen BK120.out 0))
  go_ret
  exact ⟨au1_0, bl_⟩

 rw [if_pos c2] at H
 have c2b0 : ((l0_0.length : Int) == 1) = true := beq_iff_eq.mpr c2
 have c2b1 : ((l0_0.length : Int) != 1) = false := bne_eq_false_iff_eq.mpr c2
 clear c2
 replace H := itn_ H; rcases H with ⟨c3b0, H⟩
 have c3b1 : decide (0 < l0_0.length) = true := n2_ c3b0
 obtain rfl := Option.some.inj H
 go_enter Tryz.func74, Tryz.ntmps74
 go_wp2_with (first | ((with_reducible refine gate_dst (N := 1) rfl ?_); refine be_ 1 #[.slice A0_0 l0_0.length c0_0] 91 ?_; intro gb120 hg w4 hbox hb; have BK120 := am_ (hbox); have GW120 := am_ (gw_ hg bl_); have GE120 := GW120; replace HB := hs_ w hb; clear hb hbox hg; have hcz5_0 : w4.cell? ⟨gb120, 0, none⟩ = some (.slice A0_0 l0_0.length c0_0) := (blk_cell BK120.out 0).trans rfl; have hfz5_0 := blk_frozen BK120.out 0; have p121 : 0 ≤ (0 : Int) := (by omega); have q121 : 0 < (l0_0.length : Int) := od_; obtain ⟨ad121, e121, hx121_0⟩ := Kd.at_string HR0_0.out 0 p121 q121; cases e121; have qi121 : (0 < l0_0.length) = True := eq_true (by omega); (try rw [show ((0 : Int)).toNat = 0 from rfl] at hx121_0); (try rw [Addr.add_zero'] at hx121_0); replace hx121_0 := (HB.out.cell (World.block_lt_of_cell? _ _ hx121_0)).trans hx121_0; replace p121 := eq_true p121; replace q121 := eq_true q121))
 go_ret
 exact ⟨au1_0, bl_⟩
/-! ### F41: function 41 -/
mutual
def F41.j0 : Nat → Bool → ByteArray → List (S91) → Option (Bool)
  | 0, _, _, _ => none
  | k + 1, x15, x123000, x123001 => if x15 = true then (some false) else (F41.l0 k 0 x123000 x123001)
def F41.l0 : Nat → Int → ByteArray → List (S91) → Option (Bool)
  | 0, _, _, _ => none
  | k + 1, x3, x123000, x123001 => if x3 < (x123001.length : Int) then (if 0 ≤ x3 then (if (((rd_T91 x123001 x3).f0).length : Int) < 1 then (F41.j2 k x3 ((rd_T91 x123001 x3).f0) true x123000 x123001) else (if (((rd_T91 x123001 x3).f0).length : Int) > 4 then (F41.j2 k x3 ((rd_T91 x123001 x3).f0) true x123000 x123001) else (if (((rd_T91 x123001 x3).f0).length : Int) > 1 then (if 0 ≤ (wrap64 ((((rd_T91 x123001 x3).f0).length : Int) - 1)) then (if (wrap64 ((((rd_T91 x123001 x3).f0).length : Int) - 1)) < (((rd_T91 x123001 x3).f0).length : Int) then (F41.j2 k x3 ((rd_T91 x123001 x3).f0) ((rdOf ByteArray.empty ((rd_T91 x123001 x3).f0) (wrap64 ((((rd_T91 x123001 x3).f0).length : Int) - 1))).toList == ([] : List UInt8)) x123000 x123001) else (none)) else (none)) else (F41.j2 k x3 ((rd_T91 x123001 x3).f0) false x123000 x123001)))) else (none)) else (if (x123001.length : Int) = 0 then (some true) else (if 0 ≤ (wrap64 ((x123001.length : Int) - 1)) then (if (wrap64 ((x123001.length : Int) - 1)) < (x123001.length : Int) then ((F74.f ((rd_T91 x123001 (wrap64 ((x123001.length : Int) - 1))).f0)).bind fun t125 => (some (!t125))) else (none)) else (none)))
def F41.j2 : Nat → Int → List ByteArray → Bool → ByteArray → List (S91) → Option (Bool)
  | 0, _, _, _, _, _ => none
  | k + 1, x3, x4, x50, x123000, x123001 => if x50 = true then (some false) else (F41.l1 k x3 x4 0 x123000 x123001)
def F41.l1 : Nat → Int → List ByteArray → Int → ByteArray → List (S91) → Option (Bool)
  | 0, _, _, _, _, _ => none
  | k + 1, x3, x4, x5, x123000, x123001 => if x5 < (x4.length : Int) then (if 0 ≤ x5 then ((F73.f k (rdOf ByteArray.empty x4 x5)).bind fun t129 => (if t129 = true then (F41.l1 k x3 x4 (wrap64 (x5 + 1)) x123000 x123001) else (some false))) else (none)) else (F41.l0 k (wrap64 (x3 + 1)) x123000 x123001)
end
def F41.f (k : Nat) (a0_0 : ByteArray) (l0_1 : List (S91)) : Option (Bool) := (F72.f k a0_0).bind fun t123 => (if t123 = true then (F41.j0 k (decide ((l0_1.length : Int) > 10)) a0_0 l0_1) else (F41.j0 k true a0_0 l0_1))
theorem F41.mono_l : ∀ k, (∀ y0 y1 y2, LeO (F41.j0 k y0 y1 y2) (F41.j0 (k + 1) y0 y1 y2)) ∧ (∀ y0 y1 y2, LeO (F41.l0 k y0 y1 y2) (F41.l0 (k + 1) y0 y1 y2)) ∧ (∀ y0 y1 y2 y3 y4, LeO (F41.j2 k y0 y1 y2 y3 y4) (F41.j2 (k + 1) y0 y1 y2 y3 y4)) ∧ (∀ y0 y1 y2 y3 y4, LeO (F41.l1 k y0 y1 y2 y3 y4) (F41.l1 (k + 1) y0 y1 y2 y3 y4))
 | 0 => ⟨fun _ _ _ r h => by simp [F41.j0] at h, fun _ _ _ r h => by simp [F41.l0] at h, fun _ _ _ _ _ r h => by simp [F41.j2] at h, fun _ _ _ _ _ r h => by simp [F41.l1] at h⟩
 | k + 1 => by
  obtain ⟨ih0, ih1, ih2, ih3⟩ := F41.mono_l k
  refine ⟨?_, ?_, ?_, ?_⟩
  rotate_left
  ·intro y0 y1 y2
   unfold F41.l0
   repeat' with_reducible first | exact ih0 _ _ _ | exact ih1 _ _ _ | exact ih2 _ _ _ _ _ | exact ih3 _ _ _ _ _ | exact F73.mono _ _ | exact F72.mono _ _ | exact LeO.refl _ | exact LeO.none _ | refine LeO.ite ?_ ?_ | refine LeO.bind ?_ (fun _ => ?_)
  ·intro y0 y1 y2 y3 y4
   unfold F41.j2
   repeat' with_reducible first | exact ih0 _ _ _ | exact ih1 _ _ _ | exact ih2 _ _ _ _ _ | exact ih3 _ _ _ _ _ | exact F73.mono _ _ | exact F72.mono _ _ | exact LeO.refl _ | exact LeO.none _ | refine LeO.ite ?_ ?_ | refine LeO.bind ?_ (fun _ => ?_)
  ·intro y0 y1 y2 y3 y4
   unfold F41.l1
   repeat' with_reducible first | exact ih0 _ _ _ | exact ih1 _ _ _ | exact ih2 _ _ _ _ _ | exact ih3 _ _ _ _ _ | exact F73.mono _ _ | exact F72.mono _ _ | exact LeO.refl _ | exact LeO.none _ | refine LeO.ite ?_ ?_ | refine LeO.bind ?_ (fun _ => ?_)
  intro y0 y1 y2
  unfold F41.j0
  repeat' with_reducible first | exact ih0 _ _ _ | exact ih1 _ _ _ | exact ih2 _ _ _ _ _ | exact ih3 _ _ _ _ _ | exact F73.mono _ _ | exact F72.mono _ _ | exact LeO.refl _ | exact LeO.none _ | refine LeO.ite ?_ ?_ | refine LeO.bind ?_ (fun _ => ?_)
theorem F41.mono : ∀ a0 a1 k, LeO (F41.f k a0 a1) (F41.f (k + 1) a0 a1) := by
 intro a0 a1 k
 obtain ⟨ih0, ih1, ih2, ih3⟩ := F41.mono_l k
 unfold F41.f
 repeat' with_reducible first | exact ih0 _ _ _ | exact ih1 _ _ _ | exact ih2 _ _ _ _ _ | exact ih3 _ _ _ _ _ | exact F73.mono _ _ | exact F72.mono _ _ | exact LeO.refl _ | exact LeO.none _ | refine LeO.ite ?_ ?_ | refine LeO.bind ?_ (fun _ => ?_)
theorem F41.calls (k : Nat) (a0_0 : ByteArray) (A0_1 : Option Addr) (c0_1 : Nat) (l0_1 : List (S91)) (r : Bool) (w : World) (hr0_1 : Kd.C k91 w A0_1 l0_1.length l0_1) (hc0_1 : l0_1.length ≤ c0_1) (h : F41.f k a0_0 l0_1 = some r) :
  Calls Tryz.prog 41 #[.agg #[.string a0_0, .slice A0_1 l0_1.length c0_1]] w fun e w' => e = .returned (.bool r) ∧ Below w.heap.size w w' := by
 have hu49 := Tryz.underlying49
 have hu91 := Tryz.underlying91
 have HR0_1 := am_ hr0_1
 have HC0_1 := am_ hc0_1
 clear hr0_1 hc0_1
 have HB := am_ (Below.refl w.heap.size w)
 have H : ((F72.f k a0_0).bind fun t123 => (if t123 = true then (F41.j0 k (decide ((l0_1.length : Int) > 10)) a0_0 l0_1) else (F41.j0 k true a0_0 l0_1))) = some r := h
 clear h
 have HC2 := am_ H
 clear H
 go_enter Tryz.func41, Tryz.ntmps41
 go_upto_region 1 with (first | ((with_reducible refine gate_dst (N := 1) rfl ?_); (try (refine gate_guard (by rfl) ?_; dsimp only)); refine be_ 1 #[.string a0_0, .slice A0_1 l0_1.length c0_1] 49 ?_; intro gb122 hg w3 hbox hb; have BK122 := am_ (hbox); have GW122 := am_ (gw_ hg bl_); have GE122 := GW122; replace HB := hs_ w hb; clear hb hbox hg))
 (try simp only [Act.put, List.setIfInBounds_toArray, List.set_cons_zero, List.set_cons_succ])
 go_cut [15] (fun v15 wc => ∃ (kq : Nat) (x15_1 : Bool), v15 = .bool x15_1 ∧ Aside0 (F41.j0 kq x15_1 a0_0 l0_1 = some r) ∧ Aside0 (kq ≤ k) ∧ Aside0 (wc.heap[gb122]? = some (.cells #[.string a0_0, (.slice A0_1 l0_1.length c0_1)] 49 (0, 0))) ∧ Aside0 (Below w.heap.size w wc))
 case first =>
  have H := HC2.out
  clear HC2
  replace H := bi_ H; rcases H with ⟨t123, A4, H⟩
  replace H := ib_ H; rcases H with ⟨rfl, H⟩ | ⟨rfl, H⟩
  rotate_left
  ·have H' := am_ H
   clear H
   obtain ⟨hcz7_0, hcz7_1, hfz7_0, hfz7_1⟩ := cellsF2 BK122.out
   go_wp2_with (first | (go_at_call 72; (with_reducible refine (F72.calls k a0_0 false _ A4.out).mono ?_); rintro e w' ⟨rfl, ⟨nd, rfl⟩⟩; (try clear A4)))
   go_meet
   case rel => exact ⟨_, (true), er_, H', ⟨au1_4⟩, ⟨bk_ BK122⟩, ⟨bl_⟩⟩
  have H' := am_ H
  clear H
  obtain ⟨hcz6_0, hcz6_1, hfz6_0, hfz6_1⟩ := cellsF2 BK122.out
  go_wp2_with (first | (go_at_call 72; (with_reducible refine (F72.calls k a0_0 true _ A4.out).mono ?_); rintro e w' ⟨rfl, ⟨nd, rfl⟩⟩; (try clear A4)))
  go_meet
  case rel => exact ⟨_, (decide ((l0_1.length : Int) > 10)), er_, H', ⟨au1_4⟩, ⟨bk_ BK122⟩, ⟨bl_⟩⟩
 case rest =>
  clear HC2
  try clear hcz6_0 hcz6_1
  try clear hcz7_0 hcz7_1
  try clear hfz6_0 hfz6_1
  try clear hfz7_0 hfz7_1
  obtain ⟨kq, x15_1, rfl, HA, HJ1, BK122, HB⟩ := hcut
  cases kq with
  | zero => exact absurd HA.out (by simp [F41.j0])
  | succ kj1 =>
   have H := HA.out
   clear HA
   simp only [F41.j0] at H
   replace H := ib_ H; rcases H with ⟨rfl, H⟩ | ⟨rfl, H⟩
   ·obtain rfl := Option.some.inj H
    go_wp2
    go_ret
    exact ⟨au1_0, bl_⟩
   have H' := am_ H
   clear H
   go_wp2
   go_loopg [3] kj1 (fun kq v3 w' => ∃ (x3_2 : Int), v3 = .int .i64 x3_2 ∧ Aside0 (F41.l0 kq x3_2 a0_0 l0_1 = some r) ∧ Aside0 (kq ≤ kj1) ∧ Aside0 (w'.heap[gb122]? = some (.cells #[.string a0_0, (.slice A0_1 l0_1.length c0_1)] 49 (0, 0))) ∧ Aside0 (Below w.heap.size w w'))
   case atStart => exact ⟨(0), er_, H', ⟨Nat.le_refl _⟩, ⟨bk_ BK122⟩, ⟨bl_⟩⟩
   case round =>
    clear H'
    try clear hcz6_0 hcz6_1
    try clear hcz7_0 hcz7_1
    try clear hfz6_0 hfz6_1
    try clear hfz7_0 hfz7_1
    obtain ⟨x3_2, rfl, HA, HK2, BK122, HB⟩ := hrel
    cases gk with
    | zero => exact absurd HA.out (by simp [F41.l0])
    | succ k2 =>
     have H := HA.out
     clear HA
     simp only [F41.l0] at H
     replace H := it_ H; rcases H with ⟨c9b0, H⟩ | ⟨c9b0, H⟩
     rotate_left
     ·by_cases c24 : (l0_1.length : Int) = 0
      ·rw [if_pos c24] at H
       have c24b0 : ((l0_1.length : Int) == 0) = true := beq_iff_eq.mpr c24
       have c24b1 : ((l0_1.length : Int) != 0) = false := bne_eq_false_iff_eq.mpr c24
       clear c24
       obtain rfl := Option.some.inj H
       obtain ⟨hcz25_0, hcz25_1, hfz25_0, hfz25_1⟩ := cellsF2 BK122.out
       go_wp2
       go_ret
       exact ⟨au1_0, bl_⟩
      rw [if_neg c24] at H
      have c24b0 : ((l0_1.length : Int) == 0) = false := beq_eq_false_iff_ne.mpr c24
      have c24b1 : ((l0_1.length : Int) != 0) = true := bne_iff_ne.mpr c24
      have c24b2 : ¬ (l0_1 = []) := fun h_ => c24 (by rw [h_]; rfl)
      obtain ⟨ji26, hji26⟩ : ∃ j_ : Int, (wrap64 ((l0_1.length : Int) - 1)) = j_ := ⟨_, rfl⟩
      replace H : (if 0 ≤ (ji26) then (if (ji26) < (l0_1.length : Int) then ((F74.f ((rd_T91 l0_1 (ji26)).f0)).bind fun t125 => (some (!t125))) else (none)) else (none)) = some r := by first | (rw [hji26] at H; exact H) | (simp only [hji26] at H ⊢; exact H)
      have hji26w : (IntKind.i64.wrap ((l0_1.length : Int) - 1)) = ji26 := (i64_w _).trans hji26
      by_cases c27 : 0 ≤ (ji26)
      rotate_left
      ·rw [if_neg c27] at H
       exact absurd H (by simp)

      rw [if_pos c27] at H
      have c27b0 : decide (0 ≤ (ji26)) = true := decide_eq_true c27
      clear c27
      replace H := itn_ H; rcases H with ⟨c28b0, H⟩
      replace H := bi_ H; rcases H with ⟨t125, A29, H⟩
      obtain rfl := Option.some.inj H
      obtain ⟨hcz30_0, hcz30_1, hfz30_0, hfz30_1⟩ := cellsF2 BK122.out
      have p124 : 0 ≤ ((ji26) : Int) := od_
      have q124 : (ji26) < (l0_1.length : Int) := od_
      obtain ⟨ad124, A124_0, c124_0, e124, hx124_0, hl124_0, hi124_0⟩ := at_T91 HR0_1.out (ji26) p124 q124
      cases e124
      replace hx124_0 := (HB.out.cell (World.block_lt_of_cell? _ _ hx124_0)).trans hx124_0
      have HR124_0 := am_ hi124_0
      have HC124_0 := am_ hl124_0
      clear hi124_0 hl124_0
      replace p124 := eq_true p124
      replace q124 := eq_true q124
      go_wp2_with (first | (go_at_call 74; (with_reducible refine (F74.calls _ _ ((rd_T91 l0_1 (ji26)).f0) t125 _ ?s1 ?s2 A29.out).mono ?_); (case s1 => repeat (first | exact (Kd.C_below HR124_0.out HB.out) | (with_reducible refine Kd.C_alloc ?_ _) | (with_reducible refine Kd.C_drewN ?_ _) | (with_reducible refine Kd.C_drew ?_))); (case s2 => exact HC124_0.out); rintro e w31 ⟨rfl, hb⟩; (try clear A29); replace BK122 := bb_ BK122 hb; replace HB := hs_ w hb; (try clear hb)))
      go_ret
      exact ⟨by first | rfl | (simp [errW_none, errW_some] <;> rfl) | (simp only [← hji26]; first | rfl | (simp [errW_none, errW_some] <;> rfl)) | (simp [*, errW_none, errW_some] <;> rfl), bl_⟩
     replace H := itn_ H; rcases H with ⟨c10b0, H⟩
     have HC11 := am_ H
     clear H
     obtain ⟨hcz12_0, hcz12_1, hfz12_0, hfz12_1⟩ := cellsF2 BK122.out
     have p126 : 0 ≤ (x3_2 : Int) := od_
     have q126 : x3_2 < (l0_1.length : Int) := od_
     obtain ⟨ad126, A126_0, c126_0, e126, hx126_0, hl126_0, hi126_0⟩ := at_T91 HR0_1.out x3_2 p126 q126
     cases e126
     replace hx126_0 := (HB.out.cell (World.block_lt_of_cell? _ _ hx126_0)).trans hx126_0
     have HR126_0 := am_ hi126_0
     have HC126_0 := am_ hl126_0
     clear hi126_0 hl126_0
     replace p126 := eq_true p126
     replace q126 := eq_true q126
     go_upto_region 7 with (fail)
     go_cut [50] (fun v50 wc => ∃ (kq : Nat) (x50_10 : Bool), v50 = .bool x50_10 ∧ Aside0 (F41.j2 kq x3_2 ((rd_T91 l0_1 x3_2).f0) x50_10 a0_0 l0_1 = some r) ∧ Aside0 (kq ≤ k2) ∧ Aside0 (wc.heap[gb122]? = some (.cells #[.string a0_0, (.slice (some ad126) l0_1.length c0_1)] 49 (0, 0))) ∧ Aside0 (Below w.heap.size w wc))
     case first =>
      have H := HC11.out
      clear HC11
      replace H := it_ H; rcases H with ⟨c13b0, H⟩ | ⟨c13b0, H⟩
      ·have c13b1 : decide (((rd_T91 l0_1 x3_2).f0).length < 1) = true := n2_ c13b0
       (first | rw [c13b0] | (simp only [i64_w, i32_w]; rw [c13b0]) | skip)
       have H' := am_ H
       clear H
       go_wp2
       go_meet
       case rel => exact ⟨_, (true), er_, H', ⟨au1_2⟩, ⟨bk_ BK122⟩, ⟨bl_⟩⟩
      have c13b1 : decide (((rd_T91 l0_1 x3_2).f0).length < 1) = false := n2_ c13b0
      (first | rw [c13b0] | (simp only [i64_w, i32_w]; rw [c13b0]) | skip)
      replace H := it_ H; rcases H with ⟨(c14b0 : decide (4 < (((rd_T91 l0_1 x3_2).f0).length : Int)) = true), H⟩ | ⟨(c14b0 : decide (4 < (((rd_T91 l0_1 x3_2).f0).length : Int)) = false), H⟩
      ·have c14b1 : decide (4 < ((rd_T91 l0_1 x3_2).f0).length) = true := n2_ c14b0
       have H' := am_ H
       clear H
       go_wp2
       go_meet
       case rel => exact ⟨_, (true), er_, H', ⟨au1_2⟩, ⟨bk_ BK122⟩, ⟨bl_⟩⟩
      have c14b1 : decide (4 < ((rd_T91 l0_1 x3_2).f0).length) = false := n2_ c14b0
      replace H := it_ H; rcases H with ⟨(c15b0 : decide (1 < (((rd_T91 l0_1 x3_2).f0).length : Int)) = true), H⟩ | ⟨(c15b0 : decide (1 < (((rd_T91 l0_1 x3_2).f0).length : Int)) = false), H⟩
      rotate_left
      ·have c15b1 : decide (1 < ((rd_T91 l0_1 x3_2).f0).length) = false := n2_ c15b0
       have H' := am_ H
       clear H
       go_wp2
       go_meet
       case rel => exact ⟨_, (false), er_, H', ⟨au1_2⟩, ⟨bk_ BK122⟩, ⟨bl_⟩⟩
      have c15b1 : decide (1 < ((rd_T91 l0_1 x3_2).f0).length) = true := n2_ c15b0
      obtain ⟨ji16, hji16⟩ : ∃ j_ : Int, (wrap64 ((((rd_T91 l0_1 x3_2).f0).length : Int) - 1)) = j_ := ⟨_, rfl⟩
      replace H : (if 0 ≤ (ji16) then (if (ji16) < (((rd_T91 l0_1 x3_2).f0).length : Int) then (F41.j2 k2 x3_2 ((rd_T91 l0_1 x3_2).f0) ((rdOf ByteArray.empty ((rd_T91 l0_1 x3_2).f0) (ji16)).toList == ([] : List UInt8)) a0_0 l0_1) else (none)) else (none)) = some r := by first | (rw [hji16] at H; exact H) | (simp only [hji16] at H ⊢; exact H)
      have hji16w : (IntKind.i64.wrap ((((rd_T91 l0_1 x3_2).f0).length : Int) - 1)) = ji16 := (i64_w _).trans hji16
      replace H := itn_ H; rcases H with ⟨c17b0, H⟩
      replace H := itn_ H; rcases H with ⟨c18b0, H⟩
      have H' := am_ H
      clear H
      have p127 : 0 ≤ ((ji16) : Int) := od_
      have q127 : (ji16) < (((rd_T91 l0_1 x3_2).f0).length : Int) := od_
      obtain ⟨ad127, e127, hx127_0⟩ := Kd.at_string HR126_0.out (ji16) p127 q127
      cases e127
      replace hx127_0 := (HB.out.cell (World.block_lt_of_cell? _ _ hx127_0)).trans hx127_0
      replace p127 := eq_true p127
      replace q127 := eq_true q127
      go_wp2
      go_meet
      case rel => exact ⟨_, (((rdOf ByteArray.empty ((rd_T91 l0_1 x3_2).f0) (ji16)).toList == ([] : List UInt8))), (by first | rfl | (simp; done) | (simp only [← hji16] <;> (first | rfl | simp)) | (simp [*]; done)), H', ⟨au1_2⟩, ⟨bk_ BK122⟩, ⟨bl_⟩⟩
     case rest =>
      clear HC11
      try clear c9b0
      try clear c10b0
      try clear c13b0
      try clear c13b1
      try clear c14b0
      try clear c14b1
      try clear c15b0
      try clear c15b1
      try clear c17b0
      try clear c18b0
      try clear hcz12_0 hcz12_1
      try clear hcz6_0 hcz6_1
      try clear hcz7_0 hcz7_1
      try clear hfz12_0 hfz12_1
      try clear hfz6_0 hfz6_1
      try clear hfz7_0 hfz7_1
      try clear hx126_0
      try clear hx127_0
      try clear p126
      try clear p127
      try clear q126
      try clear q127
      obtain ⟨kq, x50_10, rfl, HA, HJ10, BK122, HB⟩ := hcut
      cases kq with
      | zero => exact absurd HA.out (by simp [F41.j2])
      | succ kj10 =>
       have H := HA.out
       clear HA
       simp only [F41.j2] at H
       replace H := ib_ H; rcases H with ⟨rfl, H⟩ | ⟨rfl, H⟩
       ·obtain rfl := Option.some.inj H
        go_wp2
        go_ret
        exact ⟨au1_0, bl_⟩
       have H' := am_ H
       clear H
       go_wp2
       go_loopg [5] kj10 (fun kq v5 w' => ∃ (x5_4 : Int), v5 = .int .i64 x5_4 ∧ Aside0 (F41.l1 kq x3_2 ((rd_T91 l0_1 x3_2).f0) x5_4 a0_0 l0_1 = some r) ∧ Aside0 (kq ≤ kj10) ∧ Aside0 (w'.heap[gb122]? = some (.cells #[.string a0_0, (.slice (some ad126) l0_1.length c0_1)] 49 (0, 0))) ∧ Aside0 (Below w.heap.size w w'))
       case atStart => exact ⟨(0), er_, H', ⟨Nat.le_refl _⟩, ⟨bk_ BK122⟩, ⟨bl_⟩⟩
       case round =>
        clear H'
        try clear c9b0
        try clear c10b0
        try clear c13b0
        try clear c13b1
        try clear c14b0
        try clear c14b1
        try clear c15b0
        try clear c15b1
        try clear c17b0
        try clear c18b0
        try clear hcz12_0 hcz12_1
        try clear hcz6_0 hcz6_1
        try clear hcz7_0 hcz7_1
        try clear hfz12_0 hfz12_1
        try clear hfz6_0 hfz6_1
        try clear hfz7_0 hfz7_1
        try clear hx126_0
        try clear hx127_0
        try clear p126
        try clear p127
        try clear q126
        try clear q127
        obtain ⟨x5_4, rfl, HA, HK4, BK122, HB⟩ := hrel
        cases gk with
        | zero => exact absurd HA.out (by simp [F41.l1])
        | succ k4 =>
         have H := HA.out
         clear HA
         simp only [F41.l1] at H
         replace H := it_ H; rcases H with ⟨c20b0, H⟩ | ⟨c20b0, H⟩
         rotate_left
         ·have H' := am_ H
          clear H
          go_wp2
          go_roundg k4
          case measure => have := HJ1.out; have := HK2.out; have := HJ10.out; have := HK4.out; omega
          case rel => exact ⟨(wrap64 (x3_2 + 1)), er_, H', ⟨au1_18⟩, ⟨bk_ BK122⟩, ⟨bl_⟩⟩
         replace H := itn_ H; rcases H with ⟨c21b0, H⟩
         replace H := bi_ H; rcases H with ⟨t129, A22, H⟩
         replace H := ib_ H; rcases H with ⟨rfl, H⟩ | ⟨rfl, H⟩
         rotate_left
         ·obtain rfl := Option.some.inj H
          have p128 : 0 ≤ (x5_4 : Int) := od_
          have q128 : x5_4 < (((rd_T91 l0_1 x3_2).f0).length : Int) := od_
          obtain ⟨ad128, e128, hx128_0⟩ := Kd.at_string HR126_0.out x5_4 p128 q128
          cases e128
          replace hx128_0 := (HB.out.cell (World.block_lt_of_cell? _ _ hx128_0)).trans hx128_0
          replace p128 := eq_true p128
          replace q128 := eq_true q128
          go_wp2_with (first | (go_at_call 73; (with_reducible refine (F73.calls k4 (rdOf ByteArray.empty ((rd_T91 l0_1 x3_2).f0) x5_4) false _ A22.out).mono ?_); rintro e w' ⟨rfl, ⟨nd, rfl⟩⟩; (try clear A22)))
          go_ret
          exact ⟨au1_0, bl_⟩
         have H' := am_ H
         clear H
         have p128 : 0 ≤ (x5_4 : Int) := od_
         have q128 : x5_4 < (((rd_T91 l0_1 x3_2).f0).length : Int) := od_
         obtain ⟨ad128, e128, hx128_0⟩ := Kd.at_string HR126_0.out x5_4 p128 q128
         cases e128
         replace hx128_0 := (HB.out.cell (World.block_lt_of_cell? _ _ hx128_0)).trans hx128_0
         replace p128 := eq_true p128
         replace q128 := eq_true q128
         go_wp2_with (first | (go_at_call 73; (with_reducible refine (F73.calls k4 (rdOf ByteArray.empty ((rd_T91 l0_1 x3_2).f0) x5_4) true _ A22.out).mono ?_); rintro e w' ⟨rfl, ⟨nd, rfl⟩⟩; (try clear A22)))
         go_roundg k4
         case measure => have := HJ1.out; have := HK2.out; have := HJ10.out; have := HK4.out; omega
         case rel => exact ⟨(wrap64 (x5_4 + 1)), er_, H', ⟨au1_18⟩, ⟨bk_ BK122⟩, ⟨bl_⟩⟩
/-! ### F42: function 42 -/
def F42.f (a0 : ByteArray) : Option (Bool) := if a0.toList = ([73, 88, 72] : List UInt8) then (some true) else (if a0.toList = ([71, 82, 72] : List UInt8) then (some true) else (if a0.toList = ([77, 83, 72] : List UInt8) then (some true) else (if a0.toList = ([77, 83, 84] : List UInt8) then (some true) else (if a0.toList = ([71, 82, 84] : List UInt8) then (some true) else (some (a0.toList == ([73, 88, 84] : List UInt8)))))))
theorem F42.calls (a0 : ByteArray) (r : Bool) (w : World) (h : F42.f a0 = some r) :
  Calls Tryz.prog 42 #[.string a0] w fun e w' => e = .returned (.bool r) ∧ Drawn0 w w' := by
 have H : (if a0.toList = ([73, 88, 72] : List UInt8) then (some true) else (if a0.toList = ([71, 82, 72] : List UInt8) then (some true) else (if a0.toList = ([77, 83, 72] : List UInt8) then (some true) else (if a0.toList = ([77, 83, 84] : List UInt8) then (some true) else (if a0.toList = ([71, 82, 84] : List UInt8) then (some true) else (some (a0.toList == ([73, 88, 84] : List UInt8)))))))) = some r := h
 clear h
 by_cases c2 : a0.toList = ([73, 88, 72] : List UInt8)
 ·rw [if_pos c2] at H
  have c2b0 : (a0.toList == ([73, 88, 72] : List UInt8)) = true := beq_iff_eq.mpr c2
  have c2b1 : (a0.toList != ([73, 88, 72] : List UInt8)) = false := bne_eq_false_iff_eq.mpr c2
  clear c2
  obtain rfl := Option.some.inj H
  go_enter Tryz.func42, Tryz.ntmps42
  go_wp2
  go_ret
  exact ⟨er_, dn_⟩
 rw [if_neg c2] at H
 have c2b0 : (a0.toList == ([73, 88, 72] : List UInt8)) = false := beq_eq_false_iff_ne.mpr c2
 have c2b1 : (a0.toList != ([73, 88, 72] : List UInt8)) = true := bne_iff_ne.mpr c2
 by_cases c3 : a0.toList = ([71, 82, 72] : List UInt8)
 ·rw [if_pos c3] at H
  have c3b0 : (a0.toList == ([71, 82, 72] : List UInt8)) = true := beq_iff_eq.mpr c3
  have c3b1 : (a0.toList != ([71, 82, 72] : List UInt8)) = false := bne_eq_false_iff_eq.mpr c3
  clear c3
  obtain rfl := Option.some.inj H
  go_enter Tryz.func42, Tryz.ntmps42
  go_wp2
  go_ret
  exact ⟨er_, dn_⟩
 rw [if_neg c3] at H
 have c3b0 : (a0.toList == ([71, 82, 72] : List UInt8)) = false := beq_eq_false_iff_ne.mpr c3
 have c3b1 : (a0.toList != ([71, 82, 72] : List UInt8)) = true := bne_iff_ne.mpr c3
 by_cases c4 : a0.toList = ([77, 83, 72] : List UInt8)
 ·rw [if_pos c4] at H
  have c4b0 : (a0.toList == ([77, 83, 72] : List UInt8)) = true := beq_iff_eq.mpr c4
  have c4b1 : (a0.toList != ([77, 83, 72] : List UInt8)) = false := bne_eq_false_iff_eq.mpr c4
  clear c4
  obtain rfl := Option.some.inj H
  go_enter Tryz.func42, Tryz.ntmps42
  go_wp2
  go_ret
  exact ⟨er_, dn_⟩
 rw [if_neg c4] at H
 have c4b0 : (a0.toList == ([77, 83, 72] : List UInt8)) = false := beq_eq_false_iff_ne.mpr c4
 have c4b1 : (a0.toList != ([77, 83, 72] : List UInt8)) = true := bne_iff_ne.mpr c4
 by_cases c5 : a0.toList = ([77, 83, 84] : List UInt8)
 ·rw [if_pos c5] at H
  have c5b0 : (a0.toList == ([77, 83, 84] : List UInt8)) = true := beq_iff_eq.mpr c5
  have c5b1 : (a0.toList != ([77, 83, 84] : List UInt8)) = false := bne_eq_false_iff_eq.mpr c5
  clear c5
  obtain rfl := Option.some.inj H
  go_enter Tryz.func42, Tryz.ntmps42
  go_wp2
  go_ret
  exact ⟨er_, dn_⟩
 rw [if_neg c5] at H
 have c5b0 : (a0.toList == ([77, 83, 84] : List UInt8)) = false := beq_eq_false_iff_ne.mpr c5
 have c5b1 : (a0.toList != ([77, 83, 84] : List UInt8)) = true := bne_iff_ne.mpr c5
 by_cases c6 : a0.toList = ([71, 82, 84] : List UInt8)
 rotate_left
 ·rw [if_neg c6] at H
  have c6b0 : (a0.toList == ([71, 82, 84] : List UInt8)) = false := beq_eq_false_iff_ne.mpr c6
  have c6b1 : (a0.toList != ([71, 82, 84] : List UInt8)) = true := bne_iff_ne.mpr c6
  obtain rfl := Option.some.inj H
  go_enter Tryz.func42, Tryz.ntmps42
  go_wp2
  go_ret
  exact ⟨er_, dn_⟩

 rw [if_pos c6] at H
 have c6b0 : (a0.toList == ([71, 82, 84] : List UInt8)) = true := beq_iff_eq.mpr c6
 have c6b1 : (a0.toList != ([71, 82, 84] : List UInt8)) = false := bne_eq_false_iff_eq.mpr c6
 clear c6
 obtain rfl := Option.some.inj H
 go_enter Tryz.func42, Tryz.ntmps42
 go_wp2
 go_ret
 exact ⟨er_, dn_⟩
/-! ### F15: function 15 -/
mutual
def F15.j0 : Nat → Bool → ByteArray → ByteArray → Int → List (S53) → Option (Bool)
  | 0, _, _, _, _, _ => none
  | k + 1, x35, x131000, x131001, x131002, x131003 => if x35 = true then (some false) else (F15.l0 k 0 x131000 x131001 x131002 x131003)
def F15.l0 : Nat → Int → ByteArray → ByteArray → Int → List (S53) → Option (Bool)
  | 0, _, _, _, _, _ => none
  | k + 1, x3, x131000, x131001, x131002, x131003 => if x3 < (x131003.length : Int) then (if 0 ≤ x3 then (if ((rd_T53 x131003 x3).f0) < 1 then (F15.j2 k x3 true x131000 x131001 x131002 x131003 ((rd_T53 x131003 x3).f0) ((rd_T53 x131003 x3).f1) ((rd_T53 x131003 x3).f2)) else (if ((rd_T53 x131003 x3).f0) > 7 then (F15.j2 k x3 true x131000 x131001 x131002 x131003 ((rd_T53 x131003 x3).f0) ((rd_T53 x131003 x3).f1) ((rd_T53 x131003 x3).f2)) else ((F40.f ((rd_T53 x131003 x3).f1)).bind fun t136 => (if t136 = true then (if (((rd_T53 x131003 x3).f2).length : Int) < 1 then (F15.j2 k x3 true x131000 x131001 x131002 x131003 ((rd_T53 x131003 x3).f0) ((rd_T53 x131003 x3).f1) ((rd_T53 x131003 x3).f2)) else (F15.j2 k x3 (decide ((((rd_T53 x131003 x3).f2).length : Int) > 10)) x131000 x131001 x131002 x131003 ((rd_T53 x131003 x3).f0) ((rd_T53 x131003 x3).f1) ((rd_T53 x131003 x3).f2))) else (F15.j2 k x3 true x131000 x131001 x131002 x131003 ((rd_T53 x131003 x3).f0) ((rd_T53 x131003 x3).f1) ((rd_T53 x131003 x3).f2)))))) else (none)) else (some true)
def F15.j2 : Nat → Int → Bool → ByteArray → ByteArray → Int → List (S53) → Int → Int → List (S56) → Option (Bool)
  | 0, _, _, _, _, _, _, _, _, _ => none
  | k + 1, x3, x73, x131000, x131001, x131002, x131003, x136000, x136001, x136002 => if x73 = true then (some false) else (F15.l1 k x3 0 x131000 x131001 x131002 x131003 x136000 x136001 x136002)
def F15.l1 : Nat → Int → Int → ByteArray → ByteArray → Int → List (S53) → Int → Int → List (S56) → Option (Bool)
  | 0, _, _, _, _, _, _, _, _, _ => none
  | k + 1, x3, x5, x131000, x131001, x131002, x131003, x136000, x136001, x136002 => if x5 < (x136002.length : Int) then (if 0 ≤ x5 then ((F40.f ((rd_T56 x136002 x5).f0)).bind fun t139 => (if t139 = true then (F15.j4 k x3 x5 (decide ((((rd_T56 x136002 x5).f1).length : Int) > 40)) x131000 x131001 x131002 x131003 x136000 x136001 x136002 ((rd_T56 x136002 x5).f0) ((rd_T56 x136002 x5).f1)) else (F15.j4 k x3 x5 true x131000 x131001 x131002 x131003 x136000 x136001 x136002 ((rd_T56 x136002 x5).f0) ((rd_T56 x136002 x5).f1)))) else (none)) else (F15.l0 k (wrap64 (x3 + 1)) x131000 x131001 x131002 x131003)
def F15.j4 : Nat → Int → Int → Bool → ByteArray → ByteArray → Int → List (S53) → Int → Int → List (S56) → Int → List (S49) → Option (Bool)
  | 0, _, _, _, _, _, _, _, _, _, _, _, _ => none
  | k + 1, x3, x5, x95, x131000, x131001, x131002, x131003, x136000, x136001, x136002, x139000, x139001 => if x95 = true then (some false) else (F15.l2 k x3 x5 0 x131000 x131001 x131002 x131003 x136000 x136001 x136002 x139000 x139001)
def F15.l2 : Nat → Int → Int → Int → ByteArray → ByteArray → Int → List (S53) → Int → Int → List (S56) → Int → List (S49) → Option (Bool)
  | 0, _, _, _, _, _, _, _, _, _, _, _, _ => none
  | k + 1, x3, x5, x7, x131000, x131001, x131002, x131003, x136000, x136001, x136002, x139000, x139001 => if x7 < (x139001.length : Int) then (if 0 ≤ x7 then ((F41.f k ((rd_T49 x139001 x7).f0) ((rd_T49 x139001 x7).f1)).bind fun t141 => (if t141 = true then ((F42.f ((rd_T49 x139001 x7).f0)).bind fun t143 => (if t143 = true then (some false) else (F15.l2 k x3 x5 (wrap64 (x7 + 1)) x131000 x131001 x131002 x131003 x136000 x136001 x136002 x139000 x139001))) else (some false))) else (none)) else (F15.l1 k x3 (wrap64 (x5 + 1)) x131000 x131001 x131002 x131003 x136000 x136001 x136002)
end
def F15.f (k : Nat) (a0_0 : ByteArray) (a0_1 : ByteArray) (a0_2 : Int) (l0_3 : List (S53)) : Option (Bool) := (F39.f k a0_0).bind fun t131 => (if t131 = true then ((F39.f k a0_1).bind fun t132 => (if t132 = true then ((F40.f a0_2).bind fun t133 => (if t133 = true then (if (l0_3.length : Int) < 1 then (F15.j0 k true a0_0 a0_1 a0_2 l0_3) else (F15.j0 k (decide ((l0_3.length : Int) > 5)) a0_0 a0_1 a0_2 l0_3)) else (F15.j0 k true a0_0 a0_1 a0_2 l0_3))) else (F15.j0 k true a0_0 a0_1 a0_2 l0_3))) else (F15.j0 k true a0_0 a0_1 a0_2 l0_3))
theorem F15.mono_l : ∀ k, (∀ y0 y1 y2 y3 y4, LeO (F15.j0 k y0 y1 y2 y3 y4) (F15.j0 (k + 1) y0 y1 y2 y3 y4)) ∧ (∀ y0 y1 y2 y3 y4, LeO (F15.l0 k y0 y1 y2 y3 y4) (F15.l0 (k + 1) y0 y1 y2 y3 y4)) ∧ (∀ y0 y1 y2 y3 y4 y5 y6 y7 y8, LeO (F15.j2 k y0 y1 y2 y3 y4 y5 y6 y7 y8) (F15.j2 (k + 1) y0 y1 y2 y3 y4 y5 y6 y7 y8)) ∧ (∀ y0 y1 y2 y3 y4 y5 y6 y7 y8, LeO (F15.l1 k y0 y1 y2 y3 y4 y5 y6 y7 y8) (F15.l1 (k + 1) y0 y1 y2 y3 y4 y5 y6 y7 y8)) ∧ (∀ y0 y1 y2 y3 y4 y5 y6 y7 y8 y9 y10 y11, LeO (F15.j4 k y0 y1 y2 y3 y4 y5 y6 y7 y8 y9 y10 y11) (F15.j4 (k + 1) y0 y1 y2 y3 y4 y5 y6 y7 y8 y9 y10 y11)) ∧ (∀ y0 y1 y2 y3 y4 y5 y6 y7 y8 y9 y10 y11, LeO (F15.l2 k y0 y1 y2 y3 y4 y5 y6 y7 y8 y9 y10 y11) (F15.l2 (k + 1) y0 y1 y2 y3 y4 y5 y6 y7 y8 y9 y10 y11))
 | 0 => ⟨fun _ _ _ _ _ r h => by simp [F15.j0] at h, fun _ _ _ _ _ r h => by simp [F15.l0] at h, fun _ _ _ _ _ _ _ _ _ r h => by simp [F15.j2] at h, fun _ _ _ _ _ _ _ _ _ r h => by simp [F15.l1] at h, fun _ _ _ _ _ _ _ _ _ _ _ _ r h => by simp [F15.j4] at h, fun _ _ _ _ _ _ _ _ _ _ _ _ r h => by simp [F15.l2] at h⟩
 | k + 1 => by
  obtain ⟨ih0, ih1, ih2, ih3, ih4, ih5⟩ := F15.mono_l k
  refine ⟨?_, ?_, ?_, ?_, ?_, ?_⟩
  rotate_left
  ·intro y0 y1 y2 y3 y4
   unfold F15.l0
   repeat' with_reducible first | exact ih0 _ _ _ _ _ | exact ih1 _ _ _ _ _ | exact ih2 _ _ _ _ _ _ _ _ _ | exact ih3 _ _ _ _ _ _ _ _ _ | exact ih4 _ _ _ _ _ _ _ _ _ _ _ _ | exact ih5 _ _ _ _ _ _ _ _ _ _ _ _ | exact F41.mono _ _ _ | exact F39.mono _ _ | exact LeO.refl _ | exact LeO.none _ | refine LeO.ite ?_ ?_ | refine LeO.bind ?_ (fun _ => ?_)
  ·intro y0 y1 y2 y3 y4 y5 y6 y7 y8
   unfold F15.j2
   repeat' with_reducible first | exact ih0 _ _ _ _ _ | exact ih1 _ _ _ _ _ | exact ih2 _ _ _ _ _ _ _ _ _ | exact ih3 _ _ _ _ _ _ _ _ _ | exact ih4 _ _ _ _ _ _ _ _ _ _ _ _ | exact ih5 _ _ _ _ _ _ _ _ _ _ _ _ | exact F41.mono _ _ _ | exact F39.mono _ _ | exact LeO.refl _ | exact LeO.none _ | refine LeO.ite ?_ ?_ | refine LeO.bind ?_ (fun _ => ?_)
  ·intro y0 y1 y2 y3 y4 y5 y6 y7 y8
   unfold F15.l1
   repeat' with_reducible first | exact ih0 _ _ _ _ _ | exact ih1 _ _ _ _ _ | exact ih2 _ _ _ _ _ _ _ _ _ | exact ih3 _ _ _ _ _ _ _ _ _ | exact ih4 _ _ _ _ _ _ _ _ _ _ _ _ | exact ih5 _ _ _ _ _ _ _ _ _ _ _ _ | exact F41.mono _ _ _ | exact F39.mono _ _ | exact LeO.refl _ | exact LeO.none _ | refine LeO.ite ?_ ?_ | refine LeO.bind ?_ (fun _ => ?_)
  ·intro y0 y1 y2 y3 y4 y5 y6 y7 y8 y9 y10 y11
   unfold F15.j4
   repeat' with_reducible first | exact ih0 _ _ _ _ _ | exact ih1 _ _ _ _ _ | exact ih2 _ _ _ _ _ _ _ _ _ | exact ih3 _ _ _ _ _ _ _ _ _ | exact ih4 _ _ _ _ _ _ _ _ _ _ _ _ | exact ih5 _ _ _ _ _ _ _ _ _ _ _ _ | exact F41.mono _ _ _ | exact F39.mono _ _ | exact LeO.refl _ | exact LeO.none _ | refine LeO.ite ?_ ?_ | refine LeO.bind ?_ (fun _ => ?_)
  ·intro y0 y1 y2 y3 y4 y5 y6 y7 y8 y9 y10 y11
   unfold F15.l2
   repeat' with_reducible first | exact ih0 _ _ _ _ _ | exact ih1 _ _ _ _ _ | exact ih2 _ _ _ _ _ _ _ _ _ | exact ih3 _ _ _ _ _ _ _ _ _ | exact ih4 _ _ _ _ _ _ _ _ _ _ _ _ | exact ih5 _ _ _ _ _ _ _ _ _ _ _ _ | exact F41.mono _ _ _ | exact F39.mono _ _ | exact LeO.refl _ | exact LeO.none _ | refine LeO.ite ?_ ?_ | refine LeO.bind ?_ (fun _ => ?_)
  intro y0 y1 y2 y3 y4
  unfold F15.j0
  repeat' with_reducible first | exact ih0 _ _ _ _ _ | exact ih1 _ _ _ _ _ | exact ih2 _ _ _ _ _ _ _ _ _ | exact ih3 _ _ _ _ _ _ _ _ _ | exact ih4 _ _ _ _ _ _ _ _ _ _ _ _ | exact ih5 _ _ _ _ _ _ _ _ _ _ _ _ | exact F41.mono _ _ _ | exact F39.mono _ _ | exact LeO.refl _ | exact LeO.none _ | refine LeO.ite ?_ ?_ | refine LeO.bind ?_ (fun _ => ?_)
theorem F15.mono : ∀ a0 a1 a2 a3 k, LeO (F15.f k a0 a1 a2 a3) (F15.f (k + 1) a0 a1 a2 a3) := by
 intro a0 a1 a2 a3 k
 obtain ⟨ih0, ih1, ih2, ih3, ih4, ih5⟩ := F15.mono_l k
 unfold F15.f
 repeat' with_reducible first | exact ih0 _ _ _ _ _ | exact ih1 _ _ _ _ _ | exact ih2 _ _ _ _ _ _ _ _ _ | exact ih3 _ _ _ _ _ _ _ _ _ | exact ih4 _ _ _ _ _ _ _ _ _ _ _ _ | exact ih5 _ _ _ _ _ _ _ _ _ _ _ _ | exact F41.mono _ _ _ | exact F39.mono _ _ | exact LeO.refl _ | exact LeO.none _ | refine LeO.ite ?_ ?_ | refine LeO.bind ?_ (fun _ => ?_)
theorem F15.calls (k : Nat) (a0_0 : ByteArray) (a0_1 : ByteArray) (a0_2 : Int) (A0_3 : Option Addr) (c0_3 : Nat) (l0_3 : List (S53)) (r : Bool) (w : World) (hr0_3 : Kd.C k53 w A0_3 l0_3.length l0_3) (hc0_3 : l0_3.length ≤ c0_3) (h : F15.f k a0_0 a0_1 a0_2 l0_3 = some r) :
  Calls Tryz.prog 15 #[.agg #[.string a0_0, .string a0_1, .int .i64 a0_2, .slice A0_3 l0_3.length c0_3]] w fun e w' => e = .returned (.bool r) ∧ Below w.heap.size w w' := by
 have hu30 := Tryz.underlying30
 have hu53 := Tryz.underlying53
 have hu56 := Tryz.underlying56
 have hu49 := Tryz.underlying49
 have HR0_3 := am_ hr0_3
 have HC0_3 := am_ hc0_3
 clear hr0_3 hc0_3
 have HB := am_ (Below.refl w.heap.size w)
 have H : ((F39.f k a0_0).bind fun t131 => (if t131 = true then ((F39.f k a0_1).bind fun t132 => (if t132 = true then ((F40.f a0_2).bind fun t133 => (if t133 = true then (if (l0_3.length : Int) < 1 then (F15.j0 k true a0_0 a0_1 a0_2 l0_3) else (F15.j0 k (decide ((l0_3.length : Int) > 5)) a0_0 a0_1 a0_2 l0_3)) else (F15.j0 k true a0_0 a0_1 a0_2 l0_3))) else (F15.j0 k true a0_0 a0_1 a0_2 l0_3))) else (F15.j0 k true a0_0 a0_1 a0_2 l0_3))) = some r := h
 clear h
 have HC2 := am_ H
 clear H
 go_enter Tryz.func15, Tryz.ntmps15
 go_upto_region 1 with (first | ((with_reducible refine gate_dst (N := 1) rfl ?_); (try (refine gate_guard (by rfl) ?_; dsimp only)); refine be_ 1 #[.string a0_0, .string a0_1, .int .i64 a0_2, .slice A0_3 l0_3.length c0_3] 30 ?_; intro gb130 hg w3 hbox hb; have BK130 := am_ (hbox); have GW130 := am_ (gw_ hg bl_); have GE130 := GW130; replace HB := hs_ w hb; clear hb hbox hg))
 (try simp only [Act.put, List.setIfInBounds_toArray, List.set_cons_zero, List.set_cons_succ])
 go_cut [35] (fun v35 wc => ∃ (kq : Nat) (x35_1 : Bool), v35 = .bool x35_1 ∧ Aside0 (F15.j0 kq x35_1 a0_0 a0_1 a0_2 l0_3 = some r) ∧ Aside0 (kq ≤ k) ∧ Aside0 (wc.heap[gb130]? = some (.cells #[.string a0_0, .string a0_1, .int .i64 a0_2, (.slice A0_3 l0_3.length c0_3)] 30 (0, 0))) ∧ Aside0 (Below w.heap.size w wc))
 case first =>
  have H := HC2.out
  clear HC2
  replace H := bi_ H; rcases H with ⟨t131, A4, H⟩
  replace H := ib_ H; rcases H with ⟨rfl, H⟩ | ⟨rfl, H⟩
  rotate_left
  ·have H' := am_ H
   clear H
   obtain ⟨hcz15_0, hcz15_1, hcz15_2, hcz15_3, hfz15_0, hfz15_1, hfz15_2, hfz15_3⟩ := cellsF4 BK130.out
   go_wp2_with (first | (go_at_call 39; (with_reducible refine (F39.calls k a0_0 false _ A4.out).mono ?_); rintro e w' ⟨rfl, ⟨nd, rfl⟩⟩; (try clear A4)))
   go_meet
   case rel => exact ⟨_, (true), er_, H', ⟨au1_4⟩, ⟨bk_ BK130⟩, ⟨bl_⟩⟩
  replace H := bi_ H; rcases H with ⟨t132, A6, H⟩
  replace H := ib_ H; rcases H with ⟨rfl, H⟩ | ⟨rfl, H⟩
  rotate_left
  ·have H' := am_ H
   clear H
   obtain ⟨hcz14_0, hcz14_1, hcz14_2, hcz14_3, hfz14_0, hfz14_1, hfz14_2, hfz14_3⟩ := cellsF4 BK130.out
   go_wp2_with (first | (go_at_call 39; (with_reducible refine (F39.calls k a0_0 true _ A4.out).mono ?_); rintro e w' ⟨rfl, ⟨nd, rfl⟩⟩; (try clear A4)) | (go_at_call 39; (with_reducible refine (F39.calls k a0_1 false _ A6.out).mono ?_); rintro e w' ⟨rfl, ⟨nd, rfl⟩⟩; (try clear A6)))
   go_meet
   case rel => exact ⟨_, (true), er_, H', ⟨au1_4⟩, ⟨bk_ BK130⟩, ⟨bl_⟩⟩
  replace H := bi_ H; rcases H with ⟨t133, A8, H⟩
  replace H := ib_ H; rcases H with ⟨rfl, H⟩ | ⟨rfl, H⟩
  rotate_left
  ·have H' := am_ H
   clear H
   obtain ⟨hcz13_0, hcz13_1, hcz13_2, hcz13_3, hfz13_0, hfz13_1, hfz13_2, hfz13_3⟩ := cellsF4 BK130.out
   go_wp2_with (first | (go_at_call 39; (with_reducible refine (F39.calls k a0_0 true _ A4.out).mono ?_); rintro e w' ⟨rfl, ⟨nd, rfl⟩⟩; (try clear A4)) | (go_at_call 39; (with_reducible refine (F39.calls k a0_1 true _ A6.out).mono ?_); rintro e w' ⟨rfl, ⟨nd, rfl⟩⟩; (try clear A6)) | (go_at_call 40; (with_reducible refine (F40.calls a0_2 false _ A8.out).mono ?_); rintro e w' ⟨rfl, ⟨nd, rfl⟩⟩; (try clear A8)))
   go_meet
   case rel => exact ⟨_, (true), er_, H', ⟨au1_4⟩, ⟨bk_ BK130⟩, ⟨bl_⟩⟩
  replace H := it_ H; rcases H with ⟨c10b0, H⟩ | ⟨c10b0, H⟩
  rotate_left
  ·have c10b1 : decide (l0_3.length < 1) = false := n2_ c10b0
   (first | rw [c10b0] | (simp only [i64_w, i32_w]; rw [c10b0]) | skip)
   have H' := am_ H
   clear H
   obtain ⟨hcz12_0, hcz12_1, hcz12_2, hcz12_3, hfz12_0, hfz12_1, hfz12_2, hfz12_3⟩ := cellsF4 BK130.out
   go_wp2_with (first | (go_at_call 39; (with_reducible refine (F39.calls k a0_0 true _ A4.out).mono ?_); rintro e w' ⟨rfl, ⟨nd, rfl⟩⟩; (try clear A4)) | (go_at_call 39; (with_reducible refine (F39.calls k a0_1 true _ A6.out).mono ?_); rintro e w' ⟨rfl, ⟨nd, rfl⟩⟩; (try clear A6)) | (go_at_call 40; (with_reducible refine (F40.calls a0_2 true _ A8.out).mono ?_); rintro e w' ⟨rfl, ⟨nd, rfl⟩⟩; (try clear A8)))
   go_meet
   case rel => exact ⟨_, (decide ((l0_3.length : Int) > 5)), er_, H', ⟨au1_4⟩, ⟨bk_ BK130⟩, ⟨bl_⟩⟩
  have c10b1 : decide (l0_3.length < 1) = true := n2_ c10b0
  (first | rw [c10b0] | (simp only [i64_w, i32_w]; rw [c10b0]) | skip)
  have H' := am_ H
  clear H
  obtain ⟨hcz11_0, hcz11_1, hcz11_2, hcz11_3, hfz11_0, hfz11_1, hfz11_2, hfz11_3⟩ := cellsF4 BK130.out
  go_wp2_with (first | (go_at_call 39; (with_reducible refine (F39.calls k a0_0 true _ A4.out).mono ?_); rintro e w' ⟨rfl, ⟨nd, rfl⟩⟩; (try clear A4)) | (go_at_call 39; (with_reducible refine (F39.calls k a0_1 true _ A6.out).mono ?_); rintro e w' ⟨rfl, ⟨nd, rfl⟩⟩; (try clear A6)) | (go_at_call 40; (with_reducible refine (F40.calls a0_2 true _ A8.out).mono ?_); rintro e w' ⟨rfl, ⟨nd, rfl⟩⟩; (try clear A8)))
  go_meet
  case rel => exact ⟨_, (true), er_, H', ⟨au1_4⟩, ⟨bk_ BK130⟩, ⟨bl_⟩⟩
 case rest =>
  clear HC2
  try clear c10b0
  try clear c10b1
  try clear hcz11_0 hcz11_1 hcz11_2 hcz11_3
  try clear hcz12_0 hcz12_1 hcz12_2 hcz12_3
  try clear hcz13_0 hcz13_1 hcz13_2 hcz13_3
  try clear hcz14_0 hcz14_1 hcz14_2 hcz14_3
  try clear hcz15_0 hcz15_1 hcz15_2 hcz15_3
  try clear hfz11_0 hfz11_1 hfz11_2 hfz11_3
  try clear hfz12_0 hfz12_1 hfz12_2 hfz12_3
  try clear hfz13_0 hfz13_1 hfz13_2 hfz13_3
  try clear hfz14_0 hfz14_1 hfz14_2 hfz14_3
  try clear hfz15_0 hfz15_1 hfz15_2 hfz15_3
  obtain ⟨kq, x35_1, rfl, HA, HJ1, BK130, HB⟩ := hcut
  cases kq with
  | zero => exact absurd HA.out (by simp [F15.j0])
  | succ kj1 =>
   have H := HA.out
   clear HA
   simp only [F15.j0] at H
   replace H := ib_ H; rcases H with ⟨rfl, H⟩ | ⟨rfl, H⟩
   ·obtain rfl := Option.some.inj H
    go_wp2
    go_ret
    exact ⟨au1_0, bl_⟩
   have H' := am_ H
   clear H
   go_wp2
   go_loopg [3] kj1 (fun kq v3 w' => ∃ (x3_2 : Int), v3 = .int .i64 x3_2 ∧ Aside0 (F15.l0 kq x3_2 a0_0 a0_1 a0_2 l0_3 = some r) ∧ Aside0 (kq ≤ kj1) ∧ Aside0 (w'.heap[gb130]? = some (.cells #[.string a0_0, .string a0_1, .int .i64 a0_2, (.slice A0_3 l0_3.length c0_3)] 30 (0, 0))) ∧ Aside0 (Below w.heap.size w w'))
   case atStart => exact ⟨(0), er_, H', ⟨Nat.le_refl _⟩, ⟨bk_ BK130⟩, ⟨bl_⟩⟩
   case round =>
    clear H'
    try clear c10b0
    try clear c10b1
    try clear hcz11_0 hcz11_1 hcz11_2 hcz11_3
    try clear hcz12_0 hcz12_1 hcz12_2 hcz12_3
    try clear hcz13_0 hcz13_1 hcz13_2 hcz13_3
    try clear hcz14_0 hcz14_1 hcz14_2 hcz14_3
    try clear hcz15_0 hcz15_1 hcz15_2 hcz15_3
    try clear hfz11_0 hfz11_1 hfz11_2 hfz11_3
    try clear hfz12_0 hfz12_1 hfz12_2 hfz12_3
    try clear hfz13_0 hfz13_1 hfz13_2 hfz13_3
    try clear hfz14_0 hfz14_1 hfz14_2 hfz14_3
    try clear hfz15_0 hfz15_1 hfz15_2 hfz15_3
    obtain ⟨x3_2, rfl, HA, HK2, BK130, HB⟩ := hrel
    cases gk with
    | zero => exact absurd HA.out (by simp [F15.l0])
    | succ k2 =>
     have H := HA.out
     clear HA
     simp only [F15.l0] at H
     replace H := it_ H; rcases H with ⟨c17b0, H⟩ | ⟨c17b0, H⟩
     rotate_left
     ·obtain rfl := Option.some.inj H
      obtain ⟨hcz83_0, hcz83_1, hcz83_2, hcz83_3, hfz83_0, hfz83_1, hfz83_2, hfz83_3⟩ := cellsF4 BK130.out
      go_wp2
      go_ret
      exact ⟨au1_0, bl_⟩

     replace H := itn_ H; rcases H with ⟨c18b0, H⟩
     have HC19 := am_ H
     clear H
     obtain ⟨hcz20_0, hcz20_1, hcz20_2, hcz20_3, hfz20_0, hfz20_1, hfz20_2, hfz20_3⟩ := cellsF4 BK130.out
     have p134 : 0 ≤ (x3_2 : Int) := od_
     have q134 : x3_2 < (l0_3.length : Int) := od_
     obtain ⟨ad134, A134_2, c134_2, e134, hx134_0, hx134_1, hx134_2, hl134_2, hi134_2⟩ := at_T53 HR0_3.out x3_2 p134 q134
     cases e134
     replace hx134_0 := (HB.out.cell (World.block_lt_of_cell? _ _ hx134_0)).trans hx134_0
     replace hx134_1 := (HB.out.cell (World.block_lt_of_cell? _ _ hx134_1)).trans hx134_1
     replace hx134_2 := (HB.out.cell (World.block_lt_of_cell? _ _ hx134_2)).trans hx134_2
     have HR134_2 := am_ hi134_2
     have HC134_2 := am_ hl134_2
     clear hi134_2 hl134_2
     replace p134 := eq_true p134
     replace q134 := eq_true q134
     go_upto_region 7 with (first | ((with_reducible refine gate_dst (N := 4) rfl ?_); (try (refine gate_guard (by rfl) ?_; dsimp only)); refine be_ 4 #[.int .i64 0, .int .i64 0, .slice none 0 0] 53 ?_; intro gb135 hg w21 hbox hb; have BK135 := am_ (hbox); have GW135 := am_ (gw_ hg bl_); have GE135 := GW135; replace HB := hs_ w hb; have NB130_135 := am_ (gn_ hg (blkl_ BK130)); have NB135_130 := am_ (gm_ hg (blkl_ BK130)); replace BK130 := bb_ BK130 hb; clear hb hbox hg; have hnb22 := NB135_130.out; have hnc22 := NB130_135.out; obtain ⟨hcz23_0, hcz23_1, hcz23_2, hfz23_0, hfz23_1, hfz23_2⟩ := cellsF3 BK135.out))
     (try simp only [Act.put, List.setIfInBounds_toArray, List.set_cons_zero, List.set_cons_succ])
     go_cut [73] (fun v73 wc => ∃ (kq : Nat) (x73_18 : Bool), v73 = .bool x73_18 ∧ Aside0 (F15.j2 kq x3_2 x73_18 a0_0 a0_1 a0_2 l0_3 ((rd_T53 l0_3 x3_2).f0) ((rd_T53 l0_3 x3_2).f1) ((rd_T53 l0_3 x3_2).f2) = some r) ∧ Aside0 (kq ≤ k2) ∧ Aside0 (wc.heap[gb130]? = some (.cells #[.string a0_0, .string a0_1, .int .i64 a0_2, (.slice (some ad134) l0_3.length c0_3)] 30 (0, 0))) ∧ Aside0 (wc.heap[gb135]? = some (.cells #[.int .i64 ((rd_T53 l0_3 x3_2).f0), .int .i64 ((rd_T53 l0_3 x3_2).f1), (.slice A134_2 ((rd_T53 l0_3 x3_2).f2).length c134_2)] 53 (0, 0))) ∧ Aside0 (Below w.heap.size w wc))
     case first =>
      have H := HC19.out
      clear HC19
      replace H := it_ H; rcases H with ⟨c24b0, H⟩ | ⟨c24b0, H⟩
      ·(first | rw [c24b0] | (simp only [i64_w, i32_w]; rw [c24b0]) | skip)
       have H' := am_ H
       clear H
       have hnb25 := NB135_130.out
       have hnc25 := NB130_135.out
       obtain ⟨hcz26_0, hcz26_1, hcz26_2, hfz26_0, hfz26_1, hfz26_2⟩ := cellsF3 BK135.out
       go_wp2
       go_meet
       case rel => exact ⟨_, (true), er_, H', ⟨au1_2⟩, ⟨bf_ BK130⟩, ⟨bq_ BK135⟩, ⟨bl_⟩⟩
      (first | rw [c24b0] | (simp only [i64_w, i32_w]; rw [c24b0]) | skip)
      replace H := it_ H; rcases H with ⟨(c27b0 : decide (7 < ((rd_T53 l0_3 x3_2).f0)) = true), H⟩ | ⟨(c27b0 : decide (7 < ((rd_T53 l0_3 x3_2).f0)) = false), H⟩
      ·have H' := am_ H
       clear H
       have hnb28 := NB135_130.out
       have hnc28 := NB130_135.out
       obtain ⟨hcz29_0, hcz29_1, hcz29_2, hfz29_0, hfz29_1, hfz29_2⟩ := cellsF3 BK135.out
       go_wp2
       go_meet
       case rel => exact ⟨_, (true), er_, H', ⟨au1_2⟩, ⟨bf_ BK130⟩, ⟨bq_ BK135⟩, ⟨bl_⟩⟩
      replace H := bi_ H; rcases H with ⟨t136, A30, H⟩
      replace H := ib_ H; rcases H with ⟨rfl, H⟩ | ⟨rfl, H⟩
      rotate_left
      ·have H' := am_ H
       clear H
       have hnb37 := NB135_130.out
       have hnc37 := NB130_135.out
       obtain ⟨hcz38_0, hcz38_1, hcz38_2, hfz38_0, hfz38_1, hfz38_2⟩ := cellsF3 BK135.out
       go_wp2_with (first | (go_at_call 40; (with_reducible refine (F40.calls ((rd_T53 l0_3 x3_2).f1) false _ A30.out).mono ?_); rintro e w' ⟨rfl, ⟨nd, rfl⟩⟩; (try clear A30)))
       go_meet
       case rel => exact ⟨_, (true), er_, H', ⟨au1_2⟩, ⟨bf_ BK130⟩, ⟨bq_ BK135⟩, ⟨bl_⟩⟩
      replace H := it_ H; rcases H with ⟨c32b0, H⟩ | ⟨c32b0, H⟩
      rotate_left
      ·have c32b1 : decide (((rd_T53 l0_3 x3_2).f2).length < 1) = false := n2_ c32b0
       have H' := am_ H
       clear H
       have hnb35 := NB135_130.out
       have hnc35 := NB130_135.out
       obtain ⟨hcz36_0, hcz36_1, hcz36_2, hfz36_0, hfz36_1, hfz36_2⟩ := cellsF3 BK135.out
       go_wp2_with (first | (go_at_call 40; (with_reducible refine (F40.calls ((rd_T53 l0_3 x3_2).f1) true _ A30.out).mono ?_); rintro e w' ⟨rfl, ⟨nd, rfl⟩⟩; (try clear A30)))
       go_meet
       case rel => exact ⟨_, (decide ((((rd_T53 l0_3 x3_2).f2).length : Int) > 10)), er_, H', ⟨au1_2⟩, ⟨bf_ BK130⟩, ⟨bq_ BK135⟩, ⟨bl_⟩⟩
      have c32b1 : decide (((rd_T53 l0_3 x3_2).f2).length < 1) = true := n2_ c32b0
      have H' := am_ H
      clear H
      have hnb33 := NB135_130.out
      have hnc33 := NB130_135.out
      obtain ⟨hcz34_0, hcz34_1, hcz34_2, hfz34_0, hfz34_1, hfz34_2⟩ := cellsF3 BK135.out
      go_wp2_with (first | (go_at_call 40; (with_reducible refine (F40.calls ((rd_T53 l0_3 x3_2).f1) true _ A30.out).mono ?_); rintro e w' ⟨rfl, ⟨nd, rfl⟩⟩; (try clear A30)))
      go_meet
      case rel => exact ⟨_, (true), er_, H', ⟨au1_2⟩, ⟨bf_ BK130⟩, ⟨bq_ BK135⟩, ⟨bl_⟩⟩
     case rest =>
      clear HC19
      try clear c10b0
      try clear c10b1
      try clear c17b0
      try clear c18b0
      try clear c24b0
      try clear c27b0
      try clear c32b0
      try clear c32b1
      try clear hcz11_0 hcz11_1 hcz11_2 hcz11_3
      try clear hcz12_0 hcz12_1 hcz12_2 hcz12_3
      try clear hcz13_0 hcz13_1 hcz13_2 hcz13_3
      try clear hcz14_0 hcz14_1 hcz14_2 hcz14_3
      try clear hcz15_0 hcz15_1 hcz15_2 hcz15_3
      try clear hcz20_0 hcz20_1 hcz20_2 hcz20_3
      try clear hcz23_0 hcz23_1 hcz23_2
      try clear hcz26_0 hcz26_1 hcz26_2
      try clear hcz29_0 hcz29_1 hcz29_2
      try clear hcz34_0 hcz34_1 hcz34_2
      try clear hcz36_0 hcz36_1 hcz36_2
      try clear hcz38_0 hcz38_1 hcz38_2
      try clear hfz11_0 hfz11_1 hfz11_2 hfz11_3
      try clear hfz12_0 hfz12_1 hfz12_2 hfz12_3
      try clear hfz13_0 hfz13_1 hfz13_2 hfz13_3
      try clear hfz14_0 hfz14_1 hfz14_2 hfz14_3
      try clear hfz15_0 hfz15_1 hfz15_2 hfz15_3
      try clear hfz20_0 hfz20_1 hfz20_2 hfz20_3
      try clear hfz23_0 hfz23_1 hfz23_2
      try clear hfz26_0 hfz26_1 hfz26_2
      try clear hfz29_0 hfz29_1 hfz29_2
      try clear hfz34_0 hfz34_1 hfz34_2
      try clear hfz36_0 hfz36_1 hfz36_2
      try clear hfz38_0 hfz38_1 hfz38_2
      try clear hx134_0
      try clear hx134_1
      try clear hx134_2
      try clear p134
      try clear q134
      obtain ⟨kq, x73_18, rfl, HA, HJ18, BK130, BK135, HB⟩ := hcut
      cases kq with
      | zero => exact absurd HA.out (by simp [F15.j2])
      | succ kj18 =>
       have H := HA.out
       clear HA
       simp only [F15.j2] at H
       replace H := ib_ H; rcases H with ⟨rfl, H⟩ | ⟨rfl, H⟩
       ·obtain rfl := Option.some.inj H
        go_wp2
        go_ret
        exact ⟨au1_0, bl_⟩
       have H' := am_ H
       clear H
       go_wp2
       go_loopg [5] kj18 (fun kq v5 w' => ∃ (x5_4 : Int), v5 = .int .i64 x5_4 ∧ Aside0 (F15.l1 kq x3_2 x5_4 a0_0 a0_1 a0_2 l0_3 ((rd_T53 l0_3 x3_2).f0) ((rd_T53 l0_3 x3_2).f1) ((rd_T53 l0_3 x3_2).f2) = some r) ∧ Aside0 (kq ≤ kj18) ∧ Aside0 (w'.heap[gb130]? = some (.cells #[.string a0_0, .string a0_1, .int .i64 a0_2, (.slice (some ad134) l0_3.length c0_3)] 30 (0, 0))) ∧ Aside0 (w'.heap[gb135]? = some (.cells #[.int .i64 ((rd_T53 l0_3 x3_2).f0), .int .i64 ((rd_T53 l0_3 x3_2).f1), (.slice A134_2 ((rd_T53 l0_3 x3_2).f2).length c134_2)] 53 (0, 0))) ∧ Aside0 (Below w.heap.size w w'))
       case atStart => exact ⟨(0), er_, H', ⟨Nat.le_refl _⟩, ⟨bk_ BK130⟩, ⟨bk_ BK135⟩, ⟨bl_⟩⟩
       case round =>
        clear H'
        try clear c10b0
        try clear c10b1
        try clear c17b0
        try clear c18b0
        try clear c24b0
        try clear c27b0
        try clear c32b0
        try clear c32b1
        try clear hcz11_0 hcz11_1 hcz11_2 hcz11_3
        try clear hcz12_0 hcz12_1 hcz12_2 hcz12_3
        try clear hcz13_0 hcz13_1 hcz13_2 hcz13_3
        try clear hcz14_0 hcz14_1 hcz14_2 hcz14_3
        try clear hcz15_0 hcz15_1 hcz15_2 hcz15_3
        try clear hcz20_0 hcz20_1 hcz20_2 hcz20_3
        try clear hcz23_0 hcz23_1 hcz23_2
        try clear hcz26_0 hcz26_1 hcz26_2
        try clear hcz29_0 hcz29_1 hcz29_2
        try clear hcz34_0 hcz34_1 hcz34_2
        try clear hcz36_0 hcz36_1 hcz36_2
        try clear hcz38_0 hcz38_1 hcz38_2
        try clear hfz11_0 hfz11_1 hfz11_2 hfz11_3
        try clear hfz12_0 hfz12_1 hfz12_2 hfz12_3
        try clear hfz13_0 hfz13_1 hfz13_2 hfz13_3
        try clear hfz14_0 hfz14_1 hfz14_2 hfz14_3
        try clear hfz15_0 hfz15_1 hfz15_2 hfz15_3
        try clear hfz20_0 hfz20_1 hfz20_2 hfz20_3
        try clear hfz23_0 hfz23_1 hfz23_2
        try clear hfz26_0 hfz26_1 hfz26_2
        try clear hfz29_0 hfz29_1 hfz29_2
        try clear hfz34_0 hfz34_1 hfz34_2
        try clear hfz36_0 hfz36_1 hfz36_2
        try clear hfz38_0 hfz38_1 hfz38_2
        try clear hx134_0
        try clear hx134_1
        try clear hx134_2
        try clear p134
        try clear q134
        obtain ⟨x5_4, rfl, HA, HK4, BK130, BK135, HB⟩ := hrel
        cases gk with
        | zero => exact absurd HA.out (by simp [F15.l1])
        | succ k4 =>
         have H := HA.out
         clear HA
         simp only [F15.l1] at H
         replace H := it_ H; rcases H with ⟨c40b0, H⟩ | ⟨c40b0, H⟩
         rotate_left
         ·have H' := am_ H
          clear H
          have hnb81 := NB135_130.out
          have hnc81 := NB130_135.out
          obtain ⟨hcz82_0, hcz82_1, hcz82_2, hfz82_0, hfz82_1, hfz82_2⟩ := cellsF3 BK135.out
          go_wp2
          go_roundg k4
          case measure => have := HJ1.out; have := HK2.out; have := HJ18.out; have := HK4.out; omega
          case rel => exact ⟨(wrap64 (x3_2 + 1)), er_, H', ⟨by have := HJ1.out; have := HK2.out; have := HJ18.out; have := HK4.out; omega⟩, ⟨bk_ BK130⟩, ⟨bl_⟩⟩
         replace H := itn_ H; rcases H with ⟨c41b0, H⟩
         have HC42 := am_ H
         clear H
         have hnb43 := NB135_130.out
         have hnc43 := NB130_135.out
         obtain ⟨hcz44_0, hcz44_1, hcz44_2, hfz44_0, hfz44_1, hfz44_2⟩ := cellsF3 BK135.out
         have p137 : 0 ≤ (x5_4 : Int) := od_
         have q137 : x5_4 < (((rd_T53 l0_3 x3_2).f2).length : Int) := od_
         obtain ⟨ad137, A137_1, c137_1, e137, hx137_0, hx137_1, hl137_1, hi137_1⟩ := at_T56 HR134_2.out x5_4 p137 q137
         cases e137
         replace hx137_0 := (HB.out.cell (World.block_lt_of_cell? _ _ hx137_0)).trans hx137_0
         replace hx137_1 := (HB.out.cell (World.block_lt_of_cell? _ _ hx137_1)).trans hx137_1
         have HR137_1 := am_ hi137_1
         have HC137_1 := am_ hl137_1
         clear hi137_1 hl137_1
         replace p137 := eq_true p137
         replace q137 := eq_true q137
         go_upto_region 13 with (first | ((with_reducible refine gate_dst (N := 6) rfl ?_); (try (refine gate_guard (by rfl) ?_; dsimp only)); refine be_ 6 #[.int .i64 0, .slice none 0 0] 56 ?_; intro gb138 hg w45 hbox hb; have BK138 := am_ (hbox); have GW138 := am_ (gw_ hg bl_); have GE138 := GW138; replace HB := hs_ w hb; have NB130_138 := am_ (gn_ hg (blkl_ BK130)); have NB138_130 := am_ (gm_ hg (blkl_ BK130)); replace BK130 := bb_ BK130 hb; have NB135_138 := am_ (gn_ hg (blkl_ BK135)); have NB138_135 := am_ (gm_ hg (blkl_ BK135)); replace BK135 := bb_ BK135 hb; clear hb hbox hg; have hnb46 := NB138_130.out; have hnc46 := NB130_138.out; have hnb47 := NB138_135.out; have hnc47 := NB135_138.out; obtain ⟨hcz48_0, hcz48_1, hfz48_0, hfz48_1⟩ := cellsF2 BK138.out))
         (try simp only [Act.put, List.setIfInBounds_toArray, List.set_cons_zero, List.set_cons_succ])
         go_cut [95] (fun v95 wc => ∃ (kq : Nat) (x95_41 : Bool), v95 = .bool x95_41 ∧ Aside0 (F15.j4 kq x3_2 x5_4 x95_41 a0_0 a0_1 a0_2 l0_3 ((rd_T53 l0_3 x3_2).f0) ((rd_T53 l0_3 x3_2).f1) ((rd_T53 l0_3 x3_2).f2) ((rd_T56 ((rd_T53 l0_3 x3_2).f2) x5_4).f0) ((rd_T56 ((rd_T53 l0_3 x3_2).f2) x5_4).f1) = some r) ∧ Aside0 (kq ≤ k4) ∧ Aside0 (wc.heap[gb130]? = some (.cells #[.string a0_0, .string a0_1, .int .i64 a0_2, (.slice (some ad134) l0_3.length c0_3)] 30 (0, 0))) ∧ Aside0 (wc.heap[gb135]? = some (.cells #[.int .i64 ((rd_T53 l0_3 x3_2).f0), .int .i64 ((rd_T53 l0_3 x3_2).f1), (.slice (some ad137) ((rd_T53 l0_3 x3_2).f2).length c134_2)] 53 (0, 0))) ∧ Aside0 (wc.heap[gb138]? = some (.cells #[.int .i64 ((rd_T56 ((rd_T53 l0_3 x3_2).f2) x5_4).f0), (.slice A137_1 ((rd_T56 ((rd_T53 l0_3 x3_2).f2) x5_4).f1).length c137_1)] 56 (0, 0))) ∧ Aside0 (Below w.heap.size w wc))
         case first =>
          have H := HC42.out
          clear HC42
          replace H := bi_ H; rcases H with ⟨t139, A49, H⟩
          replace H := ib_ H; rcases H with ⟨rfl, H⟩ | ⟨rfl, H⟩
          rotate_left
          ·have H' := am_ H
           clear H
           have hnb54 := NB138_130.out
           have hnc54 := NB130_138.out
           have hnb55 := NB138_135.out
           have hnc55 := NB135_138.out
           obtain ⟨hcz56_0, hcz56_1, hfz56_0, hfz56_1⟩ := cellsF2 BK138.out
           go_wp2_with (first | (go_at_call 40; (with_reducible refine (F40.calls ((rd_T56 ((rd_T53 l0_3 x3_2).f2) x5_4).f0) false _ A49.out).mono ?_); rintro e w' ⟨rfl, ⟨nd, rfl⟩⟩; (try clear A49)))
           go_meet
           case rel => exact ⟨_, (true), er_, H', ⟨au1_16⟩, ⟨bf_ BK130⟩, ⟨bf_ BK135⟩, ⟨bq_ BK138⟩, ⟨bl_⟩⟩
          have H' := am_ H
          clear H
          have hnb51 := NB138_130.out
          have hnc51 := NB130_138.out
          have hnb52 := NB138_135.out
          have hnc52 := NB135_138.out
          obtain ⟨hcz53_0, hcz53_1, hfz53_0, hfz53_1⟩ := cellsF2 BK138.out
          go_wp2_with (first | (go_at_call 40; (with_reducible refine (F40.calls ((rd_T56 ((rd_T53 l0_3 x3_2).f2) x5_4).f0) true _ A49.out).mono ?_); rintro e w' ⟨rfl, ⟨nd, rfl⟩⟩; (try clear A49)))
          go_meet
          case rel => exact ⟨_, (decide ((((rd_T56 ((rd_T53 l0_3 x3_2).f2) x5_4).f1).length : Int) > 40)), er_, H', ⟨au1_16⟩, ⟨bf_ BK130⟩, ⟨bf_ BK135⟩, ⟨bq_ BK138⟩, ⟨bl_⟩⟩
         case rest =>
          clear HC42
          try clear c10b0
          try clear c10b1
          try clear c17b0
          try clear c18b0
          try clear c24b0
          try clear c27b0
          try clear c32b0
          try clear c32b1
          try clear c40b0
          try clear c41b0
          try clear hcz11_0 hcz11_1 hcz11_2 hcz11_3
          try clear hcz12_0 hcz12_1 hcz12_2 hcz12_3
          try clear hcz13_0 hcz13_1 hcz13_2 hcz13_3
          try clear hcz14_0 hcz14_1 hcz14_2 hcz14_3
          try clear hcz15_0 hcz15_1 hcz15_2 hcz15_3
          try clear hcz20_0 hcz20_1 hcz20_2 hcz20_3
          try clear hcz23_0 hcz23_1 hcz23_2
          try clear hcz26_0 hcz26_1 hcz26_2
          try clear hcz29_0 hcz29_1 hcz29_2
          try clear hcz34_0 hcz34_1 hcz34_2
          try clear hcz36_0 hcz36_1 hcz36_2
          try clear hcz38_0 hcz38_1 hcz38_2
          try clear hcz44_0 hcz44_1 hcz44_2
          try clear hcz48_0 hcz48_1
          try clear hcz53_0 hcz53_1
          try clear hcz56_0 hcz56_1
          try clear hfz11_0 hfz11_1 hfz11_2 hfz11_3
          try clear hfz12_0 hfz12_1 hfz12_2 hfz12_3
          try clear hfz13_0 hfz13_1 hfz13_2 hfz13_3
          try clear hfz14_0 hfz14_1 hfz14_2 hfz14_3
          try clear hfz15_0 hfz15_1 hfz15_2 hfz15_3
          try clear hfz20_0 hfz20_1 hfz20_2 hfz20_3
          try clear hfz23_0 hfz23_1 hfz23_2
          try clear hfz26_0 hfz26_1 hfz26_2
          try clear hfz29_0 hfz29_1 hfz29_2
          try clear hfz34_0 hfz34_1 hfz34_2
          try clear hfz36_0 hfz36_1 hfz36_2
          try clear hfz38_0 hfz38_1 hfz38_2
          try clear hfz44_0 hfz44_1 hfz44_2
          try clear hfz48_0 hfz48_1
          try clear hfz53_0 hfz53_1
          try clear hfz56_0 hfz56_1
          try clear hx134_0
          try clear hx134_1
          try clear hx134_2
          try clear hx137_0
          try clear hx137_1
          try clear p134
          try clear p137
          try clear q134
          try clear q137
          obtain ⟨kq, x95_41, rfl, HA, HJ41, BK130, BK135, BK138, HB⟩ := hcut
          cases kq with
          | zero => exact absurd HA.out (by simp [F15.j4])
          | succ kj41 =>
           have H := HA.out
           clear HA
           simp only [F15.j4] at H
           replace H := ib_ H; rcases H with ⟨rfl, H⟩ | ⟨rfl, H⟩
           ·obtain rfl := Option.some.inj H
            go_wp2
            go_ret
            exact ⟨au1_0, bl_⟩
           have H' := am_ H
           clear H
           go_wp2
           go_loopg [7] kj41 (fun kq v7 w' => ∃ (x7_6 : Int), v7 = .int .i64 x7_6 ∧ Aside0 (F15.l2 kq x3_2 x5_4 x7_6 a0_0 a0_1 a0_2 l0_3 ((rd_T53 l0_3 x3_2).f0) ((rd_T53 l0_3 x3_2).f1) ((rd_T53 l0_3 x3_2).f2) ((rd_T56 ((rd_T53 l0_3 x3_2).f2) x5_4).f0) ((rd_T56 ((rd_T53 l0_3 x3_2).f2) x5_4).f1) = some r) ∧ Aside0 (kq ≤ kj41) ∧ Aside0 (w'.heap[gb130]? = some (.cells #[.string a0_0, .string a0_1, .int .i64 a0_2, (.slice (some ad134) l0_3.length c0_3)] 30 (0, 0))) ∧ Aside0 (w'.heap[gb135]? = some (.cells #[.int .i64 ((rd_T53 l0_3 x3_2).f0), .int .i64 ((rd_T53 l0_3 x3_2).f1), (.slice (some ad137) ((rd_T53 l0_3 x3_2).f2).length c134_2)] 53 (0, 0))) ∧ Aside0 (w'.heap[gb138]? = some (.cells #[.int .i64 ((rd_T56 ((rd_T53 l0_3 x3_2).f2) x5_4).f0), (.slice A137_1 ((rd_T56 ((rd_T53 l0_3 x3_2).f2) x5_4).f1).length c137_1)] 56 (0, 0))) ∧ Aside0 (Below w.heap.size w w'))
           case atStart => exact ⟨(0), er_, H', ⟨Nat.le_refl _⟩, ⟨bk_ BK130⟩, ⟨bk_ BK135⟩, ⟨bk_ BK138⟩, ⟨bl_⟩⟩
           case round =>
            clear H'
            try clear c10b0
            try clear c10b1
            try clear c17b0
            try clear c18b0
            try clear c24b0
            try clear c27b0
            try clear c32b0
            try clear c32b1
            try clear c40b0
            try clear c41b0
            try clear hcz11_0 hcz11_1 hcz11_2 hcz11_3
            try clear hcz12_0 hcz12_1 hcz12_2 hcz12_3
            try clear hcz13_0 hcz13_1 hcz13_2 hcz13_3
            try clear hcz14_0 hcz14_1 hcz14_2 hcz14_3
            try clear hcz15_0 hcz15_1 hcz15_2 hcz15_3
            try clear hcz20_0 hcz20_1 hcz20_2 hcz20_3
            try clear hcz23_0 hcz23_1 hcz23_2
            try clear hcz26_0 hcz26_1 hcz26_2
            try clear hcz29_0 hcz29_1 hcz29_2
            try clear hcz34_0 hcz34_1 hcz34_2
            try clear hcz36_0 hcz36_1 hcz36_2
            try clear hcz38_0 hcz38_1 hcz38_2
            try clear hcz44_0 hcz44_1 hcz44_2
            try clear hcz48_0 hcz48_1
            try clear hcz53_0 hcz53_1
            try clear hcz56_0 hcz56_1
            try clear hfz11_0 hfz11_1 hfz11_2 hfz11_3
            try clear hfz12_0 hfz12_1 hfz12_2 hfz12_3
            try clear hfz13_0 hfz13_1 hfz13_2 hfz13_3
            try clear hfz14_0 hfz14_1 hfz14_2 hfz14_3
            try clear hfz15_0 hfz15_1 hfz15_2 hfz15_3
            try clear hfz20_0 hfz20_1 hfz20_2 hfz20_3
            try clear hfz23_0 hfz23_1 hfz23_2
            try clear hfz26_0 hfz26_1 hfz26_2
            try clear hfz29_0 hfz29_1 hfz29_2
            try clear hfz34_0 hfz34_1 hfz34_2
            try clear hfz36_0 hfz36_1 hfz36_2
            try clear hfz38_0 hfz38_1 hfz38_2
            try clear hfz44_0 hfz44_1 hfz44_2
            try clear hfz48_0 hfz48_1
            try clear hfz53_0 hfz53_1
            try clear hfz56_0 hfz56_1
            try clear hx134_0
            try clear hx134_1
            try clear hx134_2
            try clear hx137_0
            try clear hx137_1
            try clear p134
            try clear p137
            try clear q134
            try clear q137
            obtain ⟨x7_6, rfl, HA, HK6, BK130, BK135, BK138, HB⟩ := hrel
            cases gk with
            | zero => exact absurd HA.out (by simp [F15.l2])
            | succ k6 =>
             have H := HA.out
             clear HA
             simp only [F15.l2] at H
             replace H := it_ H; rcases H with ⟨c58b0, H⟩ | ⟨c58b0, H⟩
             rotate_left
             ·have H' := am_ H
              clear H
              have hnb78 := NB138_130.out
              have hnc78 := NB130_138.out
              have hnb79 := NB138_135.out
              have hnc79 := NB135_138.out
              obtain ⟨hcz80_0, hcz80_1, hfz80_0, hfz80_1⟩ := cellsF2 BK138.out
              go_wp2
              go_roundg k6
              case measure => have := HJ1.out; have := HK2.out; have := HJ18.out; have := HK4.out; have := HJ41.out; have := HK6.out; omega
              case rel => exact ⟨(wrap64 (x5_4 + 1)), er_, H', ⟨au1_14⟩, ⟨bk_ BK130⟩, ⟨bk_ BK135⟩, ⟨bl_⟩⟩
             replace H := itn_ H; rcases H with ⟨c59b0, H⟩
             replace H := bi_ H; rcases H with ⟨t141, A60, H⟩
             replace H := ib_ H; rcases H with ⟨rfl, H⟩ | ⟨rfl, H⟩
             rotate_left
             ·obtain rfl := Option.some.inj H
              have hnb74 := NB138_130.out
              have hnc74 := NB130_138.out
              have hnb75 := NB138_135.out
              have hnc75 := NB135_138.out
              obtain ⟨hcz76_0, hcz76_1, hfz76_0, hfz76_1⟩ := cellsF2 BK138.out
              have p140 : 0 ≤ (x7_6 : Int) := od_
              have q140 : x7_6 < (((rd_T56 ((rd_T53 l0_3 x3_2).f2) x5_4).f1).length : Int) := od_
              obtain ⟨ad140, A140_1, c140_1, e140, hx140_0, hx140_1, hl140_1, hi140_1⟩ := at_T49 HR137_1.out x7_6 p140 q140
              cases e140
              replace hx140_0 := (HB.out.cell (World.block_lt_of_cell? _ _ hx140_0)).trans hx140_0
              replace hx140_1 := (HB.out.cell (World.block_lt_of_cell? _ _ hx140_1)).trans hx140_1
              have HR140_1 := am_ hi140_1
              have HC140_1 := am_ hl140_1
              clear hi140_1 hl140_1
              replace p140 := eq_true p140
              replace q140 := eq_true q140
              go_wp2_with (first | (go_at_call 41; (with_reducible refine (F41.calls k6 ((rd_T49 ((rd_T56 ((rd_T53 l0_3 x3_2).f2) x5_4).f1) x7_6).f0) _ _ ((rd_T49 ((rd_T56 ((rd_T53 l0_3 x3_2).f2) x5_4).f1) x7_6).f1) false _ ?s1 ?s2 A60.out).mono ?_); (case s1 => exact au1_3); (case s2 => exact HC140_1.out); rintro e w77 ⟨rfl, hb⟩; (try clear A60); replace BK130 := bb_ BK130 hb; replace BK135 := bb_ BK135 hb; replace BK138 := bb_ BK138 hb; replace HB := hs_ w hb; (try clear hb)))
              go_ret
              exact ⟨au1_0, bl_⟩
             replace H := bi_ H; rcases H with ⟨t143, A62, H⟩
             replace H := ib_ H; rcases H with ⟨rfl, H⟩ | ⟨rfl, H⟩
             ·obtain rfl := Option.some.inj H
              have hnb64 := NB138_130.out
              have hnc64 := NB130_138.out
              have hnb65 := NB138_135.out
              have hnc65 := NB135_138.out
              obtain ⟨hcz66_0, hcz66_1, hfz66_0, hfz66_1⟩ := cellsF2 BK138.out
              have p140 : 0 ≤ (x7_6 : Int) := od_
              have q140 : x7_6 < (((rd_T56 ((rd_T53 l0_3 x3_2).f2) x5_4).f1).length : Int) := od_
              obtain ⟨ad140, A140_1, c140_1, e140, hx140_0, hx140_1, hl140_1, hi140_1⟩ := at_T49 HR137_1.out x7_6 p140 q140
              cases e140
              replace hx140_0 := (HB.out.cell (World.block_lt_of_cell? _ _ hx140_0)).trans hx140_0
              replace hx140_1 := (HB.out.cell (World.block_lt_of_cell? _ _ hx140_1)).trans hx140_1
              have HR140_1 := am_ hi140_1
              have HC140_1 := am_ hl140_1
              clear hi140_1 hl140_1
              replace p140 := eq_true p140
              replace q140 := eq_true q140
              go_wp2_with (first | (go_at_call 41; (with_reducible refine (F41.calls k6 ((rd_T49 ((rd_T56 ((rd_T53 l0_3 x3_2).f2) x5_4).f1) x7_6).f0) _ _ ((rd_T49 ((rd_T56 ((rd_T53 l0_3 x3_2).f2) x5_4).f1) x7_6).f1) true _ ?s1 ?s2 A60.out).mono ?_); (case s1 => exact au1_3); (case s2 => exact HC140_1.out); rintro e w67 ⟨rfl, hb⟩; (try clear A60); replace BK130 := bb_ BK130 hb; replace BK135 := bb_ BK135 hb; replace BK138 := bb_ BK138 hb; replace HB := hs_ w hb; (try clear hb); obtain ⟨hcz68_0, hcz68_1, hfz68_0, hfz68_1⟩ := cellsF2 BK138.out; have p142 : 0 ≤ (x7_6 : Int) := od_; have q142 : x7_6 < (((rd_T56 ((rd_T53 l0_3 x3_2).f2) x5_4).f1).length : Int) := od_; obtain ⟨ad142, A142_1, c142_1, e142, hx142_0, hx142_1, hl142_1, hi142_1⟩ := at_T49 HR137_1.out x7_6 p142 q142; obtain rfl : ad140 = ad142 := (by injection e142); replace hx142_0 := (HB.out.cell (World.block_lt_of_cell? _ _ hx142_0)).trans hx142_0; replace hx142_1 := (HB.out.cell (World.block_lt_of_cell? _ _ hx142_1)).trans hx142_1; have HR142_1 := am_ hi142_1; have HC142_1 := am_ hl142_1; clear hi142_1 hl142_1; replace p142 := eq_true p142; replace q142 := eq_true q142) | (go_at_call 42; (with_reducible refine (F42.calls ((rd_T49 ((rd_T56 ((rd_T53 l0_3 x3_2).f2) x5_4).f1) x7_6).f0) true _ A62.out).mono ?_); rintro e w' ⟨rfl, ⟨nd, rfl⟩⟩; (try clear A62)))
              go_ret
              exact ⟨au1_0, bl_⟩
             have H' := am_ H
             clear H
             have hnb69 := NB138_130.out
             have hnc69 := NB130_138.out
             have hnb70 := NB138_135.out
             have hnc70 := NB135_138.out
             obtain ⟨hcz71_0, hcz71_1, hfz71_0, hfz71_1⟩ := cellsF2 BK138.out
             have p140 : 0 ≤ (x7_6 : Int) := od_
             have q140 : x7_6 < (((rd_T56 ((rd_T53 l0_3 x3_2).f2) x5_4).f1).length : Int) := od_
             obtain ⟨ad140, A140_1, c140_1, e140, hx140_0, hx140_1, hl140_1, hi140_1⟩ := at_T49 HR137_1.out x7_6 p140 q140
             cases e140
             replace hx140_0 := (HB.out.cell (World.block_lt_of_cell? _ _ hx140_0)).trans hx140_0
             replace hx140_1 := (HB.out.cell (World.block_lt_of_cell? _ _ hx140_1)).trans hx140_1
             have HR140_1 := am_ hi140_1
             have HC140_1 := am_ hl140_1
             clear hi140_1 hl140_1
             replace p140 := eq_true p140
             replace q140 := eq_true q140
             go_wp2_with (first | (go_at_call 41; (with_reducible refine (F41.calls k6 ((rd_T49 ((rd_T56 ((rd_T53 l0_3 x3_2).f2) x5_4).f1) x7_6).f0) _ _ ((rd_T49 ((rd_T56 ((rd_T53 l0_3 x3_2).f2) x5_4).f1) x7_6).f1) true _ ?s1 ?s2 A60.out).mono ?_); (case s1 => exact au1_3); (case s2 => exact HC140_1.out); rintro e w72 ⟨rfl, hb⟩; (try clear A60); replace BK130 := bb_ BK130 hb; replace BK135 := bb_ BK135 hb; replace BK138 := bb_ BK138 hb; replace HB := hs_ w hb; (try clear hb); obtain ⟨hcz73_0, hcz73_1, hfz73_0, hfz73_1⟩ := cellsF2 BK138.out; have p142 : 0 ≤ (x7_6 : Int) := od_; have q142 : x7_6 < (((rd_T56 ((rd_T53 l0_3 x3_2).f2) x5_4).f1).length : Int) := od_; obtain ⟨ad142, A142_1, c142_1, e142, hx142_0, hx142_1, hl142_1, hi142_1⟩ := at_T49 HR137_1.out x7_6 p142 q142; obtain rfl : ad140 = ad142 := (by injection e142); replace hx142_0 := (HB.out.cell (World.block_lt_of_cell? _ _ hx142_0)).trans hx142_0; replace hx142_1 := (HB.out.cell (World.block_lt_of_cell? _ _ hx142_1)).trans hx142_1; have HR142_1 := am_ hi142_1; have HC142_1 := am_ hl142_1; clear hi142_1 hl142_1; replace p142 := eq_true p142; replace q142 := eq_true q142) | (go_at_call 42; (with_reducible refine (F42.calls ((rd_T49 ((rd_T56 ((rd_T53 l0_3 x3_2).f2) x5_4).f1) x7_6).f0) false _ A62.out).mono ?_); rintro e w' ⟨rfl, ⟨nd, rfl⟩⟩; (try clear A62)))
             go_roundg k6
             case measure => have := HJ1.out; have := HK2.out; have := HJ18.out; have := HK4.out; have := HJ41.out; have := HK6.out; omega
             case rel => exact ⟨(wrap64 (x7_6 + 1)), er_, H', ⟨au1_14⟩, ⟨bk_ BK130⟩, ⟨bk_ BK135⟩, ⟨bk_ BK138⟩, ⟨bl_⟩⟩
/-! ### F25: function 25 -/
def F25.l0 : Nat → List ByteArray → Int → ByteArray → List (S91) → Option (ByteArray × (List (S91)))
  | 0, _, _, _, _ => none
  | k + 1, x1, x6, x146000, x146001 => if x6 < (x1.length : Int) then (if 0 ≤ x6 then (if x146001.length < 5864062014805 then (F25.l0 k x1 (wrap64 (x6 + 1)) x146000 (x146001 ++ [(⟨(([rdOf ByteArray.empty x1 x6] : List ByteArray))⟩ : S91)])) else (none)) else (none)) else (some (x146000, x146001))
def F25.f (k : Nat) (a0 : ByteArray) (l1 : List ByteArray) : Option (ByteArray × (List (S91))) := F25.l0 k l1 0 a0 ([] : List (S91))
theorem F25.mono_l : ∀ k, (∀ y0 y1 y2 y3, LeO (F25.l0 k y0 y1 y2 y3) (F25.l0 (k + 1) y0 y1 y2 y3))
 | 0 => fun _ _ _ _ r h => by simp [F25.l0] at h
 | k + 1 => by
  have ih0 := F25.mono_l k
  intro y0 y1 y2 y3
  unfold F25.l0
  repeat' with_reducible first | exact ih0 _ _ _ _ | exact LeO.refl _ | exact LeO.none _ | refine LeO.ite ?_ ?_ | refine LeO.bind ?_ (fun _ => ?_)
theorem F25.mono : ∀ a0 a1 k, LeO (F25.f k a0 a1) (F25.f (k + 1) a0 a1) := by
 intro a0 a1 k
 have ih0 := F25.mono_l k
 unfold F25.f
 repeat' with_reducible first | exact ih0 _ _ _ _ | exact LeO.refl _ | exact LeO.none _ | refine LeO.ite ?_ ?_ | refine LeO.bind ?_ (fun _ => ?_)
def F25.T5 : Bool × List (List Nat × List Nat) := (true, [([], []), ([0], [0]), ([], []), ([], []), ([2, 3], [2, 3]), ([4], [4]), ([5], [5]), ([6], [6]), ([7], [7]), ([1, 8], [1, 8]), ([0, 1, 2, 3, 4, 5, 6, 7, 8, 9], []), ([10, 9, 9, 0, 1, 2, 3, 4, 5, 6, 7, 8, 9], [9, 10])])
def F25.B5 : List Nat := [0, 1, 0, 0, 12, 28, 60, 124, 252, 511, 1023, 2047]
theorem F25.tab5 : rtab .any (opsOf Tryz.f25 5) = F25.T5 := by kernel_rfl
theorem F25.bits5 : waitsOk F25.T5.2 F25.B5 = true := by kernel_rfl
theorem F25.calls (k : Nat) (a0 : ByteArray) (A1 : Option Addr) (c1 : Nat) (l1 : List ByteArray) (r1 : ByteArray) (r2 : List (S91)) (w : World) (hr1 : Kd.C Kd.string w A1 l1.length l1) (hc1 : l1.length ≤ c1) (h : F25.f k a0 l1 = some (r1, r2)) :
  Calls Tryz.prog 25 #[.string a0, .slice A1 l1.length c1] w fun e w' => ∃ v1_ : Value, e = .returned (.agg #[.string r1, v1_]) ∧ Kd.S k91 91 w' w.heap.size (fun _ => True) v1_ r2 ∧ Below w.heap.size w w' := by
 have hu49 := Tryz.underlying49
 have hu91 := Tryz.underlying91
 have HR1 := am_ hr1
 have HC1 := am_ hc1
 clear hr1 hc1
 have HB := am_ (Below.refl w.heap.size w)
 have H : (F25.l0 k l1 0 a0 ([] : List (S91))) = some (r1, r2) := h
 clear h
 have H' := am_ H
 clear H
 go_enter Tryz.func25, Tryz.ntmps25
 go_wp2_with (first | ((with_reducible refine gate_dst (N := 4) rfl ?_); refine be_ 4 #[.string (⟨#[]⟩ : ByteArray), .slice none 0 0] 49 ?_; intro gb144 hg w3 hbox hb; have BK144 := am_ (hbox); have GW144 := am_ (gw_ hg bl_); have GE144 := GW144; replace HB := hs_ w hb; clear hb hbox hg) | ((with_reducible refine gate_dst (N := 5) rfl ?_); refine be_ 5 #[.string (⟨#[]⟩ : ByteArray), .slice none 0 0] 49 ?_; intro gb145 hg w4 hbox hb; have BK145 := am_ (hbox); have GW145 := am_ (gw_ hg bl_); have GE145 := GW145; replace HB := hs_ w hb; have NB144_145 := am_ (gn_ hg (blkl_ BK144)); have NB145_144 := am_ (gm_ hg (blkl_ BK144)); replace BK144 := bb_ BK144 hb; clear hb hbox hg; have hnb5 := NB145_144.out; have hnc5 := NB144_145.out; obtain ⟨hcz6_0, hcz6_1, hfz6_0, hfz6_1⟩ := cellsF2 BK145.out))
 go_loopg [6] k (fun kq v6 w' => ∃ (x6_1 : Int) (x146001_1 : List (S91)) (u146001 : Value), v6 = .int .i64 x6_1 ∧ Aside0 (F25.l0 kq l1 x6_1 a0 x146001_1 = some (r1, r2)) ∧ Aside0 (kq ≤ k) ∧ Aside0 (Kd.S k91 91 w' w.heap.size (fun _ => True) u146001 x146001_1) ∧ Aside0 (w'.heap[gb144]? = some (.cells #[.string (⟨#[]⟩ : ByteArray), (.slice none 0 0)] 49 (0, 0))) ∧ Aside0 (w'.heap[gb145]? = some (.cells #[.string a0, u146001] 49 (0, 0))) ∧ Aside0 (Below w.heap.size w w'))
 case atStart => exact ⟨(0), (([] : List (S91))), (.slice none 0 0), er_, H', ⟨Nat.le_refl _⟩, ⟨au1_12⟩, ⟨bf_ BK144⟩, ⟨bq_ BK145⟩, ⟨bl_⟩⟩
 case round =>
  clear H'
  try clear c1
  try clear hcz6_0 hcz6_1
  try clear hfz6_0 hfz6_1
  obtain ⟨x6_1, x146001_1, u146001, rfl, HA, HK1, HO_146001, BK144, BK145, HB⟩ := hrel
  cases gk with
  | zero => exact absurd HA.out (by simp [F25.l0])
  | succ k1 =>
   have H := HA.out
   clear HA
   simp only [F25.l0] at H
   replace H := it_ H; rcases H with ⟨c7b0, H⟩ | ⟨c7b0, H⟩
   rotate_left
   ·simp only [Option.some.injEq, Prod.mk.injEq] at H
    obtain ⟨rfl, rfl⟩ := H
    have hnb17 := NB145_144.out
    have hnc17 := NB144_145.out
    obtain ⟨hcz18_0, hcz18_1, hfz18_0, hfz18_1⟩ := cellsF2 BK145.out
    obtain ⟨hcz19_0, hcz19_1, hfz19_0, hfz19_1⟩ := cellsF2 BK144.out
    obtain ⟨Ao20, co20, eo20⟩ := Kd.S_slice HO_146001.out
    subst eo20
    go_wp2
    refine bodyPost_ret (results_cell_row rfl _ _ gb144 49 #[.string a0, .slice Ao20 x146001_1.length co20] (0, 0) _ rfl (bq_ BK144) Tryz.underlying49 rfl (by kernel_rfl)) rfl ?_
    exact ⟨_, au1_0, by (with_reducible repeat (first | apply Kd.S_alloc | apply Kd.S_drewN | apply Kd.S_drew)); exact Kd.S_mono (Kd.S_far (p := ⟨gb144, 1, none⟩) (Kd.S_far (p := ⟨gb144, 0, none⟩) (Kd.S_types HO_146001.out BK144.out (by decide)) (fun _ hk => hk.2) (.string a0)) (fun _ hk => hk.2) (.slice Ao20 x146001_1.length co20)) (fun _ hk => trivial), bl_⟩

   replace H := itn_ H; rcases H with ⟨c8b0, H⟩
   obtain ⟨y147, hy147⟩ : ∃ y_ : List ByteArray, y_ = (([rdOf ByteArray.empty l1 x6_1] : List ByteArray)) := ⟨_, rfl⟩
   replace H : (if x146001_1.length < 5864062014805 then (F25.l0 k1 l1 (wrap64 (x6_1 + 1)) a0 (x146001_1 ++ [(⟨y147⟩ : S91)])) else (none)) = some (r1, r2) := by first | (rw [hy147]; exact H) | exact H
   have Ny147 := am_ hy147
   clear hy147
   replace H := iln_ H; rcases H with ⟨LMc9, H⟩
   obtain ⟨y150, hy150⟩ : ∃ y_ : List (S91), y_ = (x146001_1 ++ [(⟨y147⟩ : S91)]) := ⟨_, rfl⟩
   replace H : (F25.l0 k1 l1 (wrap64 (x6_1 + 1)) a0 y150) = some (r1, r2) := by first | (rw [hy150]; exact H) | exact H
   have Ny150 := am_ hy150
   clear hy150
   have H' := am_ H
   clear H
   try go_wp2
   replace HO_146001 := am_ (Kd.S_drew HO_146001.out)
   replace BK144 := bd_ BK144
   replace BK145 := bd_ BK145
   replace HB := am_ (below_drew1 HB.out)
   have p146 : 0 ≤ (x6_1 : Int) := od_
   have q146 : x6_1 < (l1.length : Int) := od_
   obtain ⟨ad146, e146, hx146_0⟩ := Kd.at_string HR1.out x6_1 p146 q146
   have hw146_0 := hx146_0
   cases e146
   replace hx146_0 := (HB.out.cell (World.block_lt_of_cell? _ _ hx146_0)).trans hx146_0
   replace p146 := eq_true p146
   replace q146 := eq_true q146
   refine start_ (n := 12) (S := fun w' => w'.cell? ⟨gb145, 0, none⟩ = some (.string a0) ∧ w'.cell? ⟨gb145, 1, none⟩ = some (u146001) ∧ w'.cell? (ad146.add (x6_1).toNat) = some (.string (rdOf ByteArray.empty l1 x6_1))) (ds := [11]) (bs 12 0) (by kernel_rfl) rfl rfl ⟨(blk_cell BK145.out 0).trans rfl, (blk_cell BK145.out 1).trans rfl, ((HB.out.cell (World.block_lt_of_cell? _ _ hw146_0)).trans hw146_0)⟩ (fun hHeld => ?_); refine with_tabW F25.tab5 F25.bits5 (fun HT_ HW_ => ?_)
   generalize wr.drew = w10 at HO_146001 BK144 BK145 HB hx146_0 hHeld ⊢
   refine pu_ 0 15 (bs 12 1) HT_ ?_ rfl rfl
   refine pu_ 2 17 (bs 12 5) HT_ ?_ rfl rfl
   refine pu_ 3 18 (bs 12 13) HT_ ?_ rfl rfl
   refine pu_ 4 19 (bs 12 29) HT_ ?_ rfl rfl
   refine tk_ 1 16 (bs 12 31) HT_ HW_ hHeld (by rintro w' ⟨s0, s1, s2⟩; go_simp; with_reducible rfl) ?_ rfl rfl
   refine tk_ 5 20 (bs 12 63) HT_ HW_ hHeld (by rintro w' ⟨s0, s1, s2⟩; go_simp; with_reducible rfl) ?_ rfl rfl
   refine one_ (i := 6) (N := some 21) (bs 12 127) rfl rfl (one_of HT_.out (by kernel_rfl)) (by decide) (fun K hK => ?_)
   refine Kd.R_lit_step Kd.string _ 9 ?hg (N := 21) ?hd (xs := ([rdOf ByteArray.empty l1 x6_1] : List ByteArray)) (inner := [.string (rdOf ByteArray.empty l1 x6_1)]) (ok := fun _ => True) (okp := fun _ => True) ?hr ?hp (fun _ hk => hk) trivial (Below.refl _ _) (Nat.le_refl _) (by simp) ?_; (case hd => rfl); (case hg => rfl); (case hr => exact hr_); (case hp => exact (Reps.one (show Kd.M Kd.string _ _ _ (rdOf ByteArray.empty l1 x6_1) [.string (rdOf ByteArray.empty l1 x6_1)] from rfl) (Reps.none _ _)))
   intro v148 w11 ho12 hb hg_ hnew_
   clear hg_ hnew_
   (first | rw [← Ny147.out] at ho12 | (simp only [Int.reduceToNat] at ho12; rw [← Ny147.out] at ho12))
   replace HO_146001 := am_ (Kd.S_elder' (by (with_reducible repeat (first | apply Kd.S_alloc | apply Kd.S_drewN | apply Kd.S_drew)); exact HO_146001.out) (Kd.R_base ho12) hb)
   have HO149 := am_ (Kd.R_lower ho12 (below_size bl_))
   replace BK144 := bb_ BK144 hb
   replace BK145 := bb_ BK145 hb
   replace HB := hs_ w hb
   clear hb ho12
   obtain ⟨Ao13, co13, eo13⟩ := Kd.R_slice HO149.out
   (first | subst eo13 | (injection eo13 with f1_ f2_ f3_; have f4_ := f1_.symm; have f5_ := f3_.symm; clear f1_ f2_ f3_; subst f4_; subst f5_))
   refine hK.out _ _ ⟨(blk_cell BK145.out 0).trans rfl, (blk_cell BK145.out 1).trans rfl, ((HB.out.cell (World.block_lt_of_cell? _ _ hw146_0)).trans hw146_0)⟩ (fun hHeld => ?_)
   clear hK K
   refine no_ 21 ?_
   refine pu_ 7 22 (bs 12 255) HT_ ?_ rfl rfl
   refine one_ (i := 8) (N := some 23) (bs 12 511) rfl rfl (one_of HT_.out (by kernel_rfl)) (by decide) (fun K hK => ?_)
   refine value_ (w1 := ?_) (v := ?_) (by rfl) rfl ?_ ?_
   rotate_left 2
   ·go_simp
    constructor
    ·rfl
    ·rfl
   refine hK.out _ _ ⟨(blk_cell (blk_alloc BK145.out _) 0).trans rfl, (blk_cell (blk_alloc BK145.out _) 1).trans rfl, (World.cell?_alloc_lt _ _ _ (World.block_lt_of_cell? _ _ (((HB.out.cell (World.block_lt_of_cell? _ _ hw146_0)).trans hw146_0)))).trans (((HB.out.cell (World.block_lt_of_cell? _ _ hw146_0)).trans hw146_0))⟩ (fun hHeld => ?_)
   clear hK K
   refine no_ 23 ?_
   refine one_ (i := 9) (N := some 24) (bs 12 1023) rfl rfl (one_of HT_.out (by kernel_rfl)) (by decide) (fun K hK => ?_)
   refine Kd.S_append_step k91 (w0 := w) w.heap.size (by rfl) (.tmp 16) (.tmp 23) 47 91 (.agg #[(.slice none 0 0)]) 24 rfl Tryz.underlying47 info91 rfl (by decide) (by omega) u146001 x146001_1 (⟨y147⟩ : S91) [.slice Ao13 y147.length co13] (fun _ => True) (fun k_ => some k_ = (.slice Ao13 y147.length co13 : Value).ownBlock) rfl rfl ?aP (fun k_ hk_ => ((Kd.R_mono (ok' := fun k_ => ((fun _ => True)) k_ ∧ some k_ ≠ (u146001 : Value).ownBlock) (Kd.R_apart' (HO149.out) (Kd.S_typed HO_146001.out) (by decide)) (fun k_ hk => ⟨trivial, hk.2⟩))).1 k_ hk_.symm) ?aF ?aO ?aB ?aS ?aL ?_
   (case aP => exact k91_mkM _ _ _ (⟨y147⟩ : S91) (Kd.R_mono (Kd.R_tight rfl (Kd.R_mono (ok' := fun k_ => ((fun _ => True)) k_ ∧ some k_ ≠ (u146001 : Value).ownBlock) (Kd.R_apart' (HO149.out) (Kd.S_typed HO_146001.out) (by decide)) (fun k_ hk => ⟨trivial, hk.2⟩))) (fun _ h_ => h_)))
   (case aB => exact bl_)
   (case aF => exact (fun _ _ => trivial))
   (case aO => exact (by (with_reducible repeat (first | apply Kd.S_alloc | apply Kd.S_drewN | apply Kd.S_drew)); exact Kd.S_mono HO_146001.out (fun k_ hk => ⟨trivial, fun e_ => hk.2 e_⟩)))
   (case aS => exact (below_size bl_))
   (case aL => have := LMc9.out; omega)
   intro v151 w14 ho hb hg hat
   rw [← Ny150.out] at ho
   have n0_ := am_ (bg_ BK144 hg (Kd.S_ne HO_146001.out BK144.out (by decide)))
   have n1_ := am_ (bg_ BK145 hg (Kd.S_ne HO_146001.out BK145.out (by decide)))
   have n2_ := am_ (hb)
   have n3_ := am_ (ho)
   clear BK144
   clear BK145
   clear HB
   clear HO_146001
   clear HO149
   have BK144 := n0_
   have BK145 := n1_
   have HB := n2_
   have HO152 := n3_
   clear n0_ n1_ n2_ n3_
   clear ho hb hg hat
   obtain ⟨Ao15, co15, eo15⟩ := Kd.S_slice HO152.out
   (first | subst eo15 | (injection eo15 with f1_ f2_ f3_; have f4_ := f1_.symm; have f5_ := f3_.symm; clear f1_ f2_ f3_; subst f4_; subst f5_))
   refine hK.out _ _ ⟨(blk_cell BK145.out 0).trans rfl, (blk_cell BK145.out 1).trans rfl, ((HB.out.cell (World.block_lt_of_cell? _ _ hw146_0)).trans hw146_0)⟩ (fun hHeld => ?_)
   clear hK K
   refine no_ 24 ?_
   refine pu_ 10 25 (bs 12 2047) HT_ ?_ rfl rfl
   refine last_ (i := 11) (N := none) (bs 12 4095) rfl rfl (one_of HT_.out (by kernel_rfl)) (by decide) (fun K hK => ?_)
   have hs16 : w14.cell? ⟨gb145, 1, none⟩ = some (u146001) := (blk_cell BK145.out 1).trans rfl
   have hfs16 := blk_frozen BK145.out 1
   have hns16_0 := NB144_145.out
   have hms16_0 := NB145_144.out
   refine skip_ (w1 := ?_) (by rfl) rfl ?_ ?_
   rotate_left
   ·go_simp
    rfl
   refine hK.out _ _ ?_
   clear hK K
   refine done_ (done_of HT_.out (by kernel_rfl)) ?_
   try go_wp2
   go_roundg k1
   case measure => have := HK1.out; omega
   case rel => exact ⟨(wrap64 (x6_1 + 1)), (y150), (.slice Ao15 y150.length co15), er_, H', ⟨by have := HK1.out; omega⟩, ⟨by (with_reducible repeat (first | apply Kd.S_alloc | apply Kd.S_drewN | apply Kd.S_drew)); exact Kd.S_mono (Kd.S_far (p := ⟨gb145, 1, none⟩) (Kd.S_types HO152.out BK145.out (by decide)) (fun _ hk => hk.2) (.slice Ao15 y150.length co15)) (fun _ hk => trivial)⟩, ⟨bf_ BK144⟩, ⟨bq_ BK145⟩, ⟨bl_⟩⟩
/-! ### F26: function 26 -/
def F26.l0 : Nat → Int → Bool → ByteArray → Option (ByteArray)
  | 0, _, _, _ => none
  | k + 1, x0, x3, x4 => if x0 = 0 then (if x3 = true then (if 1 + x4.size ≤ 9223372036854775807 then (some ((⟨#[45]⟩ : ByteArray) ++ x4)) else (none)) else (some x4)) else (if (Int.tmod x0 10) < 0 then ((some (([(wrap64 (48 + (wrap64 (-(Int.tmod x0 10))))) % 256] : List Int) : List Int)).bind fun y153 => (if (strOfNums y153).size + x4.size ≤ 9223372036854775807 then (F26.l0 k (wrap64 (Int.tdiv x0 10)) x3 ((strOfNums y153) ++ x4)) else (none))) else ((some (([(wrap64 (48 + (Int.tmod x0 10))) % 256] : List Int) : List Int)).bind fun y156 => (if (strOfNums y156).size + x4.size ≤ 9223372036854775807 then (F26.l0 k (wrap64 (Int.tdiv x0 10)) x3 ((strOfNums y156) ++ x4)) else (none))))
def F26.f (k : Nat) (a0 : Int) : Option (ByteArray) := if a0 = 0 then (some (⟨#[48]⟩ : ByteArray)) else (F26.l0 k a0 (decide (a0 < 0)) (⟨#[]⟩ : ByteArray))
theorem F26.mono_l : ∀ k, (∀ y0 y1 y2, LeO (F26.l0 k y0 y1 y2) (F26.l0 (k + 1) y0 y1 y2))
 | 0 => fun _ _ _ r h => by simp [F26.l0] at h
 | k + 1 => by
  have ih0 := F26.mono_l k
  intro y0 y1 y2
  unfold F26.l0
  repeat' with_reducible first | exact ih0 _ _ _ | exact LeO.refl _ | exact LeO.none _ | refine LeO.ite ?_ ?_ | refine LeO.bind ?_ (fun _ => ?_)
theorem F26.mono : ∀ a0 k, LeO (F26.f k a0) (F26.f (k + 1) a0) := by
 intro a0 k
 have ih0 := F26.mono_l k
 unfold F26.f
 repeat' with_reducible first | exact ih0 _ _ _ | exact LeO.refl _ | exact LeO.none _ | refine LeO.ite ?_ ?_ | refine LeO.bind ?_ (fun _ => ?_)
theorem F26.calls (k : Nat) (a0 : Int) (r : ByteArray) (w : World) (h : F26.f k a0 = some r) :
  Calls Tryz.prog 26 #[.int .i64 a0] w fun e w' => e = .returned (.string r) ∧ Below w.heap.size w w' := by
 have HB := am_ (Below.refl w.heap.size w)
 have H : (if a0 = 0 then (some (⟨#[48]⟩ : ByteArray)) else (F26.l0 k a0 (decide (a0 < 0)) (⟨#[]⟩ : ByteArray))) = some r := h
 clear h
 by_cases c2 : a0 = 0
 ·rw [if_pos c2] at H
  have c2b0 : (a0 == 0) = true := beq_iff_eq.mpr c2
  have c2b1 : (a0 != 0) = false := bne_eq_false_iff_eq.mpr c2
  clear c2
  obtain rfl := Option.some.inj H
  go_enter Tryz.func26, Tryz.ntmps26
  go_wp2
  all_goals try (exfalso; first | (have h_ := of_decide_eq_true c4b0; omega) | (have h_ := of_decide_eq_false c4b0; omega))
  go_ret
  exact ⟨au1_0, bl_⟩
 rw [if_neg c2] at H
 have c2b0 : (a0 == 0) = false := beq_eq_false_iff_ne.mpr c2
 have c2b1 : (a0 != 0) = true := bne_iff_ne.mpr c2
 have H' := am_ H
 clear H
 go_enter Tryz.func26, Tryz.ntmps26
 go_wp2
 all_goals try (exfalso; first | (have h_ := of_decide_eq_true c4b0; omega) | (have h_ := of_decide_eq_false c4b0; omega))
 go_loopg [0, 4] k (fun kq v0 v4 w' => ∃ (x0_1 : Int) (x4_1 : ByteArray), v0 = .int .i64 x0_1 ∧ v4 = .string x4_1 ∧ Aside0 (F26.l0 kq x0_1 (decide (a0 < 0)) x4_1 = some r) ∧ Aside0 (kq ≤ k) ∧ Aside0 (Below w.heap.size w w'))
 case atStart => exact ⟨(a0), ((⟨#[]⟩ : ByteArray)), er_, er_, H', ⟨Nat.le_refl _⟩, ⟨bl_⟩⟩
 case round =>
  clear H'
  try clear c2
  try clear c2b0
  try clear c2b1
  obtain ⟨x0_1, x4_1, rfl, rfl, HA, HK1, HB⟩ := hrel
  cases gk with
  | zero => exact absurd HA.out (by simp [F26.l0])
  | succ k1 =>
   have H := HA.out
   clear HA
   simp only [F26.l0] at H
   by_cases c3 : x0_1 = 0
   ·rw [if_pos c3] at H
    have c3b0 : (x0_1 == 0) = true := beq_iff_eq.mpr c3
    have c3b1 : (x0_1 != 0) = false := bne_eq_false_iff_eq.mpr c3
    clear c3
    by_cases c4 : (decide (a0 < 0)) = true
    rotate_left
    ·rw [if_neg c4] at H
     have c4b0 : (decide (a0 < 0)) = false := by simpa using c4
     clear c4
     obtain rfl := Option.some.inj H
     go_wp2
     all_goals try (exfalso; first | (have h_ := of_decide_eq_true c4b0; omega) | (have h_ := of_decide_eq_false c4b0; omega))
     go_ret
     exact ⟨au1_0, bl_⟩
    rw [if_pos c4] at H
    have c4b0 : (decide (a0 < 0)) = true := c4
    clear c4
    by_cases c5 : 1 + x4_1.size ≤ 9223372036854775807
    rotate_left
    ·rw [if_neg c5] at H
     exact absurd H (by simp)
    rw [if_pos c5] at H
    have c5b0 := eq_true c5
    have c5b1 : decide (1 + x4_1.size ≤ 9223372036854775807) = true := decide_eq_true c5
    try have c5b2 : (9223372036854775807 < 1 + x4_1.size) = False := eq_false (Nat.not_lt.2 c5)
    obtain rfl := Option.some.inj H
    go_wp2
    all_goals try (exfalso; first | (have h_ := of_decide_eq_true c4b0; omega) | (have h_ := of_decide_eq_false c4b0; omega))
    go_ret
    exact ⟨au1_0, bl_⟩
   rw [if_neg c3] at H
   have c3b0 : (x0_1 == 0) = false := beq_eq_false_iff_ne.mpr c3
   have c3b1 : (x0_1 != 0) = true := bne_iff_ne.mpr c3
   replace H := it_ H; rcases H with ⟨c6b0, H⟩ | ⟨c6b0, H⟩
   ·obtain ⟨y153, hy153⟩ : ∃ y_ : List Int, y_ = (([(wrap64 (48 + (wrap64 (-(Int.tmod x0_1 10))))) % 256] : List Int)) := ⟨_, rfl⟩
    replace H : (if (strOfNums y153).size + x4_1.size ≤ 9223372036854775807 then (F26.l0 k1 (wrap64 (Int.tdiv x0_1 10)) (decide (a0 < 0)) ((strOfNums y153) ++ x4_1)) else (none)) = some r := by first | (rw [hy153]; exact H) | exact H
    have Ny153 := am_ hy153
    clear hy153
    by_cases c7 : (strOfNums y153).size + x4_1.size ≤ 9223372036854775807
    rotate_left
    ·rw [if_neg c7] at H
     exact absurd H (by simp)
    rw [if_pos c7] at H
    have c7b0 := eq_true c7
    have c7b1 : decide ((strOfNums y153).size + x4_1.size ≤ 9223372036854775807) = true := decide_eq_true c7
    try have c7b2 : (9223372036854775807 < (strOfNums y153).size + x4_1.size) = False := eq_false (Nat.not_lt.2 c7)
    have H' := am_ H
    clear H
    go_wp2_with (first | ((with_reducible refine gate_dst (N := 21) rfl ?_); refine Kd.R_lit (Kd.int .u8) _ 5 ?hg (N := 21) ?hd (xs := ([(wrap64 (48 + (wrap64 (-(Int.tmod x0_1 10))))) % 256] : List Int)) (inner := [.int .u8 ((wrap64 (48 + (wrap64 (-(Int.tmod x0_1 10))))) % 256)]) (ok := fun _ => True) (okp := fun _ => True) ?hr ?hp (fun _ hk => hk) trivial (Below.refl _ _) (Nat.le_refl _) (by simp) ?_; (case hd => rfl); (case hg => rfl); (case hr => exact hr_); (case hp => exact (Reps.one (show Kd.M (Kd.int .u8) _ _ _ ((wrap64 (48 + (wrap64 (-(Int.tmod x0_1 10))))) % 256) [.int .u8 ((wrap64 (48 + (wrap64 (-(Int.tmod x0_1 10))))) % 256)] from rfl) (Reps.none _ _))); intro v154 w8 ho9 hb hg_ hnew_; clear hg_ hnew_; (first | rw [← Ny153.out] at ho9 | (simp only [Int.reduceToNat] at ho9; rw [← Ny153.out] at ho9)); have HO155 := am_ (Kd.R_lower ho9 (below_size bl_)); replace HB := hs_ w hb; clear hb ho9; have hcv10 := own_string (P := Tryz.prog) Tryz.underlying37 Tryz.underlying5 Tryz.underlying9 (Kd.own_of_R HO155.out)))
    go_roundg k1
    case measure => have := HK1.out; omega
    case rel => exact ⟨(wrap64 (Int.tdiv x0_1 10)), ((strOfNums y153) ++ x4_1), er_, er_, H', ⟨by have := HK1.out; omega⟩, ⟨bl_⟩⟩
   obtain ⟨y156, hy156⟩ : ∃ y_ : List Int, y_ = (([(wrap64 (48 + (Int.tmod x0_1 10))) % 256] : List Int)) := ⟨_, rfl⟩
   replace H : (if (strOfNums y156).size + x4_1.size ≤ 9223372036854775807 then (F26.l0 k1 (wrap64 (Int.tdiv x0_1 10)) (decide (a0 < 0)) ((strOfNums y156) ++ x4_1)) else (none)) = some r := by first | (rw [hy156]; exact H) | exact H
   have Ny156 := am_ hy156
   clear hy156
   by_cases c11 : (strOfNums y156).size + x4_1.size ≤ 9223372036854775807
   rotate_left
   ·rw [if_neg c11] at H
    exact absurd H (by simp)

   rw [if_pos c11] at H
   have c11b0 := eq_true c11
   have c11b1 : decide ((strOfNums y156).size + x4_1.size ≤ 9223372036854775807) = true := decide_eq_true c11
   try have c11b2 : (9223372036854775807 < (strOfNums y156).size + x4_1.size) = False := eq_false (Nat.not_lt.2 c11)
   have H' := am_ H
   clear H
   go_wp2_with (first | ((with_reducible refine gate_dst (N := 21) rfl ?_); refine Kd.R_lit (Kd.int .u8) _ 5 ?hg (N := 21) ?hd (xs := ([(wrap64 (48 + (Int.tmod x0_1 10))) % 256] : List Int)) (inner := [.int .u8 ((wrap64 (48 + (Int.tmod x0_1 10))) % 256)]) (ok := fun _ => True) (okp := fun _ => True) ?hr ?hp (fun _ hk => hk) trivial (Below.refl _ _) (Nat.le_refl _) (by simp) ?_; (case hd => rfl); (case hg => rfl); (case hr => exact hr_); (case hp => exact (Reps.one (show Kd.M (Kd.int .u8) _ _ _ ((wrap64 (48 + (Int.tmod x0_1 10))) % 256) [.int .u8 ((wrap64 (48 + (Int.tmod x0_1 10))) % 256)] from rfl) (Reps.none _ _))); intro v157 w12 ho13 hb hg_ hnew_; clear hg_ hnew_; (first | rw [← Ny156.out] at ho13 | (simp only [Int.reduceToNat] at ho13; rw [← Ny156.out] at ho13)); have HO158 := am_ (Kd.R_lower ho13 (below_size bl_)); replace HB := hs_ w hb; clear hb ho13; have hcv14 := own_string (P := Tryz.prog) Tryz.underlying37 Tryz.underlying5 Tryz.underlying9 (Kd.own_of_R HO158.out)))
   go_roundg k1
   case measure => have := HK1.out; omega
   case rel => exact ⟨(wrap64 (Int.tdiv x0_1 10)), ((strOfNums y156) ++ x4_1), er_, er_, H', ⟨by have := HK1.out; omega⟩, ⟨bl_⟩⟩
/-! ### F23: function 23 -/
def F23.f (k : Nat) (a0_0 : ByteArray) (a0_1 : ByteArray) (a0_2 : Int) (l0_3 : List (S53)) : Option (ByteArray × (List (S91))) := (F26.f k a0_2).bind fun t161 => ((F25.f k (⟨#[73, 88, 72]⟩ : ByteArray) (([a0_0, a0_1, t161] : List ByteArray))).bind fun bt165 => (some (bt165.1, bt165.2)))
theorem F23.mono : ∀ a0 a1 a2 a3 k, LeO (F23.f k a0 a1 a2 a3) (F23.f (k + 1) a0 a1 a2 a3) := by
 intro a0 a1 a2 a3 k
 unfold F23.f
 repeat' with_reducible first | exact F26.mono _ _ | exact F25.mono _ _ _ | exact LeO.refl _ | exact LeO.none _ | refine LeO.ite ?_ ?_ | refine LeO.bind ?_ (fun _ => ?_)
def F23.T1 : Bool × List (List Nat × List Nat) := (true, [([], []), ([0], [0]), ([], []), ([2], [2]), ([], []), ([4], [4]), ([5], [5]), ([1, 3, 6], [1, 3, 6]), ([7, 6], [7]), ([8, 8, 0, 1, 2, 3, 4, 5, 6, 7, 8], [8])])
def F23.B1 : List Nat := [0, 1, 0, 4, 0, 16, 48, 127, 255, 511]
theorem F23.tab1 : rtab .any (opsOf Tryz.f23 1) = F23.T1 := by kernel_rfl
theorem F23.bits1 : waitsOk F23.T1.2 F23.B1 = true := by kernel_rfl
theorem F23.calls (k : Nat) (a0_0 : ByteArray) (a0_1 : ByteArray) (a0_2 : Int) (A0_3 : Option Addr) (c0_3 : Nat) (l0_3 : List (S53)) (r1 : ByteArray) (r2 : List (S91)) (w : World) (hr0_3 : Kd.C k53 w A0_3 l0_3.length l0_3) (hc0_3 : l0_3.length ≤ c0_3) (h : F23.f k a0_0 a0_1 a0_2 l0_3 = some (r1, r2)) :
  Calls Tryz.prog 23 #[.agg #[.string a0_0, .string a0_1, .int .i64 a0_2, .slice A0_3 l0_3.length c0_3]] w fun e w' => ∃ v1_ : Value, e = .returned (.agg #[.string r1, v1_]) ∧ Kd.S k91 91 w' w.heap.size (fun _ => True) v1_ r2 ∧ Below w.heap.size w w' := by
 have hu30 := Tryz.underlying30
 have hu49 := Tryz.underlying49
 have HR0_3 := am_ hr0_3
 have HC0_3 := am_ hc0_3
 clear hr0_3 hc0_3
 have HB := am_ (Below.refl w.heap.size w)
 have H : ((F26.f k a0_2).bind fun t161 => ((F25.f k (⟨#[73, 88, 72]⟩ : ByteArray) (([a0_0, a0_1, t161] : List ByteArray))).bind fun bt165 => (some (bt165.1, bt165.2)))) = some (r1, r2) := h
 clear h
 replace H := bi_ H; rcases H with ⟨t161, A2, H⟩
 obtain ⟨y162, hy162⟩ : ∃ y_ : List ByteArray, y_ = (([a0_0, a0_1, t161] : List ByteArray)) := ⟨_, rfl⟩
 replace H : ((F25.f k (⟨#[73, 88, 72]⟩ : ByteArray) y162).bind fun bt165 => (some (bt165.1, bt165.2))) = some (r1, r2) := by first | (rw [hy162]; exact H) | exact H
 have Ny162 := am_ hy162
 clear hy162
 replace H := bi_ H; rcases H with ⟨⟨t165, t166⟩, A3, H⟩
 simp only [Option.some.injEq, Prod.mk.injEq] at H
 obtain ⟨rfl, rfl⟩ := H
 go_enter Tryz.func23, Tryz.ntmps23
 try go_wp2_with (first | ((with_reducible refine gate_dst (N := 1) rfl ?_); refine be_ 1 #[.string a0_0, .string a0_1, .int .i64 a0_2, .slice A0_3 l0_3.length c0_3] 30 ?_; intro gb159 hg w4 hbox hb; have BK159 := am_ (hbox); have GW159 := am_ (gw_ hg bl_); have GE159 := GW159; replace HB := hs_ w hb; clear hb hbox hg) | ((with_reducible refine gate_dst (N := 2) rfl ?_); refine be_ 2 #[.string (⟨#[]⟩ : ByteArray), .slice none 0 0] 49 ?_; intro gb160 hg w5 hbox hb; have BK160 := am_ (hbox); have GW160 := am_ (gw_ hg bl_); have GE160 := GW160; replace HB := hs_ w hb; have NB159_160 := am_ (gn_ hg (blkl_ BK159)); have NB160_159 := am_ (gm_ hg (blkl_ BK159)); replace BK159 := bb_ BK159 hb; clear hb hbox hg))
 replace BK159 := bd_ BK159
 replace BK160 := bd_ BK160
 replace HB := am_ (below_drew1 HB.out)
 refine start_ (n := 10) (S := fun w' => w'.cell? ⟨gb159, 0, none⟩ = some (.string a0_0) ∧ w'.cell? ⟨gb159, 1, none⟩ = some (.string a0_1) ∧ w'.cell? ⟨gb159, 2, none⟩ = some (.int .i64 a0_2) ∧ w'.cell? ⟨gb159, 3, none⟩ = some (.slice A0_3 l0_3.length c0_3)) (ds := []) (bs 10 0) (by kernel_rfl) rfl rfl ⟨(blk_cell BK159.out 0).trans rfl, (blk_cell BK159.out 1).trans rfl, (blk_cell BK159.out 2).trans rfl, (blk_cell BK159.out 3).trans rfl⟩ (fun hHeld => ?_); refine with_tabW F23.tab1 F23.bits1 (fun HT_ HW_ => ?_)
 generalize w5.drew = w6 at BK159 BK160 HB hHeld ⊢
 refine pu_ 0 3 (bs 10 1) HT_ ?_ rfl rfl
 refine pu_ 2 5 (bs 10 5) HT_ ?_ rfl rfl
 refine pu_ 4 7 (bs 10 21) HT_ ?_ rfl rfl
 refine tk_ 1 4 (bs 10 23) HT_ HW_ hHeld au1_17 ?_ rfl rfl
 refine tk_ 3 6 (bs 10 31) HT_ HW_ hHeld au1_17 ?_ rfl rfl
 refine tk_ 5 8 (bs 10 63) HT_ HW_ hHeld au1_17 ?_ rfl rfl
 refine one_ (i := 6) (N := some 9) (bs 10 127) rfl rfl (one_of HT_.out (by kernel_rfl)) (by decide) (fun K hK => ?_)
 refine gr_ Tryz.func26 #[.int .i64 a0_2] (by rfl) ?_ rfl rfl rfl
 with_reducible refine (F26.calls k a0_2 t161 _ A2.out).mono ?_
 rintro e w7 ⟨rfl, hb⟩
 refine ⟨_, rfl, ?_⟩
 replace BK159 := bb_ BK159 hb
 replace BK160 := bb_ BK160 hb
 replace HB := hs_ w hb
 (try clear hb)
 (try clear hb2)
 (try clear hk)
 (try clear hi)
 refine hK.out _ _ ⟨(blk_cell BK159.out 0).trans rfl, (blk_cell BK159.out 1).trans rfl, (blk_cell BK159.out 2).trans rfl, (blk_cell BK159.out 3).trans rfl⟩ (fun hHeld => ?_)
 clear hK K
 refine no_ 9 ?_
 refine one_ (i := 7) (N := some 10) (bs 10 255) rfl rfl (one_of HT_.out (by kernel_rfl)) (by decide) (fun K hK => ?_)
 refine Kd.R_lit_step Kd.string _ 9 ?hg (N := 10) ?hd (xs := ([a0_0, a0_1, t161] : List ByteArray)) (inner := [.string a0_0, .string a0_1, .string t161]) (ok := fun _ => True) (okp := fun _ => True) ?hr ?hp (fun _ hk => hk) trivial (Below.refl _ _) (Nat.le_refl _) (by simp) ?_; (case hd => rfl); (case hg => rfl); (case hr => exact hr_); (case hp => exact (Reps.one (show Kd.M Kd.string _ _ _ a0_0 [.string a0_0] from rfl) (Reps.one (show Kd.M Kd.string _ _ _ a0_1 [.string a0_1] from rfl) (Reps.one (show Kd.M Kd.string _ _ _ t161 [.string t161] from rfl) (Reps.none _ _)))))
 intro v163 w8 ho9 hb hg_ hnew_
 clear hg_ hnew_
 (first | rw [← Ny162.out] at ho9 | (simp only [Int.reduceToNat] at ho9; rw [← Ny162.out] at ho9))
 have HO164 := am_ (Kd.R_lower ho9 (below_size bl_))
 replace BK159 := bb_ BK159 hb
 replace BK160 := bb_ BK160 hb
 replace HB := hs_ w hb
 clear hb ho9
 obtain ⟨Ao10, co10, eo10⟩ := Kd.R_slice HO164.out
 (first | subst eo10 | (injection eo10 with f1_ f2_ f3_; have f4_ := f1_.symm; have f5_ := f3_.symm; clear f1_ f2_ f3_; subst f4_; subst f5_))
 refine hK.out _ _ ⟨(blk_cell BK159.out 0).trans rfl, (blk_cell BK159.out 1).trans rfl, (blk_cell BK159.out 2).trans rfl, (blk_cell BK159.out 3).trans rfl⟩ (fun hHeld => ?_)
 clear hK K
 refine no_ 10 ?_
 refine one_ (i := 8) (N := some 11) (bs 10 511) rfl rfl (one_of HT_.out (by kernel_rfl)) (by decide) (fun K hK => ?_)
 refine gr_ Tryz.func25 #[.string (⟨#[73, 88, 72]⟩ : ByteArray), .slice Ao10 y162.length co10] (by rfl) ?_ rfl rfl rfl
 with_reducible refine (F25.calls k (⟨#[73, 88, 72]⟩ : ByteArray) _ _ y162 t165 t166 _ ?s1 ?s2 A3.out).mono ?_
 (case s1 => repeat (first | exact (Kd.R_reads' HO164.out).2.2 | (with_reducible refine Kd.C_alloc ?_ _) | (with_reducible refine Kd.C_drewN ?_ _) | (with_reducible refine Kd.C_drew ?_)))
 (case s2 => exact (Kd.R_reads' HO164.out).2.1)
 rintro e w11 ⟨v167, rfl, ho0, hb⟩
 refine ⟨_, rfl, ?_⟩
 have HO168 := am_ (Kd.S_lower (Kd.S_new' ho0 (Kd.R_lt (rk_ HO164))) (below_size bl_))
 replace HO164 := am_ (Kd.R_below (rk_ HO164) hb)
 replace BK159 := bb_ BK159 hb
 replace BK160 := bb_ BK160 hb
 replace HB := hs_ w hb
 (try clear hb)
 (try clear hb2)
 (try clear hk)
 (try clear hi)
 (try clear ho0)
 obtain ⟨Ao13, co13, eo13⟩ := Kd.S_slice HO168.out
 (first | subst eo13 | (injection eo13 with f1_ f2_ f3_; have f4_ := f1_.symm; have f5_ := f3_.symm; clear f1_ f2_ f3_; subst f4_; subst f5_))
 refine hK.out _ _ ⟨(blk_cell BK159.out 0).trans rfl, (blk_cell BK159.out 1).trans rfl, (blk_cell BK159.out 2).trans rfl, (blk_cell BK159.out 3).trans rfl⟩ (fun hHeld => ?_)
 clear hK K
 refine no_ 11 ?_
 refine one_ (i := 9) (N := none) (bs 10 1023) rfl rfl (one_of HT_.out (by kernel_rfl)) (by decide) (fun K hK => ?_)
 have hs12 : w11.cell? ⟨gb160, 0, none⟩ = some (.string (⟨#[]⟩ : ByteArray)) := (blk_cell BK160.out 0).trans rfl
 have hfs12 := blk_frozen BK160.out 0
 have hns12_0 := NB159_160.out
 have hms12_0 := NB160_159.out
 have hs14 : w11.cell? ⟨gb160, 1, none⟩ = some (.slice none 0 0) := (blk_cell BK160.out 1).trans rfl
 have hfs14 := blk_frozen BK160.out 1
 have hns14_0 := NB159_160.out
 have hms14_0 := NB160_159.out
 refine skip_ (w1 := ?_) (by rfl) rfl ?_ ?_
 rotate_left
 ·go_simp
  rfl
 refine hK.out _ _ ⟨((cell_far (p := ⟨gb160, _, none⟩) NB159_160.out _).trans (((cell_far (p := ⟨gb160, _, none⟩) NB159_160.out _).trans (hHeld.1)))), ((cell_far (p := ⟨gb160, _, none⟩) NB159_160.out _).trans (((cell_far (p := ⟨gb160, _, none⟩) NB159_160.out _).trans (hHeld.2.1)))), ((cell_far (p := ⟨gb160, _, none⟩) NB159_160.out _).trans (((cell_far (p := ⟨gb160, _, none⟩) NB159_160.out _).trans (hHeld.2.2.1)))), ((cell_far (p := ⟨gb160, _, none⟩) NB159_160.out _).trans (((cell_far (p := ⟨gb160, _, none⟩) NB159_160.out _).trans (hHeld.2.2.2))))⟩ (fun hHeld => ?_)
 clear hK K
 refine done_ (done_of HT_.out (by kernel_rfl)) ?_
 try go_wp2
 refine bodyPost_ret (results_cell_row rfl _ _ gb160 49 #[.string t165, .slice Ao13 t166.length co13] (0, 0) _ rfl (bq_ BK160) Tryz.underlying49 rfl (by kernel_rfl)) rfl ?_
 exact ⟨_, au1_0, by (with_reducible repeat (first | apply Kd.S_alloc | apply Kd.S_drewN | apply Kd.S_drew)); exact Kd.S_mono (Kd.S_far (p := ⟨gb160, 1, none⟩) (Kd.S_far (p := ⟨gb160, 0, none⟩) (Kd.S_types HO168.out BK160.out (by decide)) (fun _ hk => hk.2) (.string t165)) (fun _ hk => hk.2) (.slice Ao13 t166.length co13)) (fun _ hk => trivial), bl_⟩

/-! ### F24: function 24 -/
def F24.f (k : Nat) (a0 : ByteArray) (a1 : Int) (a2 : Int) : Option (ByteArray × (List (S91))) := (F26.f k a1).bind fun t170 => ((F26.f k a2).bind fun t171 => ((F25.f k a0 (([t170, t171] : List ByteArray))).bind fun bt175 => (some (bt175.1, bt175.2))))
theorem F24.mono : ∀ a0 a1 a2 k, LeO (F24.f k a0 a1 a2) (F24.f (k + 1) a0 a1 a2) := by
 intro a0 a1 a2 k
 unfold F24.f
 repeat' with_reducible first | exact F26.mono _ _ | exact F25.mono _ _ _ | exact LeO.refl _ | exact LeO.none _ | refine LeO.ite ?_ ?_ | refine LeO.bind ?_ (fun _ => ?_)
theorem F24.calls (k : Nat) (a0 : ByteArray) (a1 : Int) (a2 : Int) (r1 : ByteArray) (r2 : List (S91)) (w : World) (h : F24.f k a0 a1 a2 = some (r1, r2)) :
  Calls Tryz.prog 24 #[.string a0, .int .i64 a1, .int .i64 a2] w fun e w' => ∃ v1_ : Value, e = .returned (.agg #[.string r1, v1_]) ∧ Kd.S k91 91 w' w.heap.size (fun _ => True) v1_ r2 ∧ Below w.heap.size w w' := by
 have hu49 := Tryz.underlying49
 have HB := am_ (Below.refl w.heap.size w)
 have H : ((F26.f k a1).bind fun t170 => ((F26.f k a2).bind fun t171 => ((F25.f k a0 (([t170, t171] : List ByteArray))).bind fun bt175 => (some (bt175.1, bt175.2))))) = some (r1, r2) := h
 clear h
 replace H := bi_ H; rcases H with ⟨t170, A4, H⟩
 replace H := bi_ H; rcases H with ⟨t171, A5, H⟩
 obtain ⟨y172, hy172⟩ : ∃ y_ : List ByteArray, y_ = (([t170, t171] : List ByteArray)) := ⟨_, rfl⟩
 replace H : ((F25.f k a0 y172).bind fun bt175 => (some (bt175.1, bt175.2))) = some (r1, r2) := by first | (rw [hy172]; exact H) | exact H
 have Ny172 := am_ hy172
 clear hy172
 replace H := bi_ H; rcases H with ⟨⟨t175, t176⟩, A6, H⟩
 simp only [Option.some.injEq, Prod.mk.injEq] at H
 obtain ⟨rfl, rfl⟩ := H
 go_enter Tryz.func24, Tryz.ntmps24
 go_wp2_with (first | ((with_reducible refine gate_dst (N := 6) rfl ?_); refine be_ 6 #[.string (⟨#[]⟩ : ByteArray), .slice none 0 0] 49 ?_; intro gb169 hg w7 hbox hb; have BK169 := am_ (hbox); have GW169 := am_ (gw_ hg bl_); have GE169 := GW169; replace HB := hs_ w hb; clear hb hbox hg) | ((with_reducible refine gate_callee (f := 26) rfl ?_); refine gl_ 9 Tryz.func26 #[.int .i64 a1] ?_ rfl rfl rfl rfl; (with_reducible refine (F26.calls k a1 t170 _ A4.out).mono ?_); rintro e w8 ⟨rfl, hb⟩; refine ⟨_, rfl, ?_⟩; replace BK169 := bb_ BK169 hb; replace HB := hs_ w hb; (try clear hb)) | ((with_reducible refine gate_callee (f := 26) rfl ?_); refine gl_ 11 Tryz.func26 #[.int .i64 a2] ?_ rfl rfl rfl rfl; (with_reducible refine (F26.calls k a2 t171 _ A5.out).mono ?_); rintro e w9 ⟨rfl, hb⟩; refine ⟨_, rfl, ?_⟩; replace BK169 := bb_ BK169 hb; replace HB := hs_ w hb; (try clear hb)) | ((with_reducible refine gate_dst (N := 12) rfl ?_); refine Kd.R_lit Kd.string _ 9 ?hg (N := 12) ?hd (xs := ([t170, t171] : List ByteArray)) (inner := [.string t170, .string t171]) (ok := fun _ => True) (okp := fun _ => True) ?hr ?hp (fun _ hk => hk) trivial (Below.refl _ _) (Nat.le_refl _) (by simp) ?_; (case hd => rfl); (case hg => rfl); (case hr => exact hr_); (case hp => exact (Reps.one (show Kd.M Kd.string _ _ _ t170 [.string t170] from rfl) (Reps.one (show Kd.M Kd.string _ _ _ t171 [.string t171] from rfl) (Reps.none _ _)))); intro v173 w10 ho11 hb hg_ hnew_; clear hg_ hnew_; (first | rw [← Ny172.out] at ho11 | (simp only [Int.reduceToNat] at ho11; rw [← Ny172.out] at ho11)); have HO174 := am_ (Kd.R_lower ho11 (below_size bl_)); replace BK169 := bb_ BK169 hb; replace HB := hs_ w hb; clear hb ho11; obtain ⟨Ao12, co12, eo12⟩ := Kd.R_slice HO174.out; subst eo12) | ((with_reducible refine gate_callee (f := 25) rfl ?_); refine gl_ 13 Tryz.func25 #[.string a0, .slice Ao12 y172.length co12] ?_ rfl rfl rfl rfl; (with_reducible refine (F25.calls k a0 _ _ y172 t175 t176 _ ?s1 ?s2 A6.out).mono ?_); (case s1 => repeat (first | exact (Kd.R_reads' HO174.out).2.2 | (with_reducible refine Kd.C_alloc ?_ _) | (with_reducible refine Kd.C_drewN ?_ _) | (with_reducible refine Kd.C_drew ?_))); (case s2 => exact (Kd.R_reads' HO174.out).2.1); rintro e w13 ⟨v177, rfl, ho0, hb⟩; refine ⟨_, rfl, ?_⟩; have HO178 := am_ (Kd.S_lower (Kd.S_new' ho0 (Kd.R_lt (rk_ HO174))) (below_size bl_)); replace HO174 := am_ (Kd.R_below (rk_ HO174) hb); replace BK169 := bb_ BK169 hb; replace HB := hs_ w hb; (try clear hb); (try clear ho0); obtain ⟨hcz14_0, hcz14_1, hfz14_0, hfz14_1⟩ := cellsF2 BK169.out; obtain ⟨Ao15, co15, eo15⟩ := Kd.S_slice HO178.out; subst eo15))
 refine bodyPost_ret (results_cell_row rfl _ _ gb169 49 #[.string t175, .slice Ao15 t176.length co15] (0, 0) _ rfl (bq_ BK169) Tryz.underlying49 rfl (by kernel_rfl)) rfl ?_
 exact ⟨_, au1_0, by (with_reducible repeat (first | apply Kd.S_alloc | apply Kd.S_drewN | apply Kd.S_drew)); exact Kd.S_mono (Kd.S_far (p := ⟨gb169, 1, none⟩) (Kd.S_far (p := ⟨gb169, 0, none⟩) (Kd.S_types HO178.out BK169.out (by decide)) (fun _ hk => hk.2) (.string t175)) (fun _ hk => hk.2) (.slice Ao15 t176.length co15)) (fun _ hk => trivial), bl_⟩

/-! ### F27: function 27 -/
def F27.l0 : Nat → Int → ByteArray → List (S91) → ByteArray → List (S91) → Option (ByteArray × (List (S91)))
  | 0, _, _, _, _, _ => none
  | k + 1, x4, x180000, x180001, x182000, x182001 => if x4 < (x180001.length : Int) then ((some (([] : List ByteArray) : List ByteArray)).bind fun y182 => (if 0 ≤ x4 then (if y182.length + ((rd_T91 x180001 x4).f0).length < 8796093022208 then (if x182001.length < 5864062014805 then (F27.l0 k (wrap64 (x4 + 1)) x180000 x180001 x182000 (x182001 ++ [(⟨(y182 ++ ((rd_T91 x180001 x4).f0))⟩ : S91)])) else (none)) else (none)) else (none))) else (some (x182000, x182001))
def F27.f (k : Nat) (a0_0 : ByteArray) (l0_1 : List (S91)) : Option (ByteArray × (List (S91))) := F27.l0 k 0 a0_0 l0_1 a0_0 ([] : List (S91))
theorem F27.mono_l : ∀ k, (∀ y0 y1 y2 y3 y4, LeO (F27.l0 k y0 y1 y2 y3 y4) (F27.l0 (k + 1) y0 y1 y2 y3 y4))
 | 0 => fun _ _ _ _ _ r h => by simp [F27.l0] at h
 | k + 1 => by
  have ih0 := F27.mono_l k
  intro y0 y1 y2 y3 y4
  unfold F27.l0
  repeat' with_reducible first | exact ih0 _ _ _ _ _ | exact LeO.refl _ | exact LeO.none _ | refine LeO.ite ?_ ?_ | refine LeO.bind ?_ (fun _ => ?_)
theorem F27.mono : ∀ a0 a1 k, LeO (F27.f k a0 a1) (F27.f (k + 1) a0 a1) := by
 intro a0 a1 k
 have ih0 := F27.mono_l k
 unfold F27.f
 repeat' with_reducible first | exact ih0 _ _ _ _ _ | exact LeO.refl _ | exact LeO.none _ | refine LeO.ite ?_ ?_ | refine LeO.bind ?_ (fun _ => ?_)
def F27.T5 : Bool × List (List Nat × List Nat) := (true, [([], []), ([0], [0]), ([], []), ([], []), ([3], [3]), ([], []), ([4, 5], [4, 5]), ([6], [6]), ([7], [7]), ([2, 8], [2, 8]), ([9], [9]), ([10], [10]), ([1, 11, 9], [1, 11]), ([0, 1, 2, 3, 4, 5, 6, 7, 8, 9, 10, 11, 12], []), ([13, 12, 12, 0, 1, 2, 3, 4, 5, 6, 7, 8, 9, 10, 11, 12], [12, 13])])
def F27.B5 : List Nat := [0, 1, 0, 0, 8, 0, 56, 120, 248, 508, 1020, 2044, 4095, 8191, 16383]
theorem F27.tab5 : rtab .any (opsOf Tryz.f27 5) = F27.T5 := by kernel_rfl
theorem F27.bits5 : waitsOk F27.T5.2 F27.B5 = true := by kernel_rfl
theorem F27.calls (k : Nat) (a0_0 : ByteArray) (A0_1 : Option Addr) (c0_1 : Nat) (l0_1 : List (S91)) (r1 : ByteArray) (r2 : List (S91)) (w : World) (hr0_1 : Kd.C k91 w A0_1 l0_1.length l0_1) (hc0_1 : l0_1.length ≤ c0_1) (h : F27.f k a0_0 l0_1 = some (r1, r2)) :
  Calls Tryz.prog 27 #[.agg #[.string a0_0, .slice A0_1 l0_1.length c0_1]] w fun e w' => ∃ v1_ : Value, e = .returned (.agg #[.string r1, v1_]) ∧ Kd.S k91 91 w' w.heap.size (fun _ => True) v1_ r2 ∧ Below w.heap.size w w' := by
 have hu49 := Tryz.underlying49
 have hu91 := Tryz.underlying91
 have HR0_1 := am_ hr0_1
 have HC0_1 := am_ hc0_1
 clear hr0_1 hc0_1
 have HB := am_ (Below.refl w.heap.size w)
 have H : (F27.l0 k 0 a0_0 l0_1 a0_0 ([] : List (S91))) = some (r1, r2) := h
 clear h
 have H' := am_ H
 clear H
 go_enter Tryz.func27, Tryz.ntmps27
 go_wp2_with (first | ((with_reducible refine gate_dst (N := 1) rfl ?_); refine be_ 1 #[.string a0_0, .slice A0_1 l0_1.length c0_1] 49 ?_; intro gb179 hg w2 hbox hb; have BK179 := am_ (hbox); have GW179 := am_ (gw_ hg bl_); have GE179 := GW179; replace HB := hs_ w hb; clear hb hbox hg) | ((with_reducible refine gate_dst (N := 2) rfl ?_); refine be_ 2 #[.string (⟨#[]⟩ : ByteArray), .slice none 0 0] 49 ?_; intro gb180 hg w3 hbox hb; have BK180 := am_ (hbox); have GW180 := am_ (gw_ hg bl_); have GE180 := GW180; replace HB := hs_ w hb; have NB179_180 := am_ (gn_ hg (blkl_ BK179)); have NB180_179 := am_ (gm_ hg (blkl_ BK179)); replace BK179 := bb_ BK179 hb; clear hb hbox hg; have hnb4 := NB179_180.out; have hnc4 := NB180_179.out; obtain ⟨hcz5_0, hcz5_1, hfz5_0, hfz5_1⟩ := cellsF2 BK179.out) | ((with_reducible refine gate_dst (N := 3) rfl ?_); refine be_ 3 #[.string (⟨#[]⟩ : ByteArray), .slice none 0 0] 49 ?_; intro gb181 hg w6 hbox hb; have BK181 := am_ (hbox); have GW181 := am_ (gw_ hg bl_); have GE181 := GW181; replace HB := hs_ w hb; have NB179_181 := am_ (gn_ hg (blkl_ BK179)); have NB181_179 := am_ (gm_ hg (blkl_ BK179)); replace BK179 := bb_ BK179 hb; have NB180_181 := am_ (gn_ hg (blkl_ BK180)); have NB181_180 := am_ (gm_ hg (blkl_ BK180)); replace BK180 := bb_ BK180 hb; clear hb hbox hg; have hnb7 := NB181_179.out; have hnc7 := NB179_181.out; have hnb8 := NB181_180.out; have hnc8 := NB180_181.out; obtain ⟨hcz9_0, hcz9_1, hfz9_0, hfz9_1⟩ := cellsF2 BK181.out))
 go_loopg [4] k (fun kq v4 w' => ∃ (x4_1 : Int) (x182001_1 : List (S91)) (u182001 : Value), v4 = .int .i64 x4_1 ∧ Aside0 (F27.l0 kq x4_1 a0_0 l0_1 a0_0 x182001_1 = some (r1, r2)) ∧ Aside0 (kq ≤ k) ∧ Aside0 (Kd.S k91 91 w' w.heap.size (fun _ => True) u182001 x182001_1) ∧ Aside0 (w'.heap[gb179]? = some (.cells #[.string a0_0, (.slice A0_1 l0_1.length c0_1)] 49 (0, 0))) ∧ Aside0 (w'.heap[gb180]? = some (.cells #[.string (⟨#[]⟩ : ByteArray), (.slice none 0 0)] 49 (0, 0))) ∧ Aside0 (w'.heap[gb181]? = some (.cells #[.string a0_0, u182001] 49 (0, 0))) ∧ Aside0 (Below w.heap.size w w'))
 case atStart => exact ⟨(0), (([] : List (S91))), (.slice none 0 0), er_, H', ⟨Nat.le_refl _⟩, ⟨au1_12⟩, ⟨bf_ BK179⟩, ⟨bf_ BK180⟩, ⟨bq_ BK181⟩, ⟨bl_⟩⟩
 case round =>
  clear H'
  try clear hcz5_0 hcz5_1
  try clear hcz9_0 hcz9_1
  try clear hfz5_0 hfz5_1
  try clear hfz9_0 hfz9_1
  obtain ⟨x4_1, x182001_1, u182001, rfl, HA, HK1, HO_182001, BK179, BK180, BK181, HB⟩ := hrel
  cases gk with
  | zero => exact absurd HA.out (by simp [F27.l0])
  | succ k1 =>
   have H := HA.out
   clear HA
   simp only [F27.l0] at H
   replace H := it_ H; rcases H with ⟨c10b0, H⟩ | ⟨c10b0, H⟩
   rotate_left
   ·simp only [Option.some.injEq, Prod.mk.injEq] at H
    obtain ⟨rfl, rfl⟩ := H
    have hnb25 := NB179_180.out
    have hnc25 := NB180_179.out
    have hnb26 := NB179_181.out
    have hnc26 := NB181_179.out
    obtain ⟨hcz27_0, hcz27_1, hfz27_0, hfz27_1⟩ := cellsF2 BK179.out
    have hnb28 := NB181_180.out
    have hnc28 := NB180_181.out
    obtain ⟨hcz29_0, hcz29_1, hfz29_0, hfz29_1⟩ := cellsF2 BK181.out
    obtain ⟨hcz30_0, hcz30_1, hfz30_0, hfz30_1⟩ := cellsF2 BK180.out
    obtain ⟨Ao31, co31, eo31⟩ := Kd.S_slice HO_182001.out
    subst eo31
    go_wp2
    refine bodyPost_ret (results_cell_row rfl _ _ gb180 49 #[.string a0_0, .slice Ao31 x182001_1.length co31] (0, 0) _ rfl (bq_ BK180) Tryz.underlying49 rfl (by kernel_rfl)) rfl ?_
    exact ⟨_, au1_0, by (with_reducible repeat (first | apply Kd.S_alloc | apply Kd.S_drewN | apply Kd.S_drew)); exact Kd.S_mono (Kd.S_far (p := ⟨gb180, 1, none⟩) (Kd.S_far (p := ⟨gb180, 0, none⟩) (Kd.S_types HO_182001.out BK180.out (by decide)) (fun _ hk => hk.2) (.string a0_0)) (fun _ hk => hk.2) (.slice Ao31 x182001_1.length co31)) (fun _ hk => trivial), bl_⟩
   obtain ⟨y182, hy182⟩ : ∃ y_ : List ByteArray, y_ = (([] : List ByteArray)) := ⟨_, rfl⟩
   replace H : (if 0 ≤ x4_1 then (if y182.length + ((rd_T91 l0_1 x4_1).f0).length < 8796093022208 then (if x182001_1.length < 5864062014805 then (F27.l0 k1 (wrap64 (x4_1 + 1)) a0_0 l0_1 a0_0 (x182001_1 ++ [(⟨(y182 ++ ((rd_T91 l0_1 x4_1).f0))⟩ : S91)])) else (none)) else (none)) else (none)) = some (r1, r2) := by first | (rw [hy182]; exact H) | exact H
   have Ny182 := am_ hy182
   clear hy182
   replace H := itn_ H; rcases H with ⟨c11b0, H⟩
   replace H := iln_ H; rcases H with ⟨LMc12, H⟩
   obtain ⟨y186, hy186⟩ : ∃ y_ : List ByteArray, y_ = (y182 ++ ((rd_T91 l0_1 x4_1).f0)) := ⟨_, rfl⟩
   replace H : (if x182001_1.length < 5864062014805 then (F27.l0 k1 (wrap64 (x4_1 + 1)) a0_0 l0_1 a0_0 (x182001_1 ++ [(⟨y186⟩ : S91)])) else (none)) = some (r1, r2) := by first | (rw [hy186]; exact H) | exact H
   have Ny186 := am_ hy186
   clear hy186
   replace H := iln_ H; rcases H with ⟨LMc13, H⟩
   obtain ⟨y189, hy189⟩ : ∃ y_ : List (S91), y_ = (x182001_1 ++ [(⟨y186⟩ : S91)]) := ⟨_, rfl⟩
   replace H : (F27.l0 k1 (wrap64 (x4_1 + 1)) a0_0 l0_1 a0_0 y189) = some (r1, r2) := by first | (rw [hy189]; exact H) | exact H
   have Ny189 := am_ hy189
   clear hy189
   have H' := am_ H
   clear H
   have hnb14 := NB179_180.out
   have hnc14 := NB180_179.out
   have hnb15 := NB179_181.out
   have hnc15 := NB181_179.out
   obtain ⟨hcz16_0, hcz16_1, hfz16_0, hfz16_1⟩ := cellsF2 BK179.out
   try go_wp2
   replace HO_182001 := am_ (Kd.S_drew HO_182001.out)
   replace BK179 := bd_ BK179
   replace BK180 := bd_ BK180
   replace BK181 := bd_ BK181
   replace HB := am_ (below_drew1 HB.out)
   have p185 : 0 ≤ (x4_1 : Int) := od_
   have q185 : x4_1 < (l0_1.length : Int) := od_
   obtain ⟨ad185, A185_0, c185_0, e185, hx185_0, hl185_0, hi185_0⟩ := at_T91 HR0_1.out x4_1 p185 q185
   have hw185_0 := hx185_0
   cases e185
   replace hx185_0 := (HB.out.cell (World.block_lt_of_cell? _ _ hx185_0)).trans hx185_0
   have HR185_0 := am_ hi185_0
   have HC185_0 := am_ hl185_0
   clear hi185_0 hl185_0
   replace p185 := eq_true p185
   replace q185 := eq_true q185
   refine start_ (n := 15) (S := fun w' => w'.cell? ⟨gb181, 0, none⟩ = some (.string a0_0) ∧ w'.cell? ⟨gb181, 1, none⟩ = some (u182001) ∧ w'.cell? ⟨gb179, 0, none⟩ = some (.string a0_0) ∧ w'.cell? ⟨gb179, 1, none⟩ = some (.slice (some ad185) l0_1.length c0_1) ∧ w'.cell? (ad185.add (x4_1).toNat) = some (.slice A185_0 ((rd_T91 l0_1 x4_1).f0).length c185_0)) (ds := [14]) (bs 15 0) (by kernel_rfl) rfl rfl ⟨(blk_cell BK181.out 0).trans rfl, (blk_cell BK181.out 1).trans rfl, (blk_cell BK179.out 0).trans rfl, (blk_cell BK179.out 1).trans rfl, ((HB.out.cell (World.block_lt_of_cell? _ _ hw185_0)).trans hw185_0)⟩ (fun hHeld => ?_); refine with_tabW F27.tab5 F27.bits5 (fun HT_ HW_ => ?_)
   generalize wr.drew = w17 at HO_182001 BK179 BK180 BK181 HB HR185_0 hx185_0 hHeld ⊢
   refine pu_ 0 15 (bs 15 1) HT_ ?_ rfl rfl
   refine pu_ 3 18 (bs 15 9) HT_ ?_ rfl rfl
   refine pu_ 5 20 (bs 15 41) HT_ ?_ rfl rfl
   refine tk_ 1 16 (bs 15 43) HT_ HW_ hHeld au1_13 ?_ rfl rfl
   refine tk_ 4 19 (bs 15 59) HT_ HW_ hHeld au1_13 ?_ rfl rfl
   refine pu_ 6 21 (bs 15 123) HT_ ?_ rfl rfl
   refine pu_ 7 22 (bs 15 251) HT_ ?_ rfl rfl
   refine tk_ 8 23 (bs 15 507) HT_ HW_ hHeld au1_13 ?_ rfl rfl
   refine one_ (i := 2) (N := some 17) (bs 15 511) rfl rfl (one_of HT_.out (by kernel_rfl)) (by decide) (fun K hK => ?_)
   refine Kd.R_lit_step Kd.string _ 9 ?hg (N := 17) ?hd (xs := ([] : List ByteArray)) (inner := []) (ok := fun _ => True) (okp := fun _ => True) ?hr ?hp (fun _ hk => hk) trivial (Below.refl _ _) (Nat.le_refl _) (by simp) ?_; (case hd => rfl); (case hg => rfl); (case hr => exact hr_); (case hp => exact (Reps.none _ _))
   intro v183 w18 ho19 hb hg_ hnew_
   clear hg_ hnew_
   (first | rw [← Ny182.out] at ho19 | (simp only [Int.reduceToNat] at ho19; rw [← Ny182.out] at ho19))
   replace HO_182001 := am_ (Kd.S_elder' au1_15 (Kd.R_base ho19) hb)
   have HO184 := am_ (Kd.R_lower ho19 (below_size bl_))
   replace BK179 := bb_ BK179 hb
   replace BK180 := bb_ BK180 hb
   replace BK181 := bb_ BK181 hb
   replace HB := hs_ w hb
   clear hb ho19
   refine hK.out _ _ ⟨(blk_cell BK181.out 0).trans rfl, (blk_cell BK181.out 1).trans rfl, (blk_cell BK179.out 0).trans rfl, (blk_cell BK179.out 1).trans rfl, ((HB.out.cell (World.block_lt_of_cell? _ _ hw185_0)).trans hw185_0)⟩ (fun hHeld => ?_)
   clear hK K
   refine no_ 17 ?_
   refine one_ (i := 9) (N := some 24) (bs 15 1023) rfl rfl (one_of HT_.out (by kernel_rfl)) (by decide) (fun K hK => ?_)
   refine Kd.R_append_rows_step Kd.string (w0 := w) w.heap.size (by rfl) (.tmp 17) (.tmp 23) 59 9 (.string ⟨#[]⟩) 16 rfl Tryz.underlying59 info9 rfl (by decide) (by omega) v183 y182 ((rd_T91 l0_1 x4_1).f0) _ _ _ (fun _ => True) (fun _ => False) rfl rfl ?aO ?aR (fun _ _ h => h) (fun _ h => h.elim) ?aF ?aB ?aS ?aL ?_
   (case aR => repeat (first | exact (Kd.C_below HR185_0.out HB.out) | (with_reducible refine Kd.C_alloc ?_ _) | (with_reducible refine Kd.C_drewN ?_ _) | (with_reducible refine Kd.C_drew ?_)))
   (case aB => exact bl_)
   (case aF => exact (fun _ _ => trivial))
   (case aO => exact (rk_ HO184))
   (case aS => exact (below_size bl_))
   (case aL => have := LMc12.out; omega)
   intro v187 w20 ho hb hg hat
   rw [← Ny186.out] at ho
   have n0_ := am_ (Kd.S_after (ok := (fun _ => True)) au1_15 hg hat)
   have n1_ := am_ (bg_ BK179 hg (Kd.R_ne HO184.out BK179.out (by decide)))
   have n2_ := am_ (bg_ BK180 hg (Kd.R_ne HO184.out BK180.out (by decide)))
   have n3_ := am_ (bg_ BK181 hg (Kd.R_ne HO184.out BK181.out (by decide)))
   have n4_ := am_ (hb)
   have n5_ := am_ (ho)
   clear HO_182001
   clear BK179
   clear BK180
   clear BK181
   clear HB
   clear HO184
   have HO_182001 := n0_
   have BK179 := n1_
   have BK180 := n2_
   have BK181 := n3_
   have HB := n4_
   have HO188 := n5_
   clear n0_ n1_ n2_ n3_ n4_ n5_
   clear ho hb hg hat
   obtain ⟨Ao21, co21, eo21⟩ := Kd.R_slice HO188.out
   (first | subst eo21 | (injection eo21 with f1_ f2_ f3_; have f4_ := f1_.symm; have f5_ := f3_.symm; clear f1_ f2_ f3_; subst f4_; subst f5_))
   refine hK.out _ _ ⟨(blk_cell BK181.out 0).trans rfl, (blk_cell BK181.out 1).trans rfl, (blk_cell BK179.out 0).trans rfl, (blk_cell BK179.out 1).trans rfl, ((HB.out.cell (World.block_lt_of_cell? _ _ hw185_0)).trans hw185_0)⟩ (fun hHeld => ?_)
   clear hK K
   refine no_ 24 ?_
   refine pu_ 10 25 (bs 15 2047) HT_ ?_ rfl rfl
   refine one_ (i := 11) (N := some 26) (bs 15 4095) rfl rfl (one_of HT_.out (by kernel_rfl)) (by decide) (fun K hK => ?_)
   refine value_ (w1 := ?_) (v := ?_) (by rfl) rfl ?_ ?_
   rotate_left 2
   ·go_simp
    constructor
    ·rfl
    ·rfl
   refine hK.out _ _ ⟨(blk_cell (blk_alloc BK181.out _) 0).trans rfl, (blk_cell (blk_alloc BK181.out _) 1).trans rfl, (blk_cell (blk_alloc BK179.out _) 0).trans rfl, (blk_cell (blk_alloc BK179.out _) 1).trans rfl, (World.cell?_alloc_lt _ _ _ (World.block_lt_of_cell? _ _ (((HB.out.cell (World.block_lt_of_cell? _ _ hw185_0)).trans hw185_0)))).trans (((HB.out.cell (World.block_lt_of_cell? _ _ hw185_0)).trans hw185_0))⟩ (fun hHeld => ?_)
   clear hK K
   refine no_ 26 ?_
   refine one_ (i := 12) (N := some 27) (bs 15 8191) rfl rfl (one_of HT_.out (by kernel_rfl)) (by decide) (fun K hK => ?_)
   refine Kd.S_append_step k91 (w0 := w) w.heap.size (by rfl) (.tmp 16) (.tmp 26) 47 91 (.agg #[(.slice none 0 0)]) 24 rfl Tryz.underlying47 info91 rfl (by decide) (by omega) u182001 x182001_1 (⟨y186⟩ : S91) [.slice Ao21 y186.length co21] (fun _ => True) (fun k_ => some k_ = (.slice Ao21 y186.length co21 : Value).ownBlock) rfl rfl ?aP (fun k_ hk_ => ((Kd.R_mono (ok' := fun k_ => ((fun _ => True)) k_ ∧ some k_ ≠ (u182001 : Value).ownBlock) (Kd.R_apart' (HO188.out) (Kd.S_typed HO_182001.out) (by decide)) (fun k_ hk => ⟨trivial, hk.2⟩))).1 k_ hk_.symm) ?aF ?aO ?aB ?aS ?aL ?_
   (case aP => exact k91_mkM _ _ _ (⟨y186⟩ : S91) (Kd.R_mono (Kd.R_tight rfl (Kd.R_mono (ok' := fun k_ => ((fun _ => True)) k_ ∧ some k_ ≠ (u182001 : Value).ownBlock) (Kd.R_apart' (HO188.out) (Kd.S_typed HO_182001.out) (by decide)) (fun k_ hk => ⟨trivial, hk.2⟩))) (fun _ h_ => h_)))
   (case aB => exact bl_)
   (case aF => exact (fun _ _ => trivial))
   (case aO => exact (by (with_reducible repeat (first | apply Kd.S_alloc | apply Kd.S_drewN | apply Kd.S_drew)); exact Kd.S_mono HO_182001.out (fun k_ hk => ⟨trivial, fun e_ => hk.2 e_⟩)))
   (case aS => exact (below_size bl_))
   (case aL => have := LMc13.out; omega)
   intro v190 w22 ho hb hg hat
   rw [← Ny189.out] at ho
   have n0_ := am_ (bg_ BK179 hg (Kd.S_ne HO_182001.out BK179.out (by decide)))
   have n1_ := am_ (bg_ BK180 hg (Kd.S_ne HO_182001.out BK180.out (by decide)))
   have n2_ := am_ (bg_ BK181 hg (Kd.S_ne HO_182001.out BK181.out (by decide)))
   have n3_ := am_ (hb)
   have n4_ := am_ (ho)
   clear BK179
   clear BK180
   clear BK181
   clear HB
   clear HO_182001
   clear HO188
   have BK179 := n0_
   have BK180 := n1_
   have BK181 := n2_
   have HB := n3_
   have HO191 := n4_
   clear n0_ n1_ n2_ n3_ n4_
   clear ho hb hg hat
   obtain ⟨Ao23, co23, eo23⟩ := Kd.S_slice HO191.out
   (first | subst eo23 | (injection eo23 with f1_ f2_ f3_; have f4_ := f1_.symm; have f5_ := f3_.symm; clear f1_ f2_ f3_; subst f4_; subst f5_))
   refine hK.out _ _ ⟨(blk_cell BK181.out 0).trans rfl, (blk_cell BK181.out 1).trans rfl, (blk_cell BK179.out 0).trans rfl, (blk_cell BK179.out 1).trans rfl, ((HB.out.cell (World.block_lt_of_cell? _ _ hw185_0)).trans hw185_0)⟩ (fun hHeld => ?_)
   clear hK K
   refine no_ 27 ?_
   refine pu_ 13 28 (bs 15 16383) HT_ ?_ rfl rfl
   refine last_ (i := 14) (N := none) (bs 15 32767) rfl rfl (one_of HT_.out (by kernel_rfl)) (by decide) (fun K hK => ?_)
   have hs24 : w22.cell? ⟨gb181, 1, none⟩ = some (u182001) := (blk_cell BK181.out 1).trans rfl
   have hfs24 := blk_frozen BK181.out 1
   have hns24_0 := NB179_181.out
   have hns24_1 := NB180_181.out
   have hms24_0 := NB181_179.out
   have hms24_1 := NB181_180.out
   refine skip_ (w1 := ?_) (by rfl) rfl ?_ ?_
   rotate_left
   ·go_simp
    rfl
   refine hK.out _ _ ?_
   clear hK K
   refine done_ (done_of HT_.out (by kernel_rfl)) ?_
   try go_wp2
   go_roundg k1
   case measure => have := HK1.out; omega
   case rel => exact ⟨(wrap64 (x4_1 + 1)), (y189), (.slice Ao23 y189.length co23), er_, H', ⟨by have := HK1.out; omega⟩, ⟨by (with_reducible repeat (first | apply Kd.S_alloc | apply Kd.S_drewN | apply Kd.S_drew)); exact Kd.S_mono (Kd.S_far (p := ⟨gb181, 1, none⟩) (Kd.S_types HO191.out BK181.out (by decide)) (fun _ hk => hk.2) (.slice Ao23 y189.length co23)) (fun _ hk => trivial)⟩, ⟨bf_ BK179⟩, ⟨bf_ BK180⟩, ⟨bq_ BK181⟩, ⟨bl_⟩⟩
end Go.Proofs.YtlghcbmkhdibdaaGreatDoor.PFnExactIxSegments
