-- printed by a program of this session (wip/xp/xprint.py) out of the translation; Lean checks it
import Derived.Test.YtlghcbmkhdibdaaDoorPFnExactHeadOfx0
namespace Go.Proofs.YtlghcbmkhdibdaaDoor.PFnExactHeadOf
open Go.RowKit Go.Proofs.YtlghcbmkhdibdaaDoorW.PrintWords Go.Proofs.YtlghcbmkhdibdaaDoorW.PrintLast Go.Proofs.YtlghcbmkhdibdaaDoorW.PrintMore
attribute [local go_sem] max2_int min2_int max_two min_two max_three min_three max_four min_four   -- for this text's walks alone
set_option linter.unusedVariables false
set_option linter.unusedSimpArgs false
set_option maxHeartbeats 8000000
set_option maxRecDepth 100000

theorem au1_0 {p : Prop} (h : p := by first | rfl | (simp [errW_none, errW_some] <;> rfl) | (simp [*, errW_none, errW_some] <;> rfl)) : p := h
theorem au1_1 {p : Prop} (h : p := by first | omega | exact Nat.le_refl _) : p := h
theorem au1_2 {p : Prop} (h : p := by repeat (first | exact (Kd.C_below HR104_0.out HB.out) | (with_reducible refine Kd.C_alloc ?_ _) | (with_reducible refine Kd.C_drewN ?_ _) | (with_reducible refine Kd.C_drew ?_))) : p := h
theorem au1_3 {p : Prop} (h : p := by repeat (first | exact (Kd.C_below HR108_1.out HB.out) | (with_reducible refine Kd.C_alloc ?_ _) | (with_reducible refine Kd.C_drewN ?_ _) | (with_reducible refine Kd.C_drew ?_))) : p := h
theorem au1_4 {p : Prop} (h : p := by repeat (first | exact (Kd.C_below HR0_0.out HB.out) | (with_reducible refine Kd.C_alloc ?_ _) | (with_reducible refine Kd.C_drewN ?_ _) | (with_reducible refine Kd.C_drew ?_))) : p := h
theorem au1_5 {p : Prop} (h : p := by repeat (first | exact (Kd.C_below HR0_1.out HB.out) | (with_reducible refine Kd.C_alloc ?_ _) | (with_reducible refine Kd.C_drewN ?_ _) | (with_reducible refine Kd.C_drew ?_))) : p := h
theorem au1_6 {p : Prop} (h : p := by rintro w' ⟨s0, s1, s2, s3⟩; go_simp; with_reducible rfl) : p := h
theorem au1_7 {p : Prop} (h : p := by have := HJ1.out; have := HJ5.out; first | omega | exact Nat.le_refl _) : p := h

/-! ### F115: function 115 -/
def F115.l0 : Nat → List ByteArray → Int → Int → Option (Int)
  | 0, _, _, _ => none
  | k + 1, x0, x1, x5 => if x5 < (x0.length : Int) then (if 0 ≤ x5 then (if (wrap64 (x1 - ((rdOf ByteArray.empty x0 x5).size : Int))) < 0 then (some (-1)) else (F115.l0 k x0 (wrap64 (x1 - ((rdOf ByteArray.empty x0 x5).size : Int))) (wrap64 (x5 + 1)))) else (none)) else (some x1)
def F115.f (k : Nat) (l0 : List ByteArray) (a1 : Int) : Option (Int) := if (wrap64 (a1 - (l0.length : Int))) < 0 then (some (-1)) else (F115.l0 k l0 (wrap64 (a1 - (l0.length : Int))) 0)
theorem F115.mono_l : ∀ k, (∀ y0 y1 y2, LeO (F115.l0 k y0 y1 y2) (F115.l0 (k + 1) y0 y1 y2))
 | 0 => fun _ _ _ r h => by simp [F115.l0] at h
 | k + 1 => by
  have ih0 := F115.mono_l k
  intro y0 y1 y2
  unfold F115.l0
  repeat' with_reducible first | exact ih0 _ _ _ | exact LeO.refl _ | exact LeO.none _ | refine LeO.ite ?_ ?_ | refine LeO.bind ?_ (fun _ => ?_)
theorem F115.mono : ∀ a0 a1 k, LeO (F115.f k a0 a1) (F115.f (k + 1) a0 a1) := by
 intro a0 a1 k
 have ih0 := F115.mono_l k
 unfold F115.f
 repeat' with_reducible first | exact ih0 _ _ _ | exact LeO.refl _ | exact LeO.none _ | refine LeO.ite ?_ ?_ | refine LeO.bind ?_ (fun _ => ?_)
theorem F115.calls (k : Nat) (A0 : Option Addr) (c0 : Nat) (l0 : List ByteArray) (a1 : Int) (r : Int) (w : World) (hr0 : Kd.C Kd.string w A0 l0.length l0) (hc0 : l0.length ≤ c0) (h : F115.f k l0 a1 = some r) :
  Calls Tryd.prog 115 #[.slice A0 l0.length c0, .int .i64 a1] w fun e w' => e = .returned (.int .i64 r) ∧ Drawn0 w w' := by
 have HR0 := am_ hr0
 have HC0 := am_ hc0
 clear hr0 hc0
 have H : (if (wrap64 (a1 - (l0.length : Int))) < 0 then (some (-1)) else (F115.l0 k l0 (wrap64 (a1 - (l0.length : Int))) 0)) = some r := h
 clear h
 replace H := it_ H; rcases H with ⟨c3b0, H⟩ | ⟨c3b0, H⟩
 ·obtain rfl := Option.some.inj H
  go_enter Tryd.func115, Tryd.ntmps115
  go_wp2
  go_ret
  exact ⟨er_, dn_⟩
 have H' := am_ H
 clear H
 go_enter Tryd.func115, Tryd.ntmps115
 go_wp2
 go_loopg [1, 5] k (fun kq v1 v5 w' => ∃ (x1_1 : Int) (x5_1 : Int), v1 = .int .i64 x1_1 ∧ v5 = .int .i64 x5_1 ∧ Aside0 (F115.l0 kq l0 x1_1 x5_1 = some r) ∧ Aside0 (kq ≤ k) ∧ Drawn0 w w')
 case atStart => exact ⟨(wrap64 (a1 - (l0.length : Int))), (0), er_, er_, H', ⟨Nat.le_refl _⟩, dn_⟩
 case round =>
  clear H'
  try clear c3b0
  obtain ⟨x1_1, x5_1, rfl, rfl, HA, HK1, ⟨m1, rfl⟩⟩ := hrel
  cases gk with
  | zero => exact absurd HA.out (by simp [F115.l0])
  | succ k1 =>
   have H := HA.out
   clear HA
   simp only [F115.l0] at H
   replace H := it_ H; rcases H with ⟨c4b0, H⟩ | ⟨c4b0, H⟩
   rotate_left
   ·obtain rfl := Option.some.inj H
    go_wp2
    go_ret
    exact ⟨er_, dn_⟩

   replace H := itn_ H; rcases H with ⟨c5b0, H⟩
   replace H := it_ H; rcases H with ⟨c6b0, H⟩ | ⟨c6b0, H⟩
   ·obtain rfl := Option.some.inj H
    have p101 : 0 ≤ (x5_1 : Int) := od_
    have q101 : x5_1 < (l0.length : Int) := od_
    obtain ⟨ad101, e101, hx101_0⟩ := Kd.at_string HR0.out x5_1 p101 q101
    cases e101
    replace p101 := eq_true p101
    replace q101 := eq_true q101
    go_wp2
    go_ret
    exact ⟨er_, dn_⟩
   have H' := am_ H
   clear H
   have p101 : 0 ≤ (x5_1 : Int) := od_
   have q101 : x5_1 < (l0.length : Int) := od_
   obtain ⟨ad101, e101, hx101_0⟩ := Kd.at_string HR0.out x5_1 p101 q101
   cases e101
   replace p101 := eq_true p101
   replace q101 := eq_true q101
   go_wp2
   go_roundg k1
   case measure => have := HK1.out; omega
   case rel => exact ⟨(wrap64 (x1_1 - ((rdOf ByteArray.empty l0 x5_1).size : Int))), (wrap64 (x5_1 + 1)), er_, er_, H', ⟨by have := HK1.out; omega⟩, dn_⟩
/-! ### F91: function 91 -/
def F91.f (k : Nat) (l0_0 : List ByteArray) (a1 : Int) : Option (Int) := (F115.f k l0_0 a1).bind fun t103 => (if t103 < 0 then (some (-1)) else (some t103))
theorem F91.mono : ∀ a0 a1 k, LeO (F91.f k a0 a1) (F91.f (k + 1) a0 a1) := by
 intro a0 a1 k
 unfold F91.f
 repeat' with_reducible first | exact F115.mono _ _ _ | exact LeO.refl _ | exact LeO.none _ | refine LeO.ite ?_ ?_ | refine LeO.bind ?_ (fun _ => ?_)
theorem F91.calls (k : Nat) (A0_0 : Option Addr) (c0_0 : Nat) (l0_0 : List ByteArray) (a1 : Int) (r : Int) (w : World) (hr0_0 : Kd.C Kd.string w A0_0 l0_0.length l0_0) (hc0_0 : l0_0.length ≤ c0_0) (h : F91.f k l0_0 a1 = some r) :
  Calls Tryd.prog 91 #[.agg #[.slice A0_0 l0_0.length c0_0], .int .i64 a1] w fun e w' => e = .returned (.int .i64 r) ∧ Below w.heap.size w w' := by
 have hu129 := Tryd.underlying129
 have HR0_0 := am_ hr0_0
 have HC0_0 := am_ hc0_0
 clear hr0_0 hc0_0
 have HB := am_ (Below.refl w.heap.size w)
 have H : ((F115.f k l0_0 a1).bind fun t103 => (if t103 < 0 then (some (-1)) else (some t103))) = some r := h
 clear h
 replace H := bi_ H; rcases H with ⟨t103, A3, H⟩
 replace H := it_ H; rcases H with ⟨c4b0, H⟩ | ⟨c4b0, H⟩
 ·obtain rfl := Option.some.inj H
  go_enter Tryd.func91, Tryd.ntmps91
  go_wp2_with (first | ((with_reducible refine gate_dst (N := 2) rfl ?_); refine be_ 2 #[.slice A0_0 l0_0.length c0_0] 129 ?_; intro gb102 hg w5 hbox hb; have BK102 := am_ (hbox); have GW102 := am_ (gw_ hg bl_); have GE102 := GW102; replace HB := hs_ w hb; clear hb hbox hg; have hcz6_0 : w5.cell? ⟨gb102, 0, none⟩ = some (.slice A0_0 l0_0.length c0_0) := (blk_cell BK102.out 0).trans rfl; have hfz6_0 := blk_frozen BK102.out 0) | ((with_reducible refine gate_callee (f := 115) rfl ?_); refine gl_ 8 Tryd.func115 #[.slice A0_0 l0_0.length c0_0, .int .i64 a1] ?_ rfl rfl rfl rfl; (with_reducible refine (F115.calls k _ _ l0_0 a1 t103 _ ?s1 ?s2 A3.out).mono ?_); (case s1 => exact au1_4); (case s2 => exact HC0_0.out); rintro e w' ⟨rfl, ⟨nd, rfl⟩⟩; refine ⟨_, rfl, ?_⟩))
  go_ret
  exact ⟨au1_0, bl_⟩
 obtain rfl := Option.some.inj H
 go_enter Tryd.func91, Tryd.ntmps91
 go_wp2_with (first | ((with_reducible refine gate_dst (N := 2) rfl ?_); refine be_ 2 #[.slice A0_0 l0_0.length c0_0] 129 ?_; intro gb102 hg w7 hbox hb; have BK102 := am_ (hbox); have GW102 := am_ (gw_ hg bl_); have GE102 := GW102; replace HB := hs_ w hb; clear hb hbox hg; have hcz8_0 : w7.cell? ⟨gb102, 0, none⟩ = some (.slice A0_0 l0_0.length c0_0) := (blk_cell BK102.out 0).trans rfl; have hfz8_0 := blk_frozen BK102.out 0) | ((with_reducible refine gate_callee (f := 115) rfl ?_); refine gl_ 8 Tryd.func115 #[.slice A0_0 l0_0.length c0_0, .int .i64 a1] ?_ rfl rfl rfl rfl; (with_reducible refine (F115.calls k _ _ l0_0 a1 t103 _ ?s1 ?s2 A3.out).mono ?_); (case s1 => exact au1_4); (case s2 => exact HC0_0.out); rintro e w' ⟨rfl, ⟨nd, rfl⟩⟩; refine ⟨_, rfl, ?_⟩))
 go_ret
 exact ⟨au1_0, bl_⟩

/-! ### F58: function 58 -/
def F58.l0 : Nat → List (S129) → Int → Int → Option (Int)
  | 0, _, _, _ => none
  | k + 1, x0, x1, x5 => if x5 < (x0.length : Int) then (if 0 ≤ x5 then ((F91.f k ((rd_T129 x0 x5).f0) x1).bind fun t105 => (if t105 < 0 then (some (-1)) else (F58.l0 k x0 t105 (wrap64 (x5 + 1))))) else (none)) else (some x1)
def F58.f (k : Nat) (l0 : List (S129)) (a1 : Int) : Option (Int) := if (wrap64 (a1 - (l0.length : Int))) < 0 then (some (-1)) else (F58.l0 k l0 (wrap64 (a1 - (l0.length : Int))) 0)
theorem F58.mono_l : ∀ k, (∀ y0 y1 y2, LeO (F58.l0 k y0 y1 y2) (F58.l0 (k + 1) y0 y1 y2))
 | 0 => fun _ _ _ r h => by simp [F58.l0] at h
 | k + 1 => by
  have ih0 := F58.mono_l k
  intro y0 y1 y2
  unfold F58.l0
  repeat' with_reducible first | exact ih0 _ _ _ | exact F91.mono _ _ _ | exact LeO.refl _ | exact LeO.none _ | refine LeO.ite ?_ ?_ | refine LeO.bind ?_ (fun _ => ?_)
theorem F58.mono : ∀ a0 a1 k, LeO (F58.f k a0 a1) (F58.f (k + 1) a0 a1) := by
 intro a0 a1 k
 have ih0 := F58.mono_l k
 unfold F58.f
 repeat' with_reducible first | exact ih0 _ _ _ | exact F91.mono _ _ _ | exact LeO.refl _ | exact LeO.none _ | refine LeO.ite ?_ ?_ | refine LeO.bind ?_ (fun _ => ?_)
theorem F58.calls (k : Nat) (A0 : Option Addr) (c0 : Nat) (l0 : List (S129)) (a1 : Int) (r : Int) (w : World) (hr0 : Kd.C k129 w A0 l0.length l0) (hc0 : l0.length ≤ c0) (h : F58.f k l0 a1 = some r) :
  Calls Tryd.prog 58 #[.slice A0 l0.length c0, .int .i64 a1] w fun e w' => e = .returned (.int .i64 r) ∧ Below w.heap.size w w' := by
 have hu129 := Tryd.underlying129
 have HR0 := am_ hr0
 have HC0 := am_ hc0
 clear hr0 hc0
 have HB := am_ (Below.refl w.heap.size w)
 have H : (if (wrap64 (a1 - (l0.length : Int))) < 0 then (some (-1)) else (F58.l0 k l0 (wrap64 (a1 - (l0.length : Int))) 0)) = some r := h
 clear h
 replace H := it_ H; rcases H with ⟨c3b0, H⟩ | ⟨c3b0, H⟩
 ·obtain rfl := Option.some.inj H
  go_enter Tryd.func58, Tryd.ntmps58
  go_wp2
  go_ret
  exact ⟨au1_0, bl_⟩
 have H' := am_ H
 clear H
 go_enter Tryd.func58, Tryd.ntmps58
 go_wp2
 go_loopg [1, 5] k (fun kq v1 v5 w' => ∃ (x1_1 : Int) (x5_1 : Int), v1 = .int .i64 x1_1 ∧ v5 = .int .i64 x5_1 ∧ Aside0 (F58.l0 kq l0 x1_1 x5_1 = some r) ∧ Aside0 (kq ≤ k) ∧ Aside0 (Below w.heap.size w w'))
 case atStart => exact ⟨(wrap64 (a1 - (l0.length : Int))), (0), er_, er_, H', ⟨Nat.le_refl _⟩, ⟨bl_⟩⟩
 case round =>
  clear H'
  try clear c3b0
  obtain ⟨x1_1, x5_1, rfl, rfl, HA, HK1, HB⟩ := hrel
  cases gk with
  | zero => exact absurd HA.out (by simp [F58.l0])
  | succ k1 =>
   have H := HA.out
   clear HA
   simp only [F58.l0] at H
   replace H := it_ H; rcases H with ⟨c4b0, H⟩ | ⟨c4b0, H⟩
   rotate_left
   ·obtain rfl := Option.some.inj H
    go_wp2
    go_ret
    exact ⟨au1_0, bl_⟩

   replace H := itn_ H; rcases H with ⟨c5b0, H⟩
   replace H := bi_ H; rcases H with ⟨t105, A6, H⟩
   replace H := it_ H; rcases H with ⟨c7b0, H⟩ | ⟨c7b0, H⟩
   ·obtain rfl := Option.some.inj H
    have p104 : 0 ≤ (x5_1 : Int) := od_
    have q104 : x5_1 < (l0.length : Int) := od_
    obtain ⟨ad104, A104_0, c104_0, e104, hx104_0, hl104_0, hi104_0⟩ := at_T129 HR0.out x5_1 p104 q104
    cases e104
    replace hx104_0 := (HB.out.cell (World.block_lt_of_cell? _ _ hx104_0)).trans hx104_0
    have HR104_0 := am_ hi104_0
    have HC104_0 := am_ hl104_0
    clear hi104_0 hl104_0
    replace p104 := eq_true p104
    replace q104 := eq_true q104
    go_wp2_with (first | ((with_reducible refine gate_callee (f := 91) rfl ?_); refine gl_ 23 Tryd.func91 #[.agg #[.slice A104_0 ((rd_T129 l0 x5_1).f0).length c104_0], .int .i64 x1_1] ?_ rfl rfl rfl rfl; (with_reducible refine (F91.calls k1 _ _ ((rd_T129 l0 x5_1).f0) x1_1 t105 _ ?s1 ?s2 A6.out).mono ?_); (case s1 => exact au1_2); (case s2 => exact HC104_0.out); rintro e w8 ⟨rfl, hb⟩; refine ⟨_, rfl, ?_⟩; replace HB := hs_ w hb; (try clear hb)))
    go_ret
    exact ⟨au1_0, bl_⟩
   have H' := am_ H
   clear H
   have p104 : 0 ≤ (x5_1 : Int) := od_
   have q104 : x5_1 < (l0.length : Int) := od_
   obtain ⟨ad104, A104_0, c104_0, e104, hx104_0, hl104_0, hi104_0⟩ := at_T129 HR0.out x5_1 p104 q104
   cases e104
   replace hx104_0 := (HB.out.cell (World.block_lt_of_cell? _ _ hx104_0)).trans hx104_0
   have HR104_0 := am_ hi104_0
   have HC104_0 := am_ hl104_0
   clear hi104_0 hl104_0
   replace p104 := eq_true p104
   replace q104 := eq_true q104
   go_wp2_with (first | ((with_reducible refine gate_callee (f := 91) rfl ?_); refine gl_ 23 Tryd.func91 #[.agg #[.slice A104_0 ((rd_T129 l0 x5_1).f0).length c104_0], .int .i64 x1_1] ?_ rfl rfl rfl rfl; (with_reducible refine (F91.calls k1 _ _ ((rd_T129 l0 x5_1).f0) x1_1 t105 _ ?s1 ?s2 A6.out).mono ?_); (case s1 => exact au1_2); (case s2 => exact HC104_0.out); rintro e w9 ⟨rfl, hb⟩; refine ⟨_, rfl, ?_⟩; replace HB := hs_ w hb; (try clear hb)))
   go_roundg k1
   case measure => have := HK1.out; omega
   case rel => exact ⟨(t105), (wrap64 (x5_1 + 1)), er_, er_, H', ⟨by have := HK1.out; omega⟩, ⟨bl_⟩⟩
/-! ### F29: function 29 -/
def F29.f (k : Nat) (a0_0 : ByteArray) (l0_1 : List (S129)) (a1 : Int) : Option (Int) := if (wrap64 (a1 - (a0_0.size : Int))) < 0 then (some (-1)) else ((F58.f k l0_1 (wrap64 (a1 - (a0_0.size : Int)))).bind fun t107 => (if t107 < 0 then (some (-1)) else (some t107)))
theorem F29.mono : ∀ a0 a1 a2 k, LeO (F29.f k a0 a1 a2) (F29.f (k + 1) a0 a1 a2) := by
 intro a0 a1 a2 k
 unfold F29.f
 repeat' with_reducible first | exact F58.mono _ _ _ | exact LeO.refl _ | exact LeO.none _ | refine LeO.ite ?_ ?_ | refine LeO.bind ?_ (fun _ => ?_)
theorem F29.calls (k : Nat) (a0_0 : ByteArray) (A0_1 : Option Addr) (c0_1 : Nat) (l0_1 : List (S129)) (a1 : Int) (r : Int) (w : World) (hr0_1 : Kd.C k129 w A0_1 l0_1.length l0_1) (hc0_1 : l0_1.length ≤ c0_1) (h : F29.f k a0_0 l0_1 a1 = some r) :
  Calls Tryd.prog 29 #[.agg #[.string a0_0, .slice A0_1 l0_1.length c0_1], .int .i64 a1] w fun e w' => e = .returned (.int .i64 r) ∧ Below w.heap.size w w' := by
 have hu63 := Tryd.underlying63
 have HR0_1 := am_ hr0_1
 have HC0_1 := am_ hc0_1
 clear hr0_1 hc0_1
 have HB := am_ (Below.refl w.heap.size w)
 have H : (if (wrap64 (a1 - (a0_0.size : Int))) < 0 then (some (-1)) else ((F58.f k l0_1 (wrap64 (a1 - (a0_0.size : Int)))).bind fun t107 => (if t107 < 0 then (some (-1)) else (some t107)))) = some r := h
 clear h
 replace H := it_ H; rcases H with ⟨c3b0, H⟩ | ⟨c3b0, H⟩
 ·obtain rfl := Option.some.inj H
  go_enter Tryd.func29, Tryd.ntmps29
  go_wp2_with (first | ((with_reducible refine gate_dst (N := 2) rfl ?_); refine be_ 2 #[.string a0_0, .slice A0_1 l0_1.length c0_1] 63 ?_; intro gb106 hg w4 hbox hb; have BK106 := am_ (hbox); have GW106 := am_ (gw_ hg bl_); have GE106 := GW106; replace HB := hs_ w hb; clear hb hbox hg; obtain ⟨hcz5_0, hcz5_1, hfz5_0, hfz5_1⟩ := cellsF2 BK106.out))
  go_ret
  exact ⟨au1_0, bl_⟩
 replace H := bi_ H; rcases H with ⟨t107, A6, H⟩
 replace H := it_ H; rcases H with ⟨c7b0, H⟩ | ⟨c7b0, H⟩
 ·obtain rfl := Option.some.inj H
  go_enter Tryd.func29, Tryd.ntmps29
  go_wp2_with (first | ((with_reducible refine gate_dst (N := 2) rfl ?_); refine be_ 2 #[.string a0_0, .slice A0_1 l0_1.length c0_1] 63 ?_; intro gb106 hg w8 hbox hb; have BK106 := am_ (hbox); have GW106 := am_ (gw_ hg bl_); have GE106 := GW106; replace HB := hs_ w hb; clear hb hbox hg; obtain ⟨hcz9_0, hcz9_1, hfz9_0, hfz9_1⟩ := cellsF2 BK106.out) | ((with_reducible refine gate_callee (f := 58) rfl ?_); refine gl_ 15 Tryd.func58 #[.slice A0_1 l0_1.length c0_1, .int .i64 (wrap64 (a1 - (a0_0.size : Int)))] ?_ rfl rfl rfl rfl; (with_reducible refine (F58.calls k _ _ l0_1 (wrap64 (a1 - (a0_0.size : Int))) t107 _ ?s1 ?s2 A6.out).mono ?_); (case s1 => exact au1_5); (case s2 => exact HC0_1.out); rintro e w10 ⟨rfl, hb⟩; refine ⟨_, rfl, ?_⟩; replace BK106 := bb_ BK106 hb; replace HB := hs_ w hb; (try clear hb)))
  go_ret
  exact ⟨au1_0, bl_⟩
 obtain rfl := Option.some.inj H
 go_enter Tryd.func29, Tryd.ntmps29
 go_wp2_with (first | ((with_reducible refine gate_dst (N := 2) rfl ?_); refine be_ 2 #[.string a0_0, .slice A0_1 l0_1.length c0_1] 63 ?_; intro gb106 hg w11 hbox hb; have BK106 := am_ (hbox); have GW106 := am_ (gw_ hg bl_); have GE106 := GW106; replace HB := hs_ w hb; clear hb hbox hg; obtain ⟨hcz12_0, hcz12_1, hfz12_0, hfz12_1⟩ := cellsF2 BK106.out) | ((with_reducible refine gate_callee (f := 58) rfl ?_); refine gl_ 15 Tryd.func58 #[.slice A0_1 l0_1.length c0_1, .int .i64 (wrap64 (a1 - (a0_0.size : Int)))] ?_ rfl rfl rfl rfl; (with_reducible refine (F58.calls k _ _ l0_1 (wrap64 (a1 - (a0_0.size : Int))) t107 _ ?s1 ?s2 A6.out).mono ?_); (case s1 => exact au1_5); (case s2 => exact HC0_1.out); rintro e w13 ⟨rfl, hb⟩; refine ⟨_, rfl, ?_⟩; replace BK106 := bb_ BK106 hb; replace HB := hs_ w hb; (try clear hb)))
 go_ret
 exact ⟨au1_0, bl_⟩

/-! ### F11: function 11 -/
def F11.l0 : Nat → List (S63) → Int → Int → Option (Int)
  | 0, _, _, _ => none
  | k + 1, x0, x1, x5 => if x5 < (x0.length : Int) then (if 0 ≤ x5 then ((F29.f k ((rd_T63 x0 x5).f0) ((rd_T63 x0 x5).f1) x1).bind fun t109 => (if t109 < 0 then (some (-1)) else (F11.l0 k x0 t109 (wrap64 (x5 + 1))))) else (none)) else (some x1)
def F11.f (k : Nat) (l0 : List (S63)) (a1 : Int) : Option (Int) := if (wrap64 (a1 - (l0.length : Int))) < 0 then (some (-1)) else (F11.l0 k l0 (wrap64 (a1 - (l0.length : Int))) 0)
theorem F11.mono_l : ∀ k, (∀ y0 y1 y2, LeO (F11.l0 k y0 y1 y2) (F11.l0 (k + 1) y0 y1 y2))
 | 0 => fun _ _ _ r h => by simp [F11.l0] at h
 | k + 1 => by
  have ih0 := F11.mono_l k
  intro y0 y1 y2
  unfold F11.l0
  repeat' with_reducible first | exact ih0 _ _ _ | exact F29.mono _ _ _ _ | exact LeO.refl _ | exact LeO.none _ | refine LeO.ite ?_ ?_ | refine LeO.bind ?_ (fun _ => ?_)
theorem F11.mono : ∀ a0 a1 k, LeO (F11.f k a0 a1) (F11.f (k + 1) a0 a1) := by
 intro a0 a1 k
 have ih0 := F11.mono_l k
 unfold F11.f
 repeat' with_reducible first | exact ih0 _ _ _ | exact F29.mono _ _ _ _ | exact LeO.refl _ | exact LeO.none _ | refine LeO.ite ?_ ?_ | refine LeO.bind ?_ (fun _ => ?_)
theorem F11.calls (k : Nat) (A0 : Option Addr) (c0 : Nat) (l0 : List (S63)) (a1 : Int) (r : Int) (w : World) (hr0 : Kd.C k63 w A0 l0.length l0) (hc0 : l0.length ≤ c0) (h : F11.f k l0 a1 = some r) :
  Calls Tryd.prog 11 #[.slice A0 l0.length c0, .int .i64 a1] w fun e w' => e = .returned (.int .i64 r) ∧ Below w.heap.size w w' := by
 have hu63 := Tryd.underlying63
 have HR0 := am_ hr0
 have HC0 := am_ hc0
 clear hr0 hc0
 have HB := am_ (Below.refl w.heap.size w)
 have H : (if (wrap64 (a1 - (l0.length : Int))) < 0 then (some (-1)) else (F11.l0 k l0 (wrap64 (a1 - (l0.length : Int))) 0)) = some r := h
 clear h
 replace H := it_ H; rcases H with ⟨c3b0, H⟩ | ⟨c3b0, H⟩
 ·obtain rfl := Option.some.inj H
  go_enter Tryd.func11, Tryd.ntmps11
  go_wp2
  go_ret
  exact ⟨au1_0, bl_⟩
 have H' := am_ H
 clear H
 go_enter Tryd.func11, Tryd.ntmps11
 go_wp2
 go_loopg [1, 5] k (fun kq v1 v5 w' => ∃ (x1_1 : Int) (x5_1 : Int), v1 = .int .i64 x1_1 ∧ v5 = .int .i64 x5_1 ∧ Aside0 (F11.l0 kq l0 x1_1 x5_1 = some r) ∧ Aside0 (kq ≤ k) ∧ Aside0 (Below w.heap.size w w'))
 case atStart => exact ⟨(wrap64 (a1 - (l0.length : Int))), (0), er_, er_, H', ⟨Nat.le_refl _⟩, ⟨bl_⟩⟩
 case round =>
  clear H'
  try clear c3b0
  obtain ⟨x1_1, x5_1, rfl, rfl, HA, HK1, HB⟩ := hrel
  cases gk with
  | zero => exact absurd HA.out (by simp [F11.l0])
  | succ k1 =>
   have H := HA.out
   clear HA
   simp only [F11.l0] at H
   replace H := it_ H; rcases H with ⟨c4b0, H⟩ | ⟨c4b0, H⟩
   rotate_left
   ·obtain rfl := Option.some.inj H
    go_wp2
    go_ret
    exact ⟨au1_0, bl_⟩

   replace H := itn_ H; rcases H with ⟨c5b0, H⟩
   replace H := bi_ H; rcases H with ⟨t109, A6, H⟩
   replace H := it_ H; rcases H with ⟨c7b0, H⟩ | ⟨c7b0, H⟩
   ·obtain rfl := Option.some.inj H
    have p108 : 0 ≤ (x5_1 : Int) := od_
    have q108 : x5_1 < (l0.length : Int) := od_
    obtain ⟨ad108, A108_1, c108_1, e108, hx108_0, hx108_1, hl108_1, hi108_1⟩ := at_T63 HR0.out x5_1 p108 q108
    cases e108
    replace hx108_0 := (HB.out.cell (World.block_lt_of_cell? _ _ hx108_0)).trans hx108_0
    replace hx108_1 := (HB.out.cell (World.block_lt_of_cell? _ _ hx108_1)).trans hx108_1
    have HR108_1 := am_ hi108_1
    have HC108_1 := am_ hl108_1
    clear hi108_1 hl108_1
    replace p108 := eq_true p108
    replace q108 := eq_true q108
    go_wp2_with (first | ((with_reducible refine gate_callee (f := 29) rfl ?_); refine gl_ 23 Tryd.func29 #[.agg #[.string ((rd_T63 l0 x5_1).f0), .slice A108_1 ((rd_T63 l0 x5_1).f1).length c108_1], .int .i64 x1_1] ?_ rfl rfl rfl rfl; (with_reducible refine (F29.calls k1 ((rd_T63 l0 x5_1).f0) _ _ ((rd_T63 l0 x5_1).f1) x1_1 t109 _ ?s1 ?s2 A6.out).mono ?_); (case s1 => exact au1_3); (case s2 => exact HC108_1.out); rintro e w8 ⟨rfl, hb⟩; refine ⟨_, rfl, ?_⟩; replace HB := hs_ w hb; (try clear hb)))
    go_ret
    exact ⟨au1_0, bl_⟩
   have H' := am_ H
   clear H
   have p108 : 0 ≤ (x5_1 : Int) := od_
   have q108 : x5_1 < (l0.length : Int) := od_
   obtain ⟨ad108, A108_1, c108_1, e108, hx108_0, hx108_1, hl108_1, hi108_1⟩ := at_T63 HR0.out x5_1 p108 q108
   cases e108
   replace hx108_0 := (HB.out.cell (World.block_lt_of_cell? _ _ hx108_0)).trans hx108_0
   replace hx108_1 := (HB.out.cell (World.block_lt_of_cell? _ _ hx108_1)).trans hx108_1
   have HR108_1 := am_ hi108_1
   have HC108_1 := am_ hl108_1
   clear hi108_1 hl108_1
   replace p108 := eq_true p108
   replace q108 := eq_true q108
   go_wp2_with (first | ((with_reducible refine gate_callee (f := 29) rfl ?_); refine gl_ 23 Tryd.func29 #[.agg #[.string ((rd_T63 l0 x5_1).f0), .slice A108_1 ((rd_T63 l0 x5_1).f1).length c108_1], .int .i64 x1_1] ?_ rfl rfl rfl rfl; (with_reducible refine (F29.calls k1 ((rd_T63 l0 x5_1).f0) _ _ ((rd_T63 l0 x5_1).f1) x1_1 t109 _ ?s1 ?s2 A6.out).mono ?_); (case s1 => exact au1_3); (case s2 => exact HC108_1.out); rintro e w9 ⟨rfl, hb⟩; refine ⟨_, rfl, ?_⟩; replace HB := hs_ w hb; (try clear hb)))
   go_roundg k1
   case measure => have := HK1.out; omega
   case rel => exact ⟨(t109), (wrap64 (x5_1 + 1)), er_, er_, H', ⟨by have := HK1.out; omega⟩, ⟨bl_⟩⟩
/-! ### F50: function 50 -/
def F50.l0 : Nat → Int → Bool → ByteArray → Option (ByteArray)
  | 0, _, _, _ => none
  | k + 1, x0, x3, x4 => if x0 = 0 then (if x3 = true then (if 1 + x4.size ≤ 9223372036854775807 then (some ((⟨#[45]⟩ : ByteArray) ++ x4)) else (none)) else (some x4)) else (if (Int.tmod x0 10) < 0 then ((some (([(wrap64 (48 + (wrap64 (-(Int.tmod x0 10))))) % 256] : List Int) : List Int)).bind fun y110 => (if (strOfNums y110).size + x4.size ≤ 9223372036854775807 then (F50.l0 k (wrap64 (Int.tdiv x0 10)) x3 ((strOfNums y110) ++ x4)) else (none))) else ((some (([(wrap64 (48 + (Int.tmod x0 10))) % 256] : List Int) : List Int)).bind fun y113 => (if (strOfNums y113).size + x4.size ≤ 9223372036854775807 then (F50.l0 k (wrap64 (Int.tdiv x0 10)) x3 ((strOfNums y113) ++ x4)) else (none))))
def F50.f (k : Nat) (a0 : Int) : Option (ByteArray) := if a0 = 0 then (some (⟨#[48]⟩ : ByteArray)) else (F50.l0 k a0 (decide (a0 < 0)) (⟨#[]⟩ : ByteArray))
theorem F50.mono_l : ∀ k, (∀ y0 y1 y2, LeO (F50.l0 k y0 y1 y2) (F50.l0 (k + 1) y0 y1 y2))
 | 0 => fun _ _ _ r h => by simp [F50.l0] at h
 | k + 1 => by
  have ih0 := F50.mono_l k
  intro y0 y1 y2
  unfold F50.l0
  repeat' with_reducible first | exact ih0 _ _ _ | exact LeO.refl _ | exact LeO.none _ | refine LeO.ite ?_ ?_ | refine LeO.bind ?_ (fun _ => ?_)
theorem F50.mono : ∀ a0 k, LeO (F50.f k a0) (F50.f (k + 1) a0) := by
 intro a0 k
 have ih0 := F50.mono_l k
 unfold F50.f
 repeat' with_reducible first | exact ih0 _ _ _ | exact LeO.refl _ | exact LeO.none _ | refine LeO.ite ?_ ?_ | refine LeO.bind ?_ (fun _ => ?_)
theorem F50.calls (k : Nat) (a0 : Int) (r : ByteArray) (w : World) (h : F50.f k a0 = some r) :
  Calls Tryd.prog 50 #[.int .i64 a0] w fun e w' => e = .returned (.string r) ∧ Below w.heap.size w w' := by
 have HB := am_ (Below.refl w.heap.size w)
 have H : (if a0 = 0 then (some (⟨#[48]⟩ : ByteArray)) else (F50.l0 k a0 (decide (a0 < 0)) (⟨#[]⟩ : ByteArray))) = some r := h
 clear h
 by_cases c2 : a0 = 0
 ·rw [if_pos c2] at H
  have c2b0 : (a0 == 0) = true := beq_iff_eq.mpr c2
  have c2b1 : (a0 != 0) = false := bne_eq_false_iff_eq.mpr c2
  clear c2
  obtain rfl := Option.some.inj H
  go_enter Tryd.func50, Tryd.ntmps50
  go_wp2
  all_goals try (exfalso; first | (have h_ := of_decide_eq_true c4b0; omega) | (have h_ := of_decide_eq_false c4b0; omega))
  go_ret
  exact ⟨au1_0, bl_⟩
 rw [if_neg c2] at H
 have c2b0 : (a0 == 0) = false := beq_eq_false_iff_ne.mpr c2
 have c2b1 : (a0 != 0) = true := bne_iff_ne.mpr c2
 have H' := am_ H
 clear H
 go_enter Tryd.func50, Tryd.ntmps50
 go_wp2
 all_goals try (exfalso; first | (have h_ := of_decide_eq_true c4b0; omega) | (have h_ := of_decide_eq_false c4b0; omega))
 go_loopg [0, 4] k (fun kq v0 v4 w' => ∃ (x0_1 : Int) (x4_1 : ByteArray), v0 = .int .i64 x0_1 ∧ v4 = .string x4_1 ∧ Aside0 (F50.l0 kq x0_1 (decide (a0 < 0)) x4_1 = some r) ∧ Aside0 (kq ≤ k) ∧ Aside0 (Below w.heap.size w w'))
 case atStart => exact ⟨(a0), ((⟨#[]⟩ : ByteArray)), er_, er_, H', ⟨Nat.le_refl _⟩, ⟨bl_⟩⟩
 case round =>
  clear H'
  try clear c2
  try clear c2b0
  try clear c2b1
  obtain ⟨x0_1, x4_1, rfl, rfl, HA, HK1, HB⟩ := hrel
  cases gk with
  | zero => exact absurd HA.out (by simp [F50.l0])
  | succ k1 =>
   have H := HA.out
   clear HA
   simp only [F50.l0] at H
   by_cases c3 : x0_1 = 0
   ·rw [if_pos c3] at H
    have c3b0 : (x0_1 == 0) = true := beq_iff_eq.mpr c3
    have c3b1 : (x0_1 != 0) = false := bne_eq_false_iff_eq.mpr c3
    clear c3
    by_cases c4 : (decide (a0 < 0)) = true
    rotate_left
    ·rw [if_neg c4] at H
     have c4b0 : (decide (a0 < 0)) = false := by simpa using c4
     clear c4
     obtain rfl := Option.some.inj H
     go_wp2
     all_goals try (exfalso; first | (have h_ := of_decide_eq_true c4b0; omega) | (have h_ := of_decide_eq_false c4b0; omega))
     go_ret
     exact ⟨au1_0, bl_⟩
    rw [if_pos c4] at H
    have c4b0 : (decide (a0 < 0)) = true := c4
    clear c4
    by_cases c5 : 1 + x4_1.size ≤ 9223372036854775807
    rotate_left
    ·rw [if_neg c5] at H
     exact absurd H (by simp)
    rw [if_pos c5] at H
    have c5b0 := eq_true c5
    have c5b1 : decide (1 + x4_1.size ≤ 9223372036854775807) = true := decide_eq_true c5
    try have c5b2 : (9223372036854775807 < 1 + x4_1.size) = False := eq_false (Nat.not_lt.2 c5)
    obtain rfl := Option.some.inj H
    go_wp2
    all_goals try (exfalso; first | (have h_ := of_decide_eq_true c4b0; omega) | (have h_ := of_decide_eq_false c4b0; omega))
    go_ret
    exact ⟨au1_0, bl_⟩
   rw [if_neg c3] at H
   have c3b0 : (x0_1 == 0) = false := beq_eq_false_iff_ne.mpr c3
   have c3b1 : (x0_1 != 0) = true := bne_iff_ne.mpr c3
   replace H := it_ H; rcases H with ⟨c6b0, H⟩ | ⟨c6b0, H⟩
   ·obtain ⟨y110, hy110⟩ : ∃ y_ : List Int, y_ = (([(wrap64 (48 + (wrap64 (-(Int.tmod x0_1 10))))) % 256] : List Int)) := ⟨_, rfl⟩
    replace H : (if (strOfNums y110).size + x4_1.size ≤ 9223372036854775807 then (F50.l0 k1 (wrap64 (Int.tdiv x0_1 10)) (decide (a0 < 0)) ((strOfNums y110) ++ x4_1)) else (none)) = some r := by first | (rw [hy110]; exact H) | exact H
    have Ny110 := am_ hy110
    clear hy110
    by_cases c7 : (strOfNums y110).size + x4_1.size ≤ 9223372036854775807
    rotate_left
    ·rw [if_neg c7] at H
     exact absurd H (by simp)
    rw [if_pos c7] at H
    have c7b0 := eq_true c7
    have c7b1 : decide ((strOfNums y110).size + x4_1.size ≤ 9223372036854775807) = true := decide_eq_true c7
    try have c7b2 : (9223372036854775807 < (strOfNums y110).size + x4_1.size) = False := eq_false (Nat.not_lt.2 c7)
    have H' := am_ H
    clear H
    go_wp2_with (first | ((with_reducible refine gate_dst (N := 21) rfl ?_); refine Kd.R_lit (Kd.int .u8) _ 5 ?hg (N := 21) ?hd (xs := ([(wrap64 (48 + (wrap64 (-(Int.tmod x0_1 10))))) % 256] : List Int)) (inner := [.int .u8 ((wrap64 (48 + (wrap64 (-(Int.tmod x0_1 10))))) % 256)]) (ok := fun _ => True) (okp := fun _ => True) ?hr ?hp (fun _ hk => hk) trivial (Below.refl _ _) (Nat.le_refl _) (by simp) ?_; (case hd => rfl); (case hg => rfl); (case hr => exact hr_); (case hp => exact (Reps.one (show Kd.M (Kd.int .u8) _ _ _ ((wrap64 (48 + (wrap64 (-(Int.tmod x0_1 10))))) % 256) [.int .u8 ((wrap64 (48 + (wrap64 (-(Int.tmod x0_1 10))))) % 256)] from rfl) (Reps.none _ _))); intro v111 w8 ho9 hb hg_ hnew_; clear hg_ hnew_; (first | rw [← Ny110.out] at ho9 | (simp only [Int.reduceToNat] at ho9; rw [← Ny110.out] at ho9)); have HO112 := am_ (Kd.R_lower ho9 (below_size bl_)); replace HB := hs_ w hb; clear hb ho9; have hcv10 := own_string (P := Tryd.prog) Tryd.underlying45 Tryd.underlying5 Tryd.underlying9 (Kd.own_of_R HO112.out)))
    go_roundg k1
    case measure => have := HK1.out; omega
    case rel => exact ⟨(wrap64 (Int.tdiv x0_1 10)), ((strOfNums y110) ++ x4_1), er_, er_, H', ⟨by have := HK1.out; omega⟩, ⟨bl_⟩⟩
   obtain ⟨y113, hy113⟩ : ∃ y_ : List Int, y_ = (([(wrap64 (48 + (Int.tmod x0_1 10))) % 256] : List Int)) := ⟨_, rfl⟩
   replace H : (if (strOfNums y113).size + x4_1.size ≤ 9223372036854775807 then (F50.l0 k1 (wrap64 (Int.tdiv x0_1 10)) (decide (a0 < 0)) ((strOfNums y113) ++ x4_1)) else (none)) = some r := by first | (rw [hy113]; exact H) | exact H
   have Ny113 := am_ hy113
   clear hy113
   by_cases c11 : (strOfNums y113).size + x4_1.size ≤ 9223372036854775807
   rotate_left
   ·rw [if_neg c11] at H
    exact absurd H (by simp)

   rw [if_pos c11] at H
   have c11b0 := eq_true c11
   have c11b1 : decide ((strOfNums y113).size + x4_1.size ≤ 9223372036854775807) = true := decide_eq_true c11
   try have c11b2 : (9223372036854775807 < (strOfNums y113).size + x4_1.size) = False := eq_false (Nat.not_lt.2 c11)
   have H' := am_ H
   clear H
   go_wp2_with (first | ((with_reducible refine gate_dst (N := 21) rfl ?_); refine Kd.R_lit (Kd.int .u8) _ 5 ?hg (N := 21) ?hd (xs := ([(wrap64 (48 + (Int.tmod x0_1 10))) % 256] : List Int)) (inner := [.int .u8 ((wrap64 (48 + (Int.tmod x0_1 10))) % 256)]) (ok := fun _ => True) (okp := fun _ => True) ?hr ?hp (fun _ hk => hk) trivial (Below.refl _ _) (Nat.le_refl _) (by simp) ?_; (case hd => rfl); (case hg => rfl); (case hr => exact hr_); (case hp => exact (Reps.one (show Kd.M (Kd.int .u8) _ _ _ ((wrap64 (48 + (Int.tmod x0_1 10))) % 256) [.int .u8 ((wrap64 (48 + (Int.tmod x0_1 10))) % 256)] from rfl) (Reps.none _ _))); intro v114 w12 ho13 hb hg_ hnew_; clear hg_ hnew_; (first | rw [← Ny113.out] at ho13 | (simp only [Int.reduceToNat] at ho13; rw [← Ny113.out] at ho13)); have HO115 := am_ (Kd.R_lower ho13 (below_size bl_)); replace HB := hs_ w hb; clear hb ho13; have hcv14 := own_string (P := Tryd.prog) Tryd.underlying45 Tryd.underlying5 Tryd.underlying9 (Kd.own_of_R HO115.out)))
   go_roundg k1
   case measure => have := HK1.out; omega
   case rel => exact ⟨(wrap64 (Int.tdiv x0_1 10)), ((strOfNums y113) ++ x4_1), er_, er_, H', ⟨by have := HK1.out; omega⟩, ⟨bl_⟩⟩
/-! ### F30: function 30 -/
mutual
def F30.j0 : Nat → ByteArray → Bool → Option (Int × Bool)
  | 0, _, _ => none
  | k + 1, x0, x4 => if x4 = true then (if 1 ≤ (x0.size : Int) then (F30.j1 k x0 x4 (x0.extract 1 x0.size)) else (none)) else (F30.j1 k x0 x4 x0)
def F30.j1 : Nat → ByteArray → Bool → ByteArray → Option (Int × Bool)
  | 0, _, _, _ => none
  | k + 1, x0, x4, x5 => if (x5.size : Int) < 1 then (F30.j2 k x0 x4 x5 true) else (F30.j2 k x0 x4 x5 (decide ((x5.size : Int) > 12)))
def F30.j2 : Nat → ByteArray → Bool → ByteArray → Bool → Option (Int × Bool)
  | 0, _, _, _, _ => none
  | k + 1, x0, x4, x5, x27 => if x27 = true then (some (0, false)) else (F30.l0 k x0 x4 x5 0 0)
def F30.l0 : Nat → ByteArray → Bool → ByteArray → Int → Int → Option (Int × Bool)
  | 0, _, _, _, _, _ => none
  | k + 1, x0, x4, x5, x6, x7 => if x7 < (x5.size : Int) then (if 0 ≤ x7 then (if (bt x5 x7) < 48 then (some (0, false)) else (if (bt x5 x7) > 57 then (some (0, false)) else (F30.l0 k x0 x4 x5 (wrap64 ((wrap64 (10 * x6)) + (((bt x5 x7) - 48) % 256))) (wrap64 (x7 + 1))))) else (none)) else (if x4 = true then ((F50.f k (wrap64 (-x6))).bind fun t116 => (some (wrap64 (-x6), (t116.toList == x0.toList)))) else ((F50.f k x6).bind fun t117 => (some (x6, (t117.toList == x0.toList)))))
end
def F30.f (k : Nat) (a0 : ByteArray) : Option (Int × Bool) := if (a0.size : Int) > 0 then (if 0 < (a0.size : Int) then (F30.j0 k a0 ((bt a0 0) == 45)) else (none)) else (F30.j0 k a0 false)
theorem F30.mono_l : ∀ k, (∀ y0 y1, LeO (F30.j0 k y0 y1) (F30.j0 (k + 1) y0 y1)) ∧ (∀ y0 y1 y2, LeO (F30.j1 k y0 y1 y2) (F30.j1 (k + 1) y0 y1 y2)) ∧ (∀ y0 y1 y2 y3, LeO (F30.j2 k y0 y1 y2 y3) (F30.j2 (k + 1) y0 y1 y2 y3)) ∧ (∀ y0 y1 y2 y3 y4, LeO (F30.l0 k y0 y1 y2 y3 y4) (F30.l0 (k + 1) y0 y1 y2 y3 y4))
 | 0 => ⟨fun _ _ r h => by simp [F30.j0] at h, fun _ _ _ r h => by simp [F30.j1] at h, fun _ _ _ _ r h => by simp [F30.j2] at h, fun _ _ _ _ _ r h => by simp [F30.l0] at h⟩
 | k + 1 => by
  obtain ⟨ih0, ih1, ih2, ih3⟩ := F30.mono_l k
  refine ⟨?_, ?_, ?_, ?_⟩
  rotate_left
  ·intro y0 y1 y2
   unfold F30.j1
   repeat' with_reducible first | exact ih0 _ _ | exact ih1 _ _ _ | exact ih2 _ _ _ _ | exact ih3 _ _ _ _ _ | exact F50.mono _ _ | exact LeO.refl _ | exact LeO.none _ | refine LeO.ite ?_ ?_ | refine LeO.bind ?_ (fun _ => ?_)
  ·intro y0 y1 y2 y3
   unfold F30.j2
   repeat' with_reducible first | exact ih0 _ _ | exact ih1 _ _ _ | exact ih2 _ _ _ _ | exact ih3 _ _ _ _ _ | exact F50.mono _ _ | exact LeO.refl _ | exact LeO.none _ | refine LeO.ite ?_ ?_ | refine LeO.bind ?_ (fun _ => ?_)
  ·intro y0 y1 y2 y3 y4
   unfold F30.l0
   repeat' with_reducible first | exact ih0 _ _ | exact ih1 _ _ _ | exact ih2 _ _ _ _ | exact ih3 _ _ _ _ _ | exact F50.mono _ _ | exact LeO.refl _ | exact LeO.none _ | refine LeO.ite ?_ ?_ | refine LeO.bind ?_ (fun _ => ?_)
  intro y0 y1
  unfold F30.j0
  repeat' with_reducible first | exact ih0 _ _ | exact ih1 _ _ _ | exact ih2 _ _ _ _ | exact ih3 _ _ _ _ _ | exact F50.mono _ _ | exact LeO.refl _ | exact LeO.none _ | refine LeO.ite ?_ ?_ | refine LeO.bind ?_ (fun _ => ?_)
theorem F30.mono : ∀ a0 k, LeO (F30.f k a0) (F30.f (k + 1) a0) := by
 intro a0 k
 obtain ⟨ih0, ih1, ih2, ih3⟩ := F30.mono_l k
 unfold F30.f
 repeat' with_reducible first | exact ih0 _ _ | exact ih1 _ _ _ | exact ih2 _ _ _ _ | exact ih3 _ _ _ _ _ | exact F50.mono _ _ | exact LeO.refl _ | exact LeO.none _ | refine LeO.ite ?_ ?_ | refine LeO.bind ?_ (fun _ => ?_)
theorem F30.calls (k : Nat) (a0 : ByteArray) (r1 : Int) (r2 : Bool) (w : World) (h : F30.f k a0 = some (r1, r2)) :
  Calls Tryd.prog 30 #[.string a0] w fun e w' => e = .returned (.tuple #[.int .i64 r1, .bool r2]) ∧ Below w.heap.size w w' := by
 have HB := am_ (Below.refl w.heap.size w)
 have H : (if (a0.size : Int) > 0 then (if 0 < (a0.size : Int) then (F30.j0 k a0 ((bt a0 0) == 45)) else (none)) else (F30.j0 k a0 false)) = some (r1, r2) := h
 clear h
 have HC2 := am_ H
 clear H
 go_enter Tryd.func30, Tryd.ntmps30
 go_upto_region 1 with (fail)
 go_cut [4] (fun v4 wc => ∃ (kq : Nat) (x4_1 : Bool), v4 = .bool x4_1 ∧ Aside0 (F30.j0 kq a0 x4_1 = some (r1, r2)) ∧ Aside0 (kq ≤ k) ∧ Aside0 (Below w.heap.size w wc))
 case first =>
  have H := HC2.out
  clear HC2
  replace H := it_ H; rcases H with ⟨(c3b0 : decide (0 < (a0.size : Int)) = true), H⟩ | ⟨(c3b0 : decide (0 < (a0.size : Int)) = false), H⟩
  rotate_left
  ·have c3b1 : decide (0 < a0.size) = false := n2_ c3b0
   (first | rw [c3b0] | (simp only [i64_w, i32_w]; rw [c3b0]) | skip)
   have H' := am_ H
   clear H
   go_wp2
   go_meet
   case rel => exact ⟨_, (false), er_, H', ⟨au1_1⟩, ⟨bl_⟩⟩
  have c3b1 : decide (0 < a0.size) = true := n2_ c3b0
  (first | rw [c3b0] | (simp only [i64_w, i32_w]; rw [c3b0]) | skip)
  replace H := itn_ H; rcases H with ⟨c4b0, H⟩
  have c4b1 : decide (0 < a0.size) = true := n2_ c4b0
  have H' := am_ H
  clear H
  have p5 : 0 ≤ (0 : Int) := (by omega)
  have q5 : 0 < a0.size := (by have : (0 : Int) < (a0.size : Int) := od_; omega)
  have hx5 : ∀ h : 0 < a0.size, ((a0[0]'h).toNat : Int) = bt a0 0 := bt_at a0 0
  clear p5
  have qi5 : (0 < (a0.size : Int)) = True := eq_true (of_decide_eq_true as_)
  replace q5 := eq_true q5
  go_wp2
  go_meet
  case rel => exact ⟨_, (((bt a0 0) == 45)), er_, H', ⟨au1_1⟩, ⟨bl_⟩⟩
 case rest =>
  clear HC2
  try clear c3b0
  try clear c3b1
  try clear c4b0
  try clear c4b1
  try clear p5
  try clear q5
  try clear hx5
  try clear qi5
  try clear p5
  try clear q5
  obtain ⟨kq, x4_1, rfl, HA, HJ1, HB⟩ := hcut
  cases kq with
  | zero => exact absurd HA.out (by simp [F30.j0])
  | succ kj1 =>
   have H := HA.out
   clear HA
   simp only [F30.j0] at H
   have HC6 := am_ H
   clear H
   go_upto_if 17 with (fail)
   go_cut [5] (fun v5 wc => ∃ (kq : Nat) (x5_5 : ByteArray), v5 = .string x5_5 ∧ Aside0 (F30.j1 kq a0 x4_1 x5_5 = some (r1, r2)) ∧ Aside0 (kq ≤ kj1) ∧ Aside0 (Below w.heap.size w wc))
   case first =>
    have H := HC6.out
    clear HC6
    replace H := ib_ H; rcases H with ⟨rfl, H⟩ | ⟨rfl, H⟩
    rotate_left
    ·have H' := am_ H
     clear H
     go_wp2
     go_meet
     case rel => exact ⟨_, (a0), er_, H', ⟨by have := HJ1.out; first | omega | exact Nat.le_refl _⟩, ⟨bl_⟩⟩
    by_cases c8 : 1 ≤ (a0.size : Int)
    rotate_left
    ·rw [if_neg c8] at H
     exact absurd H (by simp)
    rw [if_pos c8] at H
    have c8b0 := eq_true c8
    have c8b1 : decide (1 ≤ (a0.size : Int)) = true := decide_eq_true c8
    clear c8
    have H' := am_ H
    clear H
    go_wp2
    go_meet
    case rel => exact ⟨_, (a0.extract 1 a0.size), er_, H', ⟨by have := HJ1.out; first | omega | exact Nat.le_refl _⟩, ⟨bl_⟩⟩
   case rest =>
    clear HC6
    try clear c3b0
    try clear c3b1
    try clear c4b0
    try clear c4b1
    try clear p5
    try clear q5
    try clear hx5
    try clear qi5
    try clear c8
    try clear c8b0
    try clear c8b1
    try clear p5
    try clear q5
    obtain ⟨kq, x5_5, rfl, HA, HJ5, HB⟩ := hcut
    cases kq with
    | zero => exact absurd HA.out (by simp [F30.j1])
    | succ kj5 =>
     have H := HA.out
     clear HA
     simp only [F30.j1] at H
     have HC9 := am_ H
     clear H
     go_upto_region 5 with (fail)
     go_cut [27] (fun v27 wc => ∃ (kq : Nat) (x27_8 : Bool), v27 = .bool x27_8 ∧ Aside0 (F30.j2 kq a0 x4_1 x5_5 x27_8 = some (r1, r2)) ∧ Aside0 (kq ≤ kj5) ∧ Aside0 (Below w.heap.size w wc))
     case first =>
      have H := HC9.out
      clear HC9
      replace H := it_ H; rcases H with ⟨c10b0, H⟩ | ⟨c10b0, H⟩
      rotate_left
      ·have c10b1 : decide (x5_5.size < 1) = false := n2_ c10b0
       (first | rw [c10b0] | (simp only [i64_w, i32_w]; rw [c10b0]) | skip)
       have H' := am_ H
       clear H
       go_wp2
       go_meet
       case rel => exact ⟨_, (decide ((x5_5.size : Int) > 12)), er_, H', ⟨au1_7⟩, ⟨bl_⟩⟩
      have c10b1 : decide (x5_5.size < 1) = true := n2_ c10b0
      (first | rw [c10b0] | (simp only [i64_w, i32_w]; rw [c10b0]) | skip)
      have H' := am_ H
      clear H
      go_wp2
      go_meet
      case rel => exact ⟨_, (true), er_, H', ⟨au1_7⟩, ⟨bl_⟩⟩
     case rest =>
      clear HC9
      try clear c3b0
      try clear c3b1
      try clear c4b0
      try clear c4b1
      try clear p5
      try clear q5
      try clear hx5
      try clear qi5
      try clear c8
      try clear c8b0
      try clear c8b1
      try clear c10b0
      try clear c10b1
      try clear p5
      try clear q5
      obtain ⟨kq, x27_8, rfl, HA, HJ8, HB⟩ := hcut
      cases kq with
      | zero => exact absurd HA.out (by simp [F30.j2])
      | succ kj8 =>
       have H := HA.out
       clear HA
       simp only [F30.j2] at H
       replace H := ib_ H; rcases H with ⟨rfl, H⟩ | ⟨rfl, H⟩
       ·simp only [Option.some.injEq, Prod.mk.injEq] at H
        obtain ⟨rfl, rfl⟩ := H
        go_wp2
        go_ret2
        exact ⟨au1_0, bl_⟩
       have H' := am_ H
       clear H
       go_wp2
       go_loopg [6, 7] kj8 (fun kq v6 v7 w' => ∃ (x6_4 : Int) (x7_4 : Int), v6 = .int .i64 x6_4 ∧ v7 = .int .i64 x7_4 ∧ Aside0 (F30.l0 kq a0 x4_1 x5_5 x6_4 x7_4 = some (r1, r2)) ∧ Aside0 (kq ≤ kj8) ∧ Aside0 (Below w.heap.size w w'))
       case atStart => exact ⟨(0), (0), er_, er_, H', ⟨Nat.le_refl _⟩, ⟨bl_⟩⟩
       case round =>
        clear H'
        try clear c3b0
        try clear c3b1
        try clear c4b0
        try clear c4b1
        try clear p5
        try clear q5
        try clear hx5
        try clear qi5
        try clear c8
        try clear c8b0
        try clear c8b1
        try clear c10b0
        try clear c10b1
        try clear p5
        try clear q5
        obtain ⟨x6_4, x7_4, rfl, rfl, HA, HK4, HB⟩ := hrel
        cases gk with
        | zero => exact absurd HA.out (by simp [F30.l0])
        | succ k4 =>
         have H := HA.out
         clear HA
         simp only [F30.l0] at H
         replace H := it_ H; rcases H with ⟨c12b0, H⟩ | ⟨c12b0, H⟩
         rotate_left
         ·replace H := ib_ H; rcases H with ⟨rfl, H⟩ | ⟨rfl, H⟩
          ·replace H := bi_ H; rcases H with ⟨t116, A20, H⟩
           simp only [Option.some.injEq, Prod.mk.injEq] at H
           obtain ⟨rfl, rfl⟩ := H
           go_wp2_with (first | ((with_reducible refine gate_callee (f := 50) rfl ?_); refine gl_ 57 Tryd.func50 #[.int .i64 (wrap64 (-x6_4))] ?_ rfl rfl rfl rfl; (with_reducible refine (F50.calls k4 (wrap64 (-x6_4)) t116 _ A20.out).mono ?_); rintro e w21 ⟨rfl, hb⟩; refine ⟨_, rfl, ?_⟩; replace HB := hs_ w hb; (try clear hb)))
           go_ret2
           exact ⟨au1_0, bl_⟩
          replace H := bi_ H; rcases H with ⟨t117, A22, H⟩
          simp only [Option.some.injEq, Prod.mk.injEq] at H
          obtain ⟨rfl, rfl⟩ := H
          go_wp2_with (first | ((with_reducible refine gate_callee (f := 50) rfl ?_); refine gl_ 57 Tryd.func50 #[.int .i64 x6_4] ?_ rfl rfl rfl rfl; (with_reducible refine (F50.calls k4 x6_4 t117 _ A22.out).mono ?_); rintro e w23 ⟨rfl, hb⟩; refine ⟨_, rfl, ?_⟩; replace HB := hs_ w hb; (try clear hb)))
          go_ret2
          exact ⟨au1_0, bl_⟩

         replace H := itn_ H; rcases H with ⟨c13b0, H⟩
         replace H := it_ H; rcases H with ⟨c15b0, H⟩ | ⟨c15b0, H⟩
         ·simp only [Option.some.injEq, Prod.mk.injEq] at H
          obtain ⟨rfl, rfl⟩ := H
          have p14 : 0 ≤ (x7_4 : Int) := od_
          have q14 : x7_4 < (x5_5.size : Int) := od_
          have hx14 := bt_at x5_5 x7_4
          replace p14 := eq_true p14
          replace q14 := eq_true q14
          go_wp2
          go_ret2
          exact ⟨au1_0, bl_⟩
         replace H := it_ H; rcases H with ⟨(c17b0 : decide (57 < (bt x5_5 x7_4)) = true), H⟩ | ⟨(c17b0 : decide (57 < (bt x5_5 x7_4)) = false), H⟩
         ·simp only [Option.some.injEq, Prod.mk.injEq] at H
          obtain ⟨rfl, rfl⟩ := H
          have p14 : 0 ≤ (x7_4 : Int) := od_
          have q14 : x7_4 < (x5_5.size : Int) := od_
          have hx14 := bt_at x5_5 x7_4
          replace p14 := eq_true p14
          replace q14 := eq_true q14
          have p16 : 0 ≤ (x7_4 : Int) := od_
          have q16 : x7_4 < (x5_5.size : Int) := od_
          have hx16 := bt_at x5_5 x7_4
          replace p16 := eq_true p16
          replace q16 := eq_true q16
          go_wp2
          go_ret2
          exact ⟨au1_0, bl_⟩
         have H' := am_ H
         clear H
         have p14 : 0 ≤ (x7_4 : Int) := od_
         have q14 : x7_4 < (x5_5.size : Int) := od_
         have hx14 := bt_at x5_5 x7_4
         replace p14 := eq_true p14
         replace q14 := eq_true q14
         have p16 : 0 ≤ (x7_4 : Int) := od_
         have q16 : x7_4 < (x5_5.size : Int) := od_
         have hx16 := bt_at x5_5 x7_4
         replace p16 := eq_true p16
         replace q16 := eq_true q16
         have p18 : 0 ≤ (x7_4 : Int) := od_
         have q18 : x7_4 < (x5_5.size : Int) := od_
         have hx18 := bt_at x5_5 x7_4
         replace p18 := eq_true p18
         replace q18 := eq_true q18
         go_wp2
         go_roundg k4
         case measure => have := HJ1.out; have := HJ5.out; have := HJ8.out; have := HK4.out; omega
         case rel => exact ⟨(wrap64 ((wrap64 (10 * x6_4)) + (((bt x5_5 x7_4) - 48) % 256))), (wrap64 (x7_4 + 1)), er_, er_, H', ⟨by have := HJ1.out; have := HJ5.out; have := HJ8.out; have := HK4.out; omega⟩, ⟨bl_⟩⟩
/-! ### F31: function 31 -/
def F31.f (a0_0 : ByteArray) (l0_1 : List (S55)) (a1 : Int) (a2 : Int) : Option (ByteArray) := if a1 < 0 then (some (⟨#[]⟩ : ByteArray)) else (if a1 ≥ (l0_1.length : Int) then (some (⟨#[]⟩ : ByteArray)) else (if a2 < 0 then (some (⟨#[]⟩ : ByteArray)) else (if 0 ≤ a1 then (if a1 < (l0_1.length : Int) then (if a2 ≥ (((rd_T55 l0_1 a1).f0).length : Int) then (some (⟨#[]⟩ : ByteArray)) else (if 0 ≤ a2 then (if a2 < (((rd_T55 l0_1 a1).f0).length : Int) then (some (rdOf ByteArray.empty ((rd_T55 l0_1 a1).f0) a2)) else (none)) else (none))) else (none)) else (none))))
theorem F31.calls (a0_0 : ByteArray) (A0_1 : Option Addr) (c0_1 : Nat) (l0_1 : List (S55)) (a1 : Int) (a2 : Int) (r : ByteArray) (w : World) (hr0_1 : Kd.C k55 w A0_1 l0_1.length l0_1) (hc0_1 : l0_1.length ≤ c0_1) (h : F31.f a0_0 l0_1 a1 a2 = some r) :
  Calls Tryd.prog 31 #[.agg #[.string a0_0, .slice A0_1 l0_1.length c0_1], .int .i64 a1, .int .i64 a2] w fun e w' => e = .returned (.string r) ∧ Below w.heap.size w w' := by
 have hu52 := Tryd.underlying52
 have HR0_1 := am_ hr0_1
 have HC0_1 := am_ hc0_1
 clear hr0_1 hc0_1
 have HB := am_ (Below.refl w.heap.size w)
 have H : (if a1 < 0 then (some (⟨#[]⟩ : ByteArray)) else (if a1 ≥ (l0_1.length : Int) then (some (⟨#[]⟩ : ByteArray)) else (if a2 < 0 then (some (⟨#[]⟩ : ByteArray)) else (if 0 ≤ a1 then (if a1 < (l0_1.length : Int) then (if a2 ≥ (((rd_T55 l0_1 a1).f0).length : Int) then (some (⟨#[]⟩ : ByteArray)) else (if 0 ≤ a2 then (if a2 < (((rd_T55 l0_1 a1).f0).length : Int) then (some (rdOf ByteArray.empty ((rd_T55 l0_1 a1).f0) a2)) else (none)) else (none))) else (none)) else (none))))) = some r := h
 clear h
 replace H := it_ H; rcases H with ⟨c4b0, H⟩ | ⟨c4b0, H⟩
 ·obtain rfl := Option.some.inj H
  go_enter Tryd.func31, Tryd.ntmps31
  go_wp2_with (first | ((with_reducible refine gate_dst (N := 3) rfl ?_); (try (refine gate_guard (by rfl) ?_; dsimp only)); refine be_ 3 #[.string a0_0, .slice A0_1 l0_1.length c0_1] 52 ?_; intro gb118 hg w5 hbox hb; have BK118 := am_ (hbox); have GW118 := am_ (gw_ hg bl_); have GE118 := GW118; replace HB := hs_ w hb; clear hb hbox hg))
  go_ret
  exact ⟨au1_0, bl_⟩
 replace H := it_ H; rcases H with ⟨(c6b0 : decide ((l0_1.length : Int) ≤ a1) = true), H⟩ | ⟨(c6b0 : decide ((l0_1.length : Int) ≤ a1) = false), H⟩
 ·obtain rfl := Option.some.inj H
  go_enter Tryd.func31, Tryd.ntmps31
  go_wp2_with (first | ((with_reducible refine gate_dst (N := 3) rfl ?_); (try (refine gate_guard (by rfl) ?_; dsimp only)); refine be_ 3 #[.string a0_0, .slice A0_1 l0_1.length c0_1] 52 ?_; intro gb118 hg w7 hbox hb; have BK118 := am_ (hbox); have GW118 := am_ (gw_ hg bl_); have GE118 := GW118; replace HB := hs_ w hb; clear hb hbox hg; obtain ⟨hcz8_0, hcz8_1, hfz8_0, hfz8_1⟩ := cellsF2 BK118.out))
  go_ret
  exact ⟨au1_0, bl_⟩
 replace H := it_ H; rcases H with ⟨c9b0, H⟩ | ⟨c9b0, H⟩
 ·obtain rfl := Option.some.inj H
  go_enter Tryd.func31, Tryd.ntmps31
  go_wp2_with (first | ((with_reducible refine gate_dst (N := 3) rfl ?_); (try (refine gate_guard (by rfl) ?_; dsimp only)); refine be_ 3 #[.string a0_0, .slice A0_1 l0_1.length c0_1] 52 ?_; intro gb118 hg w10 hbox hb; have BK118 := am_ (hbox); have GW118 := am_ (gw_ hg bl_); have GE118 := GW118; replace HB := hs_ w hb; clear hb hbox hg; obtain ⟨hcz11_0, hcz11_1, hfz11_0, hfz11_1⟩ := cellsF2 BK118.out))
  go_ret
  exact ⟨au1_0, bl_⟩
 by_cases c12 : 0 ≤ a1
 rotate_left
 ·rw [if_neg c12] at H
  exact absurd H (by simp)

 rw [if_pos c12] at H
 have c12b0 : decide (0 ≤ a1) = true := decide_eq_true c12
 clear c12
 replace H := itn_ H; rcases H with ⟨c13b0, H⟩
 replace H := it_ H; rcases H with ⟨(c14b0 : decide ((((rd_T55 l0_1 a1).f0).length : Int) ≤ a2) = true), H⟩ | ⟨(c14b0 : decide ((((rd_T55 l0_1 a1).f0).length : Int) ≤ a2) = false), H⟩
 ·obtain rfl := Option.some.inj H
  go_enter Tryd.func31, Tryd.ntmps31
  go_wp2_with (first | ((with_reducible refine gate_dst (N := 3) rfl ?_); (try (refine gate_guard (by rfl) ?_; dsimp only)); refine be_ 3 #[.string a0_0, .slice A0_1 l0_1.length c0_1] 52 ?_; intro gb118 hg w15 hbox hb; have BK118 := am_ (hbox); have GW118 := am_ (gw_ hg bl_); have GE118 := GW118; replace HB := hs_ w hb; clear hb hbox hg; obtain ⟨hcz16_0, hcz16_1, hfz16_0, hfz16_1⟩ := cellsF2 BK118.out; have p119 : 0 ≤ (a1 : Int) := od_; have q119 : a1 < (l0_1.length : Int) := od_; obtain ⟨ad119, A119_0, c119_0, e119, hx119_0, hl119_0, hi119_0⟩ := at_T55 HR0_1.out a1 p119 q119; cases e119; replace hx119_0 := (HB.out.cell (World.block_lt_of_cell? _ _ hx119_0)).trans hx119_0; have HR119_0 := am_ hi119_0; have HC119_0 := am_ hl119_0; clear hi119_0 hl119_0; replace p119 := eq_true p119; replace q119 := eq_true q119))
  go_ret
  exact ⟨au1_0, bl_⟩
 replace H := itn_ H; rcases H with ⟨c17b0, H⟩
 replace H := itn_ H; rcases H with ⟨c18b0, H⟩
 obtain rfl := Option.some.inj H
 go_enter Tryd.func31, Tryd.ntmps31
 go_wp2_with (first | ((with_reducible refine gate_dst (N := 3) rfl ?_); (try (refine gate_guard (by rfl) ?_; dsimp only)); refine be_ 3 #[.string a0_0, .slice A0_1 l0_1.length c0_1] 52 ?_; intro gb118 hg w19 hbox hb; have BK118 := am_ (hbox); have GW118 := am_ (gw_ hg bl_); have GE118 := GW118; replace HB := hs_ w hb; clear hb hbox hg; obtain ⟨hcz20_0, hcz20_1, hfz20_0, hfz20_1⟩ := cellsF2 BK118.out; have p119 : 0 ≤ (a1 : Int) := od_; have q119 : a1 < (l0_1.length : Int) := od_; obtain ⟨ad119, A119_0, c119_0, e119, hx119_0, hl119_0, hi119_0⟩ := at_T55 HR0_1.out a1 p119 q119; cases e119; replace hx119_0 := (HB.out.cell (World.block_lt_of_cell? _ _ hx119_0)).trans hx119_0; have HR119_0 := am_ hi119_0; have HC119_0 := am_ hl119_0; clear hi119_0 hl119_0; replace p119 := eq_true p119; replace q119 := eq_true q119; have p120 : 0 ≤ (a1 : Int) := od_; have q120 : a1 < (l0_1.length : Int) := od_; obtain ⟨ad120, A120_0, c120_0, e120, hx120_0, hl120_0, hi120_0⟩ := at_T55 HR0_1.out a1 p120 q120; obtain rfl : ad119 = ad120 := (by injection e120); replace hx120_0 := (HB.out.cell (World.block_lt_of_cell? _ _ hx120_0)).trans hx120_0; have HR120_0 := am_ hi120_0; have HC120_0 := am_ hl120_0; clear hi120_0 hl120_0; replace p120 := eq_true p120; replace q120 := eq_true q120; have ea_ := Option.some.inj (hx119_0.symm.trans hx120_0); injection ea_ with ea_ en_ ec_; subst ea_; subst ec_; clear en_; have p121 : 0 ≤ (a2 : Int) := od_; have q121 : a2 < (((rd_T55 l0_1 a1).f0).length : Int) := od_; obtain ⟨ad121, e121, hx121_0⟩ := Kd.at_string HR120_0.out a2 p121 q121; cases e121; replace hx121_0 := (HB.out.cell (World.block_lt_of_cell? _ _ hx121_0)).trans hx121_0; replace p121 := eq_true p121; replace q121 := eq_true q121))
 go_ret
 exact ⟨au1_0, bl_⟩
/-! ### F32: function 32 -/
mutual
def F32.j0 : Nat → ByteArray → Bool → Option (Bool)
  | 0, _, _ => none
  | k + 1, x0, x22 => if x22 = true then (some false) else (F32.l0 k x0 0)
def F32.l0 : Nat → ByteArray → Int → Option (Bool)
  | 0, _, _ => none
  | k + 1, x0, x3 => if x3 < (x0.size : Int) then (if 0 ≤ x3 then (if (bt x0 x3) ≥ 65 then (if (bt x0 x3) ≤ 90 then (F32.l0 k x0 (wrap64 (x3 + 1))) else (if (bt x0 x3) ≥ 48 then (if (bt x0 x3) ≤ 57 then (F32.l0 k x0 (wrap64 (x3 + 1))) else (if ((bt x0 x3) = 45) then (F32.l0 k x0 (wrap64 (x3 + 1))) else (some false))) else (if ((bt x0 x3) = 45) then (F32.l0 k x0 (wrap64 (x3 + 1))) else (some false)))) else (if (bt x0 x3) ≥ 48 then (if (bt x0 x3) ≤ 57 then (F32.l0 k x0 (wrap64 (x3 + 1))) else (if ((bt x0 x3) = 45) then (F32.l0 k x0 (wrap64 (x3 + 1))) else (some false))) else (if ((bt x0 x3) = 45) then (F32.l0 k x0 (wrap64 (x3 + 1))) else (some false)))) else (none)) else (some true)
end
def F32.f (k : Nat) (a0 : ByteArray) : Option (Bool) := if (a0.size : Int) < 1 then (F32.j0 k a0 true) else (if (a0.size : Int) > 12 then (F32.j0 k a0 true) else (if 0 < (a0.size : Int) then (if (bt a0 0) < 65 then (F32.j0 k a0 true) else (F32.j0 k a0 (decide ((bt a0 0) > 90)))) else (none)))
theorem F32.mono_l : ∀ k, (∀ y0 y1, LeO (F32.j0 k y0 y1) (F32.j0 (k + 1) y0 y1)) ∧ (∀ y0 y1, LeO (F32.l0 k y0 y1) (F32.l0 (k + 1) y0 y1))
 | 0 => ⟨fun _ _ r h => by simp [F32.j0] at h, fun _ _ r h => by simp [F32.l0] at h⟩
 | k + 1 => by
  obtain ⟨ih0, ih1⟩ := F32.mono_l k
  refine ⟨?_, ?_⟩
  rotate_left
  ·intro y0 y1
   unfold F32.l0
   repeat' with_reducible first | exact ih0 _ _ | exact ih1 _ _ | exact LeO.refl _ | exact LeO.none _ | refine LeO.ite ?_ ?_ | refine LeO.bind ?_ (fun _ => ?_)
  intro y0 y1
  unfold F32.j0
  repeat' with_reducible first | exact ih0 _ _ | exact ih1 _ _ | exact LeO.refl _ | exact LeO.none _ | refine LeO.ite ?_ ?_ | refine LeO.bind ?_ (fun _ => ?_)
theorem F32.mono : ∀ a0 k, LeO (F32.f k a0) (F32.f (k + 1) a0) := by
 intro a0 k
 obtain ⟨ih0, ih1⟩ := F32.mono_l k
 unfold F32.f
 repeat' with_reducible first | exact ih0 _ _ | exact ih1 _ _ | exact LeO.refl _ | exact LeO.none _ | refine LeO.ite ?_ ?_ | refine LeO.bind ?_ (fun _ => ?_)
theorem F32.calls (k : Nat) (a0 : ByteArray) (r : Bool) (w : World) (h : F32.f k a0 = some r) :
  Calls Tryd.prog 32 #[.string a0] w fun e w' => e = .returned (.bool r) ∧ Drawn0 w w' := by
 have H : (if (a0.size : Int) < 1 then (F32.j0 k a0 true) else (if (a0.size : Int) > 12 then (F32.j0 k a0 true) else (if 0 < (a0.size : Int) then (if (bt a0 0) < 65 then (F32.j0 k a0 true) else (F32.j0 k a0 (decide ((bt a0 0) > 90)))) else (none)))) = some r := h
 clear h
 have HC2 := am_ H
 clear H
 go_enter Tryd.func32, Tryd.ntmps32
 go_upto_region 1 with (fail)
 go_cut [22] (fun v22 wc => ∃ (kq : Nat) (x22_1 : Bool), v22 = .bool x22_1 ∧ Aside0 (F32.j0 kq a0 x22_1 = some r) ∧ Aside0 (kq ≤ k) ∧ Drawn0 w wc)
 case first =>
  have H := HC2.out
  clear HC2
  replace H := it_ H; rcases H with ⟨c3b0, H⟩ | ⟨c3b0, H⟩
  ·have c3b1 : decide (a0.size < 1) = true := n2_ c3b0
   (first | rw [c3b0] | (simp only [i64_w, i32_w]; rw [c3b0]) | skip)
   have H' := am_ H
   clear H
   go_wp2
   go_meet
   case rel => exact ⟨_, (true), er_, H', ⟨au1_1⟩, dn_⟩
  have c3b1 : decide (a0.size < 1) = false := n2_ c3b0
  (first | rw [c3b0] | (simp only [i64_w, i32_w]; rw [c3b0]) | skip)
  replace H := it_ H; rcases H with ⟨(c4b0 : decide (12 < (a0.size : Int)) = true), H⟩ | ⟨(c4b0 : decide (12 < (a0.size : Int)) = false), H⟩
  ·have c4b1 : decide (12 < a0.size) = true := n2_ c4b0
   have H' := am_ H
   clear H
   go_wp2
   go_meet
   case rel => exact ⟨_, (true), er_, H', ⟨au1_1⟩, dn_⟩
  have c4b1 : decide (12 < a0.size) = false := n2_ c4b0
  replace H := itn_ H; rcases H with ⟨c5b0, H⟩
  have c5b1 : decide (0 < a0.size) = true := n2_ c5b0
  replace H := it_ H; rcases H with ⟨c7b0, H⟩ | ⟨c7b0, H⟩
  ·have H' := am_ H
   clear H
   have p6 : 0 ≤ (0 : Int) := (by omega)
   have q6 : 0 < a0.size := (by have : (0 : Int) < (a0.size : Int) := od_; omega)
   have hx6 : ∀ h : 0 < a0.size, ((a0[0]'h).toNat : Int) = bt a0 0 := bt_at a0 0
   clear p6
   have qi6 : (0 < (a0.size : Int)) = True := eq_true (of_decide_eq_true as_)
   replace q6 := eq_true q6
   go_wp2
   go_meet
   case rel => exact ⟨_, (true), er_, H', ⟨au1_1⟩, dn_⟩
  have H' := am_ H
  clear H
  have p6 : 0 ≤ (0 : Int) := (by omega)
  have q6 : 0 < a0.size := (by have : (0 : Int) < (a0.size : Int) := od_; omega)
  have hx6 : ∀ h : 0 < a0.size, ((a0[0]'h).toNat : Int) = bt a0 0 := bt_at a0 0
  clear p6
  have qi6 : (0 < (a0.size : Int)) = True := eq_true (of_decide_eq_true as_)
  replace q6 := eq_true q6
  have p8 : 0 ≤ (0 : Int) := (by omega)
  have q8 : 0 < a0.size := (by have : (0 : Int) < (a0.size : Int) := od_; omega)
  have hx8 : ∀ h : 0 < a0.size, ((a0[0]'h).toNat : Int) = bt a0 0 := bt_at a0 0
  clear p8
  have qi8 : (0 < (a0.size : Int)) = True := eq_true (of_decide_eq_true as_)
  replace q8 := eq_true q8
  go_wp2
  go_meet
  case rel => exact ⟨_, (decide ((bt a0 0) > 90)), er_, H', ⟨au1_1⟩, dn_⟩
 case rest =>
  clear HC2
  try clear c3b0
  try clear c3b1
  try clear c4b0
  try clear c4b1
  try clear c5b0
  try clear c5b1
  try clear p6
  try clear q6
  try clear hx6
  try clear qi6
  try clear c7b0
  try clear p8
  try clear q8
  try clear hx8
  try clear qi8
  try clear p6
  try clear p8
  try clear q6
  try clear q8
  obtain ⟨kq, x22_1, rfl, HA, HJ1, ⟨mc1, rfl⟩⟩ := hcut
  cases kq with
  | zero => exact absurd HA.out (by simp [F32.j0])
  | succ kj1 =>
   have H := HA.out
   clear HA
   simp only [F32.j0] at H
   replace H := ib_ H; rcases H with ⟨rfl, H⟩ | ⟨rfl, H⟩
   ·obtain rfl := Option.some.inj H
    go_wp2
    go_ret
    exact ⟨er_, dn_⟩
   have H' := am_ H
   clear H
   go_wp2
   go_loopg [3] kj1 (fun kq v3 w' => ∃ (x3_2 : Int), v3 = .int .i64 x3_2 ∧ Aside0 (F32.l0 kq a0 x3_2 = some r) ∧ Aside0 (kq ≤ kj1) ∧ Drawn0 w w')
   case atStart => exact ⟨(0), er_, H', ⟨Nat.le_refl _⟩, dn_⟩
   case round =>
    clear H'
    try clear c3b0
    try clear c3b1
    try clear c4b0
    try clear c4b1
    try clear c5b0
    try clear c5b1
    try clear p6
    try clear q6
    try clear hx6
    try clear qi6
    try clear c7b0
    try clear p8
    try clear q8
    try clear hx8
    try clear qi8
    try clear p6
    try clear p8
    try clear q6
    try clear q8
    obtain ⟨x3_2, rfl, HA, HK2, ⟨m2, rfl⟩⟩ := hrel
    cases gk with
    | zero => exact absurd HA.out (by simp [F32.l0])
    | succ k2 =>
     have H := HA.out
     clear HA
     simp only [F32.l0] at H
     replace H := it_ H; rcases H with ⟨c10b0, H⟩ | ⟨c10b0, H⟩
     rotate_left
     ·obtain rfl := Option.some.inj H
      go_wp2
      go_ret
      exact ⟨er_, dn_⟩

     replace H := itn_ H; rcases H with ⟨c11b0, H⟩
     replace H := it_ H; rcases H with ⟨(c13b0 : decide (65 ≤ (bt a0 x3_2)) = true), H⟩ | ⟨(c13b0 : decide (65 ≤ (bt a0 x3_2)) = false), H⟩
     rotate_left
     ·replace H := it_ H; rcases H with ⟨(c19b0 : decide (48 ≤ (bt a0 x3_2)) = true), H⟩ | ⟨(c19b0 : decide (48 ≤ (bt a0 x3_2)) = false), H⟩
      rotate_left
      ·by_cases c22 : ((bt a0 x3_2) = 45)
       rotate_left
       ·rw [if_neg c22] at H
        have c22b0 : ((bt a0 x3_2) == 45) = false := beq_eq_false_iff_ne.mpr c22
        have c22b1 : ((bt a0 x3_2) != 45) = true := bne_iff_ne.mpr c22
        obtain rfl := Option.some.inj H
        have p12 : 0 ≤ (x3_2 : Int) := od_
        have q12 : x3_2 < (a0.size : Int) := od_
        have hx12 := bt_at a0 x3_2
        replace p12 := eq_true p12
        replace q12 := eq_true q12
        go_wp2
        go_ret
        exact ⟨er_, dn_⟩
       rw [if_pos c22] at H
       have c22b0 : ((bt a0 x3_2) == 45) = true := beq_iff_eq.mpr c22
       have c22b1 : ((bt a0 x3_2) != 45) = false := bne_eq_false_iff_eq.mpr c22
       clear c22
       have H' := am_ H
       clear H
       have p12 : 0 ≤ (x3_2 : Int) := od_
       have q12 : x3_2 < (a0.size : Int) := od_
       have hx12 := bt_at a0 x3_2
       replace p12 := eq_true p12
       replace q12 := eq_true q12
       go_wp2
       go_roundg k2
       case measure => have := HJ1.out; have := HK2.out; omega
       case rel => exact ⟨(wrap64 (x3_2 + 1)), er_, H', ⟨om_⟩, dn_⟩
      replace H := it_ H; rcases H with ⟨c20b0, H⟩ | ⟨c20b0, H⟩
      ·have H' := am_ H
       clear H
       have p12 : 0 ≤ (x3_2 : Int) := od_
       have q12 : x3_2 < (a0.size : Int) := od_
       have hx12 := bt_at a0 x3_2
       replace p12 := eq_true p12
       replace q12 := eq_true q12
       go_wp2
       go_roundg k2
       case measure => have := HJ1.out; have := HK2.out; omega
       case rel => exact ⟨(wrap64 (x3_2 + 1)), er_, H', ⟨om_⟩, dn_⟩
      by_cases c21 : ((bt a0 x3_2) = 45)
      rotate_left
      ·rw [if_neg c21] at H
       have c21b0 : ((bt a0 x3_2) == 45) = false := beq_eq_false_iff_ne.mpr c21
       have c21b1 : ((bt a0 x3_2) != 45) = true := bne_iff_ne.mpr c21
       obtain rfl := Option.some.inj H
       have p12 : 0 ≤ (x3_2 : Int) := od_
       have q12 : x3_2 < (a0.size : Int) := od_
       have hx12 := bt_at a0 x3_2
       replace p12 := eq_true p12
       replace q12 := eq_true q12
       go_wp2
       go_ret
       exact ⟨er_, dn_⟩
      rw [if_pos c21] at H
      have c21b0 : ((bt a0 x3_2) == 45) = true := beq_iff_eq.mpr c21
      have c21b1 : ((bt a0 x3_2) != 45) = false := bne_eq_false_iff_eq.mpr c21
      clear c21
      have H' := am_ H
      clear H
      have p12 : 0 ≤ (x3_2 : Int) := od_
      have q12 : x3_2 < (a0.size : Int) := od_
      have hx12 := bt_at a0 x3_2
      replace p12 := eq_true p12
      replace q12 := eq_true q12
      go_wp2
      go_roundg k2
      case measure => have := HJ1.out; have := HK2.out; omega
      case rel => exact ⟨(wrap64 (x3_2 + 1)), er_, H', ⟨om_⟩, dn_⟩
     replace H := it_ H; rcases H with ⟨c14b0, H⟩ | ⟨c14b0, H⟩
     ·have H' := am_ H
      clear H
      have p12 : 0 ≤ (x3_2 : Int) := od_
      have q12 : x3_2 < (a0.size : Int) := od_
      have hx12 := bt_at a0 x3_2
      replace p12 := eq_true p12
      replace q12 := eq_true q12
      go_wp2
      go_roundg k2
      case measure => have := HJ1.out; have := HK2.out; omega
      case rel => exact ⟨(wrap64 (x3_2 + 1)), er_, H', ⟨om_⟩, dn_⟩
     replace H := it_ H; rcases H with ⟨(c15b0 : decide (48 ≤ (bt a0 x3_2)) = true), H⟩ | ⟨(c15b0 : decide (48 ≤ (bt a0 x3_2)) = false), H⟩
     rotate_left
     ·by_cases c18 : ((bt a0 x3_2) = 45)
      rotate_left
      ·rw [if_neg c18] at H
       have c18b0 : ((bt a0 x3_2) == 45) = false := beq_eq_false_iff_ne.mpr c18
       have c18b1 : ((bt a0 x3_2) != 45) = true := bne_iff_ne.mpr c18
       obtain rfl := Option.some.inj H
       have p12 : 0 ≤ (x3_2 : Int) := od_
       have q12 : x3_2 < (a0.size : Int) := od_
       have hx12 := bt_at a0 x3_2
       replace p12 := eq_true p12
       replace q12 := eq_true q12
       go_wp2
       go_ret
       exact ⟨er_, dn_⟩
      rw [if_pos c18] at H
      have c18b0 : ((bt a0 x3_2) == 45) = true := beq_iff_eq.mpr c18
      have c18b1 : ((bt a0 x3_2) != 45) = false := bne_eq_false_iff_eq.mpr c18
      clear c18
      have H' := am_ H
      clear H
      have p12 : 0 ≤ (x3_2 : Int) := od_
      have q12 : x3_2 < (a0.size : Int) := od_
      have hx12 := bt_at a0 x3_2
      replace p12 := eq_true p12
      replace q12 := eq_true q12
      go_wp2
      go_roundg k2
      case measure => have := HJ1.out; have := HK2.out; omega
      case rel => exact ⟨(wrap64 (x3_2 + 1)), er_, H', ⟨om_⟩, dn_⟩
     replace H := it_ H; rcases H with ⟨c16b0, H⟩ | ⟨c16b0, H⟩
     ·have H' := am_ H
      clear H
      have p12 : 0 ≤ (x3_2 : Int) := od_
      have q12 : x3_2 < (a0.size : Int) := od_
      have hx12 := bt_at a0 x3_2
      replace p12 := eq_true p12
      replace q12 := eq_true q12
      go_wp2
      go_roundg k2
      case measure => have := HJ1.out; have := HK2.out; omega
      case rel => exact ⟨(wrap64 (x3_2 + 1)), er_, H', ⟨om_⟩, dn_⟩
     by_cases c17 : ((bt a0 x3_2) = 45)
     rotate_left
     ·rw [if_neg c17] at H
      have c17b0 : ((bt a0 x3_2) == 45) = false := beq_eq_false_iff_ne.mpr c17
      have c17b1 : ((bt a0 x3_2) != 45) = true := bne_iff_ne.mpr c17
      obtain rfl := Option.some.inj H
      have p12 : 0 ≤ (x3_2 : Int) := od_
      have q12 : x3_2 < (a0.size : Int) := od_
      have hx12 := bt_at a0 x3_2
      replace p12 := eq_true p12
      replace q12 := eq_true q12
      go_wp2
      go_ret
      exact ⟨er_, dn_⟩
     rw [if_pos c17] at H
     have c17b0 : ((bt a0 x3_2) == 45) = true := beq_iff_eq.mpr c17
     have c17b1 : ((bt a0 x3_2) != 45) = false := bne_eq_false_iff_eq.mpr c17
     clear c17
     have H' := am_ H
     clear H
     have p12 : 0 ≤ (x3_2 : Int) := od_
     have q12 : x3_2 < (a0.size : Int) := od_
     have hx12 := bt_at a0 x3_2
     replace p12 := eq_true p12
     replace q12 := eq_true q12
     go_wp2
     go_roundg k2
     case measure => have := HJ1.out; have := HK2.out; omega
     case rel => exact ⟨(wrap64 (x3_2 + 1)), er_, H', ⟨om_⟩, dn_⟩
/-! ### F33: function 33 -/
def F33.f (a0 : Int) : Option (Bool) := if a0 ≥ 1 then (some (decide (a0 ≤ 999999))) else (some false)
theorem F33.calls (a0 : Int) (r : Bool) (w : World) (h : F33.f a0 = some r) :
  Calls Tryd.prog 33 #[.int .i64 a0] w fun e w' => e = .returned (.bool r) ∧ Drawn0 w w' := by
 have H : (if a0 ≥ 1 then (some (decide (a0 ≤ 999999))) else (some false)) = some r := h
 clear h
 replace H := it_ H; rcases H with ⟨(c2b0 : decide (1 ≤ a0) = true), H⟩ | ⟨(c2b0 : decide (1 ≤ a0) = false), H⟩
 ·obtain rfl := Option.some.inj H
  go_enter Tryd.func33, Tryd.ntmps33
  go_wp2
  go_ret
  exact ⟨er_, dn_⟩
 obtain rfl := Option.some.inj H
 go_enter Tryd.func33, Tryd.ntmps33
 go_wp2
 go_ret
 exact ⟨er_, dn_⟩

/-! ### F34: function 34 -/
mutual
def F34.j0 : Nat → Bool → ByteArray → List (S55) → ByteArray → List (S55) → Option (Bool)
  | 0, _, _, _, _, _ => none
  | k + 1, x20, x123000, x123001, x124000, x124001 => if x20 = true then (some false) else (F34.l0 k 0 x123000 x123001 x124000 x124001)
def F34.l0 : Nat → Int → ByteArray → List (S55) → ByteArray → List (S55) → Option (Bool)
  | 0, _, _, _, _, _ => none
  | k + 1, x5, x123000, x123001, x124000, x124001 => if x5 < (x123001.length : Int) then (if 0 ≤ x5 then (if x5 < (x124001.length : Int) then (if (((rd_T55 x123001 x5).f0).length : Int) = (((rd_T55 x124001 x5).f0).length : Int) then (F34.l1 k x5 0 x123000 x123001 x124000 x124001) else (some false)) else (none)) else (none)) else (some true)
def F34.l1 : Nat → Int → Int → ByteArray → List (S55) → ByteArray → List (S55) → Option (Bool)
  | 0, _, _, _, _, _, _ => none
  | k + 1, x5, x6, x123000, x123001, x124000, x124001 => if 0 ≤ x5 then (if x5 < (x123001.length : Int) then (if x6 < (((rd_T55 x123001 x5).f0).length : Int) then (if 0 ≤ x6 then (if x5 < (x124001.length : Int) then (if x6 < (((rd_T55 x124001 x5).f0).length : Int) then (if (rdOf ByteArray.empty ((rd_T55 x123001 x5).f0) x6).toList = (rdOf ByteArray.empty ((rd_T55 x124001 x5).f0) x6).toList then (F34.l1 k x5 (wrap64 (x6 + 1)) x123000 x123001 x124000 x124001) else (some false)) else (none)) else (none)) else (none)) else (F34.l0 k (wrap64 (x5 + 1)) x123000 x123001 x124000 x124001)) else (none)) else (none)
end
def F34.f (k : Nat) (a0_0 : ByteArray) (l0_1 : List (S55)) (a1_0 : ByteArray) (l1_1 : List (S55)) : Option (Bool) := if a0_0.toList = a1_0.toList then (F34.j0 k ((l0_1.length : Int) != (l1_1.length : Int)) a0_0 l0_1 a1_0 l1_1) else (F34.j0 k true a0_0 l0_1 a1_0 l1_1)
theorem F34.mono_l : ∀ k, (∀ y0 y1 y2 y3 y4, LeO (F34.j0 k y0 y1 y2 y3 y4) (F34.j0 (k + 1) y0 y1 y2 y3 y4)) ∧ (∀ y0 y1 y2 y3 y4, LeO (F34.l0 k y0 y1 y2 y3 y4) (F34.l0 (k + 1) y0 y1 y2 y3 y4)) ∧ (∀ y0 y1 y2 y3 y4 y5, LeO (F34.l1 k y0 y1 y2 y3 y4 y5) (F34.l1 (k + 1) y0 y1 y2 y3 y4 y5))
 | 0 => ⟨fun _ _ _ _ _ r h => by simp [F34.j0] at h, fun _ _ _ _ _ r h => by simp [F34.l0] at h, fun _ _ _ _ _ _ r h => by simp [F34.l1] at h⟩
 | k + 1 => by
  obtain ⟨ih0, ih1, ih2⟩ := F34.mono_l k
  refine ⟨?_, ?_, ?_⟩
  rotate_left
  ·intro y0 y1 y2 y3 y4
   unfold F34.l0
   repeat' with_reducible first | exact ih0 _ _ _ _ _ | exact ih1 _ _ _ _ _ | exact ih2 _ _ _ _ _ _ | exact LeO.refl _ | exact LeO.none _ | refine LeO.ite ?_ ?_ | refine LeO.bind ?_ (fun _ => ?_)
  ·intro y0 y1 y2 y3 y4 y5
   unfold F34.l1
   repeat' with_reducible first | exact ih0 _ _ _ _ _ | exact ih1 _ _ _ _ _ | exact ih2 _ _ _ _ _ _ | exact LeO.refl _ | exact LeO.none _ | refine LeO.ite ?_ ?_ | refine LeO.bind ?_ (fun _ => ?_)
  intro y0 y1 y2 y3 y4
  unfold F34.j0
  repeat' with_reducible first | exact ih0 _ _ _ _ _ | exact ih1 _ _ _ _ _ | exact ih2 _ _ _ _ _ _ | exact LeO.refl _ | exact LeO.none _ | refine LeO.ite ?_ ?_ | refine LeO.bind ?_ (fun _ => ?_)
theorem F34.mono : ∀ a0 a1 a2 a3 k, LeO (F34.f k a0 a1 a2 a3) (F34.f (k + 1) a0 a1 a2 a3) := by
 intro a0 a1 a2 a3 k
 obtain ⟨ih0, ih1, ih2⟩ := F34.mono_l k
 unfold F34.f
 repeat' with_reducible first | exact ih0 _ _ _ _ _ | exact ih1 _ _ _ _ _ | exact ih2 _ _ _ _ _ _ | exact LeO.refl _ | exact LeO.none _ | refine LeO.ite ?_ ?_ | refine LeO.bind ?_ (fun _ => ?_)
theorem F34.calls (k : Nat) (a0_0 : ByteArray) (A0_1 : Option Addr) (c0_1 : Nat) (l0_1 : List (S55)) (a1_0 : ByteArray) (A1_1 : Option Addr) (c1_1 : Nat) (l1_1 : List (S55)) (r : Bool) (w : World) (hr0_1 : Kd.C k55 w A0_1 l0_1.length l0_1) (hc0_1 : l0_1.length ≤ c0_1) (hr1_1 : Kd.C k55 w A1_1 l1_1.length l1_1) (hc1_1 : l1_1.length ≤ c1_1) (h : F34.f k a0_0 l0_1 a1_0 l1_1 = some r) :
  Calls Tryd.prog 34 #[.agg #[.string a0_0, .slice A0_1 l0_1.length c0_1], .agg #[.string a1_0, .slice A1_1 l1_1.length c1_1]] w fun e w' => e = .returned (.bool r) ∧ Below w.heap.size w w' := by
 have hu52 := Tryd.underlying52
 have HR0_1 := am_ hr0_1
 have HC0_1 := am_ hc0_1
 clear hr0_1 hc0_1
 have HR1_1 := am_ hr1_1
 have HC1_1 := am_ hc1_1
 clear hr1_1 hc1_1
 have HB := am_ (Below.refl w.heap.size w)
 have H : (if a0_0.toList = a1_0.toList then (F34.j0 k ((l0_1.length : Int) != (l1_1.length : Int)) a0_0 l0_1 a1_0 l1_1) else (F34.j0 k true a0_0 l0_1 a1_0 l1_1)) = some r := h
 clear h
 have HC3 := am_ H
 clear H
 go_enter Tryd.func34, Tryd.ntmps34
 go_upto_region 1 with (first | ((with_reducible refine gate_dst (N := 2) rfl ?_); (try (refine gate_guard (by rfl) ?_; dsimp only)); refine be_ 2 #[.string a0_0, .slice A0_1 l0_1.length c0_1] 52 ?_; intro gb122 hg w4 hbox hb; have BK122 := am_ (hbox); have GW122 := am_ (gw_ hg bl_); have GE122 := GW122; replace HB := hs_ w hb; clear hb hbox hg) | ((with_reducible refine gate_dst (N := 3) rfl ?_); (try (refine gate_guard (by rfl) ?_; dsimp only)); refine be_ 3 #[.string a1_0, .slice A1_1 l1_1.length c1_1] 52 ?_; intro gb123 hg w5 hbox hb; have BK123 := am_ (hbox); have GW123 := am_ (gw_ hg bl_); have GE123 := GW123; replace HB := hs_ w hb; have NB122_123 := am_ (gn_ hg (blkl_ BK122)); have NB123_122 := am_ (gm_ hg (blkl_ BK122)); replace BK122 := bb_ BK122 hb; clear hb hbox hg))
 repeat (go_quiet (first | ((with_reducible refine gate_dst (N := 2) rfl ?_); (try (refine gate_guard (by rfl) ?_; dsimp only)); refine be_ 2 #[.string a0_0, .slice A0_1 l0_1.length c0_1] 52 ?_; intro gb122 hg w4 hbox hb; have BK122 := am_ (hbox); have GW122 := am_ (gw_ hg bl_); have GE122 := GW122; replace HB := hs_ w hb; clear hb hbox hg) | ((with_reducible refine gate_dst (N := 3) rfl ?_); (try (refine gate_guard (by rfl) ?_; dsimp only)); refine be_ 3 #[.string a1_0, .slice A1_1 l1_1.length c1_1] 52 ?_; intro gb123 hg w5 hbox hb; have BK123 := am_ (hbox); have GW123 := am_ (gw_ hg bl_); have GE123 := GW123; replace HB := hs_ w hb; have NB122_123 := am_ (gn_ hg (blkl_ BK122)); have NB123_122 := am_ (gm_ hg (blkl_ BK122)); replace BK122 := bb_ BK122 hb; clear hb hbox hg)); go_upto_region 1 with (first | ((with_reducible refine gate_dst (N := 2) rfl ?_); (try (refine gate_guard (by rfl) ?_; dsimp only)); refine be_ 2 #[.string a0_0, .slice A0_1 l0_1.length c0_1] 52 ?_; intro gb122 hg w4 hbox hb; have BK122 := am_ (hbox); have GW122 := am_ (gw_ hg bl_); have GE122 := GW122; replace HB := hs_ w hb; clear hb hbox hg) | ((with_reducible refine gate_dst (N := 3) rfl ?_); (try (refine gate_guard (by rfl) ?_; dsimp only)); refine be_ 3 #[.string a1_0, .slice A1_1 l1_1.length c1_1] 52 ?_; intro gb123 hg w5 hbox hb; have BK123 := am_ (hbox); have GW123 := am_ (gw_ hg bl_); have GE123 := GW123; replace HB := hs_ w hb; have NB122_123 := am_ (gn_ hg (blkl_ BK122)); have NB123_122 := am_ (gm_ hg (blkl_ BK122)); replace BK122 := bb_ BK122 hb; clear hb hbox hg)))
 (try simp only [Act.put, List.setIfInBounds_toArray, List.set_cons_zero, List.set_cons_succ])
 go_cut [20] (fun v20 wc => ∃ (kq : Nat) (x20_2 : Bool), v20 = .bool x20_2 ∧ Aside0 (F34.j0 kq x20_2 a0_0 l0_1 a1_0 l1_1 = some r) ∧ Aside0 (kq ≤ k) ∧ Aside0 (wc.heap[gb122]? = some (.cells #[.string a0_0, (.slice A0_1 l0_1.length c0_1)] 52 (0, 0))) ∧ Aside0 (wc.heap[gb123]? = some (.cells #[.string a1_0, (.slice A1_1 l1_1.length c1_1)] 52 (0, 0))) ∧ Aside0 (Below w.heap.size w wc))
 case first =>
  have H := HC3.out
  clear HC3
  by_cases c6 : a0_0.toList = a1_0.toList
  rotate_left
  ·rw [if_neg c6] at H
   have c6b0 : (a0_0.toList == a1_0.toList) = false := beq_eq_false_iff_ne.mpr c6
   have c6b1 : (a0_0.toList != a1_0.toList) = true := bne_iff_ne.mpr c6
   (first | rw [c6b0] | (simp only [i64_w, i32_w]; rw [c6b0]) | skip)
   have H' := am_ H
   clear H
   have hnb10 := NB122_123.out
   have hnc10 := NB123_122.out
   obtain ⟨hcz11_0, hcz11_1, hfz11_0, hfz11_1⟩ := cellsF2 BK122.out
   obtain ⟨hcz12_0, hcz12_1, hfz12_0, hfz12_1⟩ := cellsF2 BK123.out
   go_wp2
   repeat (go_quiet (fail); try go_wp2)
   go_meet
   case rel => exact ⟨_, (true), er_, H', ⟨au1_1⟩, ⟨bk_ BK122⟩, ⟨bk_ BK123⟩, ⟨bl_⟩⟩
  rw [if_pos c6] at H
  have c6b0 : (a0_0.toList == a1_0.toList) = true := beq_iff_eq.mpr c6
  have c6b1 : (a0_0.toList != a1_0.toList) = false := bne_eq_false_iff_eq.mpr c6
  clear c6
  (first | rw [c6b0] | (simp only [i64_w, i32_w]; rw [c6b0]) | skip)
  have H' := am_ H
  clear H
  have hnb7 := NB122_123.out
  have hnc7 := NB123_122.out
  obtain ⟨hcz8_0, hcz8_1, hfz8_0, hfz8_1⟩ := cellsF2 BK122.out
  obtain ⟨hcz9_0, hcz9_1, hfz9_0, hfz9_1⟩ := cellsF2 BK123.out
  go_wp2
  repeat (go_quiet (fail); try go_wp2)
  go_meet
  case rel => exact ⟨_, (((l0_1.length : Int) != (l1_1.length : Int))), er_, H', ⟨au1_1⟩, ⟨bk_ BK122⟩, ⟨bk_ BK123⟩, ⟨bl_⟩⟩
 case rest =>
  clear HC3
  try clear c6
  try clear c6b0
  try clear c6b1
  try clear hcz11_0 hcz11_1
  try clear hcz12_0 hcz12_1
  try clear hcz8_0 hcz8_1
  try clear hcz9_0 hcz9_1
  try clear hfz11_0 hfz11_1
  try clear hfz12_0 hfz12_1
  try clear hfz8_0 hfz8_1
  try clear hfz9_0 hfz9_1
  obtain ⟨kq, x20_2, rfl, HA, HJ2, BK122, BK123, HB⟩ := hcut
  cases kq with
  | zero => exact absurd HA.out (by simp [F34.j0])
  | succ kj2 =>
   have H := HA.out
   clear HA
   simp only [F34.j0] at H
   replace H := ib_ H; rcases H with ⟨rfl, H⟩ | ⟨rfl, H⟩
   ·obtain rfl := Option.some.inj H
    go_wp2
    repeat (go_quiet (fail); try go_wp2)
    go_ret
    exact ⟨au1_0, bl_⟩
   have H' := am_ H
   clear H
   go_wp2
   repeat (go_quiet (fail); try go_wp2)
   go_loopg [5] kj2 (fun kq v5 w' => ∃ (x5_2 : Int), v5 = .int .i64 x5_2 ∧ Aside0 (F34.l0 kq x5_2 a0_0 l0_1 a1_0 l1_1 = some r) ∧ Aside0 (kq ≤ kj2) ∧ Aside0 (w'.heap[gb122]? = some (.cells #[.string a0_0, (.slice A0_1 l0_1.length c0_1)] 52 (0, 0))) ∧ Aside0 (w'.heap[gb123]? = some (.cells #[.string a1_0, (.slice A1_1 l1_1.length c1_1)] 52 (0, 0))) ∧ Aside0 (Below w.heap.size w w'))
   case atStart => exact ⟨(0), er_, H', ⟨Nat.le_refl _⟩, ⟨bk_ BK122⟩, ⟨bk_ BK123⟩, ⟨bl_⟩⟩
   case round =>
    clear H'
    try clear c6
    try clear c6b0
    try clear c6b1
    try clear hcz11_0 hcz11_1
    try clear hcz12_0 hcz12_1
    try clear hcz8_0 hcz8_1
    try clear hcz9_0 hcz9_1
    try clear hfz11_0 hfz11_1
    try clear hfz12_0 hfz12_1
    try clear hfz8_0 hfz8_1
    try clear hfz9_0 hfz9_1
    obtain ⟨x5_2, rfl, HA, HK2, BK122, BK123, HB⟩ := hrel
    cases gk with
    | zero => exact absurd HA.out (by simp [F34.l0])
    | succ k2 =>
     have H := HA.out
     clear HA
     simp only [F34.l0] at H
     replace H := it_ H; rcases H with ⟨c14b0, H⟩ | ⟨c14b0, H⟩
     rotate_left
     ·obtain rfl := Option.some.inj H
      have hnb39 := NB122_123.out
      have hnc39 := NB123_122.out
      obtain ⟨hcz40_0, hcz40_1, hfz40_0, hfz40_1⟩ := cellsF2 BK122.out
      go_wp2
      repeat (go_quiet (fail); try go_wp2)
      go_ret
      exact ⟨au1_0, bl_⟩

     replace H := itn_ H; rcases H with ⟨c15b0, H⟩
     replace H := itn_ H; rcases H with ⟨c16b0, H⟩
     by_cases c17 : (((rd_T55 l0_1 x5_2).f0).length : Int) = (((rd_T55 l1_1 x5_2).f0).length : Int)
     rotate_left
     ·rw [if_neg c17] at H
      have c17b0 : ((((rd_T55 l0_1 x5_2).f0).length : Int) == (((rd_T55 l1_1 x5_2).f0).length : Int)) = false := beq_eq_false_iff_ne.mpr c17
      have c17b1 : ((((rd_T55 l0_1 x5_2).f0).length : Int) != (((rd_T55 l1_1 x5_2).f0).length : Int)) = true := bne_iff_ne.mpr c17
      have c17b2 : (((rd_T55 l0_1 x5_2).f0).length == ((rd_T55 l1_1 x5_2).f0).length) = false := by first | simpa using c17 | (simp at c17 ⊢; omega)
      obtain rfl := Option.some.inj H
      have hnb36 := NB122_123.out
      have hnc36 := NB123_122.out
      obtain ⟨hcz37_0, hcz37_1, hfz37_0, hfz37_1⟩ := cellsF2 BK122.out
      have p124 : 0 ≤ (x5_2 : Int) := od_
      have q124 : x5_2 < (l0_1.length : Int) := od_
      obtain ⟨ad124, A124_0, c124_0, e124, hx124_0, hl124_0, hi124_0⟩ := at_T55 HR0_1.out x5_2 p124 q124
      cases e124
      replace hx124_0 := (HB.out.cell (World.block_lt_of_cell? _ _ hx124_0)).trans hx124_0
      have HR124_0 := am_ hi124_0
      have HC124_0 := am_ hl124_0
      clear hi124_0 hl124_0
      replace p124 := eq_true p124
      replace q124 := eq_true q124
      obtain ⟨hcz38_0, hcz38_1, hfz38_0, hfz38_1⟩ := cellsF2 BK123.out
      have p125 : 0 ≤ (x5_2 : Int) := od_
      have q125 : x5_2 < (l1_1.length : Int) := od_
      obtain ⟨ad125, A125_0, c125_0, e125, hx125_0, hl125_0, hi125_0⟩ := at_T55 HR1_1.out x5_2 p125 q125
      cases e125
      replace hx125_0 := (HB.out.cell (World.block_lt_of_cell? _ _ hx125_0)).trans hx125_0
      have HR125_0 := am_ hi125_0
      have HC125_0 := am_ hl125_0
      clear hi125_0 hl125_0
      replace p125 := eq_true p125
      replace q125 := eq_true q125
      go_wp2
      repeat (go_quiet (fail); try go_wp2)
      go_ret
      exact ⟨au1_0, bl_⟩
     rw [if_pos c17] at H
     have c17b0 : ((((rd_T55 l0_1 x5_2).f0).length : Int) == (((rd_T55 l1_1 x5_2).f0).length : Int)) = true := beq_iff_eq.mpr c17
     have c17b1 : ((((rd_T55 l0_1 x5_2).f0).length : Int) != (((rd_T55 l1_1 x5_2).f0).length : Int)) = false := bne_eq_false_iff_eq.mpr c17
     have c17b2 : (((rd_T55 l0_1 x5_2).f0).length == ((rd_T55 l1_1 x5_2).f0).length) = true := by first | simpa using c17 | (simp at c17 ⊢; omega)
     clear c17
     have H' := am_ H
     clear H
     have hnb18 := NB122_123.out
     have hnc18 := NB123_122.out
     obtain ⟨hcz19_0, hcz19_1, hfz19_0, hfz19_1⟩ := cellsF2 BK122.out
     have p124 : 0 ≤ (x5_2 : Int) := od_
     have q124 : x5_2 < (l0_1.length : Int) := od_
     obtain ⟨ad124, A124_0, c124_0, e124, hx124_0, hl124_0, hi124_0⟩ := at_T55 HR0_1.out x5_2 p124 q124
     cases e124
     replace hx124_0 := (HB.out.cell (World.block_lt_of_cell? _ _ hx124_0)).trans hx124_0
     have HR124_0 := am_ hi124_0
     have HC124_0 := am_ hl124_0
     clear hi124_0 hl124_0
     replace p124 := eq_true p124
     replace q124 := eq_true q124
     obtain ⟨hcz20_0, hcz20_1, hfz20_0, hfz20_1⟩ := cellsF2 BK123.out
     have p125 : 0 ≤ (x5_2 : Int) := od_
     have q125 : x5_2 < (l1_1.length : Int) := od_
     obtain ⟨ad125, A125_0, c125_0, e125, hx125_0, hl125_0, hi125_0⟩ := at_T55 HR1_1.out x5_2 p125 q125
     cases e125
     replace hx125_0 := (HB.out.cell (World.block_lt_of_cell? _ _ hx125_0)).trans hx125_0
     have HR125_0 := am_ hi125_0
     have HC125_0 := am_ hl125_0
     clear hi125_0 hl125_0
     replace p125 := eq_true p125
     replace q125 := eq_true q125
     go_wp2
     repeat (go_quiet (fail); try go_wp2)
     go_loopg [6] k2 (fun kq v6 w' => ∃ (x6_3 : Int), v6 = .int .i64 x6_3 ∧ Aside0 (F34.l1 kq x5_2 x6_3 a0_0 l0_1 a1_0 l1_1 = some r) ∧ Aside0 (kq ≤ k2) ∧ Aside0 (w'.heap[gb122]? = some (.cells #[.string a0_0, (.slice (some ad124) l0_1.length c0_1)] 52 (0, 0))) ∧ Aside0 (w'.heap[gb123]? = some (.cells #[.string a1_0, (.slice (some ad125) l1_1.length c1_1)] 52 (0, 0))) ∧ Aside0 (Below w.heap.size w w'))
     case atStart => exact ⟨(0), er_, H', ⟨Nat.le_refl _⟩, ⟨bk_ BK122⟩, ⟨bk_ BK123⟩, ⟨bl_⟩⟩
     case round =>
      clear H'
      try clear c6
      try clear c6b0
      try clear c6b1
      try clear c14b0
      try clear c15b0
      try clear c16b0
      try clear c17
      try clear c17b0
      try clear c17b1
      try clear c17b2
      try clear hcz11_0 hcz11_1
      try clear hcz12_0 hcz12_1
      try clear hcz19_0 hcz19_1
      try clear hcz20_0 hcz20_1
      try clear hcz8_0 hcz8_1
      try clear hcz9_0 hcz9_1
      try clear hfz11_0 hfz11_1
      try clear hfz12_0 hfz12_1
      try clear hfz19_0 hfz19_1
      try clear hfz20_0 hfz20_1
      try clear hfz8_0 hfz8_1
      try clear hfz9_0 hfz9_1
      try clear hx124_0
      try clear hx125_0
      try clear p124
      try clear p125
      try clear q124
      try clear q125
      obtain ⟨x6_3, rfl, HA, HK3, BK122, BK123, HB⟩ := hrel
      cases gk with
      | zero => exact absurd HA.out (by simp [F34.l1])
      | succ k3 =>
       have H := HA.out
       clear HA
       simp only [F34.l1] at H
       replace H := itn_ H; rcases H with ⟨c21b0, H⟩
       replace H := itn_ H; rcases H with ⟨c22b0, H⟩
       replace H := it_ H; rcases H with ⟨c23b0, H⟩ | ⟨c23b0, H⟩
       rotate_left
       ·have H' := am_ H
        clear H
        have hnb34 := NB122_123.out
        have hnc34 := NB123_122.out
        obtain ⟨hcz35_0, hcz35_1, hfz35_0, hfz35_1⟩ := cellsF2 BK122.out
        have p126 : 0 ≤ (x5_2 : Int) := od_
        have q126 : x5_2 < (l0_1.length : Int) := od_
        obtain ⟨ad126, A126_0, c126_0, e126, hx126_0, hl126_0, hi126_0⟩ := at_T55 HR0_1.out x5_2 p126 q126
        obtain rfl : ad124 = ad126 := (by injection e126)
        replace hx126_0 := (HB.out.cell (World.block_lt_of_cell? _ _ hx126_0)).trans hx126_0
        have HR126_0 := am_ hi126_0
        have HC126_0 := am_ hl126_0
        clear hi126_0 hl126_0
        replace p126 := eq_true p126
        replace q126 := eq_true q126
        go_wp2
        repeat (go_quiet (fail); try go_wp2)
        go_roundg k3
        case measure => have := HJ2.out; have := HK2.out; have := HK3.out; omega
        case rel => exact ⟨(wrap64 (x5_2 + 1)), er_, H', ⟨by have := HJ2.out; have := HK2.out; have := HK3.out; omega⟩, ⟨bk_ BK122⟩, ⟨bk_ BK123⟩, ⟨bl_⟩⟩
       replace H := itn_ H; rcases H with ⟨c24b0, H⟩
       replace H := itn_ H; rcases H with ⟨c25b0, H⟩
       replace H := itn_ H; rcases H with ⟨c26b0, H⟩
       by_cases c27 : (rdOf ByteArray.empty ((rd_T55 l0_1 x5_2).f0) x6_3).toList = (rdOf ByteArray.empty ((rd_T55 l1_1 x5_2).f0) x6_3).toList
       rotate_left
       ·rw [if_neg c27] at H
        have c27b0 : ((rdOf ByteArray.empty ((rd_T55 l0_1 x5_2).f0) x6_3).toList == (rdOf ByteArray.empty ((rd_T55 l1_1 x5_2).f0) x6_3).toList) = false := beq_eq_false_iff_ne.mpr c27
        have c27b1 : ((rdOf ByteArray.empty ((rd_T55 l0_1 x5_2).f0) x6_3).toList != (rdOf ByteArray.empty ((rd_T55 l1_1 x5_2).f0) x6_3).toList) = true := bne_iff_ne.mpr c27
        obtain rfl := Option.some.inj H
        have hnb31 := NB122_123.out
        have hnc31 := NB123_122.out
        obtain ⟨hcz32_0, hcz32_1, hfz32_0, hfz32_1⟩ := cellsF2 BK122.out
        have p126 : 0 ≤ (x5_2 : Int) := od_
        have q126 : x5_2 < (l0_1.length : Int) := od_
        obtain ⟨ad126, A126_0, c126_0, e126, hx126_0, hl126_0, hi126_0⟩ := at_T55 HR0_1.out x5_2 p126 q126
        obtain rfl : ad124 = ad126 := (by injection e126)
        replace hx126_0 := (HB.out.cell (World.block_lt_of_cell? _ _ hx126_0)).trans hx126_0
        have HR126_0 := am_ hi126_0
        have HC126_0 := am_ hl126_0
        clear hi126_0 hl126_0
        replace p126 := eq_true p126
        replace q126 := eq_true q126
        have p127 : 0 ≤ (x5_2 : Int) := od_
        have q127 : x5_2 < (l0_1.length : Int) := od_
        obtain ⟨ad127, A127_0, c127_0, e127, hx127_0, hl127_0, hi127_0⟩ := at_T55 HR0_1.out x5_2 p127 q127
        obtain rfl : ad124 = ad127 := (by injection e127)
        replace hx127_0 := (HB.out.cell (World.block_lt_of_cell? _ _ hx127_0)).trans hx127_0
        have HR127_0 := am_ hi127_0
        have HC127_0 := am_ hl127_0
        clear hi127_0 hl127_0
        replace p127 := eq_true p127
        replace q127 := eq_true q127
        have ea_ := Option.some.inj (hx126_0.symm.trans hx127_0)
        injection ea_ with ea_ en_ ec_
        subst ea_
        subst ec_
        clear en_
        have p128 : 0 ≤ (x6_3 : Int) := od_
        have q128 : x6_3 < (((rd_T55 l0_1 x5_2).f0).length : Int) := od_
        obtain ⟨ad128, e128, hx128_0⟩ := Kd.at_string HR127_0.out x6_3 p128 q128
        cases e128
        replace hx128_0 := (HB.out.cell (World.block_lt_of_cell? _ _ hx128_0)).trans hx128_0
        replace p128 := eq_true p128
        replace q128 := eq_true q128
        obtain ⟨hcz33_0, hcz33_1, hfz33_0, hfz33_1⟩ := cellsF2 BK123.out
        have p129 : 0 ≤ (x5_2 : Int) := od_
        have q129 : x5_2 < (l1_1.length : Int) := od_
        obtain ⟨ad129, A129_0, c129_0, e129, hx129_0, hl129_0, hi129_0⟩ := at_T55 HR1_1.out x5_2 p129 q129
        obtain rfl : ad125 = ad129 := (by injection e129)
        replace hx129_0 := (HB.out.cell (World.block_lt_of_cell? _ _ hx129_0)).trans hx129_0
        have HR129_0 := am_ hi129_0
        have HC129_0 := am_ hl129_0
        clear hi129_0 hl129_0
        replace p129 := eq_true p129
        replace q129 := eq_true q129
        have p130 : 0 ≤ (x6_3 : Int) := od_
        have q130 : x6_3 < (((rd_T55 l1_1 x5_2).f0).length : Int) := od_
        obtain ⟨ad130, e130, hx130_0⟩ := Kd.at_string HR129_0.out x6_3 p130 q130
        cases e130
        replace hx130_0 := (HB.out.cell (World.block_lt_of_cell? _ _ hx130_0)).trans hx130_0
        replace p130 := eq_true p130
        replace q130 := eq_true q130
        go_wp2
        repeat (go_quiet (fail); try go_wp2)
        go_ret
        exact ⟨au1_0, bl_⟩
       rw [if_pos c27] at H
       have c27b0 : ((rdOf ByteArray.empty ((rd_T55 l0_1 x5_2).f0) x6_3).toList == (rdOf ByteArray.empty ((rd_T55 l1_1 x5_2).f0) x6_3).toList) = true := beq_iff_eq.mpr c27
       have c27b1 : ((rdOf ByteArray.empty ((rd_T55 l0_1 x5_2).f0) x6_3).toList != (rdOf ByteArray.empty ((rd_T55 l1_1 x5_2).f0) x6_3).toList) = false := bne_eq_false_iff_eq.mpr c27
       clear c27
       have H' := am_ H
       clear H
       have hnb28 := NB122_123.out
       have hnc28 := NB123_122.out
       obtain ⟨hcz29_0, hcz29_1, hfz29_0, hfz29_1⟩ := cellsF2 BK122.out
       have p126 : 0 ≤ (x5_2 : Int) := od_
       have q126 : x5_2 < (l0_1.length : Int) := od_
       obtain ⟨ad126, A126_0, c126_0, e126, hx126_0, hl126_0, hi126_0⟩ := at_T55 HR0_1.out x5_2 p126 q126
       obtain rfl : ad124 = ad126 := (by injection e126)
       replace hx126_0 := (HB.out.cell (World.block_lt_of_cell? _ _ hx126_0)).trans hx126_0
       have HR126_0 := am_ hi126_0
       have HC126_0 := am_ hl126_0
       clear hi126_0 hl126_0
       replace p126 := eq_true p126
       replace q126 := eq_true q126
       have p127 : 0 ≤ (x5_2 : Int) := od_
       have q127 : x5_2 < (l0_1.length : Int) := od_
       obtain ⟨ad127, A127_0, c127_0, e127, hx127_0, hl127_0, hi127_0⟩ := at_T55 HR0_1.out x5_2 p127 q127
       obtain rfl : ad124 = ad127 := (by injection e127)
       replace hx127_0 := (HB.out.cell (World.block_lt_of_cell? _ _ hx127_0)).trans hx127_0
       have HR127_0 := am_ hi127_0
       have HC127_0 := am_ hl127_0
       clear hi127_0 hl127_0
       replace p127 := eq_true p127
       replace q127 := eq_true q127
       have ea_ := Option.some.inj (hx126_0.symm.trans hx127_0)
       injection ea_ with ea_ en_ ec_
       subst ea_
       subst ec_
       clear en_
       have p128 : 0 ≤ (x6_3 : Int) := od_
       have q128 : x6_3 < (((rd_T55 l0_1 x5_2).f0).length : Int) := od_
       obtain ⟨ad128, e128, hx128_0⟩ := Kd.at_string HR127_0.out x6_3 p128 q128
       cases e128
       replace hx128_0 := (HB.out.cell (World.block_lt_of_cell? _ _ hx128_0)).trans hx128_0
       replace p128 := eq_true p128
       replace q128 := eq_true q128
       obtain ⟨hcz30_0, hcz30_1, hfz30_0, hfz30_1⟩ := cellsF2 BK123.out
       have p129 : 0 ≤ (x5_2 : Int) := od_
       have q129 : x5_2 < (l1_1.length : Int) := od_
       obtain ⟨ad129, A129_0, c129_0, e129, hx129_0, hl129_0, hi129_0⟩ := at_T55 HR1_1.out x5_2 p129 q129
       obtain rfl : ad125 = ad129 := (by injection e129)
       replace hx129_0 := (HB.out.cell (World.block_lt_of_cell? _ _ hx129_0)).trans hx129_0
       have HR129_0 := am_ hi129_0
       have HC129_0 := am_ hl129_0
       clear hi129_0 hl129_0
       replace p129 := eq_true p129
       replace q129 := eq_true q129
       have p130 : 0 ≤ (x6_3 : Int) := od_
       have q130 : x6_3 < (((rd_T55 l1_1 x5_2).f0).length : Int) := od_
       obtain ⟨ad130, e130, hx130_0⟩ := Kd.at_string HR129_0.out x6_3 p130 q130
       cases e130
       replace hx130_0 := (HB.out.cell (World.block_lt_of_cell? _ _ hx130_0)).trans hx130_0
       replace p130 := eq_true p130
       replace q130 := eq_true q130
       go_wp2
       repeat (go_quiet (fail); try go_wp2)
       go_roundg k3
       case measure => have := HJ2.out; have := HK2.out; have := HK3.out; omega
       case rel => exact ⟨(wrap64 (x6_3 + 1)), er_, H', ⟨by have := HJ2.out; have := HK2.out; have := HK3.out; omega⟩, ⟨bk_ BK122⟩, ⟨bk_ BK123⟩, ⟨bl_⟩⟩
/-! ### F49: function 49 -/
def F49.l0 : Nat → List ByteArray → Int → ByteArray → List (S55) → Option (ByteArray × (List (S55)))
  | 0, _, _, _, _ => none
  | k + 1, x1, x6, x133000, x133001 => if x6 < (x1.length : Int) then (if 0 ≤ x6 then (if x133001.length < 5864062014805 then (F49.l0 k x1 (wrap64 (x6 + 1)) x133000 (x133001 ++ [(⟨(([rdOf ByteArray.empty x1 x6] : List ByteArray))⟩ : S55)])) else (none)) else (none)) else (some (x133000, x133001))
def F49.f (k : Nat) (a0 : ByteArray) (l1 : List ByteArray) : Option (ByteArray × (List (S55))) := F49.l0 k l1 0 a0 ([] : List (S55))
theorem F49.mono_l : ∀ k, (∀ y0 y1 y2 y3, LeO (F49.l0 k y0 y1 y2 y3) (F49.l0 (k + 1) y0 y1 y2 y3))
 | 0 => fun _ _ _ _ r h => by simp [F49.l0] at h
 | k + 1 => by
  have ih0 := F49.mono_l k
  intro y0 y1 y2 y3
  unfold F49.l0
  repeat' with_reducible first | exact ih0 _ _ _ _ | exact LeO.refl _ | exact LeO.none _ | refine LeO.ite ?_ ?_ | refine LeO.bind ?_ (fun _ => ?_)
theorem F49.mono : ∀ a0 a1 k, LeO (F49.f k a0 a1) (F49.f (k + 1) a0 a1) := by
 intro a0 a1 k
 have ih0 := F49.mono_l k
 unfold F49.f
 repeat' with_reducible first | exact ih0 _ _ _ _ | exact LeO.refl _ | exact LeO.none _ | refine LeO.ite ?_ ?_ | refine LeO.bind ?_ (fun _ => ?_)
def F49.T5 : Bool × List (List Nat × List Nat) := (true, [([], []), ([0], [0]), ([], []), ([], []), ([2, 3], [2, 3]), ([4], [4]), ([5], [5]), ([6], [6]), ([7], [7]), ([1, 8], [1, 8]), ([0, 1, 2, 3, 4, 5, 6, 7, 8, 9], []), ([10, 9, 9, 0, 1, 2, 3, 4, 5, 6, 7, 8, 9], [9, 10])])
def F49.B5 : List Nat := [0, 1, 0, 0, 12, 28, 60, 124, 252, 511, 1023, 2047]
theorem F49.tab5 : rtab .any (opsOf Tryd.f49 5) = F49.T5 := by kernel_rfl
theorem F49.bits5 : waitsOk F49.T5.2 F49.B5 = true := by kernel_rfl
theorem F49.calls (k : Nat) (a0 : ByteArray) (A1 : Option Addr) (c1 : Nat) (l1 : List ByteArray) (r1 : ByteArray) (r2 : List (S55)) (w : World) (hr1 : Kd.C Kd.string w A1 l1.length l1) (hc1 : l1.length ≤ c1) (h : F49.f k a0 l1 = some (r1, r2)) :
  Calls Tryd.prog 49 #[.string a0, .slice A1 l1.length c1] w fun e w' => ∃ v1_ : Value, e = .returned (.agg #[.string r1, v1_]) ∧ Kd.S k55 55 w' w.heap.size (fun _ => True) v1_ r2 ∧ Below w.heap.size w w' := by
 have hu52 := Tryd.underlying52
 have hu55 := Tryd.underlying55
 have HR1 := am_ hr1
 have HC1 := am_ hc1
 clear hr1 hc1
 have HB := am_ (Below.refl w.heap.size w)
 have H : (F49.l0 k l1 0 a0 ([] : List (S55))) = some (r1, r2) := h
 clear h
 have H' := am_ H
 clear H
 go_enter Tryd.func49, Tryd.ntmps49
 go_wp2_with (first | ((with_reducible refine gate_dst (N := 4) rfl ?_); refine be_ 4 #[.string (⟨#[]⟩ : ByteArray), .slice none 0 0] 52 ?_; intro gb131 hg w3 hbox hb; have BK131 := am_ (hbox); have GW131 := am_ (gw_ hg bl_); have GE131 := GW131; replace HB := hs_ w hb; clear hb hbox hg) | ((with_reducible refine gate_dst (N := 5) rfl ?_); refine be_ 5 #[.string (⟨#[]⟩ : ByteArray), .slice none 0 0] 52 ?_; intro gb132 hg w4 hbox hb; have BK132 := am_ (hbox); have GW132 := am_ (gw_ hg bl_); have GE132 := GW132; replace HB := hs_ w hb; have NB131_132 := am_ (gn_ hg (blkl_ BK131)); have NB132_131 := am_ (gm_ hg (blkl_ BK131)); replace BK131 := bb_ BK131 hb; clear hb hbox hg; have hnb5 := NB132_131.out; have hnc5 := NB131_132.out; obtain ⟨hcz6_0, hcz6_1, hfz6_0, hfz6_1⟩ := cellsF2 BK132.out))
 go_loopg [6] k (fun kq v6 w' => ∃ (x6_1 : Int) (x133001_1 : List (S55)) (u133001 : Value), v6 = .int .i64 x6_1 ∧ Aside0 (F49.l0 kq l1 x6_1 a0 x133001_1 = some (r1, r2)) ∧ Aside0 (kq ≤ k) ∧ Aside0 (Kd.S k55 55 w' w.heap.size (fun _ => True) u133001 x133001_1) ∧ Aside0 (w'.heap[gb131]? = some (.cells #[.string (⟨#[]⟩ : ByteArray), (.slice none 0 0)] 52 (0, 0))) ∧ Aside0 (w'.heap[gb132]? = some (.cells #[.string a0, u133001] 52 (0, 0))) ∧ Aside0 (Below w.heap.size w w'))
 case atStart => exact ⟨(0), (([] : List (S55))), (.slice none 0 0), er_, H', ⟨Nat.le_refl _⟩, ⟨by first | exact Kd.S_nil _ _ _ _ _ | exact Kd.N_nil _ _ _ _ _ | exact Kd.V_nil _ _ _ _ _ | exact Kd.Q_nil _ _ _ _ _ | exact Kd.R_nil _ _ _ _ _⟩, ⟨bf_ BK131⟩, ⟨bq_ BK132⟩, ⟨bl_⟩⟩
 case round =>
  clear H'
  try clear c1
  try clear hcz6_0 hcz6_1
  try clear hfz6_0 hfz6_1
  obtain ⟨x6_1, x133001_1, u133001, rfl, HA, HK1, HO_133001, BK131, BK132, HB⟩ := hrel
  cases gk with
  | zero => exact absurd HA.out (by simp [F49.l0])
  | succ k1 =>
   have H := HA.out
   clear HA
   simp only [F49.l0] at H
   replace H := it_ H; rcases H with ⟨c7b0, H⟩ | ⟨c7b0, H⟩
   rotate_left
   ·simp only [Option.some.injEq, Prod.mk.injEq] at H
    obtain ⟨rfl, rfl⟩ := H
    have hnb17 := NB132_131.out
    have hnc17 := NB131_132.out
    obtain ⟨hcz18_0, hcz18_1, hfz18_0, hfz18_1⟩ := cellsF2 BK132.out
    obtain ⟨hcz19_0, hcz19_1, hfz19_0, hfz19_1⟩ := cellsF2 BK131.out
    obtain ⟨Ao20, co20, eo20⟩ := Kd.S_slice HO_133001.out
    subst eo20
    go_wp2
    refine bodyPost_ret (results_cell_row rfl _ _ gb131 52 #[.string a0, .slice Ao20 x133001_1.length co20] (0, 0) _ rfl (bq_ BK131) Tryd.underlying52 rfl (by kernel_rfl)) rfl ?_
    exact ⟨_, au1_0, by (with_reducible repeat (first | apply Kd.S_alloc | apply Kd.S_drewN | apply Kd.S_drew)); exact Kd.S_mono (Kd.S_far (p := ⟨gb131, 1, none⟩) (Kd.S_far (p := ⟨gb131, 0, none⟩) (Kd.S_types HO_133001.out BK131.out (by decide)) (fun _ hk => hk.2) (.string a0)) (fun _ hk => hk.2) (.slice Ao20 x133001_1.length co20)) (fun _ hk => trivial), bl_⟩

   replace H := itn_ H; rcases H with ⟨c8b0, H⟩
   obtain ⟨y134, hy134⟩ : ∃ y_ : List ByteArray, y_ = (([rdOf ByteArray.empty l1 x6_1] : List ByteArray)) := ⟨_, rfl⟩
   replace H : (if x133001_1.length < 5864062014805 then (F49.l0 k1 l1 (wrap64 (x6_1 + 1)) a0 (x133001_1 ++ [(⟨y134⟩ : S55)])) else (none)) = some (r1, r2) := by first | (rw [hy134]; exact H) | exact H
   have Ny134 := am_ hy134
   clear hy134
   replace H := iln_ H; rcases H with ⟨LMc9, H⟩
   obtain ⟨y137, hy137⟩ : ∃ y_ : List (S55), y_ = (x133001_1 ++ [(⟨y134⟩ : S55)]) := ⟨_, rfl⟩
   replace H : (F49.l0 k1 l1 (wrap64 (x6_1 + 1)) a0 y137) = some (r1, r2) := by first | (rw [hy137]; exact H) | exact H
   have Ny137 := am_ hy137
   clear hy137
   have H' := am_ H
   clear H
   try go_wp2
   replace HO_133001 := am_ (Kd.S_drew HO_133001.out)
   replace BK131 := bd_ BK131
   replace BK132 := bd_ BK132
   replace HB := am_ (below_drew1 HB.out)
   have p133 : 0 ≤ (x6_1 : Int) := od_
   have q133 : x6_1 < (l1.length : Int) := od_
   obtain ⟨ad133, e133, hx133_0⟩ := Kd.at_string HR1.out x6_1 p133 q133
   have hw133_0 := hx133_0
   cases e133
   replace hx133_0 := (HB.out.cell (World.block_lt_of_cell? _ _ hx133_0)).trans hx133_0
   replace p133 := eq_true p133
   replace q133 := eq_true q133
   refine start_ (n := 12) (S := fun w' => w'.cell? ⟨gb132, 0, none⟩ = some (.string a0) ∧ w'.cell? ⟨gb132, 1, none⟩ = some (u133001) ∧ w'.cell? (ad133.add (x6_1).toNat) = some (.string (rdOf ByteArray.empty l1 x6_1))) (ds := [11]) (bs 12 0) (by kernel_rfl) rfl rfl ⟨(blk_cell BK132.out 0).trans rfl, (blk_cell BK132.out 1).trans rfl, ((HB.out.cell (World.block_lt_of_cell? _ _ hw133_0)).trans hw133_0)⟩ (fun hHeld => ?_); refine with_tabW F49.tab5 F49.bits5 (fun HT_ HW_ => ?_)
   generalize wr.drew = w10 at HO_133001 BK131 BK132 HB hx133_0 hHeld ⊢
   refine pu_ 0 15 (bs 12 1) HT_ ?_ rfl rfl
   refine pu_ 2 17 (bs 12 5) HT_ ?_ rfl rfl
   refine pu_ 3 18 (bs 12 13) HT_ ?_ rfl rfl
   refine pu_ 4 19 (bs 12 29) HT_ ?_ rfl rfl
   refine tk_ 1 16 (bs 12 31) HT_ HW_ hHeld (by rintro w' ⟨s0, s1, s2⟩; go_simp; with_reducible rfl) ?_ rfl rfl
   refine tk_ 5 20 (bs 12 63) HT_ HW_ hHeld (by rintro w' ⟨s0, s1, s2⟩; go_simp; with_reducible rfl) ?_ rfl rfl
   refine one_ (i := 6) (N := some 21) (bs 12 127) rfl rfl (one_of HT_.out (by kernel_rfl)) (by decide) (fun K hK => ?_)
   refine Kd.R_lit_step Kd.string _ 9 ?hg (N := 21) ?hd (xs := ([rdOf ByteArray.empty l1 x6_1] : List ByteArray)) (inner := [.string (rdOf ByteArray.empty l1 x6_1)]) (ok := fun _ => True) (okp := fun _ => True) ?hr ?hp (fun _ hk => hk) trivial (Below.refl _ _) (Nat.le_refl _) (by simp) ?_; (case hd => rfl); (case hg => rfl); (case hr => exact hr_); (case hp => exact (Reps.one (show Kd.M Kd.string _ _ _ (rdOf ByteArray.empty l1 x6_1) [.string (rdOf ByteArray.empty l1 x6_1)] from rfl) (Reps.none _ _)))
   intro v135 w11 ho12 hb hg_ hnew_
   clear hg_ hnew_
   (first | rw [← Ny134.out] at ho12 | (simp only [Int.reduceToNat] at ho12; rw [← Ny134.out] at ho12))
   replace HO_133001 := am_ (Kd.S_elder' (by (with_reducible repeat (first | apply Kd.S_alloc | apply Kd.S_drewN | apply Kd.S_drew)); exact HO_133001.out) (Kd.R_base ho12) hb)
   have HO136 := am_ (Kd.R_lower ho12 (below_size bl_))
   replace BK131 := bb_ BK131 hb
   replace BK132 := bb_ BK132 hb
   replace HB := hs_ w hb
   clear hb ho12
   obtain ⟨Ao13, co13, eo13⟩ := Kd.R_slice HO136.out
   (first | subst eo13 | (injection eo13 with f1_ f2_ f3_; have f4_ := f1_.symm; have f5_ := f3_.symm; clear f1_ f2_ f3_; subst f4_; subst f5_))
   refine hK.out _ _ ⟨(blk_cell BK132.out 0).trans rfl, (blk_cell BK132.out 1).trans rfl, ((HB.out.cell (World.block_lt_of_cell? _ _ hw133_0)).trans hw133_0)⟩ (fun hHeld => ?_)
   clear hK K
   refine no_ 21 ?_
   refine pu_ 7 22 (bs 12 255) HT_ ?_ rfl rfl
   refine one_ (i := 8) (N := some 23) (bs 12 511) rfl rfl (one_of HT_.out (by kernel_rfl)) (by decide) (fun K hK => ?_)
   refine value_ (w1 := ?_) (v := ?_) (by rfl) rfl ?_ ?_
   rotate_left 2
   ·go_simp
    constructor
    ·rfl
    ·rfl
   refine hK.out _ _ ⟨(blk_cell (blk_alloc BK132.out _) 0).trans rfl, (blk_cell (blk_alloc BK132.out _) 1).trans rfl, (World.cell?_alloc_lt _ _ _ (World.block_lt_of_cell? _ _ (((HB.out.cell (World.block_lt_of_cell? _ _ hw133_0)).trans hw133_0)))).trans (((HB.out.cell (World.block_lt_of_cell? _ _ hw133_0)).trans hw133_0))⟩ (fun hHeld => ?_)
   clear hK K
   refine no_ 23 ?_
   refine one_ (i := 9) (N := some 24) (bs 12 1023) rfl rfl (one_of HT_.out (by kernel_rfl)) (by decide) (fun K hK => ?_)
   refine Kd.S_append_step k55 (w0 := w) w.heap.size (by rfl) (.tmp 16) (.tmp 23) 50 55 (.agg #[(.slice none 0 0)]) 24 rfl Tryd.underlying50 info55 rfl (by decide) (by omega) u133001 x133001_1 (⟨y134⟩ : S55) [.slice Ao13 y134.length co13] (fun _ => True) (fun k_ => some k_ = (.slice Ao13 y134.length co13 : Value).ownBlock) rfl rfl ?aP (fun k_ hk_ => ((Kd.R_mono (ok' := fun k_ => ((fun _ => True)) k_ ∧ some k_ ≠ (u133001 : Value).ownBlock) (Kd.R_apart' (HO136.out) (Kd.S_typed HO_133001.out) (by decide)) (fun k_ hk => ⟨trivial, hk.2⟩))).1 k_ hk_.symm) ?aF ?aO ?aB ?aS ?aL ?_
   (case aP => exact k55_mkM _ _ _ (⟨y134⟩ : S55) (Kd.R_mono (Kd.R_tight rfl (Kd.R_mono (ok' := fun k_ => ((fun _ => True)) k_ ∧ some k_ ≠ (u133001 : Value).ownBlock) (Kd.R_apart' (HO136.out) (Kd.S_typed HO_133001.out) (by decide)) (fun k_ hk => ⟨trivial, hk.2⟩))) (fun _ h_ => h_)))
   (case aB => exact bl_)
   (case aF => exact (fun _ _ => trivial))
   (case aO => exact (by (with_reducible repeat (first | apply Kd.S_alloc | apply Kd.S_drewN | apply Kd.S_drew)); exact Kd.S_mono HO_133001.out (fun k_ hk => ⟨trivial, fun e_ => hk.2 e_⟩)))
   (case aS => exact (below_size bl_))
   (case aL => have := LMc9.out; omega)
   intro v138 w14 ho hb hg hat
   rw [← Ny137.out] at ho
   have n0_ := am_ (bg_ BK131 hg (Kd.S_ne HO_133001.out BK131.out (by decide)))
   have n1_ := am_ (bg_ BK132 hg (Kd.S_ne HO_133001.out BK132.out (by decide)))
   have n2_ := am_ (hb)
   have n3_ := am_ (ho)
   clear BK131
   clear BK132
   clear HB
   clear HO_133001
   clear HO136
   have BK131 := n0_
   have BK132 := n1_
   have HB := n2_
   have HO139 := n3_
   clear n0_ n1_ n2_ n3_
   clear ho hb hg hat
   obtain ⟨Ao15, co15, eo15⟩ := Kd.S_slice HO139.out
   (first | subst eo15 | (injection eo15 with f1_ f2_ f3_; have f4_ := f1_.symm; have f5_ := f3_.symm; clear f1_ f2_ f3_; subst f4_; subst f5_))
   refine hK.out _ _ ⟨(blk_cell BK132.out 0).trans rfl, (blk_cell BK132.out 1).trans rfl, ((HB.out.cell (World.block_lt_of_cell? _ _ hw133_0)).trans hw133_0)⟩ (fun hHeld => ?_)
   clear hK K
   refine no_ 24 ?_
   refine pu_ 10 25 (bs 12 2047) HT_ ?_ rfl rfl
   refine last_ (i := 11) (N := none) (bs 12 4095) rfl rfl (one_of HT_.out (by kernel_rfl)) (by decide) (fun K hK => ?_)
   have hs16 : w14.cell? ⟨gb132, 1, none⟩ = some (u133001) := (blk_cell BK132.out 1).trans rfl
   have hfs16 := blk_frozen BK132.out 1
   have hns16_0 := NB131_132.out
   have hms16_0 := NB132_131.out
   refine skip_ (w1 := ?_) (by rfl) rfl ?_ ?_
   rotate_left
   ·go_simp
    rfl
   refine hK.out _ _ ?_
   clear hK K
   refine done_ (done_of HT_.out (by kernel_rfl)) ?_
   try go_wp2
   go_roundg k1
   case measure => have := HK1.out; omega
   case rel => exact ⟨(wrap64 (x6_1 + 1)), (y137), (.slice Ao15 y137.length co15), er_, H', ⟨by have := HK1.out; omega⟩, ⟨by (with_reducible repeat (first | apply Kd.S_alloc | apply Kd.S_drewN | apply Kd.S_drew)); exact Kd.S_mono (Kd.S_far (p := ⟨gb132, 1, none⟩) (Kd.S_types HO139.out BK132.out (by decide)) (fun _ hk => hk.2) (.slice Ao15 y137.length co15)) (fun _ hk => trivial)⟩, ⟨bf_ BK131⟩, ⟨bq_ BK132⟩, ⟨bl_⟩⟩
/-! ### F35: function 35 -/
def F35.f (k : Nat) (a0_0 : ByteArray) (a0_1 : ByteArray) (a0_2 : Int) (l0_3 : List (S83)) : Option (ByteArray × (List (S55))) := (F50.f k a0_2).bind fun t142 => ((F49.f k (⟨#[73, 88, 72]⟩ : ByteArray) (([a0_0, a0_1, t142] : List ByteArray))).bind fun bt146 => (some (bt146.1, bt146.2)))
theorem F35.mono : ∀ a0 a1 a2 a3 k, LeO (F35.f k a0 a1 a2 a3) (F35.f (k + 1) a0 a1 a2 a3) := by
 intro a0 a1 a2 a3 k
 unfold F35.f
 repeat' with_reducible first | exact F50.mono _ _ | exact F49.mono _ _ _ | exact LeO.refl _ | exact LeO.none _ | refine LeO.ite ?_ ?_ | refine LeO.bind ?_ (fun _ => ?_)
def F35.T1 : Bool × List (List Nat × List Nat) := (true, [([], []), ([0], [0]), ([], []), ([2], [2]), ([], []), ([4], [4]), ([5], [5]), ([1, 3, 6], [1, 3, 6]), ([7, 6], [7]), ([8, 8, 0, 1, 2, 3, 4, 5, 6, 7, 8], [8])])
def F35.B1 : List Nat := [0, 1, 0, 4, 0, 16, 48, 127, 255, 511]
theorem F35.tab1 : rtab .any (opsOf Tryd.f35 1) = F35.T1 := by kernel_rfl
theorem F35.bits1 : waitsOk F35.T1.2 F35.B1 = true := by kernel_rfl
theorem F35.calls (k : Nat) (a0_0 : ByteArray) (a0_1 : ByteArray) (a0_2 : Int) (A0_3 : Option Addr) (c0_3 : Nat) (l0_3 : List (S83)) (r1 : ByteArray) (r2 : List (S55)) (w : World) (hr0_3 : Kd.C k83 w A0_3 l0_3.length l0_3) (hc0_3 : l0_3.length ≤ c0_3) (h : F35.f k a0_0 a0_1 a0_2 l0_3 = some (r1, r2)) :
  Calls Tryd.prog 35 #[.agg #[.string a0_0, .string a0_1, .int .i64 a0_2, .slice A0_3 l0_3.length c0_3]] w fun e w' => ∃ v1_ : Value, e = .returned (.agg #[.string r1, v1_]) ∧ Kd.S k55 55 w' w.heap.size (fun _ => True) v1_ r2 ∧ Below w.heap.size w w' := by
 have hu29 := Tryd.underlying29
 have hu52 := Tryd.underlying52
 have HR0_3 := am_ hr0_3
 have HC0_3 := am_ hc0_3
 clear hr0_3 hc0_3
 have HB := am_ (Below.refl w.heap.size w)
 have H : ((F50.f k a0_2).bind fun t142 => ((F49.f k (⟨#[73, 88, 72]⟩ : ByteArray) (([a0_0, a0_1, t142] : List ByteArray))).bind fun bt146 => (some (bt146.1, bt146.2)))) = some (r1, r2) := h
 clear h
 replace H := bi_ H; rcases H with ⟨t142, A2, H⟩
 obtain ⟨y143, hy143⟩ : ∃ y_ : List ByteArray, y_ = (([a0_0, a0_1, t142] : List ByteArray)) := ⟨_, rfl⟩
 replace H : ((F49.f k (⟨#[73, 88, 72]⟩ : ByteArray) y143).bind fun bt146 => (some (bt146.1, bt146.2))) = some (r1, r2) := by first | (rw [hy143]; exact H) | exact H
 have Ny143 := am_ hy143
 clear hy143
 replace H := bi_ H; rcases H with ⟨⟨t146, t147⟩, A3, H⟩
 simp only [Option.some.injEq, Prod.mk.injEq] at H
 obtain ⟨rfl, rfl⟩ := H
 go_enter Tryd.func35, Tryd.ntmps35
 try go_wp2_with (first | ((with_reducible refine gate_dst (N := 1) rfl ?_); refine be_ 1 #[.string a0_0, .string a0_1, .int .i64 a0_2, .slice A0_3 l0_3.length c0_3] 29 ?_; intro gb140 hg w4 hbox hb; have BK140 := am_ (hbox); have GW140 := am_ (gw_ hg bl_); have GE140 := GW140; replace HB := hs_ w hb; clear hb hbox hg) | ((with_reducible refine gate_dst (N := 2) rfl ?_); refine be_ 2 #[.string (⟨#[]⟩ : ByteArray), .slice none 0 0] 52 ?_; intro gb141 hg w5 hbox hb; have BK141 := am_ (hbox); have GW141 := am_ (gw_ hg bl_); have GE141 := GW141; replace HB := hs_ w hb; have NB140_141 := am_ (gn_ hg (blkl_ BK140)); have NB141_140 := am_ (gm_ hg (blkl_ BK140)); replace BK140 := bb_ BK140 hb; clear hb hbox hg))
 replace BK140 := bd_ BK140
 replace BK141 := bd_ BK141
 replace HB := am_ (below_drew1 HB.out)
 refine start_ (n := 10) (S := fun w' => w'.cell? ⟨gb140, 0, none⟩ = some (.string a0_0) ∧ w'.cell? ⟨gb140, 1, none⟩ = some (.string a0_1) ∧ w'.cell? ⟨gb140, 2, none⟩ = some (.int .i64 a0_2) ∧ w'.cell? ⟨gb140, 3, none⟩ = some (.slice A0_3 l0_3.length c0_3)) (ds := []) (bs 10 0) (by kernel_rfl) rfl rfl ⟨(blk_cell BK140.out 0).trans rfl, (blk_cell BK140.out 1).trans rfl, (blk_cell BK140.out 2).trans rfl, (blk_cell BK140.out 3).trans rfl⟩ (fun hHeld => ?_); refine with_tabW F35.tab1 F35.bits1 (fun HT_ HW_ => ?_)
 generalize w5.drew = w6 at BK140 BK141 HB hHeld ⊢
 refine pu_ 0 3 (bs 10 1) HT_ ?_ rfl rfl
 refine pu_ 2 5 (bs 10 5) HT_ ?_ rfl rfl
 refine pu_ 4 7 (bs 10 21) HT_ ?_ rfl rfl
 refine tk_ 1 4 (bs 10 23) HT_ HW_ hHeld au1_6 ?_ rfl rfl
 refine tk_ 3 6 (bs 10 31) HT_ HW_ hHeld au1_6 ?_ rfl rfl
 refine tk_ 5 8 (bs 10 63) HT_ HW_ hHeld au1_6 ?_ rfl rfl
 refine one_ (i := 6) (N := some 9) (bs 10 127) rfl rfl (one_of HT_.out (by kernel_rfl)) (by decide) (fun K hK => ?_)
 refine gr_ Tryd.func50 #[.int .i64 a0_2] (by rfl) ?_ rfl rfl rfl
 with_reducible refine (F50.calls k a0_2 t142 _ A2.out).mono ?_
 rintro e w7 ⟨rfl, hb⟩
 refine ⟨_, rfl, ?_⟩
 replace BK140 := bb_ BK140 hb
 replace BK141 := bb_ BK141 hb
 replace HB := hs_ w hb
 (try clear hb)
 (try clear hb2)
 (try clear hk)
 (try clear hi)
 refine hK.out _ _ ⟨(blk_cell BK140.out 0).trans rfl, (blk_cell BK140.out 1).trans rfl, (blk_cell BK140.out 2).trans rfl, (blk_cell BK140.out 3).trans rfl⟩ (fun hHeld => ?_)
 clear hK K
 refine no_ 9 ?_
 refine one_ (i := 7) (N := some 10) (bs 10 255) rfl rfl (one_of HT_.out (by kernel_rfl)) (by decide) (fun K hK => ?_)
 refine Kd.R_lit_step Kd.string _ 9 ?hg (N := 10) ?hd (xs := ([a0_0, a0_1, t142] : List ByteArray)) (inner := [.string a0_0, .string a0_1, .string t142]) (ok := fun _ => True) (okp := fun _ => True) ?hr ?hp (fun _ hk => hk) trivial (Below.refl _ _) (Nat.le_refl _) (by simp) ?_; (case hd => rfl); (case hg => rfl); (case hr => exact hr_); (case hp => exact (Reps.one (show Kd.M Kd.string _ _ _ a0_0 [.string a0_0] from rfl) (Reps.one (show Kd.M Kd.string _ _ _ a0_1 [.string a0_1] from rfl) (Reps.one (show Kd.M Kd.string _ _ _ t142 [.string t142] from rfl) (Reps.none _ _)))))
 intro v144 w8 ho9 hb hg_ hnew_
 clear hg_ hnew_
 (first | rw [← Ny143.out] at ho9 | (simp only [Int.reduceToNat] at ho9; rw [← Ny143.out] at ho9))
 have HO145 := am_ (Kd.R_lower ho9 (below_size bl_))
 replace BK140 := bb_ BK140 hb
 replace BK141 := bb_ BK141 hb
 replace HB := hs_ w hb
 clear hb ho9
 obtain ⟨Ao10, co10, eo10⟩ := Kd.R_slice HO145.out
 (first | subst eo10 | (injection eo10 with f1_ f2_ f3_; have f4_ := f1_.symm; have f5_ := f3_.symm; clear f1_ f2_ f3_; subst f4_; subst f5_))
 refine hK.out _ _ ⟨(blk_cell BK140.out 0).trans rfl, (blk_cell BK140.out 1).trans rfl, (blk_cell BK140.out 2).trans rfl, (blk_cell BK140.out 3).trans rfl⟩ (fun hHeld => ?_)
 clear hK K
 refine no_ 10 ?_
 refine one_ (i := 8) (N := some 11) (bs 10 511) rfl rfl (one_of HT_.out (by kernel_rfl)) (by decide) (fun K hK => ?_)
 refine gr_ Tryd.func49 #[.string (⟨#[73, 88, 72]⟩ : ByteArray), .slice Ao10 y143.length co10] (by rfl) ?_ rfl rfl rfl
 with_reducible refine (F49.calls k (⟨#[73, 88, 72]⟩ : ByteArray) _ _ y143 t146 t147 _ ?s1 ?s2 A3.out).mono ?_
 (case s1 => repeat (first | exact (Kd.R_reads' HO145.out).2.2 | (with_reducible refine Kd.C_alloc ?_ _) | (with_reducible refine Kd.C_drewN ?_ _) | (with_reducible refine Kd.C_drew ?_)))
 (case s2 => exact (Kd.R_reads' HO145.out).2.1)
 rintro e w11 ⟨v148, rfl, ho0, hb⟩
 refine ⟨_, rfl, ?_⟩
 have HO149 := am_ (Kd.S_lower (Kd.S_new' ho0 (Kd.R_lt (rk_ HO145))) (below_size bl_))
 replace HO145 := am_ (Kd.R_below (rk_ HO145) hb)
 replace BK140 := bb_ BK140 hb
 replace BK141 := bb_ BK141 hb
 replace HB := hs_ w hb
 (try clear hb)
 (try clear hb2)
 (try clear hk)
 (try clear hi)
 (try clear ho0)
 obtain ⟨Ao13, co13, eo13⟩ := Kd.S_slice HO149.out
 (first | subst eo13 | (injection eo13 with f1_ f2_ f3_; have f4_ := f1_.symm; have f5_ := f3_.symm; clear f1_ f2_ f3_; subst f4_; subst f5_))
 refine hK.out _ _ ⟨(blk_cell BK140.out 0).trans rfl, (blk_cell BK140.out 1).trans rfl, (blk_cell BK140.out 2).trans rfl, (blk_cell BK140.out 3).trans rfl⟩ (fun hHeld => ?_)
 clear hK K
 refine no_ 11 ?_
 refine one_ (i := 9) (N := none) (bs 10 1023) rfl rfl (one_of HT_.out (by kernel_rfl)) (by decide) (fun K hK => ?_)
 have hs12 : w11.cell? ⟨gb141, 0, none⟩ = some (.string (⟨#[]⟩ : ByteArray)) := (blk_cell BK141.out 0).trans rfl
 have hfs12 := blk_frozen BK141.out 0
 have hns12_0 := NB140_141.out
 have hms12_0 := NB141_140.out
 have hs14 : w11.cell? ⟨gb141, 1, none⟩ = some (.slice none 0 0) := (blk_cell BK141.out 1).trans rfl
 have hfs14 := blk_frozen BK141.out 1
 have hns14_0 := NB140_141.out
 have hms14_0 := NB141_140.out
 refine skip_ (w1 := ?_) (by rfl) rfl ?_ ?_
 rotate_left
 ·go_simp
  rfl
 refine hK.out _ _ ⟨((cell_far (p := ⟨gb141, _, none⟩) NB140_141.out _).trans (((cell_far (p := ⟨gb141, _, none⟩) NB140_141.out _).trans (hHeld.1)))), ((cell_far (p := ⟨gb141, _, none⟩) NB140_141.out _).trans (((cell_far (p := ⟨gb141, _, none⟩) NB140_141.out _).trans (hHeld.2.1)))), ((cell_far (p := ⟨gb141, _, none⟩) NB140_141.out _).trans (((cell_far (p := ⟨gb141, _, none⟩) NB140_141.out _).trans (hHeld.2.2.1)))), ((cell_far (p := ⟨gb141, _, none⟩) NB140_141.out _).trans (((cell_far (p := ⟨gb141, _, none⟩) NB140_141.out _).trans (hHeld.2.2.2))))⟩ (fun hHeld => ?_)
 clear hK K
 refine done_ (done_of HT_.out (by kernel_rfl)) ?_
 try go_wp2
 refine bodyPost_ret (results_cell_row rfl _ _ gb141 52 #[.string t146, .slice Ao13 t147.length co13] (0, 0) _ rfl (bq_ BK141) Tryd.underlying52 rfl (by kernel_rfl)) rfl ?_
 exact ⟨_, au1_0, by (with_reducible repeat (first | apply Kd.S_alloc | apply Kd.S_drewN | apply Kd.S_drew)); exact Kd.S_mono (Kd.S_far (p := ⟨gb141, 1, none⟩) (Kd.S_far (p := ⟨gb141, 0, none⟩) (Kd.S_types HO149.out BK141.out (by decide)) (fun _ hk => hk.2) (.string t146)) (fun _ hk => hk.2) (.slice Ao13 t147.length co13)) (fun _ hk => trivial), bl_⟩
end Go.Proofs.YtlghcbmkhdibdaaDoor.PFnExactHeadOf
