-- printed by a program of this session (wip/xp/xprint.py) out of the translation; Lean checks it
import Derived.Test.YtlghcbmkhdibdaaGreatDoorPFnEnvelopesx0
import Derived.Test.YtlghcbmkhdibdaaGreatDoorPFnEnvelopesx2
import Derived.Test.YtlghcbmkhdibdaaGreatDoorPFnEnvelopesx5
import Derived.Test.YtlghcbmkhdibdaaGreatDoorPFnEnvelopesx7
namespace Go.Proofs.YtlghcbmkhdibdaaGreatDoor.PFnEnvelopes
open Go.RowKit Go.Proofs.YtlghcbmkhdibdaaGreatDoorW.PrintWords Go.Proofs.YtlghcbmkhdibdaaGreatDoorW.PrintLast Go.Proofs.YtlghcbmkhdibdaaGreatDoorW.PrintMore
attribute [local go_sem] max2_int min2_int max_two min_two max_three min_three max_four min_four   -- for this text's walks alone
set_option linter.unusedVariables false
set_option linter.unusedSimpArgs false
set_option maxHeartbeats 8000000
set_option maxRecDepth 100000
theorem au8_3 {p : Prop} (h : p := by repeat (first | (with_reducible first | exact ba.out | apply IsS80.alloc | apply IsS80.drewN | apply IsS80.drew | apply IsS80.set_1 | apply IsS80.set_6 | refine IsS80.far ?_ sr.out _ | refine IsS80.far ?_ st.out _) | exact ba.out)) : p := h
theorem au8_10 {p : Prop} (h : p := by repeat (first | (with_reducible first | exact ba.out | apply IsS80.alloc | apply IsS80.drewN | apply IsS80.drew | apply IsS80.set_1 | apply IsS80.set_6) | exact ba.out)) : p := h
theorem au8_12 {p : Prop} (h : p := by repeat (first | (with_reducible first | exact HK.out | apply KeepBut.set_ | apply keep_drewN | apply keep_drew | apply keep_alloc | refine keep_far ?_ vY.out _) | exact HK.out)) : p := h
theorem au8_13 {p : Prop} (h : p := by repeat (first | exact (Kd.C_below su.out HB.out) | (with_reducible refine Kd.C_alloc ?_ _) | (with_reducible refine Kd.C_drewN ?_ _) | (with_reducible refine Kd.C_drew ?_))) : p := h
theorem au8_15 {p : Prop} (h : p := by rintro w' ⟨s0, s1, s2, s3, s4, s5, s6, s7, s8, s9, s10⟩; go_simp; with_reducible rfl) : p := h
theorem au8_21 {p : Prop} (h : p := by repeat (first | (with_reducible first | exact HB.out | apply below_alloc | apply pw_below_drewN | apply below_drew1 | refine below_set ?_ (IsS80.ge ba.out) | refine below_set ?_ vW.out) | exact HB.out)) : p := h
theorem au8_27 {p : Prop} (h : p := by have := Ew.out; have := HK2.out; have := GW.out; first | omega | exact Nat.le_refl _) : p := h
theorem tg8_1 {p : Prop} (h : p := by exact norm_ ax56_ (hCont (aI) _ ⟨hHeld, (bk_ aw), (bk_ ao), (bk_ aj), sv.out, sw.out, cW.out, cX.out, bi.out, cY.out, bl_⟩)) : p := h
theorem tg8_2 {p : Prop} (h : p := by exact ⟨_, (true), er_, H', ⟨ax10_⟩, ⟨bk_ aw⟩, ⟨bk_ ao⟩, ⟨bk_ aj⟩, ⟨bl_⟩⟩) : p := h
theorem tg8_3 {p : Prop} (h : p := by exact ⟨ax11_, ax31_, ax27_, ax42_⟩) : p := h
theorem tg8_4 {p : Prop} (h : p := by repeat' with_reducible first | exact ef _ _ _ _ _ | exact kW _ _ _ _ _ _ _ | exact F83.mono _ _ | exact LeO.refl _ | exact LeO.none _ | refine LeO.ite ?_ ?_ | refine LeO.bind ?_ (fun _ => ?_)) : p := h
theorem tg8_5 {p : Prop} (h : p := by repeat' with_reducible first | exact ef _ _ _ _ _ _ _ _ | exact F86.mono _ _ _ _ | exact LeO.refl _ | exact LeO.none _ | refine LeO.ite ?_ ?_ | refine LeO.bind ?_ (fun _ => ?_)) : p := h
theorem tg8_6 {p : Prop} (h : p := by repeat' with_reducible first | exact ef _ _ _ _ _ _ _ _ _ _ | exact kW _ _ _ _ _ _ _ _ _ | exact ro _ _ _ _ _ _ _ _ _ _ | exact DH _ _ _ _ _ _ _ _ _ _ | exact F41.mono _ _ _ | exact F27.mono _ _ _ | exact F86.mono _ _ _ _ | exact F50.mono _ _ _ _ _ _ _ _ _ _ _ | exact LeO.refl _ | exact LeO.none _ | refine LeO.ite ?_ ?_ | refine LeO.bind ?_ (fun _ => ?_)) : p := h
def F46.j0 : Nat → Bool → ByteArray → ByteArray → Int → Option (ByteArray × ByteArray × Int × (List (S53)) × Bool × Int × Int)
  | 0, _, _, _, _ => none
  | k + 1, Z9, Br, Bs, Bt => if Z9 = true then (some ((⟨#[]⟩ : ByteArray), (⟨#[]⟩ : ByteArray), 0, ([] : List (S53)), false, 0, 3)) else (some (Br, Bs, Bt, ([] : List (S53)), true, 0, 0))
def F46.f (k : Nat) (l0 : List (S49)) : Option (ByteArray × ByteArray × Int × (List (S53)) × Bool × Int × Int) := if (l0.length : Int) > 400 then (some ((⟨#[]⟩ : ByteArray), (⟨#[]⟩ : ByteArray), 0, ([] : List (S53)), false, 0, 2)) else (if (l0.length : Int) = 0 then (some ((⟨#[]⟩ : ByteArray), (⟨#[]⟩ : ByteArray), 0, ([] : List (S53)), false, 0, 6)) else (if 0 < (l0.length : Int) then ((F84.f ((rd_T49 l0 0).f0) ((rd_T49 l0 0).f1) 2 0).bind fun GX => ((F83.f k GX).bind fun mq => ((F84.f ((rd_T49 l0 0).f0) ((rd_T49 l0 0).f1) 0 0).bind fun dA => ((F84.f ((rd_T49 l0 0).f0) ((rd_T49 l0 0).f1) 1 0).bind fun dH => ((F39.f k dA).bind fun MV => (if MV = true then ((F39.f k dH).bind fun MW => (if MW = true then ((F40.f mq.1).bind fun MX => (if MX = true then ((F23.f k dA dH mq.1 ([] : List (S53))).bind fun Ei => ((F85.f k ((rd_T49 l0 0).f0) ((rd_T49 l0 0).f1) Ei.1 Ei.2).bind fun GY => (F46.j0 k (!GY) dA dH mq.1))) else (F46.j0 k true dA dH mq.1))) else (F46.j0 k true dA dH mq.1))) else (F46.j0 k true dA dH mq.1))))))) else (none)))
def F46.T7 : Bool × List (List Nat × List Nat) := (true, [([], []), ([0], [0]), ([], []), ([2, 1], [2]), ([], []), ([1, 3, 4], [1, 3, 4]), ([], []), ([6, 5, 3, 0, 1, 2, 3, 4, 5, 6], [5, 6])])
def F46.B7 : List Nat := [0, 1, 0, 7, 0, 31, 0, 127]
theorem F46.tab7 : rtab .any (opsOf Tryz.f46 7) = F46.T7 := by kernel_rfl
theorem F46.bits7 : waitsOk F46.T7.2 F46.B7 = true := by kernel_rfl
def F46.T8 : Bool × List (List Nat × List Nat) := (true, [([], []), ([0], [0]), ([1], [1]), ([2], [2]), ([3, 2], [3]), ([4], [4]), ([5, 4], [4, 5]), ([6, 4, 4], [4, 6]), ([7, 4], [4, 7]), ([4, 8], [4, 8]), ([9, 7], [9]), ([10], [10]), ([11, 10, 10], [10, 11]), ([12, 10], [10, 12]), ([10, 13], [10, 13]), ([14, 12], [14]), ([15], [15]), ([15], [15]), ([17, 15, 15], [15, 17]), ([16, 18, 18, 15], [15, 16, 18]), ([19, 15], [15, 19]), ([15, 20], [15, 20])])
def F46.B8 : List Nat := [0, 1, 3, 7, 15, 31, 63, 127, 255, 511, 1023, 2047, 4095, 8191, 16383, 32767, 65535, 65535, 196607, 524287, 1048575, 2097151]
theorem F46.tab8 : rtab .any (opsOf Tryz.f46 8) = F46.T8 := by kernel_rfl
theorem F46.bits8 : waitsOk F46.T8.2 F46.B8 = true := by kernel_rfl
theorem F46.calls {k : Nat} {A0 : Option Addr} {c0 : Nat} {l0 : List (S49)} {r1 r2 : ByteArray} {r3 : Int} {r4 : List (S53)} {r5 : Bool} {r6 r7 : Int} {w : World} (bH : Kd.C k49 w A0 l0.length l0) (hc0 : l0.length ≤ c0) (h : F46.f k l0 = some (r1, r2, r3, r4, r5, r6, r7)) :
  Calls Tryz.prog 46 #[.slice A0 l0.length c0] w fun e w' => e = .returned (.agg #[.string r1, .string r2, .int .i64 r3, .slice none 0 0, .bool r5, .int .i64 r6, .int .i64 r7]) ∧ r4 = [] ∧ Below w.heap.size w w' := by
 have Ff := Tryz.underlying41
 have dk := Tryz.underlying49
 have gJ := Tryz.underlying30
 have fN := am_ bH
 have kt := am_ hc0
 clear bH hc0
 have HB := am_ (Below.refl w.heap.size w)
 have H := h; unfold F46.f at H
 clear h
 replace H := it_ H; rcases H with ⟨(c2b0 : decide (400 < (l0.length : Int)) = true), H⟩ | ⟨(c2b0 : decide (400 < (l0.length : Int)) = false), H⟩
 ·have c2b1 : decide (400 < l0.length) = true := n2_ c2b0
  simp only [Option.some.injEq, Prod.mk.injEq] at H
  obtain ⟨rfl, rfl, rfl, rfl, rfl, rfl, rfl⟩ := H
  go_enter Tryz.func46, Tryz.ntmps46
  go_wp2_with (first | ((with_reducible refine gate_dst (N := 2) rfl ?_); refine be_ 2 #[.string (⟨#[]⟩ : ByteArray), .string (⟨#[]⟩ : ByteArray), .int .i64 0, .slice none 0 0, .bool false, .int .i64 0, .int .i64 0] 41 ?_; intro dL hg w3 hbox hb; have aw := am_ (hbox); have ow := am_ (gw_ hg bl_); have Ej := ow; replace HB := hs_ w hb; clear hb hbox hg; have mz := cellsF7 aw.out))
  refine bodyPost_ret (results_cell_row rfl _ _ dL 41 #[.string (⟨#[]⟩ : ByteArray), .string (⟨#[]⟩ : ByteArray), .int .i64 0, .slice none 0 0, .bool false, .int .i64 0, .int .i64 2] (0, 0) _ rfl (bq_ aw) Tryz.underlying41 rfl (by kernel_rfl)) rfl ?_
  first | exact ⟨ax11_, by first | rfl | trivial, bl_⟩ | exact ⟨ax11_, bl_⟩
 have c2b1 : decide (400 < l0.length) = false := n2_ c2b0
 by_cases c5 : (l0.length : Int) = 0
 ·rw [if_pos c5] at H
  have c5b0 : ((l0.length : Int) == 0) = true := beq_iff_eq.mpr c5
  have c5b1 : ((l0.length : Int) != 0) = false := bne_eq_false_iff_eq.mpr c5
  clear c5
  simp only [Option.some.injEq, Prod.mk.injEq] at H
  obtain ⟨rfl, rfl, rfl, rfl, rfl, rfl, rfl⟩ := H
  go_enter Tryz.func46, Tryz.ntmps46
  go_wp2_with (first | ((with_reducible refine gate_dst (N := 2) rfl ?_); refine be_ 2 #[.string (⟨#[]⟩ : ByteArray), .string (⟨#[]⟩ : ByteArray), .int .i64 0, .slice none 0 0, .bool false, .int .i64 0, .int .i64 0] 41 ?_; intro dL hg w6 hbox hb; have aw := am_ (hbox); have ow := am_ (gw_ hg bl_); have Ej := ow; replace HB := hs_ w hb; clear hb hbox hg; have fu := cellsF7 aw.out))
  refine bodyPost_ret (results_cell_row rfl _ _ dL 41 #[.string (⟨#[]⟩ : ByteArray), .string (⟨#[]⟩ : ByteArray), .int .i64 0, .slice none 0 0, .bool false, .int .i64 0, .int .i64 6] (0, 0) _ rfl (bq_ aw) Tryz.underlying41 rfl (by kernel_rfl)) rfl ?_
  first | exact ⟨ax11_, by first | rfl | trivial, bl_⟩ | exact ⟨ax11_, bl_⟩
 rw [if_neg c5] at H
 have c5b0 : ((l0.length : Int) == 0) = false := beq_eq_false_iff_ne.mpr c5
 have c5b1 : ((l0.length : Int) != 0) = true := bne_iff_ne.mpr c5
 have c5b2 : ¬ (l0 = []) := fun h_ => c5 (by rw [h_]; rfl)
 by_cases c8 : 0 < (l0.length : Int)
 rotate_left
 ·rw [if_neg c8] at H
  exact absurd H (by simp)
 rw [if_pos c8] at H
 have c8b0 : decide (0 < (l0.length : Int)) = true := decide_eq_true c8
 have c8b1 : decide (0 < l0.length) = true := decide_eq_true (by omega)
 clear c8
 replace H := bi_ H; rcases H with ⟨GX, A9, H⟩
 replace H := bi_ H; rcases H with ⟨⟨fD, a0a⟩, qB, H⟩
 replace H := bi_ H; rcases H with ⟨dA, C9, H⟩
 replace H := bi_ H; rcases H with ⟨dH, Ip, H⟩
 have GZ := am_ H
 clear H
 go_enter Tryz.func46, Tryz.ntmps46
 try go_wp2_with (first | ((with_reducible refine gate_dst (N := 2) rfl ?_); refine be_ 2 #[.string (⟨#[]⟩ : ByteArray), .string (⟨#[]⟩ : ByteArray), .int .i64 0, .slice none 0 0, .bool false, .int .i64 0, .int .i64 0] 41 ?_; intro dL hg gI hbox hb; have aw := am_ (hbox); have ow := am_ (gw_ hg bl_); have Ej := ow; replace HB := hs_ w hb; clear hb hbox hg; have G0 : 0 ≤ (0 : Int) := (by omega); have G1 : 0 < (l0.length : Int) := od_; obtain ⟨Wz, cg, ch, Sr, jb, jc, sx, sy⟩ := at_T49 fN.out 0 G0 G1; cases Sr; have WA : (0 < l0.length) = True := eq_true (by omega); (try rw [show ((0 : Int)).toNat = 0 from rfl] at jb); (try rw [show 0 * 2 = 0 from rfl] at jb); (try rw [Addr.add_zero'] at jb); (try rw [show ((0 : Int)).toNat = 0 from rfl] at jc); (try rw [show 0 * 2 = 0 from rfl] at jc); (try rw [Addr.add_zero'] at jc); replace jb := pw_cell_below HB.out jb; replace jc := pw_cell_below HB.out jc; have su := am_ sy; have fE := am_ sx; clear sy sx; replace G0 := eq_true G0; replace G1 := eq_true G1) | ((with_reducible refine gate_dst (N := 3) rfl ?_); refine be_ 3 #[.string (⟨#[]⟩ : ByteArray), .slice none 0 0] 49 ?_; intro dr hg Wu hbox hb; have ao := am_ (hbox); have MY := am_ (gw_ hg bl_); have WC := MY; replace HB := hs_ w hb; have mr := am_ (gn_ hg (blkl_ aw)); have vJ := am_ (gm_ hg (blkl_ aw)); replace aw := bb_ aw hb; clear hb hbox hg; obtain ⟨WD, WF⟩ := nn_ vJ; have mE := cellsF2 ao.out) | ((with_reducible refine gate_callee (f := 84) rfl ?_); refine gl_ 20 Tryz.func84 #[.agg #[.string ((rd_T49 l0 0).f0), .slice cg ((rd_T49 l0 0).f1).length ch], .int .i64 2, .int .i64 0] ?_ rfl rfl rfl rfl; (with_reducible refine (F84.calls ?s1 ?s2 A9.out).mono ?_); (case s1 => exact Kd.C_below su.out bl_); (case s2 => exact fE.out); rintro e zx ⟨rfl, hb⟩; refine ⟨_, rfl, ?_⟩; replace aw := am_ (blk_below (g := dL) (o := .cells #[.string (⟨#[]⟩ : ByteArray), .string (⟨#[]⟩ : ByteArray), .int .i64 0, .slice none 0 0, .bool false, .int .i64 0, .int .i64 0] 41 (0, 0)) (bf_ aw) hb); replace ao := am_ (blk_below (g := dr) (o := .cells #[.string ((rd_T49 l0 0).f0), .slice cg ((rd_T49 l0 0).f1).length ch] 49 (0, 0)) (bq_ ao) hb); replace HB := hs_ w hb; (try clear hb)) | ((with_reducible refine gate_callee (f := 83) rfl ?_); refine gl_ 21 Tryz.func83 #[.string GX] ?_ rfl rfl rfl rfl; (with_reducible refine (F83.calls qB.out).mono ?_); rintro e Rx ⟨rfl, hb⟩; refine ⟨_, rfl, ?_⟩; replace aw := bb_ aw hb; replace ao := bb_ ao hb; replace HB := hs_ w hb; (try clear hb)))
 replace aw := bd_ aw
 replace ao := bd_ ao
 replace HB := am_ (below_drew1 HB.out)
 refine start_ (n := 8) (S := fun w' => w'.cell? ⟨dr, 0, none⟩ = some (.string ((rd_T49 l0 0).f0)) ∧ w'.cell? ⟨dr, 1, none⟩ = some (.slice cg ((rd_T49 l0 0).f1).length ch)) (ds := []) (bs 8 0) (by kernel_rfl) rfl rfl ⟨(blk_cell ao.out 0).trans rfl, (blk_cell ao.out 1).trans rfl⟩ (fun hHeld => ?_); refine with_tabW F46.tab7 F46.bits7 (fun HT_ HW_ => ?_)
 generalize Rx.drew = Qo at aw ao HB hHeld ⊢
 refine pq_ 4 HT_ ?_
 refine tq_ 0 HT_ HW_ hHeld rfl ax55_ ?_
 refine tq_ 2 HT_ HW_ hHeld rfl ax55_ ?_
 refine join_ (σ := Nat) 1 (bs 8 127) (fun s_ => [(25, .string dA), (27, .string dH), (6, .pointer (some ⟨s_, 0, none⟩)), (29, .agg #[.string dA, .string dH, .int .i64 fD, .slice none 0 0])]) (fun s_ w' => (w'.cell? ⟨dr, 0, none⟩ = some (.string ((rd_T49 l0 0).f0)) ∧ w'.cell? ⟨dr, 1, none⟩ = some (.slice cg ((rd_T49 l0 0).f1).length ch)) ∧ (w'.heap[dL]? = some (.cells #[.string (⟨#[]⟩ : ByteArray), .string (⟨#[]⟩ : ByteArray), .int .i64 0, .slice none 0 0, .bool false, .int .i64 0, .int .i64 0] 41 (0, 0))) ∧ (w'.heap[dr]? = some (.cells #[.string ((rd_T49 l0 0).f0), .slice cg ((rd_T49 l0 0).f1).length ch] 49 (0, 0))) ∧ (w'.heap[s_]? = some (.cells #[.string (⟨#[]⟩ : ByteArray), .string (⟨#[]⟩ : ByteArray), .int .i64 0, .slice none 0 0] 30 (0, 0))) ∧ (w.heap.size ≤ s_) ∧ (w.heap.size ≤ s_) ∧ (dL ≠ s_) ∧ (s_ ≠ dL) ∧ (dr ≠ s_) ∧ (s_ ≠ dr) ∧ (Below w.heap.size w w')) ?_ ?_
 rotate_left
 ·intro hCont
  refine two_ (i := 1) (j := 6) (Ni := some 25) (Nj := some 6) (bs 8 23) (bs 8 85) rfl rfl rfl rfl (two_of HT_.out (by kernel_rfl)) (by decide) (by decide) (fun K hK => ?_) (fun K hK => ?_)
  rotate_left
  ·skip
   refine box_step ?hg (N := 6) ?hd (cs := #[.string (⟨#[]⟩ : ByteArray), .string (⟨#[]⟩ : ByteArray), .int .i64 0, .slice none 0 0]) (t := 30) ?hr ?_; (case hd => rfl); (case hg => rfl); (case hr => exact hr_)
   intro aI hg wA hbox hb
   have aj := am_ (hbox)
   have sv := am_ (gw_ hg bl_)
   have sw := am_ (gw_ hg bl_)
   replace HB := hs_ w hb
   have cW := am_ (gn_ hg (blkl_ aw))
   have cX := am_ (gm_ hg (blkl_ aw))
   replace aw := bb_ aw hb
   have bi := am_ (gn_ hg (blkl_ ao))
   have cY := am_ (gm_ hg (blkl_ ao))
   replace ao := bb_ ao hb
   clear hb hbox hg
   refine hK.out _ _ ⟨(blk_cell ao.out 0).trans rfl, (blk_cell ao.out 1).trans rfl⟩ (fun hHeld => ?_)
   clear hK K
   refine no_ 6 ?_
   refine oq_ 1 HT_ (fun K hK => ?_)
   refine gr_ Tryz.func84 #[.agg #[.string ((rd_T49 l0 0).f0), .slice cg ((rd_T49 l0 0).f1).length ch], .int .i64 0, .int .i64 0] (by rfl) ?_ rfl rfl rfl
   with_reducible refine (F84.calls ?s1 ?s2 C9.out).mono ?_
   (case s1 => exact au8_13)
   (case s2 => exact fE.out)
   rintro e zO ⟨rfl, hb⟩
   refine ⟨_, rfl, ?_⟩
   replace aw := bb_ aw hb
   replace ao := bb_ ao hb
   replace aj := bb_ aj hb
   replace HB := hs_ w hb
   (try clear hb)
   refine hK.out _ _ ⟨(blk_cell ao.out 0).trans rfl, (blk_cell ao.out 1).trans rfl⟩ (fun hHeld => ?_)
   clear hK K
   refine no_ 25 ?_
   refine oq_ 3 HT_ (fun K hK => ?_)
   refine gr_ Tryz.func84 #[.agg #[.string ((rd_T49 l0 0).f0), .slice cg ((rd_T49 l0 0).f1).length ch], .int .i64 1, .int .i64 0] (by rfl) ?_ rfl rfl rfl
   with_reducible refine (F84.calls ?s1 ?s2 Ip.out).mono ?_
   (case s1 => exact au8_13)
   (case s2 => exact fE.out)
   rintro e Ic ⟨rfl, hb⟩
   refine ⟨_, rfl, ?_⟩
   replace aw := bb_ aw hb
   replace ao := bb_ ao hb
   replace aj := bb_ aj hb
   replace HB := hs_ w hb
   (try clear hb)
   refine hK.out _ _ ⟨(blk_cell ao.out 0).trans rfl, (blk_cell ao.out 1).trans rfl⟩ (fun hHeld => ?_)
   clear hK K
   refine no_ 27 ?_
   refine pq_ 5 HT_ ?_
   exact tg8_1
  skip
  refine gr_ Tryz.func84 #[.agg #[.string ((rd_T49 l0 0).f0), .slice cg ((rd_T49 l0 0).f1).length ch], .int .i64 0, .int .i64 0] (by rfl) ?_ rfl rfl rfl
  with_reducible refine (F84.calls ?s1 ?s2 C9.out).mono ?_
  (case s1 => exact au8_13)
  (case s2 => exact fE.out)
  rintro e wA ⟨rfl, hb⟩
  refine ⟨_, rfl, ?_⟩
  replace aw := bb_ aw hb
  replace ao := bb_ ao hb
  replace HB := hs_ w hb
  (try clear hb)
  refine hK.out _ _ ⟨(blk_cell ao.out 0).trans rfl, (blk_cell ao.out 1).trans rfl⟩ (fun hHeld => ?_)
  clear hK K
  refine no_ 25 ?_
  refine two_ (i := 3) (j := 6) (Ni := some 27) (Nj := some 6) (bs 8 31) (bs 8 87) rfl rfl rfl rfl (two_of HT_.out (by kernel_rfl)) (by decide) (by decide) (fun K hK => ?_) (fun K hK => ?_)
  ·skip
   refine gr_ Tryz.func84 #[.agg #[.string ((rd_T49 l0 0).f0), .slice cg ((rd_T49 l0 0).f1).length ch], .int .i64 1, .int .i64 0] (by rfl) ?_ rfl rfl rfl
   with_reducible refine (F84.calls ?s1 ?s2 Ip.out).mono ?_
   (case s1 => exact au8_13)
   (case s2 => exact fE.out)
   rintro e zO ⟨rfl, hb⟩
   refine ⟨_, rfl, ?_⟩
   replace aw := bb_ aw hb
   replace ao := bb_ ao hb
   replace HB := hs_ w hb
   (try clear hb)
   refine hK.out _ _ ⟨(blk_cell ao.out 0).trans rfl, (blk_cell ao.out 1).trans rfl⟩ (fun hHeld => ?_)
   clear hK K
   refine no_ 27 ?_
   refine pq_ 5 HT_ ?_
   refine oq_ 6 HT_ (fun K hK => ?_)
   refine box_step ?hg (N := 6) ?hd (cs := #[.string (⟨#[]⟩ : ByteArray), .string (⟨#[]⟩ : ByteArray), .int .i64 0, .slice none 0 0]) (t := 30) ?hr ?_; (case hd => rfl); (case hg => rfl); (case hr => exact hr_)
   intro aI hg Ic hbox hb
   have aj := am_ (hbox)
   have sv := am_ (gw_ hg bl_)
   have sw := am_ (gw_ hg bl_)
   replace HB := hs_ w hb
   have cW := am_ (gn_ hg (blkl_ aw))
   have cX := am_ (gm_ hg (blkl_ aw))
   replace aw := bb_ aw hb
   have bi := am_ (gn_ hg (blkl_ ao))
   have cY := am_ (gm_ hg (blkl_ ao))
   replace ao := bb_ ao hb
   clear hb hbox hg
   refine hK.out _ _ ⟨(blk_cell ao.out 0).trans rfl, (blk_cell ao.out 1).trans rfl⟩ (fun hHeld => ?_)
   clear hK K
   refine no_ 6 ?_
   exact tg8_1
  skip
  refine box_step ?hg (N := 6) ?hd (cs := #[.string (⟨#[]⟩ : ByteArray), .string (⟨#[]⟩ : ByteArray), .int .i64 0, .slice none 0 0]) (t := 30) ?hr ?_; (case hd => rfl); (case hg => rfl); (case hr => exact hr_)
  intro aI hg zO hbox hb
  have aj := am_ (hbox)
  have sv := am_ (gw_ hg bl_)
  have sw := am_ (gw_ hg bl_)
  replace HB := hs_ w hb
  have cW := am_ (gn_ hg (blkl_ aw))
  have cX := am_ (gm_ hg (blkl_ aw))
  replace aw := bb_ aw hb
  have bi := am_ (gn_ hg (blkl_ ao))
  have cY := am_ (gm_ hg (blkl_ ao))
  replace ao := bb_ ao hb
  clear hb hbox hg
  refine hK.out _ _ ⟨(blk_cell ao.out 0).trans rfl, (blk_cell ao.out 1).trans rfl⟩ (fun hHeld => ?_)
  clear hK K
  refine no_ 6 ?_
  refine oq_ 3 HT_ (fun K hK => ?_)
  refine gr_ Tryz.func84 #[.agg #[.string ((rd_T49 l0 0).f0), .slice cg ((rd_T49 l0 0).f1).length ch], .int .i64 1, .int .i64 0] (by rfl) ?_ rfl rfl rfl
  with_reducible refine (F84.calls ?s1 ?s2 Ip.out).mono ?_
  (case s1 => exact au8_13)
  (case s2 => exact fE.out)
  rintro e Ic ⟨rfl, hb⟩
  refine ⟨_, rfl, ?_⟩
  replace aw := bb_ aw hb
  replace ao := bb_ ao hb
  replace aj := bb_ aj hb
  replace HB := hs_ w hb
  (try clear hb)
  refine hK.out _ _ ⟨(blk_cell ao.out 0).trans rfl, (blk_cell ao.out 1).trans rfl⟩ (fun hHeld => ?_)
  clear hK K
  refine no_ 27 ?_
  refine pq_ 5 HT_ ?_
  exact tg8_1
 rintro aI oG ⟨hS_, Ij, Kw, h2_, h3_, h4_, WH, WI, WJ, WK, vO⟩
 have b8 : Aside0 (oG.heap[dL]? = some (.cells #[.string (⟨#[]⟩ : ByteArray), .string (⟨#[]⟩ : ByteArray), .int .i64 0, .slice none 0 0, .bool false, .int .i64 0, .int .i64 0] 41 (0, 0))) := ⟨Ij⟩
 have dE : Aside0 (oG.heap[dr]? = some (.cells #[.string ((rd_T49 l0 0).f0), .slice cg ((rd_T49 l0 0).f1).length ch] 49 (0, 0))) := ⟨Kw⟩
 have n2_ : Aside0 (oG.heap[aI]? = some (.cells #[.string (⟨#[]⟩ : ByteArray), .string (⟨#[]⟩ : ByteArray), .int .i64 0, .slice none 0 0] 30 (0, 0))) := ⟨h2_⟩
 have d5 : Aside0 (w.heap.size ≤ aI) := ⟨h3_⟩
 have lh : Aside0 (w.heap.size ≤ aI) := ⟨h4_⟩
 have ll : Aside0 (dL ≠ aI) := ⟨WH⟩
 have mP : Aside0 (aI ≠ dL) := ⟨WI⟩
 have xo : Aside0 (dr ≠ aI) := ⟨WJ⟩
 have WN : Aside0 (aI ≠ dr) := ⟨WK⟩
 have WO : Aside0 (Below w.heap.size w oG) := ⟨vO⟩
 clear aw
 clear ao
 clear HB
 clear Ij Kw h2_ h3_ h4_ WH WI WJ WK vO
 have aw := b8
 have ao := dE
 have aj := n2_
 have sv := d5
 have sw := lh
 have cW := ll
 have cX := mP
 have bi := xo
 have cY := WN
 have HB := WO
 clear b8 dE n2_ d5 lh ll mP xo WN WO
 have hHeld : oG.cell? ⟨dr, 0, none⟩ = some (.string ((rd_T49 l0 0).f0)) ∧ oG.cell? ⟨dr, 1, none⟩ = some (.slice cg ((rd_T49 l0 0).f1).length ch) := hS_
 refine norm_ (a' := ?_) ?_ ?_
 rotate_left
 ·simp only [putAll, Act.put, List.setIfInBounds_toArray, List.set_cons_zero, List.set_cons_succ]
  rfl
 refine oq_ 7 HT_ (fun K hK => ?_)
 have a0b : oG.cell? ⟨aI, 0, none⟩ = some (.string (⟨#[]⟩ : ByteArray)) := (blk_cell aj.out 0).trans rfl
 have WP := blk_frozen aj.out 0
 have OY := cW.out
 have OZ := bi.out
 have O0 := cX.out
 have O1 := cY.out
 have a0c : oG.cell? ⟨aI, 1, none⟩ = some (.string (⟨#[]⟩ : ByteArray)) := (blk_cell aj.out 1).trans rfl
 have WQ := blk_frozen aj.out 1
 have O2 := cW.out
 have O3 := bi.out
 have O4 := cX.out
 have O5 := cY.out
 have JN : oG.cell? ⟨aI, 2, none⟩ = some (.int .i64 0) := (blk_cell aj.out 2).trans rfl
 have Ds := blk_frozen aj.out 2
 have qT := cW.out
 have zQ := bi.out
 have qU := cX.out
 have zR := cY.out
 have Rt : oG.cell? ⟨aI, 3, none⟩ = some (.slice none 0 0) := (blk_cell aj.out 3).trans rfl
 have LC := blk_frozen aj.out 3
 have AY := cW.out
 have O6 := bi.out
 have AZ := cX.out
 have O7 := cY.out
 refine skip_ (w1 := ?_) (by rfl) rfl ?_ ?_
 rotate_left
 ·go_simp
  rfl
 refine hK.out _ _ ⟨((cell_far (p := ⟨aI, _, none⟩) bi.out _).trans (((cell_far (p := ⟨aI, _, none⟩) bi.out _).trans (((cell_far (p := ⟨aI, _, none⟩) bi.out _).trans (((cell_far (p := ⟨aI, _, none⟩) bi.out _).trans (hHeld.1)))))))), ((cell_far (p := ⟨aI, _, none⟩) bi.out _).trans (((cell_far (p := ⟨aI, _, none⟩) bi.out _).trans (((cell_far (p := ⟨aI, _, none⟩) bi.out _).trans (((cell_far (p := ⟨aI, _, none⟩) bi.out _).trans (hHeld.2))))))))⟩ (fun hHeld => ?_)
 clear hK K
 refine done_ (done_of HT_.out (by kernel_rfl)) ?_
 go_upto_region 8 with (fail)
 go_cut [51] (fun v51 wc => ∃ (kq : Nat) (qd : Bool), v51 = .bool qd ∧ Aside0 (F46.j0 kq qd dA dH fD = some (r1, r2, r3, r4, r5, r6, r7)) ∧ Aside0 (kq ≤ k) ∧ Aside0 (wc.heap[dL]? = some (.cells #[.string (⟨#[]⟩ : ByteArray), .string (⟨#[]⟩ : ByteArray), .int .i64 0, (.slice none 0 0), .bool false, .int .i64 0, .int .i64 0] 41 (0, 0))) ∧ Aside0 (wc.heap[dr]? = some (.cells #[.string ((rd_T49 l0 0).f0), (.slice cg ((rd_T49 l0 0).f1).length ch)] 49 (0, 0))) ∧ Aside0 (wc.heap[aI]? = some (.cells #[.string dA, .string dH, .int .i64 fD, (.slice none 0 0)] 30 (0, 0))) ∧ Aside0 (Below w.heap.size w wc))
 case first =>
  have H := GZ.out
  clear GZ
  replace H := bi_ H; rcases H with ⟨MV, Fl, H⟩
  replace H := ib_ H; rcases H with ⟨rfl, H⟩ | ⟨rfl, H⟩
  rotate_left
  ·have H' := am_ H
   clear H
   try go_wp2
   generalize hw_ : ((((oG.setCell ⟨aI, 0, none⟩ (.string dA)).setCell ⟨aI, 1, none⟩ (.string dH)).setCell ⟨aI, 2, none⟩ (.int .i64 fD)).setCell ⟨aI, 3, none⟩ (.slice none 0 0)) = MZ
   replace aw : Aside0 (MZ.heap[dL]? = some (.cells #[.string (⟨#[]⟩ : ByteArray), .string (⟨#[]⟩ : ByteArray), .int .i64 0, .slice none 0 0, .bool false, .int .i64 0, .int .i64 0] 41 (0, 0))) := by rw [← hw_]; exact ⟨bf_ aw⟩
   replace ao : Aside0 (MZ.heap[dr]? = some (.cells #[.string ((rd_T49 l0 0).f0), .slice cg ((rd_T49 l0 0).f1).length ch] 49 (0, 0))) := by rw [← hw_]; exact ⟨bf_ ao⟩
   replace aj : Aside0 (MZ.heap[aI]? = some (.cells #[.string dA, .string dH, .int .i64 fD, .slice none 0 0] 30 (0, 0))) := by rw [← hw_]; exact ⟨bq_ aj⟩
   replace HB : Aside0 (Below w.heap.size w MZ) := by rw [← hw_]; exact ⟨bl_⟩
   clear hw_
   replace aw := bd_ aw
   replace ao := bd_ ao
   replace aj := bd_ aj
   replace HB := am_ (below_drew1 HB.out)
   refine start_ (n := 22) (S := fun w' => w'.cell? ⟨aI, 0, none⟩ = some (.string dA) ∧ w'.cell? ⟨aI, 1, none⟩ = some (.string dH) ∧ w'.cell? ⟨aI, 2, none⟩ = some (.int .i64 fD) ∧ w'.cell? ⟨aI, 3, none⟩ = some (.slice none 0 0)) (ds := []) (bs 22 0) (by kernel_rfl) rfl rfl ⟨(blk_cell aj.out 0).trans rfl, (blk_cell aj.out 1).trans rfl, (blk_cell aj.out 2).trans rfl, (blk_cell aj.out 3).trans rfl⟩ (fun hHeld => ?_); refine with_tabW F46.tab8 F46.bits8 (fun HT_ HW_ => ?_)
   generalize MZ.drew = w47 at aw ao aj HB hHeld ⊢
   refine pq_ 0 HT_ ?_
   refine tq_ 1 HT_ HW_ hHeld rfl ax53_ ?_
   refine oq_ 2 HT_ (fun K hK => ?_)
   refine gr_ Tryz.func39 #[.string dA] (by rfl) ?_ rfl rfl rfl
   with_reducible refine (F39.calls Fl.out).mono ?_
   rintro e w' ⟨rfl, ⟨nd, rfl⟩⟩
   refine ⟨_, rfl, ?_⟩
   refine hK.out _ _ ⟨(blk_cell aj.out 0).trans rfl, (blk_cell aj.out 1).trans rfl, (blk_cell aj.out 2).trans rfl, (blk_cell aj.out 3).trans rfl⟩ (fun hHeld => ?_)
   clear hK K
   refine no_ 32 ?_
   refine pq_ 3 HT_ ?_
   refine pq_ 4 HT_ ?_
   refine vq_ 5 HT_ ?_
   refine vq_ 6 HT_ ?_
   refine vq_ 7 HT_ ?_
   refine vq_ 8 HT_ ?_
   refine pq_ 9 HT_ ?_
   refine pq_ 10 HT_ ?_
   refine vq_ 11 HT_ ?_
   refine vq_ 12 HT_ ?_
   refine vq_ 13 HT_ ?_
   refine pq_ 14 HT_ ?_
   refine pq_ 15 HT_ ?_
   refine vq_ 16 HT_ ?_
   refine vq_ 17 HT_ ?_
   refine vq_ 18 HT_ ?_
   refine vq_ 19 HT_ ?_
   refine vq_ 20 HT_ ?_
   refine pq_ 21 HT_ ?_
   refine done_ (done_of HT_.out (by kernel_rfl)) ?_
   try go_wp2
   go_meet
   case rel => exact tg8_2
  replace H := bi_ H; rcases H with ⟨MW, Ss, H⟩
  replace H := ib_ H; rcases H with ⟨rfl, H⟩ | ⟨rfl, H⟩
  rotate_left
  ·have H' := am_ H
   clear H
   try go_wp2
   generalize hw_ : ((((oG.setCell ⟨aI, 0, none⟩ (.string dA)).setCell ⟨aI, 1, none⟩ (.string dH)).setCell ⟨aI, 2, none⟩ (.int .i64 fD)).setCell ⟨aI, 3, none⟩ (.slice none 0 0)) = M0
   replace aw : Aside0 (M0.heap[dL]? = some (.cells #[.string (⟨#[]⟩ : ByteArray), .string (⟨#[]⟩ : ByteArray), .int .i64 0, .slice none 0 0, .bool false, .int .i64 0, .int .i64 0] 41 (0, 0))) := by rw [← hw_]; exact ⟨bf_ aw⟩
   replace ao : Aside0 (M0.heap[dr]? = some (.cells #[.string ((rd_T49 l0 0).f0), .slice cg ((rd_T49 l0 0).f1).length ch] 49 (0, 0))) := by rw [← hw_]; exact ⟨bf_ ao⟩
   replace aj : Aside0 (M0.heap[aI]? = some (.cells #[.string dA, .string dH, .int .i64 fD, .slice none 0 0] 30 (0, 0))) := by rw [← hw_]; exact ⟨bq_ aj⟩
   replace HB : Aside0 (Below w.heap.size w M0) := by rw [← hw_]; exact ⟨bl_⟩
   clear hw_
   replace aw := bd_ aw
   replace ao := bd_ ao
   replace aj := bd_ aj
   replace HB := am_ (below_drew1 HB.out)
   refine start_ (n := 22) (S := fun w' => w'.cell? ⟨aI, 0, none⟩ = some (.string dA) ∧ w'.cell? ⟨aI, 1, none⟩ = some (.string dH) ∧ w'.cell? ⟨aI, 2, none⟩ = some (.int .i64 fD) ∧ w'.cell? ⟨aI, 3, none⟩ = some (.slice none 0 0)) (ds := []) (bs 22 0) (by kernel_rfl) rfl rfl ⟨(blk_cell aj.out 0).trans rfl, (blk_cell aj.out 1).trans rfl, (blk_cell aj.out 2).trans rfl, (blk_cell aj.out 3).trans rfl⟩ (fun hHeld => ?_); refine with_tabW F46.tab8 F46.bits8 (fun HT_ HW_ => ?_)
   generalize M0.drew = Vs at aw ao aj HB hHeld ⊢
   refine pq_ 0 HT_ ?_
   refine tq_ 1 HT_ HW_ hHeld rfl ax53_ ?_
   refine oq_ 2 HT_ (fun K hK => ?_)
   refine gr_ Tryz.func39 #[.string dA] (by rfl) ?_ rfl rfl rfl
   with_reducible refine (F39.calls Fl.out).mono ?_
   rintro e w' ⟨rfl, ⟨nd, rfl⟩⟩
   refine ⟨_, rfl, ?_⟩
   refine hK.out _ _ ⟨(blk_cell aj.out 0).trans rfl, (blk_cell aj.out 1).trans rfl, (blk_cell aj.out 2).trans rfl, (blk_cell aj.out 3).trans rfl⟩ (fun hHeld => ?_)
   clear hK K
   refine no_ 32 ?_
   refine pq_ 3 HT_ ?_
   refine pq_ 4 HT_ ?_
   refine pq_ 5 HT_ ?_
   refine tq_ 6 HT_ HW_ hHeld rfl ax53_ ?_
   refine oq_ 7 HT_ (fun K hK => ?_)
   refine gr_ Tryz.func39 #[.string dH] (by rfl) ?_ rfl rfl rfl
   with_reducible refine (F39.calls Ss.out).mono ?_
   rintro e w' ⟨rfl, ⟨nd, rfl⟩⟩
   refine ⟨_, rfl, ?_⟩
   refine hK.out _ _ ⟨(blk_cell aj.out 0).trans rfl, (blk_cell aj.out 1).trans rfl, (blk_cell aj.out 2).trans rfl, (blk_cell aj.out 3).trans rfl⟩ (fun hHeld => ?_)
   clear hK K
   refine no_ 37 ?_
   refine pq_ 8 HT_ ?_
   refine pq_ 9 HT_ ?_
   refine pq_ 10 HT_ ?_
   refine vq_ 11 HT_ ?_
   refine vq_ 12 HT_ ?_
   refine vq_ 13 HT_ ?_
   refine pq_ 14 HT_ ?_
   refine pq_ 15 HT_ ?_
   refine vq_ 16 HT_ ?_
   refine vq_ 17 HT_ ?_
   refine vq_ 18 HT_ ?_
   refine vq_ 19 HT_ ?_
   refine vq_ 20 HT_ ?_
   refine pq_ 21 HT_ ?_
   refine done_ (done_of HT_.out (by kernel_rfl)) ?_
   try go_wp2
   go_meet
   case rel => exact tg8_2
  replace H := bi_ H; rcases H with ⟨MX, C8, H⟩
  replace H := ib_ H; rcases H with ⟨rfl, H⟩ | ⟨rfl, H⟩
  rotate_left
  ·have H' := am_ H
   clear H
   try go_wp2
   generalize hw_ : ((((oG.setCell ⟨aI, 0, none⟩ (.string dA)).setCell ⟨aI, 1, none⟩ (.string dH)).setCell ⟨aI, 2, none⟩ (.int .i64 fD)).setCell ⟨aI, 3, none⟩ (.slice none 0 0)) = M1
   replace aw : Aside0 (M1.heap[dL]? = some (.cells #[.string (⟨#[]⟩ : ByteArray), .string (⟨#[]⟩ : ByteArray), .int .i64 0, .slice none 0 0, .bool false, .int .i64 0, .int .i64 0] 41 (0, 0))) := by rw [← hw_]; exact ⟨bf_ aw⟩
   replace ao : Aside0 (M1.heap[dr]? = some (.cells #[.string ((rd_T49 l0 0).f0), .slice cg ((rd_T49 l0 0).f1).length ch] 49 (0, 0))) := by rw [← hw_]; exact ⟨bf_ ao⟩
   replace aj : Aside0 (M1.heap[aI]? = some (.cells #[.string dA, .string dH, .int .i64 fD, .slice none 0 0] 30 (0, 0))) := by rw [← hw_]; exact ⟨bq_ aj⟩
   replace HB : Aside0 (Below w.heap.size w M1) := by rw [← hw_]; exact ⟨bl_⟩
   clear hw_
   replace aw := bd_ aw
   replace ao := bd_ ao
   replace aj := bd_ aj
   replace HB := am_ (below_drew1 HB.out)
   refine start_ (n := 22) (S := fun w' => w'.cell? ⟨aI, 0, none⟩ = some (.string dA) ∧ w'.cell? ⟨aI, 1, none⟩ = some (.string dH) ∧ w'.cell? ⟨aI, 2, none⟩ = some (.int .i64 fD) ∧ w'.cell? ⟨aI, 3, none⟩ = some (.slice none 0 0)) (ds := []) (bs 22 0) (by kernel_rfl) rfl rfl ⟨(blk_cell aj.out 0).trans rfl, (blk_cell aj.out 1).trans rfl, (blk_cell aj.out 2).trans rfl, (blk_cell aj.out 3).trans rfl⟩ (fun hHeld => ?_); refine with_tabW F46.tab8 F46.bits8 (fun HT_ HW_ => ?_)
   generalize M1.drew = w43 at aw ao aj HB hHeld ⊢
   refine pq_ 0 HT_ ?_
   refine tq_ 1 HT_ HW_ hHeld rfl ax53_ ?_
   refine oq_ 2 HT_ (fun K hK => ?_)
   refine gr_ Tryz.func39 #[.string dA] (by rfl) ?_ rfl rfl rfl
   with_reducible refine (F39.calls Fl.out).mono ?_
   rintro e w' ⟨rfl, ⟨nd, rfl⟩⟩
   refine ⟨_, rfl, ?_⟩
   refine hK.out _ _ ⟨(blk_cell aj.out 0).trans rfl, (blk_cell aj.out 1).trans rfl, (blk_cell aj.out 2).trans rfl, (blk_cell aj.out 3).trans rfl⟩ (fun hHeld => ?_)
   clear hK K
   refine no_ 32 ?_
   refine pq_ 3 HT_ ?_
   refine pq_ 4 HT_ ?_
   refine pq_ 5 HT_ ?_
   refine tq_ 6 HT_ HW_ hHeld rfl ax53_ ?_
   refine oq_ 7 HT_ (fun K hK => ?_)
   refine gr_ Tryz.func39 #[.string dH] (by rfl) ?_ rfl rfl rfl
   with_reducible refine (F39.calls Ss.out).mono ?_
   rintro e w' ⟨rfl, ⟨nd, rfl⟩⟩
   refine ⟨_, rfl, ?_⟩
   refine hK.out _ _ ⟨(blk_cell aj.out 0).trans rfl, (blk_cell aj.out 1).trans rfl, (blk_cell aj.out 2).trans rfl, (blk_cell aj.out 3).trans rfl⟩ (fun hHeld => ?_)
   clear hK K
   refine no_ 37 ?_
   refine pq_ 8 HT_ ?_
   refine pq_ 9 HT_ ?_
   refine pq_ 10 HT_ ?_
   refine pq_ 11 HT_ ?_
   refine oq_ 12 HT_ (fun K hK => ?_)
   refine gr_ Tryz.func40 #[.int .i64 fD] (by rfl) ?_ rfl rfl rfl
   with_reducible refine (F40.calls C8.out).mono ?_
   rintro e w' ⟨rfl, ⟨nd, rfl⟩⟩
   refine ⟨_, rfl, ?_⟩
   refine hK.out _ _ ⟨(blk_cell aj.out 0).trans rfl, (blk_cell aj.out 1).trans rfl, (blk_cell aj.out 2).trans rfl, (blk_cell aj.out 3).trans rfl⟩ (fun hHeld => ?_)
   clear hK K
   refine no_ 42 ?_
   refine pq_ 13 HT_ ?_
   refine pq_ 14 HT_ ?_
   refine pq_ 15 HT_ ?_
   refine vq_ 16 HT_ ?_
   refine vq_ 17 HT_ ?_
   refine vq_ 18 HT_ ?_
   refine vq_ 19 HT_ ?_
   refine vq_ 20 HT_ ?_
   refine pq_ 21 HT_ ?_
   refine done_ (done_of HT_.out (by kernel_rfl)) ?_
   try go_wp2
   go_meet
   case rel => exact tg8_2
  replace H := bi_ H; rcases H with ⟨⟨St, Su⟩, A35, H⟩
  replace H := bi_ H; rcases H with ⟨GY, A36, H⟩
  have H' := am_ H
  clear H
  try go_wp2
  generalize hw_ : ((((oG.setCell ⟨aI, 0, none⟩ (.string dA)).setCell ⟨aI, 1, none⟩ (.string dH)).setCell ⟨aI, 2, none⟩ (.int .i64 fD)).setCell ⟨aI, 3, none⟩ (.slice none 0 0)) = M2
  replace aw : Aside0 (M2.heap[dL]? = some (.cells #[.string (⟨#[]⟩ : ByteArray), .string (⟨#[]⟩ : ByteArray), .int .i64 0, .slice none 0 0, .bool false, .int .i64 0, .int .i64 0] 41 (0, 0))) := by rw [← hw_]; exact ⟨bf_ aw⟩
  replace ao : Aside0 (M2.heap[dr]? = some (.cells #[.string ((rd_T49 l0 0).f0), .slice cg ((rd_T49 l0 0).f1).length ch] 49 (0, 0))) := by rw [← hw_]; exact ⟨bf_ ao⟩
  replace aj : Aside0 (M2.heap[aI]? = some (.cells #[.string dA, .string dH, .int .i64 fD, .slice none 0 0] 30 (0, 0))) := by rw [← hw_]; exact ⟨bq_ aj⟩
  replace HB : Aside0 (Below w.heap.size w M2) := by rw [← hw_]; exact ⟨bl_⟩
  clear hw_
  replace aw := bd_ aw
  replace ao := bd_ ao
  replace aj := bd_ aj
  replace HB := am_ (below_drew1 HB.out)
  refine start_ (n := 22) (S := fun w' => w'.cell? ⟨aI, 0, none⟩ = some (.string dA) ∧ w'.cell? ⟨aI, 1, none⟩ = some (.string dH) ∧ w'.cell? ⟨aI, 2, none⟩ = some (.int .i64 fD) ∧ w'.cell? ⟨aI, 3, none⟩ = some (.slice none 0 0) ∧ w'.cell? ⟨dr, 0, none⟩ = some (.string ((rd_T49 l0 0).f0)) ∧ w'.cell? ⟨dr, 1, none⟩ = some (.slice cg ((rd_T49 l0 0).f1).length ch)) (ds := []) (bs 22 0) (by kernel_rfl) rfl rfl ⟨(blk_cell aj.out 0).trans rfl, (blk_cell aj.out 1).trans rfl, (blk_cell aj.out 2).trans rfl, (blk_cell aj.out 3).trans rfl, (blk_cell ao.out 0).trans rfl, (blk_cell ao.out 1).trans rfl⟩ (fun hHeld => ?_); refine with_tabW F46.tab8 F46.bits8 (fun HT_ HW_ => ?_)
  generalize M2.drew = w38 at aw ao aj HB hHeld ⊢
  refine pq_ 0 HT_ ?_
  refine tq_ 1 HT_ HW_ hHeld rfl ax51_ ?_
  refine oq_ 2 HT_ (fun K hK => ?_)
  refine gr_ Tryz.func39 #[.string dA] (by rfl) ?_ rfl rfl rfl
  with_reducible refine (F39.calls Fl.out).mono ?_
  rintro e w' ⟨rfl, ⟨nd, rfl⟩⟩
  refine ⟨_, rfl, ?_⟩
  refine hK.out _ _ ⟨(blk_cell aj.out 0).trans rfl, (blk_cell aj.out 1).trans rfl, (blk_cell aj.out 2).trans rfl, (blk_cell aj.out 3).trans rfl, (blk_cell ao.out 0).trans rfl, (blk_cell ao.out 1).trans rfl⟩ (fun hHeld => ?_)
  clear hK K
  refine no_ 32 ?_
  refine pq_ 3 HT_ ?_
  refine pq_ 4 HT_ ?_
  refine pq_ 5 HT_ ?_
  refine tq_ 6 HT_ HW_ hHeld rfl ax51_ ?_
  refine oq_ 7 HT_ (fun K hK => ?_)
  refine gr_ Tryz.func39 #[.string dH] (by rfl) ?_ rfl rfl rfl
  with_reducible refine (F39.calls Ss.out).mono ?_
  rintro e w' ⟨rfl, ⟨nd, rfl⟩⟩
  refine ⟨_, rfl, ?_⟩
  refine hK.out _ _ ⟨(blk_cell aj.out 0).trans rfl, (blk_cell aj.out 1).trans rfl, (blk_cell aj.out 2).trans rfl, (blk_cell aj.out 3).trans rfl, (blk_cell ao.out 0).trans rfl, (blk_cell ao.out 1).trans rfl⟩ (fun hHeld => ?_)
  clear hK K
  refine no_ 37 ?_
  refine pq_ 8 HT_ ?_
  refine pq_ 9 HT_ ?_
  refine pq_ 10 HT_ ?_
  refine pq_ 11 HT_ ?_
  refine oq_ 12 HT_ (fun K hK => ?_)
  refine gr_ Tryz.func40 #[.int .i64 fD] (by rfl) ?_ rfl rfl rfl
  with_reducible refine (F40.calls C8.out).mono ?_
  rintro e w' ⟨rfl, ⟨nd, rfl⟩⟩
  refine ⟨_, rfl, ?_⟩
  refine hK.out _ _ ⟨(blk_cell aj.out 0).trans rfl, (blk_cell aj.out 1).trans rfl, (blk_cell aj.out 2).trans rfl, (blk_cell aj.out 3).trans rfl, (blk_cell ao.out 0).trans rfl, (blk_cell ao.out 1).trans rfl⟩ (fun hHeld => ?_)
  clear hK K
  refine no_ 42 ?_
  refine pq_ 13 HT_ ?_
  refine pq_ 14 HT_ ?_
  refine pq_ 15 HT_ ?_
  refine tq_ 16 HT_ HW_ hHeld rfl ax51_ ?_
  refine tq_ 17 HT_ HW_ hHeld rfl ax51_ ?_
  refine oq_ 18 HT_ (fun K hK => ?_)
  refine gr_ Tryz.func23 #[.agg #[.string dA, .string dH, .int .i64 fD, .slice none 0 0]] (by rfl) ?_ rfl rfl rfl
  refine (F23.calls ?s1 ?s2 A35.out).mono ?_
  (case s1 => exact Kd.C_nil _ _)
  (case s2 => exact Nat.le_refl _)
  rintro e w39 ⟨a0g, rfl, bf, hb⟩
  refine ⟨_, rfl, ?_⟩
  have ox := am_ (Kd.S_lower bf (below_size bl_))
  replace aw := bb_ aw hb
  replace ao := bb_ ao hb
  replace aj := bb_ aj hb
  replace HB := hs_ w hb
  (try clear hb)
  (try clear bf)
  obtain ⟨Sv, Sw, M3⟩ := Kd.S_slice ox.out
  (first | subst M3 | (injection M3 with b9 dT cd; have dU := b9.symm; have dV := cd.symm; clear b9 dT cd; subst dU; subst dV))
  refine hK.out _ _ ⟨(blk_cell aj.out 0).trans rfl, (blk_cell aj.out 1).trans rfl, (blk_cell aj.out 2).trans rfl, (blk_cell aj.out 3).trans rfl, (blk_cell ao.out 0).trans rfl, (blk_cell ao.out 1).trans rfl⟩ (fun hHeld => ?_)
  clear hK K
  refine no_ 48 ?_
  refine oq_ 19 HT_ (fun K hK => ?_)
  refine gr_ Tryz.func85 #[.agg #[.string ((rd_T49 l0 0).f0), .slice cg ((rd_T49 l0 0).f1).length ch], .agg #[.string St, .slice Sv Su.length Sw]] (by rfl) ?_ rfl rfl rfl
  with_reducible refine (F85.calls ?s1 ?s2 ?s3 ?s4 A36.out).mono ?_
  (case s1 => exact au8_13)
  (case s2 => exact fE.out)
  (case s3 => repeat (first | exact (Kd.S_reads' ox.out).2.2 | (with_reducible refine Kd.C_alloc ?_ _) | (with_reducible refine Kd.C_drewN ?_ _) | (with_reducible refine Kd.C_drew ?_)))
  (case s4 => exact (Kd.S_reads' ox.out).2.1)
  rintro e w41 ⟨rfl, hb⟩
  refine ⟨_, rfl, ?_⟩
  replace ox := am_ (Kd.S_below (by (with_reducible repeat (first | apply Kd.S_alloc | apply Kd.S_drewN | apply Kd.S_drew)); exact ox.out) hb)
  replace aw := bb_ aw hb
  replace ao := bb_ ao hb
  replace aj := bb_ aj hb
  replace HB := hs_ w hb
  (try clear hb)
  refine hK.out _ _ ⟨(blk_cell aj.out 0).trans rfl, (blk_cell aj.out 1).trans rfl, (blk_cell aj.out 2).trans rfl, (blk_cell aj.out 3).trans rfl, (blk_cell ao.out 0).trans rfl, (blk_cell ao.out 1).trans rfl⟩ (fun hHeld => ?_)
  clear hK K
  refine no_ 49 ?_
  refine pq_ 20 HT_ ?_
  refine pq_ 21 HT_ ?_
  refine done_ (done_of HT_.out (by kernel_rfl)) ?_
  try go_wp2
  go_meet
  case rel => exact ⟨_, (!GY), er_, H', ⟨ax10_⟩, ⟨bk_ aw⟩, ⟨bk_ ao⟩, ⟨bk_ aj⟩, ⟨bl_⟩⟩
 case rest =>
  clear GZ
  obtain ⟨kq, qd, rfl, HA, a0h, aw, ao, aj, HB⟩ := hcut
  cases kq with
  | zero => exact absurd HA.out (by simp [F46.j0])
  | succ a0i =>
   have H := HA.out
   clear HA
   simp only [F46.j0] at H
   replace H := ib_ H; rcases H with ⟨rfl, H⟩ | ⟨rfl, H⟩
   ·simp only [Option.some.injEq, Prod.mk.injEq] at H
    obtain ⟨rfl, rfl, rfl, rfl, rfl, rfl, rfl⟩ := H
    obtain ⟨Kp, Kq⟩ := nn_ mr
    obtain ⟨DD, DE⟩ := nn_ cW
    have Ar := cellsF7 aw.out
    go_wp2
    refine bodyPost_ret (results_cell_row rfl _ _ dL 41 #[.string (⟨#[]⟩ : ByteArray), .string (⟨#[]⟩ : ByteArray), .int .i64 0, .slice none 0 0, .bool false, .int .i64 0, .int .i64 3] (0, 0) _ rfl (bq_ aw) Tryz.underlying41 rfl (by kernel_rfl)) rfl ?_
    first | exact ⟨ax11_, by first | rfl | trivial, bl_⟩ | exact ⟨ax11_, bl_⟩
   simp only [Option.some.injEq, Prod.mk.injEq] at H
   obtain ⟨rfl, rfl, rfl, rfl, rfl, rfl, rfl⟩ := H
   obtain ⟨K9, La⟩ := nn_ cX
   obtain ⟨WR, WS⟩ := nn_ cY
   have O8 := cellsF4 aj.out
   obtain ⟨DP, DQ⟩ := nn_ mr
   have AL := cellsF7 aw.out
   go_wp2
   refine bodyPost_ret (results_cell_row rfl _ _ dL 41 #[.string dA, .string dH, .int .i64 fD, .slice none 0 0, .bool true, .int .i64 0, .int .i64 0] (0, 0) _ rfl (bq_ aw) Tryz.underlying41 rfl (by kernel_rfl)) rfl ?_
   first | exact ⟨ax11_, by first | rfl | trivial, bl_⟩ | exact ⟨ax11_, bl_⟩
def IsS80 (w0 W : World) (g : Nat) (f0 : List (S49)) (f1 : Int) (f2 : Value) (f3 : Value) (f4 : Value) (f5 : Value) (f6 : Int) : Prop := ∃ A0 c0, W.heap[g]? = some (.cells #[.slice A0 f0.length c0, .int .i64 f1, f2, f3, f4, f5, .int .i64 f6] 80 (0, 0)) ∧ w0.heap.size ≤ g ∧ Kd.C k49 w0 A0 f0.length f0
theorem IsS80.grown {w0 W : World} {g : Nat} {f0 : List (S49)} {f1 : Int} {f2 : Value} {f3 : Value} {f4 : Value} {f5 : Value} {f6 : Int} {W1 : World} {row : Option Nat} (h : IsS80 w0 W g f0 f1 f2 f3 f4 f5 f6) (hw : W.grownBy W1 row) (hne : some g ≠ row) : IsS80 w0 W1 g f0 f1 f2 f3 f4 f5 f6 := by
 obtain ⟨A0, c0, hb, hg, bH⟩ := h
 exact ⟨A0, c0, blk_grown hb hw hne, hg, bH⟩
theorem IsS80.fresh {w0 W : World} {g : Nat} {f0 : List (S49)} {f1 : Int} {f2 : Value} {f3 : Value} {f4 : Value} {f5 : Value} {f6 : Int} (h : IsS80 w0 W g f0 f1 f2 f3 f4 f5 f6) : ∀ k, W.heap.size ≤ k → k ≠ g := by
 obtain ⟨A0, c0, hb, hg, bH⟩ := h
 exact Kd.freshB hb
theorem IsS80.below {w0 W : World} {g : Nat} {f0 : List (S49)} {f1 : Int} {f2 : Value} {f3 : Value} {f4 : Value} {f5 : Value} {f6 : Int} {W1 : World} (h : IsS80 w0 W g f0 f1 f2 f3 f4 f5 f6) (hw : Below W.heap.size W W1) : IsS80 w0 W1 g f0 f1 f2 f3 f4 f5 f6 := h.grown (grown_of_below hw none) (by simp)
theorem IsS80.alloc {w0 W : World} {g : Nat} {f0 : List (S49)} {f1 : Int} {f2 : Value} {f3 : Value} {f4 : Value} {f5 : Value} {f6 : Int} (h : IsS80 w0 W g f0 f1 f2 f3 f4 f5 f6) (o : Obj) : IsS80 w0 (W.alloc o) g f0 f1 f2 f3 f4 f5 f6 := h.below (below_alloc (Below.refl _ _) o)
theorem IsS80.drewN {w0 W : World} {g : Nat} {f0 : List (S49)} {f1 : Int} {f2 : Value} {f3 : Value} {f4 : Value} {f5 : Value} {f6 : Int} (h : IsS80 w0 W g f0 f1 f2 f3 f4 f5 f6) (m : Nat) : IsS80 w0 (W.drewN m) g f0 f1 f2 f3 f4 f5 f6 := h
theorem IsS80.drew {w0 W : World} {g : Nat} {f0 : List (S49)} {f1 : Int} {f2 : Value} {f3 : Value} {f4 : Value} {f5 : Value} {f6 : Int} (h : IsS80 w0 W g f0 f1 f2 f3 f4 f5 f6) : IsS80 w0 W.drew g f0 f1 f2 f3 f4 f5 f6 := h
theorem IsS80.at_ {w0 W : World} {g : Nat} {f0 : List (S49)} {f1 : Int} {f2 : Value} {f3 : Value} {f4 : Value} {f5 : Value} {f6 : Int} {w' : World} {m : Nat} (hq : W.drewN m = w') (h : IsS80 w0 W g f0 f1 f2 f3 f4 f5 f6) : IsS80 w0 w' g f0 f1 f2 f3 f4 f5 f6 := by subst hq; exact IsS80.drewN h m
theorem IsS80.apart {w0 W : World} {g : Nat} {f0 : List (S49)} {f1 : Int} {f2 : Value} {f3 : Value} {f4 : Value} {f5 : Value} {f6 : Int} {α : Type} {d : Kd α} {e : Nat} {base : Nat} {ok : Nat → Prop} {v : Value} {xs : List α} (h : IsS80 w0 W g f0 f1 f2 f3 f4 f5 f6) (ho : d.R e W base ok v xs) (ht : ∀ q, q ∈ e :: d.E → q ≠ 80) : d.R e W base (fun k => ok k ∧ k ≠ g) v xs := by
 obtain ⟨A0, c0, hb, hg, bH⟩ := h
 exact Kd.R_types ho hb ht
theorem IsS80.apartS {w0 W : World} {g : Nat} {f0 : List (S49)} {f1 : Int} {f2 : Value} {f3 : Value} {f4 : Value} {f5 : Value} {f6 : Int} {α : Type} {d : Kd α} {e : Nat} {base : Nat} {ok : Nat → Prop} {v : Value} {xs : List α} (h : IsS80 w0 W g f0 f1 f2 f3 f4 f5 f6) (ho : d.S e W base ok v xs) (ht : ∀ q, q ∈ e :: d.E → q ≠ 80) : d.S e W base (fun k => ok k ∧ k ≠ g) v xs := by
 obtain ⟨A0, c0, hb, hg, bH⟩ := h
 exact Kd.S_types ho hb ht
theorem IsS80.own_neS {w0 W : World} {g : Nat} {f0 : List (S49)} {f1 : Int} {f2 : Value} {f3 : Value} {f4 : Value} {f5 : Value} {f6 : Int} {α : Type} {d : Kd α} {e : Nat} {base : Nat} {ok : Nat → Prop} {v : Value} {xs : List α} (h : IsS80 w0 W g f0 f1 f2 f3 f4 f5 f6) (ho : d.S e W base ok v xs) (ht : e ≠ 80) : some g ≠ v.ownBlock := by
 obtain ⟨A0, c0, hb, hg, bH⟩ := h
 exact Kd.S_ne ho hb ht
theorem IsS80.kS {w0 W : World} {g : Nat} {f0 : List (S49)} {f1 : Int} {f2 : Value} {f3 : Value} {f4 : Value} {f5 : Value} {f6 : Int} {w1 : World} {α : Type} {d : Kd α} {e : Nat} {base : Nat} {ok : Nat → Prop} {v : Value} {xs : List α} (hk : KeepBut W w1 g none) (h : IsS80 w0 W g f0 f1 f2 f3 f4 f5 f6) (ho : d.S e W base ok v xs) (ht : ∀ q, q ∈ e :: d.E → q ≠ 80 := by decide) : Aside0 (d.S e w1 base ok v xs) := am_ (Kd.S_mono (Kd.S_keep (h.apartS ho ht) hk (fun _ h => h.2)) (fun _ h => h.1))
theorem IsS80.kR {w0 W : World} {g : Nat} {f0 : List (S49)} {f1 : Int} {f2 : Value} {f3 : Value} {f4 : Value} {f5 : Value} {f6 : Int} {w1 : World} {α : Type} {d : Kd α} {e : Nat} {base : Nat} {ok : Nat → Prop} {v : Value} {xs : List α} (hk : KeepBut W w1 g none) (h : IsS80 w0 W g f0 f1 f2 f3 f4 f5 f6) (ho : d.R e W base ok v xs) (ht : ∀ q, q ∈ e :: d.E → q ≠ 80 := by decide) : Aside0 (d.R e w1 base ok v xs) := am_ (Kd.R_mono (Kd.R_keep (h.apart ho ht) hk (fun _ h => h.2)) (fun _ h => h.1))
theorem IsS80.lt {w0 W : World} {g : Nat} {f0 : List (S49)} {f1 : Int} {f2 : Value} {f3 : Value} {f4 : Value} {f5 : Value} {f6 : Int} (h : IsS80 w0 W g f0 f1 f2 f3 f4 f5 f6) : g < W.heap.size := by
 obtain ⟨A0, c0, hb, hg, bH⟩ := h
 exact blk_lt hb
theorem IsS80.ge {w0 W : World} {g : Nat} {f0 : List (S49)} {f1 : Int} {f2 : Value} {f3 : Value} {f4 : Value} {f5 : Value} {f6 : Int} (h : IsS80 w0 W g f0 f1 f2 f3 f4 f5 f6) : w0.heap.size ≤ g := by
 obtain ⟨A0, c0, hb, hg, bH⟩ := h
 exact hg
theorem IsS80.ne_blk {w0 W : World} {g : Nat} {f0 : List (S49)} {f1 : Int} {f2 : Value} {f3 : Value} {f4 : Value} {f5 : Value} {f6 : Int} {a : Nat} {cs : Array Value} {t : TypeId} {fr : Nat × Nat} (h : IsS80 w0 W g f0 f1 f2 f3 f4 f5 f6) (hb2 : W.heap[a]? = some (.cells cs t fr)) (ht : t ≠ 80) : g ≠ a := by
 obtain ⟨A0, c0, hb, hg, bH⟩ := h
 rintro rfl
 rw [hb] at hb2
 injection hb2 with hb2
 injection hb2 with _ At
 exact ht At.symm
theorem IsS80.far {w0 W : World} {g : Nat} {f0 : List (S49)} {f1 : Int} {f2 : Value} {f3 : Value} {f4 : Value} {f5 : Value} {f6 : Int} {p : Addr} (h : IsS80 w0 W g f0 f1 f2 f3 f4 f5 f6) (hne : g ≠ p.block) (u : Value) : IsS80 w0 (W.setCell p u) g f0 f1 f2 f3 f4 f5 f6 := by
 obtain ⟨A0, c0, hb, hg, bH⟩ := h
 exact ⟨A0, c0, blk_far hb hne u, hg, bH⟩
theorem cellS80_0 {W : World} {g : Nat} {A0 : Option Addr} {c0 : Nat} {f0 : List (S49)} {f1 : Int} {f2 : Value} {f3 : Value} {f4 : Value} {f5 : Value} {f6 : Int} (h : W.heap[g]? = some (.cells #[.slice A0 f0.length c0, .int .i64 f1, f2, f3, f4, f5, .int .i64 f6] 80 (0, 0))) : W.cell? ⟨g, 0, none⟩ = some (.slice A0 f0.length c0) := (blk_cell h 0).trans rfl
theorem cellS80_1 {W : World} {g : Nat} {A0 : Option Addr} {c0 : Nat} {f0 : List (S49)} {f1 : Int} {f2 : Value} {f3 : Value} {f4 : Value} {f5 : Value} {f6 : Int} (h : W.heap[g]? = some (.cells #[.slice A0 f0.length c0, .int .i64 f1, f2, f3, f4, f5, .int .i64 f6] 80 (0, 0))) : W.cell? ⟨g, 1, none⟩ = some (.int .i64 f1) := (blk_cell h 1).trans rfl
theorem IsS80.set_1 {w0 W : World} {g : Nat} {f0 : List (S49)} {f1 : Int} {f2 : Value} {f3 : Value} {f4 : Value} {f5 : Value} {f6 : Int} (h : IsS80 w0 W g f0 f1 f2 f3 f4 f5 f6) (x : Int) : IsS80 w0 (W.setCell ⟨g, 1, none⟩ (.int .i64 x)) g f0 x f2 f3 f4 f5 f6 := by
 obtain ⟨A0, c0, hb, hg, bH⟩ := h
 exact ⟨A0, c0, by simpa using blk_set hb 1 (.int .i64 x), hg, bH⟩
theorem cellS80_2 {W : World} {g : Nat} {A0 : Option Addr} {c0 : Nat} {f0 : List (S49)} {f1 : Int} {f2 : Value} {f3 : Value} {f4 : Value} {f5 : Value} {f6 : Int} (h : W.heap[g]? = some (.cells #[.slice A0 f0.length c0, .int .i64 f1, f2, f3, f4, f5, .int .i64 f6] 80 (0, 0))) : W.cell? ⟨g, 2, none⟩ = some (f2) := (blk_cell h 2).trans rfl
theorem cellS80_3 {W : World} {g : Nat} {A0 : Option Addr} {c0 : Nat} {f0 : List (S49)} {f1 : Int} {f2 : Value} {f3 : Value} {f4 : Value} {f5 : Value} {f6 : Int} (h : W.heap[g]? = some (.cells #[.slice A0 f0.length c0, .int .i64 f1, f2, f3, f4, f5, .int .i64 f6] 80 (0, 0))) : W.cell? ⟨g, 3, none⟩ = some (f3) := (blk_cell h 3).trans rfl
theorem cellS80_4 {W : World} {g : Nat} {A0 : Option Addr} {c0 : Nat} {f0 : List (S49)} {f1 : Int} {f2 : Value} {f3 : Value} {f4 : Value} {f5 : Value} {f6 : Int} (h : W.heap[g]? = some (.cells #[.slice A0 f0.length c0, .int .i64 f1, f2, f3, f4, f5, .int .i64 f6] 80 (0, 0))) : W.cell? ⟨g, 4, none⟩ = some (f4) := (blk_cell h 4).trans rfl
theorem cellS80_5 {W : World} {g : Nat} {A0 : Option Addr} {c0 : Nat} {f0 : List (S49)} {f1 : Int} {f2 : Value} {f3 : Value} {f4 : Value} {f5 : Value} {f6 : Int} (h : W.heap[g]? = some (.cells #[.slice A0 f0.length c0, .int .i64 f1, f2, f3, f4, f5, .int .i64 f6] 80 (0, 0))) : W.cell? ⟨g, 5, none⟩ = some (f5) := (blk_cell h 5).trans rfl
theorem cellS80_6 {W : World} {g : Nat} {A0 : Option Addr} {c0 : Nat} {f0 : List (S49)} {f1 : Int} {f2 : Value} {f3 : Value} {f4 : Value} {f5 : Value} {f6 : Int} (h : W.heap[g]? = some (.cells #[.slice A0 f0.length c0, .int .i64 f1, f2, f3, f4, f5, .int .i64 f6] 80 (0, 0))) : W.cell? ⟨g, 6, none⟩ = some (.int .i64 f6) := (blk_cell h 6).trans rfl
theorem IsS80.set_6 {w0 W : World} {g : Nat} {f0 : List (S49)} {f1 : Int} {f2 : Value} {f3 : Value} {f4 : Value} {f5 : Value} {f6 : Int} (h : IsS80 w0 W g f0 f1 f2 f3 f4 f5 f6) (x : Int) : IsS80 w0 (W.setCell ⟨g, 6, none⟩ (.int .i64 x)) g f0 f1 f2 f3 f4 f5 x := by
 obtain ⟨A0, c0, hb, hg, bH⟩ := h
 exact ⟨A0, c0, by simpa using blk_set hb 6 (.int .i64 x), hg, bH⟩
theorem IsS80.op {w0 W : World} {g : Nat} {f0 : List (S49)} {f1 : Int} {f2 : Value} {f3 : Value} {f4 : Value} {f5 : Value} {f6 : Int} (h : IsS80 w0 W g f0 f1 f2 f3 f4 f5 f6) : ∃ A0 c0, Kd.C k49 w0 A0 f0.length f0 ∧ W.cell? ⟨g, 0, none⟩ = some (.slice A0 f0.length c0) ∧ W.cell? ⟨g, 1, none⟩ = some (.int .i64 f1) ∧ W.cell? ⟨g, 2, none⟩ = some (f2) ∧ W.cell? ⟨g, 3, none⟩ = some (f3) ∧ W.cell? ⟨g, 4, none⟩ = some (f4) ∧ W.cell? ⟨g, 5, none⟩ = some (f5) ∧ W.cell? ⟨g, 6, none⟩ = some (.int .i64 f6) ∧ W.frozen? ⟨g, 1, none⟩ = false ∧ W.frozen? ⟨g, 6, none⟩ = false := by
 obtain ⟨A0, c0, hb, hg, bH⟩ := h
 exact ⟨A0, c0, bH, cellS80_0 hb, cellS80_1 hb, cellS80_2 hb, cellS80_3 hb, cellS80_4 hb, cellS80_5 hb, cellS80_6 hb, blk_frozen hb 1, blk_frozen hb 6⟩
theorem IsS80.new (w0 W : World) (A0 : Option Addr) (c0 : Nat) (f0 : List (S49)) (f1 : Int) (f2 : Value) (f3 : Value) (f4 : Value) (f5 : Value) (f6 : Int) (hB : Below w0.heap.size w0 W) (bH : Kd.C k49 w0 A0 f0.length f0) : IsS80 w0 (W.alloc (.cells #[.slice A0 f0.length c0, .int .i64 f1, f2, f3, f4, f5, .int .i64 f6] 80)) W.heap.size f0 f1 f2 f3 f4 f5 f6 := ⟨A0, c0, by simpa using heap_alloc_new W _, hB.size, bH⟩
def F47.f (ak : List (S49)) (bh : Int) (ay : Value) (az : Value) (aA : Value) (aC : Value) (bB : Int) : Option (ByteArray) := if bh ≥ (ak.length : Int) then (some (⟨#[]⟩ : ByteArray)) else (if 0 ≤ bh then (if bh < (ak.length : Int) then (some ((rd_T49 ak bh).f0)) else (none)) else (none))
theorem F47.calls {g : Nat} {ak : List (S49)} {bh : Int} {ay az aA aC : Value} {bB : Int} {r : ByteArray} (w0 : World) {w : World} (hI : IsS80 w0 w g ak bh ay az aA aC bB) (hB : Below w0.heap.size w0 w) (h : F47.f ak bh ay az aA aC bB = some r) :
  Calls Tryz.prog 47 #[.pointer (some ⟨g, 0, none⟩)] w fun e w' => e = .returned (.string r) ∧ Drawn0 w w' := by
 have ba := am_ hI
 have HK := am_ (KeepBut.refl w g none)
 have HL := am_ hB.size
 clear hI
 have oF := am_ hB.size
 have HB := am_ hB
 clear hB
 have H := h; unfold F47.f at H
 clear h
 replace H := it_ H; rcases H with ⟨(c2b0 : decide ((ak.length : Int) ≤ bh) = true), H⟩ | ⟨(c2b0 : decide ((ak.length : Int) ≤ bh) = false), H⟩
 ·obtain rfl := Option.some.inj H
  obtain ⟨Sx, Sy, Sz, we, SA, SB, SC, SD, SE, SF, SG, SH⟩ := IsS80.op ba.out
  go_enter Tryz.func47, Tryz.ntmps47
  go_wp2
  repeat (go_quiet (fail); try go_wp2)
  go_ret
  exact ⟨er_, dn_⟩
 by_cases c4 : 0 ≤ bh
 rotate_left
 ·rw [if_neg c4] at H
  exact absurd H (by simp)
 rw [if_pos c4] at H
 have c4b0 : decide (0 ≤ bh) = true := decide_eq_true c4
 clear c4
 replace H := itn_ H; rcases H with ⟨c5b0, H⟩
 obtain rfl := Option.some.inj H
 obtain ⟨G2, G3, yA, gK, G4, G5, G6, G7, G8, G9, Ha, Hb⟩ := IsS80.op ba.out
 have Hc : 0 ≤ (bh : Int) := od_
 have Hd : bh < (ak.length : Int) := od_
 obtain ⟨WT, SI, SJ, SK, sA, sB, sC, sD⟩ := at_T49 yA bh Hc Hd
 cases SK
 replace sA := pw_cell_below HB.out sA
 replace sB := pw_cell_below HB.out sB
 have O9 := am_ sD
 have Pa := am_ sC
 clear sD sC
 replace Hc := eq_true Hc
 replace Hd := eq_true Hd
 go_enter Tryz.func47, Tryz.ntmps47
 go_wp2
 repeat (go_quiet (fail); try go_wp2)
 go_ret
 exact ⟨er_, dn_⟩
def F48.f (ak : List (S49)) (bh : Int) (ay : Value) (az : Value) (aA : Value) (aC : Value) (bB : Int) (a1 : Bool) (a2 : Int) : Option (Bool × Int × Int) := if bB = 0 then (if bh ≥ (ak.length : Int) then (some ((4 == 0), bh, 4)) else (if a1 = true then (some ((bB == 0), bh, bB)) else (some ((a2 == 0), bh, a2)))) else (some ((bB == 0), bh, bB))
theorem F48.calls {g : Nat} {ak : List (S49)} {bh : Int} {ay az aA aC : Value} {bB : Int} {a1 : Bool} {a2 : Int} {r1 : Bool} {r2 r3 : Int} (w0 : World) {w : World} (hI : IsS80 w0 w g ak bh ay az aA aC bB) (hB : Below w0.heap.size w0 w) (h : F48.f ak bh ay az aA aC bB a1 a2 = some (r1, r2, r3)) :
  Calls Tryz.prog 48 #[.pointer (some ⟨g, 0, none⟩), .bool a1, .int .i64 a2] w fun e w' => e = .returned (.bool r1) ∧ IsS80 w0 w' g ak r2 ay az aA aC r3 ∧ Below w0.heap.size w0 w' ∧ KeepBut w w' g none := by
 have ba := am_ hI
 have HK := am_ (KeepBut.refl w g none)
 have HL := am_ hB.size
 clear hI
 have oF := am_ hB.size
 have HB := am_ hB
 clear hB
 have H := h; unfold F48.f at H
 clear h
 by_cases c4 : bB = 0
 rotate_left
 ·rw [if_neg c4] at H
  have c4b0 : (bB == 0) = false := beq_eq_false_iff_ne.mpr c4
  have c4b1 : (bB != 0) = true := bne_iff_ne.mpr c4
  simp only [Option.some.injEq, Prod.mk.injEq] at H
  obtain ⟨rfl, rfl, rfl⟩ := H
  obtain ⟨Pb, Pc, Pd, eZ, Pe, Pf, Pg, Ph, Pi, Pj, Pk, Pm⟩ := IsS80.op ba.out
  go_enter Tryz.func48, Tryz.ntmps48
  go_wp2
  repeat (go_quiet (fail); try go_wp2)
  go_ret
  exact tg8_3
 rw [if_pos c4] at H
 have c4b0 : (bB == 0) = true := beq_iff_eq.mpr c4
 have c4b1 : (bB != 0) = false := bne_eq_false_iff_eq.mpr c4
 clear c4
 replace H := it_ H; rcases H with ⟨(c5b0 : decide ((ak.length : Int) ≤ bh) = true), H⟩ | ⟨(c5b0 : decide ((ak.length : Int) ≤ bh) = false), H⟩
 ·simp only [Option.some.injEq, Prod.mk.injEq] at H
  obtain ⟨rfl, rfl, rfl⟩ := H
  obtain ⟨G2, G3, yA, gK, G4, G5, G6, G7, G8, G9, Ha, Hb⟩ := IsS80.op ba.out
  go_enter Tryz.func48, Tryz.ntmps48
  go_wp2
  repeat (go_quiet (fail); try go_wp2)
  go_ret
  exact tg8_3
 replace H := ib_ H; rcases H with ⟨rfl, H⟩ | ⟨rfl, H⟩
 rotate_left
 ·simp only [Option.some.injEq, Prod.mk.injEq] at H
  obtain ⟨rfl, rfl, rfl⟩ := H
  obtain ⟨SL, SM, SN, jS, SO, SP, SQ, SS, ST, SU, SW, SY⟩ := IsS80.op ba.out
  go_enter Tryz.func48, Tryz.ntmps48
  go_wp2
  repeat (go_quiet (fail); try go_wp2)
  go_ret
  exact tg8_3
 simp only [Option.some.injEq, Prod.mk.injEq] at H
 obtain ⟨rfl, rfl, rfl⟩ := H
 obtain ⟨SZ, S0, S3, jY, S4, S5, S6, S7, S8, S9, Ta, Tb⟩ := IsS80.op ba.out
 go_enter Tryz.func48, Tryz.ntmps48
 go_wp2
 repeat (go_quiet (fail); try go_wp2)
 go_ret
 exact tg8_3
mutual
def F86.l0 : Nat → Int → List Int → Int → ByteArray → List (S91) → Option (List Int × Bool)
  | 0, _, _, _, _, _ => none
  | k + 1, x1, x6, x7, jd, fF => if x7 < x1 then ((F84.f jd fF x7 0).bind fun He => ((F83.f k He).bind fun yB => (if 0 ≤ x7 then (if x7 < (fF.length : Int) then (if (((rd_T91 fF x7).f0).length : Int) = 1 then (F86.j1 k x1 x6 x7 yB.1 (!yB.2) jd fF) else (F86.j1 k x1 x6 x7 yB.1 true jd fF)) else (none)) else (none)))) else (some (x6, true))
def F86.j1 : Nat → Int → List Int → Int → Int → Bool → ByteArray → List (S91) → Option (List Int × Bool)
  | 0, _, _, _, _, _, _, _ => none
  | k + 1, x1, x6, x7, x8, x40, jd, fF => if x40 = true then (some (x6, false)) else (if x6.length < 17592186044416 then (F86.l0 k x1 (x6 ++ [x8]) (wrap64 (x7 + 1)) jd fF) else (none))
end
def F86.f (k : Nat) (ae : ByteArray) (ac : List (S91)) (a1 : Int) : Option (List Int × Bool) := (some (([] : List Int) : List Int)).bind fun vK => (if (ac.length : Int) = a1 then (F86.l0 k a1 vK 0 ae ac) else (some (vK, false)))
theorem F86.mono_l : ∀ k, (∀ y0 y1 y2 y3 y4, LeO (F86.l0 k y0 y1 y2 y3 y4) (F86.l0 (k + 1) y0 y1 y2 y3 y4)) ∧ (∀ y0 y1 y2 y3 y4 y5 y6, LeO (F86.j1 k y0 y1 y2 y3 y4 y5 y6) (F86.j1 (k + 1) y0 y1 y2 y3 y4 y5 y6))
 | 0 => ⟨fun _ _ _ _ _ r h => by simp [F86.l0] at h, fun _ _ _ _ _ _ _ r h => by simp [F86.j1] at h⟩
 | k + 1 => by
  obtain ⟨ef, kW⟩ := F86.mono_l k
  refine ⟨?_, ?_⟩
  rotate_left
  ·intro y0 y1 y2 y3 y4 y5 y6
   unfold F86.j1
   exact tg8_4
  intro y0 y1 y2 y3 y4
  unfold F86.l0
  exact tg8_4
theorem F86.mono : ∀ a0 a1 a2 k, LeO (F86.f k a0 a1 a2) (F86.f (k + 1) a0 a1 a2) := by
 intro a0 a1 a2 k
 obtain ⟨ef, kW⟩ := F86.mono_l k
 unfold F86.f
 exact tg8_4
theorem F86.calls {k : Nat} {ae : ByteArray} {aJ : Option Addr} {aH : Nat} {ac : List (S91)} {a1 : Int} {r1 : List Int} {r2 : Bool} {w : World} (aY : Kd.C k91 w aJ ac.length ac) (aZ : ac.length ≤ aH) (h : F86.f k ae ac a1 = some (r1, r2)) :
  Calls Tryz.prog 86 #[.agg #[.string ae, .slice aJ ac.length aH], .int .i64 a1] w fun e w' => ∃ l7 : Value, e = .returned (.tuple #[l7, .bool r2]) ∧ Kd.R (Kd.int .i64) 2 w' w.heap.size (fun _ => True) l7 r1 ∧ Below w.heap.size w w' := by
 have dk := Tryz.underlying49
 have br := am_ aY
 have da := am_ aZ
 clear aY aZ
 have HB := am_ (Below.refl w.heap.size w)
 have H := h; unfold F86.f at H
 clear h
 obtain ⟨vK, yC⟩ : ∃ y_ : List Int, y_ = (([] : List Int)) := ⟨_, rfl⟩
 replace H : (if (ac.length : Int) = a1 then (F86.l0 k a1 vK 0 ae ac) else (some (vK, false))) = some (r1, r2) := by first | (rw [yC]; exact H) | exact H
 have sE := am_ yC
 clear yC
 by_cases c3 : (ac.length : Int) = a1
 rotate_left
 ·rw [if_neg c3] at H
  have c3b0 : ((ac.length : Int) == a1) = false := beq_eq_false_iff_ne.mpr c3
  have c3b1 : ((ac.length : Int) != a1) = true := bne_iff_ne.mpr c3
  simp only [Option.some.injEq, Prod.mk.injEq] at H
  obtain ⟨rfl, rfl⟩ := H
  go_enter Tryz.func86, Tryz.ntmps86
  go_wp2_with (first | ((with_reducible refine gate_dst (N := 2) rfl ?_); refine be_ 2 #[.string ae, .slice aJ ac.length aH] 49 ?_; intro yD hg Ic hbox hb; have cL := am_ (hbox); have yE := am_ (gw_ hg bl_); have M4 := yE; replace HB := hs_ w hb; clear hb hbox hg) | ((with_reducible refine gate_dst (N := 10) rfl ?_); refine Kd.R_lit (Kd.int .i64) _ 2 ?hg (N := 10) ?hd (xs := ([] : List Int)) (inner := []) (ok := fun _ => True) (okp := fun _ => True) ?hr ?hp (fun _ hk => hk) trivial (Below.refl _ _) (Nat.le_refl _) (by simp) ?_; (case hd => rfl); (case hg => rfl); (case hr => exact hr_); (case hp => exact (Reps.none _ _)); intro Tc oG yF hb hg_ hnew_; clear hg_ hnew_; (first | rw [← sE.out] at yF | (simp only [Int.reduceToNat] at yF; rw [← sE.out] at yF)); have yG := am_ (Kd.R_lower yF (below_size bl_)); replace cL := bb_ cL hb; replace HB := hs_ w hb; clear hb yF; have qG := cellsF2 cL.out))
  go_ret2
  exact ⟨_, ax11_, rk_ yG, bl_⟩
 rw [if_pos c3] at H
 have c3b0 : ((ac.length : Int) == a1) = true := beq_iff_eq.mpr c3
 have c3b1 : ((ac.length : Int) != a1) = false := bne_eq_false_iff_eq.mpr c3
 clear c3
 have H' := am_ H
 clear H
 go_enter Tryz.func86, Tryz.ntmps86
 go_wp2_with (first | ((with_reducible refine gate_dst (N := 2) rfl ?_); refine be_ 2 #[.string ae, .slice aJ ac.length aH] 49 ?_; intro yD hg w4 hbox hb; have cL := am_ (hbox); have yE := am_ (gw_ hg bl_); have M4 := yE; replace HB := hs_ w hb; clear hb hbox hg) | ((with_reducible refine gate_dst (N := 10) rfl ?_); refine Kd.R_lit (Kd.int .i64) _ 2 ?hg (N := 10) ?hd (xs := ([] : List Int)) (inner := []) (ok := fun _ => True) (okp := fun _ => True) ?hr ?hp (fun _ hk => hk) trivial (Below.refl _ _) (Nat.le_refl _) (by simp) ?_; (case hd => rfl); (case hg => rfl); (case hr => exact hr_); (case hp => exact (Reps.none _ _)); intro Tc w5 n5 hb hg_ hnew_; clear hg_ hnew_; (first | rw [← sE.out] at n5 | (simp only [Int.reduceToNat] at n5; rw [← sE.out] at n5)); have yG := am_ (Kd.R_lower n5 (below_size bl_)); replace cL := bb_ cL hb; replace HB := hs_ w hb; clear hb n5; have fu := cellsF2 cL.out))
 go_loopg [6, 7] k (fun kq v6 v7 w' => ∃ (aE : List Int) (fL : Int), v7 = .int .i64 fL ∧ Aside0 (F86.l0 kq a1 aE fL ae ac = some (r1, r2)) ∧ Aside0 (kq ≤ k) ∧ Aside0 (Kd.R (Kd.int .i64) 2 w' w.heap.size (fun _ => True) v6 aE) ∧ Aside0 (w'.heap[yD]? = some (.cells #[.string ae, (.slice aJ ac.length aH)] 49 (0, 0))) ∧ Aside0 (Below w.heap.size w w'))
 case atStart => exact ⟨(vK), (0), er_, H', ⟨Nat.le_refl _⟩, ⟨rk_ yG⟩, ⟨bk_ cL⟩, ⟨bl_⟩⟩
 case round =>
  clear H'
  try clear c3b0
  try clear c3b1
  try clear fu
  obtain ⟨aE, fL, rfl, HA, cK, kv, cL, HB⟩ := hrel
  cases gk with
  | zero => exact absurd HA.out (by simp [F86.l0])
  | succ k1 =>
   have H := HA.out
   clear HA
   simp only [F86.l0] at H
   replace H := it_ H; rcases H with ⟨c8b0, H⟩ | ⟨c8b0, H⟩
   rotate_left
   ·simp only [Option.some.injEq, Prod.mk.injEq] at H
    obtain ⟨rfl, rfl⟩ := H
    go_wp2
    go_ret2
    exact ⟨_, ax11_, rk_ kv, bl_⟩
   replace H := bi_ H; rcases H with ⟨He, A9, H⟩
   replace H := bi_ H; rcases H with ⟨⟨Bv, Td⟩, qB, H⟩
   have lm := am_ H
   clear H
   have ei := cellsF2 cL.out
   go_upto_region 8 with (first | ((with_reducible refine gate_callee (f := 84) rfl ?_); refine gl_ 25 Tryz.func84 #[.agg #[.string ae, .slice aJ ac.length aH], .int .i64 fL, .int .i64 0] ?_ rfl rfl rfl rfl; (with_reducible refine (F84.calls ?s1 ?s2 A9.out).mono ?_); (case s1 => repeat (first | exact (Kd.C_below br.out HB.out) | (with_reducible refine Kd.C_alloc ?_ _) | (with_reducible refine Kd.C_drewN ?_ _) | (with_reducible refine Kd.C_drew ?_))); (case s2 => exact da.out); rintro e Oi ⟨rfl, hb⟩; refine ⟨_, rfl, ?_⟩; replace kv := am_ (Kd.R_below (rk_ kv) hb); replace cL := bb_ cL hb; replace HB := hs_ w hb; (try clear hb)) | ((with_reducible refine gate_callee (f := 83) rfl ?_); refine gl_ 26 Tryz.func83 #[.string He] ?_ rfl rfl rfl rfl; (with_reducible refine (F83.calls qB.out).mono ?_); rintro e gI ⟨rfl, hb⟩; refine ⟨_, rfl, ?_⟩; replace kv := am_ (Kd.R_below (rk_ kv) hb); replace cL := bb_ cL hb; replace HB := hs_ w hb; (try clear hb)))
   (try simp only [Act.put, List.setIfInBounds_toArray, List.set_cons_zero, List.set_cons_succ])
   go_cut [40] (fun v40 wc => ∃ (kq : Nat) (qe : Bool), v40 = .bool qe ∧ Aside0 (F86.j1 kq a1 aE fL Bv qe ae ac = some (r1, r2)) ∧ Aside0 (kq ≤ k1) ∧ Aside0 (Kd.R (Kd.int .i64) 2 wc w.heap.size (fun _ => True) u6 aE) ∧ Aside0 (wc.heap[yD]? = some (.cells #[.string ae, (.slice aJ ac.length aH)] 49 (0, 0))) ∧ Aside0 (Below w.heap.size w wc))
   case first =>
    have H := lm.out
    clear lm
    replace H := itn_ H; rcases H with ⟨c15b0, H⟩
    (first | rw [c15b0] | (simp only [i64_w, i32_w]; rw [c15b0]) | skip)
    replace H := itn_ H; rcases H with ⟨c16b0, H⟩
    by_cases j5 : (((rd_T91 ac fL).f0).length : Int) = 1
    rotate_left
    ·rw [if_neg j5] at H
     have c17b0 : ((((rd_T91 ac fL).f0).length : Int) == 1) = false := beq_eq_false_iff_ne.mpr j5
     have c17b1 : ((((rd_T91 ac fL).f0).length : Int) != 1) = true := bne_iff_ne.mpr j5
     have H' := am_ H
     clear H
     have io := cellsF2 cL.out
     have qf : 0 ≤ (fL : Int) := od_
     have qg : fL < (ac.length : Int) := od_
     obtain ⟨M5, Hf, Hg, Hh, je, jf, jg⟩ := at_T91 br.out fL qf qg
     cases Hh
     replace je := pw_cell_below HB.out je
     have Bw := am_ jg
     have Bx := am_ jf
     clear jg jf
     replace qf := eq_true qf
     replace qg := eq_true qg
     go_wp2
     go_meet
     case rel => exact ⟨_, (true), er_, H', ⟨by have := cK.out; first | omega | exact Nat.le_refl _⟩, ⟨rk_ kv⟩, ⟨bk_ cL⟩, ⟨bl_⟩⟩
    rw [if_pos j5] at H
    have c17b0 : ((((rd_T91 ac fL).f0).length : Int) == 1) = true := beq_iff_eq.mpr j5
    have c17b1 : ((((rd_T91 ac fL).f0).length : Int) != 1) = false := bne_eq_false_iff_eq.mpr j5
    clear j5
    have H' := am_ H
    clear H
    have qN := cellsF2 cL.out
    have qf : 0 ≤ (fL : Int) := od_
    have qg : fL < (ac.length : Int) := od_
    obtain ⟨M5, Hf, Hg, Hh, je, jf, jg⟩ := at_T91 br.out fL qf qg
    cases Hh
    replace je := pw_cell_below HB.out je
    have Bw := am_ jg
    have Bx := am_ jf
    clear jg jf
    replace qf := eq_true qf
    replace qg := eq_true qg
    go_wp2
    go_meet
    case rel => exact ⟨_, (!Td), er_, H', ⟨by have := cK.out; first | omega | exact Nat.le_refl _⟩, ⟨rk_ kv⟩, ⟨bk_ cL⟩, ⟨bl_⟩⟩
   case rest =>
    clear lm
    try clear c8b0
    try clear ei
    obtain ⟨kq, qe, rfl, HA, pa, kv, cL, HB⟩ := hcut
    cases kq with
    | zero => exact absurd HA.out (by simp [F86.j1])
    | succ uU =>
     have H := HA.out
     clear HA
     simp only [F86.j1] at H
     replace H := ib_ H; rcases H with ⟨rfl, H⟩ | ⟨rfl, H⟩
     ·simp only [Option.some.injEq, Prod.mk.injEq] at H
      obtain ⟨rfl, rfl⟩ := H
      go_wp2
      go_ret2
      exact ⟨_, ax11_, rk_ kv, bl_⟩
     replace H := iln_ H; rcases H with ⟨wQ, H⟩
     obtain ⟨M6, yH⟩ : ∃ y_ : List Int, y_ = (aE ++ [Bv]) := ⟨_, rfl⟩
     replace H : (F86.l0 uU a1 M6 (wrap64 (fL + 1)) ae ac) = some (r1, r2) := by first | (rw [yH]; exact H) | exact H
     have M7 := am_ yH
     clear yH
     have H' := am_ H
     clear H
     go_wp2_with (first | ((with_reducible refine gate_builtin (b := .append) (xs := #[.tmp 42, .tmp 44]) rfl ?_); at_builtin; refine Kd.R_append (Kd.int .i64) (w0 := w) w.heap.size rfl (.tmp 42) (.tmp 44) 108 2 (.int .i64 0) 8 rfl Tryz.underlying108 info2 rfl (by decide) (by omega) u6 aE Bv [.int .i64 Bv] (fun _ => True) (fun _ => False) rfl rfl ?aP (fun _ hk => hk.elim) ?aF ?aO ?aB ?aS ?aL ?_; (case aP => exact rfl); (case aB => exact bl_); (case aF => exact (fun _ _ => trivial)); (case aO => exact (rk_ kv)); (case aS => exact (below_size bl_)); (case aL => have := wQ.out; omega); intro a0l zO ho hb hg hat; rw [← M7.out] at ho; replace cL := am_ (bg_ cL hg (Kd.R_ne kv.out cL.out (by decide))); replace HB := am_ (hb); have M8 := am_ (ho); clear kv; clear ho hb hg hat))
     go_roundg uU
     case measure => have := cK.out; have := pa.out; omega
     case rel => exact ⟨(M6), (wrap64 (fL + 1)), er_, H', ⟨by have := cK.out; have := pa.out; omega⟩, ⟨rk_ M8⟩, ⟨bk_ cL⟩, ⟨bl_⟩⟩
def F50.j0 : Nat → Bool → List (S49) → Int → Value → Value → Value → Value → Int → Option (Bool × Int × Int)
  | 0, _, _, _, _, _, _, _, _ => none
  | k + 1, Te, bE, bw, cy, cz, cA, cB, cf => if Te = true then (some (false, bw, cf)) else (some (true, wrap64 (bw + 1), cf))
def F50.f (k : Nat) (ak : List (S49)) (bh : Int) (ay : Value) (az : Value) (aA : Value) (aC : Value) (bB : Int) (a1 : ByteArray) (a2 : Int) (a3 : Int) : Option (Bool × Int × Int) := (F47.f ak bh ay az aA aC bB).bind fun By => ((F48.f ak bh ay az aA aC bB (By.toList == a1.toList) 3).bind fun jh => (if jh.1 = true then (if 0 ≤ jh.2.1 then (if jh.2.1 < (ak.length : Int) then ((F86.f k ((rd_T49 ak jh.2.1).f0) ((rd_T49 ak jh.2.1).f1) 2).bind fun oy => ((F48.f ak jh.2.1 ay az aA aC jh.2.2 oy.2 3).bind fun lD => (if lD.1 = true then (if 0 < (oy.1.length : Int) then (if (rd oy.1 0) = a2 then (if 1 < (oy.1.length : Int) then ((F48.f ak lD.2.1 ay az aA aC lD.2.2 ((rd oy.1 1) == a3) 5).bind fun yI => (F50.j0 k (!yI.1) ak yI.2.1 ay az aA aC yI.2.2)) else (none)) else ((F48.f ak lD.2.1 ay az aA aC lD.2.2 false 5).bind fun yJ => (F50.j0 k (!yJ.1) ak yJ.2.1 ay az aA aC yJ.2.2))) else (none)) else (F50.j0 k true ak lD.2.1 ay az aA aC lD.2.2)))) else (none)) else (none)) else (some (false, jh.2.1, jh.2.2))))
theorem F50.mono_l : ∀ k, (∀ y0 y1 y2 y3 y4 y5 y6 y7, LeO (F50.j0 k y0 y1 y2 y3 y4 y5 y6 y7) (F50.j0 (k + 1) y0 y1 y2 y3 y4 y5 y6 y7))
 | 0 => fun _ _ _ _ _ _ _ _ r h => by simp [F50.j0] at h
 | k + 1 => by
  have ef := F50.mono_l k
  intro y0 y1 y2 y3 y4 y5 y6 y7
  unfold F50.j0
  exact tg8_5
theorem F50.mono : ∀ a0 a1 a2 a3 a4 a5 a6 a7 a8 a9 k, LeO (F50.f k a0 a1 a2 a3 a4 a5 a6 a7 a8 a9) (F50.f (k + 1) a0 a1 a2 a3 a4 a5 a6 a7 a8 a9) := by
 intro a0 a1 a2 a3 a4 a5 a6 a7 a8 a9 k
 have ef := F50.mono_l k
 unfold F50.f
 exact tg8_5
def F50.T3 : Bool × List (List Nat × List Nat) := (true, [([], []), ([0], [0]), ([1], [1]), ([2], [2]), ([], []), ([4], [4]), ([5], [5]), ([6], [6]), ([3, 7], [3, 7]), ([8], [8]), ([9], [9]), ([10], [10]), ([11], [11]), ([11], [11]), ([12, 10, 0, 1, 2, 3, 4, 5, 6, 7, 8, 9, 10, 11, 12], [12]), ([13, 14, 0, 1, 2, 3, 4, 5, 6, 7, 8, 9, 10, 11, 12, 13, 14], [13])])
def F50.B3 : List Nat := [0, 1, 3, 7, 0, 16, 48, 112, 255, 511, 1023, 2047, 4095, 4095, 8191, 32767]
theorem F50.tab3 : rtab .any (opsOf Tryz.f50 3) = F50.T3 := by kernel_rfl
theorem F50.bits3 : waitsOk F50.T3.2 F50.B3 = true := by kernel_rfl
theorem F50.calls {k g : Nat} {ak : List (S49)} {bh : Int} {ay az aA aC : Value} {bB : Int} {a1 : ByteArray} {a2 a3 : Int} {r1 : Bool} {r2 r3 : Int} (w0 : World) {w : World} (hI : IsS80 w0 w g ak bh ay az aA aC bB) (hB : Below w0.heap.size w0 w) (h : F50.f k ak bh ay az aA aC bB a1 a2 a3 = some (r1, r2, r3)) :
  Calls Tryz.prog 50 #[.pointer (some ⟨g, 0, none⟩), .string a1, .int .i64 a2, .int .i64 a3] w fun e w' => e = .returned (.bool r1) ∧ IsS80 w0 w' g ak r2 ay az aA aC r3 ∧ Below w0.heap.size w0 w' ∧ KeepBut w w' g none := by
 have dk := Tryz.underlying49
 have ba := am_ hI
 have HK := am_ (KeepBut.refl w g none)
 have HL := am_ hB.size
 clear hI
 have oF := am_ hB.size
 have HB := am_ hB
 clear hB
 have H := h; unfold F50.f at H
 clear h
 replace H := bi_ H; rcases H with ⟨By, A5, H⟩
 replace H := bi_ H; rcases H with ⟨⟨a0m, kw, M9⟩, A6, H⟩
 replace H := ib_ H; rcases H with ⟨rfl, H⟩ | ⟨rfl, H⟩
 rotate_left
 ·simp only [Option.some.injEq, Prod.mk.injEq] at H
  obtain ⟨rfl, rfl, rfl⟩ := H
  go_enter Tryz.func50, Tryz.ntmps50
  go_wp2_with (first | ((with_reducible refine gate_callee (f := 47) rfl ?_); refine gl_ 13 Tryz.func47 #[.pointer (some ⟨g, 0, none⟩)] ?_ rfl rfl rfl rfl; (with_reducible refine (F47.calls w0 ?s1 ?s2 A5.out).mono ?_); (case s1 => exact au8_10); (case s2 => exact ax27_); rintro e w' ⟨rfl, ⟨nd, rfl⟩⟩; refine ⟨_, rfl, ?_⟩) | ((with_reducible refine gate_callee (f := 48) rfl ?_); refine gl_ 16 Tryz.func48 #[.pointer (some ⟨g, 0, none⟩), .bool (By.toList == a1.toList), .int .i64 3] ?_ rfl rfl rfl rfl; (with_reducible refine (F48.calls w0 ?s1 ?s2 A6.out).mono ?_); (case s1 => exact au8_10); (case s2 => exact ax27_); rintro e U2 ⟨rfl, hi, hb, hk⟩; refine ⟨_, rfl, ?_⟩; replace HK := am_ (KeepBut.trans ax42_ hk (.inl rfl)); replace HB := am_ (hb); replace ba := am_ (hi); clear hb hk hi))
  go_ret
  exact tg8_3
 replace H := itn_ H; rcases H with ⟨c8b0, H⟩
 replace H := itn_ H; rcases H with ⟨c9b0, H⟩
 replace H := bi_ H; rcases H with ⟨⟨kf, Hi⟩, qB, H⟩
 have lm := am_ H
 clear H
 go_enter Tryz.func50, Tryz.ntmps50
 try go_wp2_with (first | ((with_reducible refine gate_callee (f := 47) rfl ?_); refine gl_ 13 Tryz.func47 #[.pointer (some ⟨g, 0, none⟩)] ?_ rfl rfl rfl rfl; (with_reducible refine (F47.calls w0 ?s1 ?s2 A5.out).mono ?_); (case s1 => exact au8_10); (case s2 => exact ax27_); rintro e w' ⟨rfl, ⟨nd, rfl⟩⟩; refine ⟨_, rfl, ?_⟩) | ((with_reducible refine gate_callee (f := 48) rfl ?_); refine gl_ 16 Tryz.func48 #[.pointer (some ⟨g, 0, none⟩), .bool (By.toList == a1.toList), .int .i64 3] ?_ rfl rfl rfl rfl; (with_reducible refine (F48.calls w0 ?s1 ?s2 A6.out).mono ?_); (case s1 => exact au8_10); (case s2 => exact ax27_); rintro e lU ⟨rfl, hi, hb, hk⟩; refine ⟨_, rfl, ?_⟩; replace HK := am_ (KeepBut.trans ax42_ hk (.inl rfl)); replace HB := am_ (hb); replace ba := am_ (hi); clear hb hk hi))
 obtain ⟨Bz, sF, BA, ej, sG, sH, sI, sJ, sK, sL, sM, sN⟩ := IsS80.op ba.out
 replace ba := am_ (IsS80.drew ba.out)
 replace HK := am_ (keep_drew HK.out)
 replace HB := am_ (below_drew1 HB.out)
 have yK : lU.drew.frozen? ⟨g, 1, none⟩ = false := sM
 have yL : lU.drew.frozen? ⟨g, 6, none⟩ = false := sN
 have sO : lU.drew.cell? ⟨g, 0, none⟩ = some (.slice Bz ak.length sF) := ej
 have sP : lU.drew.cell? ⟨g, 1, none⟩ = some (.int .i64 kw) := sG
 have sQ : lU.drew.cell? ⟨g, 2, none⟩ = some (ay) := sH
 have sR : lU.drew.cell? ⟨g, 3, none⟩ = some (az) := sI
 have sS : lU.drew.cell? ⟨g, 4, none⟩ = some (aA) := sJ
 have sT : lU.drew.cell? ⟨g, 5, none⟩ = some (aC) := sK
 have sU : lU.drew.cell? ⟨g, 6, none⟩ = some (.int .i64 M9) := sL
 have BB : 0 ≤ (kw : Int) := od_
 have BC : kw < (ak.length : Int) := od_
 obtain ⟨sV, yM, yN, Tf, ji, jj, sW, sX⟩ := at_T49 BA kw BB BC
 have sY := jj
 have sZ := ji
 cases Tf
 replace ji := pw_cell_below HB.out ji
 replace jj := pw_cell_below HB.out jj
 have tc := am_ sX
 have BD := am_ sW
 clear sX sW
 replace BB := eq_true BB
 replace BC := eq_true BC
 refine start_ (n := 16) (S := fun w' => w'.cell? ⟨g, 0, none⟩ = some (.slice (some sV) ak.length sF) ∧ w'.cell? ⟨g, 1, none⟩ = some (.int .i64 kw) ∧ w'.cell? ⟨g, 2, none⟩ = some (ay) ∧ w'.cell? ⟨g, 3, none⟩ = some (az) ∧ w'.cell? ⟨g, 4, none⟩ = some (aA) ∧ w'.cell? ⟨g, 5, none⟩ = some (aC) ∧ w'.cell? ⟨g, 6, none⟩ = some (.int .i64 M9) ∧ w'.cell? (sV.add ((kw).toNat * 2)) = some (.string ((rd_T49 ak kw).f0)) ∧ w'.cell? ⟨(sV.add ((kw).toNat * 2)).block, (sV.add ((kw).toNat * 2)).off + 1, none⟩ = some (.slice yM ((rd_T49 ak kw).f1).length yN)) (ds := []) (bs 16 0) (by kernel_rfl) rfl rfl ⟨sO, sP, sQ, sR, sS, sT, sU, (pw_cell_below HB.out sZ), (pw_cell_below HB.out sY)⟩ (fun hHeld => ?_); refine with_tabW F50.tab3 F50.bits3 (fun HT_ HW_ => ?_)
 generalize lU.drew = gI at yK yL sO sP sQ sR sS sT sU ba HK HB tc ji jj hHeld ⊢
 refine pq_ 0 HT_ ?_
 refine pq_ 1 HT_ ?_
 refine pq_ 2 HT_ ?_
 refine pq_ 4 HT_ ?_
 refine pq_ 5 HT_ ?_
 refine pq_ 6 HT_ ?_
 refine tq_ 3 HT_ HW_ hHeld rfl ax49_ ?_
 refine tq_ 7 HT_ HW_ hHeld rfl ax49_ ?_
 refine pq_ 8 HT_ ?_
 refine tq_ 9 HT_ HW_ hHeld rfl ax49_ ?_
 refine oq_ 10 HT_ (fun K hK => ?_)
 refine gr_ Tryz.func86 #[.agg #[.string ((rd_T49 ak kw).f0), .slice yM ((rd_T49 ak kw).f1).length yN], .int .i64 2] (by rfl) ?_ rfl rfl rfl
 with_reducible refine (F86.calls ?s1 ?s2 qB.out).mono ?_
 (case s1 => exact Kd.C_below tc.out ax27_)
 (case s2 => exact BD.out)
 rintro e Wu ⟨a0n, rfl, bf, hb⟩
 have gN := pw_cell_below hb (hHeld.1)
 have j8 := pw_cell_below hb (hHeld.2.1)
 have lE := pw_cell_below hb (hHeld.2.2.1)
 have lF := pw_cell_below hb (hHeld.2.2.2.1)
 have lG := pw_cell_below hb (hHeld.2.2.2.2.1)
 have lH := pw_cell_below hb (hHeld.2.2.2.2.2.1)
 have lI := pw_cell_below hb (hHeld.2.2.2.2.2.2.1)
 refine ⟨_, rfl, ?_⟩
 have eQ := am_ (Kd.R_lower bf (keep_size (w := w) (g := g) (row := none) ax42_))
 replace HK := am_ (KeepBut.trans ax42_ (KeepBut.of_below hb g none) (.inl rfl))
 replace HB := am_ (below_step ax27_ hb)
 replace ba := am_ (IsS80.below ax31_ hb)
 (try clear hb)
 (try clear bf)
 refine hK.out _ _ ⟨gN, j8, lE, lF, lG, lH, lI, (pw_cell_below HB.out sZ), (pw_cell_below HB.out sY)⟩ (fun hHeld => ?_)
 clear hK K
 refine no_ 29 ?_
 refine pq_ 11 HT_ ?_
 refine pq_ 12 HT_ ?_
 refine pq_ 13 HT_ ?_
 refine pq_ 14 HT_ ?_
 refine pq_ 15 HT_ ?_
 refine done_ (done_of HT_.out (by kernel_rfl)) ?_
 go_upto_region 4 with (fail)
 go_cut [52] (fun Tg wc => ∃ (kq : Nat) (qh : Bool) (lJ : Int) (lK : Int), Tg = .bool qh ∧ Aside0 (F50.j0 kq qh ak lJ ay az aA aC lK = some (r1, r2, r3)) ∧ Aside0 (kq ≤ k) ∧ Aside0 (IsS80 w0 wc g ak lJ ay az aA aC lK) ∧ Aside0 (KeepBut w wc g none) ∧ Aside0 (Below w0.heap.size w0 wc))
 case first =>
  have H := lm.out
  clear lm
  replace H := bi_ H; rcases H with ⟨⟨a0o, Th, Ti⟩, Tj, H⟩
  replace H := ib_ H; rcases H with ⟨rfl, H⟩ | ⟨rfl, H⟩
  rotate_left
  ·have H' := am_ H
   clear H
   go_wp2_with (first | ((with_reducible refine gate_callee (f := 48) rfl ?_); refine gl_ 34 Tryz.func48 #[.pointer (some ⟨g, 0, none⟩), .bool Hi, .int .i64 3] ?_ rfl rfl rfl rfl; (with_reducible refine (F48.calls w0 ?s1 ?s2 Tj.out).mono ?_); (case s1 => exact au8_10); (case s2 => exact ax27_); rintro e QF ⟨rfl, hi, hb, hk⟩; refine ⟨_, rfl, ?_⟩; replace eQ := IsS80.kR hk ax31_ (rk_ eQ); replace HK := am_ (KeepBut.trans ax42_ hk (.inl rfl)); replace HB := am_ (hb); replace ba := am_ (hi); clear hb hk hi))
   go_meet
   case rel => exact ⟨_, (true), (Th), (Ti), er_, H', ⟨ax10_⟩, ⟨ax31_⟩, ⟨ax42_⟩, ⟨ax27_⟩⟩
  replace H := itn_ H; rcases H with ⟨c18b0, H⟩
  have c18b1 : decide (0 < kf.length) = true := n2_ c18b0
  (first | rw [c18b0] | (simp only [i64_w, i32_w]; rw [c18b0]) | skip)
  by_cases Hj : (rd kf 0) = a2
  rotate_left
  ·rw [if_neg Hj] at H
   have c19b0 : ((rd kf 0) == a2) = false := beq_eq_false_iff_ne.mpr Hj
   have c19b1 : ((rd kf 0) != a2) = true := bne_iff_ne.mpr Hj
   replace H := bi_ H; rcases H with ⟨⟨Tk, Tl, Tm⟩, A25, H⟩
   have H' := am_ H
   clear H
   go_wp2_with (first | ((with_reducible refine gate_callee (f := 48) rfl ?_); refine gl_ 34 Tryz.func48 #[.pointer (some ⟨g, 0, none⟩), .bool Hi, .int .i64 3] ?_ rfl rfl rfl rfl; (with_reducible refine (F48.calls w0 ?s1 ?s2 Tj.out).mono ?_); (case s1 => exact au8_10); (case s2 => exact ax27_); rintro e E9 ⟨rfl, hi, hb, hk⟩; refine ⟨_, rfl, ?_⟩; replace eQ := IsS80.kR hk ax31_ (rk_ eQ); replace HK := am_ (KeepBut.trans ax42_ hk (.inl rfl)); replace HB := am_ (hb); replace ba := am_ (hi); clear hb hk hi; obtain ⟨a0q, a0r, Tn⟩ := Kd.R_slice eQ.out; subst Tn; have qi : 0 ≤ (0 : Int) := (by omega); have qj : 0 < (kf.length : Int) := od_; obtain ⟨Ek, Hk, jk⟩ := Kd.at_int (Kd.R_reads' eQ.out).2.2 0 qi qj; cases Hk; have Na : (0 < kf.length) = True := eq_true (by omega); (try rw [show ((0 : Int)).toNat = 0 from rfl] at jk); (try rw [Addr.add_zero'] at jk); replace qi := eq_true qi; replace qj := eq_true qj) | (go_at_call 48; (with_reducible refine (F48.calls w0 ?s1 ?s2 A25.out).mono ?_); (case s1 => exact au8_10); (case s2 => exact ax27_); rintro e U1 ⟨rfl, hi, hb, hk⟩; replace eQ := IsS80.kR hk ax31_ (rk_ eQ); replace HK := am_ (KeepBut.trans ax42_ hk (.inl rfl)); replace HB := am_ (hb); replace ba := am_ (hi); clear hb hk hi))
   go_meet
   case rel => exact ⟨_, (!Tk), (Tl), (Tm), er_, H', ⟨ax10_⟩, ⟨ax31_⟩, ⟨ax42_⟩, ⟨ax27_⟩⟩
  rw [if_pos Hj] at H
  have c19b0 : ((rd kf 0) == a2) = true := beq_iff_eq.mpr Hj
  have c19b1 : ((rd kf 0) != a2) = false := bne_eq_false_iff_eq.mpr Hj
  clear Hj
  replace H := itn_ H; rcases H with ⟨c20b0, H⟩
  have c20b1 : decide (1 < kf.length) = true := n2_ c20b0
  replace H := bi_ H; rcases H with ⟨⟨To, Tp, Tq⟩, AX, H⟩
  have H' := am_ H
  clear H
  go_wp2_with (first | ((with_reducible refine gate_callee (f := 48) rfl ?_); refine gl_ 34 Tryz.func48 #[.pointer (some ⟨g, 0, none⟩), .bool Hi, .int .i64 3] ?_ rfl rfl rfl rfl; (with_reducible refine (F48.calls w0 ?s1 ?s2 Tj.out).mono ?_); (case s1 => exact au8_10); (case s2 => exact ax27_); rintro e zO ⟨rfl, hi, hb, hk⟩; refine ⟨_, rfl, ?_⟩; replace eQ := IsS80.kR hk ax31_ (rk_ eQ); replace HK := am_ (KeepBut.trans ax42_ hk (.inl rfl)); replace HB := am_ (hb); replace ba := am_ (hi); clear hb hk hi; obtain ⟨AT, AU, uW⟩ := Kd.R_slice eQ.out; subst uW; have qi : 0 ≤ (0 : Int) := (by omega); have qj : 0 < (kf.length : Int) := od_; obtain ⟨Ek, Hk, jk⟩ := Kd.at_int (Kd.R_reads' eQ.out).2.2 0 qi qj; cases Hk; have Na : (0 < kf.length) = True := eq_true (by omega); (try rw [show ((0 : Int)).toNat = 0 from rfl] at jk); (try rw [Addr.add_zero'] at jk); replace qi := eq_true qi; replace qj := eq_true qj; have Hl : 0 ≤ (1 : Int) := (by omega); have Hm : 1 < (kf.length : Int) := od_; obtain ⟨Nb, Tr, td⟩ := Kd.at_int (Kd.R_reads' eQ.out).2.2 1 Hl Hm; obtain rfl : Ek = Nb := (by injection Tr); (try simp only [show (1 : Int).toNat = 1 from rfl, Nat.reduceMul, Nat.reduceEqDiff, Go.Addr.add, ↓reduceIte] at td); have WU : (1 < kf.length) = True := eq_true (by omega); (try rw [show ((1 : Int)).toNat = 1 from rfl] at td); replace Hl := eq_true Hl; replace Hm := eq_true Hm) | (go_at_call 48; (with_reducible refine (F48.calls w0 ?s1 ?s2 AX.out).mono ?_); (case s1 => exact au8_10); (case s2 => exact ax27_); rintro e oG ⟨rfl, hi, hb, hk⟩; replace eQ := IsS80.kR hk ax31_ (rk_ eQ); replace HK := am_ (KeepBut.trans ax42_ hk (.inl rfl)); replace HB := am_ (hb); replace ba := am_ (hi); clear hb hk hi))
  go_meet
  case rel => exact ⟨_, (!To), (Tp), (Tq), er_, H', ⟨ax10_⟩, ⟨ax31_⟩, ⟨ax42_⟩, ⟨ax27_⟩⟩
 case rest =>
  clear lm
  try clear c8b0
  try clear c9b0
  try clear ej sG sH sI sJ sK sL
  try clear sM
  try clear sN
  try clear ji
  try clear jj
  try clear BB
  try clear BC
  obtain ⟨kq, qh, lJ, lK, rfl, HA, pa, ba, HK, HB⟩ := hcut
  cases kq with
  | zero => exact absurd HA.out (by simp [F50.j0])
  | succ uU =>
   have H := HA.out
   clear HA
   simp only [F50.j0] at H
   replace H := ib_ H; rcases H with ⟨rfl, H⟩ | ⟨rfl, H⟩
   ·simp only [Option.some.injEq, Prod.mk.injEq] at H
    obtain ⟨rfl, rfl, rfl⟩ := H
    go_wp2
    go_ret
    exact tg8_3
   simp only [Option.some.injEq, Prod.mk.injEq] at H
   obtain ⟨rfl, rfl, rfl⟩ := H
   obtain ⟨Pn, Po, Pp, BE, Pq, Pr, Ps, Pt, Pu, Pv, Pw, Px⟩ := IsS80.op ba.out
   go_wp2
   go_ret
   exact tg8_3
mutual
def F87.j0 : Nat → List Int → Bool → List (S49) → Int → Value → Value → Value → Value → Int → Int → Option (Int × (List (S49)) × Bool × Int × Int)
  | 0, _, _, _, _, _, _, _, _, _, _ => none
  | k + 1, x5, Ol, bE, bw, cy, cz, cA, cB, cf, dh => if Ol = true then (some (dh, ([] : List (S49)), false, bw, cf)) else (if 0 < (x5.length : Int) then (F87.l0 k bE (wrap64 (bw + 1)) cy cz cA cB cf (rd x5 0) ([] : List (S49))) else (none))
def F87.l0 : Nat → List (S49) → Int → Value → Value → Value → Value → Int → Int → List (S49) → Option (Int × (List (S49)) × Bool × Int × Int)
  | 0, _, _, _, _, _, _, _, _, _ => none
  | k + 1, bE, bw, cy, cz, cA, cB, cf, dh, di => if bw < (bE.length : Int) then ((F47.f bE bw cy cz cA cB cf).bind fun Hn => ((F42.f Hn).bind fun Ho => (F87.j2 k (!Ho) bE bw cy cz cA cB cf dh di))) else (F87.j2 k false bE bw cy cz cA cB cf dh di)
def F87.j2 : Nat → Bool → List (S49) → Int → Value → Value → Value → Value → Int → Int → List (S49) → Option (Int × (List (S49)) × Bool × Int × Int)
  | 0, _, _, _, _, _, _, _, _, _, _ => none
  | k + 1, x67, bE, bw, cy, cz, cA, cB, cf, dh, di => if x67 = true then (if 0 ≤ bw then (if bw < (bE.length : Int) then ((F41.f k ((rd_T49 bE bw).f0) ((rd_T49 bE bw).f1)).bind fun Nc => (if Nc = true then ((F48.f bE bw cy cz cA cB cf (decide ((di.length : Int) < 40)) 3).bind fun yO => (F87.j3 k (!yO.1) bE yO.2.1 cy cz cA cB yO.2.2 dh di)) else ((F48.f bE bw cy cz cA cB cf false 3).bind fun yP => (F87.j3 k (!yP.1) bE yP.2.1 cy cz cA cB yP.2.2 dh di)))) else (none)) else (none)) else ((F50.f k bE bw cy cz cA cB cf (⟨#[77, 83, 84]⟩ : ByteArray) (di.length : Int) dh).bind fun yQ => (some (dh, di, yQ.1, yQ.2.1, yQ.2.2)))
def F87.j3 : Nat → Bool → List (S49) → Int → Value → Value → Value → Value → Int → Int → List (S49) → Option (Int × (List (S49)) × Bool × Int × Int)
  | 0, _, _, _, _, _, _, _, _, _, _ => none
  | k + 1, x87, bE, bw, cy, cz, cA, cB, cf, dh, di => if x87 = true then (some (dh, di, false, bw, cf)) else (if 0 ≤ bw then (if bw < (bE.length : Int) then ((F27.f k ((rd_T49 bE bw).f0) ((rd_T49 bE bw).f1)).bind fun El => (if di.length < 3518437208883 then (F87.l0 k bE (wrap64 (bw + 1)) cy cz cA cB cf dh (di ++ [(⟨El.1, El.2⟩ : S49)])) else (none))) else (none)) else (none))
end
def F87.f (k : Nat) (ak : List (S49)) (bh : Int) (ay : Value) (az : Value) (aA : Value) (aC : Value) (bB : Int) : Option (Int × (List (S49)) × Bool × Int × Int) := (F47.f ak bh ay az aA aC bB).bind fun Nd => ((F48.f ak bh ay az aA aC bB (Nd.toList == ([77, 83, 72] : List UInt8)) 3).bind fun f7 => (if f7.1 = true then (if 0 ≤ f7.2.1 then (if f7.2.1 < (ak.length : Int) then ((F86.f k ((rd_T49 ak f7.2.1).f0) ((rd_T49 ak f7.2.1).f1) 1).bind fun oz => (if oz.2 = true then (if 0 < (oz.1.length : Int) then ((F40.f (rd oz.1 0)).bind fun t839 => ((F48.f ak f7.2.1 ay az aA aC f7.2.2 t839 3).bind fun bt840 => (F87.j0 k oz.1 (!bt840.1) ak bt840.2.1 ay az aA aC bt840.2.2 0))) else (none)) else ((F48.f ak f7.2.1 ay az aA aC f7.2.2 false 3).bind fun bt843 => (F87.j0 k oz.1 (!bt843.1) ak bt843.2.1 ay az aA aC bt843.2.2 0)))) else (none)) else (none)) else (some (0, ([] : List (S49)), false, f7.2.1, f7.2.2))))
theorem F87.mono_l : ∀ k, (∀ y0 y1 y2 y3 y4 y5 y6 y7 y8 y9, LeO (F87.j0 k y0 y1 y2 y3 y4 y5 y6 y7 y8 y9) (F87.j0 (k + 1) y0 y1 y2 y3 y4 y5 y6 y7 y8 y9)) ∧ (∀ y0 y1 y2 y3 y4 y5 y6 y7 y8, LeO (F87.l0 k y0 y1 y2 y3 y4 y5 y6 y7 y8) (F87.l0 (k + 1) y0 y1 y2 y3 y4 y5 y6 y7 y8)) ∧ (∀ y0 y1 y2 y3 y4 y5 y6 y7 y8 y9, LeO (F87.j2 k y0 y1 y2 y3 y4 y5 y6 y7 y8 y9) (F87.j2 (k + 1) y0 y1 y2 y3 y4 y5 y6 y7 y8 y9)) ∧ (∀ y0 y1 y2 y3 y4 y5 y6 y7 y8 y9, LeO (F87.j3 k y0 y1 y2 y3 y4 y5 y6 y7 y8 y9) (F87.j3 (k + 1) y0 y1 y2 y3 y4 y5 y6 y7 y8 y9))
 | 0 => ⟨fun _ _ _ _ _ _ _ _ _ _ r h => by simp [F87.j0] at h, fun _ _ _ _ _ _ _ _ _ r h => by simp [F87.l0] at h, fun _ _ _ _ _ _ _ _ _ _ r h => by simp [F87.j2] at h, fun _ _ _ _ _ _ _ _ _ _ r h => by simp [F87.j3] at h⟩
 | k + 1 => by
  obtain ⟨ef, kW, ro, DH⟩ := F87.mono_l k
  refine ⟨?_, ?_, ?_, ?_⟩
  rotate_left
  ·intro y0 y1 y2 y3 y4 y5 y6 y7 y8
   unfold F87.l0
   exact tg8_6
  ·intro y0 y1 y2 y3 y4 y5 y6 y7 y8 y9
   unfold F87.j2
   exact tg8_6
  ·intro y0 y1 y2 y3 y4 y5 y6 y7 y8 y9
   unfold F87.j3
   exact tg8_6
  intro y0 y1 y2 y3 y4 y5 y6 y7 y8 y9
  unfold F87.j0
  exact tg8_6
theorem F87.mono : ∀ a0 a1 a2 a3 a4 a5 a6 k, LeO (F87.f k a0 a1 a2 a3 a4 a5 a6) (F87.f (k + 1) a0 a1 a2 a3 a4 a5 a6) := by
 intro a0 a1 a2 a3 a4 a5 a6 k
 obtain ⟨ef, kW, ro, DH⟩ := F87.mono_l k
 unfold F87.f
 exact tg8_6
def F87.T4 : Bool × List (List Nat × List Nat) := (true, [([], []), ([0], [0]), ([1], [1]), ([2], [2]), ([], []), ([4], [4]), ([5], [5]), ([6], [6]), ([3, 7], [3, 7]), ([8], [8]), ([9], [9]), ([10], [10]), ([11], [11]), ([11], [11]), ([12, 10, 0, 1, 2, 3, 4, 5, 6, 7, 8, 9, 10, 11, 12], [12]), ([13, 14, 0, 1, 2, 3, 4, 5, 6, 7, 8, 9, 10, 11, 12, 13, 14], [13])])
def F87.B4 : List Nat := [0, 1, 3, 7, 0, 16, 48, 112, 255, 511, 1023, 2047, 4095, 4095, 8191, 32767]
theorem F87.tab4 : rtab .any (opsOf Tryz.f87 4) = F87.T4 := by kernel_rfl
theorem F87.bits4 : waitsOk F87.T4.2 F87.B4 = true := by kernel_rfl
def F87.T9 : Bool × List (List Nat × List Nat) := (true, [([], []), ([0], [0]), ([1], [1]), ([2], [2]), ([], []), ([4], [4]), ([5], [5]), ([6], [6]), ([7], [7]), ([3, 8], [3, 8]), ([9], [9]), ([10], [10]), ([11, 10, 10], [10, 11]), ([12, 12, 10], [10, 12]), ([13, 10], [10, 13]), ([10, 14], [10, 14])])
def F87.B9 : List Nat := [0, 1, 3, 7, 0, 16, 48, 112, 240, 511, 1023, 2047, 4095, 8191, 16383, 32767]
theorem F87.tab9 : rtab .any (opsOf Tryz.f87 9) = F87.T9 := by kernel_rfl
theorem F87.bits9 : waitsOk F87.T9.2 F87.B9 = true := by kernel_rfl
def F87.T10 : Bool × List (List Nat × List Nat) := (true, [([], []), ([], []), ([1], [1]), ([2], [2]), ([3], [3]), ([], []), ([5], [5]), ([6], [6]), ([7], [7]), ([4, 8], [4, 8]), ([9], [9]), ([10], [10]), ([11, 11], [11]), ([12], [12]), ([13, 12], [12, 13]), ([14, 12], [12, 14]), ([15, 12], [12, 15]), ([12, 16], [12, 16]), ([0, 17, 12], [0, 17]), ([18], [18])])
def F87.B10 : List Nat := [0, 0, 2, 6, 14, 0, 32, 96, 224, 510, 1022, 2046, 4094, 8190, 16382, 32766, 65534, 131070, 262143, 524287]
theorem F87.tab10 : rtab .any (opsOf Tryz.f87 10) = F87.T10 := by kernel_rfl
theorem F87.bits10 : waitsOk F87.T10.2 F87.B10 = true := by kernel_rfl
def F87.T12 : Bool × List (List Nat × List Nat) := (true, [([], []), ([0], [0]), ([], []), ([2], [2]), ([3], [3]), ([4], [4]), ([], []), ([6], [6]), ([7], [7]), ([8], [8]), ([5, 9], [5, 9]), ([10], [10]), ([11], [11]), ([12], [12]), ([1, 13, 12], [1, 13]), ([0, 1, 2, 3, 4, 5, 6, 7, 8, 9, 10, 11, 12, 13, 14], []), ([15, 14, 14, 0, 1, 2, 3, 4, 5, 6, 7, 8, 9, 10, 11, 12, 13, 14], [14, 15])])
def F87.B12 : List Nat := [0, 1, 0, 4, 12, 28, 0, 64, 192, 448, 1020, 2044, 4092, 8188, 16383, 32767, 65535]
theorem F87.tab12 : rtab .any (opsOf Tryz.f87 12) = F87.T12 := by kernel_rfl
theorem F87.bits12 : waitsOk F87.T12.2 F87.B12 = true := by kernel_rfl
def F87.T14 : Bool × List (List Nat × List Nat) := (true, [([], []), ([], []), ([], []), ([2], [2]), ([3], [3]), ([], []), ([5], [5]), ([1, 4, 6], [1, 4, 6]), ([0, 7, 0], [0]), ([7, 8, 0, 1, 2, 3, 4, 5, 6, 7, 8], [7])])
def F87.B14 : List Nat := [0, 0, 0, 4, 12, 0, 32, 126, 255, 511]
theorem F87.tab14 : rtab .any (opsOf Tryz.f87 14) = F87.T14 := by kernel_rfl
theorem F87.bits14 : waitsOk F87.T14.2 F87.B14 = true := by kernel_rfl
theorem F87.calls {k g : Nat} {ak : List (S49)} {bh : Int} {ay az aA aC : Value} {bB r1 : Int} {r2 : List (S49)} {r3 : Bool} {r4 r5 : Int} (w0 : World) {w : World} (hI : IsS80 w0 w g ak bh ay az aA aC bB) (hB : Below w0.heap.size w0 w) (h : F87.f k ak bh ay az aA aC bB = some (r1, r2, r3, r4, r5)) :
  Calls Tryz.prog 87 #[.pointer (some ⟨g, 0, none⟩)] w fun e w' => ∃ nM : Value, e = .returned (.tuple #[.agg #[.int .i64 r1, nM], .bool r3]) ∧ Kd.S k49 49 w' w.heap.size (fun _ => True) nM r2 ∧ IsS80 w0 w' g ak r4 ay az aA aC r5 ∧ Below w0.heap.size w0 w' ∧ KeepBut w w' g none := by
 have mB := Tryz.underlying56
 have dk := Tryz.underlying49
 have ba := am_ hI
 have HK := am_ (KeepBut.refl w g none)
 have HL := am_ hB.size
 clear hI
 have oF := am_ hB.size
 have HB := am_ hB
 clear hB
 have H := h; unfold F87.f at H
 clear h
 replace H := bi_ H; rcases H with ⟨Nd, A2, H⟩
 replace H := bi_ H; rcases H with ⟨⟨a0u, kx, Nf⟩, A3, H⟩
 replace H := ib_ H; rcases H with ⟨rfl, H⟩ | ⟨rfl, H⟩
 rotate_left
 ·simp only [Option.some.injEq, Prod.mk.injEq] at H
  obtain ⟨rfl, rfl, rfl, rfl, rfl⟩ := H
  go_enter Tryz.func87, Tryz.ntmps87
  go_wp2_with (first | ((with_reducible refine gate_dst (N := 2) rfl ?_); (try (refine gate_guard (by rfl) ?_; dsimp only)); refine be_ 2 #[.int .i64 0, .slice none 0 0] 56 ?_; intro cC hg w88 hbox hb; replace HB := am_ (below_step ax27_ hb); have au := am_ (hbox); have vY := am_ ((by rw [hg]; exact (keep_size (w := w) (g := g) (row := none) ax42_) : w.heap.size ≤ cC)); have vW := am_ ((Nat.le_trans oF.out (by rw [hg]; exact (keep_size (w := w) (g := g) (row := none) ax42_) : w.heap.size ≤ cC) : w0.heap.size ≤ cC)); replace HK := am_ (KeepBut.trans ax42_ (KeepBut.of_below hb g none) (.inl rfl)); have sr := am_ (gn_ hg (IsS80.lt (ax31_ : IsS80 w0 _ g ak bh ay az aA aC bB))); have dB := am_ (gm_ hg (IsS80.lt (ax31_ : IsS80 w0 _ g ak bh ay az aA aC bB))); replace ba := am_ (IsS80.below ax31_ hb); clear hb hbox hg) | ((with_reducible refine gate_dst (N := 4) rfl ?_); (try (refine gate_guard (by rfl) ?_; dsimp only)); refine be_ 4 #[.int .i64 0, .slice none 0 0] 56 ?_; intro df hg UX hbox hb; replace HB := am_ (below_step au8_21 hb); have aq := am_ (hbox); have C5 := am_ ((by rw [hg]; exact (keep_size (w := w) (g := g) (row := none) au8_12) : w.heap.size ≤ df)); have C2 := am_ ((Nat.le_trans oF.out (by rw [hg]; exact (keep_size (w := w) (g := g) (row := none) au8_12) : w.heap.size ≤ df) : w0.heap.size ≤ df)); replace HK := am_ (KeepBut.trans au8_12 (KeepBut.of_below hb g none) (.inl rfl)); have mt := am_ (gn_ hg (blkl_ au)); have bO := am_ (gm_ hg (blkl_ au)); replace au := bb_ au hb; have st := am_ (gn_ hg (IsS80.lt (ax31_ : IsS80 w0 _ g ak bh ay az aA aC bB))); have cZ := am_ (gm_ hg (IsS80.lt (ax31_ : IsS80 w0 _ g ak bh ay az aA aC bB))); replace ba := am_ (IsS80.below ax31_ hb); clear hb hbox hg; obtain ⟨Ng, Nh⟩ := nn_ bO; obtain ⟨Nk, Nl⟩ := nn_ cZ; have Py := cellsF2 aq.out) | (go_at_call 47; (with_reducible refine (F47.calls w0 ?s1 ?s2 A2.out).mono ?_); (case s1 => exact au8_3); (case s2 => exact ax24_); rintro e w' ⟨rfl, ⟨nd, rfl⟩⟩; (try clear A2)) | (go_at_call 48; (with_reducible refine (F48.calls w0 ?s1 ?s2 A3.out).mono ?_); (case s1 => exact au8_3); (case s2 => exact ax24_); rintro e w93 ⟨rfl, hi, hb, hk⟩; (try clear A3); replace au := ka_ hk au dB; replace aq := am_ (KeepBut.blk hk (g' := df) (o := .cells #[.int .i64 0, .slice none 0 0] 56 (0, 0)) (bq_ aq) cZ.out (by simp)); replace HK := am_ (KeepBut.trans ax39_ hk (.inl rfl)); replace HB := am_ (hb); replace ba := am_ (hi); clear hb hk hi; have Pz := cellsF2 aq.out; obtain ⟨WV, WW⟩ := nn_ dB; have PA := cellsF2 au.out))
  refine bodyPost_ret (results_ct rfl _ _ cC 56 #[.int .i64 0, .slice none 0 0] (0, 0) _ rfl (bq_ au) Tryz.underlying56 rfl (by kernel_rfl)) rfl ?_
  exact ⟨_, ax11_, ax8_, ax31_, ax24_, ax39_⟩
 replace H := itn_ H; rcases H with ⟨c5b0, H⟩
 replace H := itn_ H; rcases H with ⟨c6b0, H⟩
 replace H := bi_ H; rcases H with ⟨⟨eR, a0w⟩, A7, H⟩
 have Hp := am_ H
 clear H
 go_enter Tryz.func87, Tryz.ntmps87
 try go_wp2_with (first | ((with_reducible refine gate_dst (N := 2) rfl ?_); (try (refine gate_guard (by rfl) ?_; dsimp only)); refine be_ 2 #[.int .i64 0, .slice none 0 0] 56 ?_; intro cC hg w9 hbox hb; replace HB := am_ (below_step ax27_ hb); have au := am_ (hbox); have vY := am_ ((by rw [hg]; exact (keep_size (w := w) (g := g) (row := none) ax42_) : w.heap.size ≤ cC)); have vW := am_ ((Nat.le_trans oF.out (by rw [hg]; exact (keep_size (w := w) (g := g) (row := none) ax42_) : w.heap.size ≤ cC) : w0.heap.size ≤ cC)); replace HK := am_ (KeepBut.trans ax42_ (KeepBut.of_below hb g none) (.inl rfl)); have sr := am_ (gn_ hg (IsS80.lt (ax31_ : IsS80 w0 _ g ak bh ay az aA aC bB))); have dB := am_ (gm_ hg (IsS80.lt (ax31_ : IsS80 w0 _ g ak bh ay az aA aC bB))); replace ba := am_ (IsS80.below ax31_ hb); clear hb hbox hg) | ((with_reducible refine gate_dst (N := 4) rfl ?_); (try (refine gate_guard (by rfl) ?_; dsimp only)); refine be_ 4 #[.int .i64 0, .slice none 0 0] 56 ?_; intro df hg Ie hbox hb; replace HB := am_ (below_step au8_21 hb); have aq := am_ (hbox); have C5 := am_ ((by rw [hg]; exact (keep_size (w := w) (g := g) (row := none) au8_12) : w.heap.size ≤ df)); have C2 := am_ ((Nat.le_trans oF.out (by rw [hg]; exact (keep_size (w := w) (g := g) (row := none) au8_12) : w.heap.size ≤ df) : w0.heap.size ≤ df)); replace HK := am_ (KeepBut.trans au8_12 (KeepBut.of_below hb g none) (.inl rfl)); have mt := am_ (gn_ hg (blkl_ au)); have bO := am_ (gm_ hg (blkl_ au)); replace au := bb_ au hb; have st := am_ (gn_ hg (IsS80.lt (ax31_ : IsS80 w0 _ g ak bh ay az aA aC bB))); have cZ := am_ (gm_ hg (IsS80.lt (ax31_ : IsS80 w0 _ g ak bh ay az aA aC bB))); replace ba := am_ (IsS80.below ax31_ hb); clear hb hbox hg; obtain ⟨Dl, Dm⟩ := nn_ bO; obtain ⟨Nm, Nn⟩ := nn_ cZ; have ej := cellsF2 aq.out) | (go_at_call 47; (with_reducible refine (F47.calls w0 ?s1 ?s2 A2.out).mono ?_); (case s1 => exact au8_3); (case s2 => exact ax24_); rintro e w' ⟨rfl, ⟨nd, rfl⟩⟩; (try clear A2)) | (go_at_call 48; (with_reducible refine (F48.calls w0 ?s1 ?s2 A3.out).mono ?_); (case s1 => exact au8_3); (case s2 => exact ax24_); rintro e gI ⟨rfl, hi, hb, hk⟩; (try clear A3); replace au := ka_ hk au dB; replace aq := am_ (KeepBut.blk hk (g' := df) (o := .cells #[.int .i64 0, .slice none 0 0] 56 (0, 0)) (bq_ aq) cZ.out (by simp)); replace HK := am_ (KeepBut.trans ax39_ hk (.inl rfl)); replace HB := am_ (hb); replace ba := am_ (hi); clear hb hk hi))
 obtain ⟨nw, jl, ny, eh, jm, jn, jo, jp, jq, jr, js, jt⟩ := IsS80.op ba.out
 replace au := bd_ au
 replace aq := bd_ aq
 replace ba := am_ (IsS80.drew ba.out)
 replace HK := am_ (keep_drew HK.out)
 replace HB := am_ (below_drew1 HB.out)
 have lL : gI.drew.frozen? ⟨g, 1, none⟩ = false := js
 have lM : gI.drew.frozen? ⟨g, 6, none⟩ = false := jt
 have ju : gI.drew.cell? ⟨g, 0, none⟩ = some (.slice nw ak.length jl) := eh
 have jv : gI.drew.cell? ⟨g, 1, none⟩ = some (.int .i64 kx) := jm
 have jw : gI.drew.cell? ⟨g, 2, none⟩ = some (ay) := jn
 have jx : gI.drew.cell? ⟨g, 3, none⟩ = some (az) := jo
 have jy : gI.drew.cell? ⟨g, 4, none⟩ = some (aA) := jp
 have jz : gI.drew.cell? ⟨g, 5, none⟩ = some (aC) := jq
 have jA : gI.drew.cell? ⟨g, 6, none⟩ = some (.int .i64 Nf) := jr
 have BF : 0 ≤ (kx : Int) := od_
 have BG : kx < (ak.length : Int) := od_
 obtain ⟨te, yR, yS, Ts, jB, jC, tf, th⟩ := at_T49 ny kx BF BG
 have ti := jC
 have tj := jB
 cases Ts
 replace jB := pw_cell_below HB.out jB
 replace jC := pw_cell_below HB.out jC
 have tk := am_ th
 have BH := am_ tf
 clear th tf
 replace BF := eq_true BF
 replace BG := eq_true BG
 refine start_ (n := 16) (S := fun w' => w'.cell? ⟨g, 0, none⟩ = some (.slice (some te) ak.length jl) ∧ w'.cell? ⟨g, 1, none⟩ = some (.int .i64 kx) ∧ w'.cell? ⟨g, 2, none⟩ = some (ay) ∧ w'.cell? ⟨g, 3, none⟩ = some (az) ∧ w'.cell? ⟨g, 4, none⟩ = some (aA) ∧ w'.cell? ⟨g, 5, none⟩ = some (aC) ∧ w'.cell? ⟨g, 6, none⟩ = some (.int .i64 Nf) ∧ w'.cell? (te.add ((kx).toNat * 2)) = some (.string ((rd_T49 ak kx).f0)) ∧ w'.cell? ⟨(te.add ((kx).toNat * 2)).block, (te.add ((kx).toNat * 2)).off + 1, none⟩ = some (.slice yR ((rd_T49 ak kx).f1).length yS)) (ds := []) (bs 16 0) (by kernel_rfl) rfl rfl ⟨ju, jv, jw, jx, jy, jz, jA, (pw_cell_below HB.out tj), (pw_cell_below HB.out ti)⟩ (fun hHeld => ?_); refine with_tabW F87.tab4 F87.bits4 (fun HT_ HW_ => ?_)
 generalize gI.drew = EJ at lL lM ju jv jw jx jy jz jA au aq ba HK HB tk jB jC hHeld ⊢
 refine pq_ 0 HT_ ?_
 refine pq_ 1 HT_ ?_
 refine pq_ 2 HT_ ?_
 refine pq_ 4 HT_ ?_
 refine pq_ 5 HT_ ?_
 refine pq_ 6 HT_ ?_
 refine tq_ 3 HT_ HW_ hHeld rfl ax49_ ?_
 refine tq_ 7 HT_ HW_ hHeld rfl ax49_ ?_
 refine pq_ 8 HT_ ?_
 refine tq_ 9 HT_ HW_ hHeld rfl ax49_ ?_
 refine oq_ 10 HT_ (fun K hK => ?_)
 refine gr_ Tryz.func86 #[.agg #[.string ((rd_T49 ak kx).f0), .slice yR ((rd_T49 ak kx).f1).length yS], .int .i64 1] (by rfl) ?_ rfl rfl rfl
 with_reducible refine (F86.calls ?s1 ?s2 A7.out).mono ?_
 (case s1 => exact Kd.C_below tk.out ax24_)
 (case s2 => exact BH.out)
 rintro e Rc ⟨Tt, rfl, bf, hb⟩
 have gN := pw_cell_below hb (hHeld.1)
 have j8 := pw_cell_below hb (hHeld.2.1)
 have lE := pw_cell_below hb (hHeld.2.2.1)
 have lF := pw_cell_below hb (hHeld.2.2.2.1)
 have lG := pw_cell_below hb (hHeld.2.2.2.2.1)
 have lH := pw_cell_below hb (hHeld.2.2.2.2.2.1)
 have lI := pw_cell_below hb (hHeld.2.2.2.2.2.2.1)
 refine ⟨_, rfl, ?_⟩
 have ks := am_ (Kd.R_lower bf (keep_size (w := w) (g := g) (row := none) ax39_))
 replace au := bb_ au hb
 replace aq := bb_ aq hb
 replace HK := am_ (KeepBut.trans ax39_ (KeepBut.of_below hb g none) (.inl rfl))
 replace HB := am_ (below_step ax24_ hb)
 replace ba := am_ (IsS80.below ax31_ hb)
 (try clear hb)
 (try clear bf)
 refine hK.out _ _ ⟨gN, j8, lE, lF, lG, lH, lI, (pw_cell_below HB.out tj), (pw_cell_below HB.out ti)⟩ (fun hHeld => ?_)
 clear hK K
 refine no_ 26 ?_
 refine pq_ 11 HT_ ?_
 refine pq_ 12 HT_ ?_
 refine pq_ 13 HT_ ?_
 refine pq_ 14 HT_ ?_
 refine pq_ 15 HT_ ?_
 refine done_ (done_of HT_.out (by kernel_rfl)) ?_
 go_upto_region 5 with (fail)
 go_cut [38] (fun v38 wc => ∃ (kq : Nat) (yT : Bool) (eo : Int) (ep : Int), v38 = .bool yT ∧ Aside0 (F87.j0 kq eR yT ak eo ay az aA aC ep 0 = some (r1, r2, r3, r4, r5)) ∧ Aside0 (kq ≤ k) ∧ Aside0 (Kd.R (Kd.int .i64) 2 wc w.heap.size (fun _ => True) Tt eR) ∧ Aside0 (wc.heap[cC]? = some (.cells #[.int .i64 0, (.slice none 0 0)] 56 (0, 0))) ∧ Aside0 (wc.heap[df]? = some (.cells #[.int .i64 0, (.slice none 0 0)] 56 (0, 0))) ∧ Aside0 (IsS80 w0 wc g ak eo ay az aA aC ep) ∧ Aside0 (KeepBut w wc g none) ∧ Aside0 (Below w0.heap.size w0 wc))
 case first =>
  have H := Hp.out
  clear Hp
  replace H := ib_ H; rcases H with ⟨rfl, H⟩ | ⟨rfl, H⟩
  rotate_left
  ·replace H := bi_ H; rcases H with ⟨⟨Tu, Tv, Tw⟩, F0, H⟩
   have H' := am_ H
   clear H
   go_wp2_with (first | (go_at_call 48; (with_reducible refine (F48.calls w0 ?s1 ?s2 F0.out).mono ?_); (case s1 => exact au8_3); (case s2 => exact ax24_); rintro e wB ⟨rfl, hi, hb, hk⟩; (try clear F0); replace au := ka_ hk au dB; replace aq := ka_ hk aq cZ; replace ks := IsS80.kR hk ax31_ (rk_ ks); replace HK := am_ (KeepBut.trans ax39_ hk (.inl rfl)); replace HB := am_ (hb); replace ba := am_ (hi); clear hb hk hi))
   go_meet
   case rel => exact ⟨_, (!Tu), (Tv), (Tw), er_, H', ⟨ax10_⟩, ⟨rk_ ks⟩, ⟨bk_ au⟩, ⟨bk_ aq⟩, ⟨ax31_⟩, ⟨ax39_⟩, ⟨ax24_⟩⟩
  replace H := itn_ H; rcases H with ⟨c19b0, H⟩
  have c19b1 : decide (0 < eR.length) = true := n2_ c19b0
  (first | rw [c19b0] | (simp only [i64_w, i32_w]; rw [c19b0]) | skip)
  replace H := bi_ H; rcases H with ⟨t839, If, H⟩
  replace H := bi_ H; rcases H with ⟨⟨Tx, Ty, Tz⟩, AX, H⟩
  have H' := am_ H
  clear H
  obtain ⟨EP, EQ, ER⟩ := Kd.R_slice ks.out
  subst ER
  have Hq : 0 ≤ (0 : Int) := (by omega)
  have Hr : 0 < (eR.length : Int) := od_
  obtain ⟨WX, TA, tm⟩ := Kd.at_int (Kd.R_reads' ks.out).2.2 0 Hq Hr
  cases TA
  have WY : (0 < eR.length) = True := eq_true (by omega)
  (try rw [show ((0 : Int)).toNat = 0 from rfl] at tm)
  (try rw [Addr.add_zero'] at tm)
  replace Hq := eq_true Hq
  replace Hr := eq_true Hr
  go_wp2_with (first | (go_at_call 40; (with_reducible refine (F40.calls If.out).mono ?_); rintro e w' ⟨rfl, ⟨nd, rfl⟩⟩; (try clear If)) | (go_at_call 48; (with_reducible refine (F48.calls w0 ?s1 ?s2 AX.out).mono ?_); (case s1 => exact au8_3); (case s2 => exact ax24_); rintro e Ic ⟨rfl, hi, hb, hk⟩; (try clear AX); replace au := ka_ hk au dB; replace aq := ka_ hk aq cZ; replace ks := IsS80.kR hk ax31_ (rk_ ks); replace HK := am_ (KeepBut.trans ax39_ hk (.inl rfl)); replace HB := am_ (hb); replace ba := am_ (hi); clear hb hk hi))
  go_meet
  case rel => exact ⟨_, (!Tx), (Ty), (Tz), er_, H', ⟨ax10_⟩, ⟨rk_ ks⟩, ⟨bk_ au⟩, ⟨bk_ aq⟩, ⟨ax31_⟩, ⟨ax39_⟩, ⟨ax24_⟩⟩
 case rest =>
  clear Hp
  try clear c5b0
  try clear c6b0
  try clear ej
  try clear eh jm jn jo jp jq jr
  try clear js
  try clear jt
  try clear jB
  try clear jC
  try clear BF
  try clear BG
  obtain ⟨kq, yT, eo, ep, rfl, HA, Ew, qk, au, aq, ba, HK, HB⟩ := hcut
  cases kq with
  | zero => exact absurd HA.out (by simp [F87.j0])
  | succ No =>
   have H := HA.out
   clear HA
   simp only [F87.j0] at H
   replace H := ib_ H; rcases H with ⟨rfl, H⟩ | ⟨rfl, H⟩
   ·simp only [Option.some.injEq, Prod.mk.injEq] at H
    obtain ⟨rfl, rfl, rfl, rfl, rfl⟩ := H
    obtain ⟨WZ, W0⟩ := nn_ bO
    obtain ⟨nG, nH⟩ := nn_ cZ
    have kz := cellsF2 aq.out
    obtain ⟨W3, W5⟩ := nn_ dB
    have BE := cellsF2 au.out
    go_wp2
    refine bodyPost_ret (results_ct rfl _ _ cC 56 #[.int .i64 0, .slice none 0 0] (0, 0) _ rfl (bq_ au) Tryz.underlying56 rfl (by kernel_rfl)) rfl ?_
    exact ⟨_, ax11_, ax8_, ax31_, ax24_, ax39_⟩
   replace H := itn_ H; rcases H with ⟨c32b0, H⟩
   have c32b1 : decide (0 < eR.length) = true := n2_ c32b0
   have H' := am_ H
   clear H
   obtain ⟨EX, EY, EZ⟩ := Kd.R_slice qk.out
   subst EZ
   have BI : 0 ≤ (0 : Int) := (by omega)
   have BJ : 0 < (eR.length : Int) := od_
   obtain ⟨W6, TC, nz⟩ := Kd.at_int (Kd.R_reads' qk.out).2.2 0 BI BJ
   cases TC
   have W7 : (0 < eR.length) = True := eq_true (by omega)
   (try rw [show ((0 : Int)).toNat = 0 from rfl] at nz)
   (try rw [Addr.add_zero'] at nz)
   replace BI := eq_true BI
   replace BJ := eq_true BJ
   obtain ⟨MR, MS⟩ := nn_ bO
   obtain ⟨K4, K5⟩ := nn_ cZ
   have mv := cellsF2 aq.out
   obtain ⟨PC, PD, PE, sl, BL, BM, BN, BO, BP, BQ, BR, BS⟩ := IsS80.op ba.out
   go_wp2
   go_loopg [] No (fun kq w' => ∃ (ci : Int) (cj : Int) (eA : Int) (bj : List (S49)) (dj : Value), Aside0 (F87.l0 kq ak ci ay az aA aC cj (rd eR 0) bj = some (r1, r2, r3, r4, r5)) ∧ Aside0 (kq ≤ No) ∧ Aside0 (Kd.S k49 49 w' w.heap.size (fun _ => True) dj bj) ∧ Aside0 (w'.heap[cC]? = some (.cells #[.int .i64 eA, (.slice none 0 0)] 56 (0, 0))) ∧ Aside0 (w'.heap[df]? = some (.cells #[.int .i64 (rd eR 0), dj] 56 (0, 0))) ∧ Aside0 (IsS80 w0 w' g ak ci ay az aA aC cj) ∧ Aside0 (KeepBut w w' g none) ∧ Aside0 (Below w0.heap.size w0 w'))
   case atStart => exact ⟨(wrap64 (eo + 1)), (ep), (0), (([] : List (S49))), (.slice none 0 0), H', ⟨Nat.le_refl _⟩, ⟨ax8_⟩, ⟨bf_ au⟩, ⟨bq_ aq⟩, ⟨ax31_⟩, ⟨ax39_⟩, ⟨ax24_⟩⟩
   case round =>
    clear H'
    try clear c32b0
    try clear c32b1
    try clear mv
    try clear sl BL BM BN BO BP BQ
    try clear BR
    try clear BS
    try clear nz
    try clear BI
    try clear BJ
    obtain ⟨ci, cj, eA, bj, dj, HA, HK2, an, au, aq, ba, HK, HB⟩ := hrel
    cases gk with
    | zero => exact absurd HA.out (by simp [F87.l0])
    | succ k2 =>
     have H := HA.out
     clear HA
     simp only [F87.l0] at H
     have Hs := am_ H
     clear H
     go_upto_region 9 with (fail)
     go_cut [67] (fun v67 wc => ∃ (kq : Nat) (ql : Bool) (aN : Int) (eS : Int), v67 = .bool ql ∧ Aside0 (F87.j2 kq ql ak aN ay az aA aC eS (rd eR 0) bj = some (r1, r2, r3, r4, r5)) ∧ Aside0 (kq ≤ k2) ∧ Aside0 (Kd.S k49 49 wc w.heap.size (fun _ => True) dj bj) ∧ Aside0 (wc.heap[cC]? = some (.cells #[.int .i64 eA, (.slice none 0 0)] 56 (0, 0))) ∧ Aside0 (wc.heap[df]? = some (.cells #[.int .i64 (rd eR 0), dj] 56 (0, 0))) ∧ Aside0 (IsS80 w0 wc g ak aN ay az aA aC eS) ∧ Aside0 (KeepBut w wc g none) ∧ Aside0 (Below w0.heap.size w0 wc))
     case first =>
      have H := Hs.out
      clear Hs
      replace H := it_ H; rcases H with ⟨c39b0, H⟩ | ⟨c39b0, H⟩
      rotate_left
      ·(first | rw [c39b0] | (simp only [i64_w, i32_w]; rw [c39b0]) | skip)
       have H' := am_ H
       clear H
       try go_wp2
       obtain ⟨tn, tq, PF, m7, BT, BU, BV, BW, BX, BY, BZ, B0⟩ := IsS80.op ba.out
       replace an := am_ (Kd.S_drew an.out)
       replace au := bd_ au
       replace aq := bd_ aq
       replace ba := am_ (IsS80.drew ba.out)
       replace HK := am_ (keep_drew HK.out)
       replace HB := am_ (below_drew1 HB.out)
       have yU : wr.drew.frozen? ⟨g, 1, none⟩ = false := BZ
       have yV : wr.drew.frozen? ⟨g, 6, none⟩ = false := B0
       have tr : wr.drew.cell? ⟨g, 0, none⟩ = some (.slice tn ak.length tq) := m7
       have tu : wr.drew.cell? ⟨g, 1, none⟩ = some (.int .i64 ci) := BT
       have tv : wr.drew.cell? ⟨g, 2, none⟩ = some (ay) := BU
       have tw : wr.drew.cell? ⟨g, 3, none⟩ = some (az) := BV
       have tz : wr.drew.cell? ⟨g, 4, none⟩ = some (aA) := BW
       have tA : wr.drew.cell? ⟨g, 5, none⟩ = some (aC) := BX
       have tB : wr.drew.cell? ⟨g, 6, none⟩ = some (.int .i64 cj) := BY
       refine start_ (n := 16) (S := fun w' => w'.cell? ⟨g, 0, none⟩ = some (.slice tn ak.length tq) ∧ w'.cell? ⟨g, 1, none⟩ = some (.int .i64 ci) ∧ w'.cell? ⟨g, 2, none⟩ = some (ay) ∧ w'.cell? ⟨g, 3, none⟩ = some (az) ∧ w'.cell? ⟨g, 4, none⟩ = some (aA) ∧ w'.cell? ⟨g, 5, none⟩ = some (aC) ∧ w'.cell? ⟨g, 6, none⟩ = some (.int .i64 cj)) (ds := []) (bs 16 0) (by kernel_rfl) rfl rfl ⟨tr, tu, tv, tw, tz, tA, tB⟩ (fun hHeld => ?_); refine with_tabW F87.tab9 F87.bits9 (fun HT_ HW_ => ?_)
       generalize wr.drew = Vs at yU yV tr tu tv tw tz tA tB an au aq ba HK HB hHeld ⊢
       refine pq_ 0 HT_ ?_
       refine pq_ 1 HT_ ?_
       refine pq_ 2 HT_ ?_
       refine pq_ 4 HT_ ?_
       refine pq_ 5 HT_ ?_
       refine pq_ 6 HT_ ?_
       refine tq_ 3 HT_ HW_ hHeld rfl ax50_ ?_
       refine tq_ 7 HT_ HW_ hHeld rfl ax50_ ?_
       refine pq_ 8 HT_ ?_
       refine pq_ 9 HT_ ?_
       refine pq_ 10 HT_ ?_
       refine vq_ 11 HT_ ?_
       refine vq_ 12 HT_ ?_
       refine vq_ 13 HT_ ?_
       refine vq_ 14 HT_ ?_
       refine pq_ 15 HT_ ?_
       refine done_ (done_of HT_.out (by kernel_rfl)) ?_
       try go_wp2
       go_meet
       case rel => exact ⟨_, (false), (ci), (cj), er_, H', ⟨ax13_⟩, ⟨ax3_⟩, ⟨bk_ au⟩, ⟨bk_ aq⟩, ⟨ax31_⟩, ⟨ax39_⟩, ⟨ax24_⟩⟩
      (first | rw [c39b0] | (simp only [i64_w, i32_w]; rw [c39b0]) | skip)
      replace H := bi_ H; rcases H with ⟨Hn, On, H⟩
      replace H := bi_ H; rcases H with ⟨Ho, A41, H⟩
      have H' := am_ H
      clear H
      try go_wp2
      obtain ⟨tC, tD, PG, Ca, Cb, Cc, Cd, Ce, Cf, Cg, Ch, Ci⟩ := IsS80.op ba.out
      replace an := am_ (Kd.S_drew an.out)
      replace au := bd_ au
      replace aq := bd_ aq
      replace ba := am_ (IsS80.drew ba.out)
      replace HK := am_ (keep_drew HK.out)
      replace HB := am_ (below_drew1 HB.out)
      have yW : wr.drew.frozen? ⟨g, 1, none⟩ = false := Ch
      have yX : wr.drew.frozen? ⟨g, 6, none⟩ = false := Ci
      have tE : wr.drew.cell? ⟨g, 0, none⟩ = some (.slice tC ak.length tD) := Ca
      have tF : wr.drew.cell? ⟨g, 1, none⟩ = some (.int .i64 ci) := Cb
      have tG : wr.drew.cell? ⟨g, 2, none⟩ = some (ay) := Cc
      have tH : wr.drew.cell? ⟨g, 3, none⟩ = some (az) := Cd
      have tI : wr.drew.cell? ⟨g, 4, none⟩ = some (aA) := Ce
      have tJ : wr.drew.cell? ⟨g, 5, none⟩ = some (aC) := Cf
      have tK : wr.drew.cell? ⟨g, 6, none⟩ = some (.int .i64 cj) := Cg
      refine start_ (n := 16) (S := fun w' => w'.cell? ⟨g, 0, none⟩ = some (.slice tC ak.length tD) ∧ w'.cell? ⟨g, 1, none⟩ = some (.int .i64 ci) ∧ w'.cell? ⟨g, 2, none⟩ = some (ay) ∧ w'.cell? ⟨g, 3, none⟩ = some (az) ∧ w'.cell? ⟨g, 4, none⟩ = some (aA) ∧ w'.cell? ⟨g, 5, none⟩ = some (aC) ∧ w'.cell? ⟨g, 6, none⟩ = some (.int .i64 cj)) (ds := []) (bs 16 0) (by kernel_rfl) rfl rfl ⟨tE, tF, tG, tH, tI, tJ, tK⟩ (fun hHeld => ?_); refine with_tabW F87.tab9 F87.bits9 (fun HT_ HW_ => ?_)
      generalize wr.drew = w43 at yW yX tE tF tG tH tI tJ tK an au aq ba HK HB hHeld ⊢
      refine pq_ 0 HT_ ?_
      refine pq_ 1 HT_ ?_
      refine pq_ 2 HT_ ?_
      refine pq_ 4 HT_ ?_
      refine pq_ 5 HT_ ?_
      refine pq_ 6 HT_ ?_
      refine tq_ 3 HT_ HW_ hHeld rfl ax50_ ?_
      refine tq_ 7 HT_ HW_ hHeld rfl ax50_ ?_
      refine pq_ 8 HT_ ?_
      refine pq_ 9 HT_ ?_
      refine pq_ 10 HT_ ?_
      refine pq_ 11 HT_ ?_
      refine oq_ 12 HT_ (fun K hK => ?_)
      refine gr_ Tryz.func47 #[.pointer (some ⟨g, 0, none⟩)] (by rfl) ?_ rfl rfl rfl
      with_reducible refine (F47.calls w0 ?s1 ?s2 On.out).mono ?_
      (case s1 => exact au8_3)
      (case s2 => exact ax24_)
      rintro e w' ⟨rfl, ⟨nd, rfl⟩⟩
      refine ⟨_, rfl, ?_⟩
      refine hK.out _ _ ⟨hHeld.1, hHeld.2.1, hHeld.2.2.1, hHeld.2.2.2.1, hHeld.2.2.2.2.1, hHeld.2.2.2.2.2.1, hHeld.2.2.2.2.2.2⟩ (fun hHeld => ?_)
      clear hK K
      refine no_ 64 ?_
      refine oq_ 13 HT_ (fun K hK => ?_)
      refine gr_ Tryz.func42 #[.string Hn] (by rfl) ?_ rfl rfl rfl
      with_reducible refine (F42.calls A41.out).mono ?_
      rintro e w' ⟨rfl, ⟨nd, rfl⟩⟩
      refine ⟨_, rfl, ?_⟩
      refine hK.out _ _ ⟨hHeld.1, hHeld.2.1, hHeld.2.2.1, hHeld.2.2.2.1, hHeld.2.2.2.2.1, hHeld.2.2.2.2.2.1, hHeld.2.2.2.2.2.2⟩ (fun hHeld => ?_)
      clear hK K
      refine no_ 65 ?_
      refine pq_ 14 HT_ ?_
      refine pq_ 15 HT_ ?_
      refine done_ (done_of HT_.out (by kernel_rfl)) ?_
      try go_wp2
      go_meet
      case rel => exact ⟨_, (!Ho), (ci), (cj), er_, H', ⟨ax13_⟩, ⟨ax3_⟩, ⟨bk_ au⟩, ⟨bk_ aq⟩, ⟨ax31_⟩, ⟨ax39_⟩, ⟨ax24_⟩⟩
     case rest =>
      clear Hs
      obtain ⟨kq, ql, aN, eS, rfl, HA, GW, an, au, aq, ba, HK, HB⟩ := hcut
      cases kq with
      | zero => exact absurd HA.out (by simp [F87.j2])
      | succ TD =>
       have H := HA.out
       clear HA
       simp only [F87.j2] at H
       replace H := ib_ H; rcases H with ⟨rfl, H⟩ | ⟨rfl, H⟩
       rotate_left
       ·replace H := bi_ H; rcases H with ⟨⟨a0A, a0B, a0C⟩, A82, H⟩
        simp only [Option.some.injEq, Prod.mk.injEq] at H
        obtain ⟨rfl, rfl, rfl, rfl, rfl⟩ := H
        try go_wp2
        replace an := am_ (Kd.S_drew an.out)
        replace au := bd_ au
        replace aq := bd_ aq
        replace ba := am_ (IsS80.drew ba.out)
        replace HK := am_ (keep_drew HK.out)
        replace HB := am_ (below_drew1 HB.out)
        obtain ⟨wY, wZ, xa⟩ := Kd.S_slice an.out
        (first | subst xa | (injection xa with b9 dT cd; have dU := b9.symm; have dV := cd.symm; clear b9 dT cd; subst dU; subst dV))
        refine start_ (n := 10) (S := fun w' => w'.cell? ⟨df, 0, none⟩ = some (.int .i64 (rd eR 0)) ∧ w'.cell? ⟨df, 1, none⟩ = some (.slice wY bj.length wZ)) (ds := []) (bs 10 0) (by kernel_rfl) rfl rfl ⟨(blk_cell aq.out 0).trans rfl, (blk_cell aq.out 1).trans rfl⟩ (fun hHeld => ?_); refine with_tabW F87.tab14 F87.bits14 (fun HT_ HW_ => ?_)
        generalize wc.drew = Ys at an au aq ba HK HB hHeld ⊢
        refine pq_ 1 HT_ ?_
        refine pq_ 2 HT_ ?_
        refine pq_ 5 HT_ ?_
        refine tq_ 0 HT_ HW_ hHeld rfl ax55_ ?_
        refine tq_ 3 HT_ HW_ hHeld rfl ax55_ ?_
        refine pq_ 4 HT_ ?_
        refine tq_ 6 HT_ HW_ hHeld rfl ax55_ ?_
        refine oq_ 7 HT_ (fun K hK => ?_)
        refine gr_ Tryz.func50 #[.pointer (some ⟨g, 0, none⟩), .string (⟨#[77, 83, 84]⟩ : ByteArray), .int .i64 (bj.length : Int), .int .i64 (rd eR 0)] (by rfl) ?_ rfl rfl rfl
        with_reducible refine (F50.calls w0 ?s1 ?s2 A82.out).mono ?_
        (case s1 => exact au8_3)
        (case s2 => exact ax24_)
        rintro e W8 ⟨rfl, hi, hb, hk⟩
        refine ⟨_, rfl, ?_⟩
        replace an := IsS80.kS hk ax31_ ax3_
        replace au := ka_ hk au dB
        replace aq := ka_ hk aq cZ
        replace HK := am_ (KeepBut.trans ax39_ hk (.inl rfl))
        replace HB := am_ (hb)
        replace ba := am_ (hi)
        (try clear hb)
        (try clear hk)
        (try clear hi)
        refine hK.out _ _ ⟨(blk_cell aq.out 0).trans rfl, (blk_cell aq.out 1).trans rfl⟩ (fun hHeld => ?_)
        clear hK K
        refine no_ 120 ?_
        refine oq_ 8 HT_ (fun K hK => ?_)
        have a0E : W8.cell? ⟨cC, 0, none⟩ = some (.int .i64 eA) := (blk_cell au.out 0).trans rfl
        have W9 := blk_frozen au.out 0
        obtain ⟨PH, PI⟩ := nn_ bO
        have a0F : W8.cell? ⟨cC, 1, none⟩ = some (.slice none 0 0) := (blk_cell au.out 1).trans rfl
        have Xa := blk_frozen au.out 1
        obtain ⟨PJ, PM⟩ := nn_ bO
        refine skip_ (w1 := ?_) (by rfl) rfl ?_ ?_
        rotate_left
        ·go_simp
         rfl
        refine hK.out _ _ ⟨((cell_far (p := ⟨cC, _, none⟩) bO.out _).trans (((cell_far (p := ⟨cC, _, none⟩) bO.out _).trans (hHeld.1)))), ((cell_far (p := ⟨cC, _, none⟩) bO.out _).trans (((cell_far (p := ⟨cC, _, none⟩) bO.out _).trans (hHeld.2))))⟩ (fun hHeld => ?_)
        clear hK K
        refine pq_ 9 HT_ ?_
        refine done_ (done_of HT_.out (by kernel_rfl)) ?_
        try go_wp2
        refine bodyPost_ret (results_ct rfl _ _ cC 56 #[.int .i64 (rd eR 0), .slice wY bj.length wZ] (0, 0) _ rfl (bq_ au) Tryz.underlying56 rfl (by kernel_rfl)) rfl ?_
        exact ⟨_, ax11_, by (with_reducible repeat (first | apply Kd.S_alloc | apply Kd.S_drewN | apply Kd.S_drew)); exact Kd.S_mono (Kd.S_far (p := ⟨cC, 1, none⟩) (Kd.S_far (p := ⟨cC, 0, none⟩) (Kd.S_types an.out au.out (by decide)) (fun _ hk => hk.2) (.int .i64 (rd eR 0))) (fun _ hk => hk.2) (.slice wY bj.length wZ)) (fun _ hk => trivial), ax31_, ax24_, ax39_⟩
       have Ht := am_ H
       clear H
       go_upto_region 10 with (fail)
       go_cut [87] (fun v87 wc => ∃ (kq : Nat) (qm : Bool) (bz : Int) (fq : Int), v87 = .bool qm ∧ Aside0 (F87.j3 kq qm ak bz ay az aA aC fq (rd eR 0) bj = some (r1, r2, r3, r4, r5)) ∧ Aside0 (kq ≤ TD) ∧ Aside0 (Kd.S k49 49 wc w.heap.size (fun _ => True) dj bj) ∧ Aside0 (wc.heap[cC]? = some (.cells #[.int .i64 eA, (.slice none 0 0)] 56 (0, 0))) ∧ Aside0 (wc.heap[df]? = some (.cells #[.int .i64 (rd eR 0), dj] 56 (0, 0))) ∧ Aside0 (IsS80 w0 wc g ak bz ay az aA aC fq) ∧ Aside0 (KeepBut w wc g none) ∧ Aside0 (Below w0.heap.size w0 wc))
       case first =>
        have H := Ht.out
        clear Ht
        replace H := itn_ H; rcases H with ⟨c48b0, H⟩
        (first | rw [c48b0] | (simp only [i64_w, i32_w]; rw [c48b0]) | skip)
        replace H := itn_ H; rcases H with ⟨c49b0, H⟩
        replace H := bi_ H; rcases H with ⟨Nc, Xb, H⟩
        replace H := ib_ H; rcases H with ⟨rfl, H⟩ | ⟨rfl, H⟩
        rotate_left
        ·replace H := bi_ H; rcases H with ⟨⟨TE, TF, TG⟩, A58, H⟩
         have H' := am_ H
         clear H
         try go_wp2
         obtain ⟨Cj, tL, Ck, rm, Cl, Cm, Cn, Co, Cp, Cq, Cr, Cs⟩ := IsS80.op ba.out
         replace an := am_ (Kd.S_drew an.out)
         replace au := bd_ au
         replace aq := bd_ aq
         replace ba := am_ (IsS80.drew ba.out)
         replace HK := am_ (keep_drew HK.out)
         replace HB := am_ (below_drew1 HB.out)
         have yY : wc.drew.frozen? ⟨g, 1, none⟩ = false := Cr
         have yZ : wc.drew.frozen? ⟨g, 6, none⟩ = false := Cs
         have tM : wc.drew.cell? ⟨g, 0, none⟩ = some (.slice Cj ak.length tL) := rm
         have tN : wc.drew.cell? ⟨g, 1, none⟩ = some (.int .i64 aN) := Cl
         have tO : wc.drew.cell? ⟨g, 2, none⟩ = some (ay) := Cm
         have tP : wc.drew.cell? ⟨g, 3, none⟩ = some (az) := Cn
         have tQ : wc.drew.cell? ⟨g, 4, none⟩ = some (aA) := Co
         have tR : wc.drew.cell? ⟨g, 5, none⟩ = some (aC) := Cp
         have tS : wc.drew.cell? ⟨g, 6, none⟩ = some (.int .i64 eS) := Cq
         have qn : 0 ≤ (aN : Int) := od_
         have qo : aN < (ak.length : Int) := od_
         obtain ⟨jD, lN, lO, Hu, et, eu, jE, jF⟩ := at_T49 Ck aN qn qo
         have jG := eu
         have jH := et
         cases Hu
         replace et := pw_cell_below HB.out et
         replace eu := pw_cell_below HB.out eu
         have jI := am_ jF
         have nC := am_ jE
         clear jF jE
         replace qn := eq_true qn
         replace qo := eq_true qo
         refine start_ (n := 20) (S := fun w' => w'.cell? ⟨g, 0, none⟩ = some (.slice (some jD) ak.length tL) ∧ w'.cell? ⟨g, 1, none⟩ = some (.int .i64 aN) ∧ w'.cell? ⟨g, 2, none⟩ = some (ay) ∧ w'.cell? ⟨g, 3, none⟩ = some (az) ∧ w'.cell? ⟨g, 4, none⟩ = some (aA) ∧ w'.cell? ⟨g, 5, none⟩ = some (aC) ∧ w'.cell? ⟨g, 6, none⟩ = some (.int .i64 eS) ∧ w'.cell? (jD.add ((aN).toNat * 2)) = some (.string ((rd_T49 ak aN).f0)) ∧ w'.cell? ⟨(jD.add ((aN).toNat * 2)).block, (jD.add ((aN).toNat * 2)).off + 1, none⟩ = some (.slice lN ((rd_T49 ak aN).f1).length lO)) (ds := [18]) (bs 20 0) (by kernel_rfl) rfl rfl ⟨tM, tN, tO, tP, tQ, tR, tS, (pw_cell_below HB.out jH), (pw_cell_below HB.out jG)⟩ (fun hHeld => ?_); refine with_tabW F87.tab10 F87.bits10 (fun HT_ HW_ => ?_)
         generalize wc.drew = Yz at yY yZ tM tN tO tP tQ tR tS an au aq ba HK HB jI et eu hHeld ⊢
         refine pq_ 0 HT_ ?_
         refine pq_ 1 HT_ ?_
         refine pq_ 2 HT_ ?_
         refine pq_ 3 HT_ ?_
         refine pq_ 5 HT_ ?_
         refine pq_ 6 HT_ ?_
         refine pq_ 7 HT_ ?_
         refine tq_ 4 HT_ HW_ hHeld rfl ax49_ ?_
         refine tq_ 8 HT_ HW_ hHeld rfl ax49_ ?_
         refine pq_ 9 HT_ ?_
         refine tq_ 10 HT_ HW_ hHeld rfl ax49_ ?_
         refine oq_ 11 HT_ (fun K hK => ?_)
         refine gr_ Tryz.func41 #[.agg #[.string ((rd_T49 ak aN).f0), .slice lN ((rd_T49 ak aN).f1).length lO]] (by rfl) ?_ rfl rfl rfl
         with_reducible refine (F41.calls ?s1 ?s2 Xb.out).mono ?_
         (case s1 => exact Kd.C_below jI.out ax24_)
         (case s2 => exact nC.out)
         rintro e U6 ⟨rfl, hb⟩
         have gN := pw_cell_below hb (hHeld.1)
         have j8 := pw_cell_below hb (hHeld.2.1)
         have lE := pw_cell_below hb (hHeld.2.2.1)
         have lF := pw_cell_below hb (hHeld.2.2.2.1)
         have lG := pw_cell_below hb (hHeld.2.2.2.2.1)
         have lH := pw_cell_below hb (hHeld.2.2.2.2.2.1)
         have lI := pw_cell_below hb (hHeld.2.2.2.2.2.2.1)
         refine ⟨_, rfl, ?_⟩
         replace an := am_ (Kd.S_below ax3_ hb)
         replace au := bb_ au hb
         replace aq := bb_ aq hb
         replace HK := am_ (KeepBut.trans ax39_ (KeepBut.of_below hb g none) (.inl rfl))
         replace HB := am_ (below_step ax24_ hb)
         replace ba := am_ (IsS80.below ax31_ hb)
         (try clear hb)
         refine hK.out _ _ ⟨gN, j8, lE, lF, lG, lH, lI, (pw_cell_below HB.out jH), (pw_cell_below HB.out jG)⟩ (fun hHeld => ?_)
         clear hK K
         refine no_ 79 ?_
         refine pq_ 12 HT_ ?_
         refine vq_ 13 HT_ ?_
         refine vq_ 14 HT_ ?_
         refine vq_ 15 HT_ ?_
         refine vq_ 16 HT_ ?_
         refine pq_ 17 HT_ ?_
         refine lq_ 18 HT_ (fun K hK => ?_)
         refine gr_ Tryz.func48 #[.pointer (some ⟨g, 0, none⟩), .bool false, .int .i64 3] (by rfl) ?_ rfl rfl rfl
         with_reducible refine (F48.calls w0 ?s1 ?s2 A58.out).mono ?_
         (case s1 => exact au8_3)
         (case s2 => exact ax24_)
         rintro e w62 ⟨rfl, hi, hb, hk⟩
         refine ⟨_, rfl, ?_⟩
         replace an := IsS80.kS hk ax31_ ax3_
         replace au := ka_ hk au dB
         replace aq := ka_ hk aq cZ
         replace HK := am_ (KeepBut.trans ax39_ hk (.inl rfl))
         replace HB := am_ (hb)
         replace ba := am_ (hi)
         (try clear hb)
         (try clear hk)
         (try clear hi)
         refine hK.out _ _ ?_
         clear hK K
         refine no_ 86 ?_
         refine pq_ 19 HT_ ?_
         refine done_ (done_of HT_.out (by kernel_rfl)) ?_
         try go_wp2
         go_meet
         case rel => exact ⟨_, (!TE), (TF), (TG), er_, H', ⟨au8_27⟩, ⟨ax3_⟩, ⟨bk_ au⟩, ⟨bk_ aq⟩, ⟨ax31_⟩, ⟨ax39_⟩, ⟨ax24_⟩⟩
        replace H := bi_ H; rcases H with ⟨⟨TH, TI, TJ⟩, A52, H⟩
        have H' := am_ H
        clear H
        try go_wp2
        obtain ⟨Ct, tT, Cu, rJ, Cv, Cw, Cx, Cy, Cz, CA, CB, CC⟩ := IsS80.op ba.out
        replace an := am_ (Kd.S_drew an.out)
        replace au := bd_ au
        replace aq := bd_ aq
        replace ba := am_ (IsS80.drew ba.out)
        replace HK := am_ (keep_drew HK.out)
        replace HB := am_ (below_drew1 HB.out)
        have za : wc.drew.frozen? ⟨g, 1, none⟩ = false := CB
        have zb : wc.drew.frozen? ⟨g, 6, none⟩ = false := CC
        have tU : wc.drew.cell? ⟨g, 0, none⟩ = some (.slice Ct ak.length tT) := rJ
        have tV : wc.drew.cell? ⟨g, 1, none⟩ = some (.int .i64 aN) := Cv
        have tW : wc.drew.cell? ⟨g, 2, none⟩ = some (ay) := Cw
        have tX : wc.drew.cell? ⟨g, 3, none⟩ = some (az) := Cx
        have tY : wc.drew.cell? ⟨g, 4, none⟩ = some (aA) := Cy
        have tZ : wc.drew.cell? ⟨g, 5, none⟩ = some (aC) := Cz
        have t6 : wc.drew.cell? ⟨g, 6, none⟩ = some (.int .i64 eS) := CA
        have qn : 0 ≤ (aN : Int) := od_
        have qo : aN < (ak.length : Int) := od_
        obtain ⟨jD, lN, lO, Hu, et, eu, jE, jF⟩ := at_T49 Cu aN qn qo
        have jG := eu
        have jH := et
        cases Hu
        replace et := pw_cell_below HB.out et
        replace eu := pw_cell_below HB.out eu
        have jI := am_ jF
        have nC := am_ jE
        clear jF jE
        replace qn := eq_true qn
        replace qo := eq_true qo
        refine start_ (n := 20) (S := fun w' => w'.cell? ⟨g, 0, none⟩ = some (.slice (some jD) ak.length tT) ∧ w'.cell? ⟨g, 1, none⟩ = some (.int .i64 aN) ∧ w'.cell? ⟨g, 2, none⟩ = some (ay) ∧ w'.cell? ⟨g, 3, none⟩ = some (az) ∧ w'.cell? ⟨g, 4, none⟩ = some (aA) ∧ w'.cell? ⟨g, 5, none⟩ = some (aC) ∧ w'.cell? ⟨g, 6, none⟩ = some (.int .i64 eS) ∧ w'.cell? ⟨df, 0, none⟩ = some (.int .i64 (rd eR 0)) ∧ w'.cell? ⟨df, 1, none⟩ = some (dj) ∧ w'.cell? (jD.add ((aN).toNat * 2)) = some (.string ((rd_T49 ak aN).f0)) ∧ w'.cell? ⟨(jD.add ((aN).toNat * 2)).block, (jD.add ((aN).toNat * 2)).off + 1, none⟩ = some (.slice lN ((rd_T49 ak aN).f1).length lO)) (ds := [18]) (bs 20 0) (by kernel_rfl) rfl rfl ⟨tU, tV, tW, tX, tY, tZ, t6, (blk_cell aq.out 0).trans rfl, (blk_cell aq.out 1).trans rfl, (pw_cell_below HB.out jH), (pw_cell_below HB.out jG)⟩ (fun hHeld => ?_); refine with_tabW F87.tab10 F87.bits10 (fun HT_ HW_ => ?_)
        generalize wc.drew = w54 at za zb tU tV tW tX tY tZ t6 an au aq ba HK HB jI et eu hHeld ⊢
        refine pq_ 0 HT_ ?_
        refine pq_ 1 HT_ ?_
        refine pq_ 2 HT_ ?_
        refine pq_ 3 HT_ ?_
        refine pq_ 5 HT_ ?_
        refine pq_ 6 HT_ ?_
        refine pq_ 7 HT_ ?_
        refine tq_ 4 HT_ HW_ hHeld rfl au8_15 ?_
        refine tq_ 8 HT_ HW_ hHeld rfl au8_15 ?_
        refine pq_ 9 HT_ ?_
        refine tq_ 10 HT_ HW_ hHeld rfl au8_15 ?_
        refine oq_ 11 HT_ (fun K hK => ?_)
        refine gr_ Tryz.func41 #[.agg #[.string ((rd_T49 ak aN).f0), .slice lN ((rd_T49 ak aN).f1).length lO]] (by rfl) ?_ rfl rfl rfl
        with_reducible refine (F41.calls ?s1 ?s2 Xb.out).mono ?_
        (case s1 => exact Kd.C_below jI.out ax24_)
        (case s2 => exact nC.out)
        rintro e w55 ⟨rfl, hb⟩
        have gN := pw_cell_below hb (hHeld.1)
        have j8 := pw_cell_below hb (hHeld.2.1)
        have lE := pw_cell_below hb (hHeld.2.2.1)
        have lF := pw_cell_below hb (hHeld.2.2.2.1)
        have lG := pw_cell_below hb (hHeld.2.2.2.2.1)
        have lH := pw_cell_below hb (hHeld.2.2.2.2.2.1)
        have lI := pw_cell_below hb (hHeld.2.2.2.2.2.2.1)
        refine ⟨_, rfl, ?_⟩
        replace an := am_ (Kd.S_below ax3_ hb)
        replace au := bb_ au hb
        replace aq := bb_ aq hb
        replace HK := am_ (KeepBut.trans ax39_ (KeepBut.of_below hb g none) (.inl rfl))
        replace HB := am_ (below_step ax24_ hb)
        replace ba := am_ (IsS80.below ax31_ hb)
        (try clear hb)
        obtain ⟨a0J, a0K, Np⟩ := Kd.S_slice an.out
        (first | subst Np | (injection Np with b9 dT cd; have dU := b9.symm; have dV := cd.symm; clear b9 dT cd; subst dU; subst dV))
        refine hK.out _ _ ⟨gN, j8, lE, lF, lG, lH, lI, (blk_cell aq.out 0).trans rfl, (blk_cell aq.out 1).trans rfl, (pw_cell_below HB.out jH), (pw_cell_below HB.out jG)⟩ (fun hHeld => ?_)
        clear hK K
        refine no_ 79 ?_
        refine pq_ 12 HT_ ?_
        refine pq_ 13 HT_ ?_
        refine tq_ 14 HT_ HW_ hHeld rfl au8_15 ?_
        refine pq_ 15 HT_ ?_
        refine pq_ 16 HT_ ?_
        refine pq_ 17 HT_ ?_
        refine lq_ 18 HT_ (fun K hK => ?_)
        refine gr_ Tryz.func48 #[.pointer (some ⟨g, 0, none⟩), .bool (decide ((bj.length : Int) < 40)), .int .i64 3] (by rfl) ?_ rfl rfl rfl
        with_reducible refine (F48.calls w0 ?s1 ?s2 A52.out).mono ?_
        (case s1 => exact au8_3)
        (case s2 => exact ax24_)
        rintro e Yy ⟨rfl, hi, hb, hk⟩
        refine ⟨_, rfl, ?_⟩
        replace an := IsS80.kS hk ax31_ ax3_
        replace au := ka_ hk au dB
        replace aq := ka_ hk aq cZ
        replace HK := am_ (KeepBut.trans ax39_ hk (.inl rfl))
        replace HB := am_ (hb)
        replace ba := am_ (hi)
        (try clear hb)
        (try clear hk)
        (try clear hi)
        refine hK.out _ _ ?_
        clear hK K
        refine no_ 86 ?_
        refine pq_ 19 HT_ ?_
        refine done_ (done_of HT_.out (by kernel_rfl)) ?_
        try go_wp2
        go_meet
        case rel => exact ⟨_, (!TH), (TI), (TJ), er_, H', ⟨au8_27⟩, ⟨ax3_⟩, ⟨bk_ au⟩, ⟨bk_ aq⟩, ⟨ax31_⟩, ⟨ax39_⟩, ⟨ax24_⟩⟩
       case rest =>
        clear Ht
        obtain ⟨kq, qm, bz, fq, rfl, HA, Nq, an, au, aq, ba, HK, HB⟩ := hcut
        cases kq with
        | zero => exact absurd HA.out (by simp [F87.j3])
        | succ Nr =>
         have H := HA.out
         clear HA
         simp only [F87.j3] at H
         replace H := ib_ H; rcases H with ⟨rfl, H⟩ | ⟨rfl, H⟩
         ·simp only [Option.some.injEq, Prod.mk.injEq] at H
          obtain ⟨rfl, rfl, rfl, rfl, rfl⟩ := H
          obtain ⟨Le, Lf⟩ := nn_ bO
          obtain ⟨DR, DS⟩ := nn_ cZ
          have AN := cellsF2 aq.out
          obtain ⟨Xc, Xe⟩ := nn_ dB
          have AO := cellsF2 au.out
          obtain ⟨Ns, Nt, TK⟩ := Kd.S_slice an.out
          subst TK
          go_wp2
          refine bodyPost_ret (results_ct rfl _ _ cC 56 #[.int .i64 (rd eR 0), .slice Ns bj.length Nt] (0, 0) _ rfl (bq_ au) Tryz.underlying56 rfl (by kernel_rfl)) rfl ?_
          exact ⟨_, ax11_, by (with_reducible repeat (first | apply Kd.S_alloc | apply Kd.S_drewN | apply Kd.S_drew)); exact Kd.S_mono (Kd.S_far (p := ⟨cC, 1, none⟩) (Kd.S_far (p := ⟨cC, 0, none⟩) (Kd.S_types an.out au.out (by decide)) (fun _ hk => hk.2) (.int .i64 (rd eR 0))) (fun _ hk => hk.2) (.slice Ns bj.length Nt)) (fun _ hk => trivial), ax31_, ax24_, ax39_⟩
         replace H := itn_ H; rcases H with ⟨c70b0, H⟩
         replace H := itn_ H; rcases H with ⟨c71b0, H⟩
         replace H := bi_ H; rcases H with ⟨⟨CD, CE⟩, QI, H⟩
         replace H := iln_ H; rcases H with ⟨Nu, H⟩
         obtain ⟨CF, zc⟩ : ∃ y_ : List (S49), y_ = (bj ++ [(⟨CD, CE⟩ : S49)]) := ⟨_, rfl⟩
         replace H : (F87.l0 Nr ak (wrap64 (bz + 1)) ay az aA aC fq (rd eR 0) CF) = some (r1, r2, r3, r4, r5) := by first | (rw [zc]; exact H) | exact H
         have Nv := am_ zc
         clear zc
         have H' := am_ H
         clear H
         try go_wp2
         replace an := am_ (Kd.S_drew an.out)
         replace au := bd_ au
         replace aq := bd_ aq
         replace ba := am_ (IsS80.drew ba.out)
         replace HK := am_ (keep_drew HK.out)
         replace HB := am_ (below_drew1 HB.out)
         obtain ⟨PN, CG, CH, t7, t8, ua, ub, uc, ud, ue, zd, ze⟩ := IsS80.op ba.out
         have Hv : 0 ≤ (bz : Int) := od_
         have Hw : bz < (ak.length : Int) := od_
         obtain ⟨uf, zf, zg, TL, kO, kP, ug, uh⟩ := at_T49 CH bz Hv Hw
         have kQ := kP
         have kT := kO
         cases TL
         replace kO := pw_cell_below HB.out kO
         replace kP := pw_cell_below HB.out kP
         have ui := am_ uh
         have CI := am_ ug
         clear uh ug
         replace Hv := eq_true Hv
         replace Hw := eq_true Hw
         refine start_ (n := 17) (S := fun w' => w'.cell? ⟨df, 0, none⟩ = some (.int .i64 (rd eR 0)) ∧ w'.cell? ⟨df, 1, none⟩ = some (dj) ∧ w'.cell? ⟨g, 0, none⟩ = some (.slice (some uf) ak.length CG) ∧ w'.cell? ⟨g, 1, none⟩ = some (.int .i64 bz) ∧ w'.cell? ⟨g, 2, none⟩ = some (ay) ∧ w'.cell? ⟨g, 3, none⟩ = some (az) ∧ w'.cell? ⟨g, 4, none⟩ = some (aA) ∧ w'.cell? ⟨g, 5, none⟩ = some (aC) ∧ w'.cell? ⟨g, 6, none⟩ = some (.int .i64 fq) ∧ w'.cell? (uf.add ((bz).toNat * 2)) = some (.string ((rd_T49 ak bz).f0)) ∧ w'.cell? ⟨(uf.add ((bz).toNat * 2)).block, (uf.add ((bz).toNat * 2)).off + 1, none⟩ = some (.slice zf ((rd_T49 ak bz).f1).length zg)) (ds := [14, 16]) (bs 17 0) (by kernel_rfl) rfl rfl ⟨(blk_cell aq.out 0).trans rfl, (blk_cell aq.out 1).trans rfl, t7, t8, ua, ub, uc, ud, ue, (pw_cell_below HB.out kT), (pw_cell_below HB.out kQ)⟩ (fun hHeld => ?_); refine with_tabW F87.tab12 F87.bits12 (fun HT_ HW_ => ?_)
         generalize wc.drew = w75 at zd ze t7 t8 ua ub uc ud ue an au aq ba HK HB ui kO kP hHeld ⊢
         refine pq_ 0 HT_ ?_
         refine pq_ 2 HT_ ?_
         refine pq_ 3 HT_ ?_
         refine pq_ 4 HT_ ?_
         refine pq_ 6 HT_ ?_
         refine pq_ 7 HT_ ?_
         refine pq_ 8 HT_ ?_
         refine tq_ 1 HT_ HW_ hHeld rfl au8_15 ?_
         refine tq_ 5 HT_ HW_ hHeld rfl au8_15 ?_
         refine tq_ 9 HT_ HW_ hHeld rfl au8_15 ?_
         refine pq_ 10 HT_ ?_
         refine tq_ 11 HT_ HW_ hHeld rfl au8_15 ?_
         refine oq_ 12 HT_ (fun K hK => ?_)
         refine gr_ Tryz.func27 #[.agg #[.string ((rd_T49 ak bz).f0), .slice zf ((rd_T49 ak bz).f1).length zg]] (by rfl) ?_ rfl rfl rfl
         with_reducible refine (F27.calls ?s1 ?s2 QI.out).mono ?_
         (case s1 => exact Kd.C_below ui.out ax24_)
         (case s2 => exact CI.out)
         rintro e Yo ⟨a0L, rfl, bf, hb⟩
         have lE := pw_cell_below hb (hHeld.2.2.1)
         have lF := pw_cell_below hb (hHeld.2.2.2.1)
         have lG := pw_cell_below hb (hHeld.2.2.2.2.1)
         have lH := pw_cell_below hb (hHeld.2.2.2.2.2.1)
         have lI := pw_cell_below hb (hHeld.2.2.2.2.2.2.1)
         have TM := pw_cell_below hb (hHeld.2.2.2.2.2.2.2.1)
         have TN := pw_cell_below hb (hHeld.2.2.2.2.2.2.2.2.1)
         refine ⟨_, rfl, ?_⟩
         obtain ⟨jO, fP, fQ⟩ := nb9_ bf; replace an := am_ (Kd.S_elder' (Kd.S_mono (Kd.S_bound ax3_) (fun k_ hk_ => (⟨fP _ hk_.2.2.1, hk_.1⟩ : k_ < jO ∧ _))) (Kd.S_base bf) hb)
         have zh := am_ (Kd.S_lower fQ (keep_size (w := w) (g := g) (row := none) ax39_))
         replace au := bb_ au hb
         replace aq := bb_ aq hb
         replace HK := am_ (KeepBut.trans ax39_ (KeepBut.of_below hb g none) (.inl rfl))
         replace HB := am_ (below_step ax24_ hb)
         replace ba := am_ (IsS80.below ax31_ hb)
         (try clear hb)
         (try clear bf)
         obtain ⟨TO, TP, Nw⟩ := Kd.S_slice zh.out
         (first | subst Nw | (injection Nw with b9 dT cd; have dU := b9.symm; have dV := cd.symm; clear b9 dT cd; subst dU; subst dV))
         refine hK.out _ _ ⟨(blk_cell aq.out 0).trans rfl, (blk_cell aq.out 1).trans rfl, lE, lF, lG, lH, lI, TM, TN, (pw_cell_below HB.out kT), (pw_cell_below HB.out kQ)⟩ (fun hHeld => ?_)
         clear hK K
         refine no_ 101 ?_
         refine oq_ 13 HT_ (fun K hK => ?_)
         refine value_ (w1 := ?_) (v := ?_) (by rfl) rfl ?_ ?_
         rotate_left 2
         ·go_simp
          constructor
          ·rfl
          ·rfl
         refine hK.out _ _ ⟨(blk_cell (blk_alloc aq.out _) 0).trans rfl, (blk_cell (blk_alloc aq.out _) 1).trans rfl, (World.cell?_alloc_lt _ _ _ (World.block_lt_of_cell? _ _ (hHeld.2.2.1))).trans (hHeld.2.2.1), (World.cell?_alloc_lt _ _ _ (World.block_lt_of_cell? _ _ (hHeld.2.2.2.1))).trans (hHeld.2.2.2.1), (World.cell?_alloc_lt _ _ _ (World.block_lt_of_cell? _ _ (hHeld.2.2.2.2.1))).trans (hHeld.2.2.2.2.1), (World.cell?_alloc_lt _ _ _ (World.block_lt_of_cell? _ _ (hHeld.2.2.2.2.2.1))).trans (hHeld.2.2.2.2.2.1), (World.cell?_alloc_lt _ _ _ (World.block_lt_of_cell? _ _ (hHeld.2.2.2.2.2.2.1))).trans (hHeld.2.2.2.2.2.2.1), (World.cell?_alloc_lt _ _ _ (World.block_lt_of_cell? _ _ (hHeld.2.2.2.2.2.2.2.1))).trans (hHeld.2.2.2.2.2.2.2.1), (World.cell?_alloc_lt _ _ _ (World.block_lt_of_cell? _ _ (hHeld.2.2.2.2.2.2.2.2.1))).trans (hHeld.2.2.2.2.2.2.2.2.1), (World.cell?_alloc_lt _ _ _ (World.block_lt_of_cell? _ _ ((pw_cell_below HB.out kT)))).trans ((pw_cell_below HB.out kT)), (World.cell?_alloc_lt _ _ _ (World.block_lt_of_cell? _ _ ((pw_cell_below HB.out kQ)))).trans ((pw_cell_below HB.out kQ))⟩ (fun hHeld => ?_)
         clear hK K
         refine no_ 102 ?_
         refine lq_ 14 HT_ (fun K hK => ?_)
         refine Kd.S_append_step k49 w.heap.size (by rfl) (.tmp 90) (.tmp 102) 26 49 (.agg #[(.string ⟨#[]⟩), (.slice none 0 0)]) 40 rfl Tryz.underlying26 info49 rfl (by decide) (by omega) dj bj (⟨CD, CE⟩ : S49) [.string CD, .slice TO CE.length TP] (fun _ => True) (fun k_ => jO ≤ k_ ∧ (fun _ => True) k_) rfl rfl ?aP (fun k_ hk_ => ⟨hk_.2, fun e_ => Nat.not_le.2 (by have g_ := (Kd.S_R an.out).1 k_ e_.symm; first | exact g_.1.1 | exact g_.1 | exact g_.1.1.1) hk_.1⟩) ?aF ?aO (Below.refl _ _) ?aS ?aL ?_
         (case aP => exact k49_mkM _ _ _ (⟨CD, CE⟩ : S49) (Kd.S_mono (Kd.S_apart' (zh.out) (Kd.S_typed an.out) (by decide)) (fun k_ hk => ⟨(by first | exact hk.1.1 | exact hk.1 | exact hk.1.1.1), (show ((fun _ => True)) k_ ∧ some k_ ≠ (dj : Value).ownBlock from ⟨trivial, hk.2⟩).1⟩)))
         (case aF => exact (fun _ _ => trivial))
         (case aO => exact (by (with_reducible repeat (first | apply Kd.S_alloc | apply Kd.S_drewN | apply Kd.S_drew)); exact Kd.S_mono an.out (fun k_ hk => ⟨trivial, fun vO => Nat.not_le.2 (by first | exact hk.1.1 | exact hk.1 | exact hk.1.1.1) vO.1⟩)))
         (case aS => exact (keep_size (w := w) (g := g) (row := none) ax39_))
         (case aL => have := Nu.out; omega)
         intro a0M vQ ho hb hg hat
         rw [← Nv.out] at ho
         replace au := am_ (bg_ au hg (Kd.S_ne an.out au.out (by decide)))
         replace aq := am_ (bg_ aq hg (Kd.S_ne an.out aq.out (by decide)))
         replace HB := am_ (below_weaken ax24_ HL.out hb)
         replace ba := am_ (IsS80.grown ax31_ hg (IsS80.own_neS ba.out an.out (by decide)))
         replace HK := am_ (KeepBut.trans ax39_ (KeepBut.of_grown hg g) (Kd.S_base2 an.out))
         have Em := am_ (ho)
         clear an zh
         clear ho hb hg hat
         obtain ⟨Nx, Ny, Nz⟩ := Kd.S_slice Em.out
         (first | subst Nz | (injection Nz with b9 dT cd; have dU := b9.symm; have dV := cd.symm; clear b9 dT cd; subst dU; subst dV))
         refine hK.out _ _ ?_
         clear hK K
         refine no_ 103 ?_
         refine pq_ 15 HT_ ?_
         refine lq_ 16 HT_ (fun K hK => ?_)
         have a0N : vQ.cell? ⟨df, 1, none⟩ = some (dj) := (blk_cell aq.out 1).trans rfl
         have Xf := blk_frozen aq.out 1
         obtain ⟨PO, PP⟩ := nn_ mt
         refine skip_ (w1 := ?_) (by rfl) rfl ?_ ?_
         rotate_left
         ·go_simp
          rfl
         refine hK.out _ _ ?_
         clear hK K
         refine done_ (done_of HT_.out (by kernel_rfl)) ?_
         obtain ⟨PQ, PR, PS, PU, PV, PW, PY, PZ, P0, P3, P4, P5⟩ := IsS80.op ba.out
         try go_wp2
         go_roundg Nr
         case measure => have := Ew.out; have := HK2.out; have := GW.out; have := Nq.out; omega
         case rel => exact ⟨(wrap64 (bz + 1)), (fq), (eA), (CF), (.slice Nx CF.length Ny), H', ⟨by have := Ew.out; have := HK2.out; have := GW.out; have := Nq.out; omega⟩, ⟨by (with_reducible repeat (first | apply Kd.S_alloc | apply Kd.S_drewN | apply Kd.S_drew)); exact Kd.S_mono (Kd.S_far (p := ⟨g, 1, none⟩) (Kd.S_far (p := ⟨df, 1, none⟩) (IsS80.apartS ba.out (Kd.S_types Em.out aq.out (by decide)) (by decide)) (fun _ hk => hk.1.2) (.slice Nx CF.length Ny)) (fun _ hk => hk.2) (.int .i64 (wrap64 (bz + 1)))) (fun _ hk => trivial)⟩, ⟨bf_ au⟩, ⟨bq_ aq⟩, ⟨ax31_⟩, ⟨ax39_⟩, ⟨ax24_⟩⟩
end Go.Proofs.YtlghcbmkhdibdaaGreatDoor.PFnEnvelopes
