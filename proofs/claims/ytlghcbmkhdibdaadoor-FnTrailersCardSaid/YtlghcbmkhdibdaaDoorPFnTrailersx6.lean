-- printed by a program of this session (wip/xp/xprint.py) out of the translation; Lean checks it
import Derived.Test.YtlghcbmkhdibdaaDoorPFnTrailersx0
import Derived.Test.YtlghcbmkhdibdaaDoorPFnTrailersx4
import Derived.Test.YtlghcbmkhdibdaaDoorPFnTrailersx5
namespace Go.Proofs.YtlghcbmkhdibdaaDoor.PFnTrailers
open Go.RowKit Go.Proofs.YtlghcbmkhdibdaaDoorW.PrintWords Go.Proofs.YtlghcbmkhdibdaaDoorW.PrintLast Go.Proofs.YtlghcbmkhdibdaaDoorW.PrintMore
attribute [local go_sem] max2_int min2_int max_two min_two max_three min_three max_four min_four   -- for this text's walks alone
set_option linter.unusedVariables false
set_option linter.unusedSimpArgs false
set_option maxHeartbeats 8000000
set_option maxRecDepth 100000

theorem au6_0 {p : Prop} (h : p := by repeat (first | (with_reducible first | exact HB.out | apply pw_below_drewN | apply below_drew) | exact HB.out)) : p := h
theorem au6_1 {p : Prop} (h : p := by (with_reducible repeat (first | refine blk_drewN ?_ _ | refine blk_drew ?_ | refine blk_alloc ?_ _)); exact HG.out) : p := h
theorem au6_2 {p : Prop} (h : p := by (with_reducible repeat (first | refine blk_drewN ?_ _ | refine blk_drew ?_ | refine blk_alloc ?_ _)); exact BK.out) : p := h
theorem au6_3 {p : Prop} (h : p := by (with_reducible repeat (first | apply Kd.H_alloc | apply Kd.H_drewN | apply Kd.H_drew)); exact HH.out) : p := h
theorem au6_4 {p : Prop} (h : p := by first | exact Kd.own_blk (Kd.R_ne bH.out bk.out (by decide)) | (rw [add_block]; exact Kd.own_blk (Kd.R_ne bH.out bk.out (by decide))) | (show (Addr.add _ _).block ≠ _; rw [add_block]; exact Kd.own_blk (Kd.R_ne bH.out bk.out (by decide))) | (dsimp only; exact Kd.own_blk (Kd.R_ne bH.out bk.out (by decide)))) : p := h
theorem au6_5 {p : Prop} (h : p := by (with_reducible repeat (first | apply Kd.S_alloc | apply Kd.S_drewN | apply Kd.S_drew)); exact HS.out) : p := h
theorem au6_6 {p : Prop} (h : p := by (with_reducible repeat (first | apply Kd.S_alloc | apply Kd.S_drewN | apply Kd.S_drew)); exact HM.out) : p := h
theorem au6_7 {p : Prop} (h : p := by (with_reducible repeat (first | refine blk_drewN ?_ _ | refine blk_drew ?_ | refine blk_alloc ?_ _)); exact B2.out) : p := h
theorem au6_8 {p : Prop} (h : p := by (with_reducible repeat (first | apply Kd.H_alloc | apply Kd.H_drewN | apply Kd.H_drew)); exact ic.out) : p := h
theorem au6_9 {p : Prop} (h : p := by (with_reducible repeat (first | apply Kd.S_alloc | apply Kd.S_drewN | apply Kd.S_drew)); exact qf.out) : p := h
theorem au6_10 {p : Prop} (h : p := by have zA := Kd.H_back ic.out (k85_mkM _ _ _ (⟨m.f0, m.f1⟩ : S85) qf.out) (fun _ h_ => h_); rw [show b.f2.set (((b.f2.length - 1 : Nat) : Int)).toNat ⟨m.f0, m.f1⟩ = b.f2 from HLM.out] at zA; have q_ := Kd.H_back HH.out (k83_mkM _ _ _ (⟨b.f0, b.f1, b.f2⟩ : S83) zA) (fun _ h_ => h_); rw [show L.set (((L.length - 1 : Nat) : Int)).toNat ⟨b.f0, b.f1, b.f2⟩ = L from HLB.out] at q_; exact Kd.S_mono q_ (fun _ _ => trivial)) : p := h
theorem au6_11 {p : Prop} (h : p := by have q_ := Kd.H_back HH.out (k83_mkM _ _ _ (⟨b.f0, b.f1, b.f2⟩ : S83) HM.out) (fun _ h_ => h_); rw [show L.set (((L.length - 1 : Nat) : Int)).toNat ⟨b.f0, b.f1, b.f2⟩ = L from HLB.out] at q_; exact Kd.S_mono q_ (fun _ _ => trivial)) : p := h
theorem au6_13 {p : Prop} (h : p := by first | rfl | (simp [errW_none, errW_some] <;> rfl) | (simp [*, errW_none, errW_some] <;> rfl)) : p := h
theorem au6_14 {p : Prop} (h : p := by repeat (first | exact (Kd.C_below gD.out HB.out) | (with_reducible refine Kd.C_alloc ?_ _) | (with_reducible refine Kd.C_drewN ?_ _) | (with_reducible refine Kd.C_drew ?_))) : p := h
theorem au6_15 {p : Prop} (h : p := by repeat (first | exact (Kd.C_below n3.out HB.out) | (with_reducible refine Kd.C_alloc ?_ _) | (with_reducible refine Kd.C_drewN ?_ _) | (with_reducible refine Kd.C_drew ?_))) : p := h
theorem au6_17 {p : Prop} (h : p := by (with_reducible repeat (first | refine blk_drewN ?_ _ | refine blk_drew ?_ | refine blk_alloc ?_ _)); exact B3.out) : p := h
theorem au6_18 {p : Prop} (h : p := by first | exact ⟨rfl, rfl⟩ | rfl | trivial | (simp; done)) : p := h
theorem au6_19 {p : Prop} (h : p := by repeat (first | exact (Kd.C_below zB.out HB.out) | (with_reducible refine Kd.C_alloc ?_ _) | (with_reducible refine Kd.C_drewN ?_ _) | (with_reducible refine Kd.C_drew ?_))) : p := h
theorem au6_20 {p : Prop} (h : p := by simp only [List.map_toArray, List.map_cons, List.map_nil]; rfl) : p := h
theorem au6_21 {p : Prop} (h : p := by first | (with_reducible exact HZT.out) | exact HZT.out.below bl_) : p := h
theorem au6_22 {p : Prop} (h : p := by (with_reducible repeat (first | apply Kd.S_alloc | apply Kd.S_drewN | apply Kd.S_drew)); exact rh.out) : p := h
theorem au6_23 {p : Prop} (h : p := by rw [hgb]; exact blk_lt HG.out) : p := h
theorem au6_12 {p : Prop} (h : p := by exact Kd.C_below HR.out (rd_bt In.out HGE.out au6_0)) : p := h
theorem au6_16 {p : Prop} (h : p := by exact HT.out.below (rd_bt In.out HGE.out au6_0)) : p := h

/-! ### F24: function 24 -/
theorem c2_ {W : World} {p t : Nat} {a b : Value} (h : W.heap[p]? = some (.cells #[a, b] t (0, 0))) : W.cell? ⟨p, 0, none⟩ = some a ∧ W.cell? ⟨p, 1, none⟩ = some b := ⟨(blk_cell h 0).trans rfl, (blk_cell h 1).trans rfl⟩
theorem c4_ {W : World} {p t : Nat} {a b c d : Value} (h : W.heap[p]? = some (.cells #[a, b, c, d] t (0, 0))) : W.cell? ⟨p, 0, none⟩ = some a ∧ W.cell? ⟨p, 1, none⟩ = some b ∧ W.cell? ⟨p, 2, none⟩ = some c ∧ W.cell? ⟨p, 3, none⟩ = some d := ⟨(blk_cell h 0).trans rfl, (blk_cell h 1).trans rfl, (blk_cell h 2).trans rfl, (blk_cell h 3).trans rfl⟩
theorem c5_ {W : World} {p t : Nat} {a b c d e : Value} (h : W.heap[p]? = some (.cells #[a, b, c, d, e] t (0, 0))) : W.cell? ⟨p, 0, none⟩ = some a ∧ W.cell? ⟨p, 1, none⟩ = some b ∧ W.cell? ⟨p, 2, none⟩ = some c ∧ W.cell? ⟨p, 3, none⟩ = some d ∧ W.cell? ⟨p, 4, none⟩ = some e := ⟨(blk_cell h 0).trans rfl, (blk_cell h 1).trans rfl, (blk_cell h 2).trans rfl, (blk_cell h 3).trans rfl, (blk_cell h 4).trans rfl⟩
theorem c7_ {W : World} {p t : Nat} {a b c d e f g : Value} (h : W.heap[p]? = some (.cells #[a, b, c, d, e, f, g] t (0, 0))) : W.cell? ⟨p, 0, none⟩ = some a ∧ W.cell? ⟨p, 1, none⟩ = some b ∧ W.cell? ⟨p, 2, none⟩ = some c ∧ W.cell? ⟨p, 3, none⟩ = some d ∧ W.cell? ⟨p, 4, none⟩ = some e ∧ W.cell? ⟨p, 5, none⟩ = some f ∧ W.cell? ⟨p, 6, none⟩ = some g := ⟨(blk_cell h 0).trans rfl, (blk_cell h 1).trans rfl, (blk_cell h 2).trans rfl, (blk_cell h 3).trans rfl, (blk_cell h 4).trans rfl, (blk_cell h 5).trans rfl, (blk_cell h 6).trans rfl⟩
theorem rd_info83 : (Tryd.prog.info? 83).map (fun i => (i.zero, i.size, i.bytes)) = some (some (.agg #[(.int .i64 0), (.int .i64 0), (.slice none 0 0)]), 3, 40) := by kernel_rfl
theorem rd_info85 : (Tryd.prog.info? 85).map (fun i => (i.zero, i.size, i.bytes)) = some (some (.agg #[(.int .i64 0), (.slice none 0 0)]), 2, 32) := by kernel_rfl
theorem rd_bundle.calls (g gb m c : Nat) (A B : ByteArray) (n inn : Int) (w : World) (hg : w.heap[g]? = some (.cells #[.string A, .string B, .int .i64 n, .slice (some ⟨gb, 0, none⟩) m c, .int .i64 inn] 93 (0, 0))) (h1 : 1 ≤ m) (h2 : m ≤ 9223372036854775807) :
  Calls Tryd.prog 102 #[.pointer (some ⟨g, 0, none⟩)] w fun e w' => e = .returned (.pointer (some ⟨gb, (m - 1) * 3, none⟩)) ∧ Drawn0 w w' := by
 have EK := Tryd.underlying93
 have Nq := Tryd.underlying27
 have hc3 : w.cell? ⟨g, 3, none⟩ = some (.slice (some ⟨gb, 0, none⟩) m c) := (blk_cell hg 3).trans rfl
 have hwr : wrap64 ((m : Int) - 1) = ((m - 1 : Nat) : Int) := by unfold wrap64; omega
 have p15 : (0 ≤ ((m - 1 : Nat) : Int)) = True := eq_true (by omega)
 have q15 : (((m - 1 : Nat) : Int) < (m : Int)) = True := eq_true (by omega)
 have a7F : (m - 1 < m) = True := eq_true (by omega)
 have HD := am_ (Drawn0.refl w)
 clear hg
 go_enter Tryd.func102, Tryd.ntmps102
 go_wp2
 refine start_ (n := 14) (S := fun w' => w'.cell? ⟨g, 3, none⟩ = some (.slice (some ⟨gb, 0, none⟩) m c)) (ds := []) (bs 14 0) (by kernel_rfl) rfl rfl (hc3) (fun hHeld => ?_)
 refine pk_ 0 3 (bs 14 1) ?_ rfl rfl
 refine pk_ 1 4 (bs 14 3) ?_ rfl rfl
 refine pk_ 2 5 (bs 14 7) ?_ rfl rfl
 refine pk_ 3 6 (bs 14 15) ?_ rfl rfl
 refine pk_ 5 8 (bs 14 47) ?_ rfl rfl
 refine pk_ 6 9 (bs 14 111) ?_ rfl rfl
 refine pk_ 7 10 (bs 14 239) ?_ rfl rfl
 refine pk_ 8 11 (bs 14 495) ?_ rfl rfl
 refine take_ (i := 4) (N := some 7) (v := ?_) (a' := ?_) (bs 14 511) rfl rfl (by kernel_rfl) (fun _ _ _ h => h) (Or.inl ⟨by rfl, ?_⟩) hHeld ?_ ?_
 rotate_left
 ·intro w' s0
  go_simp
  with_reducible rfl
 rotate_left
 ·simp only [Act.put, List.setIfInBounds_toArray, List.set_cons_zero, List.set_cons_succ, i64_w, i32_w]
  rfl
 refine take_ (i := 9) (N := some 12) (v := ?_) (a' := ?_) (bs 14 1023) rfl rfl (by kernel_rfl) (fun _ _ _ h => h) (Or.inl ⟨by rfl, ?_⟩) hHeld ?_ ?_
 rotate_left
 ·intro w' s0
  go_simp
  with_reducible rfl
 rotate_left
 ·simp only [Act.put, List.setIfInBounds_toArray, List.set_cons_zero, List.set_cons_succ, i64_w, i32_w]
  rfl
 refine pk_ 10 13 (bs 14 2047) ?_ rfl rfl
 refine pk_ 11 14 (bs 14 4095) ?_ rfl rfl
 refine pk_ 12 15 (bs 14 8191) ?_ rfl rfl
 refine pk_ 13 2 (bs 14 16383) ?_ rfl rfl
 refine done_ (by kernel_rfl) ?_

 go_wp2
 go_ret
 exact ⟨rfl, ⟨1, rfl⟩⟩
theorem rd_message.calls (g gb m c gm mm cm : Nat) (A B : ByteArray) (n inn : Int) (w : World) (hg : w.heap[g]? = some (.cells #[.string A, .string B, .int .i64 n, .slice (some ⟨gb, 0, none⟩) m c, .int .i64 inn] 93 (0, 0))) (h1 : 1 ≤ m) (h2 : m ≤ 9223372036854775807)
  (hcb : w.cell? ⟨gb, (m - 1) * 3 + 2, none⟩ = some (.slice (some ⟨gm, 0, none⟩) mm cm)) (h3 : 1 ≤ mm) (h4 : mm ≤ 9223372036854775807) :
  Calls Tryd.prog 76 #[.pointer (some ⟨g, 0, none⟩)] w fun e w' => e = .returned (.pointer (some ⟨gm, (mm - 1) * 2, none⟩)) ∧ Drawn0 w w' := by
 have EK := Tryd.underlying93
 have Aa := Tryd.underlying83
 have W7 := Tryd.underlying81
 have BK := am_ hg
 have H1 := am_ h1
 have H2 := am_ h2
 have hwr : wrap64 ((mm : Int) - 1) = ((mm - 1 : Nat) : Int) := by unfold wrap64; omega
 have p15 : (0 ≤ ((mm - 1 : Nat) : Int)) = True := eq_true (by omega)
 have q15 : (((mm - 1 : Nat) : Int) < (mm : Int)) = True := eq_true (by omega)
 have a7F : (mm - 1 < mm) = True := eq_true (by omega)
 clear hg h1 h2
 go_enter Tryd.func76, Tryd.ntmps76
 go_wp2_with (first | (go_at_call 102; (with_reducible refine (rd_bundle.calls g gb m c A B n inn _ BK.out H1.out H2.out).mono ?_); rintro e w' ⟨rfl, ⟨nd, rfl⟩⟩))
 have hcd : (w.drewN nd).cell? ⟨gb, (m - 1) * 3 + 2, none⟩ = some (.slice (some ⟨gm, 0, none⟩) mm cm) := hcb
 refine start_ (n := 12) (S := fun w' => w'.cell? ⟨gb, (m - 1) * 3 + 2, none⟩ = some (.slice (some ⟨gm, 0, none⟩) mm cm)) (ds := []) (bs 12 0) (by kernel_rfl) rfl rfl (hcd) (fun hHeld => ?_)
 refine pk_ 0 6 (bs 12 1) ?_ rfl rfl
 refine pk_ 1 7 (bs 12 3) ?_ rfl rfl
 refine pk_ 2 8 (bs 12 7) ?_ rfl rfl
 refine pk_ 4 10 (bs 12 23) ?_ rfl rfl
 refine pk_ 5 11 (bs 12 55) ?_ rfl rfl
 refine pk_ 6 12 (bs 12 119) ?_ rfl rfl
 refine take_ (i := 3) (N := some 9) (v := ?_) (a' := ?_) (bs 12 127) rfl rfl (by kernel_rfl) (fun _ _ _ h => h) (Or.inl ⟨by rfl, ?_⟩) hHeld ?_ ?_
 rotate_left
 ·intro w' s0
  go_simp
  with_reducible rfl
 rotate_left
 ·simp only [Act.put, List.setIfInBounds_toArray, List.set_cons_zero, List.set_cons_succ, i64_w, i32_w]
  rfl
 refine take_ (i := 7) (N := some 13) (v := ?_) (a' := ?_) (bs 12 255) rfl rfl (by kernel_rfl) (fun _ _ _ h => h) (Or.inl ⟨by rfl, ?_⟩) hHeld ?_ ?_
 rotate_left
 ·intro w' s0
  go_simp
  with_reducible rfl
 rotate_left
 ·simp only [Act.put, List.setIfInBounds_toArray, List.set_cons_zero, List.set_cons_succ, i64_w, i32_w]
  rfl
 refine pk_ 8 14 (bs 12 511) ?_ rfl rfl
 refine pk_ 9 15 (bs 12 1023) ?_ rfl rfl
 refine pk_ 10 16 (bs 12 2047) ?_ rfl rfl
 refine pk_ 11 2 (bs 12 4095) ?_ rfl rfl
 refine done_ (by kernel_rfl) ?_

 go_wp2
 go_ret
 exact ⟨rfl, ⟨nd + 1, rfl⟩⟩

theorem rd_bt {B g : Nat} {w W w2 : World} (h : Below B w W) (hB : B ≤ g) (k : Below g W w2) : Below B w w2 := h.trans (k.mono hB)
theorem rd_bs {B : Nat} {w W w2 : World} (h : Below B w W) (hB : B ≤ W.heap.size) (k : Below W.heap.size W w2) : Below B w w2 := below_then h hB k
theorem rd_far {α : Type} {d : Kd α} {e g : Nat} {W : World} {ok : Nat → Prop} {v : Value} {xs : List α} (h : Kd.S d e W (g + 1) ok v xs) (i : Nat) (u : Value) : Kd.S d e (W.setCell ⟨g, i, none⟩ u) (g + 1) ok v xs :=
 Kd.S_mono (Kd.S_move (Kd.S_bound h) (fun k hk => Below.heap_setCell W ⟨g, i, none⟩ u k (by have := hk.2.1; show k ≠ g; omega))) (fun k hk => hk.1)
def rd_tb2 (k : Nat) (inn : Int) (L : List S83) (a0 : ByteArray) (l1 : List S55) : Option (Int × Int × List S83) := (F60.f k a0 l1 (⟨#[71, 82, 72]⟩ : ByteArray) 2).bind fun p => (if p.2 = true then (if (L.length : Int) = 5 then (some (3, inn, L)) else (if 0 < (p.1.length : Int) then ((F62.f k (rdOf ByteArray.empty p.1 0) 1 7).bind fun q => (if 1 < (p.1.length : Int) then ((F62.f k (rdOf ByteArray.empty p.1 1) 1 999999).bind fun q2 => (if q.2 = true then (if q2.2 = true then (if L.length < 1000000 then (some (0, 1, L ++ [(⟨q.1, q2.1, []⟩ : S83)])) else (none)) else (some (3, inn, L))) else (some (3, inn, L)))) else (none))) else (none))) else (some (3, inn, L)))
def rd_takeBundle.f (k : Nat) (n inn : Int) (L : List S83) (a0 : ByteArray) (l1 : List S55) : Option (Int × Int × List S83) := if a0.toList = ([73, 88, 84] : List UInt8) then (if (L.length : Int) > 0 then ((F77.f k a0 l1 (⟨#[73, 88, 84]⟩ : ByteArray) (L.length : Int) n).bind fun r => some (r, 3, L)) else (rd_tb2 k inn L a0 l1)) else (rd_tb2 k inn L a0 l1)
theorem rd_takeBundle.calls (k g : Nat) (A B : ByteArray) (n inn : Int) (vB : Value) (L : List S83) (a0 : ByteArray) (A1 : Option Addr) (c1 : Nat) (l1 : List S55) (r : Int) (inn' : Int) (L' : List S83) (w0 w : World)
  (AD : Below w0.heap.size w0 w) (hge : w0.heap.size ≤ g) (hg : w.heap[g]? = some (.cells #[.string A, .string B, .int .i64 n, vB, .int .i64 inn] 93 (0, 0))) (hS : Kd.S k83 83 w (g + 1) (fun _ => True) vB L) (hr : Kd.C k55 w0 A1 l1.length l1) (hc : l1.length ≤ c1) (hT : LaidT true Tryd.prog w0)
  (h : rd_takeBundle.f k n inn L a0 l1 = some (r, inn', L')) :
  Calls Tryd.prog 74 #[.pointer (some ⟨g, 0, none⟩), .agg #[.string a0, .slice A1 l1.length c1]] w fun e w' => e = .returned (.int .i64 r) ∧ Below g w w' ∧ ∃ vB', w'.heap[g]? = some (.cells #[.string A, .string B, .int .i64 n, vB', .int .i64 inn'] 93 (0, 0)) ∧ Kd.S k83 83 w' (g + 1) (fun _ => True) vB' L' := by
 have EK := Tryd.underlying93
 have Nq := Tryd.underlying27
 have jn := Tryd.underlying52
 have Aa := Tryd.underlying83
 obtain ⟨Ao, co, rfl⟩ := Kd.S_slice hS
 have HB := am_ (Below.refl g w)
 have In := am_ AD
 have HGE := am_ hge
 have HG := am_ hg
 have HS := am_ hS
 have HR := am_ hr
 have HC := am_ hc
 have HT := am_ hT
 have H := h
 unfold rd_takeBundle.f at H
 clear AD hge hg hS hr hc hT h
 by_cases g_ : a0.toList = ([73, 88, 84] : List UInt8) ∧ (L.length : Int) > 0
 ·rw [if_pos g_.1, if_pos g_.2] at H
  have c2b0 : (a0.toList == ([73, 88, 84] : List UInt8)) = true := beq_iff_eq.mpr g_.1
  have c3b0 : decide ((L.length : Int) > 0) = true := decide_eq_true g_.2
  have c3b1 : decide (0 < L.length) = true := decide_eq_true (by have := g_.2; omega)
  clear g_
  replace H := Option.bind_eq_some_iff.mp H
  obtain ⟨W8, FA, H⟩ := H
  have A4 := am_ FA
  clear FA
  simp only [Option.some.injEq, Prod.mk.injEq] at H
  obtain ⟨rfl, rfl, rfl⟩ := H
  go_enter Tryd.func74, Tryd.ntmps74
  go_wp2_with (first | ((with_reducible refine gate_dst (N := 3) rfl ?_); refine be_ 3 #[.string a0, .slice A1 l1.length c1] 52 ?_; intro gb hgb w1 hbox hb; replace HB := am_ (rd_bs au6_0 (Nat.le_of_lt (blk_lt au6_1)) hb); replace HG := am_ (blk_below au6_1 hb); replace HS := am_ (Kd.S_below au6_5 hb); have BK := am_ hbox; have NB : g ≠ gb := blk_ne HG.out hbox (by decide); have ua : gb ≠ g := NB.symm; clear hb hbox hgb; obtain ⟨ex, ey, ez, eA, eB⟩ := c5_ HG.out; have dd := blk_frozen HG.out 4; have de := blk_frozen HG.out 3; obtain ⟨eC, eD⟩ := c2_ BK.out; have df := blk_frozen BK.out 0; have dg := blk_frozen BK.out 1))
  clear ex ey ez eA eB dd df eC de dg eD
  have bI := am_ (Below.setCell HB.out (p := ⟨g, 4, none⟩) (Nat.le_refl g) (.int .i64 3))
  have bZ := am_ (show (w1.setCell ⟨g, 4, none⟩ (.int .i64 3)).heap[g]? = some (.cells #[.string A, .string B, .int .i64 n, .slice Ao L.length co, .int .i64 3] 93 (0, 0)) from blk_put HG.out 4 _ rfl)
  have n2_ := am_ (rd_far HS.out 4 (.int .i64 3))
  have cD := am_ (blk_far (p := ⟨g, 4, none⟩) BK.out ua (.int .i64 3))
  clear HB HG HS BK
  generalize w1.setCell ⟨g, 4, none⟩ (.int .i64 3) = w2 at bI bZ n2_ cD ⊢
  have HB := bI
  have HG := bZ
  have HS := n2_
  have BK := cD
  clear bI bZ n2_ cD
  refine start_ (n := 9) (S := fun w' => w'.cell? ⟨gb, 0, none⟩ = some (.string a0) ∧ w'.cell? ⟨gb, 1, none⟩ = some (.slice A1 l1.length c1) ∧ w'.cell? ⟨g, 2, none⟩ = some (.int .i64 n)) (ds := []) (bs 9 0) (by kernel_rfl) rfl rfl ⟨((blk_cell BK.out 0).trans rfl), ((blk_cell BK.out 1).trans rfl), ((blk_cell HG.out 2).trans rfl)⟩ (fun hHeld => ?_)
  refine pk_ 1 29 (bs 9 2) ?_ rfl rfl
  refine pk_ 2 30 (bs 9 6) ?_ rfl rfl
  refine pk_ 3 31 (bs 9 14) ?_ rfl rfl
  refine pk_ 4 32 (bs 9 30) ?_ rfl rfl
  refine pk_ 5 33 (bs 9 62) ?_ rfl rfl
  refine take_ (i := 0) (N := some 28) (v := ?_) (a' := ?_) (bs 9 63) rfl rfl (by kernel_rfl) (fun _ _ _ h => h) (Or.inl ⟨by rfl, ?_⟩) hHeld ?_ ?_
  rotate_left
  ·rintro w' ⟨s0, s1, s2⟩
   go_simp
   with_reducible rfl
  rotate_left
  ·simp only [Act.put, List.setIfInBounds_toArray, List.set_cons_zero, List.set_cons_succ, i64_w, i32_w]
   rfl
  refine take_ (i := 6) (N := some 34) (v := ?_) (a' := ?_) (bs 9 127) rfl rfl (by kernel_rfl) (fun _ _ _ h => h) (Or.inl ⟨by rfl, ?_⟩) hHeld ?_ ?_
  rotate_left
  ·rintro w' ⟨s0, s1, s2⟩
   go_simp
   with_reducible rfl
  rotate_left
  ·simp only [Act.put, List.setIfInBounds_toArray, List.set_cons_zero, List.set_cons_succ, i64_w, i32_w]
   rfl
  refine one_ (i := 7) (N := some 35) (bs 9 255) rfl rfl (by kernel_rfl) (by decide) (fun K hK => ?_)
  refine goes_ Tryd.func77 (by kernel_rfl) rfl #[.agg #[.string a0, .slice A1 l1.length c1], .string (⟨#[73, 88, 84]⟩ : ByteArray), .int .i64 (L.length : Int), .int .i64 n] (by rfl) rfl rfl au6_20 ?_
  with_reducible refine (F77.calls k a0 A1 c1 l1 (⟨#[73, 88, 84]⟩ : ByteArray) (L.length : Int) n W8 _ ?sd1 HC.out ?sd2 A4.out).mono ?_
  (case sd1 => exact au6_12)
  (case sd2 => exact au6_16)
  rintro e w3 ⟨rfl, hb⟩
  have vD := pw_cell_below hb hHeld.1
  have vE := pw_cell_below hb hHeld.2.1
  have vF := pw_cell_below hb hHeld.2.2
  refine ⟨_, rfl, ?_⟩
  replace HB := am_ (rd_bs au6_0 (Nat.le_of_lt (blk_lt au6_1)) hb); replace HG := am_ (blk_below au6_1 hb); replace HS := am_ (Kd.S_below au6_5 hb); replace BK := am_ (blk_below au6_2 hb)
  clear hb
  refine hK.out _ _ ⟨vD, vE, vF⟩ (fun hHeld => ?_)
  clear hK K
  refine no_ 35 ?_
  refine pk_ 8 4 (bs 9 511) ?_ rfl rfl
  refine done_ (by kernel_rfl) ?_

  go_wp2
  go_ret
  exact ⟨rfl, HB.out, _, HG.out, HS.out⟩
 have hor_ : ((a0.toList == ([73, 88, 84] : List UInt8)) = true ∧ decide ((L.length : Int) > 0) = false ∧ decide (0 < L.length) = false) ∨ (a0.toList == ([73, 88, 84] : List UInt8)) = false := by
  by_cases c2 : a0.toList = ([73, 88, 84] : List UInt8)
  ·exact .inl ⟨beq_iff_eq.mpr c2, decide_eq_false (fun c3 => g_ ⟨c2, c3⟩), decide_eq_false (fun c3 => g_ ⟨c2, by omega⟩)⟩
  ·exact .inr (beq_eq_false_iff_ne.mpr c2)
 have W9 : rd_tb2 k inn L a0 l1 = some (r, inn', L') := by
  by_cases c2 : a0.toList = ([73, 88, 84] : List UInt8)
  ·rw [if_pos c2, if_neg (fun c3 => g_ ⟨c2, c3⟩)] at H
   exact H
  ·rw [if_neg c2] at H
   exact H
 clear H g_
 have H := W9
 clear W9
 rcases hor_ with ⟨c2b0, c3b0, c3b1⟩ | c2b0
 all_goals
  unfold rd_tb2 at H
  replace H := Option.bind_eq_some_iff.mp H
  obtain ⟨⟨t1, t2⟩, AQ, H⟩ := H
  dsimp only at H
  by_cases c5 : t2 = true
  rotate_left
  ·replace c5 := Bool.eq_false_iff.mpr c5
   subst c5
   rw [if_neg (by decide)] at H
   have A5 := am_ AQ
   clear AQ
   simp only [Option.some.injEq, Prod.mk.injEq] at H
   obtain ⟨rfl, rfl, rfl⟩ := H
   go_enter Tryd.func74, Tryd.ntmps74
   go_wp2_with (first | ((with_reducible refine gate_dst (N := 3) rfl ?_); refine be_ 3 #[.string a0, .slice A1 l1.length c1] 52 ?_; intro gb hgb w1 hbox hb; replace HB := am_ (rd_bs au6_0 (Nat.le_of_lt (blk_lt au6_1)) hb); replace HG := am_ (blk_below au6_1 hb); replace HS := am_ (Kd.S_below au6_5 hb); have BK := am_ hbox; have NB : g ≠ gb := blk_ne HG.out hbox (by decide); have ua : gb ≠ g := NB.symm; clear hb hbox hgb; obtain ⟨ex, ey, ez, eA, eB⟩ := c5_ HG.out; have dd := blk_frozen HG.out 4; have de := blk_frozen HG.out 3; obtain ⟨eC, eD⟩ := c2_ BK.out; have df := blk_frozen BK.out 0; have dg := blk_frozen BK.out 1) | (go_at_call 60; (with_reducible refine (F60.calls k a0 A1 c1 l1 (⟨#[71, 82, 72]⟩ : ByteArray) 2 t1 false _ ?sd1 HC.out A5.out).mono ?_); (case sd1 => exact au6_12); rintro e w3 ⟨v3, rfl, bm, hb⟩; obtain ⟨Ap, cp, rfl⟩ := Kd.R_slice bm; have HP := am_ (Kd.R_reads' bm).2.2; clear bm; replace HB := am_ (rd_bs au6_0 (Nat.le_of_lt (blk_lt au6_1)) hb); replace HG := am_ (blk_below au6_1 hb); replace HS := am_ (Kd.S_below au6_5 hb); replace BK := am_ (blk_below au6_2 hb); clear hb; clear ex ey ez eA eB dd df eC de dg eD; obtain ⟨gr, fD, fE, gu, gv⟩ := c5_ HG.out; have dI := blk_frozen HG.out 4; have dJ := blk_frozen HG.out 3; obtain ⟨gx, gy⟩ := c2_ BK.out; have dK := blk_frozen BK.out 0; have dL := blk_frozen BK.out 1))
   go_ret
   exact ⟨rfl, HB.out, _, HG.out, HS.out⟩
  subst c5
  rw [if_pos rfl] at H
  have A5 := am_ AQ
  clear AQ
  by_cases c6 : (L.length : Int) = 5
  ·rw [if_pos c6] at H
   have c6b0 : ((L.length : Int) == 5) = true := beq_iff_eq.mpr c6
   have c6b1 : ((L.length : Int) = 5) = True := eq_true c6
   clear c6
   simp only [Option.some.injEq, Prod.mk.injEq] at H
   obtain ⟨rfl, rfl, rfl⟩ := H
   go_enter Tryd.func74, Tryd.ntmps74
   go_wp2_with (first | ((with_reducible refine gate_dst (N := 3) rfl ?_); refine be_ 3 #[.string a0, .slice A1 l1.length c1] 52 ?_; intro gb hgb w1 hbox hb; replace HB := am_ (rd_bs au6_0 (Nat.le_of_lt (blk_lt au6_1)) hb); replace HG := am_ (blk_below au6_1 hb); replace HS := am_ (Kd.S_below au6_5 hb); have BK := am_ hbox; have NB : g ≠ gb := blk_ne HG.out hbox (by decide); have ua : gb ≠ g := NB.symm; clear hb hbox hgb; obtain ⟨ex, ey, ez, eA, eB⟩ := c5_ HG.out; have dd := blk_frozen HG.out 4; have de := blk_frozen HG.out 3; obtain ⟨eC, eD⟩ := c2_ BK.out; have df := blk_frozen BK.out 0; have dg := blk_frozen BK.out 1) | (go_at_call 60; (with_reducible refine (F60.calls k a0 A1 c1 l1 (⟨#[71, 82, 72]⟩ : ByteArray) 2 t1 true _ ?sd1 HC.out A5.out).mono ?_); (case sd1 => exact au6_12); rintro e w3 ⟨v3, rfl, bm, hb⟩; obtain ⟨Ap, cp, rfl⟩ := Kd.R_slice bm; have HP := am_ (Kd.R_reads' bm).2.2; clear bm; replace HB := am_ (rd_bs au6_0 (Nat.le_of_lt (blk_lt au6_1)) hb); replace HG := am_ (blk_below au6_1 hb); replace HS := am_ (Kd.S_below au6_5 hb); replace BK := am_ (blk_below au6_2 hb); clear hb; clear ex ey ez eA eB dd df eC de dg eD; obtain ⟨gr, fD, fE, gu, gv⟩ := c5_ HG.out; have dI := blk_frozen HG.out 4; have dJ := blk_frozen HG.out 3; obtain ⟨gx, gy⟩ := c2_ BK.out; have dK := blk_frozen BK.out 0; have dL := blk_frozen BK.out 1))
   go_ret
   exact ⟨rfl, HB.out, _, HG.out, HS.out⟩
  rw [if_neg c6] at H
  have c6b0 : ((L.length : Int) == 5) = false := beq_eq_false_iff_ne.mpr c6
  clear c6
  by_cases c7 : 0 < (t1.length : Int)
  rotate_left
  ·rw [if_neg c7] at H
   cases H
  rw [if_pos c7] at H
  have c7b0 : decide ((0 : Int) < (t1.length : Int)) = true := decide_eq_true c7
  clear c7
  replace H := Option.bind_eq_some_iff.mp H
  obtain ⟨⟨q1, q2⟩, lF, H⟩ := H
  dsimp only at H
  by_cases c8 : 1 < (t1.length : Int)
  rotate_left
  ·rw [if_neg c8] at H
   cases H
  rw [if_pos c8] at H
  have c8b0 : decide ((1 : Int) < (t1.length : Int)) = true := decide_eq_true c8
  clear c8
  replace H := Option.bind_eq_some_iff.mp H
  obtain ⟨⟨s1, s2⟩, OO, H⟩ := H
  dsimp only at H
  by_cases c9 : q2 = true
  rotate_left
  ·replace c9 := Bool.eq_false_iff.mpr c9
   subst c9
   rw [if_neg (by decide)] at H
   have A6 := am_ lF
   have A7 := am_ OO
   clear lF OO
   simp only [Option.some.injEq, Prod.mk.injEq] at H
   obtain ⟨rfl, rfl, rfl⟩ := H
   go_enter Tryd.func74, Tryd.ntmps74
   go_wp2_with (first | ((with_reducible refine gate_dst (N := 3) rfl ?_); refine be_ 3 #[.string a0, .slice A1 l1.length c1] 52 ?_; intro gb hgb w1 hbox hb; replace HB := am_ (rd_bs au6_0 (Nat.le_of_lt (blk_lt au6_1)) hb); replace HG := am_ (blk_below au6_1 hb); replace HS := am_ (Kd.S_below au6_5 hb); have BK := am_ hbox; have NB : g ≠ gb := blk_ne HG.out hbox (by decide); have ua : gb ≠ g := NB.symm; clear hb hbox hgb; obtain ⟨ex, ey, ez, eA, eB⟩ := c5_ HG.out; have dd := blk_frozen HG.out 4; have de := blk_frozen HG.out 3; obtain ⟨eC, eD⟩ := c2_ BK.out; have df := blk_frozen BK.out 0; have dg := blk_frozen BK.out 1) | (go_at_call 60; (with_reducible refine (F60.calls k a0 A1 c1 l1 (⟨#[71, 82, 72]⟩ : ByteArray) 2 t1 true _ ?sd1 HC.out A5.out).mono ?_); (case sd1 => exact au6_12); rintro e w3 ⟨v3, rfl, bm, hb⟩; obtain ⟨Ap, cp, rfl⟩ := Kd.R_slice bm; have HP := am_ (Kd.R_reads' bm).2.2; clear bm; replace HB := am_ (rd_bs au6_0 (Nat.le_of_lt (blk_lt au6_1)) hb); replace HG := am_ (blk_below au6_1 hb); replace HS := am_ (Kd.S_below au6_5 hb); replace BK := am_ (blk_below au6_2 hb); clear hb; clear ex ey ez eA eB dd df eC de dg eD; obtain ⟨gr, fD, fE, gu, gv⟩ := c5_ HG.out; have dI := blk_frozen HG.out 4; have dJ := blk_frozen HG.out 3; obtain ⟨gx, gy⟩ := c2_ BK.out; have dK := blk_frozen BK.out 0; have dL := blk_frozen BK.out 1; have sF : 0 ≤ (0 : Int) := (by omega); have sG : (0 : Int) < (t1.length : Int) := od_; obtain ⟨Nr, e0_, iD⟩ := Kd.at_string HP.out 0 sF sG; cases e0_; have Io : (0 < t1.length) = True := eq_true (by omega); (try rw [show ((0 : Int)).toNat = 0 from rfl] at iD); (try rw [Addr.add_zero'] at iD); (try simp only [show (1 : Int).toNat = 1 from rfl, Nat.reduceMul, Nat.reduceEqDiff, Go.Addr.add, ↓reduceIte] at iD); replace sF := eq_true sF; replace sG := eq_true sG) | (go_at_call 62; (with_reducible refine (F62.calls k (rdOf ByteArray.empty t1 0) 1 7 q1 false _ ?sd2 A6.out).mono ?_); (case sd2 => exact au6_16); rintro e w4 ⟨rfl, hb⟩; have qg := am_ (Kd.C_below HP.out hb); clear HP; have HP := qg; clear qg; replace HB := am_ (rd_bs au6_0 (Nat.le_of_lt (blk_lt au6_1)) hb); replace HG := am_ (blk_below au6_1 hb); replace HS := am_ (Kd.S_below au6_5 hb); replace BK := am_ (blk_below au6_2 hb); clear hb; clear gr fD fE gu gv dI dK gx dJ dL gy; obtain ⟨lJ, lK, lL, lM, lN⟩ := c5_ HG.out; have ip := blk_frozen HG.out 4; have iq := blk_frozen HG.out 3; obtain ⟨lO, lP⟩ := c2_ BK.out; have ir := blk_frozen BK.out 0; have iu := blk_frozen BK.out 1; clear iD; have EL : 0 ≤ (1 : Int) := (by omega); have zA : (1 : Int) < (t1.length : Int) := od_; obtain ⟨Xa, Xb, qh⟩ := Kd.at_string HP.out 1 EL zA; obtain rfl : Nr = Xa := (by injection Xb); have Xc : (1 < t1.length) = True := eq_true (by omega); (try rw [show ((0 : Int)).toNat = 0 from rfl] at qh); (try rw [Addr.add_zero'] at qh); (try simp only [show (1 : Int).toNat = 1 from rfl, Nat.reduceMul, Nat.reduceEqDiff, Go.Addr.add, ↓reduceIte] at qh); replace EL := eq_true EL; replace zA := eq_true zA) | (go_at_call 62; (with_reducible refine (F62.calls k (rdOf ByteArray.empty t1 1) 1 999999 s1 s2 _ ?sd2 A7.out).mono ?_); (case sd2 => exact au6_16); rintro e w5 ⟨rfl, hb⟩; have qg := am_ (Kd.C_below HP.out hb); clear HP; have HP := qg; clear qg; replace HB := am_ (rd_bs au6_0 (Nat.le_of_lt (blk_lt au6_1)) hb); replace HG := am_ (blk_below au6_1 hb); replace HS := am_ (Kd.S_below au6_5 hb); replace BK := am_ (blk_below au6_2 hb); clear hb; clear lJ lK lL lM lN ip ir lO iq iu lP; obtain ⟨AE, AF, AG, AH, AI⟩ := c5_ HG.out; have ri := blk_frozen HG.out 4; have rj := blk_frozen HG.out 3; obtain ⟨AJ, AK⟩ := c2_ BK.out; have rk := blk_frozen BK.out 0; have rl := blk_frozen BK.out 1))
   go_ret
   exact ⟨rfl, HB.out, _, HG.out, HS.out⟩
  subst c9
  rw [if_pos rfl] at H
  by_cases c10 : s2 = true
  rotate_left
  ·replace c10 := Bool.eq_false_iff.mpr c10
   subst c10
   rw [if_neg (by decide)] at H
   have A6 := am_ lF
   have A7 := am_ OO
   clear lF OO
   simp only [Option.some.injEq, Prod.mk.injEq] at H
   obtain ⟨rfl, rfl, rfl⟩ := H
   go_enter Tryd.func74, Tryd.ntmps74
   go_wp2_with (first | ((with_reducible refine gate_dst (N := 3) rfl ?_); refine be_ 3 #[.string a0, .slice A1 l1.length c1] 52 ?_; intro gb hgb w1 hbox hb; replace HB := am_ (rd_bs au6_0 (Nat.le_of_lt (blk_lt au6_1)) hb); replace HG := am_ (blk_below au6_1 hb); replace HS := am_ (Kd.S_below au6_5 hb); have BK := am_ hbox; have NB : g ≠ gb := blk_ne HG.out hbox (by decide); have ua : gb ≠ g := NB.symm; clear hb hbox hgb; obtain ⟨ex, ey, ez, eA, eB⟩ := c5_ HG.out; have dd := blk_frozen HG.out 4; have de := blk_frozen HG.out 3; obtain ⟨eC, eD⟩ := c2_ BK.out; have df := blk_frozen BK.out 0; have dg := blk_frozen BK.out 1) | (go_at_call 60; (with_reducible refine (F60.calls k a0 A1 c1 l1 (⟨#[71, 82, 72]⟩ : ByteArray) 2 t1 true _ ?sd1 HC.out A5.out).mono ?_); (case sd1 => exact au6_12); rintro e w3 ⟨v3, rfl, bm, hb⟩; obtain ⟨Ap, cp, rfl⟩ := Kd.R_slice bm; have HP := am_ (Kd.R_reads' bm).2.2; clear bm; replace HB := am_ (rd_bs au6_0 (Nat.le_of_lt (blk_lt au6_1)) hb); replace HG := am_ (blk_below au6_1 hb); replace HS := am_ (Kd.S_below au6_5 hb); replace BK := am_ (blk_below au6_2 hb); clear hb; clear ex ey ez eA eB dd df eC de dg eD; obtain ⟨gr, fD, fE, gu, gv⟩ := c5_ HG.out; have dI := blk_frozen HG.out 4; have dJ := blk_frozen HG.out 3; obtain ⟨gx, gy⟩ := c2_ BK.out; have dK := blk_frozen BK.out 0; have dL := blk_frozen BK.out 1; have sF : 0 ≤ (0 : Int) := (by omega); have sG : (0 : Int) < (t1.length : Int) := od_; obtain ⟨Nr, e0_, iD⟩ := Kd.at_string HP.out 0 sF sG; cases e0_; have Io : (0 < t1.length) = True := eq_true (by omega); (try rw [show ((0 : Int)).toNat = 0 from rfl] at iD); (try rw [Addr.add_zero'] at iD); (try simp only [show (1 : Int).toNat = 1 from rfl, Nat.reduceMul, Nat.reduceEqDiff, Go.Addr.add, ↓reduceIte] at iD); replace sF := eq_true sF; replace sG := eq_true sG) | (go_at_call 62; (with_reducible refine (F62.calls k (rdOf ByteArray.empty t1 0) 1 7 q1 true _ ?sd2 A6.out).mono ?_); (case sd2 => exact au6_16); rintro e w4 ⟨rfl, hb⟩; have qg := am_ (Kd.C_below HP.out hb); clear HP; have HP := qg; clear qg; replace HB := am_ (rd_bs au6_0 (Nat.le_of_lt (blk_lt au6_1)) hb); replace HG := am_ (blk_below au6_1 hb); replace HS := am_ (Kd.S_below au6_5 hb); replace BK := am_ (blk_below au6_2 hb); clear hb; clear gr fD fE gu gv dI dK gx dJ dL gy; obtain ⟨lJ, lK, lL, lM, lN⟩ := c5_ HG.out; have ip := blk_frozen HG.out 4; have iq := blk_frozen HG.out 3; obtain ⟨lO, lP⟩ := c2_ BK.out; have ir := blk_frozen BK.out 0; have iu := blk_frozen BK.out 1; clear iD; have EL : 0 ≤ (1 : Int) := (by omega); have zA : (1 : Int) < (t1.length : Int) := od_; obtain ⟨Xa, Xb, qh⟩ := Kd.at_string HP.out 1 EL zA; obtain rfl : Nr = Xa := (by injection Xb); have Xc : (1 < t1.length) = True := eq_true (by omega); (try rw [show ((0 : Int)).toNat = 0 from rfl] at qh); (try rw [Addr.add_zero'] at qh); (try simp only [show (1 : Int).toNat = 1 from rfl, Nat.reduceMul, Nat.reduceEqDiff, Go.Addr.add, ↓reduceIte] at qh); replace EL := eq_true EL; replace zA := eq_true zA) | (go_at_call 62; (with_reducible refine (F62.calls k (rdOf ByteArray.empty t1 1) 1 999999 s1 false _ ?sd2 A7.out).mono ?_); (case sd2 => exact au6_16); rintro e w5 ⟨rfl, hb⟩; have qg := am_ (Kd.C_below HP.out hb); clear HP; have HP := qg; clear qg; replace HB := am_ (rd_bs au6_0 (Nat.le_of_lt (blk_lt au6_1)) hb); replace HG := am_ (blk_below au6_1 hb); replace HS := am_ (Kd.S_below au6_5 hb); replace BK := am_ (blk_below au6_2 hb); clear hb; clear lJ lK lL lM lN ip ir lO iq iu lP; obtain ⟨AE, AF, AG, AH, AI⟩ := c5_ HG.out; have ri := blk_frozen HG.out 4; have rj := blk_frozen HG.out 3; obtain ⟨AJ, AK⟩ := c2_ BK.out; have rk := blk_frozen BK.out 0; have rl := blk_frozen BK.out 1))
   go_ret
   exact ⟨rfl, HB.out, _, HG.out, HS.out⟩
  subst c10
  rw [if_pos rfl] at H
  by_cases ng : L.length < 1000000
  rotate_left
  ·rw [if_neg ng] at H
   cases H
  rw [if_pos ng] at H
  have LM := am_ ng
  clear ng
  have A6 := am_ lF
  have A7 := am_ OO
  clear lF OO
  simp only [Option.some.injEq, Prod.mk.injEq] at H
  obtain ⟨rfl, rfl, rfl⟩ := H
  go_enter Tryd.func74, Tryd.ntmps74
  go_wp2_with (first | ((with_reducible refine gate_dst (N := 3) rfl ?_); refine be_ 3 #[.string a0, .slice A1 l1.length c1] 52 ?_; intro gb hgb w1 hbox hb; replace HB := am_ (rd_bs au6_0 (Nat.le_of_lt (blk_lt au6_1)) hb); replace HG := am_ (blk_below au6_1 hb); replace HS := am_ (Kd.S_below au6_5 hb); have BK := am_ hbox; have NB : g ≠ gb := blk_ne HG.out hbox (by decide); have ua : gb ≠ g := NB.symm; clear hb hbox hgb; obtain ⟨ex, ey, ez, eA, eB⟩ := c5_ HG.out; have dd := blk_frozen HG.out 4; have de := blk_frozen HG.out 3; obtain ⟨eC, eD⟩ := c2_ BK.out; have df := blk_frozen BK.out 0; have dg := blk_frozen BK.out 1) | (go_at_call 60; (with_reducible refine (F60.calls k a0 A1 c1 l1 (⟨#[71, 82, 72]⟩ : ByteArray) 2 t1 true _ ?sd1 HC.out A5.out).mono ?_); (case sd1 => exact au6_12); rintro e w3 ⟨v3, rfl, bm, hb⟩; obtain ⟨Ap, cp, rfl⟩ := Kd.R_slice bm; have HP := am_ (Kd.R_reads' bm).2.2; clear bm; replace HB := am_ (rd_bs au6_0 (Nat.le_of_lt (blk_lt au6_1)) hb); replace HG := am_ (blk_below au6_1 hb); replace HS := am_ (Kd.S_below au6_5 hb); replace BK := am_ (blk_below au6_2 hb); clear hb; clear ex ey ez eA eB dd df eC de dg eD; obtain ⟨gr, fD, fE, gu, gv⟩ := c5_ HG.out; have dI := blk_frozen HG.out 4; have dJ := blk_frozen HG.out 3; obtain ⟨gx, gy⟩ := c2_ BK.out; have dK := blk_frozen BK.out 0; have dL := blk_frozen BK.out 1; have sF : 0 ≤ (0 : Int) := (by omega); have sG : (0 : Int) < (t1.length : Int) := od_; obtain ⟨Nr, e0_, iD⟩ := Kd.at_string HP.out 0 sF sG; cases e0_; have Io : (0 < t1.length) = True := eq_true (by omega); (try rw [show ((0 : Int)).toNat = 0 from rfl] at iD); (try rw [Addr.add_zero'] at iD); (try simp only [show (1 : Int).toNat = 1 from rfl, Nat.reduceMul, Nat.reduceEqDiff, Go.Addr.add, ↓reduceIte] at iD); replace sF := eq_true sF; replace sG := eq_true sG) | (go_at_call 62; (with_reducible refine (F62.calls k (rdOf ByteArray.empty t1 0) 1 7 q1 true _ ?sd2 A6.out).mono ?_); (case sd2 => exact au6_16); rintro e w4 ⟨rfl, hb⟩; have qg := am_ (Kd.C_below HP.out hb); clear HP; have HP := qg; clear qg; replace HB := am_ (rd_bs au6_0 (Nat.le_of_lt (blk_lt au6_1)) hb); replace HG := am_ (blk_below au6_1 hb); replace HS := am_ (Kd.S_below au6_5 hb); replace BK := am_ (blk_below au6_2 hb); clear hb; clear gr fD fE gu gv dI dK gx dJ dL gy; obtain ⟨lJ, lK, lL, lM, lN⟩ := c5_ HG.out; have ip := blk_frozen HG.out 4; have iq := blk_frozen HG.out 3; obtain ⟨lO, lP⟩ := c2_ BK.out; have ir := blk_frozen BK.out 0; have iu := blk_frozen BK.out 1; clear iD; have EL : 0 ≤ (1 : Int) := (by omega); have zA : (1 : Int) < (t1.length : Int) := od_; obtain ⟨Xa, Xb, qh⟩ := Kd.at_string HP.out 1 EL zA; obtain rfl : Nr = Xa := (by injection Xb); have Xc : (1 < t1.length) = True := eq_true (by omega); (try rw [show ((0 : Int)).toNat = 0 from rfl] at qh); (try rw [Addr.add_zero'] at qh); (try simp only [show (1 : Int).toNat = 1 from rfl, Nat.reduceMul, Nat.reduceEqDiff, Go.Addr.add, ↓reduceIte] at qh); replace EL := eq_true EL; replace zA := eq_true zA) | (go_at_call 62; (with_reducible refine (F62.calls k (rdOf ByteArray.empty t1 1) 1 999999 s1 true _ ?sd2 A7.out).mono ?_); (case sd2 => exact au6_16); rintro e w5 ⟨rfl, hb⟩; have qg := am_ (Kd.C_below HP.out hb); clear HP; have HP := qg; clear qg; replace HB := am_ (rd_bs au6_0 (Nat.le_of_lt (blk_lt au6_1)) hb); replace HG := am_ (blk_below au6_1 hb); replace HS := am_ (Kd.S_below au6_5 hb); replace BK := am_ (blk_below au6_2 hb); clear hb; clear lJ lK lL lM lN ip ir lO iq iu lP; obtain ⟨AE, AF, AG, AH, AI⟩ := c5_ HG.out; have ri := blk_frozen HG.out 4; have rj := blk_frozen HG.out 3; obtain ⟨AJ, AK⟩ := c2_ BK.out; have rk := blk_frozen BK.out 0; have rl := blk_frozen BK.out 1) | ((with_reducible refine gate_builtin (b := .append) (xs := #[.tmp 72, .tmp 76]) rfl ?_); at_builtin; refine Kd.S_append k83 (g + 1) rfl (.tmp 72) (.tmp 76) 27 83 (.agg #[(.int .i64 0), (.int .i64 0), (.slice none 0 0)]) 40 rfl Tryd.underlying27 rd_info83 rfl (by decide) (by omega) (.slice Ao L.length co) L (⟨q1, s1, []⟩ : S83) [.int .i64 q1, .int .i64 s1, .slice none 0 0] (fun _ => True) (fun _ => False) rfl rfl ?aP (fun _ h_ => h_.elim) (fun _ _ => trivial) ?aO (Below.refl _ _) ?aS ?aL ?_; (case aP => exact k83_mkM _ _ _ (⟨q1, s1, []⟩ : S83) (Kd.S_nil _ _ _ _ _)); (case aO => exact Kd.S_mono HS.out (fun _ _ => ⟨trivial, fun h_ => h_⟩)); (case aS => exact blk_lt HG.out); (case aL => have := LM.out; omega); intro v6 w6 ho hb qx hat; obtain ⟨lF, Fz, rfl⟩ := Kd.S_slice ho; rw [show (L ++ [(⟨q1, s1, []⟩ : S83)]).length = L.length + 1 from by simp] at ho; have bI := am_ (HB.out.trans (hb.mono (Nat.le_succ g))); have bZ := am_ ((hb.block g (Nat.lt_succ_self g)).trans HG.out); have n2_ := am_ ho; clear HB HG HS BK; clear AE AF AG AH AI ri rk AJ rj rl AK; have HB := bI; have HG := bZ; have HS := n2_; clear bI bZ n2_ ho hb qx hat; have Xd := blk_frozen HG.out 4; have Xe := blk_frozen HG.out 3; have a7G : w6.cell? ⟨g, 3, none⟩ = some (.slice Ao L.length co) := (blk_cell HG.out 3).trans rfl; have a7H : w6.cell? ⟨g, 4, none⟩ = some (.int .i64 inn) := (blk_cell HG.out 4).trans rfl))
  go_ret
  exact ⟨rfl, (HB.out.setCell (p := ⟨g, 3, none⟩) (Nat.le_refl g) _).setCell (p := ⟨g, 4, none⟩) (Nat.le_refl g) _, _, blk_put (blk_put HG.out 3 _ rfl) 4 _ rfl, rd_far (rd_far HS.out 3 _) 4 _⟩
theorem rd_hfr {α : Type} {d : Kd α} {e g n cap base : Nat} {W : World} {ok oki : Nat → Prop} {xs : List α} {i : Int} {c : List Value} (h : Kd.H d e W base ok (.slice (some ⟨g, 0, none⟩) n cap) xs i oki c) (h0 : 0 ≤ i) (h1 : i < n) (j : Nat) : W.frozen? ⟨g, i.toNat * d.sz + j, none⟩ = false := by
 obtain ⟨rows, hl, hraw, _⟩ := Kd.H_raw h h0 h1
 obtain ⟨_, _, _, _, hfr⟩ := Kd.R_elem hraw [] i h0 h1
 exact hfr j
theorem rd_hcell {α : Type} {d : Kd α} {e g n cap base : Nat} {W : World} {ok oki : Nat → Prop} {xs : List α} {i : Int} {c : List Value} (h : Kd.H d e W base ok (.slice (some ⟨g, 0, none⟩) n cap) xs i oki c) (h0 : 0 ≤ i) (h1 : i < n) (j : Nat) (u : Value) (hu : c[j]? = some u) : W.cell? ⟨g, i.toNat * d.sz + j, none⟩ = some u := by
 obtain ⟨rows, hl, hraw, _, _, hcc, _⟩ := Kd.H_raw h h0 h1
 exact hcc j u hu
theorem rd_h12 {g gbk m n c : Nat} {W : World} {ok oki : Nat → Prop} {L : List S83} {f0 f1 : Int} {v2 : Value} (h : Aside0 (Kd.H k83 83 W (g + 1) ok (.slice (some ⟨gbk, 0, none⟩) n c) L ((m - 1 : Nat) : Int) oki [.int .i64 f0, .int .i64 f1, v2])) (h1 : Aside0 (1 ≤ m)) (hn : m = n := by rfl) : W.cell? ⟨gbk, (m - 1) * 3 + 1, none⟩ = some (.int .i64 f1) ∧ W.cell? ⟨gbk, (m - 1) * 3 + 2, none⟩ = some v2 := ⟨rd_hcell h.out (by omega) (by have := h1.out; omega) 1 _ rfl, rd_hcell h.out (by omega) (by have := h1.out; omega) 2 _ rfl⟩
/-- The messages of a bundle, appended to, and the bundle's cell stored. -/
theorem rd_putM {g gbk n c : Nat} {W w6 : World} {L : List S83} {i : Int} {oki : Nat → Prop} {f0 f1 : Int} {ms ms' : List S85} {v2 v6 : Value}
  (hH : Kd.H k83 83 W (g + 1) (fun k_ => g + 1 ≤ k_) (.slice (some ⟨gbk, 0, none⟩) n c) L i oki [.int .i64 f0, .int .i64 f1, v2]) (hM : k85.S 85 W (g + 1) oki v2 ms) (hoki : ∀ k_, oki k_ → k_ ≠ gbk) (hlt : gbk < W.heap.size) (h0 : 0 ≤ i) (h1 : i < n)
  (hsz : g + 1 ≤ W.heap.size) (ho : k85.S 85 w6 (g + 1) (fun k_ => oki k_ ∨ W.heap.size ≤ k_) v6 ms') (qx : W.grownBy w6 v2.ownBlock) :
  (w6.cell? ⟨gbk, i.toNat * 3 + 2, none⟩ = some v2 ∧ w6.frozen? ⟨gbk, i.toNat * 3 + 2, none⟩ = false) ∧ Kd.S k83 83 (w6.setCell ⟨gbk, i.toNat * 3 + 2, none⟩ v6) (g + 1) (fun k_ => g + 1 ≤ k_) (.slice (some ⟨gbk, 0, none⟩) n c) (L.set i.toNat ⟨f0, f1, ms'⟩) := by
 obtain ⟨A6, c6, rfl⟩ := Kd.S_slice ho
 have h6 := Kd.H_step (Kd.H_widen hH) (w1 := w6) (fun k _ hn hk => qx.block k hk (fun e_ => hn (.inl ((Kd.S_R hM).1 k e_.symm))))
 obtain ⟨h7, h8⟩ := Kd.H_seg h6 h0 h1 (seg := [.slice A6 ms'.length c6]) (j := 2) (by show 2 + 1 ≤ 3; omega) (by simp [Value.oneCell'])
 have e : w6.setCells gbk (i.toNat * k83.sz + 2) [.slice A6 ms'.length c6] = w6.setCell ⟨gbk, i.toNat * 3 + 2, none⟩ (.slice A6 ms'.length c6) := rfl
 rw [e] at h7 h8
 refine ⟨⟨rd_hcell h6 h0 h1 2 _ rfl, rd_hfr h6 h0 h1 2⟩, ?_⟩
 refine Kd.H_back h7 (k83_mkM _ _ _ (⟨f0, f1, ms'⟩ : S83) (Kd.S_step ho (fun k hk hl => h8.block k hl (fun he => ?_)))) (fun k hk => hk.elim .inl (fun h_ => .inr ⟨Nat.le_trans hsz h_, h_⟩))
 have he : k = gbk := by injection he
 rcases hk with hk | hk
 ·exact hoki k hk he
 ·omega
def rd_tm2 (k : Nat) (inn : Int) (L : List S83) (b : S83) (a0 : ByteArray) (l1 : List S55) : Option (Int × Int × List S83) := (F60.f k a0 l1 (⟨#[77, 83, 72]⟩ : ByteArray) 1).bind fun p => (if p.2 = true then (if (b.f2.length : Int) = 10 then (some (3, inn, L)) else (if 0 < (p.1.length : Int) then ((F62.f k (rdOf ByteArray.empty p.1 0) 1 999999).bind fun q => (if q.2 = true then (if b.f2.length < 1000000 then (some (0, 2, L.set (L.length - 1) ⟨b.f0, b.f1, b.f2 ++ [(⟨q.1, []⟩ : S85)]⟩)) else (none)) else (some (3, inn, L)))) else (none))) else (some (3, inn, L)))
def rd_takeMessage.f (k : Nat) (inn : Int) (L : List S83) (a0 : ByteArray) (l1 : List S55) : Option (Int × Int × List S83) := if 1 ≤ L.length then (if a0.toList = ([71, 82, 84] : List UInt8) then (if ((L.getD (L.length - 1) z83).f2.length : Int) > 0 then ((F77.f k a0 l1 (⟨#[71, 82, 84]⟩ : ByteArray) ((L.getD (L.length - 1) z83).f2.length : Int) (L.getD (L.length - 1) z83).f1).bind fun r => some (r, 0, L)) else (rd_tm2 k inn L (L.getD (L.length - 1) z83) a0 l1)) else (rd_tm2 k inn L (L.getD (L.length - 1) z83) a0 l1)) else (none)
theorem rd_takeMessage.calls (k g : Nat) (A B : ByteArray) (n inn : Int) (vB : Value) (L : List S83) (a0 : ByteArray) (A1 : Option Addr) (c1 : Nat) (l1 : List S55) (r : Int) (inn' : Int) (L' : List S83) (w0 w : World)
  (AD : Below w0.heap.size w0 w) (hge : w0.heap.size ≤ g) (hg : w.heap[g]? = some (.cells #[.string A, .string B, .int .i64 n, vB, .int .i64 inn] 93 (0, 0))) (hS : Kd.S k83 83 w (g + 1) (fun _ => True) vB L) (hr : Kd.C k55 w0 A1 l1.length l1) (hc : l1.length ≤ c1) (hT : LaidT true Tryd.prog w0)
  (h : rd_takeMessage.f k inn L a0 l1 = some (r, inn', L')) :
  Calls Tryd.prog 75 #[.pointer (some ⟨g, 0, none⟩), .agg #[.string a0, .slice A1 l1.length c1]] w fun e w' => e = .returned (.int .i64 r) ∧ Below g w w' ∧ ∃ vB', w'.heap[g]? = some (.cells #[.string A, .string B, .int .i64 n, vB', .int .i64 inn'] 93 (0, 0)) ∧ Kd.S k83 83 w' (g + 1) (fun _ => True) vB' L' := by
 have EK := Tryd.underlying93
 have Nq := Tryd.underlying27
 have jn := Tryd.underlying52
 have Aa := Tryd.underlying83
 have GL := Tryd.underlying85
 have W7 := Tryd.underlying81
 have H := h
 unfold rd_takeMessage.f at H
 clear h
 by_cases zP : 1 ≤ L.length
 rotate_left
 ·rw [if_neg zP] at H
  cases H
 rw [if_pos zP] at H
 obtain ⟨Ao, co, rfl⟩ := Kd.S_slice hS
 obtain ⟨ad, A7, c7, e7, nl, qi, EM, EN⟩ := at_T83 ((Kd.S_reads' hS).2.2) ((L.length - 1 : Nat) : Int) (by omega) (by omega)
 cases e7
 obtain ⟨gbk, hgk⟩ : ∃ g, ad = ⟨g, 0, none⟩ := Kd.R_head (Kd.S_R hS)
 subst hgk
 clear nl qi EM EN
 have hM1 := (Kd.S_reads' hS).2.2.2.1
 have fD : g + 1 ≤ gbk := Kd.S_base hS gbk rfl
 have Xf := Kd.S_mono (Kd.S_bound hS) (ok' := fun k_ => g + 1 ≤ k_) (fun k_ hk_ => hk_.2.1)
 obtain ⟨oki, ce, hcl, hM, hcc, hfr, hoki, hH⟩ := Kd.S_elem Xf z83 ((L.length - 1 : Nat) : Int) (by omega) (by omega)
 have fE : gbk < w.heap.size := World.block_lt_of_cell? w ⟨gbk, _, none⟩ (hcc 0 _ (by obtain ⟨v, rfl, _⟩ := k83_openM hM; rfl))
 obtain ⟨v2, rfl, hR⟩ := k83_openM hM
 have HBm : L.getD (((L.length - 1 : Nat) : Int).toNat) z83 = L.getD (L.length - 1) z83 := rfl
 rw [HBm] at hR hH
 have HLB := am_ (show L.set (L.length - 1) (L.getD (L.length - 1) z83) = L from by
  rw [List.getD_eq_getElem?_getD, List.getElem?_eq_getElem (by omega), Option.getD_some, List.set_getElem_self])
 generalize L.getD (L.length - 1) z83 = b at H hR hH HLB
 obtain ⟨Am, cm, rfl⟩ := Kd.S_slice hR
 have HB := am_ (Below.refl g w)
 have In := am_ AD
 have HGE := am_ hge
 have HG := am_ hg
 have HH := am_ hH
 have HM := am_ hR
 have HOK := am_ hoki
 have HBL := am_ fE
 have HBG := am_ fD
 have FC := am_ hM1
 have ko := am_ zP
 have HR := am_ hr
 have HC := am_ hc
 have HT := am_ hT
 clear AD hge hg hS Xf hr hc hT hcl hcc hfr hoki hH hM hR fD fE hM1 zP HBm
 by_cases g_ : a0.toList = ([71, 82, 84] : List UInt8) ∧ (b.f2.length : Int) > 0
 ·rw [if_pos g_.1, if_pos g_.2] at H
  have c2b0 : (a0.toList == ([71, 82, 84] : List UInt8)) = true := beq_iff_eq.mpr g_.1
  have c3b0 : decide ((b.f2.length : Int) > 0) = true := decide_eq_true g_.2
  have c3b1 : decide (0 < b.f2.length) = true := decide_eq_true (by have := g_.2; omega)
  clear g_
  replace H := Option.bind_eq_some_iff.mp H
  obtain ⟨W8, FA, H⟩ := H
  have A4 := am_ FA
  clear FA
  simp only [Option.some.injEq, Prod.mk.injEq] at H
  obtain ⟨rfl, rfl, rfl⟩ := H
  go_enter Tryd.func75, Tryd.ntmps75
  go_wp2_with (first | ((with_reducible refine gate_dst (N := 3) rfl ?_); refine be_ 3 #[.string a0, .slice A1 l1.length c1] 52 ?_; intro gb hgb w1 hbox hb; replace HB := am_ (rd_bs au6_0 (Nat.le_of_lt (blk_lt au6_1)) hb); replace HG := am_ (blk_below au6_1 hb); replace HH := am_ (Kd.H_below au6_3 hb); replace HM := am_ (Kd.S_below au6_6 hb); replace HBL := am_ (Nat.lt_of_lt_of_le HBL.out (hb).size); have BK := am_ hbox; have NB : g ≠ gb := blk_ne HG.out hbox (by decide); have ua : gb ≠ g := NB.symm; clear hb hbox hgb; obtain ⟨ex, ey, ez, eA, eB⟩ := c5_ HG.out; have dd := blk_frozen HG.out 4; have de := blk_frozen HG.out 3; obtain ⟨eC, eD⟩ := c2_ BK.out; have df := blk_frozen BK.out 0; have dg := blk_frozen BK.out 1; obtain ⟨kF, kG⟩ := rd_h12 HH ko) | (go_at_call 102; (with_reducible refine (rd_bundle.calls g gbk L.length co A B n inn _ HG.out ko.out FC.out).mono ?_); rintro e w2 ⟨rfl, hd⟩; have hb := hd.below; replace HB := am_ (rd_bs au6_0 (Nat.le_of_lt (blk_lt au6_1)) hb); replace HG := am_ (blk_below au6_1 hb); replace HH := am_ (Kd.H_below au6_3 hb); replace HM := am_ (Kd.S_below au6_6 hb); replace HBL := am_ (Nat.lt_of_lt_of_le HBL.out (hb).size); replace BK := am_ (blk_below au6_2 hb); clear hb hd; clear ex ey ez eA eB dd df eC de dg eD kF kG; obtain ⟨gr, fD, fE, gu, gv⟩ := c5_ HG.out; have dI := blk_frozen HG.out 4; have dJ := blk_frozen HG.out 3; obtain ⟨gx, gy⟩ := c2_ BK.out; have dK := blk_frozen BK.out 0; have dL := blk_frozen BK.out 1; obtain ⟨kH, kI⟩ := rd_h12 HH ko))
  clear gr fD fE gu gv dI dK gx dJ dL gy kH kI
  have bI := am_ (Below.setCell HB.out (p := ⟨g, 4, none⟩) (Nat.le_refl g) (.int .i64 0))
  have bZ := am_ (show (w2.setCell ⟨g, 4, none⟩ (.int .i64 0)).heap[g]? = some (.cells #[.string A, .string B, .int .i64 n, .slice (some ⟨gbk, 0, none⟩) L.length co, .int .i64 0] 93 (0, 0)) from blk_put HG.out 4 _ rfl)
  have n2_ := am_ (Kd.H_far (p := ⟨g, 4, none⟩) HH.out (fun k_ hk_ => by show k_ ≠ g; omega) (.int .i64 0))
  have ji := am_ (rd_far HM.out 4 (.int .i64 0))
  have jj := am_ (show gbk < (w2.setCell ⟨g, 4, none⟩ (.int .i64 0)).heap.size from by simpa [World.setCell] using HBL.out)
  have cD := am_ (blk_far (p := ⟨g, 4, none⟩) BK.out ua (.int .i64 0))
  clear HB HG HH HM HBL BK
  generalize w2.setCell ⟨g, 4, none⟩ (.int .i64 0) = w2 at bI bZ n2_ ji jj cD ⊢
  have HB := bI
  have HG := bZ
  have HH := n2_
  have HM := ji
  have HBL := jj
  have BK := cD
  clear bI bZ n2_ ji jj cD
  refine start_ (n := 8) (S := fun w' => w'.cell? ⟨gb, 0, none⟩ = some (.string a0) ∧ w'.cell? ⟨gb, 1, none⟩ = some (.slice A1 l1.length c1) ∧ w'.cell? ⟨gbk, (L.length - 1) * 3 + 1, none⟩ = some (.int .i64 b.f1)) (ds := []) (bs 8 0) (by kernel_rfl) rfl rfl ⟨((blk_cell BK.out 0).trans rfl), ((blk_cell BK.out 1).trans rfl), (rd_hcell HH.out (by omega) (by have := ko.out; omega) 1 _ rfl)⟩ (fun hHeld => ?_)
  refine pk_ 1 29 (bs 8 2) ?_ rfl rfl
  refine pk_ 2 30 (bs 8 6) ?_ rfl rfl
  refine pk_ 3 31 (bs 8 14) ?_ rfl rfl
  refine pk_ 4 32 (bs 8 30) ?_ rfl rfl
  refine take_ (i := 0) (N := some 28) (v := ?_) (a' := ?_) (bs 8 31) rfl rfl (by kernel_rfl) (fun _ _ _ h => h) (Or.inl ⟨by rfl, ?_⟩) hHeld ?_ ?_
  rotate_left
  ·rintro w' ⟨s0, s1, s2⟩
   go_simp
   with_reducible rfl
  rotate_left
  ·simp only [Act.put, List.setIfInBounds_toArray, List.set_cons_zero, List.set_cons_succ, i64_w, i32_w]
   rfl
  refine take_ (i := 5) (N := some 33) (v := ?_) (a' := ?_) (bs 8 63) rfl rfl (by kernel_rfl) (fun _ _ _ h => h) (Or.inl ⟨by rfl, ?_⟩) hHeld ?_ ?_
  rotate_left
  ·rintro w' ⟨s0, s1, s2⟩
   go_simp
   with_reducible rfl
  rotate_left
  ·simp only [Act.put, List.setIfInBounds_toArray, List.set_cons_zero, List.set_cons_succ, i64_w, i32_w]
   rfl
  refine one_ (i := 6) (N := some 34) (bs 8 127) rfl rfl (by kernel_rfl) (by decide) (fun K hK => ?_)
  refine goes_ Tryd.func77 (by kernel_rfl) rfl #[.agg #[.string a0, .slice A1 l1.length c1], .string (⟨#[71, 82, 84]⟩ : ByteArray), .int .i64 (b.f2.length : Int), .int .i64 b.f1] (by rfl) rfl rfl au6_20 ?_
  with_reducible refine (F77.calls k a0 A1 c1 l1 (⟨#[71, 82, 84]⟩ : ByteArray) (b.f2.length : Int) b.f1 W8 _ ?sd1 HC.out ?sd2 A4.out).mono ?_
  (case sd1 => exact au6_12)
  (case sd2 => exact au6_16)
  rintro e w3 ⟨rfl, hb⟩
  have vD := pw_cell_below hb hHeld.1
  have vE := pw_cell_below hb hHeld.2.1
  have vF := pw_cell_below hb hHeld.2.2
  refine ⟨_, rfl, ?_⟩
  replace HB := am_ (rd_bs au6_0 (Nat.le_of_lt (blk_lt au6_1)) hb); replace HG := am_ (blk_below au6_1 hb); replace HH := am_ (Kd.H_below au6_3 hb); replace HM := am_ (Kd.S_below au6_6 hb); replace HBL := am_ (Nat.lt_of_lt_of_le HBL.out (hb).size); replace BK := am_ (blk_below au6_2 hb)
  clear hb
  refine hK.out _ _ ⟨vD, vE, vF⟩ (fun hHeld => ?_)
  clear hK K
  refine no_ 34 ?_
  refine pk_ 7 4 (bs 8 255) ?_ rfl rfl
  refine done_ (by kernel_rfl) ?_

  go_wp2
  go_ret
  exact ⟨rfl, HB.out, _, HG.out, au6_11⟩
 have hor_ : ((a0.toList == ([71, 82, 84] : List UInt8)) = true ∧ decide ((b.f2.length : Int) > 0) = false ∧ decide (0 < b.f2.length) = false) ∨ (a0.toList == ([71, 82, 84] : List UInt8)) = false := by
  by_cases c2 : a0.toList = ([71, 82, 84] : List UInt8)
  ·exact .inl ⟨beq_iff_eq.mpr c2, decide_eq_false (fun c3 => g_ ⟨c2, c3⟩), decide_eq_false (fun c3 => g_ ⟨c2, by omega⟩)⟩
  ·exact .inr (beq_eq_false_iff_ne.mpr c2)
 have W9 : rd_tm2 k inn L b a0 l1 = some (r, inn', L') := by
  by_cases c2 : a0.toList = ([71, 82, 84] : List UInt8)
  ·rw [if_pos c2, if_neg (fun c3 => g_ ⟨c2, c3⟩)] at H
   exact H
  ·rw [if_neg c2] at H
   exact H
 clear H g_
 have H := W9
 clear W9
 rcases hor_ with ⟨c2b0, c3b0, c3b1⟩ | c2b0
 all_goals
  unfold rd_tm2 at H
  replace H := Option.bind_eq_some_iff.mp H
  obtain ⟨⟨t1, t2⟩, AQ, H⟩ := H
  dsimp only at H
  by_cases c5 : t2 = true
  rotate_left
  ·replace c5 := Bool.eq_false_iff.mpr c5
   subst c5
   rw [if_neg (by decide)] at H
   have A5 := am_ AQ
   clear AQ
   simp only [Option.some.injEq, Prod.mk.injEq] at H
   obtain ⟨rfl, rfl, rfl⟩ := H
   go_enter Tryd.func75, Tryd.ntmps75
   go_wp2_with (first | ((with_reducible refine gate_dst (N := 3) rfl ?_); refine be_ 3 #[.string a0, .slice A1 l1.length c1] 52 ?_; intro gb hgb w1 hbox hb; replace HB := am_ (rd_bs au6_0 (Nat.le_of_lt (blk_lt au6_1)) hb); replace HG := am_ (blk_below au6_1 hb); replace HH := am_ (Kd.H_below au6_3 hb); replace HM := am_ (Kd.S_below au6_6 hb); replace HBL := am_ (Nat.lt_of_lt_of_le HBL.out (hb).size); have BK := am_ hbox; have NB : g ≠ gb := blk_ne HG.out hbox (by decide); have ua : gb ≠ g := NB.symm; clear hb hbox hgb; obtain ⟨ex, ey, ez, eA, eB⟩ := c5_ HG.out; have dd := blk_frozen HG.out 4; have de := blk_frozen HG.out 3; obtain ⟨eC, eD⟩ := c2_ BK.out; have df := blk_frozen BK.out 0; have dg := blk_frozen BK.out 1; obtain ⟨kF, kG⟩ := rd_h12 HH ko) | (go_at_call 102; (with_reducible refine (rd_bundle.calls g gbk L.length co A B n inn _ HG.out ko.out FC.out).mono ?_); rintro e w2 ⟨rfl, hd⟩; have hb := hd.below; replace HB := am_ (rd_bs au6_0 (Nat.le_of_lt (blk_lt au6_1)) hb); replace HG := am_ (blk_below au6_1 hb); replace HH := am_ (Kd.H_below au6_3 hb); replace HM := am_ (Kd.S_below au6_6 hb); replace HBL := am_ (Nat.lt_of_lt_of_le HBL.out (hb).size); replace BK := am_ (blk_below au6_2 hb); clear hb hd; clear ex ey ez eA eB dd df eC de dg eD kF kG; obtain ⟨gr, fD, fE, gu, gv⟩ := c5_ HG.out; have dI := blk_frozen HG.out 4; have dJ := blk_frozen HG.out 3; obtain ⟨gx, gy⟩ := c2_ BK.out; have dK := blk_frozen BK.out 0; have dL := blk_frozen BK.out 1; obtain ⟨kH, kI⟩ := rd_h12 HH ko) | (go_at_call 60; (with_reducible refine (F60.calls k a0 A1 c1 l1 (⟨#[77, 83, 72]⟩ : ByteArray) 1 t1 false _ ?sd1 HC.out A5.out).mono ?_); (case sd1 => exact au6_12); rintro e w3 ⟨v3, rfl, bm, hb⟩; obtain ⟨Ap, cp, rfl⟩ := Kd.R_slice bm; have HP := am_ (Kd.R_reads' bm).2.2; clear bm; replace HB := am_ (rd_bs au6_0 (Nat.le_of_lt (blk_lt au6_1)) hb); replace HG := am_ (blk_below au6_1 hb); replace HH := am_ (Kd.H_below au6_3 hb); replace HM := am_ (Kd.S_below au6_6 hb); replace HBL := am_ (Nat.lt_of_lt_of_le HBL.out (hb).size); replace BK := am_ (blk_below au6_2 hb); clear hb; clear gr fD fE gu gv dI dK gx dJ dL gy kH kI; obtain ⟨lJ, lK, lL, lM, lN⟩ := c5_ HG.out; have ip := blk_frozen HG.out 4; have iq := blk_frozen HG.out 3; obtain ⟨lO, lP⟩ := c2_ BK.out; have ir := blk_frozen BK.out 0; have iu := blk_frozen BK.out 1; obtain ⟨sH, sI⟩ := rd_h12 HH ko))
   go_ret
   exact ⟨rfl, HB.out, _, HG.out, au6_11⟩
  subst c5
  rw [if_pos rfl] at H
  have A5 := am_ AQ
  clear AQ
  by_cases c6 : (b.f2.length : Int) = 10
  ·rw [if_pos c6] at H
   have c6b0 : ((b.f2.length : Int) == 10) = true := beq_iff_eq.mpr c6
   have c6b1 : ((b.f2.length : Int) = 10) = True := eq_true c6
   clear c6
   simp only [Option.some.injEq, Prod.mk.injEq] at H
   obtain ⟨rfl, rfl, rfl⟩ := H
   go_enter Tryd.func75, Tryd.ntmps75
   go_wp2_with (first | ((with_reducible refine gate_dst (N := 3) rfl ?_); refine be_ 3 #[.string a0, .slice A1 l1.length c1] 52 ?_; intro gb hgb w1 hbox hb; replace HB := am_ (rd_bs au6_0 (Nat.le_of_lt (blk_lt au6_1)) hb); replace HG := am_ (blk_below au6_1 hb); replace HH := am_ (Kd.H_below au6_3 hb); replace HM := am_ (Kd.S_below au6_6 hb); replace HBL := am_ (Nat.lt_of_lt_of_le HBL.out (hb).size); have BK := am_ hbox; have NB : g ≠ gb := blk_ne HG.out hbox (by decide); have ua : gb ≠ g := NB.symm; clear hb hbox hgb; obtain ⟨ex, ey, ez, eA, eB⟩ := c5_ HG.out; have dd := blk_frozen HG.out 4; have de := blk_frozen HG.out 3; obtain ⟨eC, eD⟩ := c2_ BK.out; have df := blk_frozen BK.out 0; have dg := blk_frozen BK.out 1; obtain ⟨kF, kG⟩ := rd_h12 HH ko) | (go_at_call 102; (with_reducible refine (rd_bundle.calls g gbk L.length co A B n inn _ HG.out ko.out FC.out).mono ?_); rintro e w2 ⟨rfl, hd⟩; have hb := hd.below; replace HB := am_ (rd_bs au6_0 (Nat.le_of_lt (blk_lt au6_1)) hb); replace HG := am_ (blk_below au6_1 hb); replace HH := am_ (Kd.H_below au6_3 hb); replace HM := am_ (Kd.S_below au6_6 hb); replace HBL := am_ (Nat.lt_of_lt_of_le HBL.out (hb).size); replace BK := am_ (blk_below au6_2 hb); clear hb hd; clear ex ey ez eA eB dd df eC de dg eD kF kG; obtain ⟨gr, fD, fE, gu, gv⟩ := c5_ HG.out; have dI := blk_frozen HG.out 4; have dJ := blk_frozen HG.out 3; obtain ⟨gx, gy⟩ := c2_ BK.out; have dK := blk_frozen BK.out 0; have dL := blk_frozen BK.out 1; obtain ⟨kH, kI⟩ := rd_h12 HH ko) | (go_at_call 60; (with_reducible refine (F60.calls k a0 A1 c1 l1 (⟨#[77, 83, 72]⟩ : ByteArray) 1 t1 true _ ?sd1 HC.out A5.out).mono ?_); (case sd1 => exact au6_12); rintro e w3 ⟨v3, rfl, bm, hb⟩; obtain ⟨Ap, cp, rfl⟩ := Kd.R_slice bm; have HP := am_ (Kd.R_reads' bm).2.2; clear bm; replace HB := am_ (rd_bs au6_0 (Nat.le_of_lt (blk_lt au6_1)) hb); replace HG := am_ (blk_below au6_1 hb); replace HH := am_ (Kd.H_below au6_3 hb); replace HM := am_ (Kd.S_below au6_6 hb); replace HBL := am_ (Nat.lt_of_lt_of_le HBL.out (hb).size); replace BK := am_ (blk_below au6_2 hb); clear hb; clear gr fD fE gu gv dI dK gx dJ dL gy kH kI; obtain ⟨lJ, lK, lL, lM, lN⟩ := c5_ HG.out; have ip := blk_frozen HG.out 4; have iq := blk_frozen HG.out 3; obtain ⟨lO, lP⟩ := c2_ BK.out; have ir := blk_frozen BK.out 0; have iu := blk_frozen BK.out 1; obtain ⟨sH, sI⟩ := rd_h12 HH ko))
   go_ret
   exact ⟨rfl, HB.out, _, HG.out, au6_11⟩
  rw [if_neg c6] at H
  have c6b0 : ((b.f2.length : Int) == 10) = false := beq_eq_false_iff_ne.mpr c6
  clear c6
  by_cases c7 : 0 < (t1.length : Int)
  rotate_left
  ·rw [if_neg c7] at H
   cases H
  rw [if_pos c7] at H
  have c7b0 : decide ((0 : Int) < (t1.length : Int)) = true := decide_eq_true c7
  clear c7
  replace H := Option.bind_eq_some_iff.mp H
  obtain ⟨⟨q1, q2⟩, lF, H⟩ := H
  dsimp only at H
  by_cases c9 : q2 = true
  rotate_left
  ·replace c9 := Bool.eq_false_iff.mpr c9
   subst c9
   rw [if_neg (by decide)] at H
   have A6 := am_ lF
   clear lF
   simp only [Option.some.injEq, Prod.mk.injEq] at H
   obtain ⟨rfl, rfl, rfl⟩ := H
   go_enter Tryd.func75, Tryd.ntmps75
   go_wp2_with (first | ((with_reducible refine gate_dst (N := 3) rfl ?_); refine be_ 3 #[.string a0, .slice A1 l1.length c1] 52 ?_; intro gb hgb w1 hbox hb; replace HB := am_ (rd_bs au6_0 (Nat.le_of_lt (blk_lt au6_1)) hb); replace HG := am_ (blk_below au6_1 hb); replace HH := am_ (Kd.H_below au6_3 hb); replace HM := am_ (Kd.S_below au6_6 hb); replace HBL := am_ (Nat.lt_of_lt_of_le HBL.out (hb).size); have BK := am_ hbox; have NB : g ≠ gb := blk_ne HG.out hbox (by decide); have ua : gb ≠ g := NB.symm; clear hb hbox hgb; obtain ⟨ex, ey, ez, eA, eB⟩ := c5_ HG.out; have dd := blk_frozen HG.out 4; have de := blk_frozen HG.out 3; obtain ⟨eC, eD⟩ := c2_ BK.out; have df := blk_frozen BK.out 0; have dg := blk_frozen BK.out 1; obtain ⟨kF, kG⟩ := rd_h12 HH ko) | (go_at_call 102; (with_reducible refine (rd_bundle.calls g gbk L.length co A B n inn _ HG.out ko.out FC.out).mono ?_); rintro e w2 ⟨rfl, hd⟩; have hb := hd.below; replace HB := am_ (rd_bs au6_0 (Nat.le_of_lt (blk_lt au6_1)) hb); replace HG := am_ (blk_below au6_1 hb); replace HH := am_ (Kd.H_below au6_3 hb); replace HM := am_ (Kd.S_below au6_6 hb); replace HBL := am_ (Nat.lt_of_lt_of_le HBL.out (hb).size); replace BK := am_ (blk_below au6_2 hb); clear hb hd; clear ex ey ez eA eB dd df eC de dg eD kF kG; obtain ⟨gr, fD, fE, gu, gv⟩ := c5_ HG.out; have dI := blk_frozen HG.out 4; have dJ := blk_frozen HG.out 3; obtain ⟨gx, gy⟩ := c2_ BK.out; have dK := blk_frozen BK.out 0; have dL := blk_frozen BK.out 1; obtain ⟨kH, kI⟩ := rd_h12 HH ko) | (go_at_call 60; (with_reducible refine (F60.calls k a0 A1 c1 l1 (⟨#[77, 83, 72]⟩ : ByteArray) 1 t1 true _ ?sd1 HC.out A5.out).mono ?_); (case sd1 => exact au6_12); rintro e w3 ⟨v3, rfl, bm, hb⟩; obtain ⟨Ap, cp, rfl⟩ := Kd.R_slice bm; have HP := am_ (Kd.R_reads' bm).2.2; clear bm; replace HB := am_ (rd_bs au6_0 (Nat.le_of_lt (blk_lt au6_1)) hb); replace HG := am_ (blk_below au6_1 hb); replace HH := am_ (Kd.H_below au6_3 hb); replace HM := am_ (Kd.S_below au6_6 hb); replace HBL := am_ (Nat.lt_of_lt_of_le HBL.out (hb).size); replace BK := am_ (blk_below au6_2 hb); clear hb; clear gr fD fE gu gv dI dK gx dJ dL gy kH kI; obtain ⟨lJ, lK, lL, lM, lN⟩ := c5_ HG.out; have ip := blk_frozen HG.out 4; have iq := blk_frozen HG.out 3; obtain ⟨lO, lP⟩ := c2_ BK.out; have ir := blk_frozen BK.out 0; have iu := blk_frozen BK.out 1; obtain ⟨sH, sI⟩ := rd_h12 HH ko; have sF : 0 ≤ (0 : Int) := (by omega); have sG : (0 : Int) < (t1.length : Int) := od_; obtain ⟨Nr, e0_, iD⟩ := Kd.at_string HP.out 0 sF sG; cases e0_; have Io : (0 < t1.length) = True := eq_true (by omega); (try rw [show ((0 : Int)).toNat = 0 from rfl] at iD); (try rw [Addr.add_zero'] at iD); (try simp only [show (1 : Int).toNat = 1 from rfl, Nat.reduceMul, Nat.reduceEqDiff, Go.Addr.add, ↓reduceIte] at iD); replace sF := eq_true sF; replace sG := eq_true sG) | (go_at_call 62; (with_reducible refine (F62.calls k (rdOf ByteArray.empty t1 0) 1 999999 q1 false _ ?sd2 A6.out).mono ?_); (case sd2 => exact au6_16); rintro e w4 ⟨rfl, hb⟩; have qg := am_ (Kd.C_below HP.out hb); clear HP; have HP := qg; clear qg; replace HB := am_ (rd_bs au6_0 (Nat.le_of_lt (blk_lt au6_1)) hb); replace HG := am_ (blk_below au6_1 hb); replace HH := am_ (Kd.H_below au6_3 hb); replace HM := am_ (Kd.S_below au6_6 hb); replace HBL := am_ (Nat.lt_of_lt_of_le HBL.out (hb).size); replace BK := am_ (blk_below au6_2 hb); clear hb; clear lJ lK lL lM lN ip ir lO iq iu lP sH sI; obtain ⟨AE, AF, AG, AH, AI⟩ := c5_ HG.out; have ri := blk_frozen HG.out 4; have rj := blk_frozen HG.out 3; obtain ⟨AJ, AK⟩ := c2_ BK.out; have rk := blk_frozen BK.out 0; have rl := blk_frozen BK.out 1; obtain ⟨Xg, Xh⟩ := rd_h12 HH ko))
   go_ret
   exact ⟨rfl, HB.out, _, HG.out, au6_11⟩
  subst c9
  rw [if_pos rfl] at H
  by_cases ng : b.f2.length < 1000000
  rotate_left
  ·rw [if_neg ng] at H
   cases H
  rw [if_pos ng] at H
  have LM := am_ ng
  clear ng
  have A6 := am_ lF
  clear lF
  simp only [Option.some.injEq, Prod.mk.injEq] at H
  obtain ⟨rfl, rfl, rfl⟩ := H
  go_enter Tryd.func75, Tryd.ntmps75
  go_wp2_with (first | ((with_reducible refine gate_dst (N := 3) rfl ?_); refine be_ 3 #[.string a0, .slice A1 l1.length c1] 52 ?_; intro gb hgb w1 hbox hb; replace HB := am_ (rd_bs au6_0 (Nat.le_of_lt (blk_lt au6_1)) hb); replace HG := am_ (blk_below au6_1 hb); replace HH := am_ (Kd.H_below au6_3 hb); replace HM := am_ (Kd.S_below au6_6 hb); replace HBL := am_ (Nat.lt_of_lt_of_le HBL.out (hb).size); have BK := am_ hbox; have NB : g ≠ gb := blk_ne HG.out hbox (by decide); have ua : gb ≠ g := NB.symm; clear hb hbox hgb; obtain ⟨ex, ey, ez, eA, eB⟩ := c5_ HG.out; have dd := blk_frozen HG.out 4; have de := blk_frozen HG.out 3; obtain ⟨eC, eD⟩ := c2_ BK.out; have df := blk_frozen BK.out 0; have dg := blk_frozen BK.out 1; obtain ⟨kF, kG⟩ := rd_h12 HH ko) | (go_at_call 102; (with_reducible refine (rd_bundle.calls g gbk L.length co A B n inn _ HG.out ko.out FC.out).mono ?_); rintro e w2 ⟨rfl, hd⟩; have hb := hd.below; replace HB := am_ (rd_bs au6_0 (Nat.le_of_lt (blk_lt au6_1)) hb); replace HG := am_ (blk_below au6_1 hb); replace HH := am_ (Kd.H_below au6_3 hb); replace HM := am_ (Kd.S_below au6_6 hb); replace HBL := am_ (Nat.lt_of_lt_of_le HBL.out (hb).size); replace BK := am_ (blk_below au6_2 hb); clear hb hd; clear ex ey ez eA eB dd df eC de dg eD kF kG; obtain ⟨gr, fD, fE, gu, gv⟩ := c5_ HG.out; have dI := blk_frozen HG.out 4; have dJ := blk_frozen HG.out 3; obtain ⟨gx, gy⟩ := c2_ BK.out; have dK := blk_frozen BK.out 0; have dL := blk_frozen BK.out 1; obtain ⟨kH, kI⟩ := rd_h12 HH ko) | (go_at_call 60; (with_reducible refine (F60.calls k a0 A1 c1 l1 (⟨#[77, 83, 72]⟩ : ByteArray) 1 t1 true _ ?sd1 HC.out A5.out).mono ?_); (case sd1 => exact au6_12); rintro e w3 ⟨v3, rfl, bm, hb⟩; obtain ⟨Ap, cp, rfl⟩ := Kd.R_slice bm; have HP := am_ (Kd.R_reads' bm).2.2; clear bm; replace HB := am_ (rd_bs au6_0 (Nat.le_of_lt (blk_lt au6_1)) hb); replace HG := am_ (blk_below au6_1 hb); replace HH := am_ (Kd.H_below au6_3 hb); replace HM := am_ (Kd.S_below au6_6 hb); replace HBL := am_ (Nat.lt_of_lt_of_le HBL.out (hb).size); replace BK := am_ (blk_below au6_2 hb); clear hb; clear gr fD fE gu gv dI dK gx dJ dL gy kH kI; obtain ⟨lJ, lK, lL, lM, lN⟩ := c5_ HG.out; have ip := blk_frozen HG.out 4; have iq := blk_frozen HG.out 3; obtain ⟨lO, lP⟩ := c2_ BK.out; have ir := blk_frozen BK.out 0; have iu := blk_frozen BK.out 1; obtain ⟨sH, sI⟩ := rd_h12 HH ko; have sF : 0 ≤ (0 : Int) := (by omega); have sG : (0 : Int) < (t1.length : Int) := od_; obtain ⟨Nr, e0_, iD⟩ := Kd.at_string HP.out 0 sF sG; cases e0_; have Io : (0 < t1.length) = True := eq_true (by omega); (try rw [show ((0 : Int)).toNat = 0 from rfl] at iD); (try rw [Addr.add_zero'] at iD); (try simp only [show (1 : Int).toNat = 1 from rfl, Nat.reduceMul, Nat.reduceEqDiff, Go.Addr.add, ↓reduceIte] at iD); replace sF := eq_true sF; replace sG := eq_true sG) | (go_at_call 62; (with_reducible refine (F62.calls k (rdOf ByteArray.empty t1 0) 1 999999 q1 true _ ?sd2 A6.out).mono ?_); (case sd2 => exact au6_16); rintro e w4 ⟨rfl, hb⟩; have qg := am_ (Kd.C_below HP.out hb); clear HP; have HP := qg; clear qg; replace HB := am_ (rd_bs au6_0 (Nat.le_of_lt (blk_lt au6_1)) hb); replace HG := am_ (blk_below au6_1 hb); replace HH := am_ (Kd.H_below au6_3 hb); replace HM := am_ (Kd.S_below au6_6 hb); replace HBL := am_ (Nat.lt_of_lt_of_le HBL.out (hb).size); replace BK := am_ (blk_below au6_2 hb); clear hb; clear lJ lK lL lM lN ip ir lO iq iu lP sH sI; obtain ⟨AE, AF, AG, AH, AI⟩ := c5_ HG.out; have ri := blk_frozen HG.out 4; have rj := blk_frozen HG.out 3; obtain ⟨AJ, AK⟩ := c2_ BK.out; have rk := blk_frozen BK.out 0; have rl := blk_frozen BK.out 1; obtain ⟨Xg, Xh⟩ := rd_h12 HH ko) | ((with_reducible refine gate_builtin (b := .append) (xs := #[.tmp 59, .tmp 62]) rfl ?_); at_builtin; refine Kd.S_append k85 (g + 1) rfl (.tmp 59) (.tmp 62) 81 85 (.agg #[(.int .i64 0), (.slice none 0 0)]) 32 rfl Tryd.underlying81 rd_info85 rfl (by decide) (by omega) (.slice Am b.f2.length cm) b.f2 (⟨q1, []⟩ : S85) [.int .i64 q1, .slice none 0 0] (fun k_ => oki k_ ∨ w4.heap.size ≤ k_) (fun _ => False) rfl rfl ?aP (fun _ h_ => h_.elim) (fun _ h_ => .inr h_) ?aO (Below.refl _ _) ?aS ?aL ?_; (case aP => exact k85_mkM _ _ _ (⟨q1, []⟩ : S85) (Kd.S_nil _ _ _ _ _)); (case aO => exact Kd.S_mono HM.out (fun _ hk_ => ⟨.inl hk_, fun h_ => h_⟩)); (case aS => exact blk_lt HG.out); (case aL => have := LM.out; omega); intro v6 w6 ho hb qx hat; obtain ⟨lF, Fz, rfl⟩ := Kd.S_slice ho; rw [show (b.f2 ++ [(⟨q1, []⟩ : S85)]).length = b.f2.length + 1 from by simp] at ho; obtain ⟨⟨Ns, qj⟩, n2_⟩ := rd_putM HH.out HM.out (fun k_ hk_ => (HOK.out k_ hk_).2) HBL.out (by omega) (by have := ko.out; omega) (blk_lt HG.out) ho qx; have bI := am_ (HB.out.trans (hb.mono (Nat.le_succ g))); have bZ := am_ ((hb.block g (Nat.lt_succ_self g)).trans HG.out); have n2a_ := am_ n2_; clear n2_; clear HB HG HH HM BK; clear AE AF AG AH AI ri rk AJ rj rl AK Xg Xh; have HB := bI; have HG := bZ; have HS := n2a_; clear bI bZ n2a_ ho hb qx hat; have Xd := blk_frozen HG.out 4; have Xe := blk_frozen HG.out 3; have a7G : w6.cell? ⟨g, 3, none⟩ = some (.slice (some ⟨gbk, 0, none⟩) L.length co) := (blk_cell HG.out 3).trans rfl; have a7H : w6.cell? ⟨g, 4, none⟩ = some (.int .i64 inn) := (blk_cell HG.out 4).trans rfl; have hke2' : w6.cell? ⟨gbk, (L.length - 1) * 3 + 2, none⟩ = some (.slice Am b.f2.length cm) := Ns; have hkf2' : w6.frozen? ⟨gbk, (L.length - 1) * 3 + 2, none⟩ = false := qj; clear Ns qj; have Xi : g ≠ gbk := (by have := HBG.out; omega); have b6i : gbk ≠ g := Xi.symm))
  go_ret
  exact ⟨rfl, (HB.out.setCell (p := ⟨gbk, (L.length - 1) * 3 + 2, none⟩) (by have := HBG.out; show g ≤ gbk; omega) _).setCell (p := ⟨g, 4, none⟩) (Nat.le_refl g) _, _, blk_put (blk_far HG.out (p := ⟨gbk, _, none⟩) Xi _) 4 _ rfl, Kd.S_mono (rd_far HS.out 4 _) (fun _ _ => trivial)⟩
theorem rd_gb {w w1 w2 : World} {row : Option Nat} (h : Below w.heap.size w w1) (k : w1.grownBy w2 row) : w.grownBy w2 row :=
 ⟨by first | exact k.os.trans h.os | exact h.os.trans k.os, by first | exact k.tape.trans h.tape | exact h.tape.trans k.tape, by first | exact k.output.trans h.output | exact h.output.trans k.output, Nat.le_trans h.size k.size, fun i hi hr => (k.block i (Nat.lt_of_lt_of_le hi h.size) hr).trans (h.block i hi)⟩
/-- The body of a message, appended to, and the message's cell stored. -/
theorem rd_putB {g gbk gm n c nm cm : Nat} {W w6 : World} {L : List S83} {ms : List S85} {i i2 : Int} {oki vG : Nat → Prop} {f0 f1 m0 : Int} {bd bd' : List S52} {v3 v6 : Value}
  (hH : Kd.H k83 83 W (g + 1) (fun k_ => g + 1 ≤ k_) (.slice (some ⟨gbk, 0, none⟩) n c) L i oki [.int .i64 f0, .int .i64 f1, .slice (some ⟨gm, 0, none⟩) nm cm]) (OP : Kd.H k85 85 W (g + 1) oki (.slice (some ⟨gm, 0, none⟩) nm cm) ms i2 vG [.int .i64 m0, v3]) (hM : k52.S 52 W (g + 1) vG v3 bd)
  (ub : ∀ k_, vG k_ → oki k_ ∧ k_ ≠ gm) (hgm : oki gm) (hlt : gm < W.heap.size) (h0 : 0 ≤ i2) (h1 : i2 < nm)
  (hsz : g + 1 ≤ W.heap.size) (ho : k52.S 52 w6 (g + 1) (fun k_ => vG k_ ∨ W.heap.size ≤ k_) v6 bd') (qx : W.grownBy w6 v3.ownBlock) :
  (w6.cell? ⟨gm, i2.toNat * 2 + 1, none⟩ = some v3 ∧ w6.frozen? ⟨gm, i2.toNat * 2 + 1, none⟩ = false) ∧ Kd.S k83 83 (w6.setCell ⟨gm, i2.toNat * 2 + 1, none⟩ v6) (g + 1) (fun k_ => g + 1 ≤ k_) (.slice (some ⟨gbk, 0, none⟩) n c) (L.set i.toNat ⟨f0, f1, ms.set i2.toNat ⟨m0, bd'⟩⟩) := by
 obtain ⟨A6, c6, rfl⟩ := Kd.S_slice ho
 have h6 := Kd.H_step (Kd.H_widen (Kd.H_mono OP (ok' := fun k_ => oki k_ ∨ W.heap.size ≤ k_) (fun k hk => .inl hk))) (w1 := w6) (fun k _ hn hk => qx.block k hk (fun e_ => hn (.inl ((Kd.S_R hM).1 k e_.symm))))
 obtain ⟨h7, h8⟩ := Kd.H_seg h6 h0 h1 (seg := [.slice A6 bd'.length c6]) (j := 1) (by show 1 + 1 ≤ 2; omega) (by simp [Value.oneCell'])
 have e : w6.setCells gm (i2.toNat * k85.sz + 1) [.slice A6 bd'.length c6] = w6.setCell ⟨gm, i2.toNat * 2 + 1, none⟩ (.slice A6 bd'.length c6) := rfl
 rw [e] at h7 h8
 refine ⟨⟨rd_hcell h6 h0 h1 1 _ rfl, rd_hfr h6 h0 h1 1⟩, ?_⟩
 have sJ := Kd.H_back h7 (k85_mkM _ _ _ (⟨m0, bd'⟩ : S85) (Kd.S_step ho (fun k hk hl => h8.block k hl (fun he => by
  have he : k = gm := by injection he
  rcases hk with hk | hk
  ·exact (ub k hk).2 he
  ·omega)))) (fun k hk => hk.elim .inl (fun h_ => .inr ⟨.inr h_, h_⟩))
 have h9 := Kd.H_step (Kd.H_widen hH) (w1 := w6.setCell ⟨gm, i2.toNat * 2 + 1, none⟩ (.slice A6 bd'.length c6)) (fun k _ hn hk => (h8.block k (Nat.lt_of_lt_of_le hk qx.size) (fun he => hn (.inl (by
  have he : k = gm := by injection he
  rw [he]; exact hgm)))).trans (qx.block k hk (fun e_ => hn (.inl (ub k ((Kd.S_R hM).1 k e_.symm)).1))))
 exact Kd.H_back h9 (k83_mkM _ _ _ (⟨f0, f1, ms.set i2.toNat ⟨m0, bd'⟩⟩ : S83) sJ) (fun k hk => hk.elim .inl (fun h_ => .inr ⟨Nat.le_trans hsz h_, h_⟩))
def rd_t2 (k : Nat) (inn : Int) (L : List S83) (b : S83) (m : S85) (a0 : ByteArray) (l1 : List S55) : Option (Int × Int × List S83) := if a0.toList = ([77, 83, 84] : List UInt8) then ((F77.f k a0 l1 (⟨#[77, 83, 84]⟩ : ByteArray) (m.f1.length : Int) m.f0).bind fun r => some (r, 1, L)) else ((F78.f k a0 l1).bind fun ok => (if ok = true then (if (m.f1.length : Int) = 40 then (some (3, inn, L)) else ((F79.f k a0 l1).bind fun s => (if m.f1.length < 1000000 then (some (0, inn, L.set (L.length - 1) ⟨b.f0, b.f1, b.f2.set (b.f2.length - 1) ⟨m.f0, m.f1 ++ [(⟨s.1, s.2⟩ : S52)]⟩⟩)) else (none)))) else (some (3, inn, L))))
def rd_take.f (k : Nat) (n inn : Int) (L : List S83) (a0 : ByteArray) (l1 : List S55) : Option (Int × Int × List S83) := if inn = 0 then (rd_takeBundle.f k n inn L a0 l1) else (if inn = 1 then (rd_takeMessage.f k inn L a0 l1) else (if inn = 2 then (if 1 ≤ L.length then (if 1 ≤ (L.getD (L.length - 1) z83).f2.length then (rd_t2 k inn L (L.getD (L.length - 1) z83) ((L.getD (L.length - 1) z83).f2.getD ((L.getD (L.length - 1) z83).f2.length - 1) z85) a0 l1) else (none)) else (none)) else (some (3, inn, L))))
theorem rd_take.calls (k g : Nat) (A B : ByteArray) (n inn : Int) (vB : Value) (L : List S83) (a0 : ByteArray) (A1 : Option Addr) (c1 : Nat) (l1 : List S55) (r : Int) (inn' : Int) (L' : List S83) (w0 w : World)
  (AD : Below w0.heap.size w0 w) (hge : w0.heap.size ≤ g) (hg : w.heap[g]? = some (.cells #[.string A, .string B, .int .i64 n, vB, .int .i64 inn] 93 (0, 0))) (hS : Kd.S k83 83 w (g + 1) (fun _ => True) vB L) (hr : Kd.C k55 w0 A1 l1.length l1) (hc : l1.length ≤ c1) (hT : LaidT true Tryd.prog w0)
  (h : rd_take.f k n inn L a0 l1 = some (r, inn', L')) :
  Calls Tryd.prog 52 #[.pointer (some ⟨g, 0, none⟩), .agg #[.string a0, .slice A1 l1.length c1]] w fun e w' => e = .returned (.int .i64 r) ∧ Below g w w' ∧ ∃ vB', w'.heap[g]? = some (.cells #[.string A, .string B, .int .i64 n, vB', .int .i64 inn'] 93 (0, 0)) ∧ Kd.S k83 83 w' (g + 1) (fun _ => True) vB' L' := by
 have EK := Tryd.underlying93
 have Nq := Tryd.underlying27
 have jn := Tryd.underlying52
 have Aa := Tryd.underlying83
 have GL := Tryd.underlying85
 have W7 := Tryd.underlying81
 have a7I := Tryd.underlying38
 have H := h
 unfold rd_take.f at H
 clear h
 by_cases d0 : inn = 0
 ·rw [if_pos d0] at H
  subst d0
  have HB := am_ (Below.refl g w)
  have In := am_ AD
  have HGE := am_ hge
  have HG := am_ hg
  have HS := am_ hS
  have HR := am_ hr
  have HC := am_ hc
  have HT := am_ hT
  have A4 := am_ H
  clear AD hge hg hS hr hc hT H
  go_enter Tryd.func52, Tryd.ntmps52
  go_wp2_with (first | ((with_reducible refine gate_dst (N := 3) rfl ?_); refine be_ 3 #[.string a0, .slice A1 l1.length c1] 52 ?_; intro gb hgb w1 hbox hb; replace HB := am_ (rd_bs au6_0 (Nat.le_of_lt (blk_lt au6_1)) hb); replace HG := am_ (blk_below au6_1 hb); replace HS := am_ (Kd.S_below au6_5 hb); have BK := am_ hbox; clear hb hbox hgb; obtain ⟨ex, ey, ez, eA, eB⟩ := c5_ HG.out; obtain ⟨eC, eD⟩ := c2_ BK.out) | (go_at_call 74; (with_reducible refine (rd_takeBundle.calls k g A B n 0 _ L a0 A1 c1 l1 r inn' L' w0 _ (rd_bt In.out HGE.out au6_0) HGE.out HG.out HS.out HR.out HC.out HT.out A4.out).mono ?_); rintro e w2 ⟨rfl, hb, vB', uc, sJ⟩; replace HB := am_ (HB.out.trans hb); replace HG := am_ uc; replace HS := am_ sJ; clear hb uc sJ; clear ex ey ez eA eB eC eD))
  go_ret
  exact ⟨rfl, HB.out, _, HG.out, HS.out⟩
 rw [if_neg d0] at H
 have d0b : (inn == 0) = false := beq_eq_false_iff_ne.mpr d0
 by_cases d1 : inn = 1
 ·rw [if_pos d1] at H
  subst d1
  have HB := am_ (Below.refl g w)
  have In := am_ AD
  have HGE := am_ hge
  have HG := am_ hg
  have HS := am_ hS
  have HR := am_ hr
  have HC := am_ hc
  have HT := am_ hT
  have A4 := am_ H
  clear AD hge hg hS hr hc hT H d0
  go_enter Tryd.func52, Tryd.ntmps52
  go_wp2_with (first | ((with_reducible refine gate_dst (N := 3) rfl ?_); refine be_ 3 #[.string a0, .slice A1 l1.length c1] 52 ?_; intro gb hgb w1 hbox hb; replace HB := am_ (rd_bs au6_0 (Nat.le_of_lt (blk_lt au6_1)) hb); replace HG := am_ (blk_below au6_1 hb); replace HS := am_ (Kd.S_below au6_5 hb); have BK := am_ hbox; clear hb hbox hgb; obtain ⟨ex, ey, ez, eA, eB⟩ := c5_ HG.out; obtain ⟨eC, eD⟩ := c2_ BK.out) | (go_at_call 75; (with_reducible refine (rd_takeMessage.calls k g A B n 1 _ L a0 A1 c1 l1 r inn' L' w0 _ (rd_bt In.out HGE.out au6_0) HGE.out HG.out HS.out HR.out HC.out HT.out A4.out).mono ?_); rintro e w2 ⟨rfl, hb, vB', uc, sJ⟩; replace HB := am_ (HB.out.trans hb); replace HG := am_ uc; replace HS := am_ sJ; clear hb uc sJ; clear ex ey ez eA eB eC eD))
  go_ret
  exact ⟨rfl, HB.out, _, HG.out, HS.out⟩
 rw [if_neg d1] at H
 have d1b : (inn == 1) = false := beq_eq_false_iff_ne.mpr d1
 by_cases d2 : inn = 2
 rotate_left
 ·rw [if_neg d2] at H
  have d2b : (inn == 2) = false := beq_eq_false_iff_ne.mpr d2
  simp only [Option.some.injEq, Prod.mk.injEq] at H
  obtain ⟨rfl, rfl, rfl⟩ := H
  have HB := am_ (Below.refl g w)
  have HG := am_ hg
  have HS := am_ hS
  clear AD hge hg hS hr hc hT d0 d1 d2
  go_enter Tryd.func52, Tryd.ntmps52
  go_wp2_with (first | ((with_reducible refine gate_dst (N := 3) rfl ?_); refine be_ 3 #[.string a0, .slice A1 l1.length c1] 52 ?_; intro gb hgb w1 hbox hb; replace HB := am_ (rd_bs au6_0 (Nat.le_of_lt (blk_lt au6_1)) hb); replace HG := am_ (blk_below au6_1 hb); replace HS := am_ (Kd.S_below au6_5 hb); have BK := am_ hbox; clear hb hbox hgb; obtain ⟨ex, ey, ez, eA, eB⟩ := c5_ HG.out; obtain ⟨eC, eD⟩ := c2_ BK.out))
  go_ret
  exact ⟨rfl, HB.out, _, HG.out, HS.out⟩
 rw [if_pos d2] at H
 clear d0 d1
 subst d2
 by_cases zP : 1 ≤ L.length
 rotate_left
 ·rw [if_neg zP] at H
  cases H
 rw [if_pos zP] at H
 obtain ⟨Ao, co, rfl⟩ := Kd.S_slice hS
 obtain ⟨ad, A7, c7, e7, nl, qi, EM, EN⟩ := at_T83 ((Kd.S_reads' hS).2.2) ((L.length - 1 : Nat) : Int) (by omega) (by omega)
 cases e7
 obtain ⟨gbk, hgk⟩ : ∃ g, ad = ⟨g, 0, none⟩ := Kd.R_head (Kd.S_R hS)
 subst hgk
 clear nl qi EM EN
 have hM1 := (Kd.S_reads' hS).2.2.2.1
 have Xf := Kd.S_mono (Kd.S_bound hS) (ok' := fun k_ => g + 1 ≤ k_) (fun k_ hk_ => hk_.2.1)
 obtain ⟨oki, ce, hcl, hM, hcc, hfr, hoki, hH⟩ := Kd.S_elem Xf z83 ((L.length - 1 : Nat) : Int) (by omega) (by omega)
 obtain ⟨v2, rfl, hR⟩ := k83_openM hM
 have HBm : L.getD (((L.length - 1 : Nat) : Int).toNat) z83 = L.getD (L.length - 1) z83 := rfl
 rw [HBm] at hR hH
 have HLB := am_ (show L.set (L.length - 1) (L.getD (L.length - 1) z83) = L from by
  rw [List.getD_eq_getElem?_getD, List.getElem?_eq_getElem (by omega), Option.getD_some, List.set_getElem_self])
 generalize L.getD (L.length - 1) z83 = b at H hR hH HLB
 by_cases c2_ : 1 ≤ b.f2.length
 rotate_left
 ·rw [if_neg c2_] at H
  cases H
 rw [if_pos c2_] at H
 obtain ⟨Am, cm, rfl⟩ := Kd.S_slice hR
 obtain ⟨ad, A7, c7, e7, nl, qi, EM, EN⟩ := at_T85 ((Kd.S_reads' hR).2.2) ((b.f2.length - 1 : Nat) : Int) (by omega) (by omega)
 cases e7
 obtain ⟨gm, hgk⟩ : ∃ g, ad = ⟨g, 0, none⟩ := Kd.R_head (Kd.S_R hR)
 subst hgk
 clear nl qi EM EN
 have hM2 := (Kd.S_reads' hR).2.2.2.1
 have hgm : oki gm := (Kd.S_R hR).1 gm rfl
 obtain ⟨vG, ce2, a7J, hN, Xj, a7K, ub, OP⟩ := Kd.S_elem hR z85 ((b.f2.length - 1 : Nat) : Int) (by omega) (by omega)
 obtain ⟨v3, rfl, Xk⟩ := k85_openM hN
 have ud : gm < w.heap.size := World.block_lt_of_cell? w ⟨gm, _, none⟩ (Xj 0 _ rfl)
 have HBn : b.f2.getD (((b.f2.length - 1 : Nat) : Int).toNat) z85 = b.f2.getD (b.f2.length - 1) z85 := rfl
 rw [HBn] at Xk OP
 have HLM := am_ (show b.f2.set (b.f2.length - 1) (b.f2.getD (b.f2.length - 1) z85) = b.f2 from by
  rw [List.getD_eq_getElem?_getD, List.getElem?_eq_getElem (by omega), Option.getD_some, List.set_getElem_self])
 generalize b.f2.getD (b.f2.length - 1) z85 = m at H Xk OP HLM
 obtain ⟨An, cn, rfl⟩ := Kd.S_slice Xk
 have HB := am_ (Below.refl g w)
 have In := am_ AD
 have HGE := am_ hge
 have HG := am_ hg
 have HH := am_ hH
 have ic := am_ OP
 have qf := am_ Xk
 have HOK := am_ hoki
 have a7L := am_ ub
 have HGM := am_ hgm
 have eY := am_ ud
 have FC := am_ hM1
 have HL2 := am_ hM2
 have ko := am_ zP
 have ie := am_ c2_
 have HR := am_ hr
 have HC := am_ hc
 have HT := am_ hT
 clear AD hge hg hS Xf hr hc hT hcl hcc hfr hoki hH hM hR hM1 zP HBm hM2 hgm a7J hN Xj a7K ub OP Xk ud HBn c2_
 unfold rd_t2 at H
 by_cases c3 : a0.toList = ([77, 83, 84] : List UInt8)
 ·rw [if_pos c3] at H
  have c3b0 : (a0.toList == ([77, 83, 84] : List UInt8)) = true := beq_iff_eq.mpr c3
  clear c3
  replace H := Option.bind_eq_some_iff.mp H
  obtain ⟨W8, FA, H⟩ := H
  have A4 := am_ FA
  clear FA
  simp only [Option.some.injEq, Prod.mk.injEq] at H
  obtain ⟨rfl, rfl, rfl⟩ := H
  go_enter Tryd.func52, Tryd.ntmps52
  go_wp2_with (first | ((with_reducible refine gate_dst (N := 3) rfl ?_); refine be_ 3 #[.string a0, .slice A1 l1.length c1] 52 ?_; intro gb hgb w1 hbox hb; replace HB := am_ (rd_bs au6_0 (Nat.le_of_lt (blk_lt au6_1)) hb); replace HG := am_ (blk_below au6_1 hb); replace HH := am_ (Kd.H_below au6_3 hb); replace ic := am_ (Kd.H_below au6_8 hb); replace qf := am_ (Kd.S_below au6_9 hb); replace eY := am_ (Nat.lt_of_lt_of_le eY.out (hb).size); have BK := am_ hbox; have NB : g ≠ gb := blk_ne HG.out hbox (by decide); have ua : gb ≠ g := NB.symm; clear hb hbox hgb; obtain ⟨ex, ey, ez, eA, eB⟩ := c5_ HG.out; have dd := blk_frozen HG.out 4; have de := blk_frozen HG.out 3; obtain ⟨eC, eD⟩ := c2_ BK.out; have df := blk_frozen BK.out 0; have dg := blk_frozen BK.out 1; have kF : w1.cell? ⟨gm, (b.f2.length - 1) * 2, none⟩ = some (.int .i64 m.f0) := rd_hcell ic.out (by omega) (by have := ie.out; omega) 0 _ rfl; have kG : w1.cell? ⟨gm, (b.f2.length - 1) * 2 + 1, none⟩ = some (.slice An m.f1.length cn) := rd_hcell ic.out (by omega) (by have := ie.out; omega) 1 _ rfl) | (go_at_call 76; have hkc : w1.cell? ⟨gbk, (L.length - 1) * 3 + 2, none⟩ = some (.slice (some ⟨gm, 0, none⟩) b.f2.length cm) := rd_hcell HH.out (by omega) (by have := ko.out; omega) 2 _ rfl; (with_reducible refine (rd_message.calls g gbk L.length co gm b.f2.length cm A B n 2 _ HG.out ko.out FC.out hkc ie.out HL2.out).mono ?_); clear hkc; rintro e w2 ⟨rfl, hd⟩; have hb := hd.below; replace HB := am_ (rd_bs au6_0 (Nat.le_of_lt (blk_lt au6_1)) hb); replace HG := am_ (blk_below au6_1 hb); replace HH := am_ (Kd.H_below au6_3 hb); replace ic := am_ (Kd.H_below au6_8 hb); replace qf := am_ (Kd.S_below au6_9 hb); replace eY := am_ (Nat.lt_of_lt_of_le eY.out (hb).size); replace BK := am_ (blk_below au6_2 hb); clear hb hd; clear ex ey ez eA eB dd df eC de dg eD kF kG; obtain ⟨gr, fD, fE, gu, gv⟩ := c5_ HG.out; have dI := blk_frozen HG.out 4; have dJ := blk_frozen HG.out 3; obtain ⟨gx, gy⟩ := c2_ BK.out; have dK := blk_frozen BK.out 0; have dL := blk_frozen BK.out 1; have kH : w2.cell? ⟨gm, (b.f2.length - 1) * 2, none⟩ = some (.int .i64 m.f0) := rd_hcell ic.out (by omega) (by have := ie.out; omega) 0 _ rfl; have kI : w2.cell? ⟨gm, (b.f2.length - 1) * 2 + 1, none⟩ = some (.slice An m.f1.length cn) := rd_hcell ic.out (by omega) (by have := ie.out; omega) 1 _ rfl))
  clear gr fD fE gu gv dI dK gx dJ dL gy kH kI
  have bI := am_ (Below.setCell HB.out (p := ⟨g, 4, none⟩) (Nat.le_refl g) (.int .i64 1))
  have bZ := am_ (show (w2.setCell ⟨g, 4, none⟩ (.int .i64 1)).heap[g]? = some (.cells #[.string A, .string B, .int .i64 n, .slice (some ⟨gbk, 0, none⟩) L.length co, .int .i64 1] 93 (0, 0)) from blk_put HG.out 4 _ rfl)
  have n2_ := am_ (Kd.H_far (p := ⟨g, 4, none⟩) HH.out (fun k_ hk_ => by show k_ ≠ g; omega) (.int .i64 1))
  have nv := am_ (Kd.H_far (p := ⟨g, 4, none⟩) ic.out (fun k_ hk_ => by have := (HOK.out k_ hk_).1; show k_ ≠ g; omega) (.int .i64 1))
  have ji := am_ (rd_far qf.out 4 (.int .i64 1))
  have jj := am_ (show gm < (w2.setCell ⟨g, 4, none⟩ (.int .i64 1)).heap.size from by simpa [World.setCell] using eY.out)
  have cD := am_ (blk_far (p := ⟨g, 4, none⟩) BK.out ua (.int .i64 1))
  clear HB HG HH ic qf eY BK
  generalize w2.setCell ⟨g, 4, none⟩ (.int .i64 1) = w2 at bI bZ n2_ ji jj nv cD ⊢
  have HB := bI
  have HG := bZ
  have HH := n2_
  have ic := nv
  have qf := ji
  have eY := jj
  have BK := cD
  clear bI bZ n2_ ji jj nv cD
  refine start_ (n := 12) (S := fun w' => w'.cell? ⟨gb, 0, none⟩ = some (.string a0) ∧ w'.cell? ⟨gb, 1, none⟩ = some (.slice A1 l1.length c1) ∧ w'.cell? ⟨gm, (b.f2.length - 1) * 2, none⟩ = some (.int .i64 m.f0) ∧ w'.cell? ⟨gm, (b.f2.length - 1) * 2 + 1, none⟩ = some (.slice An m.f1.length cn)) (ds := []) (bs 12 0) (by kernel_rfl) rfl rfl ⟨((blk_cell BK.out 0).trans rfl), ((blk_cell BK.out 1).trans rfl), (rd_hcell ic.out (by omega) (by have := ie.out; omega) 0 _ rfl), (rd_hcell ic.out (by omega) (by have := ie.out; omega) 1 _ rfl)⟩ (fun hHeld => ?_)
  refine pk_ 1 31 (bs 12 2) ?_ rfl rfl
  refine pk_ 2 32 (bs 12 6) ?_ rfl rfl
  refine pk_ 3 33 (bs 12 14) ?_ rfl rfl
  refine pk_ 6 36 (bs 12 78) ?_ rfl rfl
  refine pk_ 7 37 (bs 12 206) ?_ rfl rfl
  refine pk_ 8 38 (bs 12 462) ?_ rfl rfl
  refine take_ (i := 0) (N := some 30) (v := ?_) (a' := ?_) (bs 12 463) rfl rfl (by kernel_rfl) (fun _ _ _ h => h) (Or.inl ⟨by rfl, ?_⟩) hHeld ?_ ?_
  rotate_left
  ·rintro w' ⟨s0, s1, s2, s3⟩
   go_simp
   with_reducible rfl
  rotate_left
  ·simp only [Act.put, List.setIfInBounds_toArray, List.set_cons_zero, List.set_cons_succ, i64_w, i32_w]
   rfl
  refine take_ (i := 4) (N := some 34) (v := ?_) (a' := ?_) (bs 12 479) rfl rfl (by kernel_rfl) (fun _ _ _ h => h) (Or.inl ⟨by rfl, ?_⟩) hHeld ?_ ?_
  rotate_left
  ·rintro w' ⟨s0, s1, s2, s3⟩
   go_simp
   with_reducible rfl
  rotate_left
  ·simp only [Act.put, List.setIfInBounds_toArray, List.set_cons_zero, List.set_cons_succ, i64_w, i32_w]
   rfl
  refine pk_ 5 35 (bs 12 511) ?_ rfl rfl
  refine take_ (i := 9) (N := some 39) (v := ?_) (a' := ?_) (bs 12 1023) rfl rfl (by kernel_rfl) (fun _ _ _ h => h) (Or.inl ⟨by rfl, ?_⟩) hHeld ?_ ?_
  rotate_left
  ·rintro w' ⟨s0, s1, s2, s3⟩
   go_simp
   with_reducible rfl
  rotate_left
  ·simp only [Act.put, List.setIfInBounds_toArray, List.set_cons_zero, List.set_cons_succ, i64_w, i32_w]
   rfl
  refine one_ (i := 10) (N := some 40) (bs 12 2047) rfl rfl (by kernel_rfl) (by decide) (fun K hK => ?_)
  refine goes_ Tryd.func77 (by kernel_rfl) rfl #[.agg #[.string a0, .slice A1 l1.length c1], .string (⟨#[77, 83, 84]⟩ : ByteArray), .int .i64 (m.f1.length : Int), .int .i64 m.f0] (by rfl) rfl rfl au6_20 ?_
  with_reducible refine (F77.calls k a0 A1 c1 l1 (⟨#[77, 83, 84]⟩ : ByteArray) (m.f1.length : Int) m.f0 W8 _ ?sd1 HC.out ?sd2 A4.out).mono ?_
  (case sd1 => exact au6_12)
  (case sd2 => exact au6_16)
  rintro e w3 ⟨rfl, hb⟩
  have vD := pw_cell_below hb hHeld.1
  have vE := pw_cell_below hb hHeld.2.1
  have vF := pw_cell_below hb hHeld.2.2.1
  have a7M := pw_cell_below hb hHeld.2.2.2
  refine ⟨_, rfl, ?_⟩
  replace HB := am_ (rd_bs au6_0 (Nat.le_of_lt (blk_lt au6_1)) hb); replace HG := am_ (blk_below au6_1 hb); replace HH := am_ (Kd.H_below au6_3 hb); replace ic := am_ (Kd.H_below au6_8 hb); replace qf := am_ (Kd.S_below au6_9 hb); replace eY := am_ (Nat.lt_of_lt_of_le eY.out (hb).size); replace BK := am_ (blk_below au6_2 hb)
  clear hb
  refine hK.out _ _ ⟨vD, vE, vF, a7M⟩ (fun hHeld => ?_)
  clear hK K
  refine no_ 40 ?_
  refine pk_ 11 4 (bs 12 4095) ?_ rfl rfl
  refine done_ (by kernel_rfl) ?_

  go_wp2
  go_ret
  exact ⟨rfl, HB.out, _, HG.out, au6_10⟩
 rw [if_neg c3] at H
 have c3b0 : (a0.toList == ([77, 83, 84] : List UInt8)) = false := beq_eq_false_iff_ne.mpr c3
 clear c3
 replace H := Option.bind_eq_some_iff.mp H
 obtain ⟨t42, AQ, H⟩ := H
 have A5 := am_ AQ
 clear AQ
 by_cases c5 : t42 = true
 rotate_left
 ·replace c5 := Bool.eq_false_iff.mpr c5
  subst c5
  rw [if_neg (by decide)] at H
  simp only [Option.some.injEq, Prod.mk.injEq] at H
  obtain ⟨rfl, rfl, rfl⟩ := H
  go_enter Tryd.func52, Tryd.ntmps52
  go_wp2_with (first | ((with_reducible refine gate_dst (N := 3) rfl ?_); refine be_ 3 #[.string a0, .slice A1 l1.length c1] 52 ?_; intro gb hgb w1 hbox hb; replace HB := am_ (rd_bs au6_0 (Nat.le_of_lt (blk_lt au6_1)) hb); replace HG := am_ (blk_below au6_1 hb); replace HH := am_ (Kd.H_below au6_3 hb); replace ic := am_ (Kd.H_below au6_8 hb); replace qf := am_ (Kd.S_below au6_9 hb); replace eY := am_ (Nat.lt_of_lt_of_le eY.out (hb).size); have BK := am_ hbox; have NB : g ≠ gb := blk_ne HG.out hbox (by decide); have ua : gb ≠ g := NB.symm; clear hb hbox hgb; obtain ⟨ex, ey, ez, eA, eB⟩ := c5_ HG.out; have dd := blk_frozen HG.out 4; have de := blk_frozen HG.out 3; obtain ⟨eC, eD⟩ := c2_ BK.out; have df := blk_frozen BK.out 0; have dg := blk_frozen BK.out 1; have kF : w1.cell? ⟨gm, (b.f2.length - 1) * 2, none⟩ = some (.int .i64 m.f0) := rd_hcell ic.out (by omega) (by have := ie.out; omega) 0 _ rfl; have kG : w1.cell? ⟨gm, (b.f2.length - 1) * 2 + 1, none⟩ = some (.slice An m.f1.length cn) := rd_hcell ic.out (by omega) (by have := ie.out; omega) 1 _ rfl) | (go_at_call 76; have hkc : w1.cell? ⟨gbk, (L.length - 1) * 3 + 2, none⟩ = some (.slice (some ⟨gm, 0, none⟩) b.f2.length cm) := rd_hcell HH.out (by omega) (by have := ko.out; omega) 2 _ rfl; (with_reducible refine (rd_message.calls g gbk L.length co gm b.f2.length cm A B n 2 _ HG.out ko.out FC.out hkc ie.out HL2.out).mono ?_); clear hkc; rintro e w2 ⟨rfl, hd⟩; have hb := hd.below; replace HB := am_ (rd_bs au6_0 (Nat.le_of_lt (blk_lt au6_1)) hb); replace HG := am_ (blk_below au6_1 hb); replace HH := am_ (Kd.H_below au6_3 hb); replace ic := am_ (Kd.H_below au6_8 hb); replace qf := am_ (Kd.S_below au6_9 hb); replace eY := am_ (Nat.lt_of_lt_of_le eY.out (hb).size); replace BK := am_ (blk_below au6_2 hb); clear hb hd; clear ex ey ez eA eB dd df eC de dg eD kF kG; obtain ⟨gr, fD, fE, gu, gv⟩ := c5_ HG.out; have dI := blk_frozen HG.out 4; have dJ := blk_frozen HG.out 3; obtain ⟨gx, gy⟩ := c2_ BK.out; have dK := blk_frozen BK.out 0; have dL := blk_frozen BK.out 1; have kH : w2.cell? ⟨gm, (b.f2.length - 1) * 2, none⟩ = some (.int .i64 m.f0) := rd_hcell ic.out (by omega) (by have := ie.out; omega) 0 _ rfl; have kI : w2.cell? ⟨gm, (b.f2.length - 1) * 2 + 1, none⟩ = some (.slice An m.f1.length cn) := rd_hcell ic.out (by omega) (by have := ie.out; omega) 1 _ rfl) | (go_at_call 78; (with_reducible refine (F78.calls k a0 A1 c1 l1 false _ ?sd1 HC.out A5.out).mono ?_); (case sd1 => exact au6_12); rintro e w3 ⟨rfl, hb⟩; replace HB := am_ (rd_bs au6_0 (Nat.le_of_lt (blk_lt au6_1)) hb); replace HG := am_ (blk_below au6_1 hb); replace HH := am_ (Kd.H_below au6_3 hb); replace ic := am_ (Kd.H_below au6_8 hb); replace qf := am_ (Kd.S_below au6_9 hb); replace eY := am_ (Nat.lt_of_lt_of_le eY.out (hb).size); replace BK := am_ (blk_below au6_2 hb); clear hb; clear gr fD fE gu gv dI dK gx dJ dL gy kH kI; obtain ⟨lJ, lK, lL, lM, lN⟩ := c5_ HG.out; have ip := blk_frozen HG.out 4; have iq := blk_frozen HG.out 3; obtain ⟨lO, lP⟩ := c2_ BK.out; have ir := blk_frozen BK.out 0; have iu := blk_frozen BK.out 1; have sH : w3.cell? ⟨gm, (b.f2.length - 1) * 2, none⟩ = some (.int .i64 m.f0) := rd_hcell ic.out (by omega) (by have := ie.out; omega) 0 _ rfl; have sI : w3.cell? ⟨gm, (b.f2.length - 1) * 2 + 1, none⟩ = some (.slice An m.f1.length cn) := rd_hcell ic.out (by omega) (by have := ie.out; omega) 1 _ rfl))
  go_ret
  exact ⟨rfl, HB.out, _, HG.out, au6_10⟩
 subst c5
 rw [if_pos rfl] at H
 by_cases c6 : (m.f1.length : Int) = 40
 ·rw [if_pos c6] at H
  have c6b0 : ((m.f1.length : Int) == 40) = true := beq_iff_eq.mpr c6
  have c6b1 : ((m.f1.length : Int) = 40) = True := eq_true c6
  clear c6
  simp only [Option.some.injEq, Prod.mk.injEq] at H
  obtain ⟨rfl, rfl, rfl⟩ := H
  go_enter Tryd.func52, Tryd.ntmps52
  go_wp2_with (first | ((with_reducible refine gate_dst (N := 3) rfl ?_); refine be_ 3 #[.string a0, .slice A1 l1.length c1] 52 ?_; intro gb hgb w1 hbox hb; replace HB := am_ (rd_bs au6_0 (Nat.le_of_lt (blk_lt au6_1)) hb); replace HG := am_ (blk_below au6_1 hb); replace HH := am_ (Kd.H_below au6_3 hb); replace ic := am_ (Kd.H_below au6_8 hb); replace qf := am_ (Kd.S_below au6_9 hb); replace eY := am_ (Nat.lt_of_lt_of_le eY.out (hb).size); have BK := am_ hbox; have NB : g ≠ gb := blk_ne HG.out hbox (by decide); have ua : gb ≠ g := NB.symm; clear hb hbox hgb; obtain ⟨ex, ey, ez, eA, eB⟩ := c5_ HG.out; have dd := blk_frozen HG.out 4; have de := blk_frozen HG.out 3; obtain ⟨eC, eD⟩ := c2_ BK.out; have df := blk_frozen BK.out 0; have dg := blk_frozen BK.out 1; have kF : w1.cell? ⟨gm, (b.f2.length - 1) * 2, none⟩ = some (.int .i64 m.f0) := rd_hcell ic.out (by omega) (by have := ie.out; omega) 0 _ rfl; have kG : w1.cell? ⟨gm, (b.f2.length - 1) * 2 + 1, none⟩ = some (.slice An m.f1.length cn) := rd_hcell ic.out (by omega) (by have := ie.out; omega) 1 _ rfl) | (go_at_call 76; have hkc : w1.cell? ⟨gbk, (L.length - 1) * 3 + 2, none⟩ = some (.slice (some ⟨gm, 0, none⟩) b.f2.length cm) := rd_hcell HH.out (by omega) (by have := ko.out; omega) 2 _ rfl; (with_reducible refine (rd_message.calls g gbk L.length co gm b.f2.length cm A B n 2 _ HG.out ko.out FC.out hkc ie.out HL2.out).mono ?_); clear hkc; rintro e w2 ⟨rfl, hd⟩; have hb := hd.below; replace HB := am_ (rd_bs au6_0 (Nat.le_of_lt (blk_lt au6_1)) hb); replace HG := am_ (blk_below au6_1 hb); replace HH := am_ (Kd.H_below au6_3 hb); replace ic := am_ (Kd.H_below au6_8 hb); replace qf := am_ (Kd.S_below au6_9 hb); replace eY := am_ (Nat.lt_of_lt_of_le eY.out (hb).size); replace BK := am_ (blk_below au6_2 hb); clear hb hd; clear ex ey ez eA eB dd df eC de dg eD kF kG; obtain ⟨gr, fD, fE, gu, gv⟩ := c5_ HG.out; have dI := blk_frozen HG.out 4; have dJ := blk_frozen HG.out 3; obtain ⟨gx, gy⟩ := c2_ BK.out; have dK := blk_frozen BK.out 0; have dL := blk_frozen BK.out 1; have kH : w2.cell? ⟨gm, (b.f2.length - 1) * 2, none⟩ = some (.int .i64 m.f0) := rd_hcell ic.out (by omega) (by have := ie.out; omega) 0 _ rfl; have kI : w2.cell? ⟨gm, (b.f2.length - 1) * 2 + 1, none⟩ = some (.slice An m.f1.length cn) := rd_hcell ic.out (by omega) (by have := ie.out; omega) 1 _ rfl) | (go_at_call 78; (with_reducible refine (F78.calls k a0 A1 c1 l1 true _ ?sd1 HC.out A5.out).mono ?_); (case sd1 => exact au6_12); rintro e w3 ⟨rfl, hb⟩; replace HB := am_ (rd_bs au6_0 (Nat.le_of_lt (blk_lt au6_1)) hb); replace HG := am_ (blk_below au6_1 hb); replace HH := am_ (Kd.H_below au6_3 hb); replace ic := am_ (Kd.H_below au6_8 hb); replace qf := am_ (Kd.S_below au6_9 hb); replace eY := am_ (Nat.lt_of_lt_of_le eY.out (hb).size); replace BK := am_ (blk_below au6_2 hb); clear hb; clear gr fD fE gu gv dI dK gx dJ dL gy kH kI; obtain ⟨lJ, lK, lL, lM, lN⟩ := c5_ HG.out; have ip := blk_frozen HG.out 4; have iq := blk_frozen HG.out 3; obtain ⟨lO, lP⟩ := c2_ BK.out; have ir := blk_frozen BK.out 0; have iu := blk_frozen BK.out 1; have sH : w3.cell? ⟨gm, (b.f2.length - 1) * 2, none⟩ = some (.int .i64 m.f0) := rd_hcell ic.out (by omega) (by have := ie.out; omega) 0 _ rfl; have sI : w3.cell? ⟨gm, (b.f2.length - 1) * 2 + 1, none⟩ = some (.slice An m.f1.length cn) := rd_hcell ic.out (by omega) (by have := ie.out; omega) 1 _ rfl))
  go_ret
  exact ⟨rfl, HB.out, _, HG.out, au6_10⟩
 rw [if_neg c6] at H
 have c6b0 : ((m.f1.length : Int) == 40) = false := beq_eq_false_iff_ne.mpr c6
 clear c6
 replace H := Option.bind_eq_some_iff.mp H
 obtain ⟨⟨s1, s2⟩, lF, H⟩ := H
 have A6 := am_ lF
 clear lF
 dsimp only at H
 by_cases ng : m.f1.length < 1000000
 rotate_left
 ·rw [if_neg ng] at H
  cases H
 rw [if_pos ng] at H
 have LM := am_ ng
 clear ng
 simp only [Option.some.injEq, Prod.mk.injEq] at H
 obtain ⟨rfl, rfl, rfl⟩ := H
 go_enter Tryd.func52, Tryd.ntmps52
 go_wp2_with (first | ((with_reducible refine gate_dst (N := 3) rfl ?_); refine be_ 3 #[.string a0, .slice A1 l1.length c1] 52 ?_; intro gb hgb w1 hbox hb; replace HB := am_ (rd_bs au6_0 (Nat.le_of_lt (blk_lt au6_1)) hb); replace HG := am_ (blk_below au6_1 hb); replace HH := am_ (Kd.H_below au6_3 hb); replace ic := am_ (Kd.H_below au6_8 hb); replace qf := am_ (Kd.S_below au6_9 hb); replace eY := am_ (Nat.lt_of_lt_of_le eY.out (hb).size); have BK := am_ hbox; have NB : g ≠ gb := blk_ne HG.out hbox (by decide); have ua : gb ≠ g := NB.symm; clear hb hbox hgb; obtain ⟨ex, ey, ez, eA, eB⟩ := c5_ HG.out; have dd := blk_frozen HG.out 4; have de := blk_frozen HG.out 3; obtain ⟨eC, eD⟩ := c2_ BK.out; have df := blk_frozen BK.out 0; have dg := blk_frozen BK.out 1; have kF : w1.cell? ⟨gm, (b.f2.length - 1) * 2, none⟩ = some (.int .i64 m.f0) := rd_hcell ic.out (by omega) (by have := ie.out; omega) 0 _ rfl; have kG : w1.cell? ⟨gm, (b.f2.length - 1) * 2 + 1, none⟩ = some (.slice An m.f1.length cn) := rd_hcell ic.out (by omega) (by have := ie.out; omega) 1 _ rfl) | (go_at_call 76; have hkc : w1.cell? ⟨gbk, (L.length - 1) * 3 + 2, none⟩ = some (.slice (some ⟨gm, 0, none⟩) b.f2.length cm) := rd_hcell HH.out (by omega) (by have := ko.out; omega) 2 _ rfl; (with_reducible refine (rd_message.calls g gbk L.length co gm b.f2.length cm A B n 2 _ HG.out ko.out FC.out hkc ie.out HL2.out).mono ?_); clear hkc; rintro e w2 ⟨rfl, hd⟩; have hb := hd.below; replace HB := am_ (rd_bs au6_0 (Nat.le_of_lt (blk_lt au6_1)) hb); replace HG := am_ (blk_below au6_1 hb); replace HH := am_ (Kd.H_below au6_3 hb); replace ic := am_ (Kd.H_below au6_8 hb); replace qf := am_ (Kd.S_below au6_9 hb); replace eY := am_ (Nat.lt_of_lt_of_le eY.out (hb).size); replace BK := am_ (blk_below au6_2 hb); clear hb hd; clear ex ey ez eA eB dd df eC de dg eD kF kG; obtain ⟨gr, fD, fE, gu, gv⟩ := c5_ HG.out; have dI := blk_frozen HG.out 4; have dJ := blk_frozen HG.out 3; obtain ⟨gx, gy⟩ := c2_ BK.out; have dK := blk_frozen BK.out 0; have dL := blk_frozen BK.out 1; have kH : w2.cell? ⟨gm, (b.f2.length - 1) * 2, none⟩ = some (.int .i64 m.f0) := rd_hcell ic.out (by omega) (by have := ie.out; omega) 0 _ rfl; have kI : w2.cell? ⟨gm, (b.f2.length - 1) * 2 + 1, none⟩ = some (.slice An m.f1.length cn) := rd_hcell ic.out (by omega) (by have := ie.out; omega) 1 _ rfl) | (go_at_call 78; (with_reducible refine (F78.calls k a0 A1 c1 l1 true _ ?sd1 HC.out A5.out).mono ?_); (case sd1 => exact au6_12); rintro e w3 ⟨rfl, hb⟩; replace HB := am_ (rd_bs au6_0 (Nat.le_of_lt (blk_lt au6_1)) hb); replace HG := am_ (blk_below au6_1 hb); replace HH := am_ (Kd.H_below au6_3 hb); replace ic := am_ (Kd.H_below au6_8 hb); replace qf := am_ (Kd.S_below au6_9 hb); replace eY := am_ (Nat.lt_of_lt_of_le eY.out (hb).size); replace BK := am_ (blk_below au6_2 hb); clear hb; clear gr fD fE gu gv dI dK gx dJ dL gy kH kI; obtain ⟨lJ, lK, lL, lM, lN⟩ := c5_ HG.out; have ip := blk_frozen HG.out 4; have iq := blk_frozen HG.out 3; obtain ⟨lO, lP⟩ := c2_ BK.out; have ir := blk_frozen BK.out 0; have iu := blk_frozen BK.out 1; have sH : w3.cell? ⟨gm, (b.f2.length - 1) * 2, none⟩ = some (.int .i64 m.f0) := rd_hcell ic.out (by omega) (by have := ie.out; omega) 0 _ rfl; have sI : w3.cell? ⟨gm, (b.f2.length - 1) * 2 + 1, none⟩ = some (.slice An m.f1.length cn) := rd_hcell ic.out (by omega) (by have := ie.out; omega) 1 _ rfl))
 clear lJ lK lL lM lN ip ir lO iq iu lP sH sI
 refine start_ (n := 12) (S := fun w' => w'.cell? ⟨gb, 0, none⟩ = some (.string a0) ∧ w'.cell? ⟨gb, 1, none⟩ = some (.slice A1 l1.length c1) ∧ w'.cell? ⟨gm, (b.f2.length - 1) * 2 + 1, none⟩ = some (.slice An m.f1.length cn)) (ds := [8, 11]) (bs 12 0) (by kernel_rfl) rfl rfl ⟨((blk_cell BK.out 0).trans rfl), ((blk_cell BK.out 1).trans rfl), (rd_hcell ic.out (by omega) (by have := ie.out; omega) 1 _ rfl)⟩ (fun hHeld => ?_)
 have bI := am_ (below_drew HB.out)
 have bZ := am_ (blk_drew HG.out)
 have n2_ := am_ (Kd.H_drew HH.out)
 have nv := am_ (Kd.H_drew ic.out)
 have ji := am_ (Kd.S_drew qf.out)
 have jj := am_ (show gm < w3.drew.heap.size from eY.out)
 have cD := am_ (blk_drew BK.out)
 clear HB HG HH ic qf eY BK
 generalize w3.drew = wd at bI bZ n2_ cD ji jj nv hHeld ⊢
 have HB := bI
 have HG := bZ
 have HH := n2_
 have ic := nv
 have qf := ji
 have eY := jj
 have BK := cD
 clear bI bZ n2_ cD ji jj nv
 refine pk_ 0 52 (bs 12 1) ?_ rfl rfl
 refine pk_ 1 53 (bs 12 3) ?_ rfl rfl
 refine pk_ 2 54 (bs 12 7) ?_ rfl rfl
 refine pk_ 3 55 (bs 12 15) ?_ rfl rfl
 refine take_ (i := 4) (N := some 56) (v := ?_) (a' := ?_) (bs 12 31) rfl rfl (by kernel_rfl) (fun _ _ _ h => h) (Or.inl ⟨by rfl, ?_⟩) hHeld ?_ ?_
 rotate_left
 ·rintro w' ⟨s0, s1, s2⟩
  go_simp
  with_reducible rfl
 rotate_left
 ·simp only [Act.put, List.setIfInBounds_toArray, List.set_cons_zero, List.set_cons_succ, i64_w, i32_w]
  rfl
 refine take_ (i := 5) (N := some 57) (v := ?_) (a' := ?_) (bs 12 63) rfl rfl (by kernel_rfl) (fun _ _ _ h => h) (Or.inl ⟨by rfl, ?_⟩) hHeld ?_ ?_
 rotate_left
 ·rintro w' ⟨s0, s1, s2⟩
  go_simp
  with_reducible rfl
 rotate_left
 ·simp only [Act.put, List.setIfInBounds_toArray, List.set_cons_zero, List.set_cons_succ, i64_w, i32_w]
  rfl
 refine one_ (i := 6) (N := some 58) (bs 12 127) rfl rfl (by kernel_rfl) (by decide) (fun K hK => ?_)
 refine goes_ Tryd.func79 (by kernel_rfl) rfl #[.agg #[.string a0, .slice A1 l1.length c1]] (by rfl) rfl rfl au6_20 ?_
 with_reducible refine (F79.calls k a0 A1 c1 l1 s1 s2 _ ?sd1 HC.out A6.out).mono ?_
 (case sd1 => exact Kd.C_below HR.out (rd_bt In.out HGE.out HB.out))
 rintro e w4 ⟨v4, rfl, bm, hb⟩
 have vD := pw_cell_below hb hHeld.1
 have vE := pw_cell_below hb hHeld.2.1
 have vF := pw_cell_below hb hHeld.2.2
 have HQ := am_ (Kd.H_below ic.out hb)
 have qw := am_ (blk_below BK.out hb)
 obtain ⟨FA, c4_, rfl⟩ := Kd.S_slice bm
 have HO := am_ bm
 have HB4 := am_ hb
 have bZ := am_ (blk_below HG.out hb)
 have bI := am_ (rd_bs HB.out (Nat.le_of_lt (blk_lt HG.out)) hb)
 have HM4 := am_ (Kd.S_below (Kd.S_mono (Kd.S_bound qf.out) (ok' := fun k_ => vG k_ ∧ k_ < wd.heap.size) (fun k_ hk_ => ⟨hk_.1, hk_.2.2.1⟩)) hb)
 have a7O := am_ (Nat.lt_of_lt_of_le (blk_lt HG.out) hb.size)
 have hszd := am_ (blk_lt HG.out)
 clear HB HG BK bm hb
 have HB := bI
 have HG := bZ
 have BK := qw
 clear bI bZ qw
 refine ⟨_, rfl, ?_⟩
 refine hK.out _ _ ⟨vD, vE, vF⟩ (fun hHeld => ?_)
 clear hK K
 refine no_ 58 ?_
 refine one_ (i := 7) (N := some 59) (bs 12 255) rfl rfl (by kernel_rfl) (by decide) (fun K hK => ?_)
 refine value_ (w1 := ?_) (v := ?_) (by rfl) rfl ?_ ?_
 rotate_left 2
 ·go_simp
  constructor
  ·rfl
  ·rfl
 refine hK.out _ _ ⟨(blk_cell (blk_alloc BK.out _) 0).trans rfl, (blk_cell (blk_alloc BK.out _) 1).trans rfl, rd_hcell (Kd.H_alloc HQ.out _) (by omega) (by have := ie.out; omega) 1 _ rfl⟩ (fun hHeld => ?_)
 clear hK K
 refine no_ 59 ?_
 refine last_ (i := 8) (N := some 60) (bs 12 511) rfl rfl (by kernel_rfl) (by decide) (fun K hK => ?_)
 refine Kd.S_append_step k52 (g + 1) (by rfl) (.tmp 56) (.tmp 59) 38 52 (.agg #[(.string ⟨#[]⟩), (.slice none 0 0)]) 40 rfl Tryd.underlying38 info52 rfl (by decide) (by omega) (.slice An m.f1.length cn) m.f1 (⟨s1, s2⟩ : S52) [.string s1, .slice FA s2.length c4_] (fun k_ => vG k_ ∨ wd.heap.size ≤ k_) (fun k_ => wd.heap.size ≤ k_) rfl rfl ?aP ?aK ?aF ?aO (Below.refl _ _) ?aS ?aL ?_
 (case aP => exact k52_mkM _ _ _ (⟨s1, s2⟩ : S52) (Kd.S_mono (Kd.S_lower (Kd.S_bound HO.out) (show g + 1 ≤ wd.heap.size from hszd.out)) (fun k_ hk_ => hk_.2.1)))
 (case aK => exact fun k_ hk_ => ⟨.inr hk_, fun e_ => by have := ((Kd.S_R HM4.out).1 k_ e_.symm).2; omega⟩)
 (case aF => exact fun k_ hk_ => .inr (Nat.le_trans HB4.out.size hk_))
 (case aO => exact Kd.S_mono HM4.out (fun k_ hk_ => ⟨.inl hk_.1, by have := hk_.2; omega⟩))
 (case aS => exact a7O.out)
 (case aL => have := LM.out; omega)
 intro v6 w6 ho OJ qx hat
 obtain ⟨lF, Fz, rfl⟩ := Kd.S_slice ho
 rw [show (m.f1 ++ [(⟨s1, s2⟩ : S52)]).length = m.f1.length + 1 from by simp] at ho
 obtain ⟨⟨hke, hkf⟩, n2_⟩ := rd_putB HH.out ic.out qf.out a7L.out HGM.out eY.out (by omega) (by have := ie.out; omega) hszd.out ho (rd_gb HB4.out qx)
 have Ns : w6.cell? ⟨gm, (b.f2.length - 1) * 2 + 1, none⟩ = some (.slice An m.f1.length cn) := hke
 have qj : w6.frozen? ⟨gm, (b.f2.length - 1) * 2 + 1, none⟩ = false := hkf
 clear hke hkf
 have bI := am_ (HB.out.trans (OJ.mono (Nat.le_succ g)))
 have bZ := am_ ((OJ.block g (Nat.lt_succ_self g)).trans HG.out)
 have HS := am_ n2_
 clear n2_ HB HG HH ic qf HM4 HO ho OJ qx hat
 have HB := bI
 have HG := bZ
 clear bI bZ
 refine hK.out _ _ ?_
 clear hK K
 refine no_ 60 ?_
 refine pk_ 9 61 (bs 12 1023) ?_ rfl rfl
 refine pk_ 10 62 (bs 12 2047) ?_ rfl rfl
 refine last_ (i := 11) (N := none) (bs 12 4095) rfl rfl (by kernel_rfl) (by decide) (fun K hK => ?_)
 refine skip_ (w1 := ?_) (by rfl) rfl ?_ ?_
 rotate_left
 ·go_simp
  rfl
 refine hK.out _ _ ?_
 clear hK K
 refine done_ (by kernel_rfl) ?_

 go_wp2
 go_ret
 exact ⟨rfl, HB.out.setCell (p := ⟨gm, (b.f2.length - 1) * 2 + 1, none⟩) (by have := (HOK.out gm HGM.out).1; show g ≤ gm; omega) _, _, blk_far HG.out (p := ⟨gm, _, none⟩) (by have := (HOK.out gm HGM.out).1; show g ≠ gm; omega) _, Kd.S_mono HS.out (fun _ _ => trivial)⟩
theorem rd_headOf.calls (k : Nat) (ao : ByteArray) (b7 : Option Addr) (bV : Nat) (ah : List (S55)) (r1 : ByteArray) (r2 : ByteArray) (r3 : Int) (r4 : List (S83)) (r5 : Bool) (w : World) (d9 : Kd.C k55 w b7 ah.length ah) (ea : ah.length ≤ bV) (hT : LaidT true Tryd.prog w) (h : F38.f k ao ah = some (r1, r2, r3, r4, r5)) :
  Calls Tryd.prog 38 #[.agg #[.string ao, .slice b7 ah.length bV]] w fun e w' => ∃ yc : Value, e = .returned (.tuple #[.agg #[.string r1, .string r2, .int .i64 r3, yc], .bool r5]) ∧ (yc = .slice none 0 0 ∧ r4 = []) ∧ Below w.heap.size w w' := by
 have jn := Tryd.underlying52
 have tH := Tryd.underlying29
 have gD := am_ d9
 have iG := am_ ea
 clear d9 ea
 have HZT := am_ hT
 clear hT
 have HB := am_ (Below.refl w.heap.size w)
 have H : ((F60.f k ao ah (⟨#[73, 88, 72]⟩ : ByteArray) 3).bind fun m6 => (if m6.2 = true then (if 0 < (m6.1.length : Int) then ((F61.f k (rdOf ByteArray.empty m6.1 0)).bind fun Xl => (if Xl = true then (if 1 < (m6.1.length : Int) then ((F61.f k (rdOf ByteArray.empty m6.1 1)).bind fun Xm => (if Xm = true then (if 2 < (m6.1.length : Int) then ((F62.f k (rdOf ByteArray.empty m6.1 2) 1 999999).bind fun Kz => (some (rdOf ByteArray.empty m6.1 0, rdOf ByteArray.empty m6.1 1, Kz.1, ([] : List (S83)), Kz.2))) else (none)) else (some ((⟨#[]⟩ : ByteArray), (⟨#[]⟩ : ByteArray), 0, ([] : List (S83)), false)))) else (none)) else (some ((⟨#[]⟩ : ByteArray), (⟨#[]⟩ : ByteArray), 0, ([] : List (S83)), false)))) else (none)) else (some ((⟨#[]⟩ : ByteArray), (⟨#[]⟩ : ByteArray), 0, ([] : List (S83)), false)))) = some (r1, r2, r3, r4, r5) := h
 clear h
 replace H := bi_ H; rcases H with ⟨⟨dh, b6k⟩, A2, H⟩
 replace H := ib_ H; rcases H with ⟨rfl, H⟩ | ⟨rfl, H⟩
 rotate_left
 ·simp only [Option.some.injEq, Prod.mk.injEq] at H
  obtain ⟨rfl, rfl, rfl, rfl, rfl⟩ := H
  go_enter Tryd.func38, Tryd.ntmps38
  go_wp2_with (first | ((with_reducible refine gate_dst (N := 1) rfl ?_); refine be_ 1 #[.string ao, .slice b7 ah.length bV] 52 ?_; intro ox hg w38 hbox hb; have bo := am_ (hbox); have qk := am_ (gw_ hg bl_); have EO := qk; replace HB := hs_ w hb; clear hb hbox hg) | ((with_reducible refine gate_dst (N := 2) rfl ?_); refine be_ 2 #[.string (⟨#[]⟩ : ByteArray), .string (⟨#[]⟩ : ByteArray), .int .i64 0, .slice none 0 0] 29 ?_; intro d8 hg w39 hbox hb; have bk := am_ (hbox); have ql := am_ (gw_ hg bl_); have EP := ql; replace HB := hs_ w hb; have dt := am_ (gn_ hg (blkl_ bo)); have du := am_ (gm_ hg (blkl_ bo)); replace bo := bb_ bo hb; clear hb hbox hg; have b1H := dt.out; have b1I := du.out; obtain ⟨a0T, a0U⟩ := c2_ bo.out; have a0V := blk_frozen bo.out 0; have a0W := blk_frozen bo.out 1) | ((with_reducible refine gate_callee (f := 60) rfl ?_); refine gl_ 10 Tryd.func60 #[.agg #[.string ao, .slice b7 ah.length bV], .string (⟨#[73, 88, 72]⟩ : ByteArray), .int .i64 3] ?_ rfl rfl rfl rfl; (with_reducible refine (F60.calls k ao _ _ ah (⟨#[73, 88, 72]⟩ : ByteArray) 3 dh false _ ?s1 ?s2 A2.out).mono ?_); (case s1 => exact au6_14); (case s2 => exact iG.out); rintro e AP ⟨gz, rfl, bm, hb⟩; refine ⟨_, rfl, ?_⟩; have bH := am_ (Kd.R_lower bm (below_size bl_)); replace bo := bb_ bo hb; replace bk := bb_ bk hb; replace HB := hs_ w hb; clear hb bm; obtain ⟨a0X, a0Y, a0Z, a00⟩ := c4_ bk.out; have a01 := blk_frozen bk.out 0; have a02 := blk_frozen bk.out 1; have a03 := blk_frozen bk.out 2; have a04 := blk_frozen bk.out 3))
  refine bodyPost_ret (results_ct rfl _ _ d8 29 #[.string (⟨#[]⟩ : ByteArray), .string (⟨#[]⟩ : ByteArray), .int .i64 0, .slice none 0 0] (0, 0) _ rfl (bq_ bk) Tryd.underlying29 rfl (by kernel_rfl)) rfl ?_
  exact ⟨_, au6_13, au6_18, bl_⟩
 replace H := itn_ H; rcases H with ⟨c4b0, H⟩
 have c4b1 : decide (0 < dh.length) = true := n2_ c4b0
 replace H := bi_ H; rcases H with ⟨Xl, A5, H⟩
 replace H := ib_ H; rcases H with ⟨rfl, H⟩ | ⟨rfl, H⟩
 rotate_left
 ·simp only [Option.some.injEq, Prod.mk.injEq] at H
  obtain ⟨rfl, rfl, rfl, rfl, rfl⟩ := H
  go_enter Tryd.func38, Tryd.ntmps38
  go_wp2_with (first | ((with_reducible refine gate_dst (N := 1) rfl ?_); refine be_ 1 #[.string ao, .slice b7 ah.length bV] 52 ?_; intro ox hg AM hbox hb; have bo := am_ (hbox); have qk := am_ (gw_ hg bl_); have EO := qk; replace HB := hs_ w hb; clear hb hbox hg) | ((with_reducible refine gate_dst (N := 2) rfl ?_); refine be_ 2 #[.string (⟨#[]⟩ : ByteArray), .string (⟨#[]⟩ : ByteArray), .int .i64 0, .slice none 0 0] 29 ?_; intro d8 hg w32 hbox hb; have bk := am_ (hbox); have ql := am_ (gw_ hg bl_); have EP := ql; replace HB := hs_ w hb; have dt := am_ (gn_ hg (blkl_ bo)); have du := am_ (gm_ hg (blkl_ bo)); replace bo := bb_ bo hb; clear hb hbox hg; have BR := dt.out; have BS := du.out; obtain ⟨mE, mF⟩ := c2_ bo.out; have mG := blk_frozen bo.out 0; have mH := blk_frozen bo.out 1) | ((with_reducible refine gate_callee (f := 60) rfl ?_); refine gl_ 10 Tryd.func60 #[.agg #[.string ao, .slice b7 ah.length bV], .string (⟨#[73, 88, 72]⟩ : ByteArray), .int .i64 3] ?_ rfl rfl rfl rfl; (with_reducible refine (F60.calls k ao _ _ ah (⟨#[73, 88, 72]⟩ : ByteArray) 3 dh true _ ?s1 ?s2 A2.out).mono ?_); (case s1 => exact au6_14); (case s2 => exact iG.out); rintro e ta ⟨gz, rfl, bm, hb⟩; refine ⟨_, rfl, ?_⟩; have bH := am_ (Kd.R_lower bm (below_size bl_)); replace bo := bb_ bo hb; replace bk := bb_ bk hb; replace HB := hs_ w hb; clear hb bm; obtain ⟨b6l, a7P, a7Q⟩ := Kd.R_slice bH.out; subst a7Q; have qm : 0 ≤ (0 : Int) := (by omega); have qn : 0 < (dh.length : Int) := od_; obtain ⟨iv, EQ, ja⟩ := Kd.at_string (Kd.R_reads' bH.out).2.2 0 qm qn; cases EQ; have KA : (0 < dh.length) = True := eq_true (by omega); (try rw [show ((0 : Int)).toNat = 0 from rfl] at ja); (try rw [Addr.add_zero'] at ja); replace qm := eq_true qm; replace qn := eq_true qn) | (go_at_call 61; (with_reducible refine (F61.calls k (rdOf ByteArray.empty dh 0) false _ A5.out).mono ?_); rintro e w' ⟨rfl, ⟨nd, rfl⟩⟩; (try (rw [drewN_self ta]; generalize hq_ : World.drewN ta _ = ta; have bI : Aside0 (Kd.R Kd.string 9 ta w.heap.size (fun _ => True) (.slice (some iv) dh.length a7P) dh) := ⟨by rw [← hq_]; exact (rk_ bH)⟩; have bZ : Aside0 (ta.heap[ox]? = some (.cells #[.string ao, .slice b7 ah.length bV] 52 (0, 0))) := ⟨by rw [← hq_]; exact (bk_ bo)⟩; have n2_ : Aside0 (ta.heap[d8]? = some (.cells #[.string (⟨#[]⟩ : ByteArray), .string (⟨#[]⟩ : ByteArray), .int .i64 0, .slice none 0 0] 29 (0, 0))) := ⟨by rw [← hq_]; exact (bk_ bk)⟩; have cD : Aside0 (Below w.heap.size w ta) := ⟨by rw [← hq_]; exact bl_⟩; clear bH bo bk HB hq_; have bH := bI; have bo := bZ; have bk := n2_; have HB := cD; clear bI bZ n2_ cD)); obtain ⟨GQ, GR, a05, a06⟩ := c4_ bk.out; have GS := blk_frozen bk.out 0; have GT := blk_frozen bk.out 1; have a07 := blk_frozen bk.out 2; have a08 := blk_frozen bk.out 3))
  refine bodyPost_ret (results_ct rfl _ _ d8 29 #[.string (⟨#[]⟩ : ByteArray), .string (⟨#[]⟩ : ByteArray), .int .i64 0, .slice none 0 0] (0, 0) _ rfl (bq_ bk) Tryd.underlying29 rfl (by kernel_rfl)) rfl ?_
  exact ⟨_, au6_13, au6_18, bl_⟩
 replace H := itn_ H; rcases H with ⟨c7b0, H⟩
 have c7b1 : decide (1 < dh.length) = true := n2_ c7b0
 replace H := bi_ H; rcases H with ⟨Xm, A8, H⟩
 replace H := ib_ H; rcases H with ⟨rfl, H⟩ | ⟨rfl, H⟩
 rotate_left
 ·simp only [Option.some.injEq, Prod.mk.injEq] at H
  obtain ⟨rfl, rfl, rfl, rfl, rfl⟩ := H
  go_enter Tryd.func38, Tryd.ntmps38
  go_wp2_with (first | ((with_reducible refine gate_dst (N := 1) rfl ?_); refine be_ 1 #[.string ao, .slice b7 ah.length bV] 52 ?_; intro ox hg w24 hbox hb; have bo := am_ (hbox); have qk := am_ (gw_ hg bl_); have EO := qk; replace HB := hs_ w hb; clear hb hbox hg) | ((with_reducible refine gate_dst (N := 2) rfl ?_); refine be_ 2 #[.string (⟨#[]⟩ : ByteArray), .string (⟨#[]⟩ : ByteArray), .int .i64 0, .slice none 0 0] 29 ?_; intro d8 hg w25 hbox hb; have bk := am_ (hbox); have ql := am_ (gw_ hg bl_); have EP := ql; replace HB := hs_ w hb; have dt := am_ (gn_ hg (blkl_ bo)); have du := am_ (gm_ hg (blkl_ bo)); replace bo := bb_ bo hb; clear hb hbox hg; have VN := dt.out; have VO := du.out; obtain ⟨yR, yS⟩ := c2_ bo.out; have yT := blk_frozen bo.out 0; have yU := blk_frozen bo.out 1) | ((with_reducible refine gate_callee (f := 60) rfl ?_); refine gl_ 10 Tryd.func60 #[.agg #[.string ao, .slice b7 ah.length bV], .string (⟨#[73, 88, 72]⟩ : ByteArray), .int .i64 3] ?_ rfl rfl rfl rfl; (with_reducible refine (F60.calls k ao _ _ ah (⟨#[73, 88, 72]⟩ : ByteArray) 3 dh true _ ?s1 ?s2 A2.out).mono ?_); (case s1 => exact au6_14); (case s2 => exact iG.out); rintro e vv ⟨gz, rfl, bm, hb⟩; refine ⟨_, rfl, ?_⟩; have bH := am_ (Kd.R_lower bm (below_size bl_)); replace bo := bb_ bo hb; replace bk := bb_ bk hb; replace HB := hs_ w hb; clear hb bm; obtain ⟨b6m, Xn, a7R⟩ := Kd.R_slice bH.out; subst a7R; have qm : 0 ≤ (0 : Int) := (by omega); have qn : 0 < (dh.length : Int) := od_; obtain ⟨iv, EQ, ja⟩ := Kd.at_string (Kd.R_reads' bH.out).2.2 0 qm qn; cases EQ; have KA : (0 < dh.length) = True := eq_true (by omega); (try rw [show ((0 : Int)).toNat = 0 from rfl] at ja); (try rw [Addr.add_zero'] at ja); replace qm := eq_true qm; replace qn := eq_true qn) | (go_at_call 61; (with_reducible refine (F61.calls k (rdOf ByteArray.empty dh 0) true _ A5.out).mono ?_); rintro e w' ⟨rfl, ⟨nd, rfl⟩⟩; (try (rw [drewN_self vv]; generalize hq_ : World.drewN vv _ = vv; have bI : Aside0 (Kd.R Kd.string 9 vv w.heap.size (fun _ => True) (.slice (some iv) dh.length Xn) dh) := ⟨by rw [← hq_]; exact (rk_ bH)⟩; have bZ : Aside0 (vv.heap[ox]? = some (.cells #[.string ao, .slice b7 ah.length bV] 52 (0, 0))) := ⟨by rw [← hq_]; exact (bk_ bo)⟩; have n2_ : Aside0 (vv.heap[d8]? = some (.cells #[.string (⟨#[]⟩ : ByteArray), .string (⟨#[]⟩ : ByteArray), .int .i64 0, .slice none 0 0] 29 (0, 0))) := ⟨by rw [← hq_]; exact (bk_ bk)⟩; have cD : Aside0 (Below w.heap.size w vv) := ⟨by rw [← hq_]; exact bl_⟩; clear bH bo bk HB hq_; have bH := bI; have bo := bZ; have bk := n2_; have HB := cD; clear bI bZ n2_ cD)); have vH : 0 ≤ (1 : Int) := (by omega); have vI : 1 < (dh.length : Int) := od_; obtain ⟨ER, Nt, m7⟩ := Kd.at_string (Kd.R_reads' bH.out).2.2 1 vH vI; obtain rfl : iv = ER := (by injection Nt); (try simp only [show (1 : Int).toNat = 1 from rfl, Nat.reduceMul, Nat.reduceEqDiff, Go.Addr.add, ↓reduceIte] at m7); have Xo : (1 < dh.length) = True := eq_true (by omega); (try rw [show ((1 : Int)).toNat = 1 from rfl] at m7); replace vH := eq_true vH; replace vI := eq_true vI) | (go_at_call 61; (with_reducible refine (F61.calls k (rdOf ByteArray.empty dh 1) false _ A8.out).mono ?_); rintro e w' ⟨rfl, ⟨nd, rfl⟩⟩; (try (rw [drewN_self vv]; generalize hq_ : World.drewN vv _ = vv; have bI : Aside0 (Kd.R Kd.string 9 vv w.heap.size (fun _ => True) (.slice (some iv) dh.length Xn) dh) := ⟨by rw [← hq_]; exact (rk_ bH)⟩; have bZ : Aside0 (vv.heap[ox]? = some (.cells #[.string ao, .slice b7 ah.length bV] 52 (0, 0))) := ⟨by rw [← hq_]; exact (bk_ bo)⟩; have n2_ : Aside0 (vv.heap[d8]? = some (.cells #[.string (⟨#[]⟩ : ByteArray), .string (⟨#[]⟩ : ByteArray), .int .i64 0, .slice none 0 0] 29 (0, 0))) := ⟨by rw [← hq_]; exact (bk_ bk)⟩; have cD : Aside0 (Below w.heap.size w vv) := ⟨by rw [← hq_]; exact bl_⟩; clear bH bo bk HB hq_; have bH := bI; have bo := bZ; have bk := n2_; have HB := cD; clear bI bZ n2_ cD)); obtain ⟨oI, oJ, a09, a1a⟩ := c4_ bk.out; have oK := blk_frozen bk.out 0; have oL := blk_frozen bk.out 1; have a1b := blk_frozen bk.out 2; have a1c := blk_frozen bk.out 3))
  refine bodyPost_ret (results_ct rfl _ _ d8 29 #[.string (⟨#[]⟩ : ByteArray), .string (⟨#[]⟩ : ByteArray), .int .i64 0, .slice none 0 0] (0, 0) _ rfl (bq_ bk) Tryd.underlying29 rfl (by kernel_rfl)) rfl ?_
  exact ⟨_, au6_13, au6_18, bl_⟩
 replace H := itn_ H; rcases H with ⟨c10b0, H⟩
 have c10b1 : decide (2 < dh.length) = true := n2_ c10b0
 replace H := bi_ H; rcases H with ⟨⟨Xp, a7S⟩, A11, H⟩
 simp only [Option.some.injEq, Prod.mk.injEq] at H
 obtain ⟨rfl, rfl, rfl, rfl, rfl⟩ := H
 go_enter Tryd.func38, Tryd.ntmps38
 try go_wp2_with (first | ((with_reducible refine gate_dst (N := 1) rfl ?_); refine be_ 1 #[.string ao, .slice b7 ah.length bV] 52 ?_; intro ox hg rx hbox hb; have bo := am_ (hbox); have qk := am_ (gw_ hg bl_); have EO := qk; replace HB := hs_ w hb; clear hb hbox hg) | ((with_reducible refine gate_dst (N := 2) rfl ?_); refine be_ 2 #[.string (⟨#[]⟩ : ByteArray), .string (⟨#[]⟩ : ByteArray), .int .i64 0, .slice none 0 0] 29 ?_; intro d8 hg OD hbox hb; have bk := am_ (hbox); have ql := am_ (gw_ hg bl_); have EP := ql; replace HB := hs_ w hb; have dt := am_ (gn_ hg (blkl_ bo)); have du := am_ (gm_ hg (blkl_ bo)); replace bo := bb_ bo hb; clear hb hbox hg; have Kb := dt.out; have Ke := du.out; obtain ⟨eT, fZ⟩ := c2_ bo.out; have eU := blk_frozen bo.out 0; have f4 := blk_frozen bo.out 1) | ((with_reducible refine gate_callee (f := 60) rfl ?_); refine gl_ 10 Tryd.func60 #[.agg #[.string ao, .slice b7 ah.length bV], .string (⟨#[73, 88, 72]⟩ : ByteArray), .int .i64 3] ?_ rfl rfl rfl rfl; (with_reducible refine (F60.calls k ao _ _ ah (⟨#[73, 88, 72]⟩ : ByteArray) 3 dh true _ ?s1 ?s2 A2.out).mono ?_); (case s1 => exact au6_14); (case s2 => exact iG.out); rintro e kP ⟨gz, rfl, bm, hb⟩; refine ⟨_, rfl, ?_⟩; have bH := am_ (Kd.R_lower bm (below_size bl_)); replace bo := bb_ bo hb; replace bk := bb_ bk hb; replace HB := hs_ w hb; clear hb bm; obtain ⟨Ay, bv, vq⟩ := Kd.R_slice bH.out; subst vq; have qm : 0 ≤ (0 : Int) := (by omega); have qn : 0 < (dh.length : Int) := od_; obtain ⟨iv, EQ, ja⟩ := Kd.at_string (Kd.R_reads' bH.out).2.2 0 qm qn; cases EQ; have KA : (0 < dh.length) = True := eq_true (by omega); (try rw [show ((0 : Int)).toNat = 0 from rfl] at ja); (try rw [Addr.add_zero'] at ja); replace qm := eq_true qm; replace qn := eq_true qn) | (go_at_call 61; (with_reducible refine (F61.calls k (rdOf ByteArray.empty dh 0) true _ A5.out).mono ?_); rintro e w' ⟨rfl, ⟨nd, rfl⟩⟩; (try (rw [drewN_self kP]; generalize hq_ : World.drewN kP _ = kP; have bI : Aside0 (Kd.R Kd.string 9 kP w.heap.size (fun _ => True) (.slice (some iv) dh.length bv) dh) := ⟨by rw [← hq_]; exact (rk_ bH)⟩; have bZ : Aside0 (kP.heap[ox]? = some (.cells #[.string ao, .slice b7 ah.length bV] 52 (0, 0))) := ⟨by rw [← hq_]; exact (bk_ bo)⟩; have n2_ : Aside0 (kP.heap[d8]? = some (.cells #[.string (⟨#[]⟩ : ByteArray), .string (⟨#[]⟩ : ByteArray), .int .i64 0, .slice none 0 0] 29 (0, 0))) := ⟨by rw [← hq_]; exact (bk_ bk)⟩; have cD : Aside0 (Below w.heap.size w kP) := ⟨by rw [← hq_]; exact bl_⟩; clear bH bo bk HB hq_; have bH := bI; have bo := bZ; have bk := n2_; have HB := cD; clear bI bZ n2_ cD)); have vH : 0 ≤ (1 : Int) := (by omega); have vI : 1 < (dh.length : Int) := od_; obtain ⟨ER, Nt, m7⟩ := Kd.at_string (Kd.R_reads' bH.out).2.2 1 vH vI; obtain rfl : iv = ER := (by injection Nt); (try simp only [show (1 : Int).toNat = 1 from rfl, Nat.reduceMul, Nat.reduceEqDiff, Go.Addr.add, ↓reduceIte] at m7); have Xo : (1 < dh.length) = True := eq_true (by omega); (try rw [show ((1 : Int)).toNat = 1 from rfl] at m7); replace vH := eq_true vH; replace vI := eq_true vI) | (go_at_call 61; (with_reducible refine (F61.calls k (rdOf ByteArray.empty dh 1) true _ A8.out).mono ?_); rintro e w' ⟨rfl, ⟨nd, rfl⟩⟩; (try (rw [drewN_self kP]; generalize hq_ : World.drewN kP _ = kP; have bI : Aside0 (Kd.R Kd.string 9 kP w.heap.size (fun _ => True) (.slice (some iv) dh.length bv) dh) := ⟨by rw [← hq_]; exact (rk_ bH)⟩; have bZ : Aside0 (kP.heap[ox]? = some (.cells #[.string ao, .slice b7 ah.length bV] 52 (0, 0))) := ⟨by rw [← hq_]; exact (bk_ bo)⟩; have n2_ : Aside0 (kP.heap[d8]? = some (.cells #[.string (⟨#[]⟩ : ByteArray), .string (⟨#[]⟩ : ByteArray), .int .i64 0, .slice none 0 0] 29 (0, 0))) := ⟨by rw [← hq_]; exact (bk_ bk)⟩; have cD : Aside0 (Below w.heap.size w kP) := ⟨by rw [← hq_]; exact bl_⟩; clear bH bo bk HB hq_; have bH := bI; have bo := bZ; have bk := n2_; have HB := cD; clear bI bZ n2_ cD)); have Nu : 0 ≤ (2 : Int) := (by omega); have Nv : 2 < (dh.length : Int) := od_; obtain ⟨Xq, a7T, zC⟩ := Kd.at_string (Kd.R_reads' bH.out).2.2 2 Nu Nv; obtain rfl : iv = Xq := (by injection a7T); (try simp only [show (2 : Int).toNat = 2 from rfl, Nat.reduceMul, Nat.reduceEqDiff, Go.Addr.add, ↓reduceIte] at zC); have b1J : (2 < dh.length) = True := eq_true (by omega); (try rw [show ((2 : Int)).toNat = 2 from rfl] at zC); replace Nu := eq_true Nu; replace Nv := eq_true Nv) | ((with_reducible refine gate_callee (f := 62) rfl ?_); refine gl_ 34 Tryd.func62 #[.string (rdOf ByteArray.empty dh 2), .int .i64 1, .int .i64 999999] ?_ rfl rfl rfl rfl; (with_reducible refine (F62.calls k (rdOf ByteArray.empty dh 2) 1 999999 Xp a7S _ ?s1 A11.out).mono ?_); (case s1 => exact au6_21); rintro e Fv ⟨rfl, hb⟩; refine ⟨_, rfl, ?_⟩; replace bH := am_ (Kd.R_below (rk_ bH) hb); replace bo := bb_ bo hb; replace bk := bb_ bk hb; replace HB := hs_ w hb; (try clear hb)))
 replace bH := am_ (Kd.R_drew bH.out)
 replace bo := bd_ bo
 replace bk := bd_ bk
 replace HB := am_ (below_drew1 HB.out)
 have Nw : 0 ≤ (0 : Int) := (by omega)
 have Nx : 0 < (dh.length : Int) := od_
 obtain ⟨Xr, a7U, po⟩ := Kd.at_string (Kd.R_reads' bH.out).2.2 0 Nw Nx
 obtain rfl : iv = Xr := (by injection a7U)
 have b1K : (0 < dh.length) = True := eq_true (by omega)
 (try rw [show ((0 : Int)).toNat = 0 from rfl] at po)
 (try rw [Addr.add_zero'] at po)
 replace Nw := eq_true Nw
 replace Nx := eq_true Nx
 have Ny : 0 ≤ (1 : Int) := (by omega)
 have Nz : 1 < (dh.length : Int) := od_
 obtain ⟨Xs, a7V, pp⟩ := Kd.at_string (Kd.R_reads' bH.out).2.2 1 Ny Nz
 obtain rfl : iv = Xs := (by injection a7V)
 (try simp only [show (1 : Int).toNat = 1 from rfl, Nat.reduceMul, Nat.reduceEqDiff, Go.Addr.add, ↓reduceIte] at pp)
 have b1L : (1 < dh.length) = True := eq_true (by omega)
 (try rw [show ((1 : Int)).toNat = 1 from rfl] at pp)
 replace Ny := eq_true Ny
 replace Nz := eq_true Nz
 refine start_ (n := 11) (S := fun w' => w'.cell? iv = some (.string (rdOf ByteArray.empty dh 0)) ∧ w'.cell? ⟨iv.block, iv.off + 1, none⟩ = some (.string (rdOf ByteArray.empty dh 1))) (ds := []) (bs 11 0) (by kernel_rfl) rfl rfl ⟨po, pp⟩ (fun hHeld => ?_); refine with_tabW F38.tab5 F38.bits5 (fun HT_ HW_ => ?_)
 generalize Fv.drew = ES at bH bo bk HB po pp hHeld ⊢
 refine pu_ 0 37 (bs 11 1) HT_ ?_ rfl rfl
 refine pu_ 1 38 (bs 11 3) HT_ ?_ rfl rfl
 refine pu_ 3 40 (bs 11 11) HT_ ?_ rfl rfl
 refine pu_ 4 41 (bs 11 27) HT_ ?_ rfl rfl
 refine pu_ 6 43 (bs 11 91) HT_ ?_ rfl rfl
 refine pu_ 8 45 (bs 11 347) HT_ ?_ rfl rfl
 refine tk_ 2 39 (bs 11 351) HT_ HW_ hHeld (by rintro w' ⟨s0, s1⟩; go_simp; with_reducible rfl) ?_ rfl rfl
 refine tk_ 5 42 (bs 11 383) HT_ HW_ hHeld (by rintro w' ⟨s0, s1⟩; go_simp; with_reducible rfl) ?_ rfl rfl
 refine pu_ 7 44 (bs 11 511) HT_ ?_ rfl rfl
 refine one_ (i := 9) (N := none) (bs 11 1023) rfl rfl (one_of HT_.out (by kernel_rfl)) (by decide) (fun K hK => ?_)
 have b6n : ES.cell? ⟨d8, 0, none⟩ = some (.string (⟨#[]⟩ : ByteArray)) := (blk_cell bk.out 0).trans rfl
 have b1M := blk_frozen bk.out 0
 have a1d := dt.out
 have a1e := du.out
 have b6o : ES.cell? ⟨d8, 1, none⟩ = some (.string (⟨#[]⟩ : ByteArray)) := (blk_cell bk.out 1).trans rfl
 have b1N := blk_frozen bk.out 1
 have a1f := dt.out
 have a1g := du.out
 have b6p : ES.cell? ⟨d8, 2, none⟩ = some (.int .i64 0) := (blk_cell bk.out 2).trans rfl
 have b1O := blk_frozen bk.out 2
 have a1h := dt.out
 have a1i := du.out
 have a3g : ES.cell? ⟨d8, 3, none⟩ = some (.slice none 0 0) := (blk_cell bk.out 3).trans rfl
 have O9 := blk_frozen bk.out 3
 have a1j := dt.out
 have a1k := du.out
 refine skip_ (w1 := ?_) (by rfl) rfl ?_ ?_
 rotate_left
 ·go_simp
  rfl
 refine hK.out _ _ ⟨((cell_far (p := ⟨d8, _, none⟩) au6_4 _).trans (((cell_far (p := ⟨d8, _, none⟩) au6_4 _).trans (((cell_far (p := ⟨d8, _, none⟩) au6_4 _).trans (((cell_far (p := ⟨d8, _, none⟩) au6_4 _).trans (hHeld.1)))))))), ((cell_far (p := ⟨d8, _, none⟩) au6_4 _).trans (((cell_far (p := ⟨d8, _, none⟩) au6_4 _).trans (((cell_far (p := ⟨d8, _, none⟩) au6_4 _).trans (((cell_far (p := ⟨d8, _, none⟩) au6_4 _).trans (hHeld.2))))))))⟩ (fun hHeld => ?_)
 clear hK K
 refine pu_ 10 3 (bs 11 2047) HT_ ?_ rfl rfl
 refine done_ (done_of HT_.out (by kernel_rfl)) ?_
 try go_wp2
 refine bodyPost_ret (results_ct rfl _ _ d8 29 #[.string (rdOf ByteArray.empty dh 0), .string (rdOf ByteArray.empty dh 1), .int .i64 Xp, .slice none 0 0] (0, 0) _ rfl (bq_ bk) Tryd.underlying29 rfl (by kernel_rfl)) rfl ?_
 exact ⟨_, au6_13, au6_18, bl_⟩
theorem rd_HeadOf0.calls (k : Nat) (A0 : Option Addr) (c0 : Nat) (l0 : List (S52)) (r1 : ByteArray) (r2 : ByteArray) (r3 : Int) (r4 : List (S83)) (r5 : Bool) (r6 : Int) (r7 : Int) (w : World) (eQ : Kd.C k52 w A0 l0.length l0) (f9 : l0.length ≤ c0) (hT : LaidT true Tryd.prog w) (h : F14.f k l0 = some (r1, r2, r3, r4, r5, r6, r7)) :
  Calls Tryd.prog 14 #[.slice A0 l0.length c0] w fun e w' => ∃ yc : Value, e = .returned (.agg #[.string r1, .string r2, .int .i64 r3, yc, .bool r5, .int .i64 r6, .int .i64 r7]) ∧ (yc = .slice none 0 0 ∧ r4 = []) ∧ Below w.heap.size w w' := by
 have Xt := Tryd.underlying36
 have jn := Tryd.underlying52
 have tH := Tryd.underlying29
 have n3 := am_ eQ
 have sV := am_ f9
 clear eQ f9
 have HZT := am_ hT
 clear hT
 have HB := am_ (Below.refl w.heap.size w)
 have H : ((F37.f l0).bind fun Xu => (if Xu = true then (some ((⟨#[]⟩ : ByteArray), (⟨#[]⟩ : ByteArray), 0, ([] : List (S83)), false, 0, 2)) else (if (l0.length : Int) = 0 then (some ((⟨#[]⟩ : ByteArray), (⟨#[]⟩ : ByteArray), 0, ([] : List (S83)), false, 0, 6)) else (if 0 < (l0.length : Int) then ((F38.f k ((rd_T52 l0 0).f0) ((rd_T52 l0 0).f1)).bind fun ue => (if ue.2.2.2.2 = true then (some (ue.1, ue.2.1, ue.2.2.1, ue.2.2.2.1, true, 0, 0)) else (some ((⟨#[]⟩ : ByteArray), (⟨#[]⟩ : ByteArray), 0, ([] : List (S83)), false, 0, 3)))) else (none))))) = some (r1, r2, r3, r4, r5, r6, r7) := h
 clear h
 replace H := bi_ H; rcases H with ⟨Xu, A2, H⟩
 replace H := ib_ H; rcases H with ⟨rfl, H⟩ | ⟨rfl, H⟩
 ·simp only [Option.some.injEq, Prod.mk.injEq] at H
  obtain ⟨rfl, rfl, rfl, rfl, rfl, rfl, rfl⟩ := H
  go_enter Tryd.func14, Tryd.ntmps14
  go_wp2_with (first | ((with_reducible refine gate_dst (N := 2) rfl ?_); refine be_ 2 #[.string (⟨#[]⟩ : ByteArray), .string (⟨#[]⟩ : ByteArray), .int .i64 0, .slice none 0 0, .bool false, .int .i64 0, .int .i64 0] 36 ?_; intro kJ hg w4 hbox hb; have bi := am_ (hbox); have qo := am_ (gw_ hg bl_); have ET := qo; replace HB := hs_ w hb; clear hb hbox hg) | ((with_reducible refine gate_callee (f := 37) rfl ?_); refine gl_ 7 Tryd.func37 #[.slice A0 l0.length c0] ?_ rfl rfl rfl rfl; (with_reducible refine (F37.calls _ _ l0 true _ ?s1 ?s2 A2.out).mono ?_); (case s1 => exact au6_15); (case s2 => exact sV.out); rintro e w' ⟨rfl, ⟨nd, rfl⟩⟩; refine ⟨_, rfl, ?_⟩; (try (rw [drewN_self w4]; generalize hq_ : World.drewN w4 _ = w4; have bI : Aside0 (w4.heap[kJ]? = some (.cells #[.string (⟨#[]⟩ : ByteArray), .string (⟨#[]⟩ : ByteArray), .int .i64 0, .slice none 0 0, .bool false, .int .i64 0, .int .i64 0] 36 (0, 0))) := ⟨by rw [← hq_]; exact (bk_ bi)⟩; have bZ : Aside0 (Below w.heap.size w w4) := ⟨by rw [← hq_]; exact bl_⟩; clear bi HB hq_; have bi := bI; have HB := bZ; clear bI bZ)); obtain ⟨px, sn, a7W, a7X, a7Y, a7Z, a70⟩ := c7_ bi.out; have pz := blk_frozen bi.out 0; have sq := blk_frozen bi.out 1; have a71 := blk_frozen bi.out 2; have a72 := blk_frozen bi.out 3; have a73 := blk_frozen bi.out 4; have a74 := blk_frozen bi.out 5; have a76 := blk_frozen bi.out 6))
  refine bodyPost_ret (results_cell_row rfl _ _ kJ 36 #[.string (⟨#[]⟩ : ByteArray), .string (⟨#[]⟩ : ByteArray), .int .i64 0, .slice none 0 0, .bool false, .int .i64 0, .int .i64 2] (0, 0) _ rfl (bq_ bi) Tryd.underlying36 rfl (by kernel_rfl)) rfl ?_
  exact ⟨_, au6_13, au6_18, bl_⟩
 by_cases c6 : (l0.length : Int) = 0
 ·rw [if_pos c6] at H
  have c6b0 : ((l0.length : Int) == 0) = true := beq_iff_eq.mpr c6
  have c6b1 : ((l0.length : Int) != 0) = false := bne_eq_false_iff_eq.mpr c6
  clear c6
  simp only [Option.some.injEq, Prod.mk.injEq] at H
  obtain ⟨rfl, rfl, rfl, rfl, rfl, rfl, rfl⟩ := H
  go_enter Tryd.func14, Tryd.ntmps14
  go_wp2_with (first | ((with_reducible refine gate_dst (N := 2) rfl ?_); refine be_ 2 #[.string (⟨#[]⟩ : ByteArray), .string (⟨#[]⟩ : ByteArray), .int .i64 0, .slice none 0 0, .bool false, .int .i64 0, .int .i64 0] 36 ?_; intro kJ hg w7 hbox hb; have bi := am_ (hbox); have qo := am_ (gw_ hg bl_); have ET := qo; replace HB := hs_ w hb; clear hb hbox hg) | ((with_reducible refine gate_callee (f := 37) rfl ?_); refine gl_ 7 Tryd.func37 #[.slice A0 l0.length c0] ?_ rfl rfl rfl rfl; (with_reducible refine (F37.calls _ _ l0 false _ ?s1 ?s2 A2.out).mono ?_); (case s1 => exact au6_15); (case s2 => exact sV.out); rintro e w' ⟨rfl, ⟨nd, rfl⟩⟩; refine ⟨_, rfl, ?_⟩; (try (rw [drewN_self w7]; generalize hq_ : World.drewN w7 _ = w7; have bI : Aside0 (w7.heap[kJ]? = some (.cells #[.string (⟨#[]⟩ : ByteArray), .string (⟨#[]⟩ : ByteArray), .int .i64 0, .slice none 0 0, .bool false, .int .i64 0, .int .i64 0] 36 (0, 0))) := ⟨by rw [← hq_]; exact (bk_ bi)⟩; have bZ : Aside0 (Below w.heap.size w w7) := ⟨by rw [← hq_]; exact bl_⟩; clear bi HB hq_; have bi := bI; have HB := bZ; clear bI bZ)); obtain ⟨uT, uU, My, Mz, a77, a78, a79⟩ := c7_ bi.out; have uV := blk_frozen bi.out 0; have uW := blk_frozen bi.out 1; have MA := blk_frozen bi.out 2; have MB := blk_frozen bi.out 3; have a8a := blk_frozen bi.out 4; have a8b := blk_frozen bi.out 5; have a8c := blk_frozen bi.out 6))
  refine bodyPost_ret (results_cell_row rfl _ _ kJ 36 #[.string (⟨#[]⟩ : ByteArray), .string (⟨#[]⟩ : ByteArray), .int .i64 0, .slice none 0 0, .bool false, .int .i64 0, .int .i64 6] (0, 0) _ rfl (bq_ bi) Tryd.underlying36 rfl (by kernel_rfl)) rfl ?_
  exact ⟨_, au6_13, au6_18, bl_⟩
 rw [if_neg c6] at H
 have c6b0 : ((l0.length : Int) == 0) = false := beq_eq_false_iff_ne.mpr c6
 have c6b1 : ((l0.length : Int) != 0) = true := bne_iff_ne.mpr c6
 have c6b2 : ¬ (l0 = []) := fun h_ => c6 (by rw [h_]; rfl)
 replace H := itn_ H; rcases H with ⟨c9b0, H⟩
 have c9b1 : decide (0 < l0.length) = true := n2_ c9b0
 replace H := bi_ H; rcases H with ⟨⟨NA, m8, sK, qp, b6q⟩, OK, H⟩
 replace H := ib_ H; rcases H with ⟨rfl, H⟩ | ⟨rfl, H⟩
 rotate_left
 ·simp only [Option.some.injEq, Prod.mk.injEq] at H
  obtain ⟨rfl, rfl, rfl, rfl, rfl, rfl, rfl⟩ := H
  go_enter Tryd.func14, Tryd.ntmps14
  go_wp2_with (first | ((with_reducible refine gate_dst (N := 2) rfl ?_); refine be_ 2 #[.string (⟨#[]⟩ : ByteArray), .string (⟨#[]⟩ : ByteArray), .int .i64 0, .slice none 0 0, .bool false, .int .i64 0, .int .i64 0] 36 ?_; intro kJ hg ES hbox hb; have bi := am_ (hbox); have qo := am_ (gw_ hg bl_); have ET := qo; replace HB := hs_ w hb; clear hb hbox hg) | ((with_reducible refine gate_callee (f := 37) rfl ?_); refine gl_ 7 Tryd.func37 #[.slice A0 l0.length c0] ?_ rfl rfl rfl rfl; (with_reducible refine (F37.calls _ _ l0 false _ ?s1 ?s2 A2.out).mono ?_); (case s1 => exact au6_15); (case s2 => exact sV.out); rintro e w' ⟨rfl, ⟨nd, rfl⟩⟩; refine ⟨_, rfl, ?_⟩; (try (rw [drewN_self ES]; generalize hq_ : World.drewN ES _ = ES; have bI : Aside0 (ES.heap[kJ]? = some (.cells #[.string (⟨#[]⟩ : ByteArray), .string (⟨#[]⟩ : ByteArray), .int .i64 0, .slice none 0 0, .bool false, .int .i64 0, .int .i64 0] 36 (0, 0))) := ⟨by rw [← hq_]; exact (bk_ bi)⟩; have bZ : Aside0 (Below w.heap.size w ES) := ⟨by rw [← hq_]; exact bl_⟩; clear bi HB hq_; have bi := bI; have HB := bZ; clear bI bZ)); have vJ : 0 ≤ (0 : Int) := (by omega); have vK : 0 < (l0.length : Int) := od_; obtain ⟨Xv, vL, vM, NC, eE, eF, m9, na⟩ := at_T52 n3.out 0 vJ vK; cases NC; have Xw : (0 < l0.length) = True := eq_true (by omega); (try rw [show ((0 : Int)).toNat = 0 from rfl] at eE); (try rw [show 0 * 2 = 0 from rfl] at eE); (try rw [Addr.add_zero'] at eE); (try rw [show ((0 : Int)).toNat = 0 from rfl] at eF); (try rw [show 0 * 2 = 0 from rfl] at eF); (try rw [Addr.add_zero'] at eF); replace eE := (HB.out.cell (World.block_lt_of_cell? _ _ eE)).trans eE; replace eF := (HB.out.cell (World.block_lt_of_cell? _ _ eF)).trans eF; have zB := am_ na; have sL := am_ m9; clear na m9; replace vJ := eq_true vJ; replace vK := eq_true vK) | ((with_reducible refine gate_callee (f := 38) rfl ?_); refine gl_ 18 Tryd.func38 #[.agg #[.string ((rd_T52 l0 0).f0), .slice vL ((rd_T52 l0 0).f1).length vM]] ?_ rfl rfl rfl rfl; (with_reducible refine (rd_headOf.calls k ((rd_T52 l0 0).f0) _ _ ((rd_T52 l0 0).f1) NA m8 sK qp false _ ?s1 ?s2 ?s3 OK.out).mono ?_); (case s1 => exact au6_19); (case s2 => exact sL.out); (case s3 => exact au6_21); rintro e xr ⟨ND, rfl, bm, hb⟩; have HN := am_ bm; replace bm : Kd.S k83 83 xr ES.heap.size (fun _ => True) ND qp := (by rw [bm.1, bm.2]; exact Kd.S_nil _ _ _ _ _); refine ⟨_, rfl, ?_⟩; have rh := am_ (Kd.S_lower bm (below_size bl_)); replace bi := bb_ bi hb; replace HB := hs_ w hb; clear hb bm) | ((with_reducible refine gate_dst (N := 3) rfl ?_); refine be_ 3 #[.string (⟨#[]⟩ : ByteArray), .string (⟨#[]⟩ : ByteArray), .int .i64 0, .slice none 0 0] 29 ?_; intro Xx hg Zf hbox hb; replace rh := am_ (Kd.S_below au6_22 hb); have kK := am_ (hbox); have EU := am_ (gw_ hg bl_); have Xy := EU; replace HB := hs_ w hb; have nZ := am_ (gn_ hg (blkl_ bi)); have n0 := am_ (gm_ hg (blkl_ bi)); replace bi := bb_ bi hb; clear hb hbox hg; have JY := n0.out; have JZ := nZ.out; obtain ⟨lf, my, mz, a1l⟩ := c4_ kK.out; have lg := blk_frozen kK.out 0; have mA := blk_frozen kK.out 1; have mB := blk_frozen kK.out 2; have a1m := blk_frozen kK.out 3; obtain ⟨No, Np, Im⟩ := Kd.S_slice rh.out; subst Im; obtain ⟨wA, wB, Gk, Gl, a1n, a1o, a1p⟩ := c7_ bi.out; have wC := blk_frozen bi.out 0; have wD := blk_frozen bi.out 1; have Gm := blk_frozen bi.out 2; have Gn := blk_frozen bi.out 3; have a1q := blk_frozen bi.out 4; have a1r := blk_frozen bi.out 5; have a1s := blk_frozen bi.out 6))
  refine bodyPost_ret (results_cell_row rfl _ _ kJ 36 #[.string (⟨#[]⟩ : ByteArray), .string (⟨#[]⟩ : ByteArray), .int .i64 0, .slice none 0 0, .bool false, .int .i64 0, .int .i64 3] (0, 0) _ rfl (bq_ bi) Tryd.underlying36 rfl (by kernel_rfl)) rfl ?_
  exact ⟨_, au6_13, au6_18, bl_⟩
 simp only [Option.some.injEq, Prod.mk.injEq] at H
 obtain ⟨rfl, rfl, rfl, rfl, rfl, rfl, rfl⟩ := H
 go_enter Tryd.func14, Tryd.ntmps14
 go_wp2_with (first | ((with_reducible refine gate_dst (N := 2) rfl ?_); refine be_ 2 #[.string (⟨#[]⟩ : ByteArray), .string (⟨#[]⟩ : ByteArray), .int .i64 0, .slice none 0 0, .bool false, .int .i64 0, .int .i64 0] 36 ?_; intro kJ hg rx hbox hb; have bi := am_ (hbox); have qo := am_ (gw_ hg bl_); have ET := qo; replace HB := hs_ w hb; clear hb hbox hg) | ((with_reducible refine gate_callee (f := 37) rfl ?_); refine gl_ 7 Tryd.func37 #[.slice A0 l0.length c0] ?_ rfl rfl rfl rfl; (with_reducible refine (F37.calls _ _ l0 false _ ?s1 ?s2 A2.out).mono ?_); (case s1 => exact au6_15); (case s2 => exact sV.out); rintro e w' ⟨rfl, ⟨nd, rfl⟩⟩; refine ⟨_, rfl, ?_⟩; (try (rw [drewN_self rx]; generalize hq_ : World.drewN rx _ = rx; have bI : Aside0 (rx.heap[kJ]? = some (.cells #[.string (⟨#[]⟩ : ByteArray), .string (⟨#[]⟩ : ByteArray), .int .i64 0, .slice none 0 0, .bool false, .int .i64 0, .int .i64 0] 36 (0, 0))) := ⟨by rw [← hq_]; exact (bk_ bi)⟩; have bZ : Aside0 (Below w.heap.size w rx) := ⟨by rw [← hq_]; exact bl_⟩; clear bi HB hq_; have bi := bI; have HB := bZ; clear bI bZ)); have vJ : 0 ≤ (0 : Int) := (by omega); have vK : 0 < (l0.length : Int) := od_; obtain ⟨Xv, vL, vM, NC, eE, eF, m9, na⟩ := at_T52 n3.out 0 vJ vK; cases NC; have Xw : (0 < l0.length) = True := eq_true (by omega); (try rw [show ((0 : Int)).toNat = 0 from rfl] at eE); (try rw [show 0 * 2 = 0 from rfl] at eE); (try rw [Addr.add_zero'] at eE); (try rw [show ((0 : Int)).toNat = 0 from rfl] at eF); (try rw [show 0 * 2 = 0 from rfl] at eF); (try rw [Addr.add_zero'] at eF); replace eE := (HB.out.cell (World.block_lt_of_cell? _ _ eE)).trans eE; replace eF := (HB.out.cell (World.block_lt_of_cell? _ _ eF)).trans eF; have zB := am_ na; have sL := am_ m9; clear na m9; replace vJ := eq_true vJ; replace vK := eq_true vK) | ((with_reducible refine gate_callee (f := 38) rfl ?_); refine gl_ 18 Tryd.func38 #[.agg #[.string ((rd_T52 l0 0).f0), .slice vL ((rd_T52 l0 0).f1).length vM]] ?_ rfl rfl rfl rfl; (with_reducible refine (rd_headOf.calls k ((rd_T52 l0 0).f0) _ _ ((rd_T52 l0 0).f1) NA m8 sK qp true _ ?s1 ?s2 ?s3 OK.out).mono ?_); (case s1 => exact au6_19); (case s2 => exact sL.out); (case s3 => exact au6_21); rintro e OD ⟨ND, rfl, bm, hb⟩; have HN := am_ bm; replace bm : Kd.S k83 83 OD rx.heap.size (fun _ => True) ND qp := (by rw [bm.1, bm.2]; exact Kd.S_nil _ _ _ _ _); refine ⟨_, rfl, ?_⟩; have rh := am_ (Kd.S_lower bm (below_size bl_)); replace bi := bb_ bi hb; replace HB := hs_ w hb; clear hb bm) | ((with_reducible refine gate_dst (N := 3) rfl ?_); refine be_ 3 #[.string (⟨#[]⟩ : ByteArray), .string (⟨#[]⟩ : ByteArray), .int .i64 0, .slice none 0 0] 29 ?_; intro Xx hg AN hbox hb; replace rh := am_ (Kd.S_below au6_22 hb); have kK := am_ (hbox); have EU := am_ (gw_ hg bl_); have Xy := EU; replace HB := hs_ w hb; have nZ := am_ (gn_ hg (blkl_ bi)); have n0 := am_ (gm_ hg (blkl_ bi)); replace bi := bb_ bi hb; clear hb hbox hg; have Kf := n0.out; have Kg := nZ.out; obtain ⟨yV, HF, a1t, a1u⟩ := c4_ kK.out; have yW := blk_frozen kK.out 0; have HI := blk_frozen kK.out 1; have a1v := blk_frozen kK.out 2; have a1w := blk_frozen kK.out 3; obtain ⟨Ay, bv, vq⟩ := Kd.S_slice rh.out; subst vq; obtain ⟨Hu, Hv, a1x, a1y, a1z, a1A, a1B⟩ := c7_ bi.out; have Hw := blk_frozen bi.out 0; have Hx := blk_frozen bi.out 1; have a1C := blk_frozen bi.out 2; have a1D := blk_frozen bi.out 3; have a1E := blk_frozen bi.out 4; have a1F := blk_frozen bi.out 5; have a1G := blk_frozen bi.out 6))
 refine bodyPost_ret (results_cell_row rfl _ _ kJ 36 #[.string NA, .string m8, .int .i64 sK, .slice Ay qp.length bv, .bool true, .int .i64 0, .int .i64 0] (0, 0) _ rfl (bq_ bi) Tryd.underlying36 rfl (by kernel_rfl)) rfl ?_
 exact ⟨_, au6_13, (by first | exact HN.out | (have q_ := HN.out; simpa using q_)), bl_⟩
theorem rd_HeadOf.calls (k : Nat) (A0 : Option Addr) (c0 : Nat) (l0 : List (S52)) (r1 : ByteArray) (r2 : ByteArray) (r3 : Int) (r4 : List (S83)) (r5 : Bool) (r6 : Int) (r7 : Int) (w : World) (eQ : Kd.C k52 w A0 l0.length l0) (f9 : l0.length ≤ c0) (hT : LaidT true Tryd.prog w) (h : F14.f k l0 = some (r1, r2, r3, r4, r5, r6, r7)) :
  Calls Tryd.prog 14 #[.slice A0 l0.length c0] w fun e w' => e = .returned (.agg #[.string r1, .string r2, .int .i64 r3, .slice none 0 0, .bool r5, .int .i64 r6, .int .i64 r7]) ∧ r4 = [] ∧ Below w.heap.size w w' := by
 refine (rd_HeadOf0.calls k A0 c0 l0 r1 r2 r3 r4 r5 r6 r7 w eQ f9 hT h).mono ?_
 rintro e w' ⟨v, rfl, ⟨rfl, h4⟩, hb⟩
 exact ⟨rfl, h4, hb⟩

theorem rd_tb2.mono (k : Nat) (inn : Int) (L : List S83) (a0 : ByteArray) (l1 : List S55) : LeO (rd_tb2 k inn L a0 l1) (rd_tb2 (k + 1) inn L a0 l1) := by
 unfold rd_tb2
 repeat' with_reducible first | exact F60.mono _ _ _ _ _ | exact F62.mono _ _ _ _ | exact LeO.refl _ | exact LeO.none _ | refine LeO.ite ?_ ?_ | refine LeO.bind ?_ (fun _ => ?_)
theorem rd_takeBundle.mono (k : Nat) (n inn : Int) (L : List S83) (a0 : ByteArray) (l1 : List S55) : LeO (rd_takeBundle.f k n inn L a0 l1) (rd_takeBundle.f (k + 1) n inn L a0 l1) := by
 unfold rd_takeBundle.f
 repeat' with_reducible first | exact rd_tb2.mono _ _ _ _ _ | exact F77.mono _ _ _ _ _ _ | exact LeO.refl _ | refine LeO.ite ?_ ?_ | refine LeO.bind ?_ (fun _ => ?_)
theorem rd_tm2.mono (k : Nat) (inn : Int) (L : List S83) (b : S83) (a0 : ByteArray) (l1 : List S55) : LeO (rd_tm2 k inn L b a0 l1) (rd_tm2 (k + 1) inn L b a0 l1) := by
 unfold rd_tm2
 repeat' with_reducible first | exact F60.mono _ _ _ _ _ | exact F62.mono _ _ _ _ | exact LeO.refl _ | exact LeO.none _ | refine LeO.ite ?_ ?_ | refine LeO.bind ?_ (fun _ => ?_)
theorem rd_takeMessage.mono (k : Nat) (inn : Int) (L : List S83) (a0 : ByteArray) (l1 : List S55) : LeO (rd_takeMessage.f k inn L a0 l1) (rd_takeMessage.f (k + 1) inn L a0 l1) := by
 unfold rd_takeMessage.f
 repeat' with_reducible first | exact rd_tm2.mono _ _ _ _ _ _ | exact F77.mono _ _ _ _ _ _ | exact LeO.refl _ | exact LeO.none _ | refine LeO.ite ?_ ?_ | refine LeO.bind ?_ (fun _ => ?_)
theorem rd_t2.mono (k : Nat) (inn : Int) (L : List S83) (b : S83) (m : S85) (a0 : ByteArray) (l1 : List S55) : LeO (rd_t2 k inn L b m a0 l1) (rd_t2 (k + 1) inn L b m a0 l1) := by
 unfold rd_t2
 repeat' with_reducible first | exact F77.mono _ _ _ _ _ _ | exact F78.mono _ _ _ | exact F79.mono _ _ _ | exact LeO.refl _ | exact LeO.none _ | refine LeO.ite ?_ ?_ | refine LeO.bind ?_ (fun _ => ?_)
theorem rd_take.mono (k : Nat) (n inn : Int) (L : List S83) (a0 : ByteArray) (l1 : List S55) : LeO (rd_take.f k n inn L a0 l1) (rd_take.f (k + 1) n inn L a0 l1) := by
 unfold rd_take.f
 repeat' with_reducible first | exact rd_takeBundle.mono _ _ _ _ _ _ | exact rd_takeMessage.mono _ _ _ _ _ | exact rd_t2.mono _ _ _ _ _ _ _ | exact LeO.refl _ | exact LeO.none _ | refine LeO.ite ?_ ?_
def rd_ixr (n : Int) (G : List S52) : Nat → Int → Int → List S83 → Option (Int × Int × Int × List S83)
  | 0, _, _, _ => none
  | k + 1, i, inn, L => if i < (G.length : Int) then (if 0 ≤ i then ((rd_take.f k n inn L (rd_T52 G i).f0 (rd_T52 G i).f1).bind fun q => (if q.1 = 0 then (rd_ixr n G k (wrap64 (i + 1)) q.2.1 q.2.2) else (some (q.1, wrap64 (i + 1), q.2.1, q.2.2)))) else (none)) else (some (0, 0, inn, L))
def F24.f (k : Nat) (G : List S52) : Option (ByteArray × ByteArray × Int × (List S83) × Bool × Int × Int) := (F14.f k G).bind fun h => (if h.2.2.2.2.2.2 = 0 then (if 1 ≤ G.length then ((rd_ixr h.2.2.1 (G.drop 1) k 0 0 []).bind fun q => (if q.1 = 0 then (if q.2.2.1 = 3 then (some (h.1, h.2.1, h.2.2.1, q.2.2.2, true, 0, 0)) else (some (h.1, h.2.1, h.2.2.1, [], h.2.2.2.2.1, (G.length : Int), 4))) else (some (h.1, h.2.1, h.2.2.1, [], h.2.2.2.2.1, q.2.1, q.1)))) else (none)) else (some (h.1, h.2.1, h.2.2.1, [], h.2.2.2.2.1, h.2.2.2.2.2.1, h.2.2.2.2.2.2)))
theorem rd_ixr.mono (n : Int) (G : List S52) : ∀ (k : Nat) (i inn : Int) (L : List S83), LeO (rd_ixr n G k i inn L) (rd_ixr n G (k + 1) i inn L)
 | 0 => fun i inn L r h => by simp [rd_ixr] at h
 | k + 1 => by
  have ih := rd_ixr.mono n G k
  intro i inn L
  unfold rd_ixr
  repeat' with_reducible first | exact ih _ _ _ | exact rd_take.mono _ _ _ _ _ _ | exact LeO.refl _ | exact LeO.none _ | refine LeO.ite ?_ ?_ | refine LeO.bind ?_ (fun _ => ?_)
theorem F24.mono : ∀ a0 k, LeO (F24.f k a0) (F24.f (k + 1) a0) := by
 intro a0 k
 unfold F24.f
 repeat' with_reducible first | exact F14.mono _ _ | exact rd_ixr.mono _ _ _ _ _ _ | exact LeO.refl _ | exact LeO.none _ | refine LeO.ite ?_ ?_ | refine LeO.bind ?_ (fun _ => ?_)
theorem rd_mv {α : Type} {d : Kd α} {e b : Nat} {W : World} {ok : Nat → Prop} {v : Value} {xs : List α} (h : Kd.S d e W b ok v xs) {g i : Nat} (hg : g < b) (u : Value) : Kd.S d e (W.setCell ⟨g, i, none⟩ u) b ok v xs :=
 Kd.S_mono (Kd.S_move (Kd.S_bound h) (fun k hk => Below.heap_setCell W ⟨g, i, none⟩ u k (by have := hk.2.1; show k ≠ g; omega))) (fun k hk => hk.1)
theorem F24.calls (k : Nat) (A0 : Option Addr) (c0 : Nat) (l0 : List (S52)) (r1 : ByteArray) (r2 : ByteArray) (r3 : Int) (r4 : List (S83)) (r5 : Bool) (r6 : Int) (r7 : Int) (w : World) (eQ : Kd.C k52 w A0 l0.length l0) (f9 : l0.length ≤ c0) (hT : LaidT true Tryd.prog w) (h : F24.f k l0 = some (r1, r2, r3, r4, r5, r6, r7)) :
  Calls Tryd.prog 24 #[.slice A0 l0.length c0] w fun e w' => ∃ yc : Value, e = .returned (.agg #[.string r1, .string r2, .int .i64 r3, yc, .bool r5, .int .i64 r6, .int .i64 r7]) ∧ Kd.S k83 83 w' w.heap.size (fun _ => True) yc r4 ∧ Below w.heap.size w w' := by
 have Xt := Tryd.underlying36
 have tH := Tryd.underlying29
 have jn := Tryd.underlying52
 have EK := Tryd.underlying93
 have a7I := Tryd.underlying38
 have HR := am_ eQ
 have HC := am_ f9
 have HT := am_ hT
 have HB := am_ (Below.refl w.heap.size w)
 have H := h
 unfold F24.f at H
 clear eQ f9 hT h
 replace H := Option.bind_eq_some_iff.mp H
 obtain ⟨⟨h1, h2, h3, h4, h5, h6, h7⟩, Oz, H⟩ := H
 have A1 := am_ Oz
 clear Oz
 dsimp only at H
 by_cases c2 : h7 = 0
 rotate_left
 ·rw [if_neg c2] at H
  have c2b0 : (h7 == 0) = false := beq_eq_false_iff_ne.mpr c2
  have c2b1 : (h7 != 0) = true := bne_iff_ne.mpr c2
  clear c2
  simp only [Option.some.injEq, Prod.mk.injEq] at H
  obtain ⟨rfl, rfl, rfl, rfl, rfl, rfl, rfl⟩ := H
  go_enter Tryd.func24, Tryd.ntmps24
  go_wp2_with (first | ((with_reducible refine gate_dst (N := 2) rfl ?_); refine be_ 2 #[.string (⟨#[]⟩ : ByteArray), .string (⟨#[]⟩ : ByteArray), .int .i64 0, .slice none 0 0, .bool false, .int .i64 0, .int .i64 0] 36 ?_; intro g2 hgb w1 hbox hb; have gC := am_ (show w.heap.size ≤ g2 from by rw [hgb]; exact below_size au6_0); replace HB := am_ (below_step au6_0 hb); have B2 := am_ hbox; clear hbox hb; clear hgb) | (go_at_call 14; (with_reducible refine (rd_HeadOf.calls k _ _ l0 h1 h2 h3 h4 h5 h6 h7 _ ?sd1 HC.out ?sd2 A1.out).mono ?_); (case sd1 => exact Kd.C_below HR.out au6_0); (case sd2 => exact HT.out.below au6_0); rintro e w2 ⟨rfl, Xz, hb⟩; subst Xz; replace HB := am_ (below_step au6_0 hb); replace B2 := am_ (blk_below au6_7 hb); clear hb) | ((with_reducible refine gate_dst (N := 3) rfl ?_); refine be_ 3 #[.string (⟨#[]⟩ : ByteArray), .string (⟨#[]⟩ : ByteArray), .int .i64 0, .slice none 0 0, .bool false, .int .i64 0, .int .i64 0] 36 ?_; intro g3 hgb w3 hbox hb; have ud := blk_lt au6_7; have lQ := am_ (show w.heap.size ≤ g3 from by rw [hgb]; exact below_size au6_0); replace HB := am_ (below_step au6_0 hb); replace B2 := am_ (blk_below au6_7 hb); have B3 := am_ hbox; clear hbox hb; have N23s : g2 < g3 := (by rw [hgb]; exact ud); clear hgb; have XA : w3.cell? ⟨g3, 0, none⟩ = some (.string (⟨#[]⟩ : ByteArray)) := (blk_cell B3.out 0).trans rfl; have EV := blk_frozen B3.out 0; have hq1 : w3.cell? ⟨g3, 1, none⟩ = some (.string (⟨#[]⟩ : ByteArray)) := (blk_cell B3.out 1).trans rfl; have EW := blk_frozen B3.out 1; have hq2 : w3.cell? ⟨g3, 2, none⟩ = some (.int .i64 0) := (blk_cell B3.out 2).trans rfl; have EX := blk_frozen B3.out 2; have XB : w3.cell? ⟨g3, 3, none⟩ = some (.slice none 0 0) := (blk_cell B3.out 3).trans rfl; have EY := blk_frozen B3.out 3; have XC : w3.cell? ⟨g3, 4, none⟩ = some (.bool false) := (blk_cell B3.out 4).trans rfl; have EZ := blk_frozen B3.out 4; have XD : w3.cell? ⟨g3, 5, none⟩ = some (.int .i64 0) := (blk_cell B3.out 5).trans rfl; have E0 := blk_frozen B3.out 5; have XE : w3.cell? ⟨g3, 6, none⟩ = some (.int .i64 0) := (blk_cell B3.out 6).trans rfl; have E1 := blk_frozen B3.out 6) | ((with_reducible refine gate_store (t := 36) (p := 3) rfl ?_); refine store_event (t := 36) (p := 3) (v := ?vo_) (w1 := (((((((w3.setCell ⟨g3, 0, none⟩ (.string h1)).setCell ⟨g3, 1, none⟩ (.string h2)).setCell ⟨g3, 2, none⟩ (.int .i64 h3)).setCell ⟨g3, 3, none⟩ (.slice none 0 0)).setCell ⟨g3, 4, none⟩ (.bool h5)).setCell ⟨g3, 5, none⟩ (.int .i64 h6)).setCell ⟨g3, 6, none⟩ (.int .i64 h7))) ?hg ?ho ?hn ?hr ?_; (case ho => rfl); (case hg => rfl); (case hn => rfl); (case hr => exact hr_); intro w4 hw; have kL : g2 ≠ g3 := (by rintro rfl; have := N23s; omega); have cD := am_ (show w4.heap[g3]? = some (.cells #[.string h1, .string h2, .int .i64 h3, .slice none 0 0, .bool h5, .int .i64 h6, .int .i64 h7] 36 (0, 0)) from by rw [hw]; exact (blk_put (blk_put (blk_put (blk_put (blk_put (blk_put (blk_put B3.out 0 _ rfl) 1 _ rfl) 2 _ rfl) 3 _ rfl) 4 _ rfl) 5 _ rfl) 6 _ rfl)); have n2_ := am_ (show w4.heap[g2]? = some (.cells #[.string (⟨#[]⟩ : ByteArray), .string (⟨#[]⟩ : ByteArray), .int .i64 0, .slice none 0 0, .bool false, .int .i64 0, .int .i64 0] 36 (0, 0)) from by rw [hw]; exact (blk_far (p := ⟨g3, 6, none⟩) (blk_far (p := ⟨g3, 5, none⟩) (blk_far (p := ⟨g3, 4, none⟩) (blk_far (p := ⟨g3, 3, none⟩) (blk_far (p := ⟨g3, 2, none⟩) (blk_far (p := ⟨g3, 1, none⟩) (blk_far (p := ⟨g3, 0, none⟩) B2.out kL _) kL _) kL _) kL _) kL _) kL _) kL _)); have bI := am_ (show Below w.heap.size w w4 from by rw [hw]; exact (below_set (j := 6) (below_set (j := 5) (below_set (j := 4) (below_set (j := 3) (below_set (j := 2) (below_set (j := 1) (below_set (j := 0) HB.out lQ.out) lQ.out) lQ.out) lQ.out) lQ.out) lQ.out) lQ.out)); clear hw HB B2 B3; clear XA EV hq1 EW hq2 EX XB EY XC EZ XD E0 XE E1; have HB := bI; have B2 := n2_; have B3 := cD; clear bI n2_ cD; have bm : w4.cell? ⟨g3, 0, none⟩ = some (.string h1) := (blk_cell B3.out 0).trans rfl; have Ip := blk_frozen B3.out 0; have ho1 : w4.cell? ⟨g3, 1, none⟩ = some (.string h2) := (blk_cell B3.out 1).trans rfl; have Iq := blk_frozen B3.out 1; have ho2 : w4.cell? ⟨g3, 2, none⟩ = some (.int .i64 h3) := (blk_cell B3.out 2).trans rfl; have Ir := blk_frozen B3.out 2; have ho3 : w4.cell? ⟨g3, 3, none⟩ = some (.slice none 0 0) := (blk_cell B3.out 3).trans rfl; have Is := blk_frozen B3.out 3; have ho4 : w4.cell? ⟨g3, 4, none⟩ = some (.bool h5) := (blk_cell B3.out 4).trans rfl; have It := blk_frozen B3.out 4; have ho5 : w4.cell? ⟨g3, 5, none⟩ = some (.int .i64 h6) := (blk_cell B3.out 5).trans rfl; have Iu := blk_frozen B3.out 5; have up : w4.cell? ⟨g3, 6, none⟩ = some (.int .i64 h7) := (blk_cell B3.out 6).trans rfl; have Iv := blk_frozen B3.out 6; have HBx := HB.out; have B2x := B2.out; obtain ⟨KB, KC, KD, KE, KF, KG, KH⟩ := c7_ B2x; have uf := blk_frozen B2x 0; have ug := blk_frozen B2x 1; have uh := blk_frozen B2x 2; have ui := blk_frozen B2x 3; have uj := blk_frozen B2x 4; have uk := blk_frozen B2x 5; have ul := blk_frozen B2x 6) | ((with_reducible refine gate_store (t := 36) (p := 2) rfl ?_); refine store_event (t := 36) (p := 2) (v := ?vo_bN4) (w1 := (((((((w4.setCell ⟨g2, 0, none⟩ (.string h1)).setCell ⟨g2, 1, none⟩ (.string h2)).setCell ⟨g2, 2, none⟩ (.int .i64 h3)).setCell ⟨g2, 3, none⟩ (.slice none 0 0)).setCell ⟨g2, 4, none⟩ (.bool h5)).setCell ⟨g2, 5, none⟩ (.int .i64 h6)).setCell ⟨g2, 6, none⟩ (.int .i64 h7))) ?hg ?ho ?hn ?hr ?_; (case ho => rfl); (case hg => rfl); (case hn => rfl); (case hr => exact hr_); intro wf hw; have F2 := am_ (show wf.heap[g2]? = some (.cells #[.string h1, .string h2, .int .i64 h3, .slice none 0 0, .bool h5, .int .i64 h6, .int .i64 h7] 36 (0, 0)) from by rw [hw]; exact (blk_put (blk_put (blk_put (blk_put (blk_put (blk_put (blk_put B2x 0 _ rfl) 1 _ rfl) 2 _ rfl) 3 _ rfl) 4 _ rfl) 5 _ rfl) 6 _ rfl)); have FB := am_ (show Below w.heap.size w wf from by rw [hw]; exact (below_set (j := 6) (below_set (j := 5) (below_set (j := 4) (below_set (j := 3) (below_set (j := 2) (below_set (j := 1) (below_set (j := 0) HBx gC.out) gC.out) gC.out) gC.out) gC.out) gC.out) gC.out)); clear hw))
  go_wp2
  refine bodyPost_ret (results_cell_row rfl _ _ g2 36 #[.string h1, .string h2, .int .i64 h3, .slice none 0 0, .bool h5, .int .i64 h6, .int .i64 h7] (0, 0) _ rfl F2.out Tryd.underlying36 rfl (by kernel_rfl)) rfl ?_
  exact ⟨.slice none 0 0, rfl, Kd.S_nil _ _ _ _ _, FB.out⟩
 rw [if_pos c2] at H
 subst c2
 by_cases c3 : 1 ≤ l0.length
 rotate_left
 ·rw [if_neg c3] at H
  cases H
 rw [if_pos c3] at H
 have c3a : (1 : Int) ≤ (c0 : Int) := by have := HC.out; omega
 have c3b0 : decide ((1 : Int) ≤ (l0.length : Int)) = true := decide_eq_true (by omega)
 have c3b1 : decide (1 ≤ l0.length) = true := decide_eq_true c3
 obtain ⟨ad, A9_, c9_, ead, _⟩ := at_T52 HR.out 0 (by omega) (by omega)
 subst ead
 replace H := Option.bind_eq_some_iff.mp H
 obtain ⟨⟨q1, q2, q3, q4⟩, Yp, H⟩ := H
 dsimp only at H
 have A2 := am_ Yp
 clear Yp
 have A3 := am_ H
 clear H
 have C3 := am_ c3
 by_cases c1 : c0 = 1
 ·have LB : Aside0 (Kd.C k52 w (some ad) (l0.drop 1).length (l0.drop 1)) := ⟨by have q_ := Kd.C_drop (m := 1) HR.out c3 HC.out; rw [if_pos c1] at q_; exact q_⟩
  subst c1
  have hGl : (l0.drop 1).length = l0.length - 1 := List.length_drop
  generalize l0.drop 1 = G at LB A2 hGl
  go_enter Tryd.func24, Tryd.ntmps24
  go_upto_region 5 with (first | ((with_reducible refine gate_dst (N := 2) rfl ?_); refine be_ 2 #[.string (⟨#[]⟩ : ByteArray), .string (⟨#[]⟩ : ByteArray), .int .i64 0, .slice none 0 0, .bool false, .int .i64 0, .int .i64 0] 36 ?_; intro g2 hgb w1 hbox hb; have gC := am_ (show w.heap.size ≤ g2 from by rw [hgb]; exact below_size au6_0); replace HB := am_ (below_step au6_0 hb); have B2 := am_ hbox; clear hbox hb; clear hgb) | (go_at_call 14; (with_reducible refine (rd_HeadOf.calls k _ _ l0 h1 h2 h3 h4 h5 h6 0 _ ?sd1 HC.out ?sd2 A1.out).mono ?_); (case sd1 => exact Kd.C_below HR.out au6_0); (case sd2 => exact HT.out.below au6_0); rintro e w2 ⟨rfl, Xz, hb⟩; subst Xz; replace HB := am_ (below_step au6_0 hb); replace B2 := am_ (blk_below au6_7 hb); clear hb) | ((with_reducible refine gate_dst (N := 3) rfl ?_); refine be_ 3 #[.string (⟨#[]⟩ : ByteArray), .string (⟨#[]⟩ : ByteArray), .int .i64 0, .slice none 0 0, .bool false, .int .i64 0, .int .i64 0] 36 ?_; intro g3 hgb w3 hbox hb; have ud := blk_lt au6_7; have lQ := am_ (show w.heap.size ≤ g3 from by rw [hgb]; exact below_size au6_0); replace HB := am_ (below_step au6_0 hb); replace B2 := am_ (blk_below au6_7 hb); have B3 := am_ hbox; clear hbox hb; have N23s : g2 < g3 := (by rw [hgb]; exact ud); clear hgb; have XA : w3.cell? ⟨g3, 0, none⟩ = some (.string (⟨#[]⟩ : ByteArray)) := (blk_cell B3.out 0).trans rfl; have EV := blk_frozen B3.out 0; have hq1 : w3.cell? ⟨g3, 1, none⟩ = some (.string (⟨#[]⟩ : ByteArray)) := (blk_cell B3.out 1).trans rfl; have EW := blk_frozen B3.out 1; have hq2 : w3.cell? ⟨g3, 2, none⟩ = some (.int .i64 0) := (blk_cell B3.out 2).trans rfl; have EX := blk_frozen B3.out 2; have XB : w3.cell? ⟨g3, 3, none⟩ = some (.slice none 0 0) := (blk_cell B3.out 3).trans rfl; have EY := blk_frozen B3.out 3; have XC : w3.cell? ⟨g3, 4, none⟩ = some (.bool false) := (blk_cell B3.out 4).trans rfl; have EZ := blk_frozen B3.out 4; have XD : w3.cell? ⟨g3, 5, none⟩ = some (.int .i64 0) := (blk_cell B3.out 5).trans rfl; have E0 := blk_frozen B3.out 5; have XE : w3.cell? ⟨g3, 6, none⟩ = some (.int .i64 0) := (blk_cell B3.out 6).trans rfl; have E1 := blk_frozen B3.out 6) | ((with_reducible refine gate_store (t := 36) (p := 3) rfl ?_); refine store_event (t := 36) (p := 3) (v := ?vo_) (w1 := (((((((w3.setCell ⟨g3, 0, none⟩ (.string h1)).setCell ⟨g3, 1, none⟩ (.string h2)).setCell ⟨g3, 2, none⟩ (.int .i64 h3)).setCell ⟨g3, 3, none⟩ (.slice none 0 0)).setCell ⟨g3, 4, none⟩ (.bool h5)).setCell ⟨g3, 5, none⟩ (.int .i64 h6)).setCell ⟨g3, 6, none⟩ (.int .i64 0))) ?hg ?ho ?hn ?hr ?_; (case ho => rfl); (case hg => rfl); (case hn => rfl); (case hr => exact hr_); intro w4 hw; have kL : g2 ≠ g3 := (by rintro rfl; have := N23s; omega); have cD := am_ (show w4.heap[g3]? = some (.cells #[.string h1, .string h2, .int .i64 h3, .slice none 0 0, .bool h5, .int .i64 h6, .int .i64 0] 36 (0, 0)) from by rw [hw]; exact (blk_put (blk_put (blk_put (blk_put (blk_put (blk_put (blk_put B3.out 0 _ rfl) 1 _ rfl) 2 _ rfl) 3 _ rfl) 4 _ rfl) 5 _ rfl) 6 _ rfl)); have n2_ := am_ (show w4.heap[g2]? = some (.cells #[.string (⟨#[]⟩ : ByteArray), .string (⟨#[]⟩ : ByteArray), .int .i64 0, .slice none 0 0, .bool false, .int .i64 0, .int .i64 0] 36 (0, 0)) from by rw [hw]; exact (blk_far (p := ⟨g3, 6, none⟩) (blk_far (p := ⟨g3, 5, none⟩) (blk_far (p := ⟨g3, 4, none⟩) (blk_far (p := ⟨g3, 3, none⟩) (blk_far (p := ⟨g3, 2, none⟩) (blk_far (p := ⟨g3, 1, none⟩) (blk_far (p := ⟨g3, 0, none⟩) B2.out kL _) kL _) kL _) kL _) kL _) kL _) kL _)); have bI := am_ (show Below w.heap.size w w4 from by rw [hw]; exact (below_set (j := 6) (below_set (j := 5) (below_set (j := 4) (below_set (j := 3) (below_set (j := 2) (below_set (j := 1) (below_set (j := 0) HB.out lQ.out) lQ.out) lQ.out) lQ.out) lQ.out) lQ.out) lQ.out)); clear hw HB B2 B3; clear XA EV hq1 EW hq2 EX XB EY XC EZ XD E0 XE E1; have HB := bI; have B2 := n2_; have B3 := cD; clear bI n2_ cD; have bm : w4.cell? ⟨g3, 0, none⟩ = some (.string h1) := (blk_cell B3.out 0).trans rfl; have Ip := blk_frozen B3.out 0; have ho1 : w4.cell? ⟨g3, 1, none⟩ = some (.string h2) := (blk_cell B3.out 1).trans rfl; have Iq := blk_frozen B3.out 1; have ho2 : w4.cell? ⟨g3, 2, none⟩ = some (.int .i64 h3) := (blk_cell B3.out 2).trans rfl; have Ir := blk_frozen B3.out 2; have ho3 : w4.cell? ⟨g3, 3, none⟩ = some (.slice none 0 0) := (blk_cell B3.out 3).trans rfl; have Is := blk_frozen B3.out 3; have ho4 : w4.cell? ⟨g3, 4, none⟩ = some (.bool h5) := (blk_cell B3.out 4).trans rfl; have It := blk_frozen B3.out 4; have ho5 : w4.cell? ⟨g3, 5, none⟩ = some (.int .i64 h6) := (blk_cell B3.out 5).trans rfl; have Iu := blk_frozen B3.out 5; have up : w4.cell? ⟨g3, 6, none⟩ = some (.int .i64 0) := (blk_cell B3.out 6).trans rfl; have Iv := blk_frozen B3.out 6) | ((with_reducible refine gate_dst (N := 17) rfl ?_); refine be_ 17 #[.string h1, .string h2, .int .i64 h3, .slice none 0 0, .int .i64 0] 93 ?_; intro g4 hgb w5 hbox hb; have E2 := blk_lt au6_17; have um := am_ (show w.heap.size ≤ g4 from by rw [hgb]; exact below_size au6_0); replace HB := am_ (below_step au6_0 hb); replace B2 := am_ (blk_below au6_7 hb); replace B3 := am_ (blk_below au6_17 hb); have B4 := am_ hbox; clear hbox hb; have XF : g3 < g4 := (by rw [hgb]; exact E2); clear hgb E2; clear bm Ip ho1 Iq ho2 Ir ho3 Is ho4 It ho5 Iu up Iv))
  have XG := am_ (Kd.S_nil k83 83 w5 (g4 + 1) (fun _ => True))
  have XH := am_ (Below.refl g4 w5)
  go_wp2
  (try generalize (⟨ad.block, ad.off + 2, none⟩ : Addr) = aS at LB ⊢)
  rw [← hGl]
  clear hGl
  go_loopg [21] k (fun kq ON w' => ∃ (i inn : Int) (L : List S83) (vB : Value), ON = .int .i64 i ∧ Aside0 (rd_ixr h3 G kq i inn L = some (q1, q2, q3, q4)) ∧ Aside0 (kq ≤ k) ∧ Aside0 (w'.heap[g4]? = some (.cells #[.string h1, .string h2, .int .i64 h3, vB, .int .i64 inn] 93 (0, 0))) ∧ Aside0 (Kd.S k83 83 w' (g4 + 1) (fun _ => True) vB L) ∧ Aside0 (Below g4 w5 w'))
  case atStart => exact ⟨0, 0, [], .slice none 0 0, (by first | rfl | (simp; done)), A2, ⟨Nat.le_refl _⟩, B4, XG, XH⟩
  case round =>
   clear A2 B4 XG XH
   obtain ⟨i, inn, L, vB, rfl, HA, dk, HG, HS, HBg⟩ := hrel
   cases gk with
   | zero => exact absurd HA.out (by simp [rd_ixr])
   | succ k1 =>
    have H := HA.out
    clear HA
    simp only [rd_ixr] at H
    by_cases c4 : i < (G.length : Int)
    ·rw [if_pos c4] at H
     by_cases c5 : 0 ≤ i
     rotate_left
     ·rw [if_neg c5] at H
      cases H
     rw [if_pos c5] at H
     replace H := Option.bind_eq_some_iff.mp H
     obtain ⟨⟨t1, t2, t3⟩, lF, H⟩ := H
     dsimp only at H
     have A6 := am_ lF
     clear lF
     have HBw := am_ (HB.out.trans (HBg.out.mono um.out))
     obtain ⟨ad2, A7, c7, e7, nl, qi, EM, EN⟩ := at_T52 LB.out i c5 c4
     cases e7
     have XI := am_ EM
     have XJ := am_ EN
     clear EM EN
     replace nl := pw_cell_below HBw.out nl
     replace qi := pw_cell_below HBw.out qi
     have c4b0 : decide (i < (G.length : Int)) = true := decide_eq_true c4
     have c5b0 : decide (0 ≤ i) = true := decide_eq_true c5
     have p7 := eq_true c5
     have q7 := eq_true c4
     clear c4 c5
     by_cases c8 : t1 = 0
     ·rw [if_pos c8] at H
      subst c8
      have H' := am_ H
      clear H
      go_wp2_with (first | ((with_reducible refine gate_dst (N := 6) rfl ?_); refine be_ 6 #[.string (⟨#[]⟩ : ByteArray), .slice none 0 0] 52 ?_; intro g6 hgb w7 hbox hb; have B6 := am_ hbox; have bI := am_ (rd_bs HBg.out (Nat.le_of_lt (blk_lt HG.out)) hb); have bZ := am_ (blk_below HG.out hb); have n2_ := am_ (Kd.S_below (Kd.S_mono (Kd.S_bound HS.out) (ok' := fun k_ => k_ < g6) (fun k_ hk_ => by rw [hgb]; exact hk_.2.2.1)) hb); replace nl := pw_cell_below hb nl; replace qi := pw_cell_below hb qi; have N46s : g4 < g6 := au6_23; clear HBg HG HS hbox hb hgb; have HBg := bI; have HG := bZ; have HS := n2_; clear bI bZ n2_; obtain ⟨hz0, hz1⟩ := c2_ B6.out; have vN := blk_frozen B6.out 0; have vO := blk_frozen B6.out 1) | ((with_reducible refine gate_store (t := 52) (p := 6) rfl ?_); refine store_event (t := 52) (p := 6) (v := ?vo_c) (w1 := ((w7.setCell ⟨g6, 0, none⟩ (.string (rd_T52 G i).f0)).setCell ⟨g6, 1, none⟩ (.slice A7 (rd_T52 G i).f1.length c7))) ?hg ?ho ?hn ?hr ?_; (case ho => rfl); (case hg => rfl); (case hn => rfl); (case hr => exact hr_); intro w8 hw; replace HBg := am_ (show Below g4 w5 w8 from by rw [hw]; exact (HBg.out.setCell (p := ⟨g6, 0, none⟩) (Nat.le_of_lt N46s) _).setCell (p := ⟨g6, 1, none⟩) (Nat.le_of_lt N46s) _); replace HG := am_ (show w8.heap[g4]? = some (.cells #[.string h1, .string h2, .int .i64 h3, vB, .int .i64 inn] 93 (0, 0)) from by rw [hw]; exact blk_far (p := ⟨g6, 1, none⟩) (blk_far (p := ⟨g6, 0, none⟩) HG.out (Nat.ne_of_lt N46s) _) (Nat.ne_of_lt N46s) _); replace HS := am_ (show Kd.S k83 83 w8 (g4 + 1) (fun _ => True) vB L from by rw [hw]; exact Kd.S_mono (Kd.S_move (Kd.S_move HS.out (fun k_ hk_ => Below.heap_setCell _ ⟨g6, 0, none⟩ _ k_ (Nat.ne_of_lt hk_))) (fun k_ hk_ => Below.heap_setCell _ ⟨g6, 1, none⟩ _ k_ (Nat.ne_of_lt hk_))) (fun _ _ => trivial)); replace B6 := am_ (show w8.heap[g6]? = some (.cells #[.string (rd_T52 G i).f0, .slice A7 (rd_T52 G i).f1.length c7] 52 (0, 0)) from by rw [hw]; exact blk_put (blk_put B6.out 0 _ rfl) 1 _ rfl); clear hw hz0 hz1 vN vO nl qi; obtain ⟨hz0, hz1⟩ := c2_ B6.out) | (go_at_call 52; refine (rd_take.calls k1 g4 h1 h2 h3 inn vB L (rd_T52 G i).f0 A7 c7 (rd_T52 G i).f1 0 t2 t3 w _ (HB.out.trans (HBg.out.mono um.out)) um.out HG.out HS.out XJ.out XI.out HT.out A6.out).mono ?_; rintro e w9 ⟨rfl, hb, XK, uc, sJ⟩; replace HBg := am_ (HBg.out.trans hb); replace HG := am_ uc; replace HS := am_ sJ; clear hz0 hz1 hb uc sJ))
      go_roundg k1
      case measure => have := dk.out; omega
      case rel => exact ⟨wrap64 (i + 1), t2, t3, XK, er_, H', ⟨by have := dk.out; omega⟩, HG, HS, HBg⟩
     rw [if_neg c8] at H
     have c8b0 : (t1 == 0) = false := beq_eq_false_iff_ne.mpr c8
     have c8b1 : (t1 != 0) = true := bne_iff_ne.mpr c8
     simp only [Option.some.injEq, Prod.mk.injEq] at H
     obtain ⟨rfl, rfl, rfl, rfl⟩ := H
     have H2 := A3.out
     rw [if_neg c8] at H2
     clear A3 c8
     simp only [Option.some.injEq, Prod.mk.injEq] at H2
     obtain ⟨rfl, rfl, rfl, rfl, rfl, rfl, rfl⟩ := H2
     go_wp2_with (first | ((with_reducible refine gate_dst (N := 6) rfl ?_); refine be_ 6 #[.string (⟨#[]⟩ : ByteArray), .slice none 0 0] 52 ?_; intro g6 hgb w7 hbox hb; have B6 := am_ hbox; have bI := am_ (rd_bs HBg.out (Nat.le_of_lt (blk_lt HG.out)) hb); have bZ := am_ (blk_below HG.out hb); have n2_ := am_ (Kd.S_below (Kd.S_mono (Kd.S_bound HS.out) (ok' := fun k_ => k_ < g6) (fun k_ hk_ => by rw [hgb]; exact hk_.2.2.1)) hb); replace nl := pw_cell_below hb nl; replace qi := pw_cell_below hb qi; have N46s : g4 < g6 := au6_23; clear HBg HG HS hbox hb hgb; have HBg := bI; have HG := bZ; have HS := n2_; clear bI bZ n2_; obtain ⟨hz0, hz1⟩ := c2_ B6.out; have vN := blk_frozen B6.out 0; have vO := blk_frozen B6.out 1) | ((with_reducible refine gate_store (t := 52) (p := 6) rfl ?_); refine store_event (t := 52) (p := 6) (v := ?vo_c) (w1 := ((w7.setCell ⟨g6, 0, none⟩ (.string (rd_T52 G i).f0)).setCell ⟨g6, 1, none⟩ (.slice A7 (rd_T52 G i).f1.length c7))) ?hg ?ho ?hn ?hr ?_; (case ho => rfl); (case hg => rfl); (case hn => rfl); (case hr => exact hr_); intro w8 hw; replace HBg := am_ (show Below g4 w5 w8 from by rw [hw]; exact (HBg.out.setCell (p := ⟨g6, 0, none⟩) (Nat.le_of_lt N46s) _).setCell (p := ⟨g6, 1, none⟩) (Nat.le_of_lt N46s) _); replace HG := am_ (show w8.heap[g4]? = some (.cells #[.string h1, .string h2, .int .i64 h3, vB, .int .i64 inn] 93 (0, 0)) from by rw [hw]; exact blk_far (p := ⟨g6, 1, none⟩) (blk_far (p := ⟨g6, 0, none⟩) HG.out (Nat.ne_of_lt N46s) _) (Nat.ne_of_lt N46s) _); replace HS := am_ (show Kd.S k83 83 w8 (g4 + 1) (fun _ => True) vB L from by rw [hw]; exact Kd.S_mono (Kd.S_move (Kd.S_move HS.out (fun k_ hk_ => Below.heap_setCell _ ⟨g6, 0, none⟩ _ k_ (Nat.ne_of_lt hk_))) (fun k_ hk_ => Below.heap_setCell _ ⟨g6, 1, none⟩ _ k_ (Nat.ne_of_lt hk_))) (fun _ _ => trivial)); replace B6 := am_ (show w8.heap[g6]? = some (.cells #[.string (rd_T52 G i).f0, .slice A7 (rd_T52 G i).f1.length c7] 52 (0, 0)) from by rw [hw]; exact blk_put (blk_put B6.out 0 _ rfl) 1 _ rfl); clear hw hz0 hz1 vN vO nl qi; obtain ⟨hz0, hz1⟩ := c2_ B6.out) | (go_at_call 52; refine (rd_take.calls k1 g4 h1 h2 h3 inn vB L (rd_T52 G i).f0 A7 c7 (rd_T52 G i).f1 t1 t2 t3 w _ (HB.out.trans (HBg.out.mono um.out)) um.out HG.out HS.out XJ.out XI.out HT.out A6.out).mono ?_; rintro e w9 ⟨rfl, hb, XK, uc, sJ⟩; replace HBg := am_ (HBg.out.trans hb); replace HG := am_ uc; replace HS := am_ sJ; clear hz0 hz1 hb uc sJ; have HBx := HB.out.trans (HBg.out.mono um.out); have B2x := (HBg.out.block g2 (by omega)).trans B2.out; have B3x := (HBg.out.block g3 XF).trans B3.out; obtain ⟨NE, NF, NG, NH, NI, NJ, NK⟩ := c7_ B3x; have vP := blk_frozen B3x 0; have vQ := blk_frozen B3x 1; have qj := blk_frozen B3x 2; have vR := blk_frozen B3x 3; have vS := blk_frozen B3x 4; have vT := blk_frozen B3x 5; have vU := blk_frozen B3x 6; obtain ⟨KB, KC, KD, KE, KF, KG, KH⟩ := c7_ B2x; have uf := blk_frozen B2x 0; have ug := blk_frozen B2x 1; have uh := blk_frozen B2x 2; have ui := blk_frozen B2x 3; have uj := blk_frozen B2x 4; have uk := blk_frozen B2x 5; have ul := blk_frozen B2x 6; have N23b := kL.symm) | ((with_reducible refine gate_store (t := 2) (p := 34) rfl ?_); refine store_event (t := 2) (p := 34) (v := ?vo_34) (w1 := (w9.setCell ⟨g3, 5, none⟩ (.int .i64 (wrap64 (i + 1))))) ?hg ?ho ?hn ?hr ?_; (case ho => rfl); (case hg => rfl); (case hn => rfl); (case hr => exact hr_); intro wa hw; have cD := (show wa.heap[g3]? = some (.cells #[.string h1, .string h2, .int .i64 h3, .slice none 0 0, .bool h5, .int .i64 (wrap64 (i + 1)), .int .i64 0] 36 (0, 0)) from by rw [hw]; exact blk_put B3x 5 _ rfl); have n2_ := (show wa.heap[g2]? = some (.cells #[.string (⟨#[]⟩ : ByteArray), .string (⟨#[]⟩ : ByteArray), .int .i64 0, .slice none 0 0, .bool false, .int .i64 0, .int .i64 0] 36 (0, 0)) from by rw [hw]; exact blk_far (p := ⟨g3, 5, none⟩) B2x kL _); have bI := (show Below w.heap.size w wa from by rw [hw]; exact below_set (j := 5) HBx lQ.out); clear hw HBx B2x B3x NE vP NF vQ NG qj NH vR NI vS NJ vT NK vU KB uf KC ug KD uh KE ui KF uj KG uk KH ul; have HBx := bI; have B2x := n2_; have B3x := cD; clear bI n2_ cD; obtain ⟨NL, NM, hu2, NN, NO, NP, NQ⟩ := c7_ B3x; have vV := blk_frozen B3x 0; have vW := blk_frozen B3x 1; have vX := blk_frozen B3x 2; have vY := blk_frozen B3x 3; have vZ := blk_frozen B3x 4; have we := blk_frozen B3x 5; have wg := blk_frozen B3x 6; obtain ⟨NR, NS, NT, NU, NV, NW, NX⟩ := c7_ B2x; have wh := blk_frozen B2x 0; have wi := blk_frozen B2x 1; have wj := blk_frozen B2x 2; have wk := blk_frozen B2x 3; have wl := blk_frozen B2x 4; have wm := blk_frozen B2x 5; have wn := blk_frozen B2x 6) | ((with_reducible refine gate_store (t := 2) (p := 35) rfl ?_); refine store_event (t := 2) (p := 35) (v := ?vo_35) (w1 := (wa.setCell ⟨g3, 6, none⟩ (.int .i64 t1))) ?hg ?ho ?hn ?hr ?_; (case ho => rfl); (case hg => rfl); (case hn => rfl); (case hr => exact hr_); intro wb hw; have cD := (show wb.heap[g3]? = some (.cells #[.string h1, .string h2, .int .i64 h3, .slice none 0 0, .bool h5, .int .i64 (wrap64 (i + 1)), .int .i64 t1] 36 (0, 0)) from by rw [hw]; exact blk_put B3x 6 _ rfl); have n2_ := (show wb.heap[g2]? = some (.cells #[.string (⟨#[]⟩ : ByteArray), .string (⟨#[]⟩ : ByteArray), .int .i64 0, .slice none 0 0, .bool false, .int .i64 0, .int .i64 0] 36 (0, 0)) from by rw [hw]; exact blk_far (p := ⟨g3, 6, none⟩) B2x kL _); have bI := (show Below w.heap.size w wb from by rw [hw]; exact below_set (j := 6) HBx lQ.out); clear hw HBx B2x B3x NL vV NM vW hu2 vX NN vY NO vZ NP we NQ wg NR wh NS wi NT wj NU wk NV wl NW wm NX wn; have HBx := bI; have B2x := n2_; have B3x := cD; clear bI n2_ cD; obtain ⟨hs0, hs1, hs2, hs3, hs4, hs5, hs6⟩ := c7_ B3x; have NY := blk_frozen B3x 0; have NZ := blk_frozen B3x 1; have N0 := blk_frozen B3x 2; have N2 := blk_frozen B3x 3; have N3 := blk_frozen B3x 4; have N4 := blk_frozen B3x 5; have N5 := blk_frozen B3x 6; obtain ⟨ht0, ht1, OS, ht3, ht4, ht5, ht6⟩ := c7_ B2x; have N6 := blk_frozen B2x 0; have N7 := blk_frozen B2x 1; have N8 := blk_frozen B2x 2; have N9 := blk_frozen B2x 3; have Oa := blk_frozen B2x 4; have Ob := blk_frozen B2x 5; have Oc := blk_frozen B2x 6) | ((with_reducible refine gate_store (t := 36) (p := 2) rfl ?_); refine store_event (t := 36) (p := 2) (v := ?vo_bN1) (w1 := (((((((wb.setCell ⟨g2, 0, none⟩ (.string h1)).setCell ⟨g2, 1, none⟩ (.string h2)).setCell ⟨g2, 2, none⟩ (.int .i64 h3)).setCell ⟨g2, 3, none⟩ (.slice none 0 0)).setCell ⟨g2, 4, none⟩ (.bool h5)).setCell ⟨g2, 5, none⟩ (.int .i64 (wrap64 (i + 1)))).setCell ⟨g2, 6, none⟩ (.int .i64 t1))) ?hg ?ho ?hn ?hr ?_; (case ho => rfl); (case hg => rfl); (case hn => rfl); (case hr => exact hr_); intro wf hw; have F2 := am_ (show wf.heap[g2]? = some (.cells #[.string h1, .string h2, .int .i64 h3, .slice none 0 0, .bool h5, .int .i64 (wrap64 (i + 1)), .int .i64 t1] 36 (0, 0)) from by rw [hw]; exact (blk_put (blk_put (blk_put (blk_put (blk_put (blk_put (blk_put B2x 0 _ rfl) 1 _ rfl) 2 _ rfl) 3 _ rfl) 4 _ rfl) 5 _ rfl) 6 _ rfl)); have FB := am_ (show Below w.heap.size w wf from by rw [hw]; exact (below_set (j := 6) (below_set (j := 5) (below_set (j := 4) (below_set (j := 3) (below_set (j := 2) (below_set (j := 1) (below_set (j := 0) HBx gC.out) gC.out) gC.out) gC.out) gC.out) gC.out) gC.out)); clear hw))
     go_wp2
     refine bodyPost_ret (results_cell_row rfl _ _ g2 36 #[.string h1, .string h2, .int .i64 h3, .slice none 0 0, .bool h5, .int .i64 (wrap64 (i + 1)), .int .i64 t1] (0, 0) _ rfl F2.out Tryd.underlying36 rfl (by kernel_rfl)) rfl ?_
     exact ⟨.slice none 0 0, rfl, Kd.S_nil _ _ _ _ _, FB.out⟩
    rw [if_neg c4] at H
    have c4b0 : decide (i < (G.length : Int)) = false := decide_eq_false c4
    clear c4
    simp only [Option.some.injEq, Prod.mk.injEq] at H
    obtain ⟨rfl, rfl, rfl, rfl⟩ := H
    have H2 := A3.out
    rw [if_pos rfl] at H2
    clear A3
    have HBx := HB.out.trans (HBg.out.mono um.out)
    have B2x := (HBg.out.block g2 (by omega)).trans B2.out
    have B3x := (HBg.out.block g3 XF).trans B3.out
    have N23b := kL.symm
    have HSx := HS.out
    obtain ⟨Ab, cb, rfl⟩ := Kd.S_slice HSx
    obtain ⟨NE, NF, NG, NH, NI, NJ, NK⟩ := c7_ B3x
    have vP := blk_frozen B3x 0
    have vQ := blk_frozen B3x 1
    have qj := blk_frozen B3x 2
    have vR := blk_frozen B3x 3
    have vS := blk_frozen B3x 4
    have vT := blk_frozen B3x 5
    have vU := blk_frozen B3x 6
    obtain ⟨KB, KC, KD, KE, KF, KG, KH⟩ := c7_ B2x
    have uf := blk_frozen B2x 0
    have ug := blk_frozen B2x 1
    have uh := blk_frozen B2x 2
    have ui := blk_frozen B2x 3
    have uj := blk_frozen B2x 4
    have uk := blk_frozen B2x 5
    have ul := blk_frozen B2x 6
    obtain ⟨hm0, hm1, hm2, hm3, hm4⟩ := c5_ HG.out
    have a8n := blk_frozen HG.out 0
    have a8o := blk_frozen HG.out 1
    have a8p := blk_frozen HG.out 2
    have a8q := blk_frozen HG.out 3
    have a8r := blk_frozen HG.out 4
    by_cases c9 : inn = 3
    ·rw [if_pos c9] at H2
     subst c9
     simp only [Option.some.injEq, Prod.mk.injEq] at H2
     obtain ⟨rfl, rfl, rfl, rfl, rfl, rfl, rfl⟩ := H2
     go_wp2_with (first | ((with_reducible refine gate_store (t := 36) (p := 2) rfl ?_); refine store_event (t := 36) (p := 2) (v := ?vo_bN2) (w1 := (((((((wr.setCell ⟨g2, 0, none⟩ (.string h1)).setCell ⟨g2, 1, none⟩ (.string h2)).setCell ⟨g2, 2, none⟩ (.int .i64 h3)).setCell ⟨g2, 3, none⟩ (.slice Ab L.length cb)).setCell ⟨g2, 4, none⟩ (.bool true)).setCell ⟨g2, 5, none⟩ (.int .i64 0)).setCell ⟨g2, 6, none⟩ (.int .i64 0))) ?hg ?ho ?hn ?hr ?_; (case ho => rfl); (case hg => rfl); (case hn => rfl); (case hr => exact hr_); intro wf hw; have F2 := am_ (show wf.heap[g2]? = some (.cells #[.string h1, .string h2, .int .i64 h3, .slice Ab L.length cb, .bool true, .int .i64 0, .int .i64 0] 36 (0, 0)) from by rw [hw]; exact (blk_put (blk_put (blk_put (blk_put (blk_put (blk_put (blk_put B2x 0 _ rfl) 1 _ rfl) 2 _ rfl) 3 _ rfl) 4 _ rfl) 5 _ rfl) 6 _ rfl)); have FB := am_ (show Below w.heap.size w wf from by rw [hw]; exact (below_set (j := 6) (below_set (j := 5) (below_set (j := 4) (below_set (j := 3) (below_set (j := 2) (below_set (j := 1) (below_set (j := 0) HBx gC.out) gC.out) gC.out) gC.out) gC.out) gC.out) gC.out)); have FS := am_ (show Kd.S k83 83 wf (g4 + 1) (fun _ => True) (.slice Ab L.length cb) L from by rw [hw]; exact (rd_mv (rd_mv (rd_mv (rd_mv (rd_mv (rd_mv (rd_mv HSx (g := g2) (i := 0) (by omega) _) (g := g2) (i := 1) (by omega) _) (g := g2) (i := 2) (by omega) _) (g := g2) (i := 3) (by omega) _) (g := g2) (i := 4) (by omega) _) (g := g2) (i := 5) (by omega) _) (g := g2) (i := 6) (by omega) _)); clear hw))
     go_wp2
     refine bodyPost_ret (results_cell_row rfl _ _ g2 36 #[.string h1, .string h2, .int .i64 h3, .slice Ab L.length cb, .bool true, .int .i64 0, .int .i64 0] (0, 0) _ rfl F2.out Tryd.underlying36 rfl (by kernel_rfl)) rfl ?_
     exact ⟨_, rfl, Kd.S_lower FS.out (Nat.le_succ_of_le um.out), FB.out⟩
    rw [if_neg c9] at H2
    have c9b0 : (inn == 3) = false := beq_eq_false_iff_ne.mpr c9
    have c9b1 : (inn != 3) = true := bne_iff_ne.mpr c9
    clear c9
    simp only [Option.some.injEq, Prod.mk.injEq] at H2
    obtain ⟨rfl, rfl, rfl, rfl, rfl, rfl, rfl⟩ := H2
    go_wp2_with (first | ((with_reducible refine gate_store (t := 2) (p := 45) rfl ?_); refine store_event (t := 2) (p := 45) (v := ?vo_45) (w1 := (wr.setCell ⟨g3, 5, none⟩ (.int .i64 (l0.length : Int)))) ?hg ?ho ?hn ?hr ?_; (case ho => rfl); (case hg => rfl); (case hn => rfl); (case hr => exact hr_); intro wa hw; have cD := (show wa.heap[g3]? = some (.cells #[.string h1, .string h2, .int .i64 h3, .slice none 0 0, .bool h5, .int .i64 (l0.length : Int), .int .i64 0] 36 (0, 0)) from by rw [hw]; exact blk_put B3x 5 _ rfl); have n2_ := (show wa.heap[g2]? = some (.cells #[.string (⟨#[]⟩ : ByteArray), .string (⟨#[]⟩ : ByteArray), .int .i64 0, .slice none 0 0, .bool false, .int .i64 0, .int .i64 0] 36 (0, 0)) from by rw [hw]; exact blk_far (p := ⟨g3, 5, none⟩) B2x kL _); have bI := (show Below w.heap.size w wa from by rw [hw]; exact below_set (j := 5) HBx lQ.out); clear hw HBx B2x B3x NE vP NF vQ NG qj NH vR NI vS NJ vT NK vU KB uf KC ug KD uh KE ui KF uj KG uk KH ul; have HBx := bI; have B2x := n2_; have B3x := cD; clear bI n2_ cD; obtain ⟨NL, NM, hu2, NN, NO, NP, NQ⟩ := c7_ B3x; have vV := blk_frozen B3x 0; have vW := blk_frozen B3x 1; have vX := blk_frozen B3x 2; have vY := blk_frozen B3x 3; have vZ := blk_frozen B3x 4; have we := blk_frozen B3x 5; have wg := blk_frozen B3x 6; obtain ⟨NR, NS, NT, NU, NV, NW, NX⟩ := c7_ B2x; have wh := blk_frozen B2x 0; have wi := blk_frozen B2x 1; have wj := blk_frozen B2x 2; have wk := blk_frozen B2x 3; have wl := blk_frozen B2x 4; have wm := blk_frozen B2x 5; have wn := blk_frozen B2x 6) | ((with_reducible refine gate_store (t := 2) (p := 46) rfl ?_); refine store_event (t := 2) (p := 46) (v := ?vo_46) (w1 := (wa.setCell ⟨g3, 6, none⟩ (.int .i64 4))) ?hg ?ho ?hn ?hr ?_; (case ho => rfl); (case hg => rfl); (case hn => rfl); (case hr => exact hr_); intro wb hw; have cD := (show wb.heap[g3]? = some (.cells #[.string h1, .string h2, .int .i64 h3, .slice none 0 0, .bool h5, .int .i64 (l0.length : Int), .int .i64 4] 36 (0, 0)) from by rw [hw]; exact blk_put B3x 6 _ rfl); have n2_ := (show wb.heap[g2]? = some (.cells #[.string (⟨#[]⟩ : ByteArray), .string (⟨#[]⟩ : ByteArray), .int .i64 0, .slice none 0 0, .bool false, .int .i64 0, .int .i64 0] 36 (0, 0)) from by rw [hw]; exact blk_far (p := ⟨g3, 6, none⟩) B2x kL _); have bI := (show Below w.heap.size w wb from by rw [hw]; exact below_set (j := 6) HBx lQ.out); clear hw HBx B2x B3x NL vV NM vW hu2 vX NN vY NO vZ NP we NQ wg NR wh NS wi NT wj NU wk NV wl NW wm NX wn; have HBx := bI; have B2x := n2_; have B3x := cD; clear bI n2_ cD; obtain ⟨hs0, hs1, hs2, hs3, hs4, hs5, hs6⟩ := c7_ B3x; have NY := blk_frozen B3x 0; have NZ := blk_frozen B3x 1; have N0 := blk_frozen B3x 2; have N2 := blk_frozen B3x 3; have N3 := blk_frozen B3x 4; have N4 := blk_frozen B3x 5; have N5 := blk_frozen B3x 6; obtain ⟨ht0, ht1, OS, ht3, ht4, ht5, ht6⟩ := c7_ B2x; have N6 := blk_frozen B2x 0; have N7 := blk_frozen B2x 1; have N8 := blk_frozen B2x 2; have N9 := blk_frozen B2x 3; have Oa := blk_frozen B2x 4; have Ob := blk_frozen B2x 5; have Oc := blk_frozen B2x 6) | ((with_reducible refine gate_store (t := 36) (p := 2) rfl ?_); refine store_event (t := 36) (p := 2) (v := ?vo_bN3) (w1 := (((((((wb.setCell ⟨g2, 0, none⟩ (.string h1)).setCell ⟨g2, 1, none⟩ (.string h2)).setCell ⟨g2, 2, none⟩ (.int .i64 h3)).setCell ⟨g2, 3, none⟩ (.slice none 0 0)).setCell ⟨g2, 4, none⟩ (.bool h5)).setCell ⟨g2, 5, none⟩ (.int .i64 (l0.length : Int))).setCell ⟨g2, 6, none⟩ (.int .i64 4))) ?hg ?ho ?hn ?hr ?_; (case ho => rfl); (case hg => rfl); (case hn => rfl); (case hr => exact hr_); intro wf hw; have F2 := am_ (show wf.heap[g2]? = some (.cells #[.string h1, .string h2, .int .i64 h3, .slice none 0 0, .bool h5, .int .i64 (l0.length : Int), .int .i64 4] 36 (0, 0)) from by rw [hw]; exact (blk_put (blk_put (blk_put (blk_put (blk_put (blk_put (blk_put B2x 0 _ rfl) 1 _ rfl) 2 _ rfl) 3 _ rfl) 4 _ rfl) 5 _ rfl) 6 _ rfl)); have FB := am_ (show Below w.heap.size w wf from by rw [hw]; exact (below_set (j := 6) (below_set (j := 5) (below_set (j := 4) (below_set (j := 3) (below_set (j := 2) (below_set (j := 1) (below_set (j := 0) HBx gC.out) gC.out) gC.out) gC.out) gC.out) gC.out) gC.out)); clear hw))
    go_wp2
    refine bodyPost_ret (results_cell_row rfl _ _ g2 36 #[.string h1, .string h2, .int .i64 h3, .slice none 0 0, .bool h5, .int .i64 (l0.length : Int), .int .i64 4] (0, 0) _ rfl F2.out Tryd.underlying36 rfl (by kernel_rfl)) rfl ?_
    exact ⟨.slice none 0 0, rfl, Kd.S_nil _ _ _ _ _, FB.out⟩
 have LB : Aside0 (Kd.C k52 w (some ⟨ad.block, ad.off + 2, none⟩) (l0.drop 1).length (l0.drop 1)) := ⟨by have q_ := Kd.C_drop (m := 1) HR.out c3 HC.out; rw [if_neg c1] at q_; exact q_⟩
 have hGl : (l0.drop 1).length = l0.length - 1 := List.length_drop
 generalize l0.drop 1 = G at LB A2 hGl
 have c1b : (c0 = 1) = False := eq_false c1
 have c1c : (c0 == 1) = false := beq_eq_false_iff_ne.mpr c1
 go_enter Tryd.func24, Tryd.ntmps24
 go_upto_region 5 with (first | ((with_reducible refine gate_dst (N := 2) rfl ?_); refine be_ 2 #[.string (⟨#[]⟩ : ByteArray), .string (⟨#[]⟩ : ByteArray), .int .i64 0, .slice none 0 0, .bool false, .int .i64 0, .int .i64 0] 36 ?_; intro g2 hgb w1 hbox hb; have gC := am_ (show w.heap.size ≤ g2 from by rw [hgb]; exact below_size au6_0); replace HB := am_ (below_step au6_0 hb); have B2 := am_ hbox; clear hbox hb; clear hgb) | (go_at_call 14; (with_reducible refine (rd_HeadOf.calls k _ _ l0 h1 h2 h3 h4 h5 h6 0 _ ?sd1 HC.out ?sd2 A1.out).mono ?_); (case sd1 => exact Kd.C_below HR.out au6_0); (case sd2 => exact HT.out.below au6_0); rintro e w2 ⟨rfl, Xz, hb⟩; subst Xz; replace HB := am_ (below_step au6_0 hb); replace B2 := am_ (blk_below au6_7 hb); clear hb) | ((with_reducible refine gate_dst (N := 3) rfl ?_); refine be_ 3 #[.string (⟨#[]⟩ : ByteArray), .string (⟨#[]⟩ : ByteArray), .int .i64 0, .slice none 0 0, .bool false, .int .i64 0, .int .i64 0] 36 ?_; intro g3 hgb w3 hbox hb; have ud := blk_lt au6_7; have lQ := am_ (show w.heap.size ≤ g3 from by rw [hgb]; exact below_size au6_0); replace HB := am_ (below_step au6_0 hb); replace B2 := am_ (blk_below au6_7 hb); have B3 := am_ hbox; clear hbox hb; have N23s : g2 < g3 := (by rw [hgb]; exact ud); clear hgb; have XA : w3.cell? ⟨g3, 0, none⟩ = some (.string (⟨#[]⟩ : ByteArray)) := (blk_cell B3.out 0).trans rfl; have EV := blk_frozen B3.out 0; have hq1 : w3.cell? ⟨g3, 1, none⟩ = some (.string (⟨#[]⟩ : ByteArray)) := (blk_cell B3.out 1).trans rfl; have EW := blk_frozen B3.out 1; have hq2 : w3.cell? ⟨g3, 2, none⟩ = some (.int .i64 0) := (blk_cell B3.out 2).trans rfl; have EX := blk_frozen B3.out 2; have XB : w3.cell? ⟨g3, 3, none⟩ = some (.slice none 0 0) := (blk_cell B3.out 3).trans rfl; have EY := blk_frozen B3.out 3; have XC : w3.cell? ⟨g3, 4, none⟩ = some (.bool false) := (blk_cell B3.out 4).trans rfl; have EZ := blk_frozen B3.out 4; have XD : w3.cell? ⟨g3, 5, none⟩ = some (.int .i64 0) := (blk_cell B3.out 5).trans rfl; have E0 := blk_frozen B3.out 5; have XE : w3.cell? ⟨g3, 6, none⟩ = some (.int .i64 0) := (blk_cell B3.out 6).trans rfl; have E1 := blk_frozen B3.out 6) | ((with_reducible refine gate_store (t := 36) (p := 3) rfl ?_); refine store_event (t := 36) (p := 3) (v := ?vo_) (w1 := (((((((w3.setCell ⟨g3, 0, none⟩ (.string h1)).setCell ⟨g3, 1, none⟩ (.string h2)).setCell ⟨g3, 2, none⟩ (.int .i64 h3)).setCell ⟨g3, 3, none⟩ (.slice none 0 0)).setCell ⟨g3, 4, none⟩ (.bool h5)).setCell ⟨g3, 5, none⟩ (.int .i64 h6)).setCell ⟨g3, 6, none⟩ (.int .i64 0))) ?hg ?ho ?hn ?hr ?_; (case ho => rfl); (case hg => rfl); (case hn => rfl); (case hr => exact hr_); intro w4 hw; have kL : g2 ≠ g3 := (by rintro rfl; have := N23s; omega); have cD := am_ (show w4.heap[g3]? = some (.cells #[.string h1, .string h2, .int .i64 h3, .slice none 0 0, .bool h5, .int .i64 h6, .int .i64 0] 36 (0, 0)) from by rw [hw]; exact (blk_put (blk_put (blk_put (blk_put (blk_put (blk_put (blk_put B3.out 0 _ rfl) 1 _ rfl) 2 _ rfl) 3 _ rfl) 4 _ rfl) 5 _ rfl) 6 _ rfl)); have n2_ := am_ (show w4.heap[g2]? = some (.cells #[.string (⟨#[]⟩ : ByteArray), .string (⟨#[]⟩ : ByteArray), .int .i64 0, .slice none 0 0, .bool false, .int .i64 0, .int .i64 0] 36 (0, 0)) from by rw [hw]; exact (blk_far (p := ⟨g3, 6, none⟩) (blk_far (p := ⟨g3, 5, none⟩) (blk_far (p := ⟨g3, 4, none⟩) (blk_far (p := ⟨g3, 3, none⟩) (blk_far (p := ⟨g3, 2, none⟩) (blk_far (p := ⟨g3, 1, none⟩) (blk_far (p := ⟨g3, 0, none⟩) B2.out kL _) kL _) kL _) kL _) kL _) kL _) kL _)); have bI := am_ (show Below w.heap.size w w4 from by rw [hw]; exact (below_set (j := 6) (below_set (j := 5) (below_set (j := 4) (below_set (j := 3) (below_set (j := 2) (below_set (j := 1) (below_set (j := 0) HB.out lQ.out) lQ.out) lQ.out) lQ.out) lQ.out) lQ.out) lQ.out)); clear hw HB B2 B3; clear XA EV hq1 EW hq2 EX XB EY XC EZ XD E0 XE E1; have HB := bI; have B2 := n2_; have B3 := cD; clear bI n2_ cD; have bm : w4.cell? ⟨g3, 0, none⟩ = some (.string h1) := (blk_cell B3.out 0).trans rfl; have Ip := blk_frozen B3.out 0; have ho1 : w4.cell? ⟨g3, 1, none⟩ = some (.string h2) := (blk_cell B3.out 1).trans rfl; have Iq := blk_frozen B3.out 1; have ho2 : w4.cell? ⟨g3, 2, none⟩ = some (.int .i64 h3) := (blk_cell B3.out 2).trans rfl; have Ir := blk_frozen B3.out 2; have ho3 : w4.cell? ⟨g3, 3, none⟩ = some (.slice none 0 0) := (blk_cell B3.out 3).trans rfl; have Is := blk_frozen B3.out 3; have ho4 : w4.cell? ⟨g3, 4, none⟩ = some (.bool h5) := (blk_cell B3.out 4).trans rfl; have It := blk_frozen B3.out 4; have ho5 : w4.cell? ⟨g3, 5, none⟩ = some (.int .i64 h6) := (blk_cell B3.out 5).trans rfl; have Iu := blk_frozen B3.out 5; have up : w4.cell? ⟨g3, 6, none⟩ = some (.int .i64 0) := (blk_cell B3.out 6).trans rfl; have Iv := blk_frozen B3.out 6) | ((with_reducible refine gate_dst (N := 17) rfl ?_); refine be_ 17 #[.string h1, .string h2, .int .i64 h3, .slice none 0 0, .int .i64 0] 93 ?_; intro g4 hgb w5 hbox hb; have E2 := blk_lt au6_17; have um := am_ (show w.heap.size ≤ g4 from by rw [hgb]; exact below_size au6_0); replace HB := am_ (below_step au6_0 hb); replace B2 := am_ (blk_below au6_7 hb); replace B3 := am_ (blk_below au6_17 hb); have B4 := am_ hbox; clear hbox hb; have XF : g3 < g4 := (by rw [hgb]; exact E2); clear hgb E2; clear bm Ip ho1 Iq ho2 Ir ho3 Is ho4 It ho5 Iu up Iv))
 have XG := am_ (Kd.S_nil k83 83 w5 (g4 + 1) (fun _ => True))
 have XH := am_ (Below.refl g4 w5)
 go_wp2
 (try generalize (⟨ad.block, ad.off + 2, none⟩ : Addr) = aS at LB ⊢)
 rw [← hGl]
 clear hGl
 go_loopg [21] k (fun kq ON w' => ∃ (i inn : Int) (L : List S83) (vB : Value), ON = .int .i64 i ∧ Aside0 (rd_ixr h3 G kq i inn L = some (q1, q2, q3, q4)) ∧ Aside0 (kq ≤ k) ∧ Aside0 (w'.heap[g4]? = some (.cells #[.string h1, .string h2, .int .i64 h3, vB, .int .i64 inn] 93 (0, 0))) ∧ Aside0 (Kd.S k83 83 w' (g4 + 1) (fun _ => True) vB L) ∧ Aside0 (Below g4 w5 w'))
 case atStart => exact ⟨0, 0, [], .slice none 0 0, (by first | rfl | (simp; done)), A2, ⟨Nat.le_refl _⟩, B4, XG, XH⟩
 case round =>
  clear A2 B4 XG XH
  obtain ⟨i, inn, L, vB, rfl, HA, dk, HG, HS, HBg⟩ := hrel
  cases gk with
  | zero => exact absurd HA.out (by simp [rd_ixr])
  | succ k1 =>
   have H := HA.out
   clear HA
   simp only [rd_ixr] at H
   by_cases c4 : i < (G.length : Int)
   ·rw [if_pos c4] at H
    by_cases c5 : 0 ≤ i
    rotate_left
    ·rw [if_neg c5] at H
     cases H
    rw [if_pos c5] at H
    replace H := Option.bind_eq_some_iff.mp H
    obtain ⟨⟨t1, t2, t3⟩, lF, H⟩ := H
    dsimp only at H
    have A6 := am_ lF
    clear lF
    have HBw := am_ (HB.out.trans (HBg.out.mono um.out))
    obtain ⟨ad2, A7, c7, e7, nl, qi, EM, EN⟩ := at_T52 LB.out i c5 c4
    cases e7
    have XI := am_ EM
    have XJ := am_ EN
    clear EM EN
    replace nl := pw_cell_below HBw.out nl
    replace qi := pw_cell_below HBw.out qi
    have c4b0 : decide (i < (G.length : Int)) = true := decide_eq_true c4
    have c5b0 : decide (0 ≤ i) = true := decide_eq_true c5
    have p7 := eq_true c5
    have q7 := eq_true c4
    clear c4 c5
    by_cases c8 : t1 = 0
    ·rw [if_pos c8] at H
     subst c8
     have H' := am_ H
     clear H
     go_wp2_with (first | ((with_reducible refine gate_dst (N := 6) rfl ?_); refine be_ 6 #[.string (⟨#[]⟩ : ByteArray), .slice none 0 0] 52 ?_; intro g6 hgb w7 hbox hb; have B6 := am_ hbox; have bI := am_ (rd_bs HBg.out (Nat.le_of_lt (blk_lt HG.out)) hb); have bZ := am_ (blk_below HG.out hb); have n2_ := am_ (Kd.S_below (Kd.S_mono (Kd.S_bound HS.out) (ok' := fun k_ => k_ < g6) (fun k_ hk_ => by rw [hgb]; exact hk_.2.2.1)) hb); replace nl := pw_cell_below hb nl; replace qi := pw_cell_below hb qi; have N46s : g4 < g6 := au6_23; clear HBg HG HS hbox hb hgb; have HBg := bI; have HG := bZ; have HS := n2_; clear bI bZ n2_; obtain ⟨hz0, hz1⟩ := c2_ B6.out; have vN := blk_frozen B6.out 0; have vO := blk_frozen B6.out 1) | ((with_reducible refine gate_store (t := 52) (p := 6) rfl ?_); refine store_event (t := 52) (p := 6) (v := ?vo_c_h) (w1 := ((w7.setCell ⟨g6, 0, none⟩ (.string (rd_T52 G i).f0)).setCell ⟨g6, 1, none⟩ (.slice A7 (rd_T52 G i).f1.length c7))) ?hg ?ho ?hn ?hr ?_; (case ho => rfl); (case hg => rfl); (case hn => rfl); (case hr => exact hr_); intro w8 hw; replace HBg := am_ (show Below g4 w5 w8 from by rw [hw]; exact (HBg.out.setCell (p := ⟨g6, 0, none⟩) (Nat.le_of_lt N46s) _).setCell (p := ⟨g6, 1, none⟩) (Nat.le_of_lt N46s) _); replace HG := am_ (show w8.heap[g4]? = some (.cells #[.string h1, .string h2, .int .i64 h3, vB, .int .i64 inn] 93 (0, 0)) from by rw [hw]; exact blk_far (p := ⟨g6, 1, none⟩) (blk_far (p := ⟨g6, 0, none⟩) HG.out (Nat.ne_of_lt N46s) _) (Nat.ne_of_lt N46s) _); replace HS := am_ (show Kd.S k83 83 w8 (g4 + 1) (fun _ => True) vB L from by rw [hw]; exact Kd.S_mono (Kd.S_move (Kd.S_move HS.out (fun k_ hk_ => Below.heap_setCell _ ⟨g6, 0, none⟩ _ k_ (Nat.ne_of_lt hk_))) (fun k_ hk_ => Below.heap_setCell _ ⟨g6, 1, none⟩ _ k_ (Nat.ne_of_lt hk_))) (fun _ _ => trivial)); replace B6 := am_ (show w8.heap[g6]? = some (.cells #[.string (rd_T52 G i).f0, .slice A7 (rd_T52 G i).f1.length c7] 52 (0, 0)) from by rw [hw]; exact blk_put (blk_put B6.out 0 _ rfl) 1 _ rfl); clear hw hz0 hz1 vN vO nl qi; obtain ⟨hz0, hz1⟩ := c2_ B6.out) | (go_at_call 52; refine (rd_take.calls k1 g4 h1 h2 h3 inn vB L (rd_T52 G i).f0 A7 c7 (rd_T52 G i).f1 0 t2 t3 w _ (HB.out.trans (HBg.out.mono um.out)) um.out HG.out HS.out XJ.out XI.out HT.out A6.out).mono ?_; rintro e w9 ⟨rfl, hb, XK, uc, sJ⟩; replace HBg := am_ (HBg.out.trans hb); replace HG := am_ uc; replace HS := am_ sJ; clear hz0 hz1 hb uc sJ))
     go_roundg k1
     case measure => have := dk.out; omega
     case rel => exact ⟨wrap64 (i + 1), t2, t3, XK, er_, H', ⟨by have := dk.out; omega⟩, HG, HS, HBg⟩
    rw [if_neg c8] at H
    have c8b0 : (t1 == 0) = false := beq_eq_false_iff_ne.mpr c8
    have c8b1 : (t1 != 0) = true := bne_iff_ne.mpr c8
    simp only [Option.some.injEq, Prod.mk.injEq] at H
    obtain ⟨rfl, rfl, rfl, rfl⟩ := H
    have H2 := A3.out
    rw [if_neg c8] at H2
    clear A3 c8
    simp only [Option.some.injEq, Prod.mk.injEq] at H2
    obtain ⟨rfl, rfl, rfl, rfl, rfl, rfl, rfl⟩ := H2
    go_wp2_with (first | ((with_reducible refine gate_dst (N := 6) rfl ?_); refine be_ 6 #[.string (⟨#[]⟩ : ByteArray), .slice none 0 0] 52 ?_; intro g6 hgb w7 hbox hb; have B6 := am_ hbox; have bI := am_ (rd_bs HBg.out (Nat.le_of_lt (blk_lt HG.out)) hb); have bZ := am_ (blk_below HG.out hb); have n2_ := am_ (Kd.S_below (Kd.S_mono (Kd.S_bound HS.out) (ok' := fun k_ => k_ < g6) (fun k_ hk_ => by rw [hgb]; exact hk_.2.2.1)) hb); replace nl := pw_cell_below hb nl; replace qi := pw_cell_below hb qi; have N46s : g4 < g6 := au6_23; clear HBg HG HS hbox hb hgb; have HBg := bI; have HG := bZ; have HS := n2_; clear bI bZ n2_; obtain ⟨hz0, hz1⟩ := c2_ B6.out; have vN := blk_frozen B6.out 0; have vO := blk_frozen B6.out 1) | ((with_reducible refine gate_store (t := 52) (p := 6) rfl ?_); refine store_event (t := 52) (p := 6) (v := ?vo_c_h) (w1 := ((w7.setCell ⟨g6, 0, none⟩ (.string (rd_T52 G i).f0)).setCell ⟨g6, 1, none⟩ (.slice A7 (rd_T52 G i).f1.length c7))) ?hg ?ho ?hn ?hr ?_; (case ho => rfl); (case hg => rfl); (case hn => rfl); (case hr => exact hr_); intro w8 hw; replace HBg := am_ (show Below g4 w5 w8 from by rw [hw]; exact (HBg.out.setCell (p := ⟨g6, 0, none⟩) (Nat.le_of_lt N46s) _).setCell (p := ⟨g6, 1, none⟩) (Nat.le_of_lt N46s) _); replace HG := am_ (show w8.heap[g4]? = some (.cells #[.string h1, .string h2, .int .i64 h3, vB, .int .i64 inn] 93 (0, 0)) from by rw [hw]; exact blk_far (p := ⟨g6, 1, none⟩) (blk_far (p := ⟨g6, 0, none⟩) HG.out (Nat.ne_of_lt N46s) _) (Nat.ne_of_lt N46s) _); replace HS := am_ (show Kd.S k83 83 w8 (g4 + 1) (fun _ => True) vB L from by rw [hw]; exact Kd.S_mono (Kd.S_move (Kd.S_move HS.out (fun k_ hk_ => Below.heap_setCell _ ⟨g6, 0, none⟩ _ k_ (Nat.ne_of_lt hk_))) (fun k_ hk_ => Below.heap_setCell _ ⟨g6, 1, none⟩ _ k_ (Nat.ne_of_lt hk_))) (fun _ _ => trivial)); replace B6 := am_ (show w8.heap[g6]? = some (.cells #[.string (rd_T52 G i).f0, .slice A7 (rd_T52 G i).f1.length c7] 52 (0, 0)) from by rw [hw]; exact blk_put (blk_put B6.out 0 _ rfl) 1 _ rfl); clear hw hz0 hz1 vN vO nl qi; obtain ⟨hz0, hz1⟩ := c2_ B6.out) | (go_at_call 52; refine (rd_take.calls k1 g4 h1 h2 h3 inn vB L (rd_T52 G i).f0 A7 c7 (rd_T52 G i).f1 t1 t2 t3 w _ (HB.out.trans (HBg.out.mono um.out)) um.out HG.out HS.out XJ.out XI.out HT.out A6.out).mono ?_; rintro e w9 ⟨rfl, hb, XK, uc, sJ⟩; replace HBg := am_ (HBg.out.trans hb); replace HG := am_ uc; replace HS := am_ sJ; clear hz0 hz1 hb uc sJ; have HBx := HB.out.trans (HBg.out.mono um.out); have B2x := (HBg.out.block g2 (by omega)).trans B2.out; have B3x := (HBg.out.block g3 XF).trans B3.out; obtain ⟨NE, NF, NG, NH, NI, NJ, NK⟩ := c7_ B3x; have vP := blk_frozen B3x 0; have vQ := blk_frozen B3x 1; have qj := blk_frozen B3x 2; have vR := blk_frozen B3x 3; have vS := blk_frozen B3x 4; have vT := blk_frozen B3x 5; have vU := blk_frozen B3x 6; obtain ⟨KB, KC, KD, KE, KF, KG, KH⟩ := c7_ B2x; have uf := blk_frozen B2x 0; have ug := blk_frozen B2x 1; have uh := blk_frozen B2x 2; have ui := blk_frozen B2x 3; have uj := blk_frozen B2x 4; have uk := blk_frozen B2x 5; have ul := blk_frozen B2x 6; have N23b := kL.symm) | ((with_reducible refine gate_store (t := 2) (p := 34) rfl ?_); refine store_event (t := 2) (p := 34) (v := ?vo_34_h) (w1 := (w9.setCell ⟨g3, 5, none⟩ (.int .i64 (wrap64 (i + 1))))) ?hg ?ho ?hn ?hr ?_; (case ho => rfl); (case hg => rfl); (case hn => rfl); (case hr => exact hr_); intro wa hw; have cD := (show wa.heap[g3]? = some (.cells #[.string h1, .string h2, .int .i64 h3, .slice none 0 0, .bool h5, .int .i64 (wrap64 (i + 1)), .int .i64 0] 36 (0, 0)) from by rw [hw]; exact blk_put B3x 5 _ rfl); have n2_ := (show wa.heap[g2]? = some (.cells #[.string (⟨#[]⟩ : ByteArray), .string (⟨#[]⟩ : ByteArray), .int .i64 0, .slice none 0 0, .bool false, .int .i64 0, .int .i64 0] 36 (0, 0)) from by rw [hw]; exact blk_far (p := ⟨g3, 5, none⟩) B2x kL _); have bI := (show Below w.heap.size w wa from by rw [hw]; exact below_set (j := 5) HBx lQ.out); clear hw HBx B2x B3x NE vP NF vQ NG qj NH vR NI vS NJ vT NK vU KB uf KC ug KD uh KE ui KF uj KG uk KH ul; have HBx := bI; have B2x := n2_; have B3x := cD; clear bI n2_ cD; obtain ⟨NL, NM, hu2, NN, NO, NP, NQ⟩ := c7_ B3x; have vV := blk_frozen B3x 0; have vW := blk_frozen B3x 1; have vX := blk_frozen B3x 2; have vY := blk_frozen B3x 3; have vZ := blk_frozen B3x 4; have we := blk_frozen B3x 5; have wg := blk_frozen B3x 6; obtain ⟨NR, NS, NT, NU, NV, NW, NX⟩ := c7_ B2x; have wh := blk_frozen B2x 0; have wi := blk_frozen B2x 1; have wj := blk_frozen B2x 2; have wk := blk_frozen B2x 3; have wl := blk_frozen B2x 4; have wm := blk_frozen B2x 5; have wn := blk_frozen B2x 6) | ((with_reducible refine gate_store (t := 2) (p := 35) rfl ?_); refine store_event (t := 2) (p := 35) (v := ?vo_35_h) (w1 := (wa.setCell ⟨g3, 6, none⟩ (.int .i64 t1))) ?hg ?ho ?hn ?hr ?_; (case ho => rfl); (case hg => rfl); (case hn => rfl); (case hr => exact hr_); intro wb hw; have cD := (show wb.heap[g3]? = some (.cells #[.string h1, .string h2, .int .i64 h3, .slice none 0 0, .bool h5, .int .i64 (wrap64 (i + 1)), .int .i64 t1] 36 (0, 0)) from by rw [hw]; exact blk_put B3x 6 _ rfl); have n2_ := (show wb.heap[g2]? = some (.cells #[.string (⟨#[]⟩ : ByteArray), .string (⟨#[]⟩ : ByteArray), .int .i64 0, .slice none 0 0, .bool false, .int .i64 0, .int .i64 0] 36 (0, 0)) from by rw [hw]; exact blk_far (p := ⟨g3, 6, none⟩) B2x kL _); have bI := (show Below w.heap.size w wb from by rw [hw]; exact below_set (j := 6) HBx lQ.out); clear hw HBx B2x B3x NL vV NM vW hu2 vX NN vY NO vZ NP we NQ wg NR wh NS wi NT wj NU wk NV wl NW wm NX wn; have HBx := bI; have B2x := n2_; have B3x := cD; clear bI n2_ cD; obtain ⟨hs0, hs1, hs2, hs3, hs4, hs5, hs6⟩ := c7_ B3x; have NY := blk_frozen B3x 0; have NZ := blk_frozen B3x 1; have N0 := blk_frozen B3x 2; have N2 := blk_frozen B3x 3; have N3 := blk_frozen B3x 4; have N4 := blk_frozen B3x 5; have N5 := blk_frozen B3x 6; obtain ⟨ht0, ht1, OS, ht3, ht4, ht5, ht6⟩ := c7_ B2x; have N6 := blk_frozen B2x 0; have N7 := blk_frozen B2x 1; have N8 := blk_frozen B2x 2; have N9 := blk_frozen B2x 3; have Oa := blk_frozen B2x 4; have Ob := blk_frozen B2x 5; have Oc := blk_frozen B2x 6) | ((with_reducible refine gate_store (t := 36) (p := 2) rfl ?_); refine store_event (t := 36) (p := 2) (v := ?vo_bN1_h) (w1 := (((((((wb.setCell ⟨g2, 0, none⟩ (.string h1)).setCell ⟨g2, 1, none⟩ (.string h2)).setCell ⟨g2, 2, none⟩ (.int .i64 h3)).setCell ⟨g2, 3, none⟩ (.slice none 0 0)).setCell ⟨g2, 4, none⟩ (.bool h5)).setCell ⟨g2, 5, none⟩ (.int .i64 (wrap64 (i + 1)))).setCell ⟨g2, 6, none⟩ (.int .i64 t1))) ?hg ?ho ?hn ?hr ?_; (case ho => rfl); (case hg => rfl); (case hn => rfl); (case hr => exact hr_); intro wf hw; have F2 := am_ (show wf.heap[g2]? = some (.cells #[.string h1, .string h2, .int .i64 h3, .slice none 0 0, .bool h5, .int .i64 (wrap64 (i + 1)), .int .i64 t1] 36 (0, 0)) from by rw [hw]; exact (blk_put (blk_put (blk_put (blk_put (blk_put (blk_put (blk_put B2x 0 _ rfl) 1 _ rfl) 2 _ rfl) 3 _ rfl) 4 _ rfl) 5 _ rfl) 6 _ rfl)); have FB := am_ (show Below w.heap.size w wf from by rw [hw]; exact (below_set (j := 6) (below_set (j := 5) (below_set (j := 4) (below_set (j := 3) (below_set (j := 2) (below_set (j := 1) (below_set (j := 0) HBx gC.out) gC.out) gC.out) gC.out) gC.out) gC.out) gC.out)); clear hw))
    go_wp2
    refine bodyPost_ret (results_cell_row rfl _ _ g2 36 #[.string h1, .string h2, .int .i64 h3, .slice none 0 0, .bool h5, .int .i64 (wrap64 (i + 1)), .int .i64 t1] (0, 0) _ rfl F2.out Tryd.underlying36 rfl (by kernel_rfl)) rfl ?_
    exact ⟨.slice none 0 0, rfl, Kd.S_nil _ _ _ _ _, FB.out⟩
   rw [if_neg c4] at H
   have c4b0 : decide (i < (G.length : Int)) = false := decide_eq_false c4
   clear c4
   simp only [Option.some.injEq, Prod.mk.injEq] at H
   obtain ⟨rfl, rfl, rfl, rfl⟩ := H
   have H2 := A3.out
   rw [if_pos rfl] at H2
   clear A3
   have HBx := HB.out.trans (HBg.out.mono um.out)
   have B2x := (HBg.out.block g2 (by omega)).trans B2.out
   have B3x := (HBg.out.block g3 XF).trans B3.out
   have N23b := kL.symm
   have HSx := HS.out
   obtain ⟨Ab, cb, rfl⟩ := Kd.S_slice HSx
   obtain ⟨NE, NF, NG, NH, NI, NJ, NK⟩ := c7_ B3x
   have vP := blk_frozen B3x 0
   have vQ := blk_frozen B3x 1
   have qj := blk_frozen B3x 2
   have vR := blk_frozen B3x 3
   have vS := blk_frozen B3x 4
   have vT := blk_frozen B3x 5
   have vU := blk_frozen B3x 6
   obtain ⟨KB, KC, KD, KE, KF, KG, KH⟩ := c7_ B2x
   have uf := blk_frozen B2x 0
   have ug := blk_frozen B2x 1
   have uh := blk_frozen B2x 2
   have ui := blk_frozen B2x 3
   have uj := blk_frozen B2x 4
   have uk := blk_frozen B2x 5
   have ul := blk_frozen B2x 6
   obtain ⟨hm0, hm1, hm2, hm3, hm4⟩ := c5_ HG.out
   have a8n := blk_frozen HG.out 0
   have a8o := blk_frozen HG.out 1
   have a8p := blk_frozen HG.out 2
   have a8q := blk_frozen HG.out 3
   have a8r := blk_frozen HG.out 4
   by_cases c9 : inn = 3
   ·rw [if_pos c9] at H2
    subst c9
    simp only [Option.some.injEq, Prod.mk.injEq] at H2
    obtain ⟨rfl, rfl, rfl, rfl, rfl, rfl, rfl⟩ := H2
    go_wp2_with (first | ((with_reducible refine gate_store (t := 36) (p := 2) rfl ?_); refine store_event (t := 36) (p := 2) (v := ?vo_bN2_h) (w1 := (((((((wr.setCell ⟨g2, 0, none⟩ (.string h1)).setCell ⟨g2, 1, none⟩ (.string h2)).setCell ⟨g2, 2, none⟩ (.int .i64 h3)).setCell ⟨g2, 3, none⟩ (.slice Ab L.length cb)).setCell ⟨g2, 4, none⟩ (.bool true)).setCell ⟨g2, 5, none⟩ (.int .i64 0)).setCell ⟨g2, 6, none⟩ (.int .i64 0))) ?hg ?ho ?hn ?hr ?_; (case ho => rfl); (case hg => rfl); (case hn => rfl); (case hr => exact hr_); intro wf hw; have F2 := am_ (show wf.heap[g2]? = some (.cells #[.string h1, .string h2, .int .i64 h3, .slice Ab L.length cb, .bool true, .int .i64 0, .int .i64 0] 36 (0, 0)) from by rw [hw]; exact (blk_put (blk_put (blk_put (blk_put (blk_put (blk_put (blk_put B2x 0 _ rfl) 1 _ rfl) 2 _ rfl) 3 _ rfl) 4 _ rfl) 5 _ rfl) 6 _ rfl)); have FB := am_ (show Below w.heap.size w wf from by rw [hw]; exact (below_set (j := 6) (below_set (j := 5) (below_set (j := 4) (below_set (j := 3) (below_set (j := 2) (below_set (j := 1) (below_set (j := 0) HBx gC.out) gC.out) gC.out) gC.out) gC.out) gC.out) gC.out)); have FS := am_ (show Kd.S k83 83 wf (g4 + 1) (fun _ => True) (.slice Ab L.length cb) L from by rw [hw]; exact (rd_mv (rd_mv (rd_mv (rd_mv (rd_mv (rd_mv (rd_mv HSx (g := g2) (i := 0) (by omega) _) (g := g2) (i := 1) (by omega) _) (g := g2) (i := 2) (by omega) _) (g := g2) (i := 3) (by omega) _) (g := g2) (i := 4) (by omega) _) (g := g2) (i := 5) (by omega) _) (g := g2) (i := 6) (by omega) _)); clear hw))
    go_wp2
    refine bodyPost_ret (results_cell_row rfl _ _ g2 36 #[.string h1, .string h2, .int .i64 h3, .slice Ab L.length cb, .bool true, .int .i64 0, .int .i64 0] (0, 0) _ rfl F2.out Tryd.underlying36 rfl (by kernel_rfl)) rfl ?_
    exact ⟨_, rfl, Kd.S_lower FS.out (Nat.le_succ_of_le um.out), FB.out⟩
   rw [if_neg c9] at H2
   have c9b0 : (inn == 3) = false := beq_eq_false_iff_ne.mpr c9
   have c9b1 : (inn != 3) = true := bne_iff_ne.mpr c9
   clear c9
   simp only [Option.some.injEq, Prod.mk.injEq] at H2
   obtain ⟨rfl, rfl, rfl, rfl, rfl, rfl, rfl⟩ := H2
   go_wp2_with (first | ((with_reducible refine gate_store (t := 2) (p := 45) rfl ?_); refine store_event (t := 2) (p := 45) (v := ?vo_45_h) (w1 := (wr.setCell ⟨g3, 5, none⟩ (.int .i64 (l0.length : Int)))) ?hg ?ho ?hn ?hr ?_; (case ho => rfl); (case hg => rfl); (case hn => rfl); (case hr => exact hr_); intro wa hw; have cD := (show wa.heap[g3]? = some (.cells #[.string h1, .string h2, .int .i64 h3, .slice none 0 0, .bool h5, .int .i64 (l0.length : Int), .int .i64 0] 36 (0, 0)) from by rw [hw]; exact blk_put B3x 5 _ rfl); have n2_ := (show wa.heap[g2]? = some (.cells #[.string (⟨#[]⟩ : ByteArray), .string (⟨#[]⟩ : ByteArray), .int .i64 0, .slice none 0 0, .bool false, .int .i64 0, .int .i64 0] 36 (0, 0)) from by rw [hw]; exact blk_far (p := ⟨g3, 5, none⟩) B2x kL _); have bI := (show Below w.heap.size w wa from by rw [hw]; exact below_set (j := 5) HBx lQ.out); clear hw HBx B2x B3x NE vP NF vQ NG qj NH vR NI vS NJ vT NK vU KB uf KC ug KD uh KE ui KF uj KG uk KH ul; have HBx := bI; have B2x := n2_; have B3x := cD; clear bI n2_ cD; obtain ⟨NL, NM, hu2, NN, NO, NP, NQ⟩ := c7_ B3x; have vV := blk_frozen B3x 0; have vW := blk_frozen B3x 1; have vX := blk_frozen B3x 2; have vY := blk_frozen B3x 3; have vZ := blk_frozen B3x 4; have we := blk_frozen B3x 5; have wg := blk_frozen B3x 6; obtain ⟨NR, NS, NT, NU, NV, NW, NX⟩ := c7_ B2x; have wh := blk_frozen B2x 0; have wi := blk_frozen B2x 1; have wj := blk_frozen B2x 2; have wk := blk_frozen B2x 3; have wl := blk_frozen B2x 4; have wm := blk_frozen B2x 5; have wn := blk_frozen B2x 6) | ((with_reducible refine gate_store (t := 2) (p := 46) rfl ?_); refine store_event (t := 2) (p := 46) (v := ?vo_46_h) (w1 := (wa.setCell ⟨g3, 6, none⟩ (.int .i64 4))) ?hg ?ho ?hn ?hr ?_; (case ho => rfl); (case hg => rfl); (case hn => rfl); (case hr => exact hr_); intro wb hw; have cD := (show wb.heap[g3]? = some (.cells #[.string h1, .string h2, .int .i64 h3, .slice none 0 0, .bool h5, .int .i64 (l0.length : Int), .int .i64 4] 36 (0, 0)) from by rw [hw]; exact blk_put B3x 6 _ rfl); have n2_ := (show wb.heap[g2]? = some (.cells #[.string (⟨#[]⟩ : ByteArray), .string (⟨#[]⟩ : ByteArray), .int .i64 0, .slice none 0 0, .bool false, .int .i64 0, .int .i64 0] 36 (0, 0)) from by rw [hw]; exact blk_far (p := ⟨g3, 6, none⟩) B2x kL _); have bI := (show Below w.heap.size w wb from by rw [hw]; exact below_set (j := 6) HBx lQ.out); clear hw HBx B2x B3x NL vV NM vW hu2 vX NN vY NO vZ NP we NQ wg NR wh NS wi NT wj NU wk NV wl NW wm NX wn; have HBx := bI; have B2x := n2_; have B3x := cD; clear bI n2_ cD; obtain ⟨hs0, hs1, hs2, hs3, hs4, hs5, hs6⟩ := c7_ B3x; have NY := blk_frozen B3x 0; have NZ := blk_frozen B3x 1; have N0 := blk_frozen B3x 2; have N2 := blk_frozen B3x 3; have N3 := blk_frozen B3x 4; have N4 := blk_frozen B3x 5; have N5 := blk_frozen B3x 6; obtain ⟨ht0, ht1, OS, ht3, ht4, ht5, ht6⟩ := c7_ B2x; have N6 := blk_frozen B2x 0; have N7 := blk_frozen B2x 1; have N8 := blk_frozen B2x 2; have N9 := blk_frozen B2x 3; have Oa := blk_frozen B2x 4; have Ob := blk_frozen B2x 5; have Oc := blk_frozen B2x 6) | ((with_reducible refine gate_store (t := 36) (p := 2) rfl ?_); refine store_event (t := 36) (p := 2) (v := ?vo_bN3_h) (w1 := (((((((wb.setCell ⟨g2, 0, none⟩ (.string h1)).setCell ⟨g2, 1, none⟩ (.string h2)).setCell ⟨g2, 2, none⟩ (.int .i64 h3)).setCell ⟨g2, 3, none⟩ (.slice none 0 0)).setCell ⟨g2, 4, none⟩ (.bool h5)).setCell ⟨g2, 5, none⟩ (.int .i64 (l0.length : Int))).setCell ⟨g2, 6, none⟩ (.int .i64 4))) ?hg ?ho ?hn ?hr ?_; (case ho => rfl); (case hg => rfl); (case hn => rfl); (case hr => exact hr_); intro wf hw; have F2 := am_ (show wf.heap[g2]? = some (.cells #[.string h1, .string h2, .int .i64 h3, .slice none 0 0, .bool h5, .int .i64 (l0.length : Int), .int .i64 4] 36 (0, 0)) from by rw [hw]; exact (blk_put (blk_put (blk_put (blk_put (blk_put (blk_put (blk_put B2x 0 _ rfl) 1 _ rfl) 2 _ rfl) 3 _ rfl) 4 _ rfl) 5 _ rfl) 6 _ rfl)); have FB := am_ (show Below w.heap.size w wf from by rw [hw]; exact (below_set (j := 6) (below_set (j := 5) (below_set (j := 4) (below_set (j := 3) (below_set (j := 2) (below_set (j := 1) (below_set (j := 0) HBx gC.out) gC.out) gC.out) gC.out) gC.out) gC.out) gC.out)); clear hw))
   go_wp2
   refine bodyPost_ret (results_cell_row rfl _ _ g2 36 #[.string h1, .string h2, .int .i64 h3, .slice none 0 0, .bool h5, .int .i64 (l0.length : Int), .int .i64 4] (0, 0) _ rfl F2.out Tryd.underlying36 rfl (by kernel_rfl)) rfl ?_
   exact ⟨.slice none 0 0, rfl, Kd.S_nil _ _ _ _ _, FB.out⟩
end Go.Proofs.YtlghcbmkhdibdaaDoor.PFnTrailers
