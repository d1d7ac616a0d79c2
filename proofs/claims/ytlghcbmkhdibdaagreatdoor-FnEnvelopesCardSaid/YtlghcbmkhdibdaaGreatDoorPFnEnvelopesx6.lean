-- printed by a program of this session (wip/xp/xprint.py) out of the translation; Lean checks it
import Derived.Test.YtlghcbmkhdibdaaGreatDoorPFnEnvelopesx0
import Derived.Test.YtlghcbmkhdibdaaGreatDoorPFnEnvelopesx1
import Derived.Test.YtlghcbmkhdibdaaGreatDoorPFnEnvelopesx5
namespace Go.Proofs.YtlghcbmkhdibdaaGreatDoor.PFnEnvelopes
open Go.RowKit Go.Proofs.YtlghcbmkhdibdaaGreatDoorW.PrintWords Go.Proofs.YtlghcbmkhdibdaaGreatDoorW.PrintLast Go.Proofs.YtlghcbmkhdibdaaGreatDoorW.PrintMore
attribute [local go_sem] max2_int min2_int max_two min_two max_three min_three max_four min_four   -- for this text's walks alone
set_option linter.unusedVariables false
set_option linter.unusedSimpArgs false
set_option maxHeartbeats 8000000
set_option maxRecDepth 100000
theorem au6_0 {p : Prop} (h : p := by (with_reducible repeat (first | refine blk_drewN ?_ _ | refine blk_drew ?_ | refine blk_alloc ?_ _)); exact HG.out) : p := h
theorem au6_2 {p : Prop} (h : p := by (with_reducible repeat (first | refine blk_drewN ?_ _ | refine blk_drew ?_ | refine blk_alloc ?_ _)); exact BK.out) : p := h
theorem au6_3 {p : Prop} (h : p := by (with_reducible repeat (first | apply Kd.H_alloc | apply Kd.H_drewN | apply Kd.H_drew)); exact HH.out) : p := h
theorem au6_4 {p : Prop} (h : p := by (with_reducible repeat (first | apply Kd.S_alloc | apply Kd.S_drewN | apply Kd.S_drew)); exact HS.out) : p := h
theorem au6_5 {p : Prop} (h : p := by (with_reducible repeat (first | apply Kd.S_alloc | apply Kd.S_drewN | apply Kd.S_drew)); exact HM.out) : p := h
theorem au6_6 {p : Prop} (h : p := by (with_reducible repeat (first | apply Kd.H_alloc | apply Kd.H_drewN | apply Kd.H_drew)); exact ez.out) : p := h
theorem au6_7 {p : Prop} (h : p := by (with_reducible repeat (first | apply Kd.S_alloc | apply Kd.S_drewN | apply Kd.S_drew)); exact lw.out) : p := h
theorem au6_9 {p : Prop} (h : p := by have rU := Kd.H_back ez.out (k56_mkM _ _ _ (⟨m.f0, m.f1⟩ : S56) lw.out) (fun _ h_ => h_); rw [show b.f2.set (((b.f2.length - 1 : Nat) : Int)).toNat ⟨m.f0, m.f1⟩ = b.f2 from HLM.out] at rU; have q_ := Kd.H_back HH.out (k53_mkM _ _ _ (⟨b.f0, b.f1, b.f2⟩ : S53) rU) (fun _ h_ => h_); rw [show L.set (((L.length - 1 : Nat) : Int)).toNat ⟨b.f0, b.f1, b.f2⟩ = L from HLB.out] at q_; exact Kd.S_mono q_ (fun _ _ => trivial)) : p := h
theorem au6_10 {p : Prop} (h : p := by have q_ := Kd.H_back HH.out (k53_mkM _ _ _ (⟨b.f0, b.f1, b.f2⟩ : S53) HM.out) (fun _ h_ => h_); rw [show L.set (((L.length - 1 : Nat) : Int)).toNat ⟨b.f0, b.f1, b.f2⟩ = L from HLB.out] at q_; exact Kd.S_mono q_ (fun _ _ => trivial)) : p := h
theorem au6_21 {p : Prop} (h : p := by simp only [List.map_toArray, List.map_cons, List.map_nil]; rfl) : p := h
theorem au6_13 {p : Prop} (h : p := by exact Kd.C_below HR.out (rd_bt Ba.out HGE.out ax28_)) : p := h
theorem au6_14 {p : Prop} (h : p := by exact HT.out.below (rd_bt Ba.out HGE.out ax28_)) : p := h
theorem tg6_0 {p : Prop} (h : p := by exact ⟨rfl, HB.out, _, HG.out, HS.out⟩) : p := h
theorem tg6_1 {p : Prop} (h : p := by exact .inl ⟨beq_iff_eq.mpr c2, decide_eq_false (fun c3 => g_ ⟨c2, c3⟩), decide_eq_false (fun c3 => g_ ⟨c2, by omega⟩)⟩) : p := h
theorem tg6_2 {p : Prop} (h : p := by exact ⟨rfl, HB.out, _, HG.out, au6_10⟩) : p := h
theorem tg6_3 {p : Prop} (h : p := by repeat' with_reducible first | exact F101.mono _ _ _ _ _ | exact F102.mono _ _ _ _ | exact LeO.refl _ | exact LeO.none _ | refine LeO.ite ?_ ?_ | refine LeO.bind ?_ (fun _ => ?_)) : p := h
theorem tg6_4 {p : Prop} (h : p := by exact ⟨.slice none 0 0, rfl, Kd.S_nil _ _ _ _ _, FB.out⟩) : p := h
theorem c2_ {W : World} {p t : Nat} {a b : Value} (h : W.heap[p]? = some (.cells #[a, b] t (0, 0))) : W.cell? ⟨p, 0, none⟩ = some a ∧ W.cell? ⟨p, 1, none⟩ = some b := ⟨(blk_cell h 0).trans rfl, (blk_cell h 1).trans rfl⟩
theorem c4_ {W : World} {p t : Nat} {a b c d : Value} (h : W.heap[p]? = some (.cells #[a, b, c, d] t (0, 0))) : W.cell? ⟨p, 0, none⟩ = some a ∧ W.cell? ⟨p, 1, none⟩ = some b ∧ W.cell? ⟨p, 2, none⟩ = some c ∧ W.cell? ⟨p, 3, none⟩ = some d := ⟨(blk_cell h 0).trans rfl, (blk_cell h 1).trans rfl, (blk_cell h 2).trans rfl, (blk_cell h 3).trans rfl⟩
theorem c5_ {W : World} {p t : Nat} {a b c d e : Value} (h : W.heap[p]? = some (.cells #[a, b, c, d, e] t (0, 0))) : W.cell? ⟨p, 0, none⟩ = some a ∧ W.cell? ⟨p, 1, none⟩ = some b ∧ W.cell? ⟨p, 2, none⟩ = some c ∧ W.cell? ⟨p, 3, none⟩ = some d ∧ W.cell? ⟨p, 4, none⟩ = some e := ⟨(blk_cell h 0).trans rfl, (blk_cell h 1).trans rfl, (blk_cell h 2).trans rfl, (blk_cell h 3).trans rfl, (blk_cell h 4).trans rfl⟩
theorem c7_ {W : World} {p t : Nat} {a b c d e f g : Value} (h : W.heap[p]? = some (.cells #[a, b, c, d, e, f, g] t (0, 0))) : W.cell? ⟨p, 0, none⟩ = some a ∧ W.cell? ⟨p, 1, none⟩ = some b ∧ W.cell? ⟨p, 2, none⟩ = some c ∧ W.cell? ⟨p, 3, none⟩ = some d ∧ W.cell? ⟨p, 4, none⟩ = some e ∧ W.cell? ⟨p, 5, none⟩ = some f ∧ W.cell? ⟨p, 6, none⟩ = some g := ⟨(blk_cell h 0).trans rfl, (blk_cell h 1).trans rfl, (blk_cell h 2).trans rfl, (blk_cell h 3).trans rfl, (blk_cell h 4).trans rfl, (blk_cell h 5).trans rfl, (blk_cell h 6).trans rfl⟩
theorem rd_info83 : (Tryz.prog.info? 53).map (fun i => (i.zero, i.size, i.bytes)) = some (some (.agg #[(.int .i64 0), (.int .i64 0), (.slice none 0 0)]), 3, 40) := by kernel_rfl
theorem rd_info85 : (Tryz.prog.info? 56).map (fun i => (i.zero, i.size, i.bytes)) = some (some (.agg #[(.int .i64 0), (.slice none 0 0)]), 2, 32) := by kernel_rfl
theorem rd_bundle.calls (g gb m c : Nat) (A B : ByteArray) (n inn : Int) (w : World) (hg : w.heap[g]? = some (.cells #[.string A, .string B, .int .i64 n, .slice (some ⟨gb, 0, none⟩) m c, .int .i64 inn] 75 (0, 0))) (h1 : 1 ≤ m) (h2 : m ≤ 9223372036854775807) :
  Calls Tryz.prog 103 #[.pointer (some ⟨g, 0, none⟩)] w fun e w' => e = .returned (.pointer (some ⟨gb, (m - 1) * 3, none⟩)) ∧ Drawn0 w w' := by
 have xP := Tryz.underlying75
 have F4 := Tryz.underlying28
 have hc3 : w.cell? ⟨g, 3, none⟩ = some (.slice (some ⟨gb, 0, none⟩) m c) := (blk_cell hg 3).trans rfl
 have hwr : wrap64 ((m : Int) - 1) = ((m - 1 : Nat) : Int) := by unfold wrap64; omega
 have Zz : (0 ≤ ((m - 1 : Nat) : Int)) = True := eq_true (by omega)
 have ZA : (((m - 1 : Nat) : Int) < (m : Int)) = True := eq_true (by omega)
 have RB : (m - 1 < m) = True := eq_true (by omega)
 have HD := am_ (Drawn0.refl w)
 clear hg
 go_enter Tryz.func103, Tryz.ntmps103
 go_wp2
 refine start_ (n := 14) (S := fun w' => w'.cell? ⟨g, 3, none⟩ = some (.slice (some ⟨gb, 0, none⟩) m c)) (ds := []) (bs 14 0) (by kernel_rfl) rfl rfl (hc3) (fun hHeld => ?_)
 refine pk_ 0 3 (bs 14 1) ?_ rfl rfl
 refine pk_ 1 4 (bs 14 3) ?_ rfl rfl
 refine pk_ 2 5 (bs 14 7) ?_ rfl rfl
 refine pk_ 3 6 (bs 14 15) ?_ rfl rfl
 refine pk_ 5 8 (bs 14 47) ?_ rfl rfl
 refine pk_ 6 9 (bs 14 111) ?_ rfl rfl
 refine pk_ 7 10 (bs 14 239) ?_ rfl rfl
 refine pk_ 8 11 (bs 14 495) ?_ rfl rfl
 refine take_ (i := 4) (N := some 7) (v := ?_) (a' := ?_) (bs 14 511) rfl rfl (by kernel_rfl) (fun _ _ _ h => h) (Or.inl ⟨by rfl, ?_⟩) hHeld ?_ ?_
 rotate_left
 ·intro w' s0
  go_simp
  with_reducible rfl
 rotate_left
 ·simp only [Act.put, List.setIfInBounds_toArray, List.set_cons_zero, List.set_cons_succ, i64_w, i32_w]
  rfl
 refine take_ (i := 9) (N := some 12) (v := ?_) (a' := ?_) (bs 14 1023) rfl rfl (by kernel_rfl) (fun _ _ _ h => h) (Or.inl ⟨by rfl, ?_⟩) hHeld ?_ ?_
 rotate_left
 ·intro w' s0
  go_simp
  with_reducible rfl
 rotate_left
 ·simp only [Act.put, List.setIfInBounds_toArray, List.set_cons_zero, List.set_cons_succ, i64_w, i32_w]
  rfl
 refine pk_ 10 13 (bs 14 2047) ?_ rfl rfl
 refine pk_ 11 14 (bs 14 4095) ?_ rfl rfl
 refine pk_ 12 15 (bs 14 8191) ?_ rfl rfl
 refine pk_ 13 2 (bs 14 16383) ?_ rfl rfl
 refine done_ (by kernel_rfl) ?_
 go_wp2
 go_ret
 exact ⟨rfl, ⟨1, rfl⟩⟩
theorem rd_message.calls (g gb m c gm mm cm : Nat) (A B : ByteArray) (n inn : Int) (w : World) (hg : w.heap[g]? = some (.cells #[.string A, .string B, .int .i64 n, .slice (some ⟨gb, 0, none⟩) m c, .int .i64 inn] 75 (0, 0))) (h1 : 1 ≤ m) (h2 : m ≤ 9223372036854775807)
  (hcb : w.cell? ⟨gb, (m - 1) * 3 + 2, none⟩ = some (.slice (some ⟨gm, 0, none⟩) mm cm)) (h3 : 1 ≤ mm) (h4 : mm ≤ 9223372036854775807) :
  Calls Tryz.prog 79 #[.pointer (some ⟨g, 0, none⟩)] w fun e w' => e = .returned (.pointer (some ⟨gm, (mm - 1) * 2, none⟩)) ∧ Drawn0 w w' := by
 have xP := Tryz.underlying75
 have F5 := Tryz.underlying53
 have LQ := Tryz.underlying51
 have BK := am_ hg
 have H1 := am_ h1
 have H2 := am_ h2
 have hwr : wrap64 ((mm : Int) - 1) = ((mm - 1 : Nat) : Int) := by unfold wrap64; omega
 have Zz : (0 ≤ ((mm - 1 : Nat) : Int)) = True := eq_true (by omega)
 have ZA : (((mm - 1 : Nat) : Int) < (mm : Int)) = True := eq_true (by omega)
 have RB : (mm - 1 < mm) = True := eq_true (by omega)
 clear hg h1 h2
 go_enter Tryz.func79, Tryz.ntmps79
 go_wp2_with (first | (go_at_call 103; (with_reducible refine (rd_bundle.calls g gb m c A B n inn _ BK.out H1.out H2.out).mono ?_); rintro e w' ⟨rfl, ⟨nd, rfl⟩⟩))
 have hcd : (w.drewN nd).cell? ⟨gb, (m - 1) * 3 + 2, none⟩ = some (.slice (some ⟨gm, 0, none⟩) mm cm) := hcb
 refine start_ (n := 12) (S := fun w' => w'.cell? ⟨gb, (m - 1) * 3 + 2, none⟩ = some (.slice (some ⟨gm, 0, none⟩) mm cm)) (ds := []) (bs 12 0) (by kernel_rfl) rfl rfl (hcd) (fun hHeld => ?_)
 refine pk_ 0 6 (bs 12 1) ?_ rfl rfl
 refine pk_ 1 7 (bs 12 3) ?_ rfl rfl
 refine pk_ 2 8 (bs 12 7) ?_ rfl rfl
 refine pk_ 4 10 (bs 12 23) ?_ rfl rfl
 refine pk_ 5 11 (bs 12 55) ?_ rfl rfl
 refine pk_ 6 12 (bs 12 119) ?_ rfl rfl
 refine take_ (i := 3) (N := some 9) (v := ?_) (a' := ?_) (bs 12 127) rfl rfl (by kernel_rfl) (fun _ _ _ h => h) (Or.inl ⟨by rfl, ?_⟩) hHeld ?_ ?_
 rotate_left
 ·intro w' s0
  go_simp
  with_reducible rfl
 rotate_left
 ·simp only [Act.put, List.setIfInBounds_toArray, List.set_cons_zero, List.set_cons_succ, i64_w, i32_w]
  rfl
 refine take_ (i := 7) (N := some 13) (v := ?_) (a' := ?_) (bs 12 255) rfl rfl (by kernel_rfl) (fun _ _ _ h => h) (Or.inl ⟨by rfl, ?_⟩) hHeld ?_ ?_
 rotate_left
 ·intro w' s0
  go_simp
  with_reducible rfl
 rotate_left
 ·simp only [Act.put, List.setIfInBounds_toArray, List.set_cons_zero, List.set_cons_succ, i64_w, i32_w]
  rfl
 refine pk_ 8 14 (bs 12 511) ?_ rfl rfl
 refine pk_ 9 15 (bs 12 1023) ?_ rfl rfl
 refine pk_ 10 16 (bs 12 2047) ?_ rfl rfl
 refine pk_ 11 2 (bs 12 4095) ?_ rfl rfl
 refine done_ (by kernel_rfl) ?_
 go_wp2
 go_ret
 exact ⟨rfl, ⟨nd + 1, rfl⟩⟩
theorem rd_bt {B g : Nat} {w W w2 : World} (h : Below B w W) (hB : B ≤ g) (k : Below g W w2) : Below B w w2 := h.trans (k.mono hB)
theorem rd_bs {B : Nat} {w W w2 : World} (h : Below B w W) (hB : B ≤ W.heap.size) (k : Below W.heap.size W w2) : Below B w w2 := below_then h hB k
theorem rd_far {α : Type} {d : Kd α} {e g : Nat} {W : World} {ok : Nat → Prop} {v : Value} {xs : List α} (h : Kd.S d e W (g + 1) ok v xs) (i : Nat) (u : Value) : Kd.S d e (W.setCell ⟨g, i, none⟩ u) (g + 1) ok v xs :=
 Kd.S_mono (Kd.S_move (Kd.S_bound h) (fun k hk => Below.heap_setCell W ⟨g, i, none⟩ u k (by have := hk.2.1; show k ≠ g; omega))) (fun k hk => hk.1)
def rd_tb2 (k : Nat) (inn : Int) (L : List S53) (a0 : ByteArray) (l1 : List S91) : Option (Int × Int × List S53) := (F101.f k a0 l1 (⟨#[71, 82, 72]⟩ : ByteArray) 2).bind fun p => (if p.2 = true then (if (L.length : Int) = 5 then (some (3, inn, L)) else (if 0 < (p.1.length : Int) then ((F102.f k (rdOf ByteArray.empty p.1 0) 1 7).bind fun q => (if 1 < (p.1.length : Int) then ((F102.f k (rdOf ByteArray.empty p.1 1) 1 999999).bind fun q2 => (if q.2 = true then (if q2.2 = true then (if L.length < 1000000 then (some (0, 1, L ++ [(⟨q.1, q2.1, []⟩ : S53)])) else (none)) else (some (3, inn, L))) else (some (3, inn, L)))) else (none))) else (none))) else (some (3, inn, L)))
def rd_takeBundle.f (k : Nat) (n inn : Int) (L : List S53) (a0 : ByteArray) (l1 : List S91) : Option (Int × Int × List S53) := if a0.toList = ([73, 88, 84] : List UInt8) then (if (L.length : Int) > 0 then ((F80.f k a0 l1 (⟨#[73, 88, 84]⟩ : ByteArray) (L.length : Int) n).bind fun r => some (r, 3, L)) else (rd_tb2 k inn L a0 l1)) else (rd_tb2 k inn L a0 l1)
theorem rd_takeBundle.calls (k g : Nat) (A B : ByteArray) (n inn : Int) (vB : Value) (L : List S53) (a0 : ByteArray) (A1 : Option Addr) (c1 : Nat) (l1 : List S91) (r : Int) (inn' : Int) (L' : List S53) (w0 w : World)
  (u7 : Below w0.heap.size w0 w) (hge : w0.heap.size ≤ g) (hg : w.heap[g]? = some (.cells #[.string A, .string B, .int .i64 n, vB, .int .i64 inn] 75 (0, 0))) (hS : Kd.S k53 53 w (g + 1) (fun _ => True) vB L) (hr : Kd.C k91 w0 A1 l1.length l1) (hc : l1.length ≤ c1) (hT : LaidT true Tryz.prog w0)
  (h : rd_takeBundle.f k n inn L a0 l1 = some (r, inn', L')) :
  Calls Tryz.prog 77 #[.pointer (some ⟨g, 0, none⟩), .agg #[.string a0, .slice A1 l1.length c1]] w fun e w' => e = .returned (.int .i64 r) ∧ Below g w w' ∧ ∃ vB', w'.heap[g]? = some (.cells #[.string A, .string B, .int .i64 n, vB', .int .i64 inn'] 75 (0, 0)) ∧ Kd.S k53 53 w' (g + 1) (fun _ => True) vB' L' := by
 have xP := Tryz.underlying75
 have F4 := Tryz.underlying28
 have F6 := Tryz.underlying49
 have F5 := Tryz.underlying53
 obtain ⟨Ao, co, rfl⟩ := Kd.S_slice hS
 have HB := am_ (Below.refl g w)
 have Ba := am_ u7
 have HGE := am_ hge
 have HG := am_ hg
 have HS := am_ hS
 have HR := am_ hr
 have HC := am_ hc
 have HT := am_ hT
 have H := h
 unfold rd_takeBundle.f at H
 clear u7 hge hg hS hr hc hT h
 by_cases g_ : a0.toList = ([73, 88, 84] : List UInt8) ∧ (L.length : Int) > 0
 ·rw [if_pos g_.1, if_pos g_.2] at H
  have c2b0 : (a0.toList == ([73, 88, 84] : List UInt8)) = true := beq_iff_eq.mpr g_.1
  have c3b0 : decide ((L.length : Int) > 0) = true := decide_eq_true g_.2
  have c3b1 : decide (0 < L.length) = true := decide_eq_true (by have := g_.2; omega)
  clear g_
  replace H := Option.bind_eq_some_iff.mp H
  obtain ⟨V1, u9, H⟩ := H
  have A4 := am_ u9
  clear u9
  simp only [Option.some.injEq, Prod.mk.injEq] at H
  obtain ⟨rfl, rfl, rfl⟩ := H
  go_enter Tryz.func77, Tryz.ntmps77
  go_wp2_with (first | ((with_reducible refine gate_dst (N := 3) rfl ?_); refine be_ 3 #[.string a0, .slice A1 l1.length c1] 49 ?_; intro gb hgb w1 hbox hb; replace HB := am_ (rd_bs ax28_ (Nat.le_of_lt (blk_lt au6_0)) hb); replace HG := am_ (blk_below au6_0 hb); replace HS := am_ (Kd.S_below au6_4 hb); have BK := am_ hbox; have NB : g ≠ gb := blk_ne HG.out hbox (by decide); have n8 : gb ≠ g := NB.symm; clear hb hbox hgb; obtain ⟨cO, cP, cQ, cR, cS⟩ := c5_ HG.out; have bQ := blk_frozen HG.out 4; have bR := blk_frozen HG.out 3; obtain ⟨cT, cU⟩ := c2_ BK.out; have bS := blk_frozen BK.out 0; have bT := blk_frozen BK.out 1))
  clear cO cP cQ cR cS bQ bS cT bR bT cU
  have b8 := am_ (Below.setCell HB.out (p := ⟨g, 4, none⟩) (Nat.le_refl g) (.int .i64 3))
  have dE := am_ (show (w1.setCell ⟨g, 4, none⟩ (.int .i64 3)).heap[g]? = some (.cells #[.string A, .string B, .int .i64 n, .slice Ao L.length co, .int .i64 3] 75 (0, 0)) from blk_put HG.out 4 _ rfl)
  have n2_ := am_ (rd_far HS.out 4 (.int .i64 3))
  have d5 := am_ (blk_far (p := ⟨g, 4, none⟩) BK.out n8 (.int .i64 3))
  clear HB HG HS BK
  generalize w1.setCell ⟨g, 4, none⟩ (.int .i64 3) = w2 at b8 dE n2_ d5 ⊢
  have HB := b8
  have HG := dE
  have HS := n2_
  have BK := d5
  clear b8 dE n2_ d5
  refine start_ (n := 9) (S := fun w' => w'.cell? ⟨gb, 0, none⟩ = some (.string a0) ∧ w'.cell? ⟨gb, 1, none⟩ = some (.slice A1 l1.length c1) ∧ w'.cell? ⟨g, 2, none⟩ = some (.int .i64 n)) (ds := []) (bs 9 0) (by kernel_rfl) rfl rfl ⟨((blk_cell BK.out 0).trans rfl), ((blk_cell BK.out 1).trans rfl), ((blk_cell HG.out 2).trans rfl)⟩ (fun hHeld => ?_)
  refine pk_ 1 29 (bs 9 2) ?_ rfl rfl
  refine pk_ 2 30 (bs 9 6) ?_ rfl rfl
  refine pk_ 3 31 (bs 9 14) ?_ rfl rfl
  refine pk_ 4 32 (bs 9 30) ?_ rfl rfl
  refine pk_ 5 33 (bs 9 62) ?_ rfl rfl
  refine take_ (i := 0) (N := some 28) (v := ?_) (a' := ?_) (bs 9 63) rfl rfl (by kernel_rfl) (fun _ _ _ h => h) (Or.inl ⟨by rfl, ?_⟩) hHeld ?_ ?_
  rotate_left
  ·rintro w' ⟨s0, s1, s2⟩
   go_simp
   with_reducible rfl
  rotate_left
  ·simp only [Act.put, List.setIfInBounds_toArray, List.set_cons_zero, List.set_cons_succ, i64_w, i32_w]
   rfl
  refine take_ (i := 6) (N := some 34) (v := ?_) (a' := ?_) (bs 9 127) rfl rfl (by kernel_rfl) (fun _ _ _ h => h) (Or.inl ⟨by rfl, ?_⟩) hHeld ?_ ?_
  rotate_left
  ·rintro w' ⟨s0, s1, s2⟩
   go_simp
   with_reducible rfl
  rotate_left
  ·simp only [Act.put, List.setIfInBounds_toArray, List.set_cons_zero, List.set_cons_succ, i64_w, i32_w]
   rfl
  refine one_ (i := 7) (N := some 35) (bs 9 255) rfl rfl (by kernel_rfl) (by decide) (fun K hK => ?_)
  refine goes_ Tryz.func80 (by kernel_rfl) rfl #[.agg #[.string a0, .slice A1 l1.length c1], .string (⟨#[73, 88, 84]⟩ : ByteArray), .int .i64 (L.length : Int), .int .i64 n] (by rfl) rfl rfl au6_21 ?_
  with_reducible refine (F80.calls ?sd1 HC.out ?sd2 A4.out).mono ?_
  (case sd1 => exact au6_13)
  (case sd2 => exact au6_14)
  rintro e w3 ⟨rfl, hb⟩
  have pD := pw_cell_below hb hHeld.1
  have pE := pw_cell_below hb hHeld.2.1
  have pF := pw_cell_below hb hHeld.2.2
  refine ⟨_, rfl, ?_⟩
  replace HB := am_ (rd_bs ax28_ (Nat.le_of_lt (blk_lt au6_0)) hb); replace HG := am_ (blk_below au6_0 hb); replace HS := am_ (Kd.S_below au6_4 hb); replace BK := am_ (blk_below au6_2 hb)
  clear hb
  refine hK.out _ _ ⟨pD, pE, pF⟩ (fun hHeld => ?_)
  clear hK K
  refine no_ 35 ?_
  refine pk_ 8 4 (bs 9 511) ?_ rfl rfl
  refine done_ (by kernel_rfl) ?_
  go_wp2
  go_ret
  exact tg6_0
 have hor_ : ((a0.toList == ([73, 88, 84] : List UInt8)) = true ∧ decide ((L.length : Int) > 0) = false ∧ decide (0 < L.length) = false) ∨ (a0.toList == ([73, 88, 84] : List UInt8)) = false := by
  by_cases c2 : a0.toList = ([73, 88, 84] : List UInt8)
  ·exact tg6_1
  ·exact .inr (beq_eq_false_iff_ne.mpr c2)
 have LR : rd_tb2 k inn L a0 l1 = some (r, inn', L') := by
  by_cases c2 : a0.toList = ([73, 88, 84] : List UInt8)
  ·rw [if_pos c2, if_neg (fun c3 => g_ ⟨c2, c3⟩)] at H
   exact H
  ·rw [if_neg c2] at H
   exact H
 clear H g_
 have H := LR
 clear LR
 rcases hor_ with ⟨c2b0, c3b0, c3b1⟩ | c2b0
 all_goals
  unfold rd_tb2 at H
  replace H := Option.bind_eq_some_iff.mp H
  obtain ⟨⟨t1, t2⟩, vV, H⟩ := H
  dsimp only at H
  by_cases c5 : t2 = true
  rotate_left
  ·replace c5 := Bool.eq_false_iff.mpr c5
   subst c5
   rw [if_neg (by decide)] at H
   have A5 := am_ vV
   clear vV
   simp only [Option.some.injEq, Prod.mk.injEq] at H
   obtain ⟨rfl, rfl, rfl⟩ := H
   go_enter Tryz.func77, Tryz.ntmps77
   go_wp2_with (first | ((with_reducible refine gate_dst (N := 3) rfl ?_); refine be_ 3 #[.string a0, .slice A1 l1.length c1] 49 ?_; intro gb hgb w1 hbox hb; replace HB := am_ (rd_bs ax28_ (Nat.le_of_lt (blk_lt au6_0)) hb); replace HG := am_ (blk_below au6_0 hb); replace HS := am_ (Kd.S_below au6_4 hb); have BK := am_ hbox; have NB : g ≠ gb := blk_ne HG.out hbox (by decide); have n8 : gb ≠ g := NB.symm; clear hb hbox hgb; obtain ⟨cO, cP, cQ, cR, cS⟩ := c5_ HG.out; have bQ := blk_frozen HG.out 4; have bR := blk_frozen HG.out 3; obtain ⟨cT, cU⟩ := c2_ BK.out; have bS := blk_frozen BK.out 0; have bT := blk_frozen BK.out 1) | (go_at_call 101; (with_reducible refine (F101.calls ?sd1 HC.out A5.out).mono ?_); (case sd1 => exact au6_13); rintro e w3 ⟨v3, rfl, bf, hb⟩; obtain ⟨Ap, cp, rfl⟩ := Kd.R_slice bf; have HP := am_ (Kd.R_reads' bf).2.2; clear bf; replace HB := am_ (rd_bs ax28_ (Nat.le_of_lt (blk_lt au6_0)) hb); replace HG := am_ (blk_below au6_0 hb); replace HS := am_ (Kd.S_below au6_4 hb); replace BK := am_ (blk_below au6_2 hb); clear hb; clear cO cP cQ cR cS bQ bS cT bR bT cU; obtain ⟨d7, dF, dG, d8, d9⟩ := c5_ HG.out; have cu := blk_frozen HG.out 4; have cv := blk_frozen HG.out 3; obtain ⟨ec, ed⟩ := c2_ BK.out; have cw := blk_frozen BK.out 0; have cx := blk_frozen BK.out 1))
   go_ret
   exact tg6_0
  subst c5
  rw [if_pos rfl] at H
  have A5 := am_ vV
  clear vV
  by_cases c6 : (L.length : Int) = 5
  ·rw [if_pos c6] at H
   have c6b0 : ((L.length : Int) == 5) = true := beq_iff_eq.mpr c6
   have c6b1 : ((L.length : Int) = 5) = True := eq_true c6
   clear c6
   simp only [Option.some.injEq, Prod.mk.injEq] at H
   obtain ⟨rfl, rfl, rfl⟩ := H
   go_enter Tryz.func77, Tryz.ntmps77
   go_wp2_with (first | ((with_reducible refine gate_dst (N := 3) rfl ?_); refine be_ 3 #[.string a0, .slice A1 l1.length c1] 49 ?_; intro gb hgb w1 hbox hb; replace HB := am_ (rd_bs ax28_ (Nat.le_of_lt (blk_lt au6_0)) hb); replace HG := am_ (blk_below au6_0 hb); replace HS := am_ (Kd.S_below au6_4 hb); have BK := am_ hbox; have NB : g ≠ gb := blk_ne HG.out hbox (by decide); have n8 : gb ≠ g := NB.symm; clear hb hbox hgb; obtain ⟨cO, cP, cQ, cR, cS⟩ := c5_ HG.out; have bQ := blk_frozen HG.out 4; have bR := blk_frozen HG.out 3; obtain ⟨cT, cU⟩ := c2_ BK.out; have bS := blk_frozen BK.out 0; have bT := blk_frozen BK.out 1) | (go_at_call 101; (with_reducible refine (F101.calls ?sd1 HC.out A5.out).mono ?_); (case sd1 => exact au6_13); rintro e w3 ⟨v3, rfl, bf, hb⟩; obtain ⟨Ap, cp, rfl⟩ := Kd.R_slice bf; have HP := am_ (Kd.R_reads' bf).2.2; clear bf; replace HB := am_ (rd_bs ax28_ (Nat.le_of_lt (blk_lt au6_0)) hb); replace HG := am_ (blk_below au6_0 hb); replace HS := am_ (Kd.S_below au6_4 hb); replace BK := am_ (blk_below au6_2 hb); clear hb; clear cO cP cQ cR cS bQ bS cT bR bT cU; obtain ⟨d7, dF, dG, d8, d9⟩ := c5_ HG.out; have cu := blk_frozen HG.out 4; have cv := blk_frozen HG.out 3; obtain ⟨ec, ed⟩ := c2_ BK.out; have cw := blk_frozen BK.out 0; have cx := blk_frozen BK.out 1))
   go_ret
   exact tg6_0
  rw [if_neg c6] at H
  have c6b0 : ((L.length : Int) == 5) = false := beq_eq_false_iff_ne.mpr c6
  clear c6
  by_cases c7 : 0 < (t1.length : Int)
  rotate_left
  ·rw [if_neg c7] at H
   cases H
  rw [if_pos c7] at H
  have c7b0 : decide ((0 : Int) < (t1.length : Int)) = true := decide_eq_true c7
  clear c7
  replace H := Option.bind_eq_some_iff.mp H
  obtain ⟨⟨q1, q2⟩, lx, H⟩ := H
  dsimp only at H
  by_cases c8 : 1 < (t1.length : Int)
  rotate_left
  ·rw [if_neg c8] at H
   cases H
  rw [if_pos c8] at H
  have c8b0 : decide ((1 : Int) < (t1.length : Int)) = true := decide_eq_true c8
  clear c8
  replace H := Option.bind_eq_some_iff.mp H
  obtain ⟨⟨s1, s2⟩, Bb, H⟩ := H
  dsimp only at H
  by_cases c9 : q2 = true
  rotate_left
  ·replace c9 := Bool.eq_false_iff.mpr c9
   subst c9
   rw [if_neg (by decide)] at H
   have A6 := am_ lx
   have A7 := am_ Bb
   clear lx Bb
   simp only [Option.some.injEq, Prod.mk.injEq] at H
   obtain ⟨rfl, rfl, rfl⟩ := H
   go_enter Tryz.func77, Tryz.ntmps77
   go_wp2_with (first | ((with_reducible refine gate_dst (N := 3) rfl ?_); refine be_ 3 #[.string a0, .slice A1 l1.length c1] 49 ?_; intro gb hgb w1 hbox hb; replace HB := am_ (rd_bs ax28_ (Nat.le_of_lt (blk_lt au6_0)) hb); replace HG := am_ (blk_below au6_0 hb); replace HS := am_ (Kd.S_below au6_4 hb); have BK := am_ hbox; have NB : g ≠ gb := blk_ne HG.out hbox (by decide); have n8 : gb ≠ g := NB.symm; clear hb hbox hgb; obtain ⟨cO, cP, cQ, cR, cS⟩ := c5_ HG.out; have bQ := blk_frozen HG.out 4; have bR := blk_frozen HG.out 3; obtain ⟨cT, cU⟩ := c2_ BK.out; have bS := blk_frozen BK.out 0; have bT := blk_frozen BK.out 1) | (go_at_call 101; (with_reducible refine (F101.calls ?sd1 HC.out A5.out).mono ?_); (case sd1 => exact au6_13); rintro e w3 ⟨v3, rfl, bf, hb⟩; obtain ⟨Ap, cp, rfl⟩ := Kd.R_slice bf; have HP := am_ (Kd.R_reads' bf).2.2; clear bf; replace HB := am_ (rd_bs ax28_ (Nat.le_of_lt (blk_lt au6_0)) hb); replace HG := am_ (blk_below au6_0 hb); replace HS := am_ (Kd.S_below au6_4 hb); replace BK := am_ (blk_below au6_2 hb); clear hb; clear cO cP cQ cR cS bQ bS cT bR bT cU; obtain ⟨d7, dF, dG, d8, d9⟩ := c5_ HG.out; have cu := blk_frozen HG.out 4; have cv := blk_frozen HG.out 3; obtain ⟨ec, ed⟩ := c2_ BK.out; have cw := blk_frozen BK.out 0; have cx := blk_frozen BK.out 1; have ni : 0 ≤ (0 : Int) := (by omega); have nj : (0 : Int) < (t1.length : Int) := od_; obtain ⟨F7, e0_, eX⟩ := Kd.at_string HP.out 0 ni nj; cases e0_; have Bc : (0 < t1.length) = True := eq_true (by omega); (try rw [show ((0 : Int)).toNat = 0 from rfl] at eX); (try rw [Addr.add_zero'] at eX); (try simp only [show (1 : Int).toNat = 1 from rfl, Nat.reduceMul, Nat.reduceEqDiff, Go.Addr.add, ↓reduceIte] at eX); replace ni := eq_true ni; replace nj := eq_true nj) | (go_at_call 102; (with_reducible refine (F102.calls ?sd2 A6.out).mono ?_); (case sd2 => exact au6_14); rintro e w4 ⟨rfl, hb⟩; have ly := am_ (Kd.C_below HP.out hb); clear HP; have HP := ly; clear ly; replace HB := am_ (rd_bs ax28_ (Nat.le_of_lt (blk_lt au6_0)) hb); replace HG := am_ (blk_below au6_0 hb); replace HS := am_ (Kd.S_below au6_4 hb); replace BK := am_ (blk_below au6_2 hb); clear hb; clear d7 dF dG d8 d9 cu cw ec cv cx ed; obtain ⟨gO, gP, gQ, gR, gS⟩ := c5_ HG.out; have eK := blk_frozen HG.out 4; have eL := blk_frozen HG.out 3; obtain ⟨gT, gU⟩ := c2_ BK.out; have eM := blk_frozen BK.out 0; have eN := blk_frozen BK.out 1; clear eX; have xQ : 0 ≤ (1 : Int) := (by omega); have rU : (1 : Int) < (t1.length : Int) := od_; obtain ⟨LS, LT, lz⟩ := Kd.at_string HP.out 1 xQ rU; obtain rfl : F7 = LS := (by injection LT); have LU : (1 < t1.length) = True := eq_true (by omega); (try rw [show ((0 : Int)).toNat = 0 from rfl] at lz); (try rw [Addr.add_zero'] at lz); (try simp only [show (1 : Int).toNat = 1 from rfl, Nat.reduceMul, Nat.reduceEqDiff, Go.Addr.add, ↓reduceIte] at lz); replace xQ := eq_true xQ; replace rU := eq_true rU) | (go_at_call 102; (with_reducible refine (F102.calls ?sd2 A7.out).mono ?_); (case sd2 => exact au6_14); rintro e w5 ⟨rfl, hb⟩; have ly := am_ (Kd.C_below HP.out hb); clear HP; have HP := ly; clear ly; replace HB := am_ (rd_bs ax28_ (Nat.le_of_lt (blk_lt au6_0)) hb); replace HG := am_ (blk_below au6_0 hb); replace HS := am_ (Kd.S_below au6_4 hb); replace BK := am_ (blk_below au6_2 hb); clear hb; clear gO gP gQ gR gS eK eM gT eL eN gU; obtain ⟨vk, vl, nW, vm, vn⟩ := c5_ HG.out; have mf := blk_frozen HG.out 4; have mg := blk_frozen HG.out 3; obtain ⟨vo, vp⟩ := c2_ BK.out; have mh := blk_frozen BK.out 0; have mi := blk_frozen BK.out 1))
   go_ret
   exact tg6_0
  subst c9
  rw [if_pos rfl] at H
  by_cases c10 : s2 = true
  rotate_left
  ·replace c10 := Bool.eq_false_iff.mpr c10
   subst c10
   rw [if_neg (by decide)] at H
   have A6 := am_ lx
   have A7 := am_ Bb
   clear lx Bb
   simp only [Option.some.injEq, Prod.mk.injEq] at H
   obtain ⟨rfl, rfl, rfl⟩ := H
   go_enter Tryz.func77, Tryz.ntmps77
   go_wp2_with (first | ((with_reducible refine gate_dst (N := 3) rfl ?_); refine be_ 3 #[.string a0, .slice A1 l1.length c1] 49 ?_; intro gb hgb w1 hbox hb; replace HB := am_ (rd_bs ax28_ (Nat.le_of_lt (blk_lt au6_0)) hb); replace HG := am_ (blk_below au6_0 hb); replace HS := am_ (Kd.S_below au6_4 hb); have BK := am_ hbox; have NB : g ≠ gb := blk_ne HG.out hbox (by decide); have n8 : gb ≠ g := NB.symm; clear hb hbox hgb; obtain ⟨cO, cP, cQ, cR, cS⟩ := c5_ HG.out; have bQ := blk_frozen HG.out 4; have bR := blk_frozen HG.out 3; obtain ⟨cT, cU⟩ := c2_ BK.out; have bS := blk_frozen BK.out 0; have bT := blk_frozen BK.out 1) | (go_at_call 101; (with_reducible refine (F101.calls ?sd1 HC.out A5.out).mono ?_); (case sd1 => exact au6_13); rintro e w3 ⟨v3, rfl, bf, hb⟩; obtain ⟨Ap, cp, rfl⟩ := Kd.R_slice bf; have HP := am_ (Kd.R_reads' bf).2.2; clear bf; replace HB := am_ (rd_bs ax28_ (Nat.le_of_lt (blk_lt au6_0)) hb); replace HG := am_ (blk_below au6_0 hb); replace HS := am_ (Kd.S_below au6_4 hb); replace BK := am_ (blk_below au6_2 hb); clear hb; clear cO cP cQ cR cS bQ bS cT bR bT cU; obtain ⟨d7, dF, dG, d8, d9⟩ := c5_ HG.out; have cu := blk_frozen HG.out 4; have cv := blk_frozen HG.out 3; obtain ⟨ec, ed⟩ := c2_ BK.out; have cw := blk_frozen BK.out 0; have cx := blk_frozen BK.out 1; have ni : 0 ≤ (0 : Int) := (by omega); have nj : (0 : Int) < (t1.length : Int) := od_; obtain ⟨F7, e0_, eX⟩ := Kd.at_string HP.out 0 ni nj; cases e0_; have Bc : (0 < t1.length) = True := eq_true (by omega); (try rw [show ((0 : Int)).toNat = 0 from rfl] at eX); (try rw [Addr.add_zero'] at eX); (try simp only [show (1 : Int).toNat = 1 from rfl, Nat.reduceMul, Nat.reduceEqDiff, Go.Addr.add, ↓reduceIte] at eX); replace ni := eq_true ni; replace nj := eq_true nj) | (go_at_call 102; (with_reducible refine (F102.calls ?sd2 A6.out).mono ?_); (case sd2 => exact au6_14); rintro e w4 ⟨rfl, hb⟩; have ly := am_ (Kd.C_below HP.out hb); clear HP; have HP := ly; clear ly; replace HB := am_ (rd_bs ax28_ (Nat.le_of_lt (blk_lt au6_0)) hb); replace HG := am_ (blk_below au6_0 hb); replace HS := am_ (Kd.S_below au6_4 hb); replace BK := am_ (blk_below au6_2 hb); clear hb; clear d7 dF dG d8 d9 cu cw ec cv cx ed; obtain ⟨gO, gP, gQ, gR, gS⟩ := c5_ HG.out; have eK := blk_frozen HG.out 4; have eL := blk_frozen HG.out 3; obtain ⟨gT, gU⟩ := c2_ BK.out; have eM := blk_frozen BK.out 0; have eN := blk_frozen BK.out 1; clear eX; have xQ : 0 ≤ (1 : Int) := (by omega); have rU : (1 : Int) < (t1.length : Int) := od_; obtain ⟨LS, LT, lz⟩ := Kd.at_string HP.out 1 xQ rU; obtain rfl : F7 = LS := (by injection LT); have LU : (1 < t1.length) = True := eq_true (by omega); (try rw [show ((0 : Int)).toNat = 0 from rfl] at lz); (try rw [Addr.add_zero'] at lz); (try simp only [show (1 : Int).toNat = 1 from rfl, Nat.reduceMul, Nat.reduceEqDiff, Go.Addr.add, ↓reduceIte] at lz); replace xQ := eq_true xQ; replace rU := eq_true rU) | (go_at_call 102; (with_reducible refine (F102.calls ?sd2 A7.out).mono ?_); (case sd2 => exact au6_14); rintro e w5 ⟨rfl, hb⟩; have ly := am_ (Kd.C_below HP.out hb); clear HP; have HP := ly; clear ly; replace HB := am_ (rd_bs ax28_ (Nat.le_of_lt (blk_lt au6_0)) hb); replace HG := am_ (blk_below au6_0 hb); replace HS := am_ (Kd.S_below au6_4 hb); replace BK := am_ (blk_below au6_2 hb); clear hb; clear gO gP gQ gR gS eK eM gT eL eN gU; obtain ⟨vk, vl, nW, vm, vn⟩ := c5_ HG.out; have mf := blk_frozen HG.out 4; have mg := blk_frozen HG.out 3; obtain ⟨vo, vp⟩ := c2_ BK.out; have mh := blk_frozen BK.out 0; have mi := blk_frozen BK.out 1))
   go_ret
   exact tg6_0
  subst c10
  rw [if_pos rfl] at H
  by_cases fS : L.length < 1000000
  rotate_left
  ·rw [if_neg fS] at H
   cases H
  rw [if_pos fS] at H
  have LM := am_ fS
  clear fS
  have A6 := am_ lx
  have A7 := am_ Bb
  clear lx Bb
  simp only [Option.some.injEq, Prod.mk.injEq] at H
  obtain ⟨rfl, rfl, rfl⟩ := H
  go_enter Tryz.func77, Tryz.ntmps77
  go_wp2_with (first | ((with_reducible refine gate_dst (N := 3) rfl ?_); refine be_ 3 #[.string a0, .slice A1 l1.length c1] 49 ?_; intro gb hgb w1 hbox hb; replace HB := am_ (rd_bs ax28_ (Nat.le_of_lt (blk_lt au6_0)) hb); replace HG := am_ (blk_below au6_0 hb); replace HS := am_ (Kd.S_below au6_4 hb); have BK := am_ hbox; have NB : g ≠ gb := blk_ne HG.out hbox (by decide); have n8 : gb ≠ g := NB.symm; clear hb hbox hgb; obtain ⟨cO, cP, cQ, cR, cS⟩ := c5_ HG.out; have bQ := blk_frozen HG.out 4; have bR := blk_frozen HG.out 3; obtain ⟨cT, cU⟩ := c2_ BK.out; have bS := blk_frozen BK.out 0; have bT := blk_frozen BK.out 1) | (go_at_call 101; (with_reducible refine (F101.calls ?sd1 HC.out A5.out).mono ?_); (case sd1 => exact au6_13); rintro e w3 ⟨v3, rfl, bf, hb⟩; obtain ⟨Ap, cp, rfl⟩ := Kd.R_slice bf; have HP := am_ (Kd.R_reads' bf).2.2; clear bf; replace HB := am_ (rd_bs ax28_ (Nat.le_of_lt (blk_lt au6_0)) hb); replace HG := am_ (blk_below au6_0 hb); replace HS := am_ (Kd.S_below au6_4 hb); replace BK := am_ (blk_below au6_2 hb); clear hb; clear cO cP cQ cR cS bQ bS cT bR bT cU; obtain ⟨d7, dF, dG, d8, d9⟩ := c5_ HG.out; have cu := blk_frozen HG.out 4; have cv := blk_frozen HG.out 3; obtain ⟨ec, ed⟩ := c2_ BK.out; have cw := blk_frozen BK.out 0; have cx := blk_frozen BK.out 1; have ni : 0 ≤ (0 : Int) := (by omega); have nj : (0 : Int) < (t1.length : Int) := od_; obtain ⟨F7, e0_, eX⟩ := Kd.at_string HP.out 0 ni nj; cases e0_; have Bc : (0 < t1.length) = True := eq_true (by omega); (try rw [show ((0 : Int)).toNat = 0 from rfl] at eX); (try rw [Addr.add_zero'] at eX); (try simp only [show (1 : Int).toNat = 1 from rfl, Nat.reduceMul, Nat.reduceEqDiff, Go.Addr.add, ↓reduceIte] at eX); replace ni := eq_true ni; replace nj := eq_true nj) | (go_at_call 102; (with_reducible refine (F102.calls ?sd2 A6.out).mono ?_); (case sd2 => exact au6_14); rintro e w4 ⟨rfl, hb⟩; have ly := am_ (Kd.C_below HP.out hb); clear HP; have HP := ly; clear ly; replace HB := am_ (rd_bs ax28_ (Nat.le_of_lt (blk_lt au6_0)) hb); replace HG := am_ (blk_below au6_0 hb); replace HS := am_ (Kd.S_below au6_4 hb); replace BK := am_ (blk_below au6_2 hb); clear hb; clear d7 dF dG d8 d9 cu cw ec cv cx ed; obtain ⟨gO, gP, gQ, gR, gS⟩ := c5_ HG.out; have eK := blk_frozen HG.out 4; have eL := blk_frozen HG.out 3; obtain ⟨gT, gU⟩ := c2_ BK.out; have eM := blk_frozen BK.out 0; have eN := blk_frozen BK.out 1; clear eX; have xQ : 0 ≤ (1 : Int) := (by omega); have rU : (1 : Int) < (t1.length : Int) := od_; obtain ⟨LS, LT, lz⟩ := Kd.at_string HP.out 1 xQ rU; obtain rfl : F7 = LS := (by injection LT); have LU : (1 < t1.length) = True := eq_true (by omega); (try rw [show ((0 : Int)).toNat = 0 from rfl] at lz); (try rw [Addr.add_zero'] at lz); (try simp only [show (1 : Int).toNat = 1 from rfl, Nat.reduceMul, Nat.reduceEqDiff, Go.Addr.add, ↓reduceIte] at lz); replace xQ := eq_true xQ; replace rU := eq_true rU) | (go_at_call 102; (with_reducible refine (F102.calls ?sd2 A7.out).mono ?_); (case sd2 => exact au6_14); rintro e w5 ⟨rfl, hb⟩; have ly := am_ (Kd.C_below HP.out hb); clear HP; have HP := ly; clear ly; replace HB := am_ (rd_bs ax28_ (Nat.le_of_lt (blk_lt au6_0)) hb); replace HG := am_ (blk_below au6_0 hb); replace HS := am_ (Kd.S_below au6_4 hb); replace BK := am_ (blk_below au6_2 hb); clear hb; clear gO gP gQ gR gS eK eM gT eL eN gU; obtain ⟨vk, vl, nW, vm, vn⟩ := c5_ HG.out; have mf := blk_frozen HG.out 4; have mg := blk_frozen HG.out 3; obtain ⟨vo, vp⟩ := c2_ BK.out; have mh := blk_frozen BK.out 0; have mi := blk_frozen BK.out 1) | ((with_reducible refine gate_builtin (b := .append) (xs := #[.tmp 72, .tmp 76]) rfl ?_); at_builtin; refine Kd.S_append k53 (g + 1) rfl (.tmp 72) (.tmp 76) 28 53 (.agg #[(.int .i64 0), (.int .i64 0), (.slice none 0 0)]) 40 rfl Tryz.underlying28 rd_info83 rfl (by decide) (by omega) (.slice Ao L.length co) L (⟨q1, s1, []⟩ : S53) [.int .i64 q1, .int .i64 s1, .slice none 0 0] (fun _ => True) (fun _ => False) rfl rfl ?aP (fun _ h_ => h_.elim) (fun _ _ => trivial) ?aO (Below.refl _ _) ?aS ?aL ?_; (case aP => exact k53_mkM _ _ _ (⟨q1, s1, []⟩ : S53) (Kd.S_nil _ _ _ _ _)); (case aO => exact Kd.S_mono HS.out (fun _ _ => ⟨trivial, fun h_ => h_⟩)); (case aS => exact blk_lt HG.out); (case aL => have := LM.out; omega); intro v6 w6 ho hb pG hat; obtain ⟨lx, V2, rfl⟩ := Kd.S_slice ho; rw [show (L ++ [(⟨q1, s1, []⟩ : S53)]).length = L.length + 1 from by simp] at ho; have b8 := am_ (HB.out.trans (hb.mono (Nat.le_succ g))); have dE := am_ ((hb.block g (Nat.lt_succ_self g)).trans HG.out); have n2_ := am_ ho; clear HB HG HS BK; clear vk vl nW vm vn mf mh vo mg mi vp; have HB := b8; have HG := dE; have HS := n2_; clear b8 dE n2_ ho hb pG hat; have LV := blk_frozen HG.out 4; have LW := blk_frozen HG.out 3; have RC : w6.cell? ⟨g, 3, none⟩ = some (.slice Ao L.length co) := (blk_cell HG.out 3).trans rfl; have RD : w6.cell? ⟨g, 4, none⟩ = some (.int .i64 inn) := (blk_cell HG.out 4).trans rfl))
  go_ret
  exact ⟨rfl, (HB.out.setCell (p := ⟨g, 3, none⟩) (Nat.le_refl g) _).setCell (p := ⟨g, 4, none⟩) (Nat.le_refl g) _, _, blk_put (blk_put HG.out 3 _ rfl) 4 _ rfl, rd_far (rd_far HS.out 3 _) 4 _⟩
theorem rd_hfr {α : Type} {d : Kd α} {e g n cap base : Nat} {W : World} {ok oki : Nat → Prop} {xs : List α} {i : Int} {c : List Value} (h : Kd.H d e W base ok (.slice (some ⟨g, 0, none⟩) n cap) xs i oki c) (h0 : 0 ≤ i) (h1 : i < n) (j : Nat) : W.frozen? ⟨g, i.toNat * d.sz + j, none⟩ = false := by
 obtain ⟨rows, hl, hraw, _⟩ := Kd.H_raw h h0 h1
 obtain ⟨_, _, _, _, hfr⟩ := Kd.R_elem hraw [] i h0 h1
 exact hfr j
theorem rd_hcell {α : Type} {d : Kd α} {e g n cap base : Nat} {W : World} {ok oki : Nat → Prop} {xs : List α} {i : Int} {c : List Value} (h : Kd.H d e W base ok (.slice (some ⟨g, 0, none⟩) n cap) xs i oki c) (h0 : 0 ≤ i) (h1 : i < n) (j : Nat) (u : Value) (hu : c[j]? = some u) : W.cell? ⟨g, i.toNat * d.sz + j, none⟩ = some u := by
 obtain ⟨rows, hl, hraw, _, _, hcc, _⟩ := Kd.H_raw h h0 h1
 exact hcc j u hu
theorem rd_h12 {g gbk m n c : Nat} {W : World} {ok oki : Nat → Prop} {L : List S53} {f0 f1 : Int} {v2 : Value} (h : Aside0 (Kd.H k53 53 W (g + 1) ok (.slice (some ⟨gbk, 0, none⟩) n c) L ((m - 1 : Nat) : Int) oki [.int .i64 f0, .int .i64 f1, v2])) (h1 : Aside0 (1 ≤ m)) (hn : m = n := by rfl) : W.cell? ⟨gbk, (m - 1) * 3 + 1, none⟩ = some (.int .i64 f1) ∧ W.cell? ⟨gbk, (m - 1) * 3 + 2, none⟩ = some v2 := ⟨rd_hcell h.out (by omega) (by have := h1.out; omega) 1 _ rfl, rd_hcell h.out (by omega) (by have := h1.out; omega) 2 _ rfl⟩
theorem rd_putM {g gbk n c : Nat} {W w6 : World} {L : List S53} {i : Int} {oki : Nat → Prop} {f0 f1 : Int} {ms ms' : List S56} {v2 v6 : Value}
  (hH : Kd.H k53 53 W (g + 1) (fun k_ => g + 1 ≤ k_) (.slice (some ⟨gbk, 0, none⟩) n c) L i oki [.int .i64 f0, .int .i64 f1, v2]) (hM : k56.S 56 W (g + 1) oki v2 ms) (hoki : ∀ k_, oki k_ → k_ ≠ gbk) (hlt : gbk < W.heap.size) (h0 : 0 ≤ i) (h1 : i < n)
  (hsz : g + 1 ≤ W.heap.size) (ho : k56.S 56 w6 (g + 1) (fun k_ => oki k_ ∨ W.heap.size ≤ k_) v6 ms') (pG : W.grownBy w6 v2.ownBlock) :
  (w6.cell? ⟨gbk, i.toNat * 3 + 2, none⟩ = some v2 ∧ w6.frozen? ⟨gbk, i.toNat * 3 + 2, none⟩ = false) ∧ Kd.S k53 53 (w6.setCell ⟨gbk, i.toNat * 3 + 2, none⟩ v6) (g + 1) (fun k_ => g + 1 ≤ k_) (.slice (some ⟨gbk, 0, none⟩) n c) (L.set i.toNat ⟨f0, f1, ms'⟩) := by
 obtain ⟨A6, c6, rfl⟩ := Kd.S_slice ho
 have h6 := Kd.H_step (Kd.H_widen hH) (w1 := w6) (fun k _ hn hk => pG.block k hk (fun e_ => hn (.inl ((Kd.S_R hM).1 k e_.symm))))
 obtain ⟨h7, h8⟩ := Kd.H_seg h6 h0 h1 (seg := [.slice A6 ms'.length c6]) (j := 2) (by show 2 + 1 ≤ 3; omega) (by simp [Value.oneCell'])
 have e : w6.setCells gbk (i.toNat * k53.sz + 2) [.slice A6 ms'.length c6] = w6.setCell ⟨gbk, i.toNat * 3 + 2, none⟩ (.slice A6 ms'.length c6) := rfl
 rw [e] at h7 h8
 refine ⟨⟨rd_hcell h6 h0 h1 2 _ rfl, rd_hfr h6 h0 h1 2⟩, ?_⟩
 refine Kd.H_back h7 (k53_mkM _ _ _ (⟨f0, f1, ms'⟩ : S53) (Kd.S_step ho (fun k hk hl => h8.block k hl (fun he => ?_)))) (fun k hk => hk.elim .inl (fun h_ => .inr ⟨Nat.le_trans hsz h_, h_⟩))
 have he : k = gbk := by injection he
 rcases hk with hk | hk
 ·exact hoki k hk he
 ·omega
def rd_tm2 (k : Nat) (inn : Int) (L : List S53) (b : S53) (a0 : ByteArray) (l1 : List S91) : Option (Int × Int × List S53) := (F101.f k a0 l1 (⟨#[77, 83, 72]⟩ : ByteArray) 1).bind fun p => (if p.2 = true then (if (b.f2.length : Int) = 10 then (some (3, inn, L)) else (if 0 < (p.1.length : Int) then ((F102.f k (rdOf ByteArray.empty p.1 0) 1 999999).bind fun q => (if q.2 = true then (if b.f2.length < 1000000 then (some (0, 2, L.set (L.length - 1) ⟨b.f0, b.f1, b.f2 ++ [(⟨q.1, []⟩ : S56)]⟩)) else (none)) else (some (3, inn, L)))) else (none))) else (some (3, inn, L)))
def rd_takeMessage.f (k : Nat) (inn : Int) (L : List S53) (a0 : ByteArray) (l1 : List S91) : Option (Int × Int × List S53) := if 1 ≤ L.length then (if a0.toList = ([71, 82, 84] : List UInt8) then (if ((L.getD (L.length - 1) z53).f2.length : Int) > 0 then ((F80.f k a0 l1 (⟨#[71, 82, 84]⟩ : ByteArray) ((L.getD (L.length - 1) z53).f2.length : Int) (L.getD (L.length - 1) z53).f1).bind fun r => some (r, 0, L)) else (rd_tm2 k inn L (L.getD (L.length - 1) z53) a0 l1)) else (rd_tm2 k inn L (L.getD (L.length - 1) z53) a0 l1)) else (none)
theorem rd_takeMessage.calls (k g : Nat) (A B : ByteArray) (n inn : Int) (vB : Value) (L : List S53) (a0 : ByteArray) (A1 : Option Addr) (c1 : Nat) (l1 : List S91) (r : Int) (inn' : Int) (L' : List S53) (w0 w : World)
  (u7 : Below w0.heap.size w0 w) (hge : w0.heap.size ≤ g) (hg : w.heap[g]? = some (.cells #[.string A, .string B, .int .i64 n, vB, .int .i64 inn] 75 (0, 0))) (hS : Kd.S k53 53 w (g + 1) (fun _ => True) vB L) (hr : Kd.C k91 w0 A1 l1.length l1) (hc : l1.length ≤ c1) (hT : LaidT true Tryz.prog w0)
  (h : rd_takeMessage.f k inn L a0 l1 = some (r, inn', L')) :
  Calls Tryz.prog 78 #[.pointer (some ⟨g, 0, none⟩), .agg #[.string a0, .slice A1 l1.length c1]] w fun e w' => e = .returned (.int .i64 r) ∧ Below g w w' ∧ ∃ vB', w'.heap[g]? = some (.cells #[.string A, .string B, .int .i64 n, vB', .int .i64 inn'] 75 (0, 0)) ∧ Kd.S k53 53 w' (g + 1) (fun _ => True) vB' L' := by
 have xP := Tryz.underlying75
 have F4 := Tryz.underlying28
 have F6 := Tryz.underlying49
 have F5 := Tryz.underlying53
 have RE := Tryz.underlying56
 have LQ := Tryz.underlying51
 have H := h
 unfold rd_takeMessage.f at H
 clear h
 by_cases Bd : 1 ≤ L.length
 rotate_left
 ·rw [if_neg Bd] at H
  cases H
 rw [if_pos Bd] at H
 obtain ⟨Ao, co, rfl⟩ := Kd.S_slice hS
 obtain ⟨ad, A7, c7, e7, nF, rV, D0, D1⟩ := at_T53 ((Kd.S_reads' hS).2.2) ((L.length - 1 : Nat) : Int) (by omega) (by omega)
 cases e7
 obtain ⟨gbk, hgk⟩ : ∃ g, ad = ⟨g, 0, none⟩ := Kd.R_head (Kd.S_R hS)
 subst hgk
 clear nF rV D0 D1
 have hM1 := (Kd.S_reads' hS).2.2.2.1
 have dF : g + 1 ≤ gbk := Kd.S_base hS gbk rfl
 have LY := Kd.S_mono (Kd.S_bound hS) (ok' := fun k_ => g + 1 ≤ k_) (fun k_ hk_ => hk_.2.1)
 obtain ⟨oki, ce, hcl, hM, hcc, hfr, hoki, hH⟩ := Kd.S_elem LY z53 ((L.length - 1 : Nat) : Int) (by omega) (by omega)
 have dG : gbk < w.heap.size := World.block_lt_of_cell? w ⟨gbk, _, none⟩ (hcc 0 _ (by obtain ⟨v, rfl, _⟩ := k53_openM hM; rfl))
 obtain ⟨v2, rfl, hR⟩ := k53_openM hM
 have HBm : L.getD (((L.length - 1 : Nat) : Int).toNat) z53 = L.getD (L.length - 1) z53 := rfl
 rw [HBm] at hR hH
 have HLB := am_ (show L.set (L.length - 1) (L.getD (L.length - 1) z53) = L from by
  rw [List.getD_eq_getElem?_getD, List.getElem?_eq_getElem (by omega), Option.getD_some, List.set_getElem_self])
 generalize L.getD (L.length - 1) z53 = b at H hR hH HLB
 obtain ⟨Am, cm, rfl⟩ := Kd.S_slice hR
 have HB := am_ (Below.refl g w)
 have Ba := am_ u7
 have HGE := am_ hge
 have HG := am_ hg
 have HH := am_ hH
 have HM := am_ hR
 have HOK := am_ hoki
 have HBL := am_ dG
 have HBG := am_ dF
 have zz := am_ hM1
 have fM := am_ Bd
 have HR := am_ hr
 have HC := am_ hc
 have HT := am_ hT
 clear u7 hge hg hS LY hr hc hT hcl hcc hfr hoki hH hM hR dF dG hM1 Bd HBm
 by_cases g_ : a0.toList = ([71, 82, 84] : List UInt8) ∧ (b.f2.length : Int) > 0
 ·rw [if_pos g_.1, if_pos g_.2] at H
  have c2b0 : (a0.toList == ([71, 82, 84] : List UInt8)) = true := beq_iff_eq.mpr g_.1
  have c3b0 : decide ((b.f2.length : Int) > 0) = true := decide_eq_true g_.2
  have c3b1 : decide (0 < b.f2.length) = true := decide_eq_true (by have := g_.2; omega)
  clear g_
  replace H := Option.bind_eq_some_iff.mp H
  obtain ⟨V1, u9, H⟩ := H
  have A4 := am_ u9
  clear u9
  simp only [Option.some.injEq, Prod.mk.injEq] at H
  obtain ⟨rfl, rfl, rfl⟩ := H
  go_enter Tryz.func78, Tryz.ntmps78
  go_wp2_with (first | ((with_reducible refine gate_dst (N := 3) rfl ?_); refine be_ 3 #[.string a0, .slice A1 l1.length c1] 49 ?_; intro gb hgb w1 hbox hb; replace HB := am_ (rd_bs ax28_ (Nat.le_of_lt (blk_lt au6_0)) hb); replace HG := am_ (blk_below au6_0 hb); replace HH := am_ (Kd.H_below au6_3 hb); replace HM := am_ (Kd.S_below au6_5 hb); replace HBL := am_ (Nat.lt_of_lt_of_le HBL.out (hb).size); have BK := am_ hbox; have NB : g ≠ gb := blk_ne HG.out hbox (by decide); have n8 : gb ≠ g := NB.symm; clear hb hbox hgb; obtain ⟨cO, cP, cQ, cR, cS⟩ := c5_ HG.out; have bQ := blk_frozen HG.out 4; have bR := blk_frozen HG.out 3; obtain ⟨cT, cU⟩ := c2_ BK.out; have bS := blk_frozen BK.out 0; have bT := blk_frozen BK.out 1; obtain ⟨fV, fW⟩ := rd_h12 HH fM) | (go_at_call 103; (with_reducible refine (rd_bundle.calls g gbk L.length co A B n inn _ HG.out fM.out zz.out).mono ?_); rintro e w2 ⟨rfl, hd⟩; have hb := hd.below; replace HB := am_ (rd_bs ax28_ (Nat.le_of_lt (blk_lt au6_0)) hb); replace HG := am_ (blk_below au6_0 hb); replace HH := am_ (Kd.H_below au6_3 hb); replace HM := am_ (Kd.S_below au6_5 hb); replace HBL := am_ (Nat.lt_of_lt_of_le HBL.out (hb).size); replace BK := am_ (blk_below au6_2 hb); clear hb hd; clear cO cP cQ cR cS bQ bS cT bR bT cU fV fW; obtain ⟨d7, dF, dG, d8, d9⟩ := c5_ HG.out; have cu := blk_frozen HG.out 4; have cv := blk_frozen HG.out 3; obtain ⟨ec, ed⟩ := c2_ BK.out; have cw := blk_frozen BK.out 0; have cx := blk_frozen BK.out 1; obtain ⟨fX, fY⟩ := rd_h12 HH fM))
  clear d7 dF dG d8 d9 cu cw ec cv cx ed fX fY
  have b8 := am_ (Below.setCell HB.out (p := ⟨g, 4, none⟩) (Nat.le_refl g) (.int .i64 0))
  have dE := am_ (show (w2.setCell ⟨g, 4, none⟩ (.int .i64 0)).heap[g]? = some (.cells #[.string A, .string B, .int .i64 n, .slice (some ⟨gbk, 0, none⟩) L.length co, .int .i64 0] 75 (0, 0)) from blk_put HG.out 4 _ rfl)
  have n2_ := am_ (Kd.H_far (p := ⟨g, 4, none⟩) HH.out (fun k_ hk_ => by show k_ ≠ g; omega) (.int .i64 0))
  have lh := am_ (rd_far HM.out 4 (.int .i64 0))
  have ll := am_ (show gbk < (w2.setCell ⟨g, 4, none⟩ (.int .i64 0)).heap.size from by simpa [World.setCell] using HBL.out)
  have d5 := am_ (blk_far (p := ⟨g, 4, none⟩) BK.out n8 (.int .i64 0))
  clear HB HG HH HM HBL BK
  generalize w2.setCell ⟨g, 4, none⟩ (.int .i64 0) = w2 at b8 dE n2_ lh ll d5 ⊢
  have HB := b8
  have HG := dE
  have HH := n2_
  have HM := lh
  have HBL := ll
  have BK := d5
  clear b8 dE n2_ lh ll d5
  refine start_ (n := 8) (S := fun w' => w'.cell? ⟨gb, 0, none⟩ = some (.string a0) ∧ w'.cell? ⟨gb, 1, none⟩ = some (.slice A1 l1.length c1) ∧ w'.cell? ⟨gbk, (L.length - 1) * 3 + 1, none⟩ = some (.int .i64 b.f1)) (ds := []) (bs 8 0) (by kernel_rfl) rfl rfl ⟨((blk_cell BK.out 0).trans rfl), ((blk_cell BK.out 1).trans rfl), (rd_hcell HH.out (by omega) (by have := fM.out; omega) 1 _ rfl)⟩ (fun hHeld => ?_)
  refine pk_ 1 29 (bs 8 2) ?_ rfl rfl
  refine pk_ 2 30 (bs 8 6) ?_ rfl rfl
  refine pk_ 3 31 (bs 8 14) ?_ rfl rfl
  refine pk_ 4 32 (bs 8 30) ?_ rfl rfl
  refine take_ (i := 0) (N := some 28) (v := ?_) (a' := ?_) (bs 8 31) rfl rfl (by kernel_rfl) (fun _ _ _ h => h) (Or.inl ⟨by rfl, ?_⟩) hHeld ?_ ?_
  rotate_left
  ·rintro w' ⟨s0, s1, s2⟩
   go_simp
   with_reducible rfl
  rotate_left
  ·simp only [Act.put, List.setIfInBounds_toArray, List.set_cons_zero, List.set_cons_succ, i64_w, i32_w]
   rfl
  refine take_ (i := 5) (N := some 33) (v := ?_) (a' := ?_) (bs 8 63) rfl rfl (by kernel_rfl) (fun _ _ _ h => h) (Or.inl ⟨by rfl, ?_⟩) hHeld ?_ ?_
  rotate_left
  ·rintro w' ⟨s0, s1, s2⟩
   go_simp
   with_reducible rfl
  rotate_left
  ·simp only [Act.put, List.setIfInBounds_toArray, List.set_cons_zero, List.set_cons_succ, i64_w, i32_w]
   rfl
  refine one_ (i := 6) (N := some 34) (bs 8 127) rfl rfl (by kernel_rfl) (by decide) (fun K hK => ?_)
  refine goes_ Tryz.func80 (by kernel_rfl) rfl #[.agg #[.string a0, .slice A1 l1.length c1], .string (⟨#[71, 82, 84]⟩ : ByteArray), .int .i64 (b.f2.length : Int), .int .i64 b.f1] (by rfl) rfl rfl au6_21 ?_
  with_reducible refine (F80.calls ?sd1 HC.out ?sd2 A4.out).mono ?_
  (case sd1 => exact au6_13)
  (case sd2 => exact au6_14)
  rintro e w3 ⟨rfl, hb⟩
  have pD := pw_cell_below hb hHeld.1
  have pE := pw_cell_below hb hHeld.2.1
  have pF := pw_cell_below hb hHeld.2.2
  refine ⟨_, rfl, ?_⟩
  replace HB := am_ (rd_bs ax28_ (Nat.le_of_lt (blk_lt au6_0)) hb); replace HG := am_ (blk_below au6_0 hb); replace HH := am_ (Kd.H_below au6_3 hb); replace HM := am_ (Kd.S_below au6_5 hb); replace HBL := am_ (Nat.lt_of_lt_of_le HBL.out (hb).size); replace BK := am_ (blk_below au6_2 hb)
  clear hb
  refine hK.out _ _ ⟨pD, pE, pF⟩ (fun hHeld => ?_)
  clear hK K
  refine no_ 34 ?_
  refine pk_ 7 4 (bs 8 255) ?_ rfl rfl
  refine done_ (by kernel_rfl) ?_
  go_wp2
  go_ret
  exact tg6_2
 have hor_ : ((a0.toList == ([71, 82, 84] : List UInt8)) = true ∧ decide ((b.f2.length : Int) > 0) = false ∧ decide (0 < b.f2.length) = false) ∨ (a0.toList == ([71, 82, 84] : List UInt8)) = false := by
  by_cases c2 : a0.toList = ([71, 82, 84] : List UInt8)
  ·exact tg6_1
  ·exact .inr (beq_eq_false_iff_ne.mpr c2)
 have LR : rd_tm2 k inn L b a0 l1 = some (r, inn', L') := by
  by_cases c2 : a0.toList = ([71, 82, 84] : List UInt8)
  ·rw [if_pos c2, if_neg (fun c3 => g_ ⟨c2, c3⟩)] at H
   exact H
  ·rw [if_neg c2] at H
   exact H
 clear H g_
 have H := LR
 clear LR
 rcases hor_ with ⟨c2b0, c3b0, c3b1⟩ | c2b0
 all_goals
  unfold rd_tm2 at H
  replace H := Option.bind_eq_some_iff.mp H
  obtain ⟨⟨t1, t2⟩, vV, H⟩ := H
  dsimp only at H
  by_cases c5 : t2 = true
  rotate_left
  ·replace c5 := Bool.eq_false_iff.mpr c5
   subst c5
   rw [if_neg (by decide)] at H
   have A5 := am_ vV
   clear vV
   simp only [Option.some.injEq, Prod.mk.injEq] at H
   obtain ⟨rfl, rfl, rfl⟩ := H
   go_enter Tryz.func78, Tryz.ntmps78
   go_wp2_with (first | ((with_reducible refine gate_dst (N := 3) rfl ?_); refine be_ 3 #[.string a0, .slice A1 l1.length c1] 49 ?_; intro gb hgb w1 hbox hb; replace HB := am_ (rd_bs ax28_ (Nat.le_of_lt (blk_lt au6_0)) hb); replace HG := am_ (blk_below au6_0 hb); replace HH := am_ (Kd.H_below au6_3 hb); replace HM := am_ (Kd.S_below au6_5 hb); replace HBL := am_ (Nat.lt_of_lt_of_le HBL.out (hb).size); have BK := am_ hbox; have NB : g ≠ gb := blk_ne HG.out hbox (by decide); have n8 : gb ≠ g := NB.symm; clear hb hbox hgb; obtain ⟨cO, cP, cQ, cR, cS⟩ := c5_ HG.out; have bQ := blk_frozen HG.out 4; have bR := blk_frozen HG.out 3; obtain ⟨cT, cU⟩ := c2_ BK.out; have bS := blk_frozen BK.out 0; have bT := blk_frozen BK.out 1; obtain ⟨fV, fW⟩ := rd_h12 HH fM) | (go_at_call 103; (with_reducible refine (rd_bundle.calls g gbk L.length co A B n inn _ HG.out fM.out zz.out).mono ?_); rintro e w2 ⟨rfl, hd⟩; have hb := hd.below; replace HB := am_ (rd_bs ax28_ (Nat.le_of_lt (blk_lt au6_0)) hb); replace HG := am_ (blk_below au6_0 hb); replace HH := am_ (Kd.H_below au6_3 hb); replace HM := am_ (Kd.S_below au6_5 hb); replace HBL := am_ (Nat.lt_of_lt_of_le HBL.out (hb).size); replace BK := am_ (blk_below au6_2 hb); clear hb hd; clear cO cP cQ cR cS bQ bS cT bR bT cU fV fW; obtain ⟨d7, dF, dG, d8, d9⟩ := c5_ HG.out; have cu := blk_frozen HG.out 4; have cv := blk_frozen HG.out 3; obtain ⟨ec, ed⟩ := c2_ BK.out; have cw := blk_frozen BK.out 0; have cx := blk_frozen BK.out 1; obtain ⟨fX, fY⟩ := rd_h12 HH fM) | (go_at_call 101; (with_reducible refine (F101.calls ?sd1 HC.out A5.out).mono ?_); (case sd1 => exact au6_13); rintro e w3 ⟨v3, rfl, bf, hb⟩; obtain ⟨Ap, cp, rfl⟩ := Kd.R_slice bf; have HP := am_ (Kd.R_reads' bf).2.2; clear bf; replace HB := am_ (rd_bs ax28_ (Nat.le_of_lt (blk_lt au6_0)) hb); replace HG := am_ (blk_below au6_0 hb); replace HH := am_ (Kd.H_below au6_3 hb); replace HM := am_ (Kd.S_below au6_5 hb); replace HBL := am_ (Nat.lt_of_lt_of_le HBL.out (hb).size); replace BK := am_ (blk_below au6_2 hb); clear hb; clear d7 dF dG d8 d9 cu cw ec cv cx ed fX fY; obtain ⟨gO, gP, gQ, gR, gS⟩ := c5_ HG.out; have eK := blk_frozen HG.out 4; have eL := blk_frozen HG.out 3; obtain ⟨gT, gU⟩ := c2_ BK.out; have eM := blk_frozen BK.out 0; have eN := blk_frozen BK.out 1; obtain ⟨nk, nl⟩ := rd_h12 HH fM))
   go_ret
   exact tg6_2
  subst c5
  rw [if_pos rfl] at H
  have A5 := am_ vV
  clear vV
  by_cases c6 : (b.f2.length : Int) = 10
  ·rw [if_pos c6] at H
   have c6b0 : ((b.f2.length : Int) == 10) = true := beq_iff_eq.mpr c6
   have c6b1 : ((b.f2.length : Int) = 10) = True := eq_true c6
   clear c6
   simp only [Option.some.injEq, Prod.mk.injEq] at H
   obtain ⟨rfl, rfl, rfl⟩ := H
   go_enter Tryz.func78, Tryz.ntmps78
   go_wp2_with (first | ((with_reducible refine gate_dst (N := 3) rfl ?_); refine be_ 3 #[.string a0, .slice A1 l1.length c1] 49 ?_; intro gb hgb w1 hbox hb; replace HB := am_ (rd_bs ax28_ (Nat.le_of_lt (blk_lt au6_0)) hb); replace HG := am_ (blk_below au6_0 hb); replace HH := am_ (Kd.H_below au6_3 hb); replace HM := am_ (Kd.S_below au6_5 hb); replace HBL := am_ (Nat.lt_of_lt_of_le HBL.out (hb).size); have BK := am_ hbox; have NB : g ≠ gb := blk_ne HG.out hbox (by decide); have n8 : gb ≠ g := NB.symm; clear hb hbox hgb; obtain ⟨cO, cP, cQ, cR, cS⟩ := c5_ HG.out; have bQ := blk_frozen HG.out 4; have bR := blk_frozen HG.out 3; obtain ⟨cT, cU⟩ := c2_ BK.out; have bS := blk_frozen BK.out 0; have bT := blk_frozen BK.out 1; obtain ⟨fV, fW⟩ := rd_h12 HH fM) | (go_at_call 103; (with_reducible refine (rd_bundle.calls g gbk L.length co A B n inn _ HG.out fM.out zz.out).mono ?_); rintro e w2 ⟨rfl, hd⟩; have hb := hd.below; replace HB := am_ (rd_bs ax28_ (Nat.le_of_lt (blk_lt au6_0)) hb); replace HG := am_ (blk_below au6_0 hb); replace HH := am_ (Kd.H_below au6_3 hb); replace HM := am_ (Kd.S_below au6_5 hb); replace HBL := am_ (Nat.lt_of_lt_of_le HBL.out (hb).size); replace BK := am_ (blk_below au6_2 hb); clear hb hd; clear cO cP cQ cR cS bQ bS cT bR bT cU fV fW; obtain ⟨d7, dF, dG, d8, d9⟩ := c5_ HG.out; have cu := blk_frozen HG.out 4; have cv := blk_frozen HG.out 3; obtain ⟨ec, ed⟩ := c2_ BK.out; have cw := blk_frozen BK.out 0; have cx := blk_frozen BK.out 1; obtain ⟨fX, fY⟩ := rd_h12 HH fM) | (go_at_call 101; (with_reducible refine (F101.calls ?sd1 HC.out A5.out).mono ?_); (case sd1 => exact au6_13); rintro e w3 ⟨v3, rfl, bf, hb⟩; obtain ⟨Ap, cp, rfl⟩ := Kd.R_slice bf; have HP := am_ (Kd.R_reads' bf).2.2; clear bf; replace HB := am_ (rd_bs ax28_ (Nat.le_of_lt (blk_lt au6_0)) hb); replace HG := am_ (blk_below au6_0 hb); replace HH := am_ (Kd.H_below au6_3 hb); replace HM := am_ (Kd.S_below au6_5 hb); replace HBL := am_ (Nat.lt_of_lt_of_le HBL.out (hb).size); replace BK := am_ (blk_below au6_2 hb); clear hb; clear d7 dF dG d8 d9 cu cw ec cv cx ed fX fY; obtain ⟨gO, gP, gQ, gR, gS⟩ := c5_ HG.out; have eK := blk_frozen HG.out 4; have eL := blk_frozen HG.out 3; obtain ⟨gT, gU⟩ := c2_ BK.out; have eM := blk_frozen BK.out 0; have eN := blk_frozen BK.out 1; obtain ⟨nk, nl⟩ := rd_h12 HH fM))
   go_ret
   exact tg6_2
  rw [if_neg c6] at H
  have c6b0 : ((b.f2.length : Int) == 10) = false := beq_eq_false_iff_ne.mpr c6
  clear c6
  by_cases c7 : 0 < (t1.length : Int)
  rotate_left
  ·rw [if_neg c7] at H
   cases H
  rw [if_pos c7] at H
  have c7b0 : decide ((0 : Int) < (t1.length : Int)) = true := decide_eq_true c7
  clear c7
  replace H := Option.bind_eq_some_iff.mp H
  obtain ⟨⟨q1, q2⟩, lx, H⟩ := H
  dsimp only at H
  by_cases c9 : q2 = true
  rotate_left
  ·replace c9 := Bool.eq_false_iff.mpr c9
   subst c9
   rw [if_neg (by decide)] at H
   have A6 := am_ lx
   clear lx
   simp only [Option.some.injEq, Prod.mk.injEq] at H
   obtain ⟨rfl, rfl, rfl⟩ := H
   go_enter Tryz.func78, Tryz.ntmps78
   go_wp2_with (first | ((with_reducible refine gate_dst (N := 3) rfl ?_); refine be_ 3 #[.string a0, .slice A1 l1.length c1] 49 ?_; intro gb hgb w1 hbox hb; replace HB := am_ (rd_bs ax28_ (Nat.le_of_lt (blk_lt au6_0)) hb); replace HG := am_ (blk_below au6_0 hb); replace HH := am_ (Kd.H_below au6_3 hb); replace HM := am_ (Kd.S_below au6_5 hb); replace HBL := am_ (Nat.lt_of_lt_of_le HBL.out (hb).size); have BK := am_ hbox; have NB : g ≠ gb := blk_ne HG.out hbox (by decide); have n8 : gb ≠ g := NB.symm; clear hb hbox hgb; obtain ⟨cO, cP, cQ, cR, cS⟩ := c5_ HG.out; have bQ := blk_frozen HG.out 4; have bR := blk_frozen HG.out 3; obtain ⟨cT, cU⟩ := c2_ BK.out; have bS := blk_frozen BK.out 0; have bT := blk_frozen BK.out 1; obtain ⟨fV, fW⟩ := rd_h12 HH fM) | (go_at_call 103; (with_reducible refine (rd_bundle.calls g gbk L.length co A B n inn _ HG.out fM.out zz.out).mono ?_); rintro e w2 ⟨rfl, hd⟩; have hb := hd.below; replace HB := am_ (rd_bs ax28_ (Nat.le_of_lt (blk_lt au6_0)) hb); replace HG := am_ (blk_below au6_0 hb); replace HH := am_ (Kd.H_below au6_3 hb); replace HM := am_ (Kd.S_below au6_5 hb); replace HBL := am_ (Nat.lt_of_lt_of_le HBL.out (hb).size); replace BK := am_ (blk_below au6_2 hb); clear hb hd; clear cO cP cQ cR cS bQ bS cT bR bT cU fV fW; obtain ⟨d7, dF, dG, d8, d9⟩ := c5_ HG.out; have cu := blk_frozen HG.out 4; have cv := blk_frozen HG.out 3; obtain ⟨ec, ed⟩ := c2_ BK.out; have cw := blk_frozen BK.out 0; have cx := blk_frozen BK.out 1; obtain ⟨fX, fY⟩ := rd_h12 HH fM) | (go_at_call 101; (with_reducible refine (F101.calls ?sd1 HC.out A5.out).mono ?_); (case sd1 => exact au6_13); rintro e w3 ⟨v3, rfl, bf, hb⟩; obtain ⟨Ap, cp, rfl⟩ := Kd.R_slice bf; have HP := am_ (Kd.R_reads' bf).2.2; clear bf; replace HB := am_ (rd_bs ax28_ (Nat.le_of_lt (blk_lt au6_0)) hb); replace HG := am_ (blk_below au6_0 hb); replace HH := am_ (Kd.H_below au6_3 hb); replace HM := am_ (Kd.S_below au6_5 hb); replace HBL := am_ (Nat.lt_of_lt_of_le HBL.out (hb).size); replace BK := am_ (blk_below au6_2 hb); clear hb; clear d7 dF dG d8 d9 cu cw ec cv cx ed fX fY; obtain ⟨gO, gP, gQ, gR, gS⟩ := c5_ HG.out; have eK := blk_frozen HG.out 4; have eL := blk_frozen HG.out 3; obtain ⟨gT, gU⟩ := c2_ BK.out; have eM := blk_frozen BK.out 0; have eN := blk_frozen BK.out 1; obtain ⟨nk, nl⟩ := rd_h12 HH fM; have ni : 0 ≤ (0 : Int) := (by omega); have nj : (0 : Int) < (t1.length : Int) := od_; obtain ⟨F7, e0_, eX⟩ := Kd.at_string HP.out 0 ni nj; cases e0_; have Bc : (0 < t1.length) = True := eq_true (by omega); (try rw [show ((0 : Int)).toNat = 0 from rfl] at eX); (try rw [Addr.add_zero'] at eX); (try simp only [show (1 : Int).toNat = 1 from rfl, Nat.reduceMul, Nat.reduceEqDiff, Go.Addr.add, ↓reduceIte] at eX); replace ni := eq_true ni; replace nj := eq_true nj) | (go_at_call 102; (with_reducible refine (F102.calls ?sd2 A6.out).mono ?_); (case sd2 => exact au6_14); rintro e w4 ⟨rfl, hb⟩; have ly := am_ (Kd.C_below HP.out hb); clear HP; have HP := ly; clear ly; replace HB := am_ (rd_bs ax28_ (Nat.le_of_lt (blk_lt au6_0)) hb); replace HG := am_ (blk_below au6_0 hb); replace HH := am_ (Kd.H_below au6_3 hb); replace HM := am_ (Kd.S_below au6_5 hb); replace HBL := am_ (Nat.lt_of_lt_of_le HBL.out (hb).size); replace BK := am_ (blk_below au6_2 hb); clear hb; clear gO gP gQ gR gS eK eM gT eL eN gU nk nl; obtain ⟨vk, vl, nW, vm, vn⟩ := c5_ HG.out; have mf := blk_frozen HG.out 4; have mg := blk_frozen HG.out 3; obtain ⟨vo, vp⟩ := c2_ BK.out; have mh := blk_frozen BK.out 0; have mi := blk_frozen BK.out 1; obtain ⟨LZ, L0⟩ := rd_h12 HH fM))
   go_ret
   exact tg6_2
  subst c9
  rw [if_pos rfl] at H
  by_cases fS : b.f2.length < 1000000
  rotate_left
  ·rw [if_neg fS] at H
   cases H
  rw [if_pos fS] at H
  have LM := am_ fS
  clear fS
  have A6 := am_ lx
  clear lx
  simp only [Option.some.injEq, Prod.mk.injEq] at H
  obtain ⟨rfl, rfl, rfl⟩ := H
  go_enter Tryz.func78, Tryz.ntmps78
  go_wp2_with (first | ((with_reducible refine gate_dst (N := 3) rfl ?_); refine be_ 3 #[.string a0, .slice A1 l1.length c1] 49 ?_; intro gb hgb w1 hbox hb; replace HB := am_ (rd_bs ax28_ (Nat.le_of_lt (blk_lt au6_0)) hb); replace HG := am_ (blk_below au6_0 hb); replace HH := am_ (Kd.H_below au6_3 hb); replace HM := am_ (Kd.S_below au6_5 hb); replace HBL := am_ (Nat.lt_of_lt_of_le HBL.out (hb).size); have BK := am_ hbox; have NB : g ≠ gb := blk_ne HG.out hbox (by decide); have n8 : gb ≠ g := NB.symm; clear hb hbox hgb; obtain ⟨cO, cP, cQ, cR, cS⟩ := c5_ HG.out; have bQ := blk_frozen HG.out 4; have bR := blk_frozen HG.out 3; obtain ⟨cT, cU⟩ := c2_ BK.out; have bS := blk_frozen BK.out 0; have bT := blk_frozen BK.out 1; obtain ⟨fV, fW⟩ := rd_h12 HH fM) | (go_at_call 103; (with_reducible refine (rd_bundle.calls g gbk L.length co A B n inn _ HG.out fM.out zz.out).mono ?_); rintro e w2 ⟨rfl, hd⟩; have hb := hd.below; replace HB := am_ (rd_bs ax28_ (Nat.le_of_lt (blk_lt au6_0)) hb); replace HG := am_ (blk_below au6_0 hb); replace HH := am_ (Kd.H_below au6_3 hb); replace HM := am_ (Kd.S_below au6_5 hb); replace HBL := am_ (Nat.lt_of_lt_of_le HBL.out (hb).size); replace BK := am_ (blk_below au6_2 hb); clear hb hd; clear cO cP cQ cR cS bQ bS cT bR bT cU fV fW; obtain ⟨d7, dF, dG, d8, d9⟩ := c5_ HG.out; have cu := blk_frozen HG.out 4; have cv := blk_frozen HG.out 3; obtain ⟨ec, ed⟩ := c2_ BK.out; have cw := blk_frozen BK.out 0; have cx := blk_frozen BK.out 1; obtain ⟨fX, fY⟩ := rd_h12 HH fM) | (go_at_call 101; (with_reducible refine (F101.calls ?sd1 HC.out A5.out).mono ?_); (case sd1 => exact au6_13); rintro e w3 ⟨v3, rfl, bf, hb⟩; obtain ⟨Ap, cp, rfl⟩ := Kd.R_slice bf; have HP := am_ (Kd.R_reads' bf).2.2; clear bf; replace HB := am_ (rd_bs ax28_ (Nat.le_of_lt (blk_lt au6_0)) hb); replace HG := am_ (blk_below au6_0 hb); replace HH := am_ (Kd.H_below au6_3 hb); replace HM := am_ (Kd.S_below au6_5 hb); replace HBL := am_ (Nat.lt_of_lt_of_le HBL.out (hb).size); replace BK := am_ (blk_below au6_2 hb); clear hb; clear d7 dF dG d8 d9 cu cw ec cv cx ed fX fY; obtain ⟨gO, gP, gQ, gR, gS⟩ := c5_ HG.out; have eK := blk_frozen HG.out 4; have eL := blk_frozen HG.out 3; obtain ⟨gT, gU⟩ := c2_ BK.out; have eM := blk_frozen BK.out 0; have eN := blk_frozen BK.out 1; obtain ⟨nk, nl⟩ := rd_h12 HH fM; have ni : 0 ≤ (0 : Int) := (by omega); have nj : (0 : Int) < (t1.length : Int) := od_; obtain ⟨F7, e0_, eX⟩ := Kd.at_string HP.out 0 ni nj; cases e0_; have Bc : (0 < t1.length) = True := eq_true (by omega); (try rw [show ((0 : Int)).toNat = 0 from rfl] at eX); (try rw [Addr.add_zero'] at eX); (try simp only [show (1 : Int).toNat = 1 from rfl, Nat.reduceMul, Nat.reduceEqDiff, Go.Addr.add, ↓reduceIte] at eX); replace ni := eq_true ni; replace nj := eq_true nj) | (go_at_call 102; (with_reducible refine (F102.calls ?sd2 A6.out).mono ?_); (case sd2 => exact au6_14); rintro e w4 ⟨rfl, hb⟩; have ly := am_ (Kd.C_below HP.out hb); clear HP; have HP := ly; clear ly; replace HB := am_ (rd_bs ax28_ (Nat.le_of_lt (blk_lt au6_0)) hb); replace HG := am_ (blk_below au6_0 hb); replace HH := am_ (Kd.H_below au6_3 hb); replace HM := am_ (Kd.S_below au6_5 hb); replace HBL := am_ (Nat.lt_of_lt_of_le HBL.out (hb).size); replace BK := am_ (blk_below au6_2 hb); clear hb; clear gO gP gQ gR gS eK eM gT eL eN gU nk nl; obtain ⟨vk, vl, nW, vm, vn⟩ := c5_ HG.out; have mf := blk_frozen HG.out 4; have mg := blk_frozen HG.out 3; obtain ⟨vo, vp⟩ := c2_ BK.out; have mh := blk_frozen BK.out 0; have mi := blk_frozen BK.out 1; obtain ⟨LZ, L0⟩ := rd_h12 HH fM) | ((with_reducible refine gate_builtin (b := .append) (xs := #[.tmp 59, .tmp 62]) rfl ?_); at_builtin; refine Kd.S_append k56 (g + 1) rfl (.tmp 59) (.tmp 62) 51 56 (.agg #[(.int .i64 0), (.slice none 0 0)]) 32 rfl Tryz.underlying51 rd_info85 rfl (by decide) (by omega) (.slice Am b.f2.length cm) b.f2 (⟨q1, []⟩ : S56) [.int .i64 q1, .slice none 0 0] (fun k_ => oki k_ ∨ w4.heap.size ≤ k_) (fun _ => False) rfl rfl ?aP (fun _ h_ => h_.elim) (fun _ h_ => .inr h_) ?aO (Below.refl _ _) ?aS ?aL ?_; (case aP => exact k56_mkM _ _ _ (⟨q1, []⟩ : S56) (Kd.S_nil _ _ _ _ _)); (case aO => exact Kd.S_mono HM.out (fun _ hk_ => ⟨.inl hk_, fun h_ => h_⟩)); (case aS => exact blk_lt HG.out); (case aL => have := LM.out; omega); intro v6 w6 ho hb pG hat; obtain ⟨lx, V2, rfl⟩ := Kd.S_slice ho; rw [show (b.f2 ++ [(⟨q1, []⟩ : S56)]).length = b.f2.length + 1 from by simp] at ho; obtain ⟨⟨F9, pH⟩, n2_⟩ := rd_putM HH.out HM.out (fun k_ hk_ => (HOK.out k_ hk_).2) HBL.out (by omega) (by have := fM.out; omega) (blk_lt HG.out) ho pG; have b8 := am_ (HB.out.trans (hb.mono (Nat.le_succ g))); have dE := am_ ((hb.block g (Nat.lt_succ_self g)).trans HG.out); have n2a_ := am_ n2_; clear n2_; clear HB HG HH HM BK; clear vk vl nW vm vn mf mh vo mg mi vp LZ L0; have HB := b8; have HG := dE; have HS := n2a_; clear b8 dE n2a_ ho hb pG hat; have LV := blk_frozen HG.out 4; have LW := blk_frozen HG.out 3; have RC : w6.cell? ⟨g, 3, none⟩ = some (.slice (some ⟨gbk, 0, none⟩) L.length co) := (blk_cell HG.out 3).trans rfl; have RD : w6.cell? ⟨g, 4, none⟩ = some (.int .i64 inn) := (blk_cell HG.out 4).trans rfl; have hke2' : w6.cell? ⟨gbk, (L.length - 1) * 3 + 2, none⟩ = some (.slice Am b.f2.length cm) := F9; have hkf2' : w6.frozen? ⟨gbk, (L.length - 1) * 3 + 2, none⟩ = false := pH; clear F9 pH; have L4 : g ≠ gbk := (by have := HBG.out; omega); have ZB : gbk ≠ g := L4.symm))
  go_ret
  exact ⟨rfl, (HB.out.setCell (p := ⟨gbk, (L.length - 1) * 3 + 2, none⟩) (by have := HBG.out; show g ≤ gbk; omega) _).setCell (p := ⟨g, 4, none⟩) (Nat.le_refl g) _, _, blk_put (blk_far HG.out (p := ⟨gbk, _, none⟩) L4 _) 4 _ rfl, Kd.S_mono (rd_far HS.out 4 _) (fun _ _ => trivial)⟩
theorem rd_gb {w w1 w2 : World} {row : Option Nat} (h : Below w.heap.size w w1) (k : w1.grownBy w2 row) : w.grownBy w2 row :=
 ⟨by first | exact k.os.trans h.os | exact h.os.trans k.os, by first | exact k.tape.trans h.tape | exact h.tape.trans k.tape, by first | exact k.output.trans h.output | exact h.output.trans k.output, Nat.le_trans h.size k.size, fun i hi hr => (k.block i (Nat.lt_of_lt_of_le hi h.size) hr).trans (h.block i hi)⟩
theorem rd_putB {g gbk gm n c nm cm : Nat} {W w6 : World} {L : List S53} {ms : List S56} {i i2 : Int} {oki pI : Nat → Prop} {f0 f1 m0 : Int} {bd bd' : List S49} {v3 v6 : Value}
  (hH : Kd.H k53 53 W (g + 1) (fun k_ => g + 1 ≤ k_) (.slice (some ⟨gbk, 0, none⟩) n c) L i oki [.int .i64 f0, .int .i64 f1, .slice (some ⟨gm, 0, none⟩) nm cm]) (Iq : Kd.H k56 56 W (g + 1) oki (.slice (some ⟨gm, 0, none⟩) nm cm) ms i2 pI [.int .i64 m0, v3]) (hM : k49.S 49 W (g + 1) pI v3 bd)
  (n9 : ∀ k_, pI k_ → oki k_ ∧ k_ ≠ gm) (hgm : oki gm) (hlt : gm < W.heap.size) (h0 : 0 ≤ i2) (h1 : i2 < nm)
  (hsz : g + 1 ≤ W.heap.size) (ho : k49.S 49 w6 (g + 1) (fun k_ => pI k_ ∨ W.heap.size ≤ k_) v6 bd') (pG : W.grownBy w6 v3.ownBlock) :
  (w6.cell? ⟨gm, i2.toNat * 2 + 1, none⟩ = some v3 ∧ w6.frozen? ⟨gm, i2.toNat * 2 + 1, none⟩ = false) ∧ Kd.S k53 53 (w6.setCell ⟨gm, i2.toNat * 2 + 1, none⟩ v6) (g + 1) (fun k_ => g + 1 ≤ k_) (.slice (some ⟨gbk, 0, none⟩) n c) (L.set i.toNat ⟨f0, f1, ms.set i2.toNat ⟨m0, bd'⟩⟩) := by
 obtain ⟨A6, c6, rfl⟩ := Kd.S_slice ho
 have h6 := Kd.H_step (Kd.H_widen (Kd.H_mono Iq (ok' := fun k_ => oki k_ ∨ W.heap.size ≤ k_) (fun k hk => .inl hk))) (w1 := w6) (fun k _ hn hk => pG.block k hk (fun e_ => hn (.inl ((Kd.S_R hM).1 k e_.symm))))
 obtain ⟨h7, h8⟩ := Kd.H_seg h6 h0 h1 (seg := [.slice A6 bd'.length c6]) (j := 1) (by show 1 + 1 ≤ 2; omega) (by simp [Value.oneCell'])
 have e : w6.setCells gm (i2.toNat * k56.sz + 1) [.slice A6 bd'.length c6] = w6.setCell ⟨gm, i2.toNat * 2 + 1, none⟩ (.slice A6 bd'.length c6) := rfl
 rw [e] at h7 h8
 refine ⟨⟨rd_hcell h6 h0 h1 1 _ rfl, rd_hfr h6 h0 h1 1⟩, ?_⟩
 have vq := Kd.H_back h7 (k56_mkM _ _ _ (⟨m0, bd'⟩ : S56) (Kd.S_step ho (fun k hk hl => h8.block k hl (fun he => by
  have he : k = gm := by injection he
  rcases hk with hk | hk
  ·exact (n9 k hk).2 he
  ·omega)))) (fun k hk => hk.elim .inl (fun h_ => .inr ⟨.inr h_, h_⟩))
 have h9 := Kd.H_step (Kd.H_widen hH) (w1 := w6.setCell ⟨gm, i2.toNat * 2 + 1, none⟩ (.slice A6 bd'.length c6)) (fun k _ hn hk => (h8.block k (Nat.lt_of_lt_of_le hk pG.size) (fun he => hn (.inl (by
  have he : k = gm := by injection he
  rw [he]; exact hgm)))).trans (pG.block k hk (fun e_ => hn (.inl (n9 k ((Kd.S_R hM).1 k e_.symm)).1))))
 exact Kd.H_back h9 (k53_mkM _ _ _ (⟨f0, f1, ms.set i2.toNat ⟨m0, bd'⟩⟩ : S53) vq) (fun k hk => hk.elim .inl (fun h_ => .inr ⟨Nat.le_trans hsz h_, h_⟩))
def rd_t2 (k : Nat) (inn : Int) (L : List S53) (b : S53) (m : S56) (a0 : ByteArray) (l1 : List S91) : Option (Int × Int × List S53) := if a0.toList = ([77, 83, 84] : List UInt8) then ((F80.f k a0 l1 (⟨#[77, 83, 84]⟩ : ByteArray) (m.f1.length : Int) m.f0).bind fun r => some (r, 1, L)) else ((F81.f k a0 l1).bind fun ok => (if ok = true then (if (m.f1.length : Int) = 40 then (some (3, inn, L)) else ((F82.f k a0 l1).bind fun s => (if m.f1.length < 1000000 then (some (0, inn, L.set (L.length - 1) ⟨b.f0, b.f1, b.f2.set (b.f2.length - 1) ⟨m.f0, m.f1 ++ [(⟨s.1, s.2⟩ : S49)]⟩⟩)) else (none)))) else (some (3, inn, L))))
def rd_take.f (k : Nat) (n inn : Int) (L : List S53) (a0 : ByteArray) (l1 : List S91) : Option (Int × Int × List S53) := if inn = 0 then (rd_takeBundle.f k n inn L a0 l1) else (if inn = 1 then (rd_takeMessage.f k inn L a0 l1) else (if inn = 2 then (if 1 ≤ L.length then (if 1 ≤ (L.getD (L.length - 1) z53).f2.length then (rd_t2 k inn L (L.getD (L.length - 1) z53) ((L.getD (L.length - 1) z53).f2.getD ((L.getD (L.length - 1) z53).f2.length - 1) z56) a0 l1) else (none)) else (none)) else (some (3, inn, L))))
theorem rd_take.calls (k g : Nat) (A B : ByteArray) (n inn : Int) (vB : Value) (L : List S53) (a0 : ByteArray) (A1 : Option Addr) (c1 : Nat) (l1 : List S91) (r : Int) (inn' : Int) (L' : List S53) (w0 w : World)
  (u7 : Below w0.heap.size w0 w) (hge : w0.heap.size ≤ g) (hg : w.heap[g]? = some (.cells #[.string A, .string B, .int .i64 n, vB, .int .i64 inn] 75 (0, 0))) (hS : Kd.S k53 53 w (g + 1) (fun _ => True) vB L) (hr : Kd.C k91 w0 A1 l1.length l1) (hc : l1.length ≤ c1) (hT : LaidT true Tryz.prog w0)
  (h : rd_take.f k n inn L a0 l1 = some (r, inn', L')) :
  Calls Tryz.prog 44 #[.pointer (some ⟨g, 0, none⟩), .agg #[.string a0, .slice A1 l1.length c1]] w fun e w' => e = .returned (.int .i64 r) ∧ Below g w w' ∧ ∃ vB', w'.heap[g]? = some (.cells #[.string A, .string B, .int .i64 n, vB', .int .i64 inn'] 75 (0, 0)) ∧ Kd.S k53 53 w' (g + 1) (fun _ => True) vB' L' := by
 have xP := Tryz.underlying75
 have F4 := Tryz.underlying28
 have F6 := Tryz.underlying49
 have F5 := Tryz.underlying53
 have RE := Tryz.underlying56
 have LQ := Tryz.underlying51
 have RF := Tryz.underlying26
 have H := h
 unfold rd_take.f at H
 clear h
 by_cases d0 : inn = 0
 ·rw [if_pos d0] at H
  subst d0
  have HB := am_ (Below.refl g w)
  have Ba := am_ u7
  have HGE := am_ hge
  have HG := am_ hg
  have HS := am_ hS
  have HR := am_ hr
  have HC := am_ hc
  have HT := am_ hT
  have A4 := am_ H
  clear u7 hge hg hS hr hc hT H
  go_enter Tryz.func44, Tryz.ntmps44
  go_wp2_with (first | ((with_reducible refine gate_dst (N := 3) rfl ?_); refine be_ 3 #[.string a0, .slice A1 l1.length c1] 49 ?_; intro gb hgb w1 hbox hb; replace HB := am_ (rd_bs ax28_ (Nat.le_of_lt (blk_lt au6_0)) hb); replace HG := am_ (blk_below au6_0 hb); replace HS := am_ (Kd.S_below au6_4 hb); have BK := am_ hbox; clear hb hbox hgb; obtain ⟨cO, cP, cQ, cR, cS⟩ := c5_ HG.out; obtain ⟨cT, cU⟩ := c2_ BK.out) | (go_at_call 77; (with_reducible refine (rd_takeBundle.calls k g A B n 0 _ L a0 A1 c1 l1 r inn' L' w0 _ (rd_bt Ba.out HGE.out ax28_) HGE.out HG.out HS.out HR.out HC.out HT.out A4.out).mono ?_); rintro e w2 ⟨rfl, hb, vB', xR, vq⟩; replace HB := am_ (HB.out.trans hb); replace HG := am_ xR; replace HS := am_ vq; clear hb xR vq; clear cO cP cQ cR cS cT cU))
  go_ret
  exact tg6_0
 rw [if_neg d0] at H
 have d0b : (inn == 0) = false := beq_eq_false_iff_ne.mpr d0
 by_cases d1 : inn = 1
 ·rw [if_pos d1] at H
  subst d1
  have HB := am_ (Below.refl g w)
  have Ba := am_ u7
  have HGE := am_ hge
  have HG := am_ hg
  have HS := am_ hS
  have HR := am_ hr
  have HC := am_ hc
  have HT := am_ hT
  have A4 := am_ H
  clear u7 hge hg hS hr hc hT H d0
  go_enter Tryz.func44, Tryz.ntmps44
  go_wp2_with (first | ((with_reducible refine gate_dst (N := 3) rfl ?_); refine be_ 3 #[.string a0, .slice A1 l1.length c1] 49 ?_; intro gb hgb w1 hbox hb; replace HB := am_ (rd_bs ax28_ (Nat.le_of_lt (blk_lt au6_0)) hb); replace HG := am_ (blk_below au6_0 hb); replace HS := am_ (Kd.S_below au6_4 hb); have BK := am_ hbox; clear hb hbox hgb; obtain ⟨cO, cP, cQ, cR, cS⟩ := c5_ HG.out; obtain ⟨cT, cU⟩ := c2_ BK.out) | (go_at_call 78; (with_reducible refine (rd_takeMessage.calls k g A B n 1 _ L a0 A1 c1 l1 r inn' L' w0 _ (rd_bt Ba.out HGE.out ax28_) HGE.out HG.out HS.out HR.out HC.out HT.out A4.out).mono ?_); rintro e w2 ⟨rfl, hb, vB', xR, vq⟩; replace HB := am_ (HB.out.trans hb); replace HG := am_ xR; replace HS := am_ vq; clear hb xR vq; clear cO cP cQ cR cS cT cU))
  go_ret
  exact tg6_0
 rw [if_neg d1] at H
 have d1b : (inn == 1) = false := beq_eq_false_iff_ne.mpr d1
 by_cases d2 : inn = 2
 rotate_left
 ·rw [if_neg d2] at H
  have d2b : (inn == 2) = false := beq_eq_false_iff_ne.mpr d2
  simp only [Option.some.injEq, Prod.mk.injEq] at H
  obtain ⟨rfl, rfl, rfl⟩ := H
  have HB := am_ (Below.refl g w)
  have HG := am_ hg
  have HS := am_ hS
  clear u7 hge hg hS hr hc hT d0 d1 d2
  go_enter Tryz.func44, Tryz.ntmps44
  go_wp2_with (first | ((with_reducible refine gate_dst (N := 3) rfl ?_); refine be_ 3 #[.string a0, .slice A1 l1.length c1] 49 ?_; intro gb hgb w1 hbox hb; replace HB := am_ (rd_bs ax28_ (Nat.le_of_lt (blk_lt au6_0)) hb); replace HG := am_ (blk_below au6_0 hb); replace HS := am_ (Kd.S_below au6_4 hb); have BK := am_ hbox; clear hb hbox hgb; obtain ⟨cO, cP, cQ, cR, cS⟩ := c5_ HG.out; obtain ⟨cT, cU⟩ := c2_ BK.out))
  go_ret
  exact tg6_0
 rw [if_pos d2] at H
 clear d0 d1
 subst d2
 by_cases Bd : 1 ≤ L.length
 rotate_left
 ·rw [if_neg Bd] at H
  cases H
 rw [if_pos Bd] at H
 obtain ⟨Ao, co, rfl⟩ := Kd.S_slice hS
 obtain ⟨ad, A7, c7, e7, nF, rV, D0, D1⟩ := at_T53 ((Kd.S_reads' hS).2.2) ((L.length - 1 : Nat) : Int) (by omega) (by omega)
 cases e7
 obtain ⟨gbk, hgk⟩ : ∃ g, ad = ⟨g, 0, none⟩ := Kd.R_head (Kd.S_R hS)
 subst hgk
 clear nF rV D0 D1
 have hM1 := (Kd.S_reads' hS).2.2.2.1
 have LY := Kd.S_mono (Kd.S_bound hS) (ok' := fun k_ => g + 1 ≤ k_) (fun k_ hk_ => hk_.2.1)
 obtain ⟨oki, ce, hcl, hM, hcc, hfr, hoki, hH⟩ := Kd.S_elem LY z53 ((L.length - 1 : Nat) : Int) (by omega) (by omega)
 obtain ⟨v2, rfl, hR⟩ := k53_openM hM
 have HBm : L.getD (((L.length - 1 : Nat) : Int).toNat) z53 = L.getD (L.length - 1) z53 := rfl
 rw [HBm] at hR hH
 have HLB := am_ (show L.set (L.length - 1) (L.getD (L.length - 1) z53) = L from by
  rw [List.getD_eq_getElem?_getD, List.getElem?_eq_getElem (by omega), Option.getD_some, List.set_getElem_self])
 generalize L.getD (L.length - 1) z53 = b at H hR hH HLB
 by_cases c2_ : 1 ≤ b.f2.length
 rotate_left
 ·rw [if_neg c2_] at H
  cases H
 rw [if_pos c2_] at H
 obtain ⟨Am, cm, rfl⟩ := Kd.S_slice hR
 obtain ⟨ad, A7, c7, e7, nF, rV, D0, D1⟩ := at_T56 ((Kd.S_reads' hR).2.2) ((b.f2.length - 1 : Nat) : Int) (by omega) (by omega)
 cases e7
 obtain ⟨gm, hgk⟩ : ∃ g, ad = ⟨g, 0, none⟩ := Kd.R_head (Kd.S_R hR)
 subst hgk
 clear nF rV D0 D1
 have hM2 := (Kd.S_reads' hR).2.2.2.1
 have hgm : oki gm := (Kd.S_R hR).1 gm rfl
 obtain ⟨pI, ce2, RG, hN, L5, RH, n9, Iq⟩ := Kd.S_elem hR z56 ((b.f2.length - 1 : Nat) : Int) (by omega) (by omega)
 obtain ⟨v3, rfl, L6⟩ := k56_openM hN
 have lY : gm < w.heap.size := World.block_lt_of_cell? w ⟨gm, _, none⟩ (L5 0 _ rfl)
 have HBn : b.f2.getD (((b.f2.length - 1 : Nat) : Int).toNat) z56 = b.f2.getD (b.f2.length - 1) z56 := rfl
 rw [HBn] at L6 Iq
 have HLM := am_ (show b.f2.set (b.f2.length - 1) (b.f2.getD (b.f2.length - 1) z56) = b.f2 from by
  rw [List.getD_eq_getElem?_getD, List.getElem?_eq_getElem (by omega), Option.getD_some, List.set_getElem_self])
 generalize b.f2.getD (b.f2.length - 1) z56 = m at H L6 Iq HLM
 obtain ⟨An, cn, rfl⟩ := Kd.S_slice L6
 have HB := am_ (Below.refl g w)
 have Ba := am_ u7
 have HGE := am_ hge
 have HG := am_ hg
 have HH := am_ hH
 have ez := am_ Iq
 have lw := am_ L6
 have HOK := am_ hoki
 have RI := am_ n9
 have HGM := am_ hgm
 have dl := am_ lY
 have zz := am_ hM1
 have OJ := am_ hM2
 have fM := am_ Bd
 have d6 := am_ c2_
 have HR := am_ hr
 have HC := am_ hc
 have HT := am_ hT
 clear u7 hge hg hS LY hr hc hT hcl hcc hfr hoki hH hM hR hM1 Bd HBm hM2 hgm RG hN L5 RH n9 Iq L6 lY HBn c2_
 unfold rd_t2 at H
 by_cases c3 : a0.toList = ([77, 83, 84] : List UInt8)
 ·rw [if_pos c3] at H
  have c3b0 : (a0.toList == ([77, 83, 84] : List UInt8)) = true := beq_iff_eq.mpr c3
  clear c3
  replace H := Option.bind_eq_some_iff.mp H
  obtain ⟨V1, u9, H⟩ := H
  have A4 := am_ u9
  clear u9
  simp only [Option.some.injEq, Prod.mk.injEq] at H
  obtain ⟨rfl, rfl, rfl⟩ := H
  go_enter Tryz.func44, Tryz.ntmps44
  go_wp2_with (first | ((with_reducible refine gate_dst (N := 3) rfl ?_); refine be_ 3 #[.string a0, .slice A1 l1.length c1] 49 ?_; intro gb hgb w1 hbox hb; replace HB := am_ (rd_bs ax28_ (Nat.le_of_lt (blk_lt au6_0)) hb); replace HG := am_ (blk_below au6_0 hb); replace HH := am_ (Kd.H_below au6_3 hb); replace ez := am_ (Kd.H_below au6_6 hb); replace lw := am_ (Kd.S_below au6_7 hb); replace dl := am_ (Nat.lt_of_lt_of_le dl.out (hb).size); have BK := am_ hbox; have NB : g ≠ gb := blk_ne HG.out hbox (by decide); have n8 : gb ≠ g := NB.symm; clear hb hbox hgb; obtain ⟨cO, cP, cQ, cR, cS⟩ := c5_ HG.out; have bQ := blk_frozen HG.out 4; have bR := blk_frozen HG.out 3; obtain ⟨cT, cU⟩ := c2_ BK.out; have bS := blk_frozen BK.out 0; have bT := blk_frozen BK.out 1; have fV : w1.cell? ⟨gm, (b.f2.length - 1) * 2, none⟩ = some (.int .i64 m.f0) := rd_hcell ez.out (by omega) (by have := d6.out; omega) 0 _ rfl; have fW : w1.cell? ⟨gm, (b.f2.length - 1) * 2 + 1, none⟩ = some (.slice An m.f1.length cn) := rd_hcell ez.out (by omega) (by have := d6.out; omega) 1 _ rfl) | (go_at_call 79; have hkc : w1.cell? ⟨gbk, (L.length - 1) * 3 + 2, none⟩ = some (.slice (some ⟨gm, 0, none⟩) b.f2.length cm) := rd_hcell HH.out (by omega) (by have := fM.out; omega) 2 _ rfl; (with_reducible refine (rd_message.calls g gbk L.length co gm b.f2.length cm A B n 2 _ HG.out fM.out zz.out hkc d6.out OJ.out).mono ?_); clear hkc; rintro e w2 ⟨rfl, hd⟩; have hb := hd.below; replace HB := am_ (rd_bs ax28_ (Nat.le_of_lt (blk_lt au6_0)) hb); replace HG := am_ (blk_below au6_0 hb); replace HH := am_ (Kd.H_below au6_3 hb); replace ez := am_ (Kd.H_below au6_6 hb); replace lw := am_ (Kd.S_below au6_7 hb); replace dl := am_ (Nat.lt_of_lt_of_le dl.out (hb).size); replace BK := am_ (blk_below au6_2 hb); clear hb hd; clear cO cP cQ cR cS bQ bS cT bR bT cU fV fW; obtain ⟨d7, dF, dG, d8, d9⟩ := c5_ HG.out; have cu := blk_frozen HG.out 4; have cv := blk_frozen HG.out 3; obtain ⟨ec, ed⟩ := c2_ BK.out; have cw := blk_frozen BK.out 0; have cx := blk_frozen BK.out 1; have fX : w2.cell? ⟨gm, (b.f2.length - 1) * 2, none⟩ = some (.int .i64 m.f0) := rd_hcell ez.out (by omega) (by have := d6.out; omega) 0 _ rfl; have fY : w2.cell? ⟨gm, (b.f2.length - 1) * 2 + 1, none⟩ = some (.slice An m.f1.length cn) := rd_hcell ez.out (by omega) (by have := d6.out; omega) 1 _ rfl))
  clear d7 dF dG d8 d9 cu cw ec cv cx ed fX fY
  have b8 := am_ (Below.setCell HB.out (p := ⟨g, 4, none⟩) (Nat.le_refl g) (.int .i64 1))
  have dE := am_ (show (w2.setCell ⟨g, 4, none⟩ (.int .i64 1)).heap[g]? = some (.cells #[.string A, .string B, .int .i64 n, .slice (some ⟨gbk, 0, none⟩) L.length co, .int .i64 1] 75 (0, 0)) from blk_put HG.out 4 _ rfl)
  have n2_ := am_ (Kd.H_far (p := ⟨g, 4, none⟩) HH.out (fun k_ hk_ => by show k_ ≠ g; omega) (.int .i64 1))
  have mP := am_ (Kd.H_far (p := ⟨g, 4, none⟩) ez.out (fun k_ hk_ => by have := (HOK.out k_ hk_).1; show k_ ≠ g; omega) (.int .i64 1))
  have lh := am_ (rd_far lw.out 4 (.int .i64 1))
  have ll := am_ (show gm < (w2.setCell ⟨g, 4, none⟩ (.int .i64 1)).heap.size from by simpa [World.setCell] using dl.out)
  have d5 := am_ (blk_far (p := ⟨g, 4, none⟩) BK.out n8 (.int .i64 1))
  clear HB HG HH ez lw dl BK
  generalize w2.setCell ⟨g, 4, none⟩ (.int .i64 1) = w2 at b8 dE n2_ lh ll mP d5 ⊢
  have HB := b8
  have HG := dE
  have HH := n2_
  have ez := mP
  have lw := lh
  have dl := ll
  have BK := d5
  clear b8 dE n2_ lh ll mP d5
  refine start_ (n := 12) (S := fun w' => w'.cell? ⟨gb, 0, none⟩ = some (.string a0) ∧ w'.cell? ⟨gb, 1, none⟩ = some (.slice A1 l1.length c1) ∧ w'.cell? ⟨gm, (b.f2.length - 1) * 2, none⟩ = some (.int .i64 m.f0) ∧ w'.cell? ⟨gm, (b.f2.length - 1) * 2 + 1, none⟩ = some (.slice An m.f1.length cn)) (ds := []) (bs 12 0) (by kernel_rfl) rfl rfl ⟨((blk_cell BK.out 0).trans rfl), ((blk_cell BK.out 1).trans rfl), (rd_hcell ez.out (by omega) (by have := d6.out; omega) 0 _ rfl), (rd_hcell ez.out (by omega) (by have := d6.out; omega) 1 _ rfl)⟩ (fun hHeld => ?_)
  refine pk_ 1 31 (bs 12 2) ?_ rfl rfl
  refine pk_ 2 32 (bs 12 6) ?_ rfl rfl
  refine pk_ 3 33 (bs 12 14) ?_ rfl rfl
  refine pk_ 6 36 (bs 12 78) ?_ rfl rfl
  refine pk_ 7 37 (bs 12 206) ?_ rfl rfl
  refine pk_ 8 38 (bs 12 462) ?_ rfl rfl
  refine take_ (i := 0) (N := some 30) (v := ?_) (a' := ?_) (bs 12 463) rfl rfl (by kernel_rfl) (fun _ _ _ h => h) (Or.inl ⟨by rfl, ?_⟩) hHeld ?_ ?_
  rotate_left
  ·rintro w' ⟨s0, s1, s2, s3⟩
   go_simp
   with_reducible rfl
  rotate_left
  ·simp only [Act.put, List.setIfInBounds_toArray, List.set_cons_zero, List.set_cons_succ, i64_w, i32_w]
   rfl
  refine take_ (i := 4) (N := some 34) (v := ?_) (a' := ?_) (bs 12 479) rfl rfl (by kernel_rfl) (fun _ _ _ h => h) (Or.inl ⟨by rfl, ?_⟩) hHeld ?_ ?_
  rotate_left
  ·rintro w' ⟨s0, s1, s2, s3⟩
   go_simp
   with_reducible rfl
  rotate_left
  ·simp only [Act.put, List.setIfInBounds_toArray, List.set_cons_zero, List.set_cons_succ, i64_w, i32_w]
   rfl
  refine pk_ 5 35 (bs 12 511) ?_ rfl rfl
  refine take_ (i := 9) (N := some 39) (v := ?_) (a' := ?_) (bs 12 1023) rfl rfl (by kernel_rfl) (fun _ _ _ h => h) (Or.inl ⟨by rfl, ?_⟩) hHeld ?_ ?_
  rotate_left
  ·rintro w' ⟨s0, s1, s2, s3⟩
   go_simp
   with_reducible rfl
  rotate_left
  ·simp only [Act.put, List.setIfInBounds_toArray, List.set_cons_zero, List.set_cons_succ, i64_w, i32_w]
   rfl
  refine one_ (i := 10) (N := some 40) (bs 12 2047) rfl rfl (by kernel_rfl) (by decide) (fun K hK => ?_)
  refine goes_ Tryz.func80 (by kernel_rfl) rfl #[.agg #[.string a0, .slice A1 l1.length c1], .string (⟨#[77, 83, 84]⟩ : ByteArray), .int .i64 (m.f1.length : Int), .int .i64 m.f0] (by rfl) rfl rfl au6_21 ?_
  with_reducible refine (F80.calls ?sd1 HC.out ?sd2 A4.out).mono ?_
  (case sd1 => exact au6_13)
  (case sd2 => exact au6_14)
  rintro e w3 ⟨rfl, hb⟩
  have pD := pw_cell_below hb hHeld.1
  have pE := pw_cell_below hb hHeld.2.1
  have pF := pw_cell_below hb hHeld.2.2.1
  have RJ := pw_cell_below hb hHeld.2.2.2
  refine ⟨_, rfl, ?_⟩
  replace HB := am_ (rd_bs ax28_ (Nat.le_of_lt (blk_lt au6_0)) hb); replace HG := am_ (blk_below au6_0 hb); replace HH := am_ (Kd.H_below au6_3 hb); replace ez := am_ (Kd.H_below au6_6 hb); replace lw := am_ (Kd.S_below au6_7 hb); replace dl := am_ (Nat.lt_of_lt_of_le dl.out (hb).size); replace BK := am_ (blk_below au6_2 hb)
  clear hb
  refine hK.out _ _ ⟨pD, pE, pF, RJ⟩ (fun hHeld => ?_)
  clear hK K
  refine no_ 40 ?_
  refine pk_ 11 4 (bs 12 4095) ?_ rfl rfl
  refine done_ (by kernel_rfl) ?_
  go_wp2
  go_ret
  exact ⟨rfl, HB.out, _, HG.out, au6_9⟩
 rw [if_neg c3] at H
 have c3b0 : (a0.toList == ([77, 83, 84] : List UInt8)) = false := beq_eq_false_iff_ne.mpr c3
 clear c3
 replace H := Option.bind_eq_some_iff.mp H
 obtain ⟨ZC, vV, H⟩ := H
 have A5 := am_ vV
 clear vV
 by_cases c5 : ZC = true
 rotate_left
 ·replace c5 := Bool.eq_false_iff.mpr c5
  subst c5
  rw [if_neg (by decide)] at H
  simp only [Option.some.injEq, Prod.mk.injEq] at H
  obtain ⟨rfl, rfl, rfl⟩ := H
  go_enter Tryz.func44, Tryz.ntmps44
  go_wp2_with (first | ((with_reducible refine gate_dst (N := 3) rfl ?_); refine be_ 3 #[.string a0, .slice A1 l1.length c1] 49 ?_; intro gb hgb w1 hbox hb; replace HB := am_ (rd_bs ax28_ (Nat.le_of_lt (blk_lt au6_0)) hb); replace HG := am_ (blk_below au6_0 hb); replace HH := am_ (Kd.H_below au6_3 hb); replace ez := am_ (Kd.H_below au6_6 hb); replace lw := am_ (Kd.S_below au6_7 hb); replace dl := am_ (Nat.lt_of_lt_of_le dl.out (hb).size); have BK := am_ hbox; have NB : g ≠ gb := blk_ne HG.out hbox (by decide); have n8 : gb ≠ g := NB.symm; clear hb hbox hgb; obtain ⟨cO, cP, cQ, cR, cS⟩ := c5_ HG.out; have bQ := blk_frozen HG.out 4; have bR := blk_frozen HG.out 3; obtain ⟨cT, cU⟩ := c2_ BK.out; have bS := blk_frozen BK.out 0; have bT := blk_frozen BK.out 1; have fV : w1.cell? ⟨gm, (b.f2.length - 1) * 2, none⟩ = some (.int .i64 m.f0) := rd_hcell ez.out (by omega) (by have := d6.out; omega) 0 _ rfl; have fW : w1.cell? ⟨gm, (b.f2.length - 1) * 2 + 1, none⟩ = some (.slice An m.f1.length cn) := rd_hcell ez.out (by omega) (by have := d6.out; omega) 1 _ rfl) | (go_at_call 79; have hkc : w1.cell? ⟨gbk, (L.length - 1) * 3 + 2, none⟩ = some (.slice (some ⟨gm, 0, none⟩) b.f2.length cm) := rd_hcell HH.out (by omega) (by have := fM.out; omega) 2 _ rfl; (with_reducible refine (rd_message.calls g gbk L.length co gm b.f2.length cm A B n 2 _ HG.out fM.out zz.out hkc d6.out OJ.out).mono ?_); clear hkc; rintro e w2 ⟨rfl, hd⟩; have hb := hd.below; replace HB := am_ (rd_bs ax28_ (Nat.le_of_lt (blk_lt au6_0)) hb); replace HG := am_ (blk_below au6_0 hb); replace HH := am_ (Kd.H_below au6_3 hb); replace ez := am_ (Kd.H_below au6_6 hb); replace lw := am_ (Kd.S_below au6_7 hb); replace dl := am_ (Nat.lt_of_lt_of_le dl.out (hb).size); replace BK := am_ (blk_below au6_2 hb); clear hb hd; clear cO cP cQ cR cS bQ bS cT bR bT cU fV fW; obtain ⟨d7, dF, dG, d8, d9⟩ := c5_ HG.out; have cu := blk_frozen HG.out 4; have cv := blk_frozen HG.out 3; obtain ⟨ec, ed⟩ := c2_ BK.out; have cw := blk_frozen BK.out 0; have cx := blk_frozen BK.out 1; have fX : w2.cell? ⟨gm, (b.f2.length - 1) * 2, none⟩ = some (.int .i64 m.f0) := rd_hcell ez.out (by omega) (by have := d6.out; omega) 0 _ rfl; have fY : w2.cell? ⟨gm, (b.f2.length - 1) * 2 + 1, none⟩ = some (.slice An m.f1.length cn) := rd_hcell ez.out (by omega) (by have := d6.out; omega) 1 _ rfl) | (go_at_call 81; (with_reducible refine (F81.calls ?sd1 HC.out A5.out).mono ?_); (case sd1 => exact au6_13); rintro e w3 ⟨rfl, hb⟩; replace HB := am_ (rd_bs ax28_ (Nat.le_of_lt (blk_lt au6_0)) hb); replace HG := am_ (blk_below au6_0 hb); replace HH := am_ (Kd.H_below au6_3 hb); replace ez := am_ (Kd.H_below au6_6 hb); replace lw := am_ (Kd.S_below au6_7 hb); replace dl := am_ (Nat.lt_of_lt_of_le dl.out (hb).size); replace BK := am_ (blk_below au6_2 hb); clear hb; clear d7 dF dG d8 d9 cu cw ec cv cx ed fX fY; obtain ⟨gO, gP, gQ, gR, gS⟩ := c5_ HG.out; have eK := blk_frozen HG.out 4; have eL := blk_frozen HG.out 3; obtain ⟨gT, gU⟩ := c2_ BK.out; have eM := blk_frozen BK.out 0; have eN := blk_frozen BK.out 1; have nk : w3.cell? ⟨gm, (b.f2.length - 1) * 2, none⟩ = some (.int .i64 m.f0) := rd_hcell ez.out (by omega) (by have := d6.out; omega) 0 _ rfl; have nl : w3.cell? ⟨gm, (b.f2.length - 1) * 2 + 1, none⟩ = some (.slice An m.f1.length cn) := rd_hcell ez.out (by omega) (by have := d6.out; omega) 1 _ rfl))
  go_ret
  exact ⟨rfl, HB.out, _, HG.out, au6_9⟩
 subst c5
 rw [if_pos rfl] at H
 by_cases c6 : (m.f1.length : Int) = 40
 ·rw [if_pos c6] at H
  have c6b0 : ((m.f1.length : Int) == 40) = true := beq_iff_eq.mpr c6
  have c6b1 : ((m.f1.length : Int) = 40) = True := eq_true c6
  clear c6
  simp only [Option.some.injEq, Prod.mk.injEq] at H
  obtain ⟨rfl, rfl, rfl⟩ := H
  go_enter Tryz.func44, Tryz.ntmps44
  go_wp2_with (first | ((with_reducible refine gate_dst (N := 3) rfl ?_); refine be_ 3 #[.string a0, .slice A1 l1.length c1] 49 ?_; intro gb hgb w1 hbox hb; replace HB := am_ (rd_bs ax28_ (Nat.le_of_lt (blk_lt au6_0)) hb); replace HG := am_ (blk_below au6_0 hb); replace HH := am_ (Kd.H_below au6_3 hb); replace ez := am_ (Kd.H_below au6_6 hb); replace lw := am_ (Kd.S_below au6_7 hb); replace dl := am_ (Nat.lt_of_lt_of_le dl.out (hb).size); have BK := am_ hbox; have NB : g ≠ gb := blk_ne HG.out hbox (by decide); have n8 : gb ≠ g := NB.symm; clear hb hbox hgb; obtain ⟨cO, cP, cQ, cR, cS⟩ := c5_ HG.out; have bQ := blk_frozen HG.out 4; have bR := blk_frozen HG.out 3; obtain ⟨cT, cU⟩ := c2_ BK.out; have bS := blk_frozen BK.out 0; have bT := blk_frozen BK.out 1; have fV : w1.cell? ⟨gm, (b.f2.length - 1) * 2, none⟩ = some (.int .i64 m.f0) := rd_hcell ez.out (by omega) (by have := d6.out; omega) 0 _ rfl; have fW : w1.cell? ⟨gm, (b.f2.length - 1) * 2 + 1, none⟩ = some (.slice An m.f1.length cn) := rd_hcell ez.out (by omega) (by have := d6.out; omega) 1 _ rfl) | (go_at_call 79; have hkc : w1.cell? ⟨gbk, (L.length - 1) * 3 + 2, none⟩ = some (.slice (some ⟨gm, 0, none⟩) b.f2.length cm) := rd_hcell HH.out (by omega) (by have := fM.out; omega) 2 _ rfl; (with_reducible refine (rd_message.calls g gbk L.length co gm b.f2.length cm A B n 2 _ HG.out fM.out zz.out hkc d6.out OJ.out).mono ?_); clear hkc; rintro e w2 ⟨rfl, hd⟩; have hb := hd.below; replace HB := am_ (rd_bs ax28_ (Nat.le_of_lt (blk_lt au6_0)) hb); replace HG := am_ (blk_below au6_0 hb); replace HH := am_ (Kd.H_below au6_3 hb); replace ez := am_ (Kd.H_below au6_6 hb); replace lw := am_ (Kd.S_below au6_7 hb); replace dl := am_ (Nat.lt_of_lt_of_le dl.out (hb).size); replace BK := am_ (blk_below au6_2 hb); clear hb hd; clear cO cP cQ cR cS bQ bS cT bR bT cU fV fW; obtain ⟨d7, dF, dG, d8, d9⟩ := c5_ HG.out; have cu := blk_frozen HG.out 4; have cv := blk_frozen HG.out 3; obtain ⟨ec, ed⟩ := c2_ BK.out; have cw := blk_frozen BK.out 0; have cx := blk_frozen BK.out 1; have fX : w2.cell? ⟨gm, (b.f2.length - 1) * 2, none⟩ = some (.int .i64 m.f0) := rd_hcell ez.out (by omega) (by have := d6.out; omega) 0 _ rfl; have fY : w2.cell? ⟨gm, (b.f2.length - 1) * 2 + 1, none⟩ = some (.slice An m.f1.length cn) := rd_hcell ez.out (by omega) (by have := d6.out; omega) 1 _ rfl) | (go_at_call 81; (with_reducible refine (F81.calls ?sd1 HC.out A5.out).mono ?_); (case sd1 => exact au6_13); rintro e w3 ⟨rfl, hb⟩; replace HB := am_ (rd_bs ax28_ (Nat.le_of_lt (blk_lt au6_0)) hb); replace HG := am_ (blk_below au6_0 hb); replace HH := am_ (Kd.H_below au6_3 hb); replace ez := am_ (Kd.H_below au6_6 hb); replace lw := am_ (Kd.S_below au6_7 hb); replace dl := am_ (Nat.lt_of_lt_of_le dl.out (hb).size); replace BK := am_ (blk_below au6_2 hb); clear hb; clear d7 dF dG d8 d9 cu cw ec cv cx ed fX fY; obtain ⟨gO, gP, gQ, gR, gS⟩ := c5_ HG.out; have eK := blk_frozen HG.out 4; have eL := blk_frozen HG.out 3; obtain ⟨gT, gU⟩ := c2_ BK.out; have eM := blk_frozen BK.out 0; have eN := blk_frozen BK.out 1; have nk : w3.cell? ⟨gm, (b.f2.length - 1) * 2, none⟩ = some (.int .i64 m.f0) := rd_hcell ez.out (by omega) (by have := d6.out; omega) 0 _ rfl; have nl : w3.cell? ⟨gm, (b.f2.length - 1) * 2 + 1, none⟩ = some (.slice An m.f1.length cn) := rd_hcell ez.out (by omega) (by have := d6.out; omega) 1 _ rfl))
  go_ret
  exact ⟨rfl, HB.out, _, HG.out, au6_9⟩
 rw [if_neg c6] at H
 have c6b0 : ((m.f1.length : Int) == 40) = false := beq_eq_false_iff_ne.mpr c6
 clear c6
 replace H := Option.bind_eq_some_iff.mp H
 obtain ⟨⟨s1, s2⟩, lx, H⟩ := H
 have A6 := am_ lx
 clear lx
 dsimp only at H
 by_cases fS : m.f1.length < 1000000
 rotate_left
 ·rw [if_neg fS] at H
  cases H
 rw [if_pos fS] at H
 have LM := am_ fS
 clear fS
 simp only [Option.some.injEq, Prod.mk.injEq] at H
 obtain ⟨rfl, rfl, rfl⟩ := H
 go_enter Tryz.func44, Tryz.ntmps44
 go_wp2_with (first | ((with_reducible refine gate_dst (N := 3) rfl ?_); refine be_ 3 #[.string a0, .slice A1 l1.length c1] 49 ?_; intro gb hgb w1 hbox hb; replace HB := am_ (rd_bs ax28_ (Nat.le_of_lt (blk_lt au6_0)) hb); replace HG := am_ (blk_below au6_0 hb); replace HH := am_ (Kd.H_below au6_3 hb); replace ez := am_ (Kd.H_below au6_6 hb); replace lw := am_ (Kd.S_below au6_7 hb); replace dl := am_ (Nat.lt_of_lt_of_le dl.out (hb).size); have BK := am_ hbox; have NB : g ≠ gb := blk_ne HG.out hbox (by decide); have n8 : gb ≠ g := NB.symm; clear hb hbox hgb; obtain ⟨cO, cP, cQ, cR, cS⟩ := c5_ HG.out; have bQ := blk_frozen HG.out 4; have bR := blk_frozen HG.out 3; obtain ⟨cT, cU⟩ := c2_ BK.out; have bS := blk_frozen BK.out 0; have bT := blk_frozen BK.out 1; have fV : w1.cell? ⟨gm, (b.f2.length - 1) * 2, none⟩ = some (.int .i64 m.f0) := rd_hcell ez.out (by omega) (by have := d6.out; omega) 0 _ rfl; have fW : w1.cell? ⟨gm, (b.f2.length - 1) * 2 + 1, none⟩ = some (.slice An m.f1.length cn) := rd_hcell ez.out (by omega) (by have := d6.out; omega) 1 _ rfl) | (go_at_call 79; have hkc : w1.cell? ⟨gbk, (L.length - 1) * 3 + 2, none⟩ = some (.slice (some ⟨gm, 0, none⟩) b.f2.length cm) := rd_hcell HH.out (by omega) (by have := fM.out; omega) 2 _ rfl; (with_reducible refine (rd_message.calls g gbk L.length co gm b.f2.length cm A B n 2 _ HG.out fM.out zz.out hkc d6.out OJ.out).mono ?_); clear hkc; rintro e w2 ⟨rfl, hd⟩; have hb := hd.below; replace HB := am_ (rd_bs ax28_ (Nat.le_of_lt (blk_lt au6_0)) hb); replace HG := am_ (blk_below au6_0 hb); replace HH := am_ (Kd.H_below au6_3 hb); replace ez := am_ (Kd.H_below au6_6 hb); replace lw := am_ (Kd.S_below au6_7 hb); replace dl := am_ (Nat.lt_of_lt_of_le dl.out (hb).size); replace BK := am_ (blk_below au6_2 hb); clear hb hd; clear cO cP cQ cR cS bQ bS cT bR bT cU fV fW; obtain ⟨d7, dF, dG, d8, d9⟩ := c5_ HG.out; have cu := blk_frozen HG.out 4; have cv := blk_frozen HG.out 3; obtain ⟨ec, ed⟩ := c2_ BK.out; have cw := blk_frozen BK.out 0; have cx := blk_frozen BK.out 1; have fX : w2.cell? ⟨gm, (b.f2.length - 1) * 2, none⟩ = some (.int .i64 m.f0) := rd_hcell ez.out (by omega) (by have := d6.out; omega) 0 _ rfl; have fY : w2.cell? ⟨gm, (b.f2.length - 1) * 2 + 1, none⟩ = some (.slice An m.f1.length cn) := rd_hcell ez.out (by omega) (by have := d6.out; omega) 1 _ rfl) | (go_at_call 81; (with_reducible refine (F81.calls ?sd1 HC.out A5.out).mono ?_); (case sd1 => exact au6_13); rintro e w3 ⟨rfl, hb⟩; replace HB := am_ (rd_bs ax28_ (Nat.le_of_lt (blk_lt au6_0)) hb); replace HG := am_ (blk_below au6_0 hb); replace HH := am_ (Kd.H_below au6_3 hb); replace ez := am_ (Kd.H_below au6_6 hb); replace lw := am_ (Kd.S_below au6_7 hb); replace dl := am_ (Nat.lt_of_lt_of_le dl.out (hb).size); replace BK := am_ (blk_below au6_2 hb); clear hb; clear d7 dF dG d8 d9 cu cw ec cv cx ed fX fY; obtain ⟨gO, gP, gQ, gR, gS⟩ := c5_ HG.out; have eK := blk_frozen HG.out 4; have eL := blk_frozen HG.out 3; obtain ⟨gT, gU⟩ := c2_ BK.out; have eM := blk_frozen BK.out 0; have eN := blk_frozen BK.out 1; have nk : w3.cell? ⟨gm, (b.f2.length - 1) * 2, none⟩ = some (.int .i64 m.f0) := rd_hcell ez.out (by omega) (by have := d6.out; omega) 0 _ rfl; have nl : w3.cell? ⟨gm, (b.f2.length - 1) * 2 + 1, none⟩ = some (.slice An m.f1.length cn) := rd_hcell ez.out (by omega) (by have := d6.out; omega) 1 _ rfl))
 clear gO gP gQ gR gS eK eM gT eL eN gU nk nl
 refine start_ (n := 12) (S := fun w' => w'.cell? ⟨gb, 0, none⟩ = some (.string a0) ∧ w'.cell? ⟨gb, 1, none⟩ = some (.slice A1 l1.length c1) ∧ w'.cell? ⟨gm, (b.f2.length - 1) * 2 + 1, none⟩ = some (.slice An m.f1.length cn)) (ds := [8, 11]) (bs 12 0) (by kernel_rfl) rfl rfl ⟨((blk_cell BK.out 0).trans rfl), ((blk_cell BK.out 1).trans rfl), (rd_hcell ez.out (by omega) (by have := d6.out; omega) 1 _ rfl)⟩ (fun hHeld => ?_)
 have b8 := am_ (below_drew HB.out)
 have dE := am_ (blk_drew HG.out)
 have n2_ := am_ (Kd.H_drew HH.out)
 have mP := am_ (Kd.H_drew ez.out)
 have lh := am_ (Kd.S_drew lw.out)
 have ll := am_ (show gm < w3.drew.heap.size from dl.out)
 have d5 := am_ (blk_drew BK.out)
 clear HB HG HH ez lw dl BK
 generalize w3.drew = wd at b8 dE n2_ d5 lh ll mP hHeld ⊢
 have HB := b8
 have HG := dE
 have HH := n2_
 have ez := mP
 have lw := lh
 have dl := ll
 have BK := d5
 clear b8 dE n2_ d5 lh ll mP
 refine pk_ 0 52 (bs 12 1) ?_ rfl rfl
 refine pk_ 1 53 (bs 12 3) ?_ rfl rfl
 refine pk_ 2 54 (bs 12 7) ?_ rfl rfl
 refine pk_ 3 55 (bs 12 15) ?_ rfl rfl
 refine take_ (i := 4) (N := some 56) (v := ?_) (a' := ?_) (bs 12 31) rfl rfl (by kernel_rfl) (fun _ _ _ h => h) (Or.inl ⟨by rfl, ?_⟩) hHeld ?_ ?_
 rotate_left
 ·rintro w' ⟨s0, s1, s2⟩
  go_simp
  with_reducible rfl
 rotate_left
 ·simp only [Act.put, List.setIfInBounds_toArray, List.set_cons_zero, List.set_cons_succ, i64_w, i32_w]
  rfl
 refine take_ (i := 5) (N := some 57) (v := ?_) (a' := ?_) (bs 12 63) rfl rfl (by kernel_rfl) (fun _ _ _ h => h) (Or.inl ⟨by rfl, ?_⟩) hHeld ?_ ?_
 rotate_left
 ·rintro w' ⟨s0, s1, s2⟩
  go_simp
  with_reducible rfl
 rotate_left
 ·simp only [Act.put, List.setIfInBounds_toArray, List.set_cons_zero, List.set_cons_succ, i64_w, i32_w]
  rfl
 refine one_ (i := 6) (N := some 58) (bs 12 127) rfl rfl (by kernel_rfl) (by decide) (fun K hK => ?_)
 refine goes_ Tryz.func82 (by kernel_rfl) rfl #[.agg #[.string a0, .slice A1 l1.length c1]] (by rfl) rfl rfl au6_21 ?_
 with_reducible refine (F82.calls ?sd1 HC.out A6.out).mono ?_
 (case sd1 => exact Kd.C_below HR.out (rd_bt Ba.out HGE.out HB.out))
 rintro e w4 ⟨v4, rfl, bf, hb⟩
 have pD := pw_cell_below hb hHeld.1
 have pE := pw_cell_below hb hHeld.2.1
 have pF := pw_cell_below hb hHeld.2.2
 have HQ := am_ (Kd.H_below ez.out hb)
 have xo := am_ (blk_below BK.out hb)
 obtain ⟨u9, c4_, rfl⟩ := Kd.S_slice bf
 have HO := am_ bf
 have V3 := am_ hb
 have dE := am_ (blk_below HG.out hb)
 have b8 := am_ (rd_bs HB.out (Nat.le_of_lt (blk_lt HG.out)) hb)
 have RK := am_ (Kd.S_below (Kd.S_mono (Kd.S_bound lw.out) (ok' := fun k_ => pI k_ ∧ k_ < wd.heap.size) (fun k_ hk_ => ⟨hk_.1, hk_.2.2.1⟩)) hb)
 have RL := am_ (Nat.lt_of_lt_of_le (blk_lt HG.out) hb.size)
 have hszd := am_ (blk_lt HG.out)
 clear HB HG BK bf hb
 have HB := b8
 have HG := dE
 have BK := xo
 clear b8 dE xo
 refine ⟨_, rfl, ?_⟩
 refine hK.out _ _ ⟨pD, pE, pF⟩ (fun hHeld => ?_)
 clear hK K
 refine no_ 58 ?_
 refine one_ (i := 7) (N := some 59) (bs 12 255) rfl rfl (by kernel_rfl) (by decide) (fun K hK => ?_)
 refine value_ (w1 := ?_) (v := ?_) (by rfl) rfl ?_ ?_
 rotate_left 2
 ·go_simp
  constructor
  ·rfl
  ·rfl
 refine hK.out _ _ ⟨(blk_cell (blk_alloc BK.out _) 0).trans rfl, (blk_cell (blk_alloc BK.out _) 1).trans rfl, rd_hcell (Kd.H_alloc HQ.out _) (by omega) (by have := d6.out; omega) 1 _ rfl⟩ (fun hHeld => ?_)
 clear hK K
 refine no_ 59 ?_
 refine last_ (i := 8) (N := some 60) (bs 12 511) rfl rfl (by kernel_rfl) (by decide) (fun K hK => ?_)
 refine Kd.S_append_step k49 (g + 1) (by rfl) (.tmp 56) (.tmp 59) 26 49 (.agg #[(.string ⟨#[]⟩), (.slice none 0 0)]) 40 rfl Tryz.underlying26 info49 rfl (by decide) (by omega) (.slice An m.f1.length cn) m.f1 (⟨s1, s2⟩ : S49) [.string s1, .slice u9 s2.length c4_] (fun k_ => pI k_ ∨ wd.heap.size ≤ k_) (fun k_ => wd.heap.size ≤ k_) rfl rfl ?aP ?aK ?aF ?aO (Below.refl _ _) ?aS ?aL ?_
 (case aP => exact k49_mkM _ _ _ (⟨s1, s2⟩ : S49) (Kd.S_mono (Kd.S_lower (Kd.S_bound HO.out) (show g + 1 ≤ wd.heap.size from hszd.out)) (fun k_ hk_ => hk_.2.1)))
 (case aK => exact fun k_ hk_ => ⟨.inr hk_, fun e_ => by have := ((Kd.S_R RK.out).1 k_ e_.symm).2; omega⟩)
 (case aF => exact fun k_ hk_ => .inr (Nat.le_trans V3.out.size hk_))
 (case aO => exact Kd.S_mono RK.out (fun k_ hk_ => ⟨.inl hk_.1, by have := hk_.2; omega⟩))
 (case aS => exact RL.out)
 (case aL => have := LM.out; omega)
 intro v6 w6 ho RM pG hat
 obtain ⟨lx, V2, rfl⟩ := Kd.S_slice ho
 rw [show (m.f1 ++ [(⟨s1, s2⟩ : S49)]).length = m.f1.length + 1 from by simp] at ho
 obtain ⟨⟨hke, hkf⟩, n2_⟩ := rd_putB HH.out ez.out lw.out RI.out HGM.out dl.out (by omega) (by have := d6.out; omega) hszd.out ho (rd_gb V3.out pG)
 have F9 : w6.cell? ⟨gm, (b.f2.length - 1) * 2 + 1, none⟩ = some (.slice An m.f1.length cn) := hke
 have pH : w6.frozen? ⟨gm, (b.f2.length - 1) * 2 + 1, none⟩ = false := hkf
 clear hke hkf
 have b8 := am_ (HB.out.trans (RM.mono (Nat.le_succ g)))
 have dE := am_ ((RM.block g (Nat.lt_succ_self g)).trans HG.out)
 have HS := am_ n2_
 clear n2_ HB HG HH ez lw RK HO ho RM pG hat
 have HB := b8
 have HG := dE
 clear b8 dE
 refine hK.out _ _ ?_
 clear hK K
 refine no_ 60 ?_
 refine pk_ 9 61 (bs 12 1023) ?_ rfl rfl
 refine pk_ 10 62 (bs 12 2047) ?_ rfl rfl
 refine last_ (i := 11) (N := none) (bs 12 4095) rfl rfl (by kernel_rfl) (by decide) (fun K hK => ?_)
 refine skip_ (w1 := ?_) (by rfl) rfl ?_ ?_
 rotate_left
 ·go_simp
  rfl
 refine hK.out _ _ ?_
 clear hK K
 refine done_ (by kernel_rfl) ?_
 go_wp2
 go_ret
 exact ⟨rfl, HB.out.setCell (p := ⟨gm, (b.f2.length - 1) * 2 + 1, none⟩) (by have := (HOK.out gm HGM.out).1; show g ≤ gm; omega) _, _, blk_far HG.out (p := ⟨gm, _, none⟩) (by have := (HOK.out gm HGM.out).1; show g ≠ gm; omega) _, Kd.S_mono HS.out (fun _ _ => trivial)⟩
theorem rd_tb2.mono (k : Nat) (inn : Int) (L : List S53) (a0 : ByteArray) (l1 : List S91) : LeO (rd_tb2 k inn L a0 l1) (rd_tb2 (k + 1) inn L a0 l1) := by
 unfold rd_tb2
 exact tg6_3
theorem rd_takeBundle.mono (k : Nat) (n inn : Int) (L : List S53) (a0 : ByteArray) (l1 : List S91) : LeO (rd_takeBundle.f k n inn L a0 l1) (rd_takeBundle.f (k + 1) n inn L a0 l1) := by
 unfold rd_takeBundle.f
 repeat' with_reducible first | exact rd_tb2.mono _ _ _ _ _ | exact F80.mono _ _ _ _ _ _ | exact LeO.refl _ | refine LeO.ite ?_ ?_ | refine LeO.bind ?_ (fun _ => ?_)
theorem rd_tm2.mono (k : Nat) (inn : Int) (L : List S53) (b : S53) (a0 : ByteArray) (l1 : List S91) : LeO (rd_tm2 k inn L b a0 l1) (rd_tm2 (k + 1) inn L b a0 l1) := by
 unfold rd_tm2
 exact tg6_3
theorem rd_takeMessage.mono (k : Nat) (inn : Int) (L : List S53) (a0 : ByteArray) (l1 : List S91) : LeO (rd_takeMessage.f k inn L a0 l1) (rd_takeMessage.f (k + 1) inn L a0 l1) := by
 unfold rd_takeMessage.f
 repeat' with_reducible first | exact rd_tm2.mono _ _ _ _ _ _ | exact F80.mono _ _ _ _ _ _ | exact LeO.refl _ | exact LeO.none _ | refine LeO.ite ?_ ?_ | refine LeO.bind ?_ (fun _ => ?_)
theorem rd_t2.mono (k : Nat) (inn : Int) (L : List S53) (b : S53) (m : S56) (a0 : ByteArray) (l1 : List S91) : LeO (rd_t2 k inn L b m a0 l1) (rd_t2 (k + 1) inn L b m a0 l1) := by
 unfold rd_t2
 repeat' with_reducible first | exact F80.mono _ _ _ _ _ _ | exact F81.mono _ _ _ | exact F82.mono _ _ _ | exact LeO.refl _ | exact LeO.none _ | refine LeO.ite ?_ ?_ | refine LeO.bind ?_ (fun _ => ?_)
theorem rd_take.mono (k : Nat) (n inn : Int) (L : List S53) (a0 : ByteArray) (l1 : List S91) : LeO (rd_take.f k n inn L a0 l1) (rd_take.f (k + 1) n inn L a0 l1) := by
 unfold rd_take.f
 repeat' with_reducible first | exact rd_takeBundle.mono _ _ _ _ _ _ | exact rd_takeMessage.mono _ _ _ _ _ | exact rd_t2.mono _ _ _ _ _ _ _ | exact LeO.refl _ | exact LeO.none _ | refine LeO.ite ?_ ?_
def rd_ixr (n : Int) (G : List S49) : Nat → Int → Int → List S53 → Option (Int × Int × Int × List S53)
  | 0, _, _, _ => none
  | k + 1, i, inn, L => if i < (G.length : Int) then (if 0 ≤ i then ((rd_take.f k n inn L (rd_T49 G i).f0 (rd_T49 G i).f1).bind fun q => (if q.1 = 0 then (rd_ixr n G k (wrap64 (i + 1)) q.2.1 q.2.2) else (some (q.1, wrap64 (i + 1), q.2.1, q.2.2)))) else (none)) else (some (0, 0, inn, L))
def F16.f (k : Nat) (G : List S49) : Option (ByteArray × ByteArray × Int × (List S53) × Bool × Int × Int) := (F43.f k G).bind fun h => (if h.2.2.2.2.2.2 = 0 then (if 1 ≤ G.length then ((rd_ixr h.2.2.1 (G.drop 1) k 0 0 []).bind fun q => (if q.1 = 0 then (if q.2.2.1 = 3 then (some (h.1, h.2.1, h.2.2.1, q.2.2.2, true, 0, 0)) else (some (h.1, h.2.1, h.2.2.1, [], h.2.2.2.2.1, (G.length : Int), 4))) else (some (h.1, h.2.1, h.2.2.1, [], h.2.2.2.2.1, q.2.1, q.1)))) else (none)) else (some (h.1, h.2.1, h.2.2.1, [], h.2.2.2.2.1, h.2.2.2.2.2.1, h.2.2.2.2.2.2)))
theorem rd_ixr.mono (n : Int) (G : List S49) : ∀ (k : Nat) (i inn : Int) (L : List S53), LeO (rd_ixr n G k i inn L) (rd_ixr n G (k + 1) i inn L)
 | 0 => fun i inn L r h => by simp [rd_ixr] at h
 | k + 1 => by
  have ih := rd_ixr.mono n G k
  intro i inn L
  unfold rd_ixr
  repeat' with_reducible first | exact ih _ _ _ | exact rd_take.mono _ _ _ _ _ _ | exact LeO.refl _ | exact LeO.none _ | refine LeO.ite ?_ ?_ | refine LeO.bind ?_ (fun _ => ?_)
theorem rd_mv {α : Type} {d : Kd α} {e b : Nat} {W : World} {ok : Nat → Prop} {v : Value} {xs : List α} (h : Kd.S d e W b ok v xs) {g i : Nat} (hg : g < b) (u : Value) : Kd.S d e (W.setCell ⟨g, i, none⟩ u) b ok v xs :=
 Kd.S_mono (Kd.S_move (Kd.S_bound h) (fun k hk => Below.heap_setCell W ⟨g, i, none⟩ u k (by have := hk.2.1; show k ≠ g; omega))) (fun k hk => hk.1)
theorem F16.calls {k : Nat} {A0 : Option Addr} {c0 : Nat} {l0 : List (S49)} {r1 r2 : ByteArray} {r3 : Int} {r4 : List (S53)} {r5 : Bool} {r6 r7 : Int} {w : World} (bH : Kd.C k49 w A0 l0.length l0) (hc0 : l0.length ≤ c0) (hT : LaidT true Tryz.prog w) (h : F16.f k l0 = some (r1, r2, r3, r4, r5, r6, r7)) :
  Calls Tryz.prog 16 #[.slice A0 l0.length c0] w fun e w' => ∃ L7 : Value, e = .returned (.agg #[.string r1, .string r2, .int .i64 r3, L7, .bool r5, .int .i64 r6, .int .i64 r7]) ∧ Kd.S k53 53 w' w.heap.size (fun _ => True) L7 r4 ∧ Below w.heap.size w w' := by
 have ZD := Tryz.underlying41
 have ZE := Tryz.underlying30
 have F6 := Tryz.underlying49
 have xP := Tryz.underlying75
 have RF := Tryz.underlying26
 have HR := am_ bH
 have HC := am_ hc0
 have HT := am_ hT
 have HB := am_ (Below.refl w.heap.size w)
 have H := h
 unfold F16.f at H
 clear bH hc0 hT h
 replace H := Option.bind_eq_some_iff.mp H
 obtain ⟨⟨h1, h2, h3, h4, h5, h6, h7⟩, L8, H⟩ := H
 have A1 := am_ L8
 clear L8
 dsimp only at H
 by_cases c2 : h7 = 0
 rotate_left
 ·rw [if_neg c2] at H
  have c2b0 : (h7 == 0) = false := beq_eq_false_iff_ne.mpr c2
  have c2b1 : (h7 != 0) = true := bne_iff_ne.mpr c2
  clear c2
  simp only [Option.some.injEq, Prod.mk.injEq] at H
  obtain ⟨rfl, rfl, rfl, rfl, rfl, rfl, rfl⟩ := H
  go_enter Tryz.func16, Tryz.ntmps16
  go_wp2_with (first | ((with_reducible refine gate_dst (N := 2) rfl ?_); refine be_ 2 #[.string (⟨#[]⟩ : ByteArray), .string (⟨#[]⟩ : ByteArray), .int .i64 0, .slice none 0 0, .bool false, .int .i64 0, .int .i64 0] 41 ?_; intro g2 hgb w1 hbox hb; have fB := am_ (show w.heap.size ≤ g2 from by rw [hgb]; exact below_size ax28_); replace HB := am_ (below_step ax28_ hb); have B2 := am_ hbox; clear hbox hb; clear hgb) | (go_at_call 43; (with_reducible refine (F43.calls ?sd1 HC.out ?sd2 A1.out).mono ?_); (case sd1 => exact Kd.C_below HR.out ax28_); (case sd2 => exact HT.out.below ax28_); rintro e w2 ⟨rfl, Ga, hb⟩; subst Ga; replace HB := am_ (below_step ax28_ hb); replace B2 := am_ (blk_below ax5_ hb); clear hb) | ((with_reducible refine gate_dst (N := 3) rfl ?_); refine be_ 3 #[.string (⟨#[]⟩ : ByteArray), .string (⟨#[]⟩ : ByteArray), .int .i64 0, .slice none 0 0, .bool false, .int .i64 0, .int .i64 0] 41 ?_; intro g3 hgb w3 hbox hb; have lY := blk_lt ax5_; have fZ := am_ (show w.heap.size ≤ g3 from by rw [hgb]; exact below_size ax28_); replace HB := am_ (below_step ax28_ hb); replace B2 := am_ (blk_below ax5_ hb); have B3 := am_ hbox; clear hbox hb; have N23s : g2 < g3 := (by rw [hgb]; exact lY); clear hgb; have Gb : w3.cell? ⟨g3, 0, none⟩ = some (.string (⟨#[]⟩ : ByteArray)) := (blk_cell B3.out 0).trans rfl; have pJ := blk_frozen B3.out 0; have hq1 : w3.cell? ⟨g3, 1, none⟩ = some (.string (⟨#[]⟩ : ByteArray)) := (blk_cell B3.out 1).trans rfl; have pK := blk_frozen B3.out 1; have hq2 : w3.cell? ⟨g3, 2, none⟩ = some (.int .i64 0) := (blk_cell B3.out 2).trans rfl; have pL := blk_frozen B3.out 2; have Gc : w3.cell? ⟨g3, 3, none⟩ = some (.slice none 0 0) := (blk_cell B3.out 3).trans rfl; have pM := blk_frozen B3.out 3; have Gd : w3.cell? ⟨g3, 4, none⟩ = some (.bool false) := (blk_cell B3.out 4).trans rfl; have pN := blk_frozen B3.out 4; have Ge : w3.cell? ⟨g3, 5, none⟩ = some (.int .i64 0) := (blk_cell B3.out 5).trans rfl; have pO := blk_frozen B3.out 5; have Gf : w3.cell? ⟨g3, 6, none⟩ = some (.int .i64 0) := (blk_cell B3.out 6).trans rfl; have pP := blk_frozen B3.out 6) | ((with_reducible refine gate_store (t := 41) (p := 3) rfl ?_); refine store_event (t := 41) (p := 3) (v := ?vo_) (w1 := (((((((w3.setCell ⟨g3, 0, none⟩ (.string h1)).setCell ⟨g3, 1, none⟩ (.string h2)).setCell ⟨g3, 2, none⟩ (.int .i64 h3)).setCell ⟨g3, 3, none⟩ (.slice none 0 0)).setCell ⟨g3, 4, none⟩ (.bool h5)).setCell ⟨g3, 5, none⟩ (.int .i64 h6)).setCell ⟨g3, 6, none⟩ (.int .i64 h7))) ?hg ?ho ?hn ?hr ?_; (case ho => rfl); (case hg => rfl); (case hn => rfl); (case hr => exact hr_); intro w4 hw; have fJ : g2 ≠ g3 := (by rintro rfl; have := N23s; omega); have d5 := am_ (show w4.heap[g3]? = some (.cells #[.string h1, .string h2, .int .i64 h3, .slice none 0 0, .bool h5, .int .i64 h6, .int .i64 h7] 41 (0, 0)) from by rw [hw]; exact (blk_put (blk_put (blk_put (blk_put (blk_put (blk_put (blk_put B3.out 0 _ rfl) 1 _ rfl) 2 _ rfl) 3 _ rfl) 4 _ rfl) 5 _ rfl) 6 _ rfl)); have n2_ := am_ (show w4.heap[g2]? = some (.cells #[.string (⟨#[]⟩ : ByteArray), .string (⟨#[]⟩ : ByteArray), .int .i64 0, .slice none 0 0, .bool false, .int .i64 0, .int .i64 0] 41 (0, 0)) from by rw [hw]; exact (blk_far (p := ⟨g3, 6, none⟩) (blk_far (p := ⟨g3, 5, none⟩) (blk_far (p := ⟨g3, 4, none⟩) (blk_far (p := ⟨g3, 3, none⟩) (blk_far (p := ⟨g3, 2, none⟩) (blk_far (p := ⟨g3, 1, none⟩) (blk_far (p := ⟨g3, 0, none⟩) B2.out fJ _) fJ _) fJ _) fJ _) fJ _) fJ _) fJ _)); have b8 := am_ (show Below w.heap.size w w4 from by rw [hw]; exact (below_set (j := 6) (below_set (j := 5) (below_set (j := 4) (below_set (j := 3) (below_set (j := 2) (below_set (j := 1) (below_set (j := 0) HB.out fZ.out) fZ.out) fZ.out) fZ.out) fZ.out) fZ.out) fZ.out)); clear hw HB B2 B3; clear Gb pJ hq1 pK hq2 pL Gc pM Gd pN Ge pO Gf pP; have HB := b8; have B2 := n2_; have B3 := d5; clear b8 n2_ d5; have bf : w4.cell? ⟨g3, 0, none⟩ = some (.string h1) := (blk_cell B3.out 0).trans rfl; have xS := blk_frozen B3.out 0; have ho1 : w4.cell? ⟨g3, 1, none⟩ = some (.string h2) := (blk_cell B3.out 1).trans rfl; have xT := blk_frozen B3.out 1; have ho2 : w4.cell? ⟨g3, 2, none⟩ = some (.int .i64 h3) := (blk_cell B3.out 2).trans rfl; have xU := blk_frozen B3.out 2; have wE : w4.cell? ⟨g3, 3, none⟩ = some (.slice none 0 0) := (blk_cell B3.out 3).trans rfl; have xV := blk_frozen B3.out 3; have L9 : w4.cell? ⟨g3, 4, none⟩ = some (.bool h5) := (blk_cell B3.out 4).trans rfl; have xW := blk_frozen B3.out 4; have Ma : w4.cell? ⟨g3, 5, none⟩ = some (.int .i64 h6) := (blk_cell B3.out 5).trans rfl; have xX := blk_frozen B3.out 5; have n5 : w4.cell? ⟨g3, 6, none⟩ = some (.int .i64 h7) := (blk_cell B3.out 6).trans rfl; have xY := blk_frozen B3.out 6; have HBx := HB.out; have B2x := B2.out; obtain ⟨hj0, hj1, hj2, Mb, Mc, Md, Me⟩ := c7_ B2x; have xZ := blk_frozen B2x 0; have ya := blk_frozen B2x 1; have yb := blk_frozen B2x 2; have yc := blk_frozen B2x 3; have yd := blk_frozen B2x 4; have ye := blk_frozen B2x 5; have yf := blk_frozen B2x 6) | ((with_reducible refine gate_store (t := 41) (p := 2) rfl ?_); refine store_event (t := 41) (p := 2) (v := ?vo_bN4) (w1 := (((((((w4.setCell ⟨g2, 0, none⟩ (.string h1)).setCell ⟨g2, 1, none⟩ (.string h2)).setCell ⟨g2, 2, none⟩ (.int .i64 h3)).setCell ⟨g2, 3, none⟩ (.slice none 0 0)).setCell ⟨g2, 4, none⟩ (.bool h5)).setCell ⟨g2, 5, none⟩ (.int .i64 h6)).setCell ⟨g2, 6, none⟩ (.int .i64 h7))) ?hg ?ho ?hn ?hr ?_; (case ho => rfl); (case hg => rfl); (case hn => rfl); (case hr => exact hr_); intro wf hw; have F2 := am_ (show wf.heap[g2]? = some (.cells #[.string h1, .string h2, .int .i64 h3, .slice none 0 0, .bool h5, .int .i64 h6, .int .i64 h7] 41 (0, 0)) from by rw [hw]; exact (blk_put (blk_put (blk_put (blk_put (blk_put (blk_put (blk_put B2x 0 _ rfl) 1 _ rfl) 2 _ rfl) 3 _ rfl) 4 _ rfl) 5 _ rfl) 6 _ rfl)); have FB := am_ (show Below w.heap.size w wf from by rw [hw]; exact (below_set (j := 6) (below_set (j := 5) (below_set (j := 4) (below_set (j := 3) (below_set (j := 2) (below_set (j := 1) (below_set (j := 0) HBx fB.out) fB.out) fB.out) fB.out) fB.out) fB.out) fB.out)); clear hw))
  go_wp2
  refine bodyPost_ret (results_cell_row rfl _ _ g2 41 #[.string h1, .string h2, .int .i64 h3, .slice none 0 0, .bool h5, .int .i64 h6, .int .i64 h7] (0, 0) _ rfl F2.out Tryz.underlying41 rfl (by kernel_rfl)) rfl ?_
  exact tg6_4
 rw [if_pos c2] at H
 subst c2
 by_cases c3 : 1 ≤ l0.length
 rotate_left
 ·rw [if_neg c3] at H
  cases H
 rw [if_pos c3] at H
 have c3a : (1 : Int) ≤ (c0 : Int) := by have := HC.out; omega
 have c3b0 : decide ((1 : Int) ≤ (l0.length : Int)) = true := decide_eq_true (by omega)
 have c3b1 : decide (1 ≤ l0.length) = true := decide_eq_true c3
 obtain ⟨ad, A9_, c9_, ead, _⟩ := at_T49 HR.out 0 (by omega) (by omega)
 subst ead
 replace H := Option.bind_eq_some_iff.mp H
 obtain ⟨⟨q1, q2, q3, q4⟩, Mf, H⟩ := H
 dsimp only at H
 have A2 := am_ Mf
 clear Mf
 have A3 := am_ H
 clear H
 have C3 := am_ c3
 have LB : Aside0 (Kd.C k49 w (if c0 = 1 then some ad else some ⟨ad.block, ad.off + 2, none⟩) (l0.drop 1).length (l0.drop 1)) := ⟨by have q_ := Kd.C_drop (m := 1) HR.out c3 HC.out; exact q_⟩
 have hGl : (l0.drop 1).length = l0.length - 1 := List.length_drop
 generalize l0.drop 1 = G at LB A2 hGl
 go_enter Tryz.func16, Tryz.ntmps16
 go_upto_region 5 with (first | ((with_reducible refine gate_dst (N := 2) rfl ?_); refine be_ 2 #[.string (⟨#[]⟩ : ByteArray), .string (⟨#[]⟩ : ByteArray), .int .i64 0, .slice none 0 0, .bool false, .int .i64 0, .int .i64 0] 41 ?_; intro g2 hgb w1 hbox hb; have fB := am_ (show w.heap.size ≤ g2 from by rw [hgb]; exact below_size ax28_); replace HB := am_ (below_step ax28_ hb); have B2 := am_ hbox; clear hbox hb; clear hgb) | (go_at_call 43; (with_reducible refine (F43.calls ?sd1 HC.out ?sd2 A1.out).mono ?_); (case sd1 => exact Kd.C_below HR.out ax28_); (case sd2 => exact HT.out.below ax28_); rintro e w2 ⟨rfl, Ga, hb⟩; subst Ga; replace HB := am_ (below_step ax28_ hb); replace B2 := am_ (blk_below ax5_ hb); clear hb) | ((with_reducible refine gate_dst (N := 3) rfl ?_); refine be_ 3 #[.string (⟨#[]⟩ : ByteArray), .string (⟨#[]⟩ : ByteArray), .int .i64 0, .slice none 0 0, .bool false, .int .i64 0, .int .i64 0] 41 ?_; intro g3 hgb w3 hbox hb; have lY := blk_lt ax5_; have fZ := am_ (show w.heap.size ≤ g3 from by rw [hgb]; exact below_size ax28_); replace HB := am_ (below_step ax28_ hb); replace B2 := am_ (blk_below ax5_ hb); have B3 := am_ hbox; clear hbox hb; have N23s : g2 < g3 := (by rw [hgb]; exact lY); clear hgb; have Gb : w3.cell? ⟨g3, 0, none⟩ = some (.string (⟨#[]⟩ : ByteArray)) := (blk_cell B3.out 0).trans rfl; have pJ := blk_frozen B3.out 0; have hq1 : w3.cell? ⟨g3, 1, none⟩ = some (.string (⟨#[]⟩ : ByteArray)) := (blk_cell B3.out 1).trans rfl; have pK := blk_frozen B3.out 1; have hq2 : w3.cell? ⟨g3, 2, none⟩ = some (.int .i64 0) := (blk_cell B3.out 2).trans rfl; have pL := blk_frozen B3.out 2; have Gc : w3.cell? ⟨g3, 3, none⟩ = some (.slice none 0 0) := (blk_cell B3.out 3).trans rfl; have pM := blk_frozen B3.out 3; have Gd : w3.cell? ⟨g3, 4, none⟩ = some (.bool false) := (blk_cell B3.out 4).trans rfl; have pN := blk_frozen B3.out 4; have Ge : w3.cell? ⟨g3, 5, none⟩ = some (.int .i64 0) := (blk_cell B3.out 5).trans rfl; have pO := blk_frozen B3.out 5; have Gf : w3.cell? ⟨g3, 6, none⟩ = some (.int .i64 0) := (blk_cell B3.out 6).trans rfl; have pP := blk_frozen B3.out 6) | ((with_reducible refine gate_store (t := 41) (p := 3) rfl ?_); refine store_event (t := 41) (p := 3) (v := ?vo_) (w1 := (((((((w3.setCell ⟨g3, 0, none⟩ (.string h1)).setCell ⟨g3, 1, none⟩ (.string h2)).setCell ⟨g3, 2, none⟩ (.int .i64 h3)).setCell ⟨g3, 3, none⟩ (.slice none 0 0)).setCell ⟨g3, 4, none⟩ (.bool h5)).setCell ⟨g3, 5, none⟩ (.int .i64 h6)).setCell ⟨g3, 6, none⟩ (.int .i64 0))) ?hg ?ho ?hn ?hr ?_; (case ho => rfl); (case hg => rfl); (case hn => rfl); (case hr => exact hr_); intro w4 hw; have fJ : g2 ≠ g3 := (by rintro rfl; have := N23s; omega); have d5 := am_ (show w4.heap[g3]? = some (.cells #[.string h1, .string h2, .int .i64 h3, .slice none 0 0, .bool h5, .int .i64 h6, .int .i64 0] 41 (0, 0)) from by rw [hw]; exact (blk_put (blk_put (blk_put (blk_put (blk_put (blk_put (blk_put B3.out 0 _ rfl) 1 _ rfl) 2 _ rfl) 3 _ rfl) 4 _ rfl) 5 _ rfl) 6 _ rfl)); have n2_ := am_ (show w4.heap[g2]? = some (.cells #[.string (⟨#[]⟩ : ByteArray), .string (⟨#[]⟩ : ByteArray), .int .i64 0, .slice none 0 0, .bool false, .int .i64 0, .int .i64 0] 41 (0, 0)) from by rw [hw]; exact (blk_far (p := ⟨g3, 6, none⟩) (blk_far (p := ⟨g3, 5, none⟩) (blk_far (p := ⟨g3, 4, none⟩) (blk_far (p := ⟨g3, 3, none⟩) (blk_far (p := ⟨g3, 2, none⟩) (blk_far (p := ⟨g3, 1, none⟩) (blk_far (p := ⟨g3, 0, none⟩) B2.out fJ _) fJ _) fJ _) fJ _) fJ _) fJ _) fJ _)); have b8 := am_ (show Below w.heap.size w w4 from by rw [hw]; exact (below_set (j := 6) (below_set (j := 5) (below_set (j := 4) (below_set (j := 3) (below_set (j := 2) (below_set (j := 1) (below_set (j := 0) HB.out fZ.out) fZ.out) fZ.out) fZ.out) fZ.out) fZ.out) fZ.out)); clear hw HB B2 B3; clear Gb pJ hq1 pK hq2 pL Gc pM Gd pN Ge pO Gf pP; have HB := b8; have B2 := n2_; have B3 := d5; clear b8 n2_ d5; have bf : w4.cell? ⟨g3, 0, none⟩ = some (.string h1) := (blk_cell B3.out 0).trans rfl; have xS := blk_frozen B3.out 0; have ho1 : w4.cell? ⟨g3, 1, none⟩ = some (.string h2) := (blk_cell B3.out 1).trans rfl; have xT := blk_frozen B3.out 1; have ho2 : w4.cell? ⟨g3, 2, none⟩ = some (.int .i64 h3) := (blk_cell B3.out 2).trans rfl; have xU := blk_frozen B3.out 2; have wE : w4.cell? ⟨g3, 3, none⟩ = some (.slice none 0 0) := (blk_cell B3.out 3).trans rfl; have xV := blk_frozen B3.out 3; have L9 : w4.cell? ⟨g3, 4, none⟩ = some (.bool h5) := (blk_cell B3.out 4).trans rfl; have xW := blk_frozen B3.out 4; have Ma : w4.cell? ⟨g3, 5, none⟩ = some (.int .i64 h6) := (blk_cell B3.out 5).trans rfl; have xX := blk_frozen B3.out 5; have n5 : w4.cell? ⟨g3, 6, none⟩ = some (.int .i64 0) := (blk_cell B3.out 6).trans rfl; have xY := blk_frozen B3.out 6) | ((with_reducible refine gate_dst (N := 17) rfl ?_); refine be_ 17 #[.string h1, .string h2, .int .i64 h3, .slice none 0 0, .int .i64 0] 75 ?_; intro g4 hgb w5 hbox hb; have yg := blk_lt ax6_; have zA := am_ (show w.heap.size ≤ g4 from by rw [hgb]; exact below_size ax28_); replace HB := am_ (below_step ax28_ hb); replace B2 := am_ (blk_below ax5_ hb); replace B3 := am_ (blk_below ax6_ hb); have B4 := am_ hbox; clear hbox hb; have Mg : g3 < g4 := (by rw [hgb]; exact yg); clear hgb yg; clear bf xS ho1 xT ho2 xU wE xV L9 xW Ma xX n5 xY))
 have V4 := am_ (Kd.S_nil k53 53 w5 (g4 + 1) (fun _ => True))
 have V5 := am_ (Below.refl g4 w5)
 go_wp2
 all_goals
  first | rw [if_neg h] at LB | rw [if_pos h] at LB
  clear h
  (try generalize (⟨ad.block, ad.off + 2, none⟩ : Addr) = aS at LB ⊢)
  rw [← hGl]
  clear hGl
  go_loopg [21] k (fun kq v21 w' => ∃ (i inn : Int) (L : List S53) (vB : Value), v21 = .int .i64 i ∧ Aside0 (rd_ixr h3 G kq i inn L = some (q1, q2, q3, q4)) ∧ Aside0 (kq ≤ k) ∧ Aside0 (w'.heap[g4]? = some (.cells #[.string h1, .string h2, .int .i64 h3, vB, .int .i64 inn] 75 (0, 0))) ∧ Aside0 (Kd.S k53 53 w' (g4 + 1) (fun _ => True) vB L) ∧ Aside0 (Below g4 w5 w'))
  case atStart => exact ⟨0, 0, [], .slice none 0 0, (by first | rfl | (simp; done)), A2, ⟨Nat.le_refl _⟩, B4, V4, V5⟩
  case round =>
   clear A2 B4 V4 V5
   obtain ⟨i, inn, L, vB, rfl, HA, cK, HG, HS, HBg⟩ := hrel
   cases gk with
   | zero => exact absurd HA.out (by simp [rd_ixr])
   | succ k1 =>
    have H := HA.out
    clear HA
    simp only [rd_ixr] at H
    by_cases c4 : i < (G.length : Int)
    ·rw [if_pos c4] at H
     by_cases c5 : 0 ≤ i
     rotate_left
     ·rw [if_neg c5] at H
      cases H
     rw [if_pos c5] at H
     replace H := Option.bind_eq_some_iff.mp H
     obtain ⟨⟨t1, t2, t3⟩, lx, H⟩ := H
     dsimp only at H
     have A6 := am_ lx
     clear lx
     have HBw := am_ (HB.out.trans (HBg.out.mono zA.out))
     obtain ⟨ad2, A7, c7, e7, nF, rV, D0, D1⟩ := at_T49 LB.out i c5 c4
     cases e7
     have V6 := am_ D0
     have V7 := am_ D1
     clear D0 D1
     replace nF := pw_cell_below HBw.out nF
     replace rV := pw_cell_below HBw.out rV
     have c4b0 : decide (i < (G.length : Int)) = true := decide_eq_true c4
     have c5b0 : decide (0 ≤ i) = true := decide_eq_true c5
     have p7 := eq_true c5
     have q7 := eq_true c4
     clear c4 c5
     by_cases c8 : t1 = 0
     ·rw [if_pos c8] at H
      subst c8
      have H' := am_ H
      clear H
      go_wp2_with (first | ((with_reducible refine gate_dst (N := 6) rfl ?_); refine be_ 6 #[.string (⟨#[]⟩ : ByteArray), .slice none 0 0] 49 ?_; intro g6 hgb w7 hbox hb; have B6 := am_ hbox; have b8 := am_ (rd_bs HBg.out (Nat.le_of_lt (blk_lt HG.out)) hb); have dE := am_ (blk_below HG.out hb); have n2_ := am_ (Kd.S_below (Kd.S_mono (Kd.S_bound HS.out) (ok' := fun k_ => k_ < g6) (fun k_ hk_ => by rw [hgb]; exact hk_.2.2.1)) hb); replace nF := pw_cell_below hb nF; replace rV := pw_cell_below hb rV; have N46s : g4 < g6 := (by rw [hgb]; exact blk_lt HG.out); clear HBg HG HS hbox hb hgb; have HBg := b8; have HG := dE; have HS := n2_; clear b8 dE n2_; obtain ⟨hz0, hz1⟩ := c2_ B6.out; have vr := blk_frozen B6.out 0; have vt := blk_frozen B6.out 1) | ((with_reducible refine gate_store (t := 49) (p := 6) rfl ?_); refine store_event (t := 49) (p := 6) (v := ?vo_c_h) (w1 := ((w7.setCell ⟨g6, 0, none⟩ (.string (rd_T49 G i).f0)).setCell ⟨g6, 1, none⟩ (.slice A7 (rd_T49 G i).f1.length c7))) ?hg ?ho ?hn ?hr ?_; (case ho => rfl); (case hg => rfl); (case hn => rfl); (case hr => exact hr_); intro w8 hw; replace HBg := am_ (show Below g4 w5 w8 from by rw [hw]; exact (HBg.out.setCell (p := ⟨g6, 0, none⟩) (Nat.le_of_lt N46s) _).setCell (p := ⟨g6, 1, none⟩) (Nat.le_of_lt N46s) _); replace HG := am_ (show w8.heap[g4]? = some (.cells #[.string h1, .string h2, .int .i64 h3, vB, .int .i64 inn] 75 (0, 0)) from by rw [hw]; exact blk_far (p := ⟨g6, 1, none⟩) (blk_far (p := ⟨g6, 0, none⟩) HG.out (Nat.ne_of_lt N46s) _) (Nat.ne_of_lt N46s) _); replace HS := am_ (show Kd.S k53 53 w8 (g4 + 1) (fun _ => True) vB L from by rw [hw]; exact Kd.S_mono (Kd.S_move (Kd.S_move HS.out (fun k_ hk_ => Below.heap_setCell _ ⟨g6, 0, none⟩ _ k_ (Nat.ne_of_lt hk_))) (fun k_ hk_ => Below.heap_setCell _ ⟨g6, 1, none⟩ _ k_ (Nat.ne_of_lt hk_))) (fun _ _ => trivial)); replace B6 := am_ (show w8.heap[g6]? = some (.cells #[.string (rd_T49 G i).f0, .slice A7 (rd_T49 G i).f1.length c7] 49 (0, 0)) from by rw [hw]; exact blk_put (blk_put B6.out 0 _ rfl) 1 _ rfl); clear hw hz0 hz1 vr vt nF rV; obtain ⟨hz0, hz1⟩ := c2_ B6.out) | (go_at_call 44; refine (rd_take.calls k1 g4 h1 h2 h3 inn vB L (rd_T49 G i).f0 A7 c7 (rd_T49 G i).f1 0 t2 t3 w _ (HB.out.trans (HBg.out.mono zA.out)) zA.out HG.out HS.out V7.out V6.out HT.out A6.out).mono ?_; rintro e w9 ⟨rfl, hb, V8, xR, vq⟩; replace HBg := am_ (HBg.out.trans hb); replace HG := am_ xR; replace HS := am_ vq; clear hz0 hz1 hb xR vq))
      go_roundg k1
      case measure => have := cK.out; omega
      case rel => exact ⟨wrap64 (i + 1), t2, t3, V8, er_, H', ⟨by have := cK.out; omega⟩, HG, HS, HBg⟩
     rw [if_neg c8] at H
     have c8b0 : (t1 == 0) = false := beq_eq_false_iff_ne.mpr c8
     have c8b1 : (t1 != 0) = true := bne_iff_ne.mpr c8
     simp only [Option.some.injEq, Prod.mk.injEq] at H
     obtain ⟨rfl, rfl, rfl, rfl⟩ := H
     have H2 := A3.out
     rw [if_neg c8] at H2
     clear A3 c8
     simp only [Option.some.injEq, Prod.mk.injEq] at H2
     obtain ⟨rfl, rfl, rfl, rfl, rfl, rfl, rfl⟩ := H2
     go_wp2_with (first | ((with_reducible refine gate_dst (N := 6) rfl ?_); refine be_ 6 #[.string (⟨#[]⟩ : ByteArray), .slice none 0 0] 49 ?_; intro g6 hgb w7 hbox hb; have B6 := am_ hbox; have b8 := am_ (rd_bs HBg.out (Nat.le_of_lt (blk_lt HG.out)) hb); have dE := am_ (blk_below HG.out hb); have n2_ := am_ (Kd.S_below (Kd.S_mono (Kd.S_bound HS.out) (ok' := fun k_ => k_ < g6) (fun k_ hk_ => by rw [hgb]; exact hk_.2.2.1)) hb); replace nF := pw_cell_below hb nF; replace rV := pw_cell_below hb rV; have N46s : g4 < g6 := (by rw [hgb]; exact blk_lt HG.out); clear HBg HG HS hbox hb hgb; have HBg := b8; have HG := dE; have HS := n2_; clear b8 dE n2_; obtain ⟨hz0, hz1⟩ := c2_ B6.out; have vr := blk_frozen B6.out 0; have vt := blk_frozen B6.out 1) | ((with_reducible refine gate_store (t := 49) (p := 6) rfl ?_); refine store_event (t := 49) (p := 6) (v := ?vo_c_h) (w1 := ((w7.setCell ⟨g6, 0, none⟩ (.string (rd_T49 G i).f0)).setCell ⟨g6, 1, none⟩ (.slice A7 (rd_T49 G i).f1.length c7))) ?hg ?ho ?hn ?hr ?_; (case ho => rfl); (case hg => rfl); (case hn => rfl); (case hr => exact hr_); intro w8 hw; replace HBg := am_ (show Below g4 w5 w8 from by rw [hw]; exact (HBg.out.setCell (p := ⟨g6, 0, none⟩) (Nat.le_of_lt N46s) _).setCell (p := ⟨g6, 1, none⟩) (Nat.le_of_lt N46s) _); replace HG := am_ (show w8.heap[g4]? = some (.cells #[.string h1, .string h2, .int .i64 h3, vB, .int .i64 inn] 75 (0, 0)) from by rw [hw]; exact blk_far (p := ⟨g6, 1, none⟩) (blk_far (p := ⟨g6, 0, none⟩) HG.out (Nat.ne_of_lt N46s) _) (Nat.ne_of_lt N46s) _); replace HS := am_ (show Kd.S k53 53 w8 (g4 + 1) (fun _ => True) vB L from by rw [hw]; exact Kd.S_mono (Kd.S_move (Kd.S_move HS.out (fun k_ hk_ => Below.heap_setCell _ ⟨g6, 0, none⟩ _ k_ (Nat.ne_of_lt hk_))) (fun k_ hk_ => Below.heap_setCell _ ⟨g6, 1, none⟩ _ k_ (Nat.ne_of_lt hk_))) (fun _ _ => trivial)); replace B6 := am_ (show w8.heap[g6]? = some (.cells #[.string (rd_T49 G i).f0, .slice A7 (rd_T49 G i).f1.length c7] 49 (0, 0)) from by rw [hw]; exact blk_put (blk_put B6.out 0 _ rfl) 1 _ rfl); clear hw hz0 hz1 vr vt nF rV; obtain ⟨hz0, hz1⟩ := c2_ B6.out) | (go_at_call 44; refine (rd_take.calls k1 g4 h1 h2 h3 inn vB L (rd_T49 G i).f0 A7 c7 (rd_T49 G i).f1 t1 t2 t3 w _ (HB.out.trans (HBg.out.mono zA.out)) zA.out HG.out HS.out V7.out V6.out HT.out A6.out).mono ?_; rintro e w9 ⟨rfl, hb, V8, xR, vq⟩; replace HBg := am_ (HBg.out.trans hb); replace HG := am_ xR; replace HS := am_ vq; clear hz0 hz1 hb xR vq; have HBx := HB.out.trans (HBg.out.mono zA.out); have B2x := (HBg.out.block g2 (by omega)).trans B2.out; have B3x := (HBg.out.block g3 Mg).trans B3.out; obtain ⟨RN, RO, RP, RQ, RR, RT, RU⟩ := c7_ B3x; have Gg := blk_frozen B3x 0; have Gi := blk_frozen B3x 1; have pH := blk_frozen B3x 2; have Gj := blk_frozen B3x 3; have Gk := blk_frozen B3x 4; have Gl := blk_frozen B3x 5; have Gm := blk_frozen B3x 6; obtain ⟨hj0, hj1, hj2, Mb, Mc, Md, Me⟩ := c7_ B2x; have xZ := blk_frozen B2x 0; have ya := blk_frozen B2x 1; have yb := blk_frozen B2x 2; have yc := blk_frozen B2x 3; have yd := blk_frozen B2x 4; have ye := blk_frozen B2x 5; have yf := blk_frozen B2x 6; have N23b := fJ.symm) | ((with_reducible refine gate_store (t := 2) (p := 34) rfl ?_); refine store_event (t := 2) (p := 34) (v := ?vo_34_h) (w1 := (w9.setCell ⟨g3, 5, none⟩ (.int .i64 (wrap64 (i + 1))))) ?hg ?ho ?hn ?hr ?_; (case ho => rfl); (case hg => rfl); (case hn => rfl); (case hr => exact hr_); intro wa hw; have d5 := (show wa.heap[g3]? = some (.cells #[.string h1, .string h2, .int .i64 h3, .slice none 0 0, .bool h5, .int .i64 (wrap64 (i + 1)), .int .i64 0] 41 (0, 0)) from by rw [hw]; exact blk_put B3x 5 _ rfl); have n2_ := (show wa.heap[g2]? = some (.cells #[.string (⟨#[]⟩ : ByteArray), .string (⟨#[]⟩ : ByteArray), .int .i64 0, .slice none 0 0, .bool false, .int .i64 0, .int .i64 0] 41 (0, 0)) from by rw [hw]; exact blk_far (p := ⟨g3, 5, none⟩) B2x fJ _); have b8 := (show Below w.heap.size w wa from by rw [hw]; exact below_set (j := 5) HBx fZ.out); clear hw HBx B2x B3x RN Gg RO Gi RP pH RQ Gj RR Gk RT Gl RU Gm hj0 xZ hj1 ya hj2 yb Mb yc Mc yd Md ye Me yf; have HBx := b8; have B2x := n2_; have B3x := d5; clear b8 n2_ d5; obtain ⟨Ir, Is, It, Iu, RV, RW, RZ⟩ := c7_ B3x; have Gn := blk_frozen B3x 0; have Gp := blk_frozen B3x 1; have Gq := blk_frozen B3x 2; have Gr := blk_frozen B3x 3; have Gs := blk_frozen B3x 4; have Gt := blk_frozen B3x 5; have Gu := blk_frozen B3x 6; obtain ⟨Iv, Iw, DF, Ix, Iy, Iz, IA⟩ := c7_ B2x; have vu := blk_frozen B2x 0; have vv := blk_frozen B2x 1; have vw := blk_frozen B2x 2; have vx := blk_frozen B2x 3; have vy := blk_frozen B2x 4; have vz := blk_frozen B2x 5; have vA := blk_frozen B2x 6) | ((with_reducible refine gate_store (t := 2) (p := 35) rfl ?_); refine store_event (t := 2) (p := 35) (v := ?vo_35_h) (w1 := (wa.setCell ⟨g3, 6, none⟩ (.int .i64 t1))) ?hg ?ho ?hn ?hr ?_; (case ho => rfl); (case hg => rfl); (case hn => rfl); (case hr => exact hr_); intro wb hw; have d5 := (show wb.heap[g3]? = some (.cells #[.string h1, .string h2, .int .i64 h3, .slice none 0 0, .bool h5, .int .i64 (wrap64 (i + 1)), .int .i64 t1] 41 (0, 0)) from by rw [hw]; exact blk_put B3x 6 _ rfl); have n2_ := (show wb.heap[g2]? = some (.cells #[.string (⟨#[]⟩ : ByteArray), .string (⟨#[]⟩ : ByteArray), .int .i64 0, .slice none 0 0, .bool false, .int .i64 0, .int .i64 0] 41 (0, 0)) from by rw [hw]; exact blk_far (p := ⟨g3, 6, none⟩) B2x fJ _); have b8 := (show Below w.heap.size w wb from by rw [hw]; exact below_set (j := 6) HBx fZ.out); clear hw HBx B2x B3x Ir Gn Is Gp It Gq Iu Gr RV Gs RW Gt RZ Gu Iv vu Iw vv DF vw Ix vx Iy vy Iz vz IA vA; have HBx := b8; have B2x := n2_; have B3x := d5; clear b8 n2_ d5; obtain ⟨hs0, vR, Fd, ZF, ZG, ZH, ZI⟩ := c7_ B3x; have R0 := blk_frozen B3x 0; have R1 := blk_frozen B3x 1; have R2 := blk_frozen B3x 2; have R3 := blk_frozen B3x 3; have R4 := blk_frozen B3x 4; have R5 := blk_frozen B3x 5; have R6 := blk_frozen B3x 6; obtain ⟨ZJ, xr, At, U9, ZK, ZL, ZM⟩ := c7_ B2x; have R7 := blk_frozen B2x 0; have R8 := blk_frozen B2x 1; have R9 := blk_frozen B2x 2; have Sa := blk_frozen B2x 3; have Sb := blk_frozen B2x 4; have Sc := blk_frozen B2x 5; have Sd := blk_frozen B2x 6) | ((with_reducible refine gate_store (t := 41) (p := 2) rfl ?_); refine store_event (t := 41) (p := 2) (v := ?vo_bN1_h) (w1 := (((((((wb.setCell ⟨g2, 0, none⟩ (.string h1)).setCell ⟨g2, 1, none⟩ (.string h2)).setCell ⟨g2, 2, none⟩ (.int .i64 h3)).setCell ⟨g2, 3, none⟩ (.slice none 0 0)).setCell ⟨g2, 4, none⟩ (.bool h5)).setCell ⟨g2, 5, none⟩ (.int .i64 (wrap64 (i + 1)))).setCell ⟨g2, 6, none⟩ (.int .i64 t1))) ?hg ?ho ?hn ?hr ?_; (case ho => rfl); (case hg => rfl); (case hn => rfl); (case hr => exact hr_); intro wf hw; have F2 := am_ (show wf.heap[g2]? = some (.cells #[.string h1, .string h2, .int .i64 h3, .slice none 0 0, .bool h5, .int .i64 (wrap64 (i + 1)), .int .i64 t1] 41 (0, 0)) from by rw [hw]; exact (blk_put (blk_put (blk_put (blk_put (blk_put (blk_put (blk_put B2x 0 _ rfl) 1 _ rfl) 2 _ rfl) 3 _ rfl) 4 _ rfl) 5 _ rfl) 6 _ rfl)); have FB := am_ (show Below w.heap.size w wf from by rw [hw]; exact (below_set (j := 6) (below_set (j := 5) (below_set (j := 4) (below_set (j := 3) (below_set (j := 2) (below_set (j := 1) (below_set (j := 0) HBx fB.out) fB.out) fB.out) fB.out) fB.out) fB.out) fB.out)); clear hw))
     go_wp2
     refine bodyPost_ret (results_cell_row rfl _ _ g2 41 #[.string h1, .string h2, .int .i64 h3, .slice none 0 0, .bool h5, .int .i64 (wrap64 (i + 1)), .int .i64 t1] (0, 0) _ rfl F2.out Tryz.underlying41 rfl (by kernel_rfl)) rfl ?_
     exact tg6_4
    rw [if_neg c4] at H
    have c4b0 : decide (i < (G.length : Int)) = false := decide_eq_false c4
    clear c4
    simp only [Option.some.injEq, Prod.mk.injEq] at H
    obtain ⟨rfl, rfl, rfl, rfl⟩ := H
    have H2 := A3.out
    rw [if_pos rfl] at H2
    clear A3
    have HBx := HB.out.trans (HBg.out.mono zA.out)
    have B2x := (HBg.out.block g2 (by omega)).trans B2.out
    have B3x := (HBg.out.block g3 Mg).trans B3.out
    have N23b := fJ.symm
    have HSx := HS.out
    obtain ⟨Ab, cb, rfl⟩ := Kd.S_slice HSx
    obtain ⟨RN, RO, RP, RQ, RR, RT, RU⟩ := c7_ B3x
    have Gg := blk_frozen B3x 0
    have Gi := blk_frozen B3x 1
    have pH := blk_frozen B3x 2
    have Gj := blk_frozen B3x 3
    have Gk := blk_frozen B3x 4
    have Gl := blk_frozen B3x 5
    have Gm := blk_frozen B3x 6
    obtain ⟨hj0, hj1, hj2, Mb, Mc, Md, Me⟩ := c7_ B2x
    have xZ := blk_frozen B2x 0
    have ya := blk_frozen B2x 1
    have yb := blk_frozen B2x 2
    have yc := blk_frozen B2x 3
    have yd := blk_frozen B2x 4
    have ye := blk_frozen B2x 5
    have yf := blk_frozen B2x 6
    obtain ⟨YI, hm1, hm2, hm3, hm4⟩ := c5_ HG.out
    have ZN := blk_frozen HG.out 0
    have ZO := blk_frozen HG.out 1
    have ZP := blk_frozen HG.out 2
    have ZQ := blk_frozen HG.out 3
    have ZR := blk_frozen HG.out 4
    by_cases c9 : inn = 3
    ·rw [if_pos c9] at H2
     subst c9
     simp only [Option.some.injEq, Prod.mk.injEq] at H2
     obtain ⟨rfl, rfl, rfl, rfl, rfl, rfl, rfl⟩ := H2
     go_wp2_with (first | ((with_reducible refine gate_store (t := 41) (p := 2) rfl ?_); refine store_event (t := 41) (p := 2) (v := ?vo_bN2_h) (w1 := (((((((wr.setCell ⟨g2, 0, none⟩ (.string h1)).setCell ⟨g2, 1, none⟩ (.string h2)).setCell ⟨g2, 2, none⟩ (.int .i64 h3)).setCell ⟨g2, 3, none⟩ (.slice Ab L.length cb)).setCell ⟨g2, 4, none⟩ (.bool true)).setCell ⟨g2, 5, none⟩ (.int .i64 0)).setCell ⟨g2, 6, none⟩ (.int .i64 0))) ?hg ?ho ?hn ?hr ?_; (case ho => rfl); (case hg => rfl); (case hn => rfl); (case hr => exact hr_); intro wf hw; have F2 := am_ (show wf.heap[g2]? = some (.cells #[.string h1, .string h2, .int .i64 h3, .slice Ab L.length cb, .bool true, .int .i64 0, .int .i64 0] 41 (0, 0)) from by rw [hw]; exact (blk_put (blk_put (blk_put (blk_put (blk_put (blk_put (blk_put B2x 0 _ rfl) 1 _ rfl) 2 _ rfl) 3 _ rfl) 4 _ rfl) 5 _ rfl) 6 _ rfl)); have FB := am_ (show Below w.heap.size w wf from by rw [hw]; exact (below_set (j := 6) (below_set (j := 5) (below_set (j := 4) (below_set (j := 3) (below_set (j := 2) (below_set (j := 1) (below_set (j := 0) HBx fB.out) fB.out) fB.out) fB.out) fB.out) fB.out) fB.out)); have FS := am_ (show Kd.S k53 53 wf (g4 + 1) (fun _ => True) (.slice Ab L.length cb) L from by rw [hw]; exact (rd_mv (rd_mv (rd_mv (rd_mv (rd_mv (rd_mv (rd_mv HSx (g := g2) (i := 0) (by omega) _) (g := g2) (i := 1) (by omega) _) (g := g2) (i := 2) (by omega) _) (g := g2) (i := 3) (by omega) _) (g := g2) (i := 4) (by omega) _) (g := g2) (i := 5) (by omega) _) (g := g2) (i := 6) (by omega) _)); clear hw))
     go_wp2
     refine bodyPost_ret (results_cell_row rfl _ _ g2 41 #[.string h1, .string h2, .int .i64 h3, .slice Ab L.length cb, .bool true, .int .i64 0, .int .i64 0] (0, 0) _ rfl F2.out Tryz.underlying41 rfl (by kernel_rfl)) rfl ?_
     exact ⟨_, rfl, Kd.S_lower FS.out (Nat.le_succ_of_le zA.out), FB.out⟩
    rw [if_neg c9] at H2
    have c9b0 : (inn == 3) = false := beq_eq_false_iff_ne.mpr c9
    have c9b1 : (inn != 3) = true := bne_iff_ne.mpr c9
    clear c9
    simp only [Option.some.injEq, Prod.mk.injEq] at H2
    obtain ⟨rfl, rfl, rfl, rfl, rfl, rfl, rfl⟩ := H2
    go_wp2_with (first | ((with_reducible refine gate_store (t := 2) (p := 45) rfl ?_); refine store_event (t := 2) (p := 45) (v := ?vo_45_h) (w1 := (wr.setCell ⟨g3, 5, none⟩ (.int .i64 (l0.length : Int)))) ?hg ?ho ?hn ?hr ?_; (case ho => rfl); (case hg => rfl); (case hn => rfl); (case hr => exact hr_); intro wa hw; have d5 := (show wa.heap[g3]? = some (.cells #[.string h1, .string h2, .int .i64 h3, .slice none 0 0, .bool h5, .int .i64 (l0.length : Int), .int .i64 0] 41 (0, 0)) from by rw [hw]; exact blk_put B3x 5 _ rfl); have n2_ := (show wa.heap[g2]? = some (.cells #[.string (⟨#[]⟩ : ByteArray), .string (⟨#[]⟩ : ByteArray), .int .i64 0, .slice none 0 0, .bool false, .int .i64 0, .int .i64 0] 41 (0, 0)) from by rw [hw]; exact blk_far (p := ⟨g3, 5, none⟩) B2x fJ _); have b8 := (show Below w.heap.size w wa from by rw [hw]; exact below_set (j := 5) HBx fZ.out); clear hw HBx B2x B3x RN Gg RO Gi RP pH RQ Gj RR Gk RT Gl RU Gm hj0 xZ hj1 ya hj2 yb Mb yc Mc yd Md ye Me yf; have HBx := b8; have B2x := n2_; have B3x := d5; clear b8 n2_ d5; obtain ⟨Ir, Is, It, Iu, RV, RW, RZ⟩ := c7_ B3x; have Gn := blk_frozen B3x 0; have Gp := blk_frozen B3x 1; have Gq := blk_frozen B3x 2; have Gr := blk_frozen B3x 3; have Gs := blk_frozen B3x 4; have Gt := blk_frozen B3x 5; have Gu := blk_frozen B3x 6; obtain ⟨Iv, Iw, DF, Ix, Iy, Iz, IA⟩ := c7_ B2x; have vu := blk_frozen B2x 0; have vv := blk_frozen B2x 1; have vw := blk_frozen B2x 2; have vx := blk_frozen B2x 3; have vy := blk_frozen B2x 4; have vz := blk_frozen B2x 5; have vA := blk_frozen B2x 6) | ((with_reducible refine gate_store (t := 2) (p := 46) rfl ?_); refine store_event (t := 2) (p := 46) (v := ?vo_46_h) (w1 := (wa.setCell ⟨g3, 6, none⟩ (.int .i64 4))) ?hg ?ho ?hn ?hr ?_; (case ho => rfl); (case hg => rfl); (case hn => rfl); (case hr => exact hr_); intro wb hw; have d5 := (show wb.heap[g3]? = some (.cells #[.string h1, .string h2, .int .i64 h3, .slice none 0 0, .bool h5, .int .i64 (l0.length : Int), .int .i64 4] 41 (0, 0)) from by rw [hw]; exact blk_put B3x 6 _ rfl); have n2_ := (show wb.heap[g2]? = some (.cells #[.string (⟨#[]⟩ : ByteArray), .string (⟨#[]⟩ : ByteArray), .int .i64 0, .slice none 0 0, .bool false, .int .i64 0, .int .i64 0] 41 (0, 0)) from by rw [hw]; exact blk_far (p := ⟨g3, 6, none⟩) B2x fJ _); have b8 := (show Below w.heap.size w wb from by rw [hw]; exact below_set (j := 6) HBx fZ.out); clear hw HBx B2x B3x Ir Gn Is Gp It Gq Iu Gr RV Gs RW Gt RZ Gu Iv vu Iw vv DF vw Ix vx Iy vy Iz vz IA vA; have HBx := b8; have B2x := n2_; have B3x := d5; clear b8 n2_ d5; obtain ⟨hs0, vR, Fd, ZF, ZG, ZH, ZI⟩ := c7_ B3x; have R0 := blk_frozen B3x 0; have R1 := blk_frozen B3x 1; have R2 := blk_frozen B3x 2; have R3 := blk_frozen B3x 3; have R4 := blk_frozen B3x 4; have R5 := blk_frozen B3x 5; have R6 := blk_frozen B3x 6; obtain ⟨ZJ, xr, At, U9, ZK, ZL, ZM⟩ := c7_ B2x; have R7 := blk_frozen B2x 0; have R8 := blk_frozen B2x 1; have R9 := blk_frozen B2x 2; have Sa := blk_frozen B2x 3; have Sb := blk_frozen B2x 4; have Sc := blk_frozen B2x 5; have Sd := blk_frozen B2x 6) | ((with_reducible refine gate_store (t := 41) (p := 2) rfl ?_); refine store_event (t := 41) (p := 2) (v := ?vo_bN3_h) (w1 := (((((((wb.setCell ⟨g2, 0, none⟩ (.string h1)).setCell ⟨g2, 1, none⟩ (.string h2)).setCell ⟨g2, 2, none⟩ (.int .i64 h3)).setCell ⟨g2, 3, none⟩ (.slice none 0 0)).setCell ⟨g2, 4, none⟩ (.bool h5)).setCell ⟨g2, 5, none⟩ (.int .i64 (l0.length : Int))).setCell ⟨g2, 6, none⟩ (.int .i64 4))) ?hg ?ho ?hn ?hr ?_; (case ho => rfl); (case hg => rfl); (case hn => rfl); (case hr => exact hr_); intro wf hw; have F2 := am_ (show wf.heap[g2]? = some (.cells #[.string h1, .string h2, .int .i64 h3, .slice none 0 0, .bool h5, .int .i64 (l0.length : Int), .int .i64 4] 41 (0, 0)) from by rw [hw]; exact (blk_put (blk_put (blk_put (blk_put (blk_put (blk_put (blk_put B2x 0 _ rfl) 1 _ rfl) 2 _ rfl) 3 _ rfl) 4 _ rfl) 5 _ rfl) 6 _ rfl)); have FB := am_ (show Below w.heap.size w wf from by rw [hw]; exact (below_set (j := 6) (below_set (j := 5) (below_set (j := 4) (below_set (j := 3) (below_set (j := 2) (below_set (j := 1) (below_set (j := 0) HBx fB.out) fB.out) fB.out) fB.out) fB.out) fB.out) fB.out)); clear hw))
    go_wp2
    refine bodyPost_ret (results_cell_row rfl _ _ g2 41 #[.string h1, .string h2, .int .i64 h3, .slice none 0 0, .bool h5, .int .i64 (l0.length : Int), .int .i64 4] (0, 0) _ rfl F2.out Tryz.underlying41 rfl (by kernel_rfl)) rfl ?_
    exact tg6_4
end Go.Proofs.YtlghcbmkhdibdaaGreatDoor.PFnEnvelopes
