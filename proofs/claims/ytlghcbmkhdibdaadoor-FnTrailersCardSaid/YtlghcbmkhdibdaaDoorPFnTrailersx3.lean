-- printed by a program of this session (wip/xp/xprint.py) out of the translation; Lean checks it
import Derived.Test.YtlghcbmkhdibdaaDoorPFnTrailersx0
import Derived.Test.YtlghcbmkhdibdaaDoorPFnTrailersx1
import Derived.Test.YtlghcbmkhdibdaaDoorPFnTrailersx2
namespace Go.Proofs.YtlghcbmkhdibdaaDoor.PFnTrailers
open Go.RowKit Go.Proofs.YtlghcbmkhdibdaaDoorW.PrintWords Go.Proofs.YtlghcbmkhdibdaaDoorW.PrintLast Go.Proofs.YtlghcbmkhdibdaaDoorW.PrintMore
attribute [local go_sem] max2_int min2_int max_two min_two max_three min_three max_four min_four   -- for this text's walks alone
set_option linter.unusedVariables false
set_option linter.unusedSimpArgs false
set_option maxHeartbeats 8000000
set_option maxRecDepth 100000

theorem is3_0_ {p : Prop} (h : p := by repeat (first | (with_reducible first | exact ay.out | apply IsS111.alloc | apply IsS111.drewN | apply IsS111.drew | apply IsS111.set_1 | apply IsS111.set_2 | apply IsS111.set_3 | refine IsS111.far ?_ (Aside0.out (by assumption)) _) | exact ay.out)) : p := h

theorem au3_0 {p : Prop} (h : p := by repeat (first | (with_reducible first | exact HK.out | apply KeepBut.set_ | apply keep_drewN | apply keep_drew | apply keep_alloc | refine keep_far ?_ j9.out _ | refine keep_far ?_ mh.out _) | exact HK.out)) : p := h
theorem au3_1 {p : Prop} (h : p := by repeat (first | (with_reducible first | exact ay.out | apply IsS111.alloc | apply IsS111.drewN | apply IsS111.drew | apply IsS111.set_1 | apply IsS111.set_2 | apply IsS111.set_3 | refine IsS111.far ?_ cF.out _ | refine IsS111.far ?_ cw.out _) | exact ay.out)) : p := h
theorem au3_2 {p : Prop} (h : p := by repeat (first | (with_reducible first | exact HK.out | apply KeepBut.set_ | apply keep_drewN | apply keep_drew | apply keep_alloc | refine keep_far ?_ j9.out _ | refine keep_far ?_ mh.out _ | refine keep_far ?_ og.out _ | refine keep_far ?_ pL.out _) | exact HK.out)) : p := h
theorem au3_3 {p : Prop} (h : p := by repeat (first | (with_reducible first | exact HB.out | apply below_alloc | apply pw_below_drewN | apply below_drew1 | refine below_set ?_ (IsS111.ge ay.out) | refine below_set ?_ e8.out | refine below_set ?_ jv.out) | exact HB.out)) : p := h
theorem au3_4 {p : Prop} (h : p := by repeat (first | (with_reducible first | exact HK.out | apply KeepBut.set_ | apply keep_drewN | apply keep_drew | apply keep_alloc | refine keep_far ?_ j9.out _ | refine keep_far ?_ mh.out _ | refine keep_far ?_ og.out _ | refine keep_far ?_ pL.out _ | refine keep_far ?_ qQ.out _) | exact HK.out)) : p := h
theorem au3_5 {p : Prop} (h : p := by (with_reducible repeat (first | apply Kd.S_alloc | apply Kd.S_drewN | apply Kd.S_drew)); exact aa.out) : p := h
theorem au3_6 {p : Prop} (h : p := by repeat (first | (with_reducible first | exact HB.out | apply below_alloc | apply pw_below_drewN | apply below_drew1 | refine below_set ?_ (IsS111.ge ay.out) | refine below_set ?_ e8.out | refine below_set ?_ jv.out | refine below_set ?_ lw.out | refine below_set ?_ mi.out | refine below_set ?_ pM.out) | exact HB.out)) : p := h
theorem au3_7 {p : Prop} (h : p := by repeat (first | (with_reducible first | exact HB.out | apply below_alloc | apply pw_below_drewN | apply below_drew1 | refine below_set ?_ (IsS111.ge ay.out) | refine below_set ?_ e8.out | refine below_set ?_ jv.out) | exact HB.out)) : p := h
theorem au3_8 {p : Prop} (h : p := by first | (have q9_ := Kd.own_blk (IsS111.own_neS ay.out aa.out (by decide)); exact q9_) | first | (rw [add_block]; exact Kd.own_blk (IsS111.own_neS ay.out aa.out (by decide))) | (show (Addr.add _ _).block ≠ _; rw [add_block]; exact Kd.own_blk (IsS111.own_neS ay.out aa.out (by decide))) | exact Kd.own_blk (IsS111.own_neS ay.out aa.out (by decide)) | (have q9_ := Kd.own_blk (IsS111.own_neS ay.out aa.out (by decide)); exact q9_)) : p := h
theorem au3_9 {p : Prop} (h : p := by repeat (first | (with_reducible first | exact HK.out | apply KeepBut.set_ | apply keep_drewN | apply keep_drew | apply keep_alloc | refine keep_far ?_ j9.out _ | refine keep_far ?_ mh.out _) | exact HK.out)) : p := h
theorem au3_10 {p : Prop} (h : p := by (with_reducible repeat (first | apply Kd.S_alloc | apply Kd.S_drewN | apply Kd.S_drew)); exact au.out) : p := h
theorem au3_11 {p : Prop} (h : p := by repeat (first | (with_reducible first | exact ay.out | apply IsS111.alloc | apply IsS111.drewN | apply IsS111.drew | apply IsS111.set_1 | apply IsS111.set_2 | apply IsS111.set_3 | refine IsS111.far ?_ cF.out _ | refine IsS111.far ?_ cw.out _ | refine IsS111.far ?_ fp.out _ | refine IsS111.far ?_ eR.out _) | exact ay.out)) : p := h
theorem au3_12 {p : Prop} (h : p := by (with_reducible repeat (first | apply Kd.S_alloc | apply Kd.S_drewN | apply Kd.S_drew)); exact ap.out) : p := h
theorem au3_13 {p : Prop} (h : p := by repeat (first | (with_reducible first | exact HB.out | apply below_alloc | apply pw_below_drewN | apply below_drew1 | refine below_set ?_ (IsS111.ge ay.out) | refine below_set ?_ e8.out | refine below_set ?_ jv.out | refine below_set ?_ lw.out | refine below_set ?_ mi.out) | exact HB.out)) : p := h
theorem au3_14 {p : Prop} (h : p := by repeat (first | (with_reducible first | exact HB.out | apply below_alloc | apply pw_below_drewN | apply below_drew1 | refine below_set ?_ (IsS111.ge ay.out) | refine below_set ?_ e8.out | refine below_set ?_ jv.out | refine below_set ?_ lw.out | refine below_set ?_ mi.out) | exact HB.out)) : p := h
theorem au3_15 {p : Prop} (h : p := by repeat (first | (with_reducible first | exact HK.out | apply KeepBut.set_ | apply keep_drewN | apply keep_drew | apply keep_alloc | refine keep_far ?_ j9.out _ | refine keep_far ?_ mh.out _ | refine keep_far ?_ og.out _) | exact HK.out)) : p := h
theorem au3_16 {p : Prop} (h : p := by repeat (first | (with_reducible first | exact HB.out | apply below_alloc | apply pw_below_drewN | apply below_drew1 | refine below_set ?_ (IsS111.ge ay.out) | refine below_set ?_ e8.out | refine below_set ?_ jv.out | refine below_set ?_ lw.out | refine below_set ?_ mi.out | refine below_set ?_ pM.out) | exact HB.out)) : p := h
theorem au3_17 {p : Prop} (h : p := by repeat (first | (with_reducible first | exact HK.out | apply KeepBut.set_ | apply keep_drewN | apply keep_drew | apply keep_alloc | refine keep_far ?_ j9.out _ | refine keep_far ?_ mh.out _ | refine keep_far ?_ og.out _ | refine keep_far ?_ pL.out _ | refine keep_far ?_ qQ.out _) | exact HK.out)) : p := h
theorem au3_18 {p : Prop} (h : p := by repeat (first | (with_reducible first | exact ay.out | apply IsS111.alloc | apply IsS111.drewN | apply IsS111.drew | apply IsS111.set_1 | apply IsS111.set_2 | apply IsS111.set_3 | refine IsS111.far ?_ cF.out _ | refine IsS111.far ?_ cw.out _ | refine IsS111.far ?_ fp.out _ | refine IsS111.far ?_ eR.out _ | refine IsS111.far ?_ dy.out _) | exact ay.out)) : p := h
theorem au3_19 {p : Prop} (h : p := by repeat (first | (with_reducible first | exact HK.out | apply KeepBut.set_ | apply keep_drewN | apply keep_drew | apply keep_alloc | refine keep_far ?_ j9.out _) | exact HK.out)) : p := h
theorem au3_20 {p : Prop} (h : p := by repeat (first | (with_reducible first | exact HB.out | apply below_alloc | apply pw_below_drewN | apply below_drew1 | refine below_set ?_ (IsS111.ge ay.out) | refine below_set ?_ e8.out | refine below_set ?_ jv.out | refine below_set ?_ lw.out | refine below_set ?_ mi.out | refine below_set ?_ pM.out) | exact HB.out)) : p := h
theorem au3_21 {p : Prop} (h : p := by (with_reducible repeat (first | apply Kd.S_alloc | apply Kd.S_drewN | apply Kd.S_drew)); exact b5.out) : p := h
theorem au3_22 {p : Prop} (h : p := by repeat (first | (with_reducible first | exact HB.out | apply below_alloc | apply pw_below_drewN | apply below_drew1 | refine below_set ?_ (IsS111.ge ay.out) | refine below_set ?_ e8.out | refine below_set ?_ jv.out) | exact HB.out)) : p := h
theorem au3_23 {p : Prop} (h : p := by first | rfl | (simp [errW_none, errW_some] <;> rfl) | (simp [*, errW_none, errW_some] <;> rfl)) : p := h
theorem au3_24 {p : Prop} (h : p := by (with_reducible repeat (first | apply Kd.N_alloc | apply Kd.N_drewN | apply Kd.N_drew)); exact aa.out) : p := h
theorem au3_25 {p : Prop} (h : p := by first | exact Kd.S_nil _ _ _ _ _ | exact Kd.N_nil _ _ _ _ _ | exact Kd.V_nil _ _ _ _ _ | exact Kd.Q_nil _ _ _ _ _ | exact Kd.R_nil _ _ _ _ _) : p := h
theorem au3_26 {p : Prop} (h : p := by (with_reducible repeat (first | apply Kd.S_alloc | apply Kd.S_drewN | apply Kd.S_drew)); exact Kd.S_mono aa.out (fun _ hk => ⟨⟨hk.1.1.1, ⟨hk.1.2, ⟨hk.1.1.2.2.1, ⟨hk.1.1.2.2.2, hk.2⟩⟩⟩⟩, hk.1.1.2.1⟩)) : p := h
theorem au3_27 {p : Prop} (h : p := by exact (by (with_reducible repeat (first | apply Kd.S_alloc | apply Kd.S_drewN | apply Kd.S_drew)); exact Kd.S_mono ap.out (fun k_ hk => ⟨hk.2, fun xV => Nat.not_le.2 hk.1.1.1 xV.1⟩))) : p := h
theorem au3_28 {p : Prop} (h : p := by rintro w' ⟨s0, s1, s2, s3, s4, s5, s6⟩; go_simp; with_reducible rfl) : p := h
theorem au3_29 {p : Prop} (h : p := by (with_reducible repeat (first | apply Kd.S_alloc | apply Kd.S_drewN | apply Kd.S_drew)); exact Kd.S_mono au.out (fun _ hk => ⟨⟨hk.1.2, ⟨hk.1.1.2, hk.2⟩⟩, hk.1.1.1⟩)) : p := h
theorem au3_30 {p : Prop} (h : p := by (with_reducible repeat (first | apply Kd.S_alloc | apply Kd.S_drewN | apply Kd.S_drew)); exact (Kd.S_mono (Kd.S_far (p := ⟨av, 1, none⟩) (Kd.S_far (p := ⟨av, 0, none⟩) (Kd.S_types b5.out bp.out (by decide)) (fun _ hk => hk.2) (.string bX)) (fun _ hk => hk.2) (.slice lx bw.length kB)) (fun _ h_ => h_.1))) : p := h
theorem au3_31 {p : Prop} (h : p := by (with_reducible repeat (first | apply Kd.S_alloc | apply Kd.S_drewN | apply Kd.S_drew)); exact (Kd.S_mono (Kd.S_far (p := ⟨av, 1, none⟩) (Kd.S_far (p := ⟨av, 0, none⟩) (Kd.S_types b5.out bp.out (by decide)) (fun _ hk => hk.2) (.string bX)) (fun _ hk => hk.2) (.slice qR bw.length pN)) (fun _ h_ => h_.1))) : p := h
theorem au3_32 {p : Prop} (h : p := by (with_reducible repeat (first | apply Kd.S_alloc | apply Kd.S_drewN | apply Kd.S_drew)); exact (Kd.S_mono (Kd.S_far (p := ⟨av, 1, none⟩) (Kd.S_far (p := ⟨av, 0, none⟩) (Kd.S_types b5.out bp.out (by decide)) (fun _ hk => hk.2) (.string bX)) (fun _ hk => hk.2) (.slice nx bw.length mj)) (fun _ h_ => h_.1))) : p := h
theorem au3_33 {p : Prop} (h : p := by (with_reducible repeat (first | apply Kd.S_alloc | apply Kd.S_drewN | apply Kd.S_drew)); exact (Kd.S_mono (Kd.S_far (p := ⟨av, 1, none⟩) (Kd.S_far (p := ⟨av, 0, none⟩) (Kd.S_types b5.out bp.out (by decide)) (fun _ hk => hk.2) (.string bX)) (fun _ hk => hk.2) (.slice z8 bw.length uE)) (fun _ h_ => h_.1))) : p := h
theorem au3_34 {p : Prop} (h : p := by (with_reducible repeat (first | apply Kd.S_alloc | apply Kd.S_drewN | apply Kd.S_drew)); exact (Kd.S_mono (Kd.S_far (p := ⟨av, 1, none⟩) (Kd.S_far (p := ⟨av, 0, none⟩) (Kd.S_types b5.out bp.out (by decide)) (fun _ hk => hk.2) (.string bX)) (fun _ hk => hk.2) (.slice ny bw.length ml)) (fun _ h_ => h_.1))) : p := h
theorem au3_35 {p : Prop} (h : p := by repeat (first | (with_reducible first | exact ay.out | apply IsS111.alloc | apply IsS111.drewN | apply IsS111.drew | apply IsS111.set_1 | apply IsS111.set_2 | apply IsS111.set_3 | refine IsS111.far ?_ cF.out _ | refine IsS111.far ?_ cw.out _ | refine IsS111.far ?_ fp.out _) | exact ay.out)) : p := h
theorem au3_36 {p : Prop} (h : p := by repeat (first | (with_reducible first | exact HB.out | apply below_alloc | apply pw_below_drewN | apply below_drew1 | refine below_set ?_ (IsS111.ge ay.out) | refine below_set ?_ e8.out | refine below_set ?_ jv.out | refine below_set ?_ lw.out | refine below_set ?_ mi.out) | exact HB.out)) : p := h
theorem au3_37 {p : Prop} (h : p := by repeat (first | (with_reducible first | exact HK.out | apply KeepBut.set_ | apply keep_drewN | apply keep_drew | apply keep_alloc) | exact HK.out)) : p := h
theorem au3_38 {p : Prop} (h : p := by repeat (first | (with_reducible first | exact HK.out | apply KeepBut.set_ | apply keep_drewN | apply keep_drew | apply keep_alloc | refine keep_far ?_ j9.out _ | refine keep_far ?_ mh.out _ | refine keep_far ?_ og.out _ | refine keep_far ?_ pL.out _) | exact HK.out)) : p := h
theorem au3_39 {p : Prop} (h : p := by repeat (first | (with_reducible first | exact HB.out | apply below_alloc | apply pw_below_drewN | apply below_drew1 | refine below_set ?_ (IsS111.ge ay.out) | refine below_set ?_ e8.out | refine below_set ?_ jv.out | refine below_set ?_ lw.out) | exact HB.out)) : p := h
theorem au3_40 {p : Prop} (h : p := by repeat (first | (with_reducible first | exact HB.out | apply below_alloc | apply pw_below_drewN | apply below_drew1 | refine below_set ?_ (IsS111.ge ay.out) | refine below_set ?_ e8.out | refine below_set ?_ jv.out | refine below_set ?_ lw.out) | exact HB.out)) : p := h
theorem au3_41 {p : Prop} (h : p := by repeat (first | (with_reducible first | exact HB.out | apply below_alloc | apply pw_below_drewN | apply below_drew1 | refine below_set ?_ (IsS111.ge ay.out) | refine below_set ?_ e8.out | refine below_set ?_ jv.out | refine below_set ?_ lw.out) | exact HB.out)) : p := h
theorem au3_42 {p : Prop} (h : p := by have := dk.out; have := HK2.out; have := pC.out; omega) : p := h
theorem au3_43 {p : Prop} (h : p := by repeat (first | (with_reducible first | exact HK.out | apply KeepBut.set_ | apply keep_drewN | apply keep_drew | apply keep_alloc | refine keep_far ?_ j9.out _ | refine keep_far ?_ mh.out _ | refine keep_far ?_ og.out _) | exact HK.out)) : p := h
theorem au3_44 {p : Prop} (h : p := by repeat (first | (with_reducible first | exact ay.out | apply IsS111.alloc | apply IsS111.drewN | apply IsS111.drew | apply IsS111.set_1 | apply IsS111.set_2 | apply IsS111.set_3 | refine IsS111.far ?_ cF.out _) | exact ay.out)) : p := h
theorem au3_45 {p : Prop} (h : p := by repeat (first | (with_reducible first | exact HB.out | apply below_alloc | apply pw_below_drewN | apply below_drew1 | refine below_set ?_ (IsS111.ge ay.out) | refine below_set ?_ e8.out) | exact HB.out)) : p := h
theorem au3_46 {p : Prop} (h : p := by repeat (first | (with_reducible first | exact HB.out | apply below_alloc | apply pw_below_drewN | apply below_drew1 | refine below_set ?_ (IsS111.ge ay.out) | refine below_set ?_ e8.out) | exact HB.out)) : p := h
theorem au3_47 {p : Prop} (h : p := by (with_reducible repeat (first | apply Kd.S_alloc | apply Kd.S_drewN | apply Kd.S_drew)); exact Kd.S_mono aa.out (fun _ hk => ⟨hk.1.1.1, ⟨hk.1.1.2.1, ⟨hk.1.1.2.2.1, hk.1.1.2.2.2⟩⟩⟩)) : p := h
theorem au3_48 {p : Prop} (h : p := by exact k52_mkM _ _ _ (⟨bX, bw⟩ : S52) (Kd.S_types b5.out bp.out (by decide))) : p := h
theorem au3_49 {p : Prop} (h : p := by (with_reducible repeat (first | apply Kd.S_alloc | apply Kd.S_drewN | apply Kd.S_drew)); exact Kd.S_mono au.out (fun _ hk => ⟨hk.1.1.1, hk.1.1.2⟩)) : p := h
theorem au3_50 {p : Prop} (h : p := by (with_reducible repeat (first | apply Kd.S_alloc | apply Kd.S_drewN | apply Kd.S_drew)); exact Kd.S_mono ap.out (fun _ hk => trivial)) : p := h
theorem au3_51 {p : Prop} (h : p := by (with_reducible repeat (first | apply Kd.S_alloc | apply Kd.S_drewN | apply Kd.S_drew)); exact aa.out) : p := h
theorem au3_52 {p : Prop} (h : p := by (with_reducible repeat (first | apply Kd.R_alloc | apply Kd.R_drewN | apply Kd.R_drew)); exact k8.out) : p := h
theorem au3_53 {p : Prop} (h : p := by exact (Kd.S_reads' b5.out).2.1) : p := h
theorem au3_54 {p : Prop} (h : p := by first | exact tG | exact of_decide_eq_true as_ | (have e_ := (Kd.S_reads' aa.out).1; omega)) : p := h
theorem au3_55 {p : Prop} (h : p := by have := dk.out; have := HK2.out; omega) : p := h

/-! ### F45: function 45 -/
theorem ix_info52 : (Tryd.prog.info? 52).map (fun i => (i.zero, i.size, i.bytes)) = some (some (.agg #[(.string ⟨#[]⟩), (.slice none 0 0)]), 2, 40) := by kernel_rfl
theorem ix_info83 : (Tryd.prog.info? 83).map (fun i => (i.zero, i.size, i.bytes)) = some (some (.agg #[(.int .i64 0), (.int .i64 0), (.slice none 0 0)]), 3, 40) := by kernel_rfl
theorem ix_info85 : (Tryd.prog.info? 85).map (fun i => (i.zero, i.size, i.bytes)) = some (some (.agg #[(.int .i64 0), (.slice none 0 0)]), 2, 32) := by kernel_rfl
theorem ix_elderL {α : Type} {d : Kd α} {e base : Nat} {w : World} {ok : Nat → Prop} {v : Value} {xs : List α} (h : Kd.S d e w base ok v xs) (a : Nat) (ha : w.heap.size ≤ a) : Kd.S d e w base (fun k => ok k ∧ k < a) v xs := Kd.S_mono (Kd.S_bound h) (fun k hk => ⟨hk.1, Nat.lt_of_lt_of_le hk.2.2.1 ha⟩)
/-- The messages of a bundle, appended to, and the bundle's cell stored. -/
theorem ix_putM {b0 gbk n c : Nat} {W w6 : World} {L : List S83} {i : Int} {oki : Nat → Prop} {f0 f1 : Int} {ms ms' : List S85} {v2 v6 : Value}
  (hH : Kd.H k83 83 W b0 (fun k_ => b0 ≤ k_) (.slice (some ⟨gbk, 0, none⟩) n c) L i oki [.int .i64 f0, .int .i64 f1, v2]) (hM : k85.S 85 W b0 oki v2 ms) (hoki : ∀ k_, oki k_ → k_ ≠ gbk) (hlt : gbk < W.heap.size) (h0 : 0 ≤ i) (h1 : i < n)
  (hsz : b0 ≤ W.heap.size) (ho : k85.S 85 w6 b0 (fun k_ => oki k_ ∨ W.heap.size ≤ k_) v6 ms') (qx : W.grownBy w6 v2.ownBlock) :
  (w6.cell? ⟨gbk, i.toNat * 3 + 2, none⟩ = some v2 ∧ w6.frozen? ⟨gbk, i.toNat * 3 + 2, none⟩ = false) ∧ Kd.S k83 83 (w6.setCell ⟨gbk, i.toNat * 3 + 2, none⟩ v6) b0 (fun k_ => b0 ≤ k_) (.slice (some ⟨gbk, 0, none⟩) n c) (L.set i.toNat ⟨f0, f1, ms'⟩) := by
 obtain ⟨A6, c6, rfl⟩ := Kd.S_slice ho
 have h6 := Kd.H_step (Kd.H_widen hH) (w1 := w6) (fun k _ hn hk => qx.block k hk (fun e_ => hn (.inl ((Kd.S_R hM).1 k e_.symm))))
 obtain ⟨h7, h8⟩ := Kd.H_seg h6 h0 h1 (seg := [.slice A6 ms'.length c6]) (j := 2) (by show 2 + 1 ≤ 3; omega) (by simp [Value.oneCell'])
 have e : w6.setCells gbk (i.toNat * k83.sz + 2) [.slice A6 ms'.length c6] = w6.setCell ⟨gbk, i.toNat * 3 + 2, none⟩ (.slice A6 ms'.length c6) := rfl
 rw [e] at h7 h8
 obtain ⟨rows, hl, hraw, _, _, hcc, _⟩ := Kd.H_raw h6 h0 h1
 obtain ⟨_, _, _, _, hfr⟩ := Kd.R_elem hraw [] i h0 h1
 refine ⟨⟨hcc 2 _ rfl, hfr 2⟩, ?_⟩
 refine Kd.H_back h7 (k83_mkM _ _ _ (⟨f0, f1, ms'⟩ : S83) (Kd.S_step ho (fun k hk hl => h8.block k hl (fun he => ?_)))) (fun k hk => hk.elim .inl (fun h_ => .inr ⟨Nat.le_trans hsz h_, h_⟩))
 have he : k = gbk := by injection he
 rcases hk with hk | hk
 ·exact hoki k hk he
 ·omega
/-! ### F45: function 45 -/
def F45.l4 : Nat → List Int → Int → Int → Int → ByteArray → ByteArray → Int → List (S83) → Option (ByteArray × ByteArray × Int × (List (S83)) × Int × Int × Int)
  | 0, _, _, _, _, _, _, _, _ => none
  | k + 1, x1, x2, x3, x4, a, b, c, x => if 0 < (x.length : Int) then ((F68.f x1 x2 x3 x4 2).bind fun bt => (if (((rd_T83 x 0).f2).length : Int) < (wrap64 (10 + bt.1)) then (if ((rd_T83 x 0).f2).length < 4398046511104 then (F45.l4 k x1 bt.2.1 bt.2.2.1 bt.2.2.2 a b c (x.set (0 : Int).toNat (⟨(rd_T83 x 0).f0, (rd_T83 x 0).f1, (rd_T83 x 0).f2 ++ [(⟨1, []⟩ : S85)]⟩ : S83))) else (none)) else (some (a, b, c, x, bt.2.1, bt.2.2.1, bt.2.2.2)))) else (none)
theorem F45.mono_l4 : ∀ k y0 y1 y2 y3 y4 y5 y6 y7, LeO (F45.l4 k y0 y1 y2 y3 y4 y5 y6 y7) (F45.l4 (k + 1) y0 y1 y2 y3 y4 y5 y6 y7)
 | 0 => fun _ _ _ _ _ _ _ _ r h => by simp [F45.l4] at h
 | k + 1 => by
  have ih := F45.mono_l4 k
  intro y0 y1 y2 y3 y4 y5 y6 y7
  unfold F45.l4
  repeat' first
   | (with_reducible exact ih _ _ _ _ _ _ _ _)
   | (with_reducible exact LeO.refl _)
   | (with_reducible exact LeO.none _)
   | (with_reducible refine LeO.ite ?_ ?_)
   | (with_reducible refine LeO.bind ?_ (fun _ => ?_))
   | exact ih _ _ _ _ _ _ _ _
mutual
def F45.l0 : Nat → Int → List Int → Int → Int → Int → ByteArray → ByteArray → Int → List (S83) → Option (ByteArray × ByteArray × Int × (List (S83)) × Int × Int × Int)
  | 0, _, _, _, _, _, _, _, _, _ => none
  | k + 1, x4, be, dm, dn, dp, ci, cf, cj, bG => if x4 > 0 then ((F68.f be dm dn dp 7).bind fun xW => ((F68.f be xW.2.1 xW.2.2.1 xW.2.2.2 99).bind fun xX => ((F68.f be xX.2.1 xX.2.2.1 xX.2.2.2 2).bind fun xY => (F45.l1 k x4 (wrap64 (1 + xY.1)) be xY.2.1 xY.2.2.1 xY.2.2.2 ci cf cj bG (wrap64 (1 + xW.1)) (wrap64 (1 + xX.1)) ([] : List (S85)))))) else ((F70.f be dm dn dp 20).bind fun pO => (if pO.1 = true then ((F68.f be pO.2.1 pO.2.2.1 pO.2.2.2 6).bind fun eg => (if eg.1 = 0 then ((F67.f be eg.2.1 eg.2.2.1 eg.2.2.2 (([(⟨#[]⟩ : ByteArray), (⟨#[97]⟩ : ByteArray), (⟨#[65, 66, 67, 68, 69, 70, 71, 72, 73, 74, 75, 76, 77]⟩ : ByteArray), (⟨#[65, 32, 66]⟩ : ByteArray)] : List ByteArray))).bind fun mn => (some (mn.1, cf, cj, bG, mn.2.1, mn.2.2.1, mn.2.2.2))) else (if eg.1 = 1 then ((some (([0, 999999, 1000000] : List Int) : List Int)).bind fun rV => ((F68.f be eg.2.1 eg.2.2.1 eg.2.2.2 3).bind fun jw => (if 0 ≤ jw.1 then (if jw.1 < (rV.length : Int) then (some (ci, cf, rd rV jw.1, bG, jw.2.1, jw.2.2.1, jw.2.2.2)) else (none)) else (none)))) else (if eg.1 = 2 then (some (ci, cf, cj, ([] : List (S83)), eg.2.1, eg.2.2.1, eg.2.2.2)) else (if eg.1 = 3 then ((F68.f be eg.2.1 eg.2.2.1 eg.2.2.2 2).bind fun xZ => (if 0 < (bG.length : Int) then (some (ci, cf, cj, (bG.set (0 : Int).toNat (⟨wrap64 (8 * xZ.1), (rd_T83 bG 0).f1, (rd_T83 bG 0).f2⟩ : S83)), xZ.2.1, xZ.2.2.1, xZ.2.2.2)) else (none))) else (if eg.1 = 4 then (F45.l3 k be eg.2.1 eg.2.2.1 eg.2.2.2 ci cf cj bG) else (F45.l4 k be eg.2.1 eg.2.2.1 eg.2.2.2 ci cf cj bG))))))) else (some (ci, cf, cj, bG, pO.2.1, pO.2.2.1, pO.2.2.2))))
def F45.l1 : Nat → Int → Int → List Int → Int → Int → Int → ByteArray → ByteArray → Int → List (S83) → Int → Int → List (S85) → Option (ByteArray × ByteArray × Int × (List (S83)) × Int × Int × Int)
  | 0, _, _, _, _, _, _, _, _, _, _, _, _, _ => none
  | k + 1, x4, x6, be, dm, dn, dp, ci, cf, cj, bG, gV, gW, fY => if x6 > 0 then ((F68.f be dm dn dp 99).bind fun ya => ((F68.f be ya.2.1 ya.2.2.1 ya.2.2.2 4).bind fun yb => (F45.l2 k x4 x6 yb.1 be yb.2.1 yb.2.2.1 yb.2.2.2 ci cf cj bG gV gW fY (wrap64 (1 + ya.1)) ([] : List (S52))))) else (if bG.length < 3518437208883 then (F45.l0 k (wrap64 (x4 - 1)) be dm dn dp ci cf cj (bG ++ [(⟨gV, gW, fY⟩ : S83)])) else (none))
def F45.l2 : Nat → Int → Int → Int → List Int → Int → Int → Int → ByteArray → ByteArray → Int → List (S83) → Int → Int → List (S85) → Int → List (S52) → Option (ByteArray × ByteArray × Int × (List (S83)) × Int × Int × Int)
  | 0, _, _, _, _, _, _, _, _, _, _, _, _, _, _, _, _ => none
  | k + 1, x4, x6, x8, be, dm, dn, dp, ci, cf, cj, bG, gV, gW, fY, k9, gX => if x8 > 0 then ((F69.f k be dm dn dp).bind fun fF => ((F46.f k fF.1 fF.2.1).bind fun Rk => (if Rk = true then ((F47.f fF.1).bind fun Rl => (if Rl = true then ((F70.f be fF.2.2.1 fF.2.2.2.1 fF.2.2.2.2 40).bind fun pP => (if pP.1 = true then (if gX.length < 3518437208883 then (F45.l2 k x4 x6 (wrap64 (x8 - 1)) be pP.2.1 pP.2.2.1 pP.2.2.2 ci cf cj bG gV gW fY k9 (gX ++ [(⟨fF.1, fF.2.1⟩ : S52)])) else (none)) else (F45.l2 k x4 x6 (wrap64 (x8 - 1)) be pP.2.1 pP.2.2.1 pP.2.2.2 ci cf cj bG gV gW fY k9 gX))) else (if gX.length < 3518437208883 then (F45.l2 k x4 x6 (wrap64 (x8 - 1)) be fF.2.2.1 fF.2.2.2.1 fF.2.2.2.2 ci cf cj bG gV gW fY k9 (gX ++ [(⟨fF.1, fF.2.1⟩ : S52)])) else (none)))) else ((F70.f be fF.2.2.1 fF.2.2.2.1 fF.2.2.2.2 40).bind fun pQ => (if pQ.1 = true then (if gX.length < 3518437208883 then (F45.l2 k x4 x6 (wrap64 (x8 - 1)) be pQ.2.1 pQ.2.2.1 pQ.2.2.2 ci cf cj bG gV gW fY k9 (gX ++ [(⟨fF.1, fF.2.1⟩ : S52)])) else (none)) else (F45.l2 k x4 x6 (wrap64 (x8 - 1)) be pQ.2.1 pQ.2.2.1 pQ.2.2.2 ci cf cj bG gV gW fY k9 gX)))))) else (if fY.length < 4398046511104 then (F45.l1 k x4 (wrap64 (x6 - 1)) be dm dn dp ci cf cj bG gV gW (fY ++ [(⟨k9, gX⟩ : S85)])) else (none))
def F45.l3 : Nat → List Int → Int → Int → Int → ByteArray → ByteArray → Int → List (S83) → Option (ByteArray × ByteArray × Int × (List (S83)) × Int × Int × Int)
  | 0, _, _, _, _, _, _, _, _ => none
  | k + 1, be, dm, dn, dp, ci, cf, cj, bG => (F68.f be dm dn dp 2).bind fun pR => (if (bG.length : Int) < (wrap64 (5 + pR.1)) then (if 0 < (bG.length : Int) then (if bG.length < 3518437208883 then (F45.l3 k be pR.2.1 pR.2.2.1 pR.2.2.2 ci cf cj (bG ++ [(⟨(rd_T83 bG 0).f0, (rd_T83 bG 0).f1, (rd_T83 bG 0).f2⟩ : S83)])) else (none)) else (none)) else (some (ci, cf, cj, bG, pR.2.1, pR.2.2.1, pR.2.2.2)))
end
def F45.f (k : Nat) (ae : List Int) (bh : Int) (am : Int) (bB : Int) : Option (ByteArray × ByteArray × Int × (List (S83)) × Int × Int × Int) := (F67.f ae bh am bB (([(⟨#[65, 67, 77, 69]⟩ : ByteArray), (⟨#[66, 79, 76, 84]⟩ : ByteArray), (⟨#[67, 45, 49]⟩ : ByteArray)] : List ByteArray))).bind fun iP => ((F68.f ae iP.2.1 iP.2.2.1 iP.2.2.2 60).bind fun iQ => ((F68.f ae iQ.2.1 iQ.2.2.1 iQ.2.2.2 2).bind fun iR => (F45.l0 k (wrap64 (1 + iR.1)) ae iR.2.1 iR.2.2.1 iR.2.2.2 iP.1 (⟨#[68, 79, 67, 75]⟩ : ByteArray) (wrap64 (1 + iQ.1)) ([] : List (S83)))))
theorem F45.mono_l : ∀ k, (∀ y0 y1 y2 y3 y4 y5 y6 y7 y8, LeO (F45.l0 k y0 y1 y2 y3 y4 y5 y6 y7 y8) (F45.l0 (k + 1) y0 y1 y2 y3 y4 y5 y6 y7 y8)) ∧ (∀ y0 y1 y2 y3 y4 y5 y6 y7 y8 y9 lD pF uw, LeO (F45.l1 k y0 y1 y2 y3 y4 y5 y6 y7 y8 y9 lD pF uw) (F45.l1 (k + 1) y0 y1 y2 y3 y4 y5 y6 y7 y8 y9 lD pF uw)) ∧ (∀ y0 y1 y2 y3 y4 y5 y6 y7 y8 y9 lD pF uw y13 y14 y15, LeO (F45.l2 k y0 y1 y2 y3 y4 y5 y6 y7 y8 y9 lD pF uw y13 y14 y15) (F45.l2 (k + 1) y0 y1 y2 y3 y4 y5 y6 y7 y8 y9 lD pF uw y13 y14 y15)) ∧ (∀ y0 y1 y2 y3 y4 y5 y6 y7, LeO (F45.l3 k y0 y1 y2 y3 y4 y5 y6 y7) (F45.l3 (k + 1) y0 y1 y2 y3 y4 y5 y6 y7))
 | 0 => ⟨fun _ _ _ _ _ _ _ _ _ r h => by simp [F45.l0] at h, fun _ _ _ _ _ _ _ _ _ _ _ _ _ r h => by simp [F45.l1] at h, fun _ _ _ _ _ _ _ _ _ _ _ _ _ _ _ _ r h => by simp [F45.l2] at h, fun _ _ _ _ _ _ _ _ r h => by simp [F45.l3] at h⟩
 | k + 1 => by
  obtain ⟨b6, fd, gI, ke⟩ := F45.mono_l k
  refine ⟨?_, ?_, ?_, ?_⟩
  rotate_left
  ·intro y0 y1 y2 y3 y4 y5 y6 y7 y8 y9 lD pF uw
   unfold F45.l1
   repeat' with_reducible first | exact b6 _ _ _ _ _ _ _ _ _ | exact fd _ _ _ _ _ _ _ _ _ _ _ _ _ | exact gI _ _ _ _ _ _ _ _ _ _ _ _ _ _ _ _ | exact ke _ _ _ _ _ _ _ _ | exact F46.mono _ _ _ | exact F69.mono _ _ _ _ _ | exact F45.mono_l4 _ _ _ _ _ _ _ _ _ | exact LeO.refl _ | exact LeO.none _ | refine LeO.ite ?_ ?_ | refine LeO.bind ?_ (fun _ => ?_)
  ·intro y0 y1 y2 y3 y4 y5 y6 y7 y8 y9 lD pF uw y13 y14 y15
   unfold F45.l2
   repeat' with_reducible first | exact b6 _ _ _ _ _ _ _ _ _ | exact fd _ _ _ _ _ _ _ _ _ _ _ _ _ | exact gI _ _ _ _ _ _ _ _ _ _ _ _ _ _ _ _ | exact ke _ _ _ _ _ _ _ _ | exact F46.mono _ _ _ | exact F69.mono _ _ _ _ _ | exact F45.mono_l4 _ _ _ _ _ _ _ _ _ | exact LeO.refl _ | exact LeO.none _ | refine LeO.ite ?_ ?_ | refine LeO.bind ?_ (fun _ => ?_)
  ·intro y0 y1 y2 y3 y4 y5 y6 y7
   unfold F45.l3
   repeat' with_reducible first | exact b6 _ _ _ _ _ _ _ _ _ | exact fd _ _ _ _ _ _ _ _ _ _ _ _ _ | exact gI _ _ _ _ _ _ _ _ _ _ _ _ _ _ _ _ | exact ke _ _ _ _ _ _ _ _ | exact F46.mono _ _ _ | exact F69.mono _ _ _ _ _ | exact F45.mono_l4 _ _ _ _ _ _ _ _ _ | exact LeO.refl _ | exact LeO.none _ | refine LeO.ite ?_ ?_ | refine LeO.bind ?_ (fun _ => ?_)
  intro y0 y1 y2 y3 y4 y5 y6 y7 y8
  unfold F45.l0
  repeat' with_reducible first | exact b6 _ _ _ _ _ _ _ _ _ | exact fd _ _ _ _ _ _ _ _ _ _ _ _ _ | exact gI _ _ _ _ _ _ _ _ _ _ _ _ _ _ _ _ | exact ke _ _ _ _ _ _ _ _ | exact F46.mono _ _ _ | exact F69.mono _ _ _ _ _ | exact F45.mono_l4 _ _ _ _ _ _ _ _ _ | exact LeO.refl _ | exact LeO.none _ | refine LeO.ite ?_ ?_ | refine LeO.bind ?_ (fun _ => ?_)
theorem F45.mono : ∀ a0 a1 a2 a3 k, LeO (F45.f k a0 a1 a2 a3) (F45.f (k + 1) a0 a1 a2 a3) := by
 intro a0 a1 a2 a3 k
 obtain ⟨b6, fd, gI, ke⟩ := F45.mono_l k
 unfold F45.f
 repeat' with_reducible first | exact b6 _ _ _ _ _ _ _ _ _ | exact fd _ _ _ _ _ _ _ _ _ _ _ _ _ | exact gI _ _ _ _ _ _ _ _ _ _ _ _ _ _ _ _ | exact ke _ _ _ _ _ _ _ _ | exact F46.mono _ _ _ | exact F69.mono _ _ _ _ _ | exact F45.mono_l4 _ _ _ _ _ _ _ _ _ | exact LeO.refl _ | exact LeO.none _ | refine LeO.ite ?_ ?_ | refine LeO.bind ?_ (fun _ => ?_)
def F45.T20 : Bool × List (List Nat × List Nat) := (true, [([], []), ([0], [0]), ([1], [1]), ([2], [2]), ([3], [3]), ([4], [4]), ([], []), ([6], [6]), ([7], [7]), ([5, 8], [5, 8])])
def F45.B20 : List Nat := [0, 1, 3, 7, 15, 31, 0, 64, 192, 511]
theorem F45.tab20 : rtab .any (opsOf Tryd.f45 20) = F45.T20 := by kernel_rfl
theorem F45.bits20 : waitsOk F45.T20.2 F45.B20 = true := by kernel_rfl
def F45.T29 : Bool × List (List Nat × List Nat) := (true, [([], []), ([0], [0]), ([], []), ([2], [2]), ([3], [3]), ([1, 0, 1, 2, 3, 4], [1]), ([5, 0, 1, 2, 3, 4], [5]), ([6, 4, 3, 0, 1, 2, 3, 4], [4, 6])])
def F45.B29 : List Nat := [0, 1, 0, 4, 12, 31, 63, 127]
theorem F45.tab29 : rtab .any (opsOf Tryd.f45 29) = F45.T29 := by kernel_rfl
theorem F45.bits29 : waitsOk F45.T29.2 F45.B29 = true := by kernel_rfl
def F45.T32 : Bool × List (List Nat × List Nat) := (true, [([], []), ([0], [0]), ([], []), ([2], [2]), ([3], [3]), ([4], [4]), ([5], [5]), ([1, 6], [1, 6]), ([0, 1, 2, 3, 4, 5, 6, 7], []), ([8, 7, 7, 0, 1, 2, 3, 4, 5, 6, 7], [7, 8])])
def F45.B32 : List Nat := [0, 1, 0, 4, 12, 28, 60, 127, 255, 511]
theorem F45.tab32 : rtab .any (opsOf Tryd.f45 32) = F45.T32 := by kernel_rfl
theorem F45.bits32 : waitsOk F45.T32.2 F45.B32 = true := by kernel_rfl
theorem F45.calls (k : Nat) (g : Nat) (ae : List Int) (bh : Int) (am : Int) (bB : Int) (r1 : ByteArray) (r2 : ByteArray) (r3 : Int) (r4 : List (S83)) (r5 : Int) (r6 : Int) (r7 : Int) (w0 w : World) (hI : IsS111 w0 w g ae bh am bB) (hB : Below w0.heap.size w0 w) (h : F45.f k ae bh am bB = some (r1, r2, r3, r4, r5, r6, r7)) :
  Calls Tryd.prog 45 #[.pointer (some ⟨g, 0, none⟩)] w fun e w' => ∃ yc : Value, e = .returned (.agg #[.string r1, .string r2, .int .i64 r3, yc]) ∧ Kd.N k83 83 w' w.heap.size (fun k_ => (w.heap.size ≤ k_)) yc r4 ∧ IsS111 w0 w' g ae r5 r6 r7 ∧ Below w0.heap.size w0 w' ∧ KeepBut w w' g none := by
 have tH := Tryd.underlying29
 have Aa := Tryd.underlying83
 have GL := Tryd.underlying85
 have jn := Tryd.underlying52
 have ay := am_ hI
 have HK := am_ (KeepBut.refl w g none)
 have HL := am_ hB.size
 clear hI
 have qy := am_ hB.size
 have HB := am_ hB
 clear hB
 have H : ((F67.f ae bh am bB (([(⟨#[65, 67, 77, 69]⟩ : ByteArray), (⟨#[66, 79, 76, 84]⟩ : ByteArray), (⟨#[67, 45, 49]⟩ : ByteArray)] : List ByteArray))).bind fun iP => ((F68.f ae iP.2.1 iP.2.2.1 iP.2.2.2 60).bind fun iQ => ((F68.f ae iQ.2.1 iQ.2.2.1 iQ.2.2.2 2).bind fun iR => (F45.l0 k (wrap64 (1 + iR.1)) ae iR.2.1 iR.2.2.1 iR.2.2.2 iP.1 (⟨#[68, 79, 67, 75]⟩ : ByteArray) (wrap64 (1 + iQ.1)) ([] : List (S83)))))) = some (r1, r2, r3, r4, r5, r6, r7) := h
 clear h
 obtain ⟨Rm, CI⟩ : ∃ y_ : List ByteArray, y_ = (([(⟨#[65, 67, 77, 69]⟩ : ByteArray), (⟨#[66, 79, 76, 84]⟩ : ByteArray), (⟨#[67, 45, 49]⟩ : ByteArray)] : List ByteArray)) := ⟨_, rfl⟩
 replace H : ((F67.f ae bh am bB Rm).bind fun iP => ((F68.f ae iP.2.1 iP.2.2.1 iP.2.2.2 60).bind fun iQ => ((F68.f ae iQ.2.1 iQ.2.2.1 iQ.2.2.2 2).bind fun iR => (F45.l0 k (wrap64 (1 + iR.1)) ae iR.2.1 iR.2.2.1 iR.2.2.2 iP.1 (⟨#[68, 79, 67, 75]⟩ : ByteArray) (wrap64 (1 + iQ.1)) ([] : List (S83)))))) = some (r1, r2, r3, r4, r5, r6, r7) := by first | (rw [CI]; exact H) | exact H
 have Jn := am_ CI
 clear CI
 replace H := bi_ H; rcases H with ⟨⟨cu, L4, uF, uG⟩, A2, H⟩
 replace H := bi_ H; rcases H with ⟨⟨cq, rW, CJ, CK⟩, A3, H⟩
 replace H := bi_ H; rcases H with ⟨⟨GM, GN, Rn, uH⟩, A4, H⟩
 have H' := am_ H
 clear H
 go_enter Tryd.func45, Tryd.ntmps45
 go_wp2_with (first | ((with_reducible refine gate_dst (N := 2) rfl ?_); refine be_ 2 #[.string (⟨#[]⟩ : ByteArray), .string (⟨#[]⟩ : ByteArray), .int .i64 0, .slice none 0 0] 29 ?_; intro ba hg w5 hbox hb; replace HB := am_ (below_step (by repeat (first | (with_reducible first | exact HB.out | apply below_alloc | apply pw_below_drewN | apply below_drew1 | refine below_set ?_ (IsS111.ge ay.out)) | exact HB.out)) hb); have af := am_ (hbox); have j9 := am_ ((by rw [hg]; exact (keep_size (w := w) (g := g) (row := none) au3_37) : w.heap.size ≤ ba)); have e8 := am_ ((Nat.le_trans qy.out (by rw [hg]; exact (keep_size (w := w) (g := g) (row := none) au3_37) : w.heap.size ≤ ba) : w0.heap.size ≤ ba)); replace HK := am_ (KeepBut.trans au3_37 (KeepBut.of_below hb g none) (.inl rfl)); have cF := am_ (gn_ hg (IsS111.lt (is3_0_ : IsS111 w0 _ g ae bh am bB))); have aY := am_ (gm_ hg (IsS111.lt (is3_0_ : IsS111 w0 _ g ae bh am bB))); replace ay := am_ (IsS111.below is3_0_ hb); clear hb hbox hg) | ((with_reducible refine gate_dst (N := 11) rfl ?_); refine Kd.R_lit Kd.string _ 9 ?hg (N := 11) ?hd (xs := ([(⟨#[65, 67, 77, 69]⟩ : ByteArray), (⟨#[66, 79, 76, 84]⟩ : ByteArray), (⟨#[67, 45, 49]⟩ : ByteArray)] : List ByteArray)) (inner := [.string (⟨#[65, 67, 77, 69]⟩ : ByteArray), .string (⟨#[66, 79, 76, 84]⟩ : ByteArray), .string (⟨#[67, 45, 49]⟩ : ByteArray)]) (ok := fun _ => True) (okp := fun _ => True) ?hr ?hp (fun _ hk => hk) trivial (Below.refl _ _) (Nat.le_refl _) (by simp) ?_; (case hd => rfl); (case hg => rfl); (case hr => exact hr_); (case hp => exact (Reps.one (show Kd.M Kd.string _ _ _ (⟨#[65, 67, 77, 69]⟩ : ByteArray) [.string (⟨#[65, 67, 77, 69]⟩ : ByteArray)] from rfl) (Reps.one (show Kd.M Kd.string _ _ _ (⟨#[66, 79, 76, 84]⟩ : ByteArray) [.string (⟨#[66, 79, 76, 84]⟩ : ByteArray)] from rfl) (Reps.one (show Kd.M Kd.string _ _ _ (⟨#[67, 45, 49]⟩ : ByteArray) [.string (⟨#[67, 45, 49]⟩ : ByteArray)] from rfl) (Reps.none _ _))))); intro b21 w6 Ro hb hg_ hnew_; clear hg_ hnew_; (first | rw [← Jn.out] at Ro | (simp only [Int.reduceToNat] at Ro; rw [← Jn.out] at Ro)); have ka := am_ (Kd.R_lower Ro (keep_size (w := w) (g := g) (row := none) au3_19)); replace af := bb_ af hb; replace HK := am_ (KeepBut.trans au3_19 (KeepBut.of_below hb g none) (.inl rfl)); replace HB := am_ (below_step au3_45 hb); replace ay := am_ (IsS111.below is3_0_ hb); clear hb Ro; obtain ⟨Ao8, co8, eo8⟩ := Kd.R_slice ka.out; subst eo8) | (go_at_call 67; (with_reducible refine (F67.calls g ae bh am bB _ _ Rm cu L4 uF uG w0 _ ?s1 ?s2 ?s3 ?s4 ?s5 A2.out).mono ?_); (case s1 => exact au3_44); (case s2 => exact au3_46); (case s3 => repeat (first | exact (Kd.R_reads' ka.out).2.2 | (with_reducible refine Kd.C_alloc ?_ _) | (with_reducible refine Kd.C_drewN ?_ _) | (with_reducible refine Kd.C_drew ?_))); (case s4 => exact (Kd.R_reads' ka.out).2.1); (case s5 => exact far_slice (IsS111.own_ne ay.out ka.out (by decide))); rintro e w9 ⟨rfl, hi, hb, hk⟩; (try clear A2); replace af := ka_ hk af aY; replace ka := am_ (Kd.R_mono (Kd.R_keep (IsS111.apart (is3_0_ : IsS111 w0 _ g ae bh am bB) (rk_ ka) (by decide)) hk (fun _ h => h.2)) (fun _ h => h.1)); replace HK := am_ (KeepBut.trans au3_19 hk (.inl rfl)); replace HB := am_ (hb); replace ay := am_ (hi); clear hb hk hi) | (go_at_call 68; (with_reducible refine (F68.calls g ae L4 uF uG 60 cq rW CJ CK w0 _ ?s1 ?s2 A3.out).mono ?_); (case s1 => exact au3_44); (case s2 => exact au3_46); rintro e F4 ⟨rfl, hi, hb, hk⟩; (try clear A3); replace af := ka_ hk af aY; replace ka := am_ (Kd.R_mono (Kd.R_keep (IsS111.apart (is3_0_ : IsS111 w0 _ g ae L4 uF uG) (rk_ ka) (by decide)) hk (fun _ h => h.2)) (fun _ h => h.1)); replace HK := am_ (KeepBut.trans au3_19 hk (.inl rfl)); replace HB := am_ (hb); replace ay := am_ (hi); clear hb hk hi) | ((with_reducible refine gate_dst (N := 3) rfl ?_); refine be_ 3 #[.string (⟨#[]⟩ : ByteArray), .string (⟨#[]⟩ : ByteArray), .int .i64 0, .slice none 0 0] 29 ?_; intro bf hg IP hbox hb; replace ka := am_ (Kd.R_below (rk_ ka) hb); replace HB := am_ (below_step au3_45 hb); have ac := am_ (hbox); have mh := am_ ((by rw [hg]; exact (keep_size (w := w) (g := g) (row := none) au3_19) : w.heap.size ≤ bf)); have jv := am_ ((Nat.le_trans qy.out (by rw [hg]; exact (keep_size (w := w) (g := g) (row := none) au3_19) : w.heap.size ≤ bf) : w0.heap.size ≤ bf)); replace HK := am_ (KeepBut.trans au3_19 (KeepBut.of_below hb g none) (.inl rfl)); have dO := am_ (gn_ hg (blkl_ af)); have dP := am_ (gm_ hg (blkl_ af)); replace af := bb_ af hb; have cw := am_ (gn_ hg (IsS111.lt (is3_0_ : IsS111 w0 _ g ae rW CJ CK))); have aZ := am_ (gm_ hg (IsS111.lt (is3_0_ : IsS111 w0 _ g ae rW CJ CK))); replace ay := am_ (IsS111.below is3_0_ hb); clear hb hbox hg; have Pk := dP.out; have Pm := dO.out; have a9N := aZ.out; have a9O := cw.out; obtain ⟨iS, iT, jM, jN, iU, iV, jO, jP⟩ := cellsF4 ac.out) | (go_at_call 68; (with_reducible refine (F68.calls g ae rW CJ CK 2 GM GN Rn uH w0 _ ?s1 ?s2 A4.out).mono ?_); (case s1 => exact au3_1); (case s2 => exact au3_3); rintro e w15 ⟨rfl, hi, hb, hk⟩; (try clear A4); replace af := ka_ hk af aY; replace ka := am_ (Kd.R_mono (Kd.R_keep (IsS111.apart (is3_0_ : IsS111 w0 _ g ae rW CJ CK) (by (with_reducible repeat (first | apply Kd.R_alloc | apply Kd.R_drewN | apply Kd.R_drew)); exact (Kd.R_mono (Kd.R_far (p := ⟨bf, 3, none⟩) (Kd.R_far (p := ⟨bf, 2, none⟩) (Kd.R_far (p := ⟨bf, 1, none⟩) (Kd.R_far (p := ⟨bf, 0, none⟩) (Kd.R_types ka.out ac.out (by decide)) (fun _ hk => hk.2) (.string cu)) (fun _ hk => hk.2) (.string (⟨#[68, 79, 67, 75]⟩ : ByteArray))) (fun _ hk => hk.2) (.int .i64 (wrap64 (1 + cq)))) (fun _ hk => hk.2) (.slice none 0 0)) (fun _ h_ => h_.1))) (by decide)) hk (fun _ h => h.2)) (fun _ h => h.1)); replace ac := am_ (KeepBut.blk hk (g' := bf) (o := .cells #[.string cu, .string (⟨#[68, 79, 67, 75]⟩ : ByteArray), .int .i64 (wrap64 (1 + cq)), .slice none 0 0] 29 (0, 0)) (bq_ ac) aZ.out (by simp)); replace HK := am_ (KeepBut.trans au3_0 hk (.inl rfl)); replace HB := am_ (hb); replace ay := am_ (hi); clear hb hk hi))
 go_loopg [4] k (fun kq v4 w' => ∃ (aJ : Int) (bx : Int) (bz : Int) (bA : Int) (aA : List (S83)) (bL : Value), v4 = .int .i64 aJ ∧ Aside0 (F45.l0 kq aJ ae bx bz bA cu (⟨#[68, 79, 67, 75]⟩ : ByteArray) (wrap64 (1 + cq)) aA = some (r1, r2, r3, r4, r5, r6, r7)) ∧ Aside0 (kq ≤ k) ∧ Aside0 (Kd.S k83 83 w' w.heap.size (fun _ => True) bL aA) ∧ Aside0 (w'.heap[ba]? = some (.cells #[.string (⟨#[]⟩ : ByteArray), .string (⟨#[]⟩ : ByteArray), .int .i64 0, (.slice none 0 0)] 29 (0, 0))) ∧ Aside0 (w'.heap[bf]? = some (.cells #[.string cu, .string (⟨#[68, 79, 67, 75]⟩ : ByteArray), .int .i64 (wrap64 (1 + cq)), bL] 29 (0, 0))) ∧ Aside0 (IsS111 w0 w' g ae bx bz bA) ∧ Aside0 (KeepBut w w' g none) ∧ Aside0 (Below w0.heap.size w0 w'))
 case atStart => exact ⟨(wrap64 (1 + GM)), (GN), (Rn), (uH), (([] : List (S83))), (.slice none 0 0), er_, H', ⟨Nat.le_refl _⟩, ⟨au3_25⟩, ⟨bk_ af⟩, ⟨bk_ ac⟩, ⟨is3_0_⟩, ⟨au3_9⟩, ⟨au3_7⟩⟩
 case round =>
  clear H'
  obtain ⟨aJ, bx, bz, bA, aA, bL, rfl, HA, dk, aa, af, ac, ay, HK, HB⟩ := hrel
  cases gk with
  | zero => exact absurd HA.out (by simp [F45.l0])
  | succ k1 =>
   have H := HA.out
   clear HA
   simp only [F45.l0] at H
   replace H := it_ H; rcases H with ⟨(c16b0 : decide (0 < aJ) = true), H⟩ | ⟨(c16b0 : decide (0 < aJ) = false), H⟩
   ·replace H := bi_ H; rcases H with ⟨⟨fC, tI, L5, L6⟩, Rp, H⟩
    replace H := bi_ H; rcases H with ⟨⟨gj, CL, CM, tJ⟩, A18, H⟩
    replace H := bi_ H; rcases H with ⟨⟨CN, Rq, CO, Rs⟩, OG, H⟩
    have H' := am_ H
    clear H
    go_wp2_with (first | (go_at_call 68; (with_reducible refine (F68.calls g ae bx bz bA 7 fC tI L5 L6 w0 _ ?s1 ?s2 Rp.out).mono ?_); (case s1 => exact au3_1); (case s2 => exact au3_3); rintro e xr ⟨rfl, hi, hb, hk⟩; (try clear Rp); replace aa := am_ (Kd.S_mono (Kd.S_keep (IsS111.apartS (is3_0_ : IsS111 w0 _ g ae bx bz bA) au3_5 (by decide)) hk (fun _ h => h.2)) (fun _ h => h.1)); replace af := ka_ hk af aY; replace ac := ka_ hk ac aZ; replace HK := am_ (KeepBut.trans au3_0 hk (.inl rfl)); replace HB := am_ (hb); replace ay := am_ (hi); clear hb hk hi) | (go_at_call 68; (with_reducible refine (F68.calls g ae tI L5 L6 99 gj CL CM tJ w0 _ ?s1 ?s2 A18.out).mono ?_); (case s1 => exact au3_1); (case s2 => exact au3_3); rintro e Zf ⟨rfl, hi, hb, hk⟩; (try clear A18); replace aa := am_ (Kd.S_mono (Kd.S_keep (IsS111.apartS (is3_0_ : IsS111 w0 _ g ae tI L5 L6) au3_5 (by decide)) hk (fun _ h => h.2)) (fun _ h => h.1)); replace af := ka_ hk af aY; replace ac := ka_ hk ac aZ; replace HK := am_ (KeepBut.trans au3_0 hk (.inl rfl)); replace HB := am_ (hb); replace ay := am_ (hi); clear hb hk hi) | ((with_reducible refine gate_dst (N := 5) rfl ?_); refine be_ 5 #[.int .i64 0, .int .i64 0, .slice none 0 0] 83 ?_; intro b8 hg OC hbox hb; replace aa := am_ (Kd.S_below (ix_elderL au3_5 b8 (Nat.le_of_eq hg.symm)) hb); replace HB := am_ (below_step au3_22 hb); have aH := am_ (hbox); have og := am_ ((by rw [hg]; exact (keep_size (w := w) (g := g) (row := none) au3_0) : w.heap.size ≤ b8)); have lw := am_ ((Nat.le_trans qy.out (by rw [hg]; exact (keep_size (w := w) (g := g) (row := none) au3_0) : w.heap.size ≤ b8) : w0.heap.size ≤ b8)); replace HK := am_ (KeepBut.trans au3_0 (KeepBut.of_below hb g none) (.inl rfl)); have nz := am_ (gn_ hg (blkl_ af)); have nC := am_ (gm_ hg (blkl_ af)); replace af := bb_ af hb; have nD := am_ (gn_ hg (blkl_ ac)); have nE := am_ (gm_ hg (blkl_ ac)); replace ac := bb_ ac hb; have fp := am_ (gn_ hg (IsS111.lt (is3_0_ : IsS111 w0 _ g ae CL CM tJ))); have dz := am_ (gm_ hg (IsS111.lt (is3_0_ : IsS111 w0 _ g ae CL CM tJ))); replace ay := am_ (IsS111.below is3_0_ hb); clear hb hbox hg; have a9Q := nC.out; have a9R := nz.out; have Pv := nE.out; have Pw := nD.out; have CP := dz.out; have CQ := fp.out; obtain ⟨iH, jH, jI, la, jJ, jK⟩ := cellsF3 aH.out) | (go_at_call 68; (with_reducible refine (F68.calls g ae CL CM tJ 2 CN Rq CO Rs w0 _ ?s1 ?s2 OG.out).mono ?_); (case s1 => exact au3_35); (case s2 => exact au3_41); rintro e Fu ⟨rfl, hi, hb, hk⟩; (try clear OG); replace aa := am_ (Kd.S_mono (Kd.S_keep (IsS111.apartS (is3_0_ : IsS111 w0 _ g ae CL CM tJ) (by (with_reducible repeat (first | apply Kd.S_alloc | apply Kd.S_drewN | apply Kd.S_drew)); exact (Kd.S_mono (Kd.S_far (p := ⟨b8, 2, none⟩) (Kd.S_far (p := ⟨b8, 1, none⟩) (Kd.S_far (p := ⟨b8, 0, none⟩) (Kd.S_mono aa.out (fun k_ hk => (⟨hk, Nat.ne_of_lt hk.2⟩ : _ ∧ k_ ≠ b8))) (fun _ hk => hk.2) (.int .i64 (wrap64 (1 + fC)))) (fun _ hk => hk.2) (.int .i64 (wrap64 (1 + gj)))) (fun _ hk => hk.2) (.slice none 0 0)) (fun _ h_ => h_.1))) (by decide)) hk (fun _ h => h.2)) (fun _ h => h.1)); replace af := ka_ hk af aY; replace ac := ka_ hk ac aZ; replace aH := am_ (KeepBut.blk hk (g' := b8) (o := .cells #[.int .i64 (wrap64 (1 + fC)), .int .i64 (wrap64 (1 + gj)), .slice none 0 0] 83 (0, 0)) (bq_ aH) dz.out (by simp)); replace HK := am_ (KeepBut.trans au3_15 hk (.inl rfl)); replace HB := am_ (hb); replace ay := am_ (hi); clear hb hk hi))
    go_loopg [6] k1 (fun kq v6 w' => ∃ (cY : Int) (bq : Int) (br : Int) (bu : Int) (bU : List (S85)) (ck : Value), v6 = .int .i64 cY ∧ Aside0 (F45.l1 kq aJ cY ae bq br bu cu (⟨#[68, 79, 67, 75]⟩ : ByteArray) (wrap64 (1 + cq)) aA (wrap64 (1 + fC)) (wrap64 (1 + gj)) bU = some (r1, r2, r3, r4, r5, r6, r7)) ∧ Aside0 (kq ≤ k1) ∧ Aside0 (Kd.S k83 83 w' w.heap.size (fun k_ => some k_ ≠ (ck : Value).ownBlock ∧ k_ < b8) bL aA) ∧ Aside0 (Kd.S k85 85 w' (b8 + 1) (fun _ => True) ck bU) ∧ Aside0 (w'.heap[ba]? = some (.cells #[.string (⟨#[]⟩ : ByteArray), .string (⟨#[]⟩ : ByteArray), .int .i64 0, (.slice none 0 0)] 29 (0, 0))) ∧ Aside0 (w'.heap[bf]? = some (.cells #[.string cu, .string (⟨#[68, 79, 67, 75]⟩ : ByteArray), .int .i64 (wrap64 (1 + cq)), bL] 29 (0, 0))) ∧ Aside0 (w'.heap[b8]? = some (.cells #[.int .i64 (wrap64 (1 + fC)), .int .i64 (wrap64 (1 + gj)), ck] 83 (0, 0))) ∧ Aside0 (IsS111 w0 w' g ae bq br bu) ∧ Aside0 (KeepBut w w' g none) ∧ Aside0 (Below w0.heap.size w0 w'))
    case atStart => exact ⟨(wrap64 (1 + CN)), (Rq), (CO), (Rs), (([] : List (S85))), (.slice none 0 0), er_, H', ⟨Nat.le_refl _⟩, ⟨by (with_reducible repeat (first | apply Kd.S_alloc | apply Kd.S_drewN | apply Kd.S_drew)); exact Kd.S_mono aa.out (fun _ hk => ⟨(by simp [Value.ownBlock]), hk.2⟩)⟩, ⟨au3_25⟩, ⟨bk_ af⟩, ⟨bk_ ac⟩, ⟨bk_ aH⟩, ⟨is3_0_⟩, ⟨au3_43⟩, ⟨au3_40⟩⟩
    case round =>
     clear H'
     obtain ⟨cY, bq, br, bu, bU, ck, rfl, HA, HK2, aa, au, af, ac, aH, ay, HK, HB⟩ := hrel
     cases gk with
     | zero => exact absurd HA.out (by simp [F45.l1])
     | succ k2 =>
      have H := HA.out
      clear HA
      simp only [F45.l1] at H
      replace H := it_ H; rcases H with ⟨(c28b0 : decide (0 < cY) = true), H⟩ | ⟨(c28b0 : decide (0 < cY) = false), H⟩
      rotate_left
      ·replace H := iln_ H; rcases H with ⟨L7, H⟩
       obtain ⟨GO, CR⟩ : ∃ y_ : List (S83), y_ = (aA ++ [(⟨(wrap64 (1 + fC)), (wrap64 (1 + gj)), bU⟩ : S83)]) := ⟨_, rfl⟩
       replace H : (F45.l0 k2 (wrap64 (aJ - 1)) ae bq br bu cu (⟨#[68, 79, 67, 75]⟩ : ByteArray) (wrap64 (1 + cq)) GO) = some (r1, r2, r3, r4, r5, r6, r7) := by first | (rw [CR]; exact H) | exact H
       have Rt := am_ CR
       clear CR
       have H' := am_ H
       clear H
       have LS := dP.out
       have LT := dO.out
       have a4v := nD.out
       have a4w := nE.out
       have a4x := aZ.out
       have a4y := cw.out
       obtain ⟨Ru, Rv, Rw, Rx, Ry, Rz, RA, RB⟩ := cellsF4 ac.out
       have a4z := nC.out
       have a4A := nz.out
       have LU := dz.out
       have LV := fp.out
       obtain ⟨RC, RD, RE, RF, RG, RH⟩ := cellsF3 aH.out
       obtain ⟨Jo, Jp, RI⟩ := Kd.S_slice au.out
       subst RI
       go_wp2_with (first | ((with_reducible refine gate_builtin (b := .append) (xs := #[.tmp 75, .tmp 77]) rfl ?_); at_builtin; refine Kd.S_append k83 w.heap.size rfl (.tmp 75) (.tmp 77) 27 83 (.agg #[(.int .i64 0), (.int .i64 0), (.slice none 0 0)]) 40 rfl Tryd.underlying27 ix_info83 rfl (by decide) (by omega) bL aA (⟨(wrap64 (1 + fC)), (wrap64 (1 + gj)), bU⟩ : S83) [.int .i64 (wrap64 (1 + fC)), .int .i64 (wrap64 (1 + gj)), .slice Jo bU.length Jp] (fun k_ => k_ ≠ b8) (fun k_ => b8 < k_) rfl rfl ?aP (fun k_ hk_ => ⟨Nat.ne_of_gt hk_, fun e_ => Nat.lt_asymm hk_ (((Kd.S_R aa.out).1 k_ e_.symm).2)⟩) ?aF ?aO (Below.refl _ _) ?aS ?aL ?_; (case aP => exact k83_mkM _ _ _ (⟨(wrap64 (1 + fC)), (wrap64 (1 + gj)), bU⟩ : S83) (Kd.S_lower (Kd.S_mono (Kd.S_bound au.out) (fun k_ hk_ => hk_.2.1)) (Nat.le_succ_of_le og.out))); (case aF => exact (fun k_ hk => Kd.freshB (g := b8) (o := .cells #[.int .i64 (wrap64 (1 + fC)), .int .i64 (wrap64 (1 + gj)), .slice Jo bU.length Jp] 83 (0, 0)) (bk_ aH) k_ hk)); (case aO => exact (by (with_reducible repeat (first | apply Kd.S_alloc | apply Kd.S_drewN | apply Kd.S_drew)); exact Kd.S_mono aa.out (fun k_ hk => ⟨Nat.ne_of_lt hk.2, fun xV => Nat.lt_asymm hk.2 xV⟩))); (case aS => exact (keep_size (w := w) (g := g) (row := none) au3_15)); (case aL => have := L7.out; omega); intro b23 b24 ho hb hg hat; rw [← Rt.out] at ho; replace af := am_ (bg_ af hg (Kd.S_ne aa.out af.out (by decide))); replace ac := am_ (bg_ ac hg (Kd.S_ne aa.out ac.out (by decide))); replace aH := am_ (bg_ aH hg (Kd.S_away aa.out (fun _ hk => Nat.ne_of_lt hk.2))); replace HB := am_ (below_weaken au3_39 HL.out hb); replace ay := am_ (IsS111.grown is3_0_ hg (IsS111.own_neS ay.out aa.out (by decide))); replace HK := am_ (KeepBut.trans au3_15 (KeepBut.of_grown hg g) (Kd.S_base2 aa.out)); have Jq := am_ (ho); clear aa au; clear ho hb hg hat; obtain ⟨Jr, Js, RJ⟩ := Kd.S_slice Jq.out; subst RJ; obtain ⟨RK, RL, RM, RN, RO, RP, RQ, RR⟩ := cellsF4 ac.out))
       go_roundg k2
       case measure => have := dk.out; have := HK2.out; omega
       case rel => exact ⟨(wrap64 (aJ - 1)), (bq), (br), (bu), (GO), (.slice Jr GO.length Js), er_, H', ⟨au3_55⟩, ⟨by (with_reducible repeat (first | apply Kd.S_alloc | apply Kd.S_drewN | apply Kd.S_drew)); exact Kd.S_mono (Kd.S_far (p := ⟨bf, 3, none⟩) (Kd.S_types Jq.out ac.out (by decide)) (fun _ hk => hk.2) (.slice Jr GO.length Js)) (fun _ hk => trivial)⟩, ⟨bf_ af⟩, ⟨bq_ ac⟩, ⟨is3_0_⟩, ⟨au3_43⟩, ⟨au3_40⟩⟩
      replace H := bi_ H; rcases H with ⟨⟨jk, Ac, Ad, Ae⟩, AW, H⟩
      replace H := bi_ H; rcases H with ⟨⟨RS, RT, RU, RV⟩, GP, H⟩
      have H' := am_ H
      clear H
      go_wp2_with (first | (go_at_call 68; (with_reducible refine (F68.calls g ae bq br bu 99 jk Ac Ad Ae w0 _ ?s1 ?s2 AW.out).mono ?_); (case s1 => exact au3_35); (case s2 => exact au3_41); rintro e AM ⟨rfl, hi, hb, hk⟩; (try clear AW); replace aa := am_ (Kd.S_mono (Kd.S_keep (IsS111.apartS (is3_0_ : IsS111 w0 _ g ae bq br bu) au3_5 (by decide)) hk (fun _ h => h.2)) (fun _ h => h.1)); replace au := am_ (Kd.S_mono (Kd.S_keep (IsS111.apartS (is3_0_ : IsS111 w0 _ g ae bq br bu) au3_10 (by decide)) hk (fun _ h => h.2)) (fun _ h => h.1)); replace af := ka_ hk af aY; replace ac := ka_ hk ac aZ; replace aH := ka_ hk aH dz; replace HK := am_ (KeepBut.trans au3_15 hk (.inl rfl)); replace HB := am_ (hb); replace ay := am_ (hi); clear hb hk hi) | ((with_reducible refine gate_dst (N := 7) rfl ?_); refine be_ 7 #[.int .i64 0, .slice none 0 0] 85 ?_; intro bj hg w32 hbox hb; have HGL_ := am_ (show b8 < bj by rw [hg]; exact blk_lt (bk_ aH)); replace aa := am_ (Kd.S_below (Kd.S_elderB au3_5 bj (Nat.le_of_eq hg.symm)) hb); replace au := am_ (Kd.S_below (ix_elderL au3_10 bj (Nat.le_of_eq hg.symm)) hb); replace HB := am_ (below_step au3_39 hb); have aI := am_ (hbox); have pL := am_ ((by rw [hg]; exact (keep_size (w := w) (g := g) (row := none) au3_15) : w.heap.size ≤ bj)); have mi := am_ ((Nat.le_trans qy.out (by rw [hg]; exact (keep_size (w := w) (g := g) (row := none) au3_15) : w.heap.size ≤ bj) : w0.heap.size ≤ bj)); replace HK := am_ (KeepBut.trans au3_15 (KeepBut.of_below hb g none) (.inl rfl)); have jx := am_ (gn_ hg (blkl_ af)); have jy := am_ (gm_ hg (blkl_ af)); replace af := bb_ af hb; have jz := am_ (gn_ hg (blkl_ ac)); have jA := am_ (gm_ hg (blkl_ ac)); replace ac := bb_ ac hb; have jB := am_ (gn_ hg (blkl_ aH)); have jC := am_ (gm_ hg (blkl_ aH)); replace aH := bb_ aH hb; have eR := am_ (gn_ hg (IsS111.lt (is3_0_ : IsS111 w0 _ g ae Ac Ad Ae))); have dA := am_ (gm_ hg (IsS111.lt (is3_0_ : IsS111 w0 _ g ae Ac Ad Ae))); replace ay := am_ (IsS111.below is3_0_ hb); clear hb hbox hg; have BR := jy.out; have BS := jx.out; have IV := jA.out; have IW := jz.out; have Jt := jC.out; have Ju := jB.out; have a9S := dA.out; have a9T := eR.out; obtain ⟨GQ, GR, GS, GT⟩ := cellsF2 aI.out) | (go_at_call 68; (with_reducible refine (F68.calls g ae Ac Ad Ae 4 RS RT RU RV w0 _ ?s1 ?s2 GP.out).mono ?_); (case s1 => exact au3_11); (case s2 => exact au3_14); rintro e w38 ⟨rfl, hi, hb, hk⟩; (try clear GP); replace aa := am_ (Kd.S_mono (Kd.S_keep (IsS111.apartS (is3_0_ : IsS111 w0 _ g ae Ac Ad Ae) (by (with_reducible repeat (first | apply Kd.S_alloc | apply Kd.S_drewN | apply Kd.S_drew)); exact (Kd.S_mono (Kd.S_far (p := ⟨bj, 1, none⟩) (Kd.S_far (p := ⟨bj, 0, none⟩) (Kd.S_mono aa.out (fun k_ hk => (⟨hk, hk.2⟩ : _ ∧ k_ ≠ bj))) (fun _ hk => hk.2) (.int .i64 (wrap64 (1 + jk)))) (fun _ hk => hk.2) (.slice none 0 0)) (fun _ h_ => h_.1))) (by decide)) hk (fun _ h => h.2)) (fun _ h => h.1)); replace au := am_ (Kd.S_mono (Kd.S_keep (IsS111.apartS (is3_0_ : IsS111 w0 _ g ae Ac Ad Ae) (by (with_reducible repeat (first | apply Kd.S_alloc | apply Kd.S_drewN | apply Kd.S_drew)); exact (Kd.S_mono (Kd.S_far (p := ⟨bj, 1, none⟩) (Kd.S_far (p := ⟨bj, 0, none⟩) (Kd.S_mono au.out (fun k_ hk => (⟨hk, Nat.ne_of_lt hk.2⟩ : _ ∧ k_ ≠ bj))) (fun _ hk => hk.2) (.int .i64 (wrap64 (1 + jk)))) (fun _ hk => hk.2) (.slice none 0 0)) (fun _ h_ => h_.1))) (by decide)) hk (fun _ h => h.2)) (fun _ h => h.1)); replace af := ka_ hk af aY; replace ac := ka_ hk ac aZ; replace aH := ka_ hk aH dz; replace aI := am_ (KeepBut.blk hk (g' := bj) (o := .cells #[.int .i64 (wrap64 (1 + jk)), .slice none 0 0] 85 (0, 0)) (bq_ aI) dA.out (by simp)); replace HK := am_ (KeepBut.trans au3_2 hk (.inl rfl)); replace HB := am_ (hb); replace ay := am_ (hi); clear hb hk hi))
      go_loopg [8] k2 (fun kq v8 w' => ∃ (gY : Int) (aM : Int) (aN : Int) (aQ : Int) (bQ : List (S52)) (cx : Value), v8 = .int .i64 gY ∧ Aside0 (F45.l2 kq aJ cY gY ae aM aN aQ cu (⟨#[68, 79, 67, 75]⟩ : ByteArray) (wrap64 (1 + cq)) aA (wrap64 (1 + fC)) (wrap64 (1 + gj)) bU (wrap64 (1 + jk)) bQ = some (r1, r2, r3, r4, r5, r6, r7)) ∧ Aside0 (kq ≤ k2) ∧ Aside0 (Kd.S k83 83 w' w.heap.size (fun k_ => some k_ ≠ (ck : Value).ownBlock ∧ some k_ ≠ (cx : Value).ownBlock ∧ k_ < b8 ∧ k_ ≠ bj) bL aA) ∧ Aside0 (Kd.S k85 85 w' (b8 + 1) (fun k_ => some k_ ≠ (cx : Value).ownBlock ∧ k_ < bj) ck bU) ∧ Aside0 (Kd.S k52 52 w' (bj + 1) (fun _ => True) cx bQ) ∧ Aside0 (w'.heap[ba]? = some (.cells #[.string (⟨#[]⟩ : ByteArray), .string (⟨#[]⟩ : ByteArray), .int .i64 0, (.slice none 0 0)] 29 (0, 0))) ∧ Aside0 (w'.heap[bf]? = some (.cells #[.string cu, .string (⟨#[68, 79, 67, 75]⟩ : ByteArray), .int .i64 (wrap64 (1 + cq)), bL] 29 (0, 0))) ∧ Aside0 (w'.heap[b8]? = some (.cells #[.int .i64 (wrap64 (1 + fC)), .int .i64 (wrap64 (1 + gj)), ck] 83 (0, 0))) ∧ Aside0 (w'.heap[bj]? = some (.cells #[.int .i64 (wrap64 (1 + jk)), cx] 85 (0, 0))) ∧ Aside0 (IsS111 w0 w' g ae aM aN aQ) ∧ Aside0 (KeepBut w w' g none) ∧ Aside0 (Below w0.heap.size w0 w'))
      case atStart => exact ⟨(RS), (RT), (RU), (RV), (([] : List (S52))), (.slice none 0 0), er_, H', ⟨Nat.le_refl _⟩, ⟨by (with_reducible repeat (first | apply Kd.S_alloc | apply Kd.S_drewN | apply Kd.S_drew)); exact Kd.S_mono aa.out (fun _ hk => ⟨hk.1.1, ⟨(by simp [Value.ownBlock]), ⟨hk.1.2, hk.2⟩⟩⟩)⟩, ⟨by (with_reducible repeat (first | apply Kd.S_alloc | apply Kd.S_drewN | apply Kd.S_drew)); exact Kd.S_mono au.out (fun _ hk => ⟨(by simp [Value.ownBlock]), hk.2⟩)⟩, ⟨au3_25⟩, ⟨bk_ af⟩, ⟨bk_ ac⟩, ⟨bk_ aH⟩, ⟨bk_ aI⟩, ⟨is3_0_⟩, ⟨au3_38⟩, ⟨au3_36⟩⟩
      case round =>
       clear H'
       obtain ⟨gY, aM, aN, aQ, bQ, cx, rfl, HA, pC, aa, au, ap, af, ac, aH, aI, ay, HK, HB⟩ := hrel
       cases gk with
       | zero => exact absurd HA.out (by simp [F45.l2])
       | succ k3 =>
        have H := HA.out
        clear HA
        simp only [F45.l2] at H
        replace H := it_ H; rcases H with ⟨(c39b0 : decide (0 < gY) = true), H⟩ | ⟨(c39b0 : decide (0 < gY) = false), H⟩
        rotate_left
        ·replace H := iln_ H; rcases H with ⟨L8, H⟩
         obtain ⟨CS, CT⟩ : ∃ y_ : List (S85), y_ = (bU ++ [(⟨(wrap64 (1 + jk)), bQ⟩ : S85)]) := ⟨_, rfl⟩
         replace H : (F45.l1 k3 aJ (wrap64 (cY - 1)) ae aM aN aQ cu (⟨#[68, 79, 67, 75]⟩ : ByteArray) (wrap64 (1 + cq)) aA (wrap64 (1 + fC)) (wrap64 (1 + gj)) CS) = some (r1, r2, r3, r4, r5, r6, r7) := by first | (rw [CT]; exact H) | exact H
         have RW := am_ CT
         clear CT
         have H' := am_ H
         clear H
         have LI := nC.out
         have LJ := nz.out
         have LK := nE.out
         have LL := nD.out
         have LN := jB.out
         have LO := jC.out
         have a4B := dz.out
         have a4C := fp.out
         obtain ⟨RX, RY, RZ, R0, R1, R2⟩ := cellsF3 aH.out
         have LP := jy.out
         have LQ := jx.out
         have a4D := jA.out
         have a4E := jz.out
         have a4F := dA.out
         have a4G := eR.out
         obtain ⟨R3, R4, R5, R6⟩ := cellsF2 aI.out
         obtain ⟨CU, CV, R7⟩ := Kd.S_slice ap.out
         subst R7
         go_wp2_with (first | ((with_reducible refine gate_builtin (b := .append) (xs := #[.tmp 69, .tmp 71]) rfl ?_); at_builtin; refine Kd.S_append k85 (b8 + 1) rfl (.tmp 69) (.tmp 71) 81 85 (.agg #[(.int .i64 0), (.slice none 0 0)]) 32 rfl Tryd.underlying81 ix_info85 rfl (by decide) (by omega) ck bU (⟨(wrap64 (1 + jk)), bQ⟩ : S85) [.int .i64 (wrap64 (1 + jk)), .slice CU bQ.length CV] (fun k_ => k_ ≠ bj) (fun k_ => bj < k_) rfl rfl ?aP (fun k_ hk_ => ⟨Nat.ne_of_gt hk_, fun e_ => Nat.lt_asymm hk_ (((Kd.S_R au.out).1 k_ e_.symm).2)⟩) ?aF ?aO (Below.refl _ _) ?aS ?aL ?_; (case aP => exact k85_mkM _ _ _ (⟨(wrap64 (1 + jk)), bQ⟩ : S85) (Kd.S_lower (Kd.S_mono (Kd.S_bound ap.out) (fun k_ hk_ => hk_.2.1)) (show b8 + 1 ≤ bj + 1 from Nat.succ_le_succ (Nat.le_of_lt HGL_.out)))); (case aF => exact (fun k_ hk => Kd.freshB (g := bj) (o := .cells #[.int .i64 (wrap64 (1 + jk)), .slice CU bQ.length CV] 85 (0, 0)) (bk_ aI) k_ hk)); (case aO => exact (by (with_reducible repeat (first | apply Kd.S_alloc | apply Kd.S_drewN | apply Kd.S_drew)); exact Kd.S_mono au.out (fun k_ hk => ⟨Nat.ne_of_lt hk.2, fun xV => Nat.lt_asymm hk.2 xV⟩))); (case aS => exact blk_lt (bk_ aH)); (case aL => have := L8.out; omega); intro b25 b26 ho hb hg hat; rw [← RW.out] at ho; replace aa := am_ (Kd.S_after (ok := (fun k_ => some k_ ≠ (.slice CU bQ.length CV : Value).ownBlock ∧ k_ < b8 ∧ k_ ≠ bj)) (by (with_reducible repeat (first | apply Kd.S_alloc | apply Kd.S_drewN | apply Kd.S_drew)); exact Kd.S_mono aa.out (fun _ hk => ⟨⟨hk.2.1, ⟨hk.2.2.1, hk.2.2.2⟩⟩, hk.1⟩)) hg hat); replace af := am_ (bg_ af hg (Kd.S_ne au.out af.out (by decide))); replace ac := am_ (bg_ ac hg (Kd.S_ne au.out ac.out (by decide))); replace aH := am_ (bg_ aH hg (Kd.S_ne au.out aH.out (by decide))); replace aI := am_ (bg_ aI hg (Kd.S_away au.out (fun _ hk => Nat.ne_of_lt hk.2))); replace HB := am_ (below_weaken au3_13 (Nat.le_succ_of_le lw.out) hb); replace ay := am_ (IsS111.grown is3_0_ hg (IsS111.own_neS ay.out au.out (by decide))); replace HK := am_ (KeepBut.trans au3_2 (KeepBut.of_grown hg g) (Kd.S_base2 (Kd.S_lower au.out (Nat.le_succ_of_le og.out)))); have Jv := am_ (ho); clear au ap; clear ho hb hg hat; obtain ⟨CW, CX, R8⟩ := Kd.S_slice Jv.out; subst R8; obtain ⟨R9, Sa, Sb, Sc, Sd, Se⟩ := cellsF3 aH.out))
         go_roundg k3
         case measure => have := dk.out; have := HK2.out; have := pC.out; omega
         case rel => exact ⟨(wrap64 (cY - 1)), (aM), (aN), (aQ), (CS), (.slice CW CS.length CX), er_, H', ⟨au3_42⟩, ⟨by (with_reducible repeat (first | apply Kd.S_alloc | apply Kd.S_drewN | apply Kd.S_drew)); exact Kd.S_mono (Kd.S_far (p := ⟨b8, 2, none⟩) (Kd.S_mono aa.out (fun k_ hk => (⟨hk, Nat.ne_of_lt hk.1.2.1⟩ : _ ∧ k_ ≠ b8))) (fun _ hk => hk.2) (.slice CW CS.length CX)) (fun _ hk => ⟨hk.1.2, hk.1.1.2.1⟩)⟩, ⟨by (with_reducible repeat (first | apply Kd.S_alloc | apply Kd.S_drewN | apply Kd.S_drew)); exact Kd.S_mono (Kd.S_far (p := ⟨b8, 2, none⟩) (Kd.S_types Jv.out aH.out (by decide)) (fun _ hk => hk.2) (.slice CW CS.length CX)) (fun _ hk => trivial)⟩, ⟨bf_ af⟩, ⟨bf_ ac⟩, ⟨bq_ aH⟩, ⟨is3_0_⟩, ⟨au3_38⟩, ⟨au3_36⟩⟩
        replace H := bi_ H; rcases H with ⟨⟨bX, bw, cZ, cy, cz⟩, AO, H⟩
        replace H := bi_ H; rcases H with ⟨Rk, Fy, H⟩
        replace H := ib_ H; rcases H with ⟨rfl, H⟩ | ⟨rfl, H⟩
        rotate_left
        ·replace H := bi_ H; rcases H with ⟨⟨b27, CY, CZ, C0⟩, GU, H⟩
         replace H := ib_ H; rcases H with ⟨rfl, H⟩ | ⟨rfl, H⟩
         rotate_left
         ·have H' := am_ H
          clear H
          go_wp2_with (first | (go_at_call 69; (with_reducible refine (F69.calls k3 g ae aM aN aQ bX bw cZ cy cz w0 _ ?s1 ?s2 AO.out).mono ?_); (case s1 => exact au3_11); (case s2 => exact au3_14); rintro e b28 ⟨GV, rfl, bm, hi, hb, hk⟩; obtain ⟨jE, ij, ik⟩ := nb9_ bm; (try clear AO); replace aa := am_ (Kd.S_mono (Kd.S_told (Kd.S_oldK (IsS111.apartS (is3_0_ : IsS111 w0 _ g ae aM aN aQ) au3_5 (by decide)) hk) (Kd.S_base bm)) (fun _ h_ => h_.1)); replace au := am_ (Kd.S_mono (Kd.S_told (Kd.S_oldK (IsS111.apartS (is3_0_ : IsS111 w0 _ g ae aM aN aQ) au3_10 (by decide)) hk) (Kd.S_base bm)) (fun _ h_ => h_.1)); replace ap := am_ (Kd.S_mono (Kd.S_told (Kd.S_oldK (IsS111.apartS (is3_0_ : IsS111 w0 _ g ae aM aN aQ) au3_12 (by decide)) hk) (Kd.S_base bm)) (fun _ h_ => (⟨⟨ij _ h_.2, h_.1.1⟩, h_.1.2⟩ : (_ < jE ∧ _) ∧ _))); replace af := ka_ hk af aY; replace ac := ka_ hk ac aZ; replace aH := ka_ hk aH dz; have b5 := am_ (Kd.S_lower ik (blkl_ aI)); replace aI := ka_ hk aI dA; replace HK := am_ (KeepBut.trans au3_2 hk (.inl rfl)); replace HB := am_ (hb); replace ay := am_ (hi); clear hb hk hi bm) | ((with_reducible refine gate_dst (N := 9) rfl ?_); refine be_ 9 #[.string (⟨#[]⟩ : ByteArray), .slice none 0 0] 52 ?_; intro av hg a4H hbox hb; replace aa := am_ (Kd.S_below (Kd.S_elderB au3_5 av (Nat.le_of_eq hg.symm)) hb); replace au := am_ (Kd.S_below (Kd.S_elderB au3_10 av (Nat.le_of_eq hg.symm)) hb); replace ap := am_ (Kd.S_below (Kd.S_elderB au3_12 av (Nat.le_of_eq hg.symm)) hb); replace b5 := am_ (Kd.S_below au3_21 hb); replace HB := am_ (below_step au3_13 hb); have bp := am_ (hbox); have qQ := am_ ((by rw [hg]; exact (keep_size (w := w) (g := g) (row := none) au3_2) : w.heap.size ≤ av)); have pM := am_ ((Nat.le_trans qy.out (by rw [hg]; exact (keep_size (w := w) (g := g) (row := none) au3_2) : w.heap.size ≤ av) : w0.heap.size ≤ av)); replace HK := am_ (KeepBut.trans au3_2 (KeepBut.of_below hb g none) (.inl rfl)); have ei := am_ (gn_ hg (blkl_ af)); have ej := am_ (gm_ hg (blkl_ af)); replace af := bb_ af hb; have ek := am_ (gn_ hg (blkl_ ac)); have el := am_ (gm_ hg (blkl_ ac)); replace ac := bb_ ac hb; have em := am_ (gn_ hg (blkl_ aH)); have en := am_ (gm_ hg (blkl_ aH)); replace aH := bb_ aH hb; have eo := am_ (gn_ hg (blkl_ aI)); have ep := am_ (gm_ hg (blkl_ aI)); replace aI := bb_ aI hb; have dy := am_ (gn_ hg (IsS111.lt (is3_0_ : IsS111 w0 _ g ae cZ cy cz))); have et := am_ (gm_ hg (IsS111.lt (is3_0_ : IsS111 w0 _ g ae cZ cy cz))); replace ay := am_ (IsS111.below is3_0_ hb); clear hb hbox hg; have a4I := ej.out; have a4J := ei.out; have a4K := el.out; have a4L := ek.out; have a4M := en.out; have a4N := em.out; have a4O := ep.out; have a4P := eo.out; have a4Q := et.out; have a4R := dy.out; obtain ⟨Sf, Sg, Si, Sj⟩ := cellsF2 bp.out; obtain ⟨qR, pN, Sk⟩ := Kd.S_slice b5.out; subst Sk) | (go_at_call 46; (with_reducible refine (F46.calls k3 bX _ _ bw false _ ?s1 ?s2 Fy.out).mono ?_); (case s1 => refine (Kd.S_reads' (e := 55) (base := bj + 1) (ok := fun k_ => jE ≤ k_) (n := bw.length) (c := pN) ?_).2.2; exact au3_31); (case s2 => exact au3_53); rintro e b29 ⟨rfl, hb⟩; (try clear Fy); replace aa := am_ (Kd.S_below (by (with_reducible repeat (first | apply Kd.S_alloc | apply Kd.S_drewN | apply Kd.S_drew)); exact (Kd.S_mono (Kd.S_far (p := ⟨av, 1, none⟩) (Kd.S_far (p := ⟨av, 0, none⟩) (Kd.S_mono aa.out (fun k_ hk => (⟨hk, hk.2⟩ : _ ∧ k_ ≠ av))) (fun _ hk => hk.2) (.string bX)) (fun _ hk => hk.2) (.slice qR bw.length pN)) (fun _ h_ => h_.1))) hb); replace au := am_ (Kd.S_below (by (with_reducible repeat (first | apply Kd.S_alloc | apply Kd.S_drewN | apply Kd.S_drew)); exact (Kd.S_mono (Kd.S_far (p := ⟨av, 1, none⟩) (Kd.S_far (p := ⟨av, 0, none⟩) (Kd.S_mono au.out (fun k_ hk => (⟨hk, hk.2⟩ : _ ∧ k_ ≠ av))) (fun _ hk => hk.2) (.string bX)) (fun _ hk => hk.2) (.slice qR bw.length pN)) (fun _ h_ => h_.1))) hb); replace ap := am_ (Kd.S_below (by (with_reducible repeat (first | apply Kd.S_alloc | apply Kd.S_drewN | apply Kd.S_drew)); exact (Kd.S_mono (Kd.S_far (p := ⟨av, 1, none⟩) (Kd.S_far (p := ⟨av, 0, none⟩) (Kd.S_mono ap.out (fun k_ hk => (⟨hk, hk.2⟩ : _ ∧ k_ ≠ av))) (fun _ hk => hk.2) (.string bX)) (fun _ hk => hk.2) (.slice qR bw.length pN)) (fun _ h_ => h_.1))) hb); replace b5 := am_ (Kd.S_below au3_31 hb); replace af := am_ (blk_below (g := ba) (o := .cells #[.string (⟨#[]⟩ : ByteArray), .string (⟨#[]⟩ : ByteArray), .int .i64 0, .slice none 0 0] 29 (0, 0)) (bf_ af) hb); replace ac := am_ (blk_below (g := bf) (o := .cells #[.string cu, .string (⟨#[68, 79, 67, 75]⟩ : ByteArray), .int .i64 (wrap64 (1 + cq)), bL] 29 (0, 0)) (bf_ ac) hb); replace aH := am_ (blk_below (g := b8) (o := .cells #[.int .i64 (wrap64 (1 + fC)), .int .i64 (wrap64 (1 + gj)), ck] 83 (0, 0)) (bf_ aH) hb); replace aI := am_ (blk_below (g := bj) (o := .cells #[.int .i64 (wrap64 (1 + jk)), cx] 85 (0, 0)) (bf_ aI) hb); replace bp := am_ (blk_below (g := av) (o := .cells #[.string bX, .slice qR bw.length pN] 52 (0, 0)) (bq_ bp) hb); replace HK := am_ (KeepBut.trans au3_4 (KeepBut.of_below hb g none) (.inl rfl)); replace HB := am_ (below_step au3_6 hb); replace ay := am_ (IsS111.below (show IsS111 w0 ((a4H.setCell ⟨av, 0, none⟩ (.string bX)).setCell ⟨av, 1, none⟩ (.slice qR bw.length pN)) g ae cZ cy cz from by repeat (first | (with_reducible first | exact ay.out | apply IsS111.alloc | apply IsS111.drewN | apply IsS111.drew | apply IsS111.set_1 | apply IsS111.set_2 | apply IsS111.set_3 | refine IsS111.far ?_ cF.out _ | refine IsS111.far ?_ cw.out _ | refine IsS111.far ?_ fp.out _ | refine IsS111.far ?_ eR.out _ | refine IsS111.far ?_ dy.out _) | exact ay.out)) hb); clear hb) | (go_at_call 70; (with_reducible refine (F70.calls g ae cZ cy cz 40 false CY CZ C0 w0 _ ?s1 ?s2 GU.out).mono ?_); (case s1 => exact au3_18); (case s2 => exact au3_20); rintro e b3a ⟨rfl, hi, hb, hk⟩; (try clear GU); replace aa := am_ (Kd.S_mono (Kd.S_keep (IsS111.apartS (is3_0_ : IsS111 w0 _ g ae cZ cy cz) au3_5 (by decide)) hk (fun _ h => h.2)) (fun _ h => h.1)); replace au := am_ (Kd.S_mono (Kd.S_keep (IsS111.apartS (is3_0_ : IsS111 w0 _ g ae cZ cy cz) au3_10 (by decide)) hk (fun _ h => h.2)) (fun _ h => h.1)); replace ap := am_ (Kd.S_mono (Kd.S_keep (IsS111.apartS (is3_0_ : IsS111 w0 _ g ae cZ cy cz) au3_12 (by decide)) hk (fun _ h => h.2)) (fun _ h => h.1)); replace af := ka_ hk af aY; replace ac := ka_ hk ac aZ; replace aH := ka_ hk aH dz; replace aI := ka_ hk aI dA; replace b5 := am_ (Kd.S_mono (Kd.S_keep (IsS111.apartS (is3_0_ : IsS111 w0 _ g ae cZ cy cz) au3_21 (by decide)) hk (fun _ h => h.2)) (fun _ h => h.1)); replace bp := ka_ hk bp et; replace HK := am_ (KeepBut.trans au3_4 hk (.inl rfl)); replace HB := am_ (hb); replace ay := am_ (hi); clear hb hk hi))
          go_roundg k3
          case measure => have := dk.out; have := HK2.out; have := pC.out; omega
          case rel => exact ⟨(wrap64 (gY - 1)), (CY), (CZ), (C0), (bQ), (cx), er_, H', ⟨au3_42⟩, ⟨au3_47⟩, ⟨au3_49⟩, ⟨au3_50⟩, ⟨bk_ af⟩, ⟨bk_ ac⟩, ⟨bk_ aH⟩, ⟨bk_ aI⟩, ⟨is3_0_⟩, ⟨au3_17⟩, ⟨au3_16⟩⟩
         replace H := iln_ H; rcases H with ⟨L9, H⟩
         obtain ⟨Af, C1⟩ : ∃ y_ : List (S52), y_ = (bQ ++ [(⟨bX, bw⟩ : S52)]) := ⟨_, rfl⟩
         replace H : (F45.l2 k3 aJ cY (wrap64 (gY - 1)) ae CY CZ C0 cu (⟨#[68, 79, 67, 75]⟩ : ByteArray) (wrap64 (1 + cq)) aA (wrap64 (1 + fC)) (wrap64 (1 + gj)) bU (wrap64 (1 + jk)) Af) = some (r1, r2, r3, r4, r5, r6, r7) := by first | (rw [C1]; exact H) | exact H
         have Sl := am_ C1
         clear C1
         have H' := am_ H
         clear H
         go_wp2_with (first | (go_at_call 69; (with_reducible refine (F69.calls k3 g ae aM aN aQ bX bw cZ cy cz w0 _ ?s1 ?s2 AO.out).mono ?_); (case s1 => exact au3_11); (case s2 => exact au3_14); rintro e b3b ⟨GV, rfl, bm, hi, hb, hk⟩; obtain ⟨jE, ij, ik⟩ := nb9_ bm; (try clear AO); replace aa := am_ (Kd.S_mono (Kd.S_told (Kd.S_oldK (IsS111.apartS (is3_0_ : IsS111 w0 _ g ae aM aN aQ) au3_5 (by decide)) hk) (Kd.S_base bm)) (fun _ h_ => h_.1)); replace au := am_ (Kd.S_mono (Kd.S_told (Kd.S_oldK (IsS111.apartS (is3_0_ : IsS111 w0 _ g ae aM aN aQ) au3_10 (by decide)) hk) (Kd.S_base bm)) (fun _ h_ => h_.1)); replace ap := am_ (Kd.S_mono (Kd.S_told (Kd.S_oldK (IsS111.apartS (is3_0_ : IsS111 w0 _ g ae aM aN aQ) au3_12 (by decide)) hk) (Kd.S_base bm)) (fun _ h_ => (⟨⟨ij _ h_.2, h_.1.1⟩, h_.1.2⟩ : (_ < jE ∧ _) ∧ _))); replace af := ka_ hk af aY; replace ac := ka_ hk ac aZ; replace aH := ka_ hk aH dz; have b5 := am_ (Kd.S_lower ik (blkl_ aI)); replace aI := ka_ hk aI dA; replace HK := am_ (KeepBut.trans au3_2 hk (.inl rfl)); replace HB := am_ (hb); replace ay := am_ (hi); clear hb hk hi bm) | ((with_reducible refine gate_dst (N := 9) rfl ?_); refine be_ 9 #[.string (⟨#[]⟩ : ByteArray), .slice none 0 0] 52 ?_; intro av hg a4S hbox hb; replace aa := am_ (Kd.S_below (Kd.S_elderB au3_5 av (Nat.le_of_eq hg.symm)) hb); replace au := am_ (Kd.S_below (Kd.S_elderB au3_10 av (Nat.le_of_eq hg.symm)) hb); replace ap := am_ (Kd.S_below (Kd.S_elderB au3_12 av (Nat.le_of_eq hg.symm)) hb); replace b5 := am_ (Kd.S_below au3_21 hb); replace HB := am_ (below_step au3_13 hb); have bp := am_ (hbox); have qQ := am_ ((by rw [hg]; exact (keep_size (w := w) (g := g) (row := none) au3_2) : w.heap.size ≤ av)); have pM := am_ ((Nat.le_trans qy.out (by rw [hg]; exact (keep_size (w := w) (g := g) (row := none) au3_2) : w.heap.size ≤ av) : w0.heap.size ≤ av)); replace HK := am_ (KeepBut.trans au3_2 (KeepBut.of_below hb g none) (.inl rfl)); have ei := am_ (gn_ hg (blkl_ af)); have ej := am_ (gm_ hg (blkl_ af)); replace af := bb_ af hb; have ek := am_ (gn_ hg (blkl_ ac)); have el := am_ (gm_ hg (blkl_ ac)); replace ac := bb_ ac hb; have em := am_ (gn_ hg (blkl_ aH)); have en := am_ (gm_ hg (blkl_ aH)); replace aH := bb_ aH hb; have eo := am_ (gn_ hg (blkl_ aI)); have ep := am_ (gm_ hg (blkl_ aI)); replace aI := bb_ aI hb; have dy := am_ (gn_ hg (IsS111.lt (is3_0_ : IsS111 w0 _ g ae cZ cy cz))); have et := am_ (gm_ hg (IsS111.lt (is3_0_ : IsS111 w0 _ g ae cZ cy cz))); replace ay := am_ (IsS111.below is3_0_ hb); clear hb hbox hg; have Ly := ej.out; have Lz := ei.out; have LA := el.out; have LC := ek.out; have a4T := en.out; have a4U := em.out; have a4V := ep.out; have a4W := eo.out; have a4X := et.out; have a4Y := dy.out; obtain ⟨Sm, Sn, So, Sp⟩ := cellsF2 bp.out; obtain ⟨lx, kB, Sq⟩ := Kd.S_slice b5.out; subst Sq) | (go_at_call 46; (with_reducible refine (F46.calls k3 bX _ _ bw false _ ?s1 ?s2 Fy.out).mono ?_); (case s1 => refine (Kd.S_reads' (e := 55) (base := bj + 1) (ok := fun k_ => jE ≤ k_) (n := bw.length) (c := kB) ?_).2.2; exact au3_30); (case s2 => exact au3_53); rintro e b3c ⟨rfl, hb⟩; (try clear Fy); replace aa := am_ (Kd.S_below (by (with_reducible repeat (first | apply Kd.S_alloc | apply Kd.S_drewN | apply Kd.S_drew)); exact (Kd.S_mono (Kd.S_far (p := ⟨av, 1, none⟩) (Kd.S_far (p := ⟨av, 0, none⟩) (Kd.S_mono aa.out (fun k_ hk => (⟨hk, hk.2⟩ : _ ∧ k_ ≠ av))) (fun _ hk => hk.2) (.string bX)) (fun _ hk => hk.2) (.slice lx bw.length kB)) (fun _ h_ => h_.1))) hb); replace au := am_ (Kd.S_below (by (with_reducible repeat (first | apply Kd.S_alloc | apply Kd.S_drewN | apply Kd.S_drew)); exact (Kd.S_mono (Kd.S_far (p := ⟨av, 1, none⟩) (Kd.S_far (p := ⟨av, 0, none⟩) (Kd.S_mono au.out (fun k_ hk => (⟨hk, hk.2⟩ : _ ∧ k_ ≠ av))) (fun _ hk => hk.2) (.string bX)) (fun _ hk => hk.2) (.slice lx bw.length kB)) (fun _ h_ => h_.1))) hb); replace ap := am_ (Kd.S_below (by (with_reducible repeat (first | apply Kd.S_alloc | apply Kd.S_drewN | apply Kd.S_drew)); exact (Kd.S_mono (Kd.S_far (p := ⟨av, 1, none⟩) (Kd.S_far (p := ⟨av, 0, none⟩) (Kd.S_mono ap.out (fun k_ hk => (⟨hk, hk.2⟩ : _ ∧ k_ ≠ av))) (fun _ hk => hk.2) (.string bX)) (fun _ hk => hk.2) (.slice lx bw.length kB)) (fun _ h_ => h_.1))) hb); replace b5 := am_ (Kd.S_below au3_30 hb); replace af := am_ (blk_below (g := ba) (o := .cells #[.string (⟨#[]⟩ : ByteArray), .string (⟨#[]⟩ : ByteArray), .int .i64 0, .slice none 0 0] 29 (0, 0)) (bf_ af) hb); replace ac := am_ (blk_below (g := bf) (o := .cells #[.string cu, .string (⟨#[68, 79, 67, 75]⟩ : ByteArray), .int .i64 (wrap64 (1 + cq)), bL] 29 (0, 0)) (bf_ ac) hb); replace aH := am_ (blk_below (g := b8) (o := .cells #[.int .i64 (wrap64 (1 + fC)), .int .i64 (wrap64 (1 + gj)), ck] 83 (0, 0)) (bf_ aH) hb); replace aI := am_ (blk_below (g := bj) (o := .cells #[.int .i64 (wrap64 (1 + jk)), cx] 85 (0, 0)) (bf_ aI) hb); replace bp := am_ (blk_below (g := av) (o := .cells #[.string bX, .slice lx bw.length kB] 52 (0, 0)) (bq_ bp) hb); replace HK := am_ (KeepBut.trans au3_4 (KeepBut.of_below hb g none) (.inl rfl)); replace HB := am_ (below_step au3_6 hb); replace ay := am_ (IsS111.below (show IsS111 w0 ((a4S.setCell ⟨av, 0, none⟩ (.string bX)).setCell ⟨av, 1, none⟩ (.slice lx bw.length kB)) g ae cZ cy cz from by repeat (first | (with_reducible first | exact ay.out | apply IsS111.alloc | apply IsS111.drewN | apply IsS111.drew | apply IsS111.set_1 | apply IsS111.set_2 | apply IsS111.set_3 | refine IsS111.far ?_ cF.out _ | refine IsS111.far ?_ cw.out _ | refine IsS111.far ?_ fp.out _ | refine IsS111.far ?_ eR.out _ | refine IsS111.far ?_ dy.out _) | exact ay.out)) hb); clear hb) | (go_at_call 70; (with_reducible refine (F70.calls g ae cZ cy cz 40 true CY CZ C0 w0 _ ?s1 ?s2 GU.out).mono ?_); (case s1 => exact au3_18); (case s2 => exact au3_20); rintro e b3d ⟨rfl, hi, hb, hk⟩; (try clear GU); replace aa := am_ (Kd.S_mono (Kd.S_keep (IsS111.apartS (is3_0_ : IsS111 w0 _ g ae cZ cy cz) au3_5 (by decide)) hk (fun _ h => h.2)) (fun _ h => h.1)); replace au := am_ (Kd.S_mono (Kd.S_keep (IsS111.apartS (is3_0_ : IsS111 w0 _ g ae cZ cy cz) au3_10 (by decide)) hk (fun _ h => h.2)) (fun _ h => h.1)); replace ap := am_ (Kd.S_mono (Kd.S_keep (IsS111.apartS (is3_0_ : IsS111 w0 _ g ae cZ cy cz) au3_12 (by decide)) hk (fun _ h => h.2)) (fun _ h => h.1)); replace af := ka_ hk af aY; replace ac := ka_ hk ac aZ; replace aH := ka_ hk aH dz; replace aI := ka_ hk aI dA; replace b5 := am_ (Kd.S_mono (Kd.S_keep (IsS111.apartS (is3_0_ : IsS111 w0 _ g ae cZ cy cz) au3_21 (by decide)) hk (fun _ h => h.2)) (fun _ h => h.1)); replace bp := ka_ hk bp et; replace HK := am_ (KeepBut.trans au3_4 hk (.inl rfl)); replace HB := am_ (hb); replace ay := am_ (hi); clear hb hk hi; have Lu := jy.out; have Lv := jx.out; have Lw := jA.out; have Lx := jz.out; have a4Z := jC.out; have a40 := jB.out; have a41 := dA.out; have a42 := eR.out; obtain ⟨Sr, Ss, St, Su⟩ := cellsF2 aI.out; obtain ⟨Sv, Sw, Sx, Sy⟩ := cellsF2 bp.out) | ((with_reducible refine gate_builtin (b := .append) (xs := #[.tmp 63, .tmp 65]) rfl ?_); at_builtin; refine Kd.S_append k52 (bj + 1) rfl (.tmp 63) (.tmp 65) 38 52 (.agg #[(.string ⟨#[]⟩), (.slice none 0 0)]) 40 rfl Tryd.underlying38 ix_info52 rfl (by decide) (by omega) cx bQ (⟨bX, bw⟩ : S52) [.string bX, .slice lx bw.length kB] (fun k_ => k_ ≠ av) (fun k_ => jE ≤ k_ ∧ k_ ≠ av) rfl rfl ?aP (fun k_ hk_ => ⟨hk_.2, fun e_ => Nat.not_le.2 (((Kd.S_R ap.out).1 k_ e_.symm).1.1.1) hk_.1⟩) ?aF ?aO (Below.refl _ _) ?aS ?aL ?_; (case aP => exact au3_48); (case aF => exact (fun k_ hk => Kd.freshB (g := av) (o := .cells #[.string bX, .slice lx bw.length kB] 52 (0, 0)) (bk_ bp) k_ hk)); (case aO => exact au3_27); (case aS => exact blk_lt (bk_ aI)); (case aL => have := L9.out; omega); intro b3e b3f ho hb hg hat; rw [← Sl.out] at ho; replace aa := am_ (Kd.S_after (ok := (fun k_ => some k_ ≠ (ck : Value).ownBlock ∧ some k_ ≠ (.slice lx bw.length kB : Value).ownBlock ∧ k_ < b8 ∧ k_ ≠ bj ∧ k_ ≠ av)) au3_26 hg hat); replace au := am_ (Kd.S_after (ok := (fun k_ => some k_ ≠ (.slice lx bw.length kB : Value).ownBlock ∧ k_ < bj ∧ k_ ≠ av)) au3_29 hg hat); replace af := am_ (bg_ af hg (Kd.S_ne ap.out af.out (by decide))); replace ac := am_ (bg_ ac hg (Kd.S_ne ap.out ac.out (by decide))); replace aH := am_ (bg_ aH hg (Kd.S_ne ap.out aH.out (by decide))); replace aI := am_ (bg_ aI hg (Kd.S_ne ap.out aI.out (by decide))); replace bp := am_ (bg_ bp hg (Kd.S_away ap.out (fun _ hk => hk.2))); replace HB := am_ (below_weaken au3_6 (Nat.le_succ_of_le mi.out) hb); replace ay := am_ (IsS111.grown is3_0_ hg (IsS111.own_neS ay.out ap.out (by decide))); replace HK := am_ (KeepBut.trans au3_4 (KeepBut.of_grown hg g) (Kd.S_base2 (Kd.S_lower ap.out (Nat.le_succ_of_le pL.out)))); have Jw := am_ (ho); clear ap b5; clear ho hb hg hat; obtain ⟨yd, ye, Sz⟩ := Kd.S_slice Jw.out; subst Sz; obtain ⟨tk, tl, tm, tn⟩ := cellsF2 aI.out))
         go_roundg k3
         case measure => have := dk.out; have := HK2.out; have := pC.out; omega
         case rel => exact ⟨(wrap64 (gY - 1)), (CY), (CZ), (C0), (Af), (.slice yd Af.length ye), er_, H', ⟨au3_42⟩, ⟨by (with_reducible repeat (first | apply Kd.S_alloc | apply Kd.S_drewN | apply Kd.S_drew)); exact Kd.S_mono (Kd.S_far (p := ⟨bj, 1, none⟩) (Kd.S_mono aa.out (fun k_ hk => (⟨hk, hk.1.2.2.2.1⟩ : _ ∧ k_ ≠ bj))) (fun _ hk => hk.2) (.slice yd Af.length ye)) (fun _ hk => ⟨hk.1.1.1, ⟨hk.1.2, ⟨hk.1.1.2.2.1, hk.1.1.2.2.2.1⟩⟩⟩)⟩, ⟨by (with_reducible repeat (first | apply Kd.S_alloc | apply Kd.S_drewN | apply Kd.S_drew)); exact Kd.S_mono (Kd.S_far (p := ⟨bj, 1, none⟩) (Kd.S_mono au.out (fun k_ hk => (⟨hk, Nat.ne_of_lt hk.1.2.1⟩ : _ ∧ k_ ≠ bj))) (fun _ hk => hk.2) (.slice yd Af.length ye)) (fun _ hk => ⟨hk.1.2, hk.1.1.2.1⟩)⟩, ⟨by (with_reducible repeat (first | apply Kd.S_alloc | apply Kd.S_drewN | apply Kd.S_drew)); exact Kd.S_mono (Kd.S_far (p := ⟨bj, 1, none⟩) (Kd.S_types Jw.out aI.out (by decide)) (fun _ hk => hk.2) (.slice yd Af.length ye)) (fun _ hk => trivial)⟩, ⟨bf_ af⟩, ⟨bf_ ac⟩, ⟨bf_ aH⟩, ⟨bq_ aI⟩, ⟨is3_0_⟩, ⟨au3_17⟩, ⟨au3_16⟩⟩
        replace H := bi_ H; rcases H with ⟨Rl, OH, H⟩
        replace H := ib_ H; rcases H with ⟨rfl, H⟩ | ⟨rfl, H⟩
        rotate_left
        ·replace H := iln_ H; rcases H with ⟨SA, H⟩
         obtain ⟨Ag, C2⟩ : ∃ y_ : List (S52), y_ = (bQ ++ [(⟨bX, bw⟩ : S52)]) := ⟨_, rfl⟩
         replace H : (F45.l2 k3 aJ cY (wrap64 (gY - 1)) ae cZ cy cz cu (⟨#[68, 79, 67, 75]⟩ : ByteArray) (wrap64 (1 + cq)) aA (wrap64 (1 + fC)) (wrap64 (1 + gj)) bU (wrap64 (1 + jk)) Ag) = some (r1, r2, r3, r4, r5, r6, r7) := by first | (rw [C2]; exact H) | exact H
         have SB := am_ C2
         clear C2
         have H' := am_ H
         clear H
         go_wp2_with (first | (go_at_call 69; (with_reducible refine (F69.calls k3 g ae aM aN aQ bX bw cZ cy cz w0 _ ?s1 ?s2 AO.out).mono ?_); (case s1 => exact au3_11); (case s2 => exact au3_14); rintro e w82 ⟨GV, rfl, bm, hi, hb, hk⟩; obtain ⟨jE, ij, ik⟩ := nb9_ bm; (try clear AO); replace aa := am_ (Kd.S_mono (Kd.S_told (Kd.S_oldK (IsS111.apartS (is3_0_ : IsS111 w0 _ g ae aM aN aQ) au3_5 (by decide)) hk) (Kd.S_base bm)) (fun _ h_ => h_.1)); replace au := am_ (Kd.S_mono (Kd.S_told (Kd.S_oldK (IsS111.apartS (is3_0_ : IsS111 w0 _ g ae aM aN aQ) au3_10 (by decide)) hk) (Kd.S_base bm)) (fun _ h_ => h_.1)); replace ap := am_ (Kd.S_mono (Kd.S_told (Kd.S_oldK (IsS111.apartS (is3_0_ : IsS111 w0 _ g ae aM aN aQ) au3_12 (by decide)) hk) (Kd.S_base bm)) (fun _ h_ => (⟨⟨ij _ h_.2, h_.1.1⟩, h_.1.2⟩ : (_ < jE ∧ _) ∧ _))); replace af := ka_ hk af aY; replace ac := ka_ hk ac aZ; replace aH := ka_ hk aH dz; have b5 := am_ (Kd.S_lower ik (blkl_ aI)); replace aI := ka_ hk aI dA; replace HK := am_ (KeepBut.trans au3_2 hk (.inl rfl)); replace HB := am_ (hb); replace ay := am_ (hi); clear hb hk hi bm) | ((with_reducible refine gate_dst (N := 9) rfl ?_); refine be_ 9 #[.string (⟨#[]⟩ : ByteArray), .slice none 0 0] 52 ?_; intro av hg w83 hbox hb; replace aa := am_ (Kd.S_below (Kd.S_elderB au3_5 av (Nat.le_of_eq hg.symm)) hb); replace au := am_ (Kd.S_below (Kd.S_elderB au3_10 av (Nat.le_of_eq hg.symm)) hb); replace ap := am_ (Kd.S_below (Kd.S_elderB au3_12 av (Nat.le_of_eq hg.symm)) hb); replace b5 := am_ (Kd.S_below au3_21 hb); replace HB := am_ (below_step au3_13 hb); have bp := am_ (hbox); have qQ := am_ ((by rw [hg]; exact (keep_size (w := w) (g := g) (row := none) au3_2) : w.heap.size ≤ av)); have pM := am_ ((Nat.le_trans qy.out (by rw [hg]; exact (keep_size (w := w) (g := g) (row := none) au3_2) : w.heap.size ≤ av) : w0.heap.size ≤ av)); replace HK := am_ (KeepBut.trans au3_2 (KeepBut.of_below hb g none) (.inl rfl)); have ei := am_ (gn_ hg (blkl_ af)); have ej := am_ (gm_ hg (blkl_ af)); replace af := bb_ af hb; have ek := am_ (gn_ hg (blkl_ ac)); have el := am_ (gm_ hg (blkl_ ac)); replace ac := bb_ ac hb; have em := am_ (gn_ hg (blkl_ aH)); have en := am_ (gm_ hg (blkl_ aH)); replace aH := bb_ aH hb; have eo := am_ (gn_ hg (blkl_ aI)); have ep := am_ (gm_ hg (blkl_ aI)); replace aI := bb_ aI hb; have dy := am_ (gn_ hg (IsS111.lt (is3_0_ : IsS111 w0 _ g ae cZ cy cz))); have et := am_ (gm_ hg (IsS111.lt (is3_0_ : IsS111 w0 _ g ae cZ cy cz))); replace ay := am_ (IsS111.below is3_0_ hb); clear hb hbox hg; have a9U := ej.out; have a9V := ei.out; have a9W := el.out; have a9X := ek.out; have a9Y := en.out; have a9Z := em.out; have a90 := ep.out; have a91 := eo.out; have SC := et.out; have SD := dy.out; obtain ⟨Zg, Zh, Zi, Zj⟩ := cellsF2 bp.out; obtain ⟨ny, ml, a43⟩ := Kd.S_slice b5.out; subst a43) | (go_at_call 46; (with_reducible refine (F46.calls k3 bX _ _ bw true _ ?s1 ?s2 Fy.out).mono ?_); (case s1 => refine (Kd.S_reads' (e := 55) (base := bj + 1) (ok := fun k_ => jE ≤ k_) (n := bw.length) (c := ml) ?_).2.2; exact au3_34); (case s2 => exact au3_53); rintro e tK ⟨rfl, hb⟩; (try clear Fy); replace aa := am_ (Kd.S_below (by (with_reducible repeat (first | apply Kd.S_alloc | apply Kd.S_drewN | apply Kd.S_drew)); exact (Kd.S_mono (Kd.S_far (p := ⟨av, 1, none⟩) (Kd.S_far (p := ⟨av, 0, none⟩) (Kd.S_mono aa.out (fun k_ hk => (⟨hk, hk.2⟩ : _ ∧ k_ ≠ av))) (fun _ hk => hk.2) (.string bX)) (fun _ hk => hk.2) (.slice ny bw.length ml)) (fun _ h_ => h_.1))) hb); replace au := am_ (Kd.S_below (by (with_reducible repeat (first | apply Kd.S_alloc | apply Kd.S_drewN | apply Kd.S_drew)); exact (Kd.S_mono (Kd.S_far (p := ⟨av, 1, none⟩) (Kd.S_far (p := ⟨av, 0, none⟩) (Kd.S_mono au.out (fun k_ hk => (⟨hk, hk.2⟩ : _ ∧ k_ ≠ av))) (fun _ hk => hk.2) (.string bX)) (fun _ hk => hk.2) (.slice ny bw.length ml)) (fun _ h_ => h_.1))) hb); replace ap := am_ (Kd.S_below (by (with_reducible repeat (first | apply Kd.S_alloc | apply Kd.S_drewN | apply Kd.S_drew)); exact (Kd.S_mono (Kd.S_far (p := ⟨av, 1, none⟩) (Kd.S_far (p := ⟨av, 0, none⟩) (Kd.S_mono ap.out (fun k_ hk => (⟨hk, hk.2⟩ : _ ∧ k_ ≠ av))) (fun _ hk => hk.2) (.string bX)) (fun _ hk => hk.2) (.slice ny bw.length ml)) (fun _ h_ => h_.1))) hb); replace b5 := am_ (Kd.S_below au3_34 hb); replace af := am_ (blk_below (g := ba) (o := .cells #[.string (⟨#[]⟩ : ByteArray), .string (⟨#[]⟩ : ByteArray), .int .i64 0, .slice none 0 0] 29 (0, 0)) (bf_ af) hb); replace ac := am_ (blk_below (g := bf) (o := .cells #[.string cu, .string (⟨#[68, 79, 67, 75]⟩ : ByteArray), .int .i64 (wrap64 (1 + cq)), bL] 29 (0, 0)) (bf_ ac) hb); replace aH := am_ (blk_below (g := b8) (o := .cells #[.int .i64 (wrap64 (1 + fC)), .int .i64 (wrap64 (1 + gj)), ck] 83 (0, 0)) (bf_ aH) hb); replace aI := am_ (blk_below (g := bj) (o := .cells #[.int .i64 (wrap64 (1 + jk)), cx] 85 (0, 0)) (bf_ aI) hb); replace bp := am_ (blk_below (g := av) (o := .cells #[.string bX, .slice ny bw.length ml] 52 (0, 0)) (bq_ bp) hb); replace HK := am_ (KeepBut.trans au3_4 (KeepBut.of_below hb g none) (.inl rfl)); replace HB := am_ (below_step au3_6 hb); replace ay := am_ (IsS111.below (show IsS111 w0 ((w83.setCell ⟨av, 0, none⟩ (.string bX)).setCell ⟨av, 1, none⟩ (.slice ny bw.length ml)) g ae cZ cy cz from by repeat (first | (with_reducible first | exact ay.out | apply IsS111.alloc | apply IsS111.drewN | apply IsS111.drew | apply IsS111.set_1 | apply IsS111.set_2 | apply IsS111.set_3 | refine IsS111.far ?_ cF.out _ | refine IsS111.far ?_ cw.out _ | refine IsS111.far ?_ fp.out _ | refine IsS111.far ?_ eR.out _ | refine IsS111.far ?_ dy.out _) | exact ay.out)) hb); clear hb; obtain ⟨Zk, Zl, Zm, Zn⟩ := cellsF2 bp.out) | (go_at_call 47; (with_reducible refine (F47.calls bX false _ OH.out).mono ?_); rintro e w' ⟨rfl, ⟨nd, rfl⟩⟩; (try clear OH); (try (rw [drewN_self tK]; generalize hq_ : World.drewN tK _ = tK; have bI : Aside0 (Kd.S k55 55 tK (bj + 1) (fun k_ => jE ≤ k_) (.slice ny bw.length ml) bw) := ⟨by rw [← hq_]; exact au3_21⟩; have bZ : Aside0 (Kd.S k83 83 tK w.heap.size _ bL aA) := ⟨by rw [← hq_]; exact au3_5⟩; have n2_ : Aside0 (Kd.S k85 85 tK (b8 + 1) _ ck bU) := ⟨by rw [← hq_]; exact au3_10⟩; have cD : Aside0 (Kd.S k52 52 tK (bj + 1) _ cx bQ) := ⟨by rw [← hq_]; exact au3_12⟩; have ji : Aside0 (tK.heap[ba]? = some (.cells #[.string (⟨#[]⟩ : ByteArray), .string (⟨#[]⟩ : ByteArray), .int .i64 0, .slice none 0 0] 29 (0, 0))) := ⟨by rw [← hq_]; exact (bk_ af)⟩; have jj : Aside0 (tK.heap[bf]? = some (.cells #[.string cu, .string (⟨#[68, 79, 67, 75]⟩ : ByteArray), .int .i64 (wrap64 (1 + cq)), bL] 29 (0, 0))) := ⟨by rw [← hq_]; exact (bk_ ac)⟩; have nv : Aside0 (tK.heap[b8]? = some (.cells #[.int .i64 (wrap64 (1 + fC)), .int .i64 (wrap64 (1 + gj)), ck] 83 (0, 0))) := ⟨by rw [← hq_]; exact (bk_ aH)⟩; have qw : Aside0 (tK.heap[bj]? = some (.cells #[.int .i64 (wrap64 (1 + jk)), cx] 85 (0, 0))) := ⟨by rw [← hq_]; exact (bk_ aI)⟩; have uB : Aside0 (tK.heap[av]? = some (.cells #[.string bX, .slice ny bw.length ml] 52 (0, 0))) := ⟨by rw [← hq_]; exact (bk_ bp)⟩; have Jx : Aside0 (IsS111 w0 tK g ae cZ cy cz) := ⟨by rw [← hq_]; exact is3_0_⟩; have C4 : Aside0 (KeepBut w tK g none) := ⟨by rw [← hq_]; exact au3_4⟩; have C5 : Aside0 (Below w0.heap.size w0 tK) := ⟨by rw [← hq_]; exact au3_6⟩; clear b5 aa au ap af ac aH aI bp ay HK HB hq_; have b5 := bI; have aa := bZ; have au := n2_; have ap := cD; have af := ji; have ac := jj; have aH := nv; have aI := qw; have bp := uB; have ay := Jx; have HK := C4; have HB := C5; clear bI bZ n2_ cD ji jj nv qw uB Jx C4 C5)); have hcz92_0y : tK.cell? ⟨av, 0, none⟩ = some (.string bX) := (blk_cell bp.out 0).trans rfl; have hcz92_1y : tK.cell? ⟨av, 1, none⟩ = some (.slice ny bw.length ml) := (blk_cell bp.out 1).trans rfl; have a92 := jy.out; have a93 := jx.out; have a94 := jA.out; have a95 := jz.out; have SE := jC.out; have SF := jB.out; have SG := dA.out; have SH := eR.out; obtain ⟨GW, GX, GY, GZ⟩ := cellsF2 aI.out) | ((with_reducible refine gate_builtin (b := .append) (xs := #[.tmp 63, .tmp 65]) rfl ?_); at_builtin; refine Kd.S_append k52 (bj + 1) rfl (.tmp 63) (.tmp 65) 38 52 (.agg #[(.string ⟨#[]⟩), (.slice none 0 0)]) 40 rfl Tryd.underlying38 ix_info52 rfl (by decide) (by omega) cx bQ (⟨bX, bw⟩ : S52) [.string bX, .slice ny bw.length ml] (fun k_ => k_ ≠ av) (fun k_ => jE ≤ k_ ∧ k_ ≠ av) rfl rfl ?aP (fun k_ hk_ => ⟨hk_.2, fun e_ => Nat.not_le.2 (((Kd.S_R ap.out).1 k_ e_.symm).1.1.1) hk_.1⟩) ?aF ?aO (Below.refl _ _) ?aS ?aL ?_; (case aP => exact au3_48); (case aF => exact (fun k_ hk => Kd.freshB (g := av) (o := .cells #[.string bX, .slice ny bw.length ml] 52 (0, 0)) (bk_ bp) k_ hk)); (case aO => exact au3_27); (case aS => exact blk_lt (bk_ aI)); (case aL => have := SA.out; omega); intro b3h w98 ho hb hg hat; rw [← SB.out] at ho; replace aa := am_ (Kd.S_after (ok := (fun k_ => some k_ ≠ (ck : Value).ownBlock ∧ some k_ ≠ (.slice ny bw.length ml : Value).ownBlock ∧ k_ < b8 ∧ k_ ≠ bj ∧ k_ ≠ av)) au3_26 hg hat); replace au := am_ (Kd.S_after (ok := (fun k_ => some k_ ≠ (.slice ny bw.length ml : Value).ownBlock ∧ k_ < bj ∧ k_ ≠ av)) au3_29 hg hat); replace af := am_ (bg_ af hg (Kd.S_ne ap.out af.out (by decide))); replace ac := am_ (bg_ ac hg (Kd.S_ne ap.out ac.out (by decide))); replace aH := am_ (bg_ aH hg (Kd.S_ne ap.out aH.out (by decide))); replace aI := am_ (bg_ aI hg (Kd.S_ne ap.out aI.out (by decide))); replace bp := am_ (bg_ bp hg (Kd.S_away ap.out (fun _ hk => hk.2))); replace HB := am_ (below_weaken au3_6 (Nat.le_succ_of_le mi.out) hb); replace ay := am_ (IsS111.grown is3_0_ hg (IsS111.own_neS ay.out ap.out (by decide))); replace HK := am_ (KeepBut.trans au3_4 (KeepBut.of_grown hg g) (Kd.S_base2 (Kd.S_lower ap.out (Nat.le_succ_of_le pL.out)))); have Jy := am_ (ho); clear ap b5; clear ho hb hg hat; obtain ⟨Ah, Ai, Ma⟩ := Kd.S_slice Jy.out; subst Ma; obtain ⟨tq, tr, tt, tu⟩ := cellsF2 aI.out))
         go_roundg k3
         case measure => have := dk.out; have := HK2.out; have := pC.out; omega
         case rel => exact ⟨(wrap64 (gY - 1)), (cZ), (cy), (cz), (Ag), (.slice Ah Ag.length Ai), er_, H', ⟨au3_42⟩, ⟨by (with_reducible repeat (first | apply Kd.S_alloc | apply Kd.S_drewN | apply Kd.S_drew)); exact Kd.S_mono (Kd.S_far (p := ⟨bj, 1, none⟩) (Kd.S_mono aa.out (fun k_ hk => (⟨hk, hk.1.2.2.2.1⟩ : _ ∧ k_ ≠ bj))) (fun _ hk => hk.2) (.slice Ah Ag.length Ai)) (fun _ hk => ⟨hk.1.1.1, ⟨hk.1.2, ⟨hk.1.1.2.2.1, hk.1.1.2.2.2.1⟩⟩⟩)⟩, ⟨by (with_reducible repeat (first | apply Kd.S_alloc | apply Kd.S_drewN | apply Kd.S_drew)); exact Kd.S_mono (Kd.S_far (p := ⟨bj, 1, none⟩) (Kd.S_mono au.out (fun k_ hk => (⟨hk, Nat.ne_of_lt hk.1.2.1⟩ : _ ∧ k_ ≠ bj))) (fun _ hk => hk.2) (.slice Ah Ag.length Ai)) (fun _ hk => ⟨hk.1.2, hk.1.1.2.1⟩)⟩, ⟨by (with_reducible repeat (first | apply Kd.S_alloc | apply Kd.S_drewN | apply Kd.S_drew)); exact Kd.S_mono (Kd.S_far (p := ⟨bj, 1, none⟩) (Kd.S_types Jy.out aI.out (by decide)) (fun _ hk => hk.2) (.slice Ah Ag.length Ai)) (fun _ hk => trivial)⟩, ⟨bf_ af⟩, ⟨bf_ ac⟩, ⟨bf_ aH⟩, ⟨bq_ aI⟩, ⟨is3_0_⟩, ⟨au3_17⟩, ⟨au3_16⟩⟩
        replace H := bi_ H; rcases H with ⟨⟨pS, lr, C6, C7⟩, Zo, H⟩
        replace H := ib_ H; rcases H with ⟨rfl, H⟩ | ⟨rfl, H⟩
        rotate_left
        ·have H' := am_ H
         clear H
         go_wp2_with (first | (go_at_call 69; (with_reducible refine (F69.calls k3 g ae aM aN aQ bX bw cZ cy cz w0 _ ?s1 ?s2 AO.out).mono ?_); (case s1 => exact au3_11); (case s2 => exact au3_14); rintro e w69 ⟨GV, rfl, bm, hi, hb, hk⟩; obtain ⟨jE, ij, ik⟩ := nb9_ bm; (try clear AO); replace aa := am_ (Kd.S_mono (Kd.S_told (Kd.S_oldK (IsS111.apartS (is3_0_ : IsS111 w0 _ g ae aM aN aQ) au3_5 (by decide)) hk) (Kd.S_base bm)) (fun _ h_ => h_.1)); replace au := am_ (Kd.S_mono (Kd.S_told (Kd.S_oldK (IsS111.apartS (is3_0_ : IsS111 w0 _ g ae aM aN aQ) au3_10 (by decide)) hk) (Kd.S_base bm)) (fun _ h_ => h_.1)); replace ap := am_ (Kd.S_mono (Kd.S_told (Kd.S_oldK (IsS111.apartS (is3_0_ : IsS111 w0 _ g ae aM aN aQ) au3_12 (by decide)) hk) (Kd.S_base bm)) (fun _ h_ => (⟨⟨ij _ h_.2, h_.1.1⟩, h_.1.2⟩ : (_ < jE ∧ _) ∧ _))); replace af := ka_ hk af aY; replace ac := ka_ hk ac aZ; replace aH := ka_ hk aH dz; have b5 := am_ (Kd.S_lower ik (blkl_ aI)); replace aI := ka_ hk aI dA; replace HK := am_ (KeepBut.trans au3_2 hk (.inl rfl)); replace HB := am_ (hb); replace ay := am_ (hi); clear hb hk hi bm) | ((with_reducible refine gate_dst (N := 9) rfl ?_); refine be_ 9 #[.string (⟨#[]⟩ : ByteArray), .slice none 0 0] 52 ?_; intro av hg w70 hbox hb; replace aa := am_ (Kd.S_below (Kd.S_elderB au3_5 av (Nat.le_of_eq hg.symm)) hb); replace au := am_ (Kd.S_below (Kd.S_elderB au3_10 av (Nat.le_of_eq hg.symm)) hb); replace ap := am_ (Kd.S_below (Kd.S_elderB au3_12 av (Nat.le_of_eq hg.symm)) hb); replace b5 := am_ (Kd.S_below au3_21 hb); replace HB := am_ (below_step au3_13 hb); have bp := am_ (hbox); have qQ := am_ ((by rw [hg]; exact (keep_size (w := w) (g := g) (row := none) au3_2) : w.heap.size ≤ av)); have pM := am_ ((Nat.le_trans qy.out (by rw [hg]; exact (keep_size (w := w) (g := g) (row := none) au3_2) : w.heap.size ≤ av) : w0.heap.size ≤ av)); replace HK := am_ (KeepBut.trans au3_2 (KeepBut.of_below hb g none) (.inl rfl)); have ei := am_ (gn_ hg (blkl_ af)); have ej := am_ (gm_ hg (blkl_ af)); replace af := bb_ af hb; have ek := am_ (gn_ hg (blkl_ ac)); have el := am_ (gm_ hg (blkl_ ac)); replace ac := bb_ ac hb; have em := am_ (gn_ hg (blkl_ aH)); have en := am_ (gm_ hg (blkl_ aH)); replace aH := bb_ aH hb; have eo := am_ (gn_ hg (blkl_ aI)); have ep := am_ (gm_ hg (blkl_ aI)); replace aI := bb_ aI hb; have dy := am_ (gn_ hg (IsS111.lt (is3_0_ : IsS111 w0 _ g ae cZ cy cz))); have et := am_ (gm_ hg (IsS111.lt (is3_0_ : IsS111 w0 _ g ae cZ cy cz))); replace ay := am_ (IsS111.below is3_0_ hb); clear hb hbox hg; have SI := ej.out; have SJ := ei.out; have a96 := el.out; have a97 := ek.out; have a98 := en.out; have a99 := em.out; have Jz := ep.out; have JA := eo.out; have IY := et.out; have IZ := dy.out; obtain ⟨G0, G1, G2, G3⟩ := cellsF2 bp.out; obtain ⟨z8, uE, a44⟩ := Kd.S_slice b5.out; subst a44) | (go_at_call 46; (with_reducible refine (F46.calls k3 bX _ _ bw true _ ?s1 ?s2 Fy.out).mono ?_); (case s1 => refine (Kd.S_reads' (e := 55) (base := bj + 1) (ok := fun k_ => jE ≤ k_) (n := bw.length) (c := uE) ?_).2.2; exact au3_33); (case s2 => exact au3_53); rintro e w78 ⟨rfl, hb⟩; (try clear Fy); replace aa := am_ (Kd.S_below (by (with_reducible repeat (first | apply Kd.S_alloc | apply Kd.S_drewN | apply Kd.S_drew)); exact (Kd.S_mono (Kd.S_far (p := ⟨av, 1, none⟩) (Kd.S_far (p := ⟨av, 0, none⟩) (Kd.S_mono aa.out (fun k_ hk => (⟨hk, hk.2⟩ : _ ∧ k_ ≠ av))) (fun _ hk => hk.2) (.string bX)) (fun _ hk => hk.2) (.slice z8 bw.length uE)) (fun _ h_ => h_.1))) hb); replace au := am_ (Kd.S_below (by (with_reducible repeat (first | apply Kd.S_alloc | apply Kd.S_drewN | apply Kd.S_drew)); exact (Kd.S_mono (Kd.S_far (p := ⟨av, 1, none⟩) (Kd.S_far (p := ⟨av, 0, none⟩) (Kd.S_mono au.out (fun k_ hk => (⟨hk, hk.2⟩ : _ ∧ k_ ≠ av))) (fun _ hk => hk.2) (.string bX)) (fun _ hk => hk.2) (.slice z8 bw.length uE)) (fun _ h_ => h_.1))) hb); replace ap := am_ (Kd.S_below (by (with_reducible repeat (first | apply Kd.S_alloc | apply Kd.S_drewN | apply Kd.S_drew)); exact (Kd.S_mono (Kd.S_far (p := ⟨av, 1, none⟩) (Kd.S_far (p := ⟨av, 0, none⟩) (Kd.S_mono ap.out (fun k_ hk => (⟨hk, hk.2⟩ : _ ∧ k_ ≠ av))) (fun _ hk => hk.2) (.string bX)) (fun _ hk => hk.2) (.slice z8 bw.length uE)) (fun _ h_ => h_.1))) hb); replace b5 := am_ (Kd.S_below au3_33 hb); replace af := am_ (blk_below (g := ba) (o := .cells #[.string (⟨#[]⟩ : ByteArray), .string (⟨#[]⟩ : ByteArray), .int .i64 0, .slice none 0 0] 29 (0, 0)) (bf_ af) hb); replace ac := am_ (blk_below (g := bf) (o := .cells #[.string cu, .string (⟨#[68, 79, 67, 75]⟩ : ByteArray), .int .i64 (wrap64 (1 + cq)), bL] 29 (0, 0)) (bf_ ac) hb); replace aH := am_ (blk_below (g := b8) (o := .cells #[.int .i64 (wrap64 (1 + fC)), .int .i64 (wrap64 (1 + gj)), ck] 83 (0, 0)) (bf_ aH) hb); replace aI := am_ (blk_below (g := bj) (o := .cells #[.int .i64 (wrap64 (1 + jk)), cx] 85 (0, 0)) (bf_ aI) hb); replace bp := am_ (blk_below (g := av) (o := .cells #[.string bX, .slice z8 bw.length uE] 52 (0, 0)) (bq_ bp) hb); replace HK := am_ (KeepBut.trans au3_4 (KeepBut.of_below hb g none) (.inl rfl)); replace HB := am_ (below_step au3_6 hb); replace ay := am_ (IsS111.below (show IsS111 w0 ((w70.setCell ⟨av, 0, none⟩ (.string bX)).setCell ⟨av, 1, none⟩ (.slice z8 bw.length uE)) g ae cZ cy cz from by repeat (first | (with_reducible first | exact ay.out | apply IsS111.alloc | apply IsS111.drewN | apply IsS111.drew | apply IsS111.set_1 | apply IsS111.set_2 | apply IsS111.set_3 | refine IsS111.far ?_ cF.out _ | refine IsS111.far ?_ cw.out _ | refine IsS111.far ?_ fp.out _ | refine IsS111.far ?_ eR.out _ | refine IsS111.far ?_ dy.out _) | exact ay.out)) hb); clear hb; obtain ⟨rH, rI, rJ, rK⟩ := cellsF2 bp.out) | (go_at_call 47; (with_reducible refine (F47.calls bX true _ OH.out).mono ?_); rintro e w' ⟨rfl, ⟨nd, rfl⟩⟩; (try clear OH)) | (go_at_call 70; (with_reducible refine (F70.calls g ae cZ cy cz 40 false lr C6 C7 w0 _ ?s1 ?s2 Zo.out).mono ?_); (case s1 => exact au3_18); (case s2 => exact au3_20); rintro e w80 ⟨rfl, hi, hb, hk⟩; (try clear Zo); replace aa := am_ (Kd.S_mono (Kd.S_keep (IsS111.apartS (is3_0_ : IsS111 w0 _ g ae cZ cy cz) au3_5 (by decide)) hk (fun _ h => h.2)) (fun _ h => h.1)); replace au := am_ (Kd.S_mono (Kd.S_keep (IsS111.apartS (is3_0_ : IsS111 w0 _ g ae cZ cy cz) au3_10 (by decide)) hk (fun _ h => h.2)) (fun _ h => h.1)); replace ap := am_ (Kd.S_mono (Kd.S_keep (IsS111.apartS (is3_0_ : IsS111 w0 _ g ae cZ cy cz) au3_12 (by decide)) hk (fun _ h => h.2)) (fun _ h => h.1)); replace af := ka_ hk af aY; replace ac := ka_ hk ac aZ; replace aH := ka_ hk aH dz; replace aI := ka_ hk aI dA; replace b5 := am_ (Kd.S_mono (Kd.S_keep (IsS111.apartS (is3_0_ : IsS111 w0 _ g ae cZ cy cz) au3_21 (by decide)) hk (fun _ h => h.2)) (fun _ h => h.1)); replace bp := ka_ hk bp et; replace HK := am_ (KeepBut.trans au3_4 hk (.inl rfl)); replace HB := am_ (hb); replace ay := am_ (hi); clear hb hk hi))
         go_roundg k3
         case measure => have := dk.out; have := HK2.out; have := pC.out; omega
         case rel => exact ⟨(wrap64 (gY - 1)), (lr), (C6), (C7), (bQ), (cx), er_, H', ⟨au3_42⟩, ⟨au3_47⟩, ⟨au3_49⟩, ⟨au3_50⟩, ⟨bk_ af⟩, ⟨bk_ ac⟩, ⟨bk_ aH⟩, ⟨bk_ aI⟩, ⟨is3_0_⟩, ⟨au3_17⟩, ⟨au3_16⟩⟩
        replace H := iln_ H; rcases H with ⟨C8, H⟩
        obtain ⟨Aj, C9⟩ : ∃ y_ : List (S52), y_ = (bQ ++ [(⟨bX, bw⟩ : S52)]) := ⟨_, rfl⟩
        replace H : (F45.l2 k3 aJ cY (wrap64 (gY - 1)) ae lr C6 C7 cu (⟨#[68, 79, 67, 75]⟩ : ByteArray) (wrap64 (1 + cq)) aA (wrap64 (1 + fC)) (wrap64 (1 + gj)) bU (wrap64 (1 + jk)) Aj) = some (r1, r2, r3, r4, r5, r6, r7) := by first | (rw [C9]; exact H) | exact H
        have SK := am_ C9
        clear C9
        have H' := am_ H
        clear H
        go_wp2_with (first | (go_at_call 69; (with_reducible refine (F69.calls k3 g ae aM aN aQ bX bw cZ cy cz w0 _ ?s1 ?s2 AO.out).mono ?_); (case s1 => exact au3_11); (case s2 => exact au3_14); rintro e Zp ⟨GV, rfl, bm, hi, hb, hk⟩; obtain ⟨jE, ij, ik⟩ := nb9_ bm; (try clear AO); replace aa := am_ (Kd.S_mono (Kd.S_told (Kd.S_oldK (IsS111.apartS (is3_0_ : IsS111 w0 _ g ae aM aN aQ) au3_5 (by decide)) hk) (Kd.S_base bm)) (fun _ h_ => h_.1)); replace au := am_ (Kd.S_mono (Kd.S_told (Kd.S_oldK (IsS111.apartS (is3_0_ : IsS111 w0 _ g ae aM aN aQ) au3_10 (by decide)) hk) (Kd.S_base bm)) (fun _ h_ => h_.1)); replace ap := am_ (Kd.S_mono (Kd.S_told (Kd.S_oldK (IsS111.apartS (is3_0_ : IsS111 w0 _ g ae aM aN aQ) au3_12 (by decide)) hk) (Kd.S_base bm)) (fun _ h_ => (⟨⟨ij _ h_.2, h_.1.1⟩, h_.1.2⟩ : (_ < jE ∧ _) ∧ _))); replace af := ka_ hk af aY; replace ac := ka_ hk ac aZ; replace aH := ka_ hk aH dz; have b5 := am_ (Kd.S_lower ik (blkl_ aI)); replace aI := ka_ hk aI dA; replace HK := am_ (KeepBut.trans au3_2 hk (.inl rfl)); replace HB := am_ (hb); replace ay := am_ (hi); clear hb hk hi bm) | ((with_reducible refine gate_dst (N := 9) rfl ?_); refine be_ 9 #[.string (⟨#[]⟩ : ByteArray), .slice none 0 0] 52 ?_; intro av hg w49 hbox hb; replace aa := am_ (Kd.S_below (Kd.S_elderB au3_5 av (Nat.le_of_eq hg.symm)) hb); replace au := am_ (Kd.S_below (Kd.S_elderB au3_10 av (Nat.le_of_eq hg.symm)) hb); replace ap := am_ (Kd.S_below (Kd.S_elderB au3_12 av (Nat.le_of_eq hg.symm)) hb); replace b5 := am_ (Kd.S_below au3_21 hb); replace HB := am_ (below_step au3_13 hb); have bp := am_ (hbox); have qQ := am_ ((by rw [hg]; exact (keep_size (w := w) (g := g) (row := none) au3_2) : w.heap.size ≤ av)); have pM := am_ ((Nat.le_trans qy.out (by rw [hg]; exact (keep_size (w := w) (g := g) (row := none) au3_2) : w.heap.size ≤ av) : w0.heap.size ≤ av)); replace HK := am_ (KeepBut.trans au3_2 (KeepBut.of_below hb g none) (.inl rfl)); have ei := am_ (gn_ hg (blkl_ af)); have ej := am_ (gm_ hg (blkl_ af)); replace af := bb_ af hb; have ek := am_ (gn_ hg (blkl_ ac)); have el := am_ (gm_ hg (blkl_ ac)); replace ac := bb_ ac hb; have em := am_ (gn_ hg (blkl_ aH)); have en := am_ (gm_ hg (blkl_ aH)); replace aH := bb_ aH hb; have eo := am_ (gn_ hg (blkl_ aI)); have ep := am_ (gm_ hg (blkl_ aI)); replace aI := bb_ aI hb; have dy := am_ (gn_ hg (IsS111.lt (is3_0_ : IsS111 w0 _ g ae cZ cy cz))); have et := am_ (gm_ hg (IsS111.lt (is3_0_ : IsS111 w0 _ g ae cZ cy cz))); replace ay := am_ (IsS111.below is3_0_ hb); clear hb hbox hg; have b0a := ej.out; have b0b := ei.out; have SL := el.out; have SM := ek.out; have SN := en.out; have SO := em.out; have b0c := ep.out; have b0d := eo.out; have SP := et.out; have SQ := dy.out; obtain ⟨Zq, Zr, Zs, Zt⟩ := cellsF2 bp.out; obtain ⟨nx, mj, a45⟩ := Kd.S_slice b5.out; subst a45) | (go_at_call 46; (with_reducible refine (F46.calls k3 bX _ _ bw true _ ?s1 ?s2 Fy.out).mono ?_); (case s1 => refine (Kd.S_reads' (e := 55) (base := bj + 1) (ok := fun k_ => jE ≤ k_) (n := bw.length) (c := mj) ?_).2.2; exact au3_32); (case s2 => exact au3_53); rintro e sW ⟨rfl, hb⟩; (try clear Fy); replace aa := am_ (Kd.S_below (by (with_reducible repeat (first | apply Kd.S_alloc | apply Kd.S_drewN | apply Kd.S_drew)); exact (Kd.S_mono (Kd.S_far (p := ⟨av, 1, none⟩) (Kd.S_far (p := ⟨av, 0, none⟩) (Kd.S_mono aa.out (fun k_ hk => (⟨hk, hk.2⟩ : _ ∧ k_ ≠ av))) (fun _ hk => hk.2) (.string bX)) (fun _ hk => hk.2) (.slice nx bw.length mj)) (fun _ h_ => h_.1))) hb); replace au := am_ (Kd.S_below (by (with_reducible repeat (first | apply Kd.S_alloc | apply Kd.S_drewN | apply Kd.S_drew)); exact (Kd.S_mono (Kd.S_far (p := ⟨av, 1, none⟩) (Kd.S_far (p := ⟨av, 0, none⟩) (Kd.S_mono au.out (fun k_ hk => (⟨hk, hk.2⟩ : _ ∧ k_ ≠ av))) (fun _ hk => hk.2) (.string bX)) (fun _ hk => hk.2) (.slice nx bw.length mj)) (fun _ h_ => h_.1))) hb); replace ap := am_ (Kd.S_below (by (with_reducible repeat (first | apply Kd.S_alloc | apply Kd.S_drewN | apply Kd.S_drew)); exact (Kd.S_mono (Kd.S_far (p := ⟨av, 1, none⟩) (Kd.S_far (p := ⟨av, 0, none⟩) (Kd.S_mono ap.out (fun k_ hk => (⟨hk, hk.2⟩ : _ ∧ k_ ≠ av))) (fun _ hk => hk.2) (.string bX)) (fun _ hk => hk.2) (.slice nx bw.length mj)) (fun _ h_ => h_.1))) hb); replace b5 := am_ (Kd.S_below au3_32 hb); replace af := am_ (blk_below (g := ba) (o := .cells #[.string (⟨#[]⟩ : ByteArray), .string (⟨#[]⟩ : ByteArray), .int .i64 0, .slice none 0 0] 29 (0, 0)) (bf_ af) hb); replace ac := am_ (blk_below (g := bf) (o := .cells #[.string cu, .string (⟨#[68, 79, 67, 75]⟩ : ByteArray), .int .i64 (wrap64 (1 + cq)), bL] 29 (0, 0)) (bf_ ac) hb); replace aH := am_ (blk_below (g := b8) (o := .cells #[.int .i64 (wrap64 (1 + fC)), .int .i64 (wrap64 (1 + gj)), ck] 83 (0, 0)) (bf_ aH) hb); replace aI := am_ (blk_below (g := bj) (o := .cells #[.int .i64 (wrap64 (1 + jk)), cx] 85 (0, 0)) (bf_ aI) hb); replace bp := am_ (blk_below (g := av) (o := .cells #[.string bX, .slice nx bw.length mj] 52 (0, 0)) (bq_ bp) hb); replace HK := am_ (KeepBut.trans au3_4 (KeepBut.of_below hb g none) (.inl rfl)); replace HB := am_ (below_step au3_6 hb); replace ay := am_ (IsS111.below (show IsS111 w0 ((w49.setCell ⟨av, 0, none⟩ (.string bX)).setCell ⟨av, 1, none⟩ (.slice nx bw.length mj)) g ae cZ cy cz from by repeat (first | (with_reducible first | exact ay.out | apply IsS111.alloc | apply IsS111.drewN | apply IsS111.drew | apply IsS111.set_1 | apply IsS111.set_2 | apply IsS111.set_3 | refine IsS111.far ?_ cF.out _ | refine IsS111.far ?_ cw.out _ | refine IsS111.far ?_ fp.out _ | refine IsS111.far ?_ eR.out _ | refine IsS111.far ?_ dy.out _) | exact ay.out)) hb); clear hb; obtain ⟨G4, G5, G6, G7⟩ := cellsF2 bp.out) | (go_at_call 47; (with_reducible refine (F47.calls bX true _ OH.out).mono ?_); rintro e w' ⟨rfl, ⟨nd, rfl⟩⟩; (try clear OH); (try (rw [drewN_self sW]; generalize hq_ : World.drewN sW _ = sW; have bI : Aside0 (Kd.S k55 55 sW (bj + 1) (fun k_ => jE ≤ k_) (.slice nx bw.length mj) bw) := ⟨by rw [← hq_]; exact au3_21⟩; have bZ : Aside0 (Kd.S k83 83 sW w.heap.size _ bL aA) := ⟨by rw [← hq_]; exact au3_5⟩; have n2_ : Aside0 (Kd.S k85 85 sW (b8 + 1) _ ck bU) := ⟨by rw [← hq_]; exact au3_10⟩; have cD : Aside0 (Kd.S k52 52 sW (bj + 1) _ cx bQ) := ⟨by rw [← hq_]; exact au3_12⟩; have ji : Aside0 (sW.heap[ba]? = some (.cells #[.string (⟨#[]⟩ : ByteArray), .string (⟨#[]⟩ : ByteArray), .int .i64 0, .slice none 0 0] 29 (0, 0))) := ⟨by rw [← hq_]; exact (bk_ af)⟩; have jj : Aside0 (sW.heap[bf]? = some (.cells #[.string cu, .string (⟨#[68, 79, 67, 75]⟩ : ByteArray), .int .i64 (wrap64 (1 + cq)), bL] 29 (0, 0))) := ⟨by rw [← hq_]; exact (bk_ ac)⟩; have nv : Aside0 (sW.heap[b8]? = some (.cells #[.int .i64 (wrap64 (1 + fC)), .int .i64 (wrap64 (1 + gj)), ck] 83 (0, 0))) := ⟨by rw [← hq_]; exact (bk_ aH)⟩; have qw : Aside0 (sW.heap[bj]? = some (.cells #[.int .i64 (wrap64 (1 + jk)), cx] 85 (0, 0))) := ⟨by rw [← hq_]; exact (bk_ aI)⟩; have uB : Aside0 (sW.heap[av]? = some (.cells #[.string bX, .slice nx bw.length mj] 52 (0, 0))) := ⟨by rw [← hq_]; exact (bk_ bp)⟩; have Jx : Aside0 (IsS111 w0 sW g ae cZ cy cz) := ⟨by rw [← hq_]; exact is3_0_⟩; have C4 : Aside0 (KeepBut w sW g none) := ⟨by rw [← hq_]; exact au3_4⟩; have C5 : Aside0 (Below w0.heap.size w0 sW) := ⟨by rw [← hq_]; exact au3_6⟩; clear b5 aa au ap af ac aH aI bp ay HK HB hq_; have b5 := bI; have aa := bZ; have au := n2_; have ap := cD; have af := ji; have ac := jj; have aH := nv; have aI := qw; have bp := uB; have ay := Jx; have HK := C4; have HB := C5; clear bI bZ n2_ cD ji jj nv qw uB Jx C4 C5)); have hcz58_0y : sW.cell? ⟨av, 0, none⟩ = some (.string bX) := (blk_cell bp.out 0).trans rfl; have hcz58_1y : sW.cell? ⟨av, 1, none⟩ = some (.slice nx bw.length mj) := (blk_cell bp.out 1).trans rfl) | (go_at_call 70; (with_reducible refine (F70.calls g ae cZ cy cz 40 true lr C6 C7 w0 _ ?s1 ?s2 Zo.out).mono ?_); (case s1 => exact au3_18); (case s2 => exact au3_20); rintro e w59 ⟨rfl, hi, hb, hk⟩; (try clear Zo); replace aa := am_ (Kd.S_mono (Kd.S_keep (IsS111.apartS (is3_0_ : IsS111 w0 _ g ae cZ cy cz) au3_5 (by decide)) hk (fun _ h => h.2)) (fun _ h => h.1)); replace au := am_ (Kd.S_mono (Kd.S_keep (IsS111.apartS (is3_0_ : IsS111 w0 _ g ae cZ cy cz) au3_10 (by decide)) hk (fun _ h => h.2)) (fun _ h => h.1)); replace ap := am_ (Kd.S_mono (Kd.S_keep (IsS111.apartS (is3_0_ : IsS111 w0 _ g ae cZ cy cz) au3_12 (by decide)) hk (fun _ h => h.2)) (fun _ h => h.1)); replace af := ka_ hk af aY; replace ac := ka_ hk ac aZ; replace aH := ka_ hk aH dz; replace aI := ka_ hk aI dA; replace b5 := am_ (Kd.S_mono (Kd.S_keep (IsS111.apartS (is3_0_ : IsS111 w0 _ g ae cZ cy cz) au3_21 (by decide)) hk (fun _ h => h.2)) (fun _ h => h.1)); replace bp := ka_ hk bp et; replace HK := am_ (KeepBut.trans au3_4 hk (.inl rfl)); replace HB := am_ (hb); replace ay := am_ (hi); clear hb hk hi; have b0e := jy.out; have b0f := jx.out; have Qa := jA.out; have Qb := jz.out; have Qc := jC.out; have Qd := jB.out; have Qe := dA.out; have Qf := eR.out; obtain ⟨Zu, Zv, Zw, Zx⟩ := cellsF2 aI.out; obtain ⟨oW, oX, oY, oZ⟩ := cellsF2 bp.out) | ((with_reducible refine gate_builtin (b := .append) (xs := #[.tmp 63, .tmp 65]) rfl ?_); at_builtin; refine Kd.S_append k52 (bj + 1) rfl (.tmp 63) (.tmp 65) 38 52 (.agg #[(.string ⟨#[]⟩), (.slice none 0 0)]) 40 rfl Tryd.underlying38 ix_info52 rfl (by decide) (by omega) cx bQ (⟨bX, bw⟩ : S52) [.string bX, .slice nx bw.length mj] (fun k_ => k_ ≠ av) (fun k_ => jE ≤ k_ ∧ k_ ≠ av) rfl rfl ?aP (fun k_ hk_ => ⟨hk_.2, fun e_ => Nat.not_le.2 (((Kd.S_R ap.out).1 k_ e_.symm).1.1.1) hk_.1⟩) ?aF ?aO (Below.refl _ _) ?aS ?aL ?_; (case aP => exact au3_48); (case aF => exact (fun k_ hk => Kd.freshB (g := av) (o := .cells #[.string bX, .slice nx bw.length mj] 52 (0, 0)) (bk_ bp) k_ hk)); (case aO => exact au3_27); (case aS => exact blk_lt (bk_ aI)); (case aL => have := C8.out; omega); intro b3m w66 ho hb hg hat; rw [← SK.out] at ho; replace aa := am_ (Kd.S_after (ok := (fun k_ => some k_ ≠ (ck : Value).ownBlock ∧ some k_ ≠ (.slice nx bw.length mj : Value).ownBlock ∧ k_ < b8 ∧ k_ ≠ bj ∧ k_ ≠ av)) au3_26 hg hat); replace au := am_ (Kd.S_after (ok := (fun k_ => some k_ ≠ (.slice nx bw.length mj : Value).ownBlock ∧ k_ < bj ∧ k_ ≠ av)) au3_29 hg hat); replace af := am_ (bg_ af hg (Kd.S_ne ap.out af.out (by decide))); replace ac := am_ (bg_ ac hg (Kd.S_ne ap.out ac.out (by decide))); replace aH := am_ (bg_ aH hg (Kd.S_ne ap.out aH.out (by decide))); replace aI := am_ (bg_ aI hg (Kd.S_ne ap.out aI.out (by decide))); replace bp := am_ (bg_ bp hg (Kd.S_away ap.out (fun _ hk => hk.2))); replace HB := am_ (below_weaken au3_6 (Nat.le_succ_of_le mi.out) hb); replace ay := am_ (IsS111.grown is3_0_ hg (IsS111.own_neS ay.out ap.out (by decide))); replace HK := am_ (KeepBut.trans au3_4 (KeepBut.of_grown hg g) (Kd.S_base2 (Kd.S_lower ap.out (Nat.le_succ_of_le pL.out)))); have JB := am_ (ho); clear ap b5; clear ho hb hg hat; obtain ⟨Ak, Al, Mb⟩ := Kd.S_slice JB.out; subst Mb; obtain ⟨G8, G9, Ha, Hb⟩ := cellsF2 aI.out))
        go_roundg k3
        case measure => have := dk.out; have := HK2.out; have := pC.out; omega
        case rel => exact ⟨(wrap64 (gY - 1)), (lr), (C6), (C7), (Aj), (.slice Ak Aj.length Al), er_, H', ⟨au3_42⟩, ⟨by (with_reducible repeat (first | apply Kd.S_alloc | apply Kd.S_drewN | apply Kd.S_drew)); exact Kd.S_mono (Kd.S_far (p := ⟨bj, 1, none⟩) (Kd.S_mono aa.out (fun k_ hk => (⟨hk, hk.1.2.2.2.1⟩ : _ ∧ k_ ≠ bj))) (fun _ hk => hk.2) (.slice Ak Aj.length Al)) (fun _ hk => ⟨hk.1.1.1, ⟨hk.1.2, ⟨hk.1.1.2.2.1, hk.1.1.2.2.2.1⟩⟩⟩)⟩, ⟨by (with_reducible repeat (first | apply Kd.S_alloc | apply Kd.S_drewN | apply Kd.S_drew)); exact Kd.S_mono (Kd.S_far (p := ⟨bj, 1, none⟩) (Kd.S_mono au.out (fun k_ hk => (⟨hk, Nat.ne_of_lt hk.1.2.1⟩ : _ ∧ k_ ≠ bj))) (fun _ hk => hk.2) (.slice Ak Aj.length Al)) (fun _ hk => ⟨hk.1.2, hk.1.1.2.1⟩)⟩, ⟨by (with_reducible repeat (first | apply Kd.S_alloc | apply Kd.S_drewN | apply Kd.S_drew)); exact Kd.S_mono (Kd.S_far (p := ⟨bj, 1, none⟩) (Kd.S_types JB.out aI.out (by decide)) (fun _ hk => hk.2) (.slice Ak Aj.length Al)) (fun _ hk => trivial)⟩, ⟨bf_ af⟩, ⟨bf_ ac⟩, ⟨bf_ aH⟩, ⟨bq_ aI⟩, ⟨is3_0_⟩, ⟨au3_17⟩, ⟨au3_16⟩⟩
   replace H := bi_ H; rcases H with ⟨⟨b3o, kf, kg, ki⟩, mo, H⟩
   replace H := ib_ H; rcases H with ⟨rfl, H⟩ | ⟨rfl, H⟩
   rotate_left
   ·simp only [Option.some.injEq, Prod.mk.injEq] at H
    obtain ⟨rfl, rfl, rfl, rfl, rfl, rfl, rfl⟩ := H
    go_wp2_with (first | (go_at_call 70; (with_reducible refine (F70.calls g ae bx bz bA 20 false kf kg ki w0 _ ?s1 ?s2 mo.out).mono ?_); (case s1 => exact au3_1); (case s2 => exact au3_3); rintro e b3p ⟨rfl, hi, hb, hk⟩; (try clear mo); replace aa := am_ (Kd.S_mono (Kd.S_keep (IsS111.apartS (is3_0_ : IsS111 w0 _ g ae bx bz bA) au3_5 (by decide)) hk (fun _ h => h.2)) (fun _ h => h.1)); replace af := ka_ hk af aY; replace ac := ka_ hk ac aZ; replace HK := am_ (KeepBut.trans au3_0 hk (.inl rfl)); replace HB := am_ (hb); replace ay := am_ (hi); clear hb hk hi; have a47 := dP.out; have a48 := dO.out; have a49 := aZ.out; have a5a := cw.out; obtain ⟨SR, SS, ST, SU, SV, SW, SX, SY⟩ := cellsF4 ac.out; have a5b := aY.out; have a5c := cF.out; obtain ⟨SZ, S0, S3, S4, S5, S6, S7, S8⟩ := cellsF4 af.out; obtain ⟨JC, JD, S9⟩ := Kd.S_slice aa.out; subst S9))
    refine bodyPost_ret (results_cell_row rfl _ _ ba 29 #[.string cu, .string (⟨#[68, 79, 67, 75]⟩ : ByteArray), .int .i64 (wrap64 (1 + cq)), .slice JC aA.length JD] (0, 0) _ rfl (bq_ af) Tryd.underlying29 rfl (by kernel_rfl)) rfl ?_
    exact ⟨_, au3_23, by refine Kd.N_mono (Kd.S_N (Kd.S_bound (ok := fun _ => True) ?_)) (fun _ hk_ => hk_.2.1); (with_reducible repeat (first | apply Kd.S_alloc | apply Kd.S_drewN | apply Kd.S_drew)); exact Kd.S_mono (Kd.S_far (p := ⟨ba, 3, none⟩) (Kd.S_far (p := ⟨ba, 2, none⟩) (Kd.S_far (p := ⟨ba, 1, none⟩) (Kd.S_far (p := ⟨ba, 0, none⟩) (Kd.S_types aa.out af.out (by decide)) (fun _ hk => hk.2) (.string cu)) (fun _ hk => hk.2) (.string (⟨#[68, 79, 67, 75]⟩ : ByteArray))) (fun _ hk => hk.2) (.int .i64 (wrap64 (1 + cq)))) (fun _ hk => hk.2) (.slice JC aA.length JD)) (fun _ hk => trivial), is3_0_, au3_7, au3_9⟩
   replace H := bi_ H; rcases H with ⟨⟨eX, kj, kk, km⟩, oB, H⟩
   by_cases uI : eX = 0
   ·rw [if_pos uI] at H
    have c164b0 : (eX == 0) = true := beq_iff_eq.mpr uI
    have c164b1 : (eX != 0) = false := bne_eq_false_iff_eq.mpr uI
    clear uI
    obtain ⟨Ta, Da⟩ : ∃ y_ : List ByteArray, y_ = (([(⟨#[]⟩ : ByteArray), (⟨#[97]⟩ : ByteArray), (⟨#[65, 66, 67, 68, 69, 70, 71, 72, 73, 74, 75, 76, 77]⟩ : ByteArray), (⟨#[65, 32, 66]⟩ : ByteArray)] : List ByteArray)) := ⟨_, rfl⟩
    replace H : ((F67.f ae kj kk km Ta).bind fun mn => (some (mn.1, (⟨#[68, 79, 67, 75]⟩ : ByteArray), (wrap64 (1 + cq)), aA, mn.2.1, mn.2.2.1, mn.2.2.2))) = some (r1, r2, r3, r4, r5, r6, r7) := by first | (rw [Da]; exact H) | exact H
    have JE := am_ Da
    clear Da
    replace H := bi_ H; rcases H with ⟨⟨qH, a5d, a5e, a5f⟩, Tb, H⟩
    simp only [Option.some.injEq, Prod.mk.injEq] at H
    obtain ⟨rfl, rfl, rfl, rfl, rfl, rfl, rfl⟩ := H
    go_wp2_with (first | (go_at_call 70; (with_reducible refine (F70.calls g ae bx bz bA 20 true kf kg ki w0 _ ?s1 ?s2 mo.out).mono ?_); (case s1 => exact au3_1); (case s2 => exact au3_3); rintro e b3q ⟨rfl, hi, hb, hk⟩; (try clear mo); replace aa := am_ (Kd.S_mono (Kd.S_keep (IsS111.apartS (is3_0_ : IsS111 w0 _ g ae bx bz bA) au3_5 (by decide)) hk (fun _ h => h.2)) (fun _ h => h.1)); replace af := ka_ hk af aY; replace ac := ka_ hk ac aZ; replace HK := am_ (KeepBut.trans au3_0 hk (.inl rfl)); replace HB := am_ (hb); replace ay := am_ (hi); clear hb hk hi) | (go_at_call 68; (with_reducible refine (F68.calls g ae kf kg ki 6 eX kj kk km w0 _ ?s1 ?s2 oB.out).mono ?_); (case s1 => exact au3_1); (case s2 => exact au3_3); rintro e Q1 ⟨rfl, hi, hb, hk⟩; (try clear oB); replace aa := am_ (Kd.S_mono (Kd.S_keep (IsS111.apartS (is3_0_ : IsS111 w0 _ g ae kf kg ki) au3_5 (by decide)) hk (fun _ h => h.2)) (fun _ h => h.1)); replace af := ka_ hk af aY; replace ac := ka_ hk ac aZ; replace HK := am_ (KeepBut.trans au3_0 hk (.inl rfl)); replace HB := am_ (hb); replace ay := am_ (hi); clear hb hk hi) | ((with_reducible refine gate_dst (N := 109) rfl ?_); refine Kd.R_lit Kd.string _ 9 ?hg (N := 109) ?hd (xs := ([(⟨#[]⟩ : ByteArray), (⟨#[97]⟩ : ByteArray), (⟨#[65, 66, 67, 68, 69, 70, 71, 72, 73, 74, 75, 76, 77]⟩ : ByteArray), (⟨#[65, 32, 66]⟩ : ByteArray)] : List ByteArray)) (inner := [.string (⟨#[]⟩ : ByteArray), .string (⟨#[97]⟩ : ByteArray), .string (⟨#[65, 66, 67, 68, 69, 70, 71, 72, 73, 74, 75, 76, 77]⟩ : ByteArray), .string (⟨#[65, 32, 66]⟩ : ByteArray)]) (ok := fun _ => True) (okp := fun _ => True) ?hr ?hp (fun _ hk => hk) trivial (Below.refl _ _) (Nat.le_refl _) (by simp) ?_; (case hd => rfl); (case hg => rfl); (case hr => exact hr_); (case hp => exact (Reps.one (show Kd.M Kd.string _ _ _ (⟨#[]⟩ : ByteArray) [.string (⟨#[]⟩ : ByteArray)] from rfl) (Reps.one (show Kd.M Kd.string _ _ _ (⟨#[97]⟩ : ByteArray) [.string (⟨#[97]⟩ : ByteArray)] from rfl) (Reps.one (show Kd.M Kd.string _ _ _ (⟨#[65, 66, 67, 68, 69, 70, 71, 72, 73, 74, 75, 76, 77]⟩ : ByteArray) [.string (⟨#[65, 66, 67, 68, 69, 70, 71, 72, 73, 74, 75, 76, 77]⟩ : ByteArray)] from rfl) (Reps.one (show Kd.M Kd.string _ _ _ (⟨#[65, 32, 66]⟩ : ByteArray) [.string (⟨#[65, 32, 66]⟩ : ByteArray)] from rfl) (Reps.none _ _)))))); intro b3r a4e qS hb hg_ hnew_; clear hg_ hnew_; (first | rw [← JE.out] at qS | (simp only [Int.reduceToNat] at qS; rw [← JE.out] at qS)); replace aa := am_ (Kd.S_elder' au3_5 (Kd.R_base qS) hb); have qT := am_ (Kd.R_lower qS (keep_size (w := w) (g := g) (row := none) au3_0)); replace af := bb_ af hb; replace ac := bb_ ac hb; replace HK := am_ (KeepBut.trans au3_0 (KeepBut.of_below hb g none) (.inl rfl)); replace HB := am_ (below_step au3_22 hb); replace ay := am_ (IsS111.below is3_0_ hb); clear hb qS; obtain ⟨b0g, b0h, Tc⟩ := Kd.R_slice qT.out; subst Tc) | (go_at_call 67; (with_reducible refine (F67.calls g ae kj kk km _ _ Ta qH a5d a5e a5f w0 _ ?s1 ?s2 ?s3 ?s4 ?s5 Tb.out).mono ?_); (case s1 => exact au3_1); (case s2 => exact au3_3); (case s3 => repeat (first | exact (Kd.R_reads' qT.out).2.2 | (with_reducible refine Kd.C_alloc ?_ _) | (with_reducible refine Kd.C_drewN ?_ _) | (with_reducible refine Kd.C_drew ?_))); (case s4 => exact (Kd.R_reads' qT.out).2.1); (case s5 => exact far_slice (IsS111.own_ne ay.out qT.out (by decide))); rintro e oA ⟨rfl, hi, hb, hk⟩; (try clear Tb); replace aa := am_ (Kd.S_mono (Kd.S_keep (IsS111.apartS (is3_0_ : IsS111 w0 _ g ae kj kk km) au3_5 (by decide)) hk (fun _ h => h.2)) (fun _ h => h.1)); replace af := ka_ hk af aY; replace ac := ka_ hk ac aZ; replace qT := am_ (Kd.R_mono (Kd.R_keep (IsS111.apart (is3_0_ : IsS111 w0 _ g ae kj kk km) (rk_ qT) (by decide)) hk (fun _ h => h.2)) (fun _ h => h.1)); replace HK := am_ (KeepBut.trans au3_0 hk (.inl rfl)); replace HB := am_ (hb); replace ay := am_ (hi); clear hb hk hi; have a5g := dP.out; have a5h := dO.out; have a5i := aZ.out; have a5j := cw.out; obtain ⟨Td, Te, Tf, Tg, Th, Ti, Tj, Tk⟩ := cellsF4 ac.out; have a5k := aY.out; have a5l := cF.out; obtain ⟨Tl, Tm, Tn, To, Tp, Tq, Tr, Ts⟩ := cellsF4 af.out; obtain ⟨JF, JG, Tt⟩ := Kd.S_slice aa.out; subst Tt))
    refine bodyPost_ret (results_cell_row rfl _ _ ba 29 #[.string qH, .string (⟨#[68, 79, 67, 75]⟩ : ByteArray), .int .i64 (wrap64 (1 + cq)), .slice JF aA.length JG] (0, 0) _ rfl (bq_ af) Tryd.underlying29 rfl (by kernel_rfl)) rfl ?_
    exact ⟨_, au3_23, by refine Kd.N_mono (Kd.S_N (Kd.S_bound (ok := fun _ => True) ?_)) (fun _ hk_ => hk_.2.1); (with_reducible repeat (first | apply Kd.S_alloc | apply Kd.S_drewN | apply Kd.S_drew)); exact Kd.S_mono (Kd.S_far (p := ⟨ba, 3, none⟩) (Kd.S_far (p := ⟨ba, 2, none⟩) (Kd.S_far (p := ⟨ba, 1, none⟩) (Kd.S_far (p := ⟨ba, 0, none⟩) (Kd.S_far (p := ⟨bf, 0, none⟩) (Kd.S_types (Kd.S_types aa.out ac.out (by decide)) af.out (by decide)) (fun _ hk => hk.1.2) (.string qH)) (fun _ hk => hk.2) (.string qH)) (fun _ hk => hk.2) (.string (⟨#[68, 79, 67, 75]⟩ : ByteArray))) (fun _ hk => hk.2) (.int .i64 (wrap64 (1 + cq)))) (fun _ hk => hk.2) (.slice JF aA.length JG)) (fun _ hk => trivial), is3_0_, au3_7, au3_9⟩
   rw [if_neg uI] at H
   have c164b0 : (eX == 0) = false := beq_eq_false_iff_ne.mpr uI
   have c164b1 : (eX != 0) = true := bne_iff_ne.mpr uI
   by_cases uJ : eX = 1
   ·rw [if_pos uJ] at H
    have c178b0 : (eX == 1) = true := beq_iff_eq.mpr uJ
    have c178b1 : (eX != 1) = false := bne_eq_false_iff_eq.mpr uJ
    clear uJ
    obtain ⟨rV, Db⟩ : ∃ y_ : List Int, y_ = (([0, 999999, 1000000] : List Int)) := ⟨_, rfl⟩
    replace H : ((F68.f ae kj kk km 3).bind fun jw => (if 0 ≤ jw.1 then (if jw.1 < (rV.length : Int) then (some (cu, (⟨#[68, 79, 67, 75]⟩ : ByteArray), rd rV jw.1, aA, jw.2.1, jw.2.2.1, jw.2.2.2)) else (none)) else (none))) = some (r1, r2, r3, r4, r5, r6, r7) := by first | (rw [Db]; exact H) | exact H
    have JH := am_ Db
    clear Db
    replace H := bi_ H; rcases H with ⟨⟨nF, a5m, a5n, a5o⟩, Tu, H⟩
    replace H := itn_ H; rcases H with ⟨c180b0, H⟩
    replace H := itn_ H; rcases H with ⟨c181b0, H⟩
    simp only [Option.some.injEq, Prod.mk.injEq] at H
    obtain ⟨rfl, rfl, rfl, rfl, rfl, rfl, rfl⟩ := H
    go_wp2_with (first | (go_at_call 70; (with_reducible refine (F70.calls g ae bx bz bA 20 true kf kg ki w0 _ ?s1 ?s2 mo.out).mono ?_); (case s1 => exact au3_1); (case s2 => exact au3_3); rintro e b3s ⟨rfl, hi, hb, hk⟩; (try clear mo); replace aa := am_ (Kd.S_mono (Kd.S_keep (IsS111.apartS (is3_0_ : IsS111 w0 _ g ae bx bz bA) au3_5 (by decide)) hk (fun _ h => h.2)) (fun _ h => h.1)); replace af := ka_ hk af aY; replace ac := ka_ hk ac aZ; replace HK := am_ (KeepBut.trans au3_0 hk (.inl rfl)); replace HB := am_ (hb); replace ay := am_ (hi); clear hb hk hi) | (go_at_call 68; (with_reducible refine (F68.calls g ae kf kg ki 6 eX kj kk km w0 _ ?s1 ?s2 oB.out).mono ?_); (case s1 => exact au3_1); (case s2 => exact au3_3); rintro e b3t ⟨rfl, hi, hb, hk⟩; (try clear oB); replace aa := am_ (Kd.S_mono (Kd.S_keep (IsS111.apartS (is3_0_ : IsS111 w0 _ g ae kf kg ki) au3_5 (by decide)) hk (fun _ h => h.2)) (fun _ h => h.1)); replace af := ka_ hk af aY; replace ac := ka_ hk ac aZ; replace HK := am_ (KeepBut.trans au3_0 hk (.inl rfl)); replace HB := am_ (hb); replace ay := am_ (hi); clear hb hk hi) | ((with_reducible refine gate_dst (N := 114) rfl ?_); refine Kd.R_lit (Kd.int .i64) _ 2 ?hg (N := 114) ?hd (xs := ([0, 999999, 1000000] : List Int)) (inner := [.int .i64 0, .int .i64 999999, .int .i64 1000000]) (ok := fun _ => True) (okp := fun _ => True) ?hr ?hp (fun _ hk => hk) trivial (Below.refl _ _) (Nat.le_refl _) (by simp) ?_; (case hd => rfl); (case hg => rfl); (case hr => exact hr_); (case hp => exact (Reps.one (show Kd.M (Kd.int .i64) _ _ _ 0 [.int .i64 0] from rfl) (Reps.one (show Kd.M (Kd.int .i64) _ _ _ 999999 [.int .i64 999999] from rfl) (Reps.one (show Kd.M (Kd.int .i64) _ _ _ 1000000 [.int .i64 1000000] from rfl) (Reps.none _ _))))); intro b3u b3v tL hb hg_ hnew_; clear hg_ hnew_; (first | rw [← JH.out] at tL | (simp only [Int.reduceToNat] at tL; rw [← JH.out] at tL)); replace aa := am_ (Kd.S_below au3_5 hb); have yf := am_ (Kd.R_lower tL (keep_size (w := w) (g := g) (row := none) au3_0)); replace af := bb_ af hb; replace ac := bb_ ac hb; replace HK := am_ (KeepBut.trans au3_0 (KeepBut.of_below hb g none) (.inl rfl)); replace HB := am_ (below_step au3_22 hb); replace ay := am_ (IsS111.below is3_0_ hb); clear hb tL) | (go_at_call 68; (with_reducible refine (F68.calls g ae kj kk km 3 nF a5m a5n a5o w0 _ ?s1 ?s2 Tu.out).mono ?_); (case s1 => exact au3_1); (case s2 => exact au3_3); rintro e b3w ⟨rfl, hi, hb, hk⟩; (try clear Tu); replace aa := am_ (Kd.S_mono (Kd.S_keep (IsS111.apartS (is3_0_ : IsS111 w0 _ g ae kj kk km) au3_5 (by decide)) hk (fun _ h => h.2)) (fun _ h => h.1)); replace af := ka_ hk af aY; replace ac := ka_ hk ac aZ; replace yf := am_ (Kd.R_mono (Kd.R_keep (IsS111.apart (is3_0_ : IsS111 w0 _ g ae kj kk km) (rk_ yf) (by decide)) hk (fun _ h => h.2)) (fun _ h => h.1)); replace HK := am_ (KeepBut.trans au3_0 hk (.inl rfl)); replace HB := am_ (hb); replace ay := am_ (hi); clear hb hk hi; obtain ⟨b0i, b0j, Tv⟩ := Kd.R_slice yf.out; subst Tv; have Mc : 0 ≤ (nF : Int) := od_; have Md : nF < (rV.length : Int) := od_; obtain ⟨b0k, a5p, Zy⟩ := Kd.at_int (Kd.R_reads' yf.out).2.2 nF Mc Md; cases a5p; replace Mc := eq_true Mc; replace Md := eq_true Md; have LE := dP.out; have LF := dO.out; have LG := aZ.out; have LH := cw.out; obtain ⟨Tw, Tx, Ty, Tz, TA, TB, TC, TD⟩ := cellsF4 ac.out; have a5q := aY.out; have a5r := cF.out; obtain ⟨TE, TF, TG, TH, TI, TJ, TK, TL⟩ := cellsF4 af.out; obtain ⟨JI, JJ, TM⟩ := Kd.S_slice aa.out; subst TM))
    refine bodyPost_ret (results_cell_row rfl _ _ ba 29 #[.string cu, .string (⟨#[68, 79, 67, 75]⟩ : ByteArray), .int .i64 (rd rV nF), .slice JI aA.length JJ] (0, 0) _ rfl (bq_ af) Tryd.underlying29 rfl (by kernel_rfl)) rfl ?_
    exact ⟨_, au3_23, by refine Kd.N_mono (Kd.S_N (Kd.S_bound (ok := fun _ => True) ?_)) (fun _ hk_ => hk_.2.1); (with_reducible repeat (first | apply Kd.S_alloc | apply Kd.S_drewN | apply Kd.S_drew)); exact Kd.S_mono (Kd.S_far (p := ⟨ba, 3, none⟩) (Kd.S_far (p := ⟨ba, 2, none⟩) (Kd.S_far (p := ⟨ba, 1, none⟩) (Kd.S_far (p := ⟨ba, 0, none⟩) (Kd.S_far (p := ⟨bf, 2, none⟩) (Kd.S_types (Kd.S_types aa.out ac.out (by decide)) af.out (by decide)) (fun _ hk => hk.1.2) (.int .i64 (rd rV nF))) (fun _ hk => hk.2) (.string cu)) (fun _ hk => hk.2) (.string (⟨#[68, 79, 67, 75]⟩ : ByteArray))) (fun _ hk => hk.2) (.int .i64 (rd rV nF))) (fun _ hk => hk.2) (.slice JI aA.length JJ)) (fun _ hk => trivial), is3_0_, au3_7, au3_9⟩
   rw [if_neg uJ] at H
   have c178b0 : (eX == 1) = false := beq_eq_false_iff_ne.mpr uJ
   have c178b1 : (eX != 1) = true := bne_iff_ne.mpr uJ
   by_cases uK : eX = 2
   ·rw [if_pos uK] at H
    have c194b0 : (eX == 2) = true := beq_iff_eq.mpr uK
    have c194b1 : (eX != 2) = false := bne_eq_false_iff_eq.mpr uK
    clear uK
    simp only [Option.some.injEq, Prod.mk.injEq] at H
    obtain ⟨rfl, rfl, rfl, rfl, rfl, rfl, rfl⟩ := H
    go_wp2_with (first | (go_at_call 70; (with_reducible refine (F70.calls g ae bx bz bA 20 true kf kg ki w0 _ ?s1 ?s2 mo.out).mono ?_); (case s1 => exact au3_1); (case s2 => exact au3_3); rintro e b3x ⟨rfl, hi, hb, hk⟩; (try clear mo); replace aa := am_ (Kd.S_mono (Kd.S_keep (IsS111.apartS (is3_0_ : IsS111 w0 _ g ae bx bz bA) au3_5 (by decide)) hk (fun _ h => h.2)) (fun _ h => h.1)); replace af := ka_ hk af aY; replace ac := ka_ hk ac aZ; replace HK := am_ (KeepBut.trans au3_0 hk (.inl rfl)); replace HB := am_ (hb); replace ay := am_ (hi); clear hb hk hi) | (go_at_call 68; (with_reducible refine (F68.calls g ae kf kg ki 6 eX kj kk km w0 _ ?s1 ?s2 oB.out).mono ?_); (case s1 => exact au3_1); (case s2 => exact au3_3); rintro e b3y ⟨rfl, hi, hb, hk⟩; (try clear oB); replace aa := am_ (Kd.S_mono (Kd.S_keep (IsS111.apartS (is3_0_ : IsS111 w0 _ g ae kf kg ki) au3_5 (by decide)) hk (fun _ h => h.2)) (fun _ h => h.1)); replace af := ka_ hk af aY; replace ac := ka_ hk ac aZ; replace HK := am_ (KeepBut.trans au3_0 hk (.inl rfl)); replace HB := am_ (hb); replace ay := am_ (hi); clear hb hk hi; have a5s := dP.out; have a5t := dO.out; have a5u := aZ.out; have a5v := cw.out; obtain ⟨TN, TO, TP, TQ, TR, TS, TT, TU⟩ := cellsF4 ac.out; have a5w := aY.out; have a5x := cF.out; obtain ⟨TV, TW, TX, TY, TZ, T0, T2, T3⟩ := cellsF4 af.out))
    refine bodyPost_ret (results_cell_row rfl _ _ ba 29 #[.string cu, .string (⟨#[68, 79, 67, 75]⟩ : ByteArray), .int .i64 (wrap64 (1 + cq)), .slice none 0 0] (0, 0) _ rfl (bq_ af) Tryd.underlying29 rfl (by kernel_rfl)) rfl ?_
    exact ⟨_, au3_23, au3_25, is3_0_, au3_7, au3_9⟩
   rw [if_neg uK] at H
   have c194b0 : (eX == 2) = false := beq_eq_false_iff_ne.mpr uK
   have c194b1 : (eX != 2) = true := bne_iff_ne.mpr uK
   by_cases uL : eX = 3
   ·rw [if_pos uL] at H
    have c202b0 : (eX == 3) = true := beq_iff_eq.mpr uL
    have c202b1 : (eX != 3) = false := bne_eq_false_iff_eq.mpr uL
    clear uL
    replace H := bi_ H; rcases H with ⟨⟨oC, Me, Mf, rX⟩, a5y, H⟩
    replace H := itn_ H; rcases H with ⟨c204b0, H⟩
    have c204b1 : decide (0 < aA.length) = true := n2_ c204b0
    obtain ⟨T6, Dc⟩ : ∃ y_ : List (S83), y_ = (aA.set (0 : Int).toNat (⟨wrap64 (8 * oC), (rd_T83 aA 0).f1, (rd_T83 aA 0).f2⟩ : S83)) := ⟨_, rfl⟩
    replace H : (some (cu, (⟨#[68, 79, 67, 75]⟩ : ByteArray), (wrap64 (1 + cq)), T6, Me, Mf, rX)) = some (r1, r2, r3, r4, r5, r6, r7) := by first | (rw [Dc]; exact H) | exact H
    have Ua := am_ Dc
    clear Dc
    simp only [Option.some.injEq, Prod.mk.injEq] at H
    obtain ⟨rfl, rfl, rfl, rfl, rfl, rfl, rfl⟩ := H
    try go_wp2_with (first | (go_at_call 70; (with_reducible refine (F70.calls g ae bx bz bA 20 true kf kg ki w0 _ ?s1 ?s2 mo.out).mono ?_); (case s1 => exact au3_1); (case s2 => exact au3_3); rintro e b3z ⟨rfl, hi, hb, hk⟩; (try clear mo); replace aa := am_ (Kd.S_mono (Kd.S_keep (IsS111.apartS (is3_0_ : IsS111 w0 _ g ae bx bz bA) au3_5 (by decide)) hk (fun _ h => h.2)) (fun _ h => h.1)); replace af := ka_ hk af aY; replace ac := ka_ hk ac aZ; replace HK := am_ (KeepBut.trans au3_0 hk (.inl rfl)); replace HB := am_ (hb); replace ay := am_ (hi); clear hb hk hi) | (go_at_call 68; (with_reducible refine (F68.calls g ae kf kg ki 6 eX kj kk km w0 _ ?s1 ?s2 oB.out).mono ?_); (case s1 => exact au3_1); (case s2 => exact au3_3); rintro e a5z ⟨rfl, hi, hb, hk⟩; (try clear oB); replace aa := am_ (Kd.S_mono (Kd.S_keep (IsS111.apartS (is3_0_ : IsS111 w0 _ g ae kf kg ki) au3_5 (by decide)) hk (fun _ h => h.2)) (fun _ h => h.1)); replace af := ka_ hk af aY; replace ac := ka_ hk ac aZ; replace HK := am_ (KeepBut.trans au3_0 hk (.inl rfl)); replace HB := am_ (hb); replace ay := am_ (hi); clear hb hk hi))
    replace aa := am_ (Kd.S_drew aa.out)
    replace af := bd_ af
    replace ac := bd_ ac
    replace ay := am_ (IsS111.drew ay.out)
    replace HK := am_ (keep_drew HK.out)
    replace HB := am_ (below_drew1 HB.out)
    refine start_ (n := 8) (S := fun w' => w'.cell? ⟨bf, 0, none⟩ = some (.string cu) ∧ w'.cell? ⟨bf, 1, none⟩ = some (.string (⟨#[68, 79, 67, 75]⟩ : ByteArray)) ∧ w'.cell? ⟨bf, 2, none⟩ = some (.int .i64 (wrap64 (1 + cq))) ∧ w'.cell? ⟨bf, 3, none⟩ = some (bL)) (ds := [7]) (bs 8 0) (by kernel_rfl) rfl rfl ⟨(blk_cell ac.out 0).trans rfl, (blk_cell ac.out 1).trans rfl, (blk_cell ac.out 2).trans rfl, (blk_cell ac.out 3).trans rfl⟩ (fun hHeld => ?_); refine with_tabW F45.tab29 F45.bits29 (fun HT_ HW_ => ?_)
    generalize a5z.drew = b3A at aa af ac ay HK HB hHeld ⊢
    refine pu_ 0 125 (bs 8 1) HT_ ?_ rfl rfl
    refine pu_ 2 127 (bs 8 5) HT_ ?_ rfl rfl
    refine tk_ 1 126 (bs 8 7) HT_ HW_ hHeld (by rintro w' ⟨s0, s1, s2, s3⟩; go_simp; with_reducible rfl) ?_ rfl rfl
    refine one_ (i := 3) (N := some 128) (bs 8 15) rfl rfl (one_of HT_.out (by kernel_rfl)) (by decide) (fun K hK => ?_)
    refine gr_ Tryd.func68 #[.pointer (some ⟨g, 0, none⟩), .int .i64 2] (by rfl) ?_ rfl rfl rfl
    with_reducible refine (F68.calls g ae kj kk km 2 oC Me Mf rX w0 _ ?s1 ?s2 a5y.out).mono ?_
    (case s1 => exact au3_1)
    (case s2 => exact au3_3)
    rintro e uM ⟨rfl, hi, hb, hk⟩
    refine ⟨_, rfl, ?_⟩
    replace aa := am_ (Kd.S_mono (Kd.S_keep (IsS111.apartS (is3_0_ : IsS111 w0 _ g ae kj kk km) au3_5 (by decide)) hk (fun _ h => h.2)) (fun _ h => h.1))
    replace af := ka_ hk af aY
    replace ac := ka_ hk ac aZ
    replace HK := am_ (KeepBut.trans au3_0 hk (.inl rfl))
    replace HB := am_ (hb)
    replace ay := am_ (hi)
    (try clear hb)
    (try clear hb2)
    (try clear hk)
    (try clear hi)
    have Mg : 0 ≤ (0 : Int) := (by omega)
    have Mh : (0 : Int) < ((aA.length : Int) : Int) := od_
    have b0l : (0 < aA.length) = True := eq_true (by omega)
    obtain ⟨fq, tM, JK, JL, Ub, b0m, JM⟩ := Kd.S_form aa.out (by omega)
    (first | cases JK | (injection JK with ea_ en_ ec_; (first | subst ea_ | (injection ea_ with ea_; subst ea_)); subst ec_; clear en_))
    have JN := am_ JL
    have b0n := am_ JM
    clear JL Ub JM
    obtain ⟨_, b0o, Mi, JO, rY, rZ, _, _⟩ := Kd.S_elem aa.out z83 (0 : Int) Mg Mh
    obtain ⟨Hc, rfl, Zz⟩ := k83_openM JO
    have yg : World.cell? _ ⟨fq, (0 : Int).toNat * 3, none⟩ = some (.int .i64 ((rd_T83 aA 0).f0)) := rY 0 _ rfl
    have yh : World.cell? _ ⟨fq, (0 : Int).toNat * 3 + 1, none⟩ = some (.int .i64 ((rd_T83 aA 0).f1)) := rY 1 _ rfl
    have yi : World.cell? _ ⟨fq, (0 : Int).toNat * 3 + 2, none⟩ = some (Hc) := rY 2 _ rfl
    have yj : World.frozen? _ ⟨fq, (0 : Int).toNat * 3, none⟩ = false := rZ 0
    have yk : World.frozen? _ ⟨fq, (0 : Int).toNat * 3 + 1, none⟩ = false := rZ 1
    have yl : World.frozen? _ ⟨fq, (0 : Int).toNat * 3 + 2, none⟩ = false := rZ 2
    clear Mi rY rZ JO
    (try rw [show ((0 : Int)).toNat = 0 from rfl] at yg)
    (try simp only [Nat.reduceMul, Nat.zero_mul, Nat.zero_add, Nat.reduceAdd] at yg)
    (try rw [show ((0 : Int)).toNat = 0 from rfl] at yj)
    (try simp only [Nat.reduceMul, Nat.zero_mul, Nat.zero_add, Nat.reduceAdd] at yj)
    (try rw [show ((0 : Int)).toNat = 0 from rfl] at yh)
    (try simp only [Nat.reduceMul, Nat.zero_mul, Nat.zero_add, Nat.reduceAdd] at yh)
    (try rw [show ((0 : Int)).toNat = 0 from rfl] at yk)
    (try simp only [Nat.reduceMul, Nat.zero_mul, Nat.zero_add, Nat.reduceAdd] at yk)
    (try rw [show ((0 : Int)).toNat = 0 from rfl] at yi)
    (try simp only [Nat.reduceMul, Nat.zero_mul, Nat.zero_add, Nat.reduceAdd] at yi)
    (try rw [show ((0 : Int)).toNat = 0 from rfl] at yl)
    (try simp only [Nat.reduceMul, Nat.zero_mul, Nat.zero_add, Nat.reduceAdd] at yl)
    replace Mg := eq_true Mg
    replace Mh := eq_true Mh
    have HN0_go205 := am_ (show g ≠ fq from by have h_ := IsS111.own_neS ay.out aa.out (by decide); intro e_; exact h_ (by rw [e_]; rfl))
    have Uc := am_ (show Kd.S k83 83 _ w.heap.size (fun k_ => ((fun _ => True)) k_ ∧ ¬ (fun _ => False) k_) (.slice (some ⟨fq, 0, none⟩) aA.length tM) aA from Kd.S_mono aa.out (fun k_ hk => ⟨trivial, fun e_ => e_⟩))
    obtain ⟨a5A, b0p, Mj, JP, Mk, Ml, ZA, Ud⟩ := Kd.S_elem Uc.out z83 (0 : Int) (by omega) (by have h_ : (0 : Int) < ((aA.length : Int) : Int) := od_; first | exact h_ | (have e_ := (Kd.S_reads' aa.out).1; omega) | simpa using h_)
    obtain ⟨ZB, rfl, Hd⟩ := k83_openM JP
    have Dd := (Kd.S_seg Ud (by omega) (by have h_ : (0 : Int) < ((aA.length : Int) : Int) := od_; first | exact h_ | (have e_ := (Kd.S_reads' aa.out).1; omega) | simpa using h_) (seg := [.int .i64 (wrap64 (8 * oC))]) (j := 0) (show 1 ≤ 3 from by decide) (x' := (⟨wrap64 (8 * oC), (rd_T83 aA 0).f1, (rd_T83 aA 0).f2⟩ : S83)) (k83_mkM _ _ _ (⟨wrap64 (8 * oC), (rd_T83 aA 0).f1, (rd_T83 aA 0).f2⟩ : S83) Hd) (fun _ hk => Or.inl hk) (fun _ hk => hk.elim)).1
    rw [← Ua.out] at Dd
    have Ue := am_ Dd
    clear Mj Mk Ml JP Dd
    refine hK.out _ _ ⟨(blk_cell ac.out 0).trans rfl, (blk_cell ac.out 1).trans rfl, (blk_cell ac.out 2).trans rfl, (blk_cell ac.out 3).trans rfl⟩ (fun hHeld => ?_)
    clear hK K
    refine no_ 128 ?_
    refine pu_ 4 129 (bs 8 31) HT_ ?_ rfl rfl
    refine pu_ 5 130 (bs 8 63) HT_ ?_ rfl rfl
    refine pu_ 6 131 (bs 8 127) HT_ ?_ rfl rfl
    refine last_ (i := 7) (N := none) (bs 8 255) rfl rfl (one_of HT_.out (by kernel_rfl)) (by decide) (fun K hK => ?_)
    refine skip_ (w1 := ?_) (by rfl) rfl ?_ ?_
    rotate_left
    ·go_simp
     rfl
    refine hK.out _ _ ?_
    clear hK K
    refine done_ (done_of HT_.out (by kernel_rfl)) ?_
    have bI : Aside0 (Kd.S k83 83 (uM.setCell ⟨fq, 0, none⟩ (.int .i64 (wrap64 (8 * oC)))) w.heap.size (fun _ => True) (.slice (some ⟨fq, 0, none⟩) aA.length tM) T6) := ⟨by (with_reducible repeat (first | apply Kd.S_alloc | apply Kd.S_drewN | apply Kd.S_drew)); exact Ue.out⟩
    have bZ : Aside0 ((uM.setCell ⟨fq, 0, none⟩ (.int .i64 (wrap64 (8 * oC)))).heap[ba]? = some (.cells #[.string (⟨#[]⟩ : ByteArray), .string (⟨#[]⟩ : ByteArray), .int .i64 0, .slice none 0 0] 29 (0, 0))) := ⟨by (with_reducible repeat (first | refine blk_drewN ?_ _ | refine blk_drew ?_ | refine blk_alloc ?_ _)); refine blk_far ?_ (by have h_ := Kd.S_ne aa.out af.out (by decide); intro e_; exact h_ (by rw [e_]; rfl)) _; (with_reducible repeat (first | refine blk_drewN ?_ _ | refine blk_drew ?_ | refine blk_alloc ?_ _)); exact af.out⟩
    have n2_ : Aside0 ((uM.setCell ⟨fq, 0, none⟩ (.int .i64 (wrap64 (8 * oC)))).heap[bf]? = some (.cells #[.string cu, .string (⟨#[68, 79, 67, 75]⟩ : ByteArray), .int .i64 (wrap64 (1 + cq)), .slice (some ⟨fq, 0, none⟩) aA.length tM] 29 (0, 0))) := ⟨by (with_reducible repeat (first | refine blk_drewN ?_ _ | refine blk_drew ?_ | refine blk_alloc ?_ _)); refine blk_far ?_ (by have h_ := Kd.S_ne aa.out ac.out (by decide); intro e_; exact h_ (by rw [e_]; rfl)) _; (with_reducible repeat (first | refine blk_drewN ?_ _ | refine blk_drew ?_ | refine blk_alloc ?_ _)); exact ac.out⟩
    have cD : Aside0 (IsS111 w0 (uM.setCell ⟨fq, 0, none⟩ (.int .i64 (wrap64 (8 * oC)))) g ae Me Mf rX) := ⟨by repeat (first | (with_reducible first | exact ay.out | apply IsS111.alloc | apply IsS111.drewN | apply IsS111.drew | apply IsS111.set_1 | apply IsS111.set_2 | apply IsS111.set_3 | refine IsS111.far ?_ HN0_go205.out _ | refine IsS111.far ?_ cF.out _ | refine IsS111.far ?_ cw.out _) | exact ay.out)⟩
    have ji : Aside0 (KeepBut w (uM.setCell ⟨fq, 0, none⟩ (.int .i64 (wrap64 (8 * oC)))) g none) := ⟨by repeat (first | (with_reducible first | exact HK.out | apply KeepBut.set_ | apply keep_drewN | apply keep_drew | apply keep_alloc | refine keep_far ?_ JN.out _ | refine keep_far ?_ j9.out _ | refine keep_far ?_ mh.out _) | exact HK.out)⟩
    have jj : Aside0 (Below w0.heap.size w0 (uM.setCell ⟨fq, 0, none⟩ (.int .i64 (wrap64 (8 * oC))))) := ⟨by repeat (first | (with_reducible first | exact HB.out | apply below_alloc | apply pw_below_drewN | apply below_drew1 | refine below_set ?_ (Nat.le_trans HL.out JN.out) | refine below_set ?_ (IsS111.ge ay.out) | refine below_set ?_ e8.out | refine below_set ?_ jv.out) | exact HB.out)⟩
    (try clear aa)
    (try clear af)
    (try clear ac)
    (try clear ay)
    (try clear HK)
    (try clear HB)
    generalize (uM.setCell ⟨fq, 0, none⟩ (.int .i64 (wrap64 (8 * oC)))) = b3B at bI bZ n2_ cD ji jj ⊢
    have aa := bI
    have af := bZ
    have ac := n2_
    have ay := cD
    have HK := ji
    have HB := jj
    clear bI bZ n2_ cD ji jj
    have a5B := dP.out
    have a5C := dO.out
    have a5D := aZ.out
    have a5E := cw.out
    obtain ⟨Uf, Ug, Uh, Ui, Uj, Uk, Ul, Um⟩ := cellsF4 ac.out
    have a5F := aY.out
    have a5G := cF.out
    obtain ⟨Un, Uo, Up, Uq, Ur, Us, Ut, Uu⟩ := cellsF4 af.out
    try go_wp2
    refine bodyPost_ret (results_cell_row rfl _ _ ba 29 #[.string cu, .string (⟨#[68, 79, 67, 75]⟩ : ByteArray), .int .i64 (wrap64 (1 + cq)), .slice (some ⟨fq, 0, none⟩) aA.length tM] (0, 0) _ rfl (bq_ af) Tryd.underlying29 rfl (by kernel_rfl)) rfl ?_
    exact ⟨_, au3_23, by refine Kd.N_mono (Kd.S_N (Kd.S_bound (ok := fun _ => True) ?_)) (fun _ hk_ => hk_.2.1); (with_reducible repeat (first | apply Kd.S_alloc | apply Kd.S_drewN | apply Kd.S_drew)); exact Kd.S_mono (Kd.S_far (p := ⟨ba, 3, none⟩) (Kd.S_far (p := ⟨ba, 2, none⟩) (Kd.S_far (p := ⟨ba, 1, none⟩) (Kd.S_far (p := ⟨ba, 0, none⟩) (Kd.S_types aa.out af.out (by decide)) (fun _ hk => hk.2) (.string cu)) (fun _ hk => hk.2) (.string (⟨#[68, 79, 67, 75]⟩ : ByteArray))) (fun _ hk => hk.2) (.int .i64 (wrap64 (1 + cq)))) (fun _ hk => hk.2) (.slice (some ⟨fq, 0, none⟩) aA.length tM)) (fun _ hk => trivial), is3_0_, au3_7, au3_9⟩
   rw [if_neg uL] at H
   have c202b0 : (eX == 3) = false := beq_eq_false_iff_ne.mpr uL
   have c202b1 : (eX != 3) = true := bne_iff_ne.mpr uL
   by_cases uN : eX = 4
   ·rw [if_pos uN] at H
    have c217b0 : (eX == 4) = true := beq_iff_eq.mpr uN
    have c217b1 : (eX != 4) = false := bne_eq_false_iff_eq.mpr uN
    clear uN
    have H' := am_ H
    clear H
    have q_ := Kd.S_types (Kd.S_types (IsS111.apartS ay.out (Kd.S_bound aa.out) (by decide)) af.out (by decide)) ac.out (by decide)
    have q2_ := am_ (Kd.N_mono (ok' := (fun k_ => (w.heap.size ≤ k_) ∧ k_ ≠ ba ∧ k_ ≠ bf ∧ k_ ≠ g)) (Kd.S_N q_) (fun k_ hk => ⟨hk.1.1.1.2.1, hk.1.2, hk.2, hk.1.1.2⟩))
    clear aa q_
    have aa := q2_
    clear q2_
    go_wp2_with (first | (go_at_call 70; (with_reducible refine (F70.calls g ae bx bz bA 20 true kf kg ki w0 _ ?s1 ?s2 mo.out).mono ?_); (case s1 => exact au3_1); (case s2 => exact au3_3); rintro e b3C ⟨rfl, hi, hb, hk⟩; (try clear mo); replace aa := am_ (Kd.N_mono (Kd.N_keep (Kd.N_mono (ok := fun k_ => (((w.heap.size ≤ k_)) ∧ (k_ ≠ ba ∧ (k_ ≠ bf ∧ k_ ≠ g)))) au3_24 (fun k_ hk_ => (⟨hk_, hk_.2.2.2⟩ : _ ∧ k_ ≠ g))) hk (fun _ h => h.2)) (fun _ h => h.1)); replace af := ka_ hk af aY; replace ac := ka_ hk ac aZ; replace HK := am_ (KeepBut.trans au3_0 hk (.inl rfl)); replace HB := am_ (hb); replace ay := am_ (hi); clear hb hk hi) | (go_at_call 68; (with_reducible refine (F68.calls g ae kf kg ki 6 eX kj kk km w0 _ ?s1 ?s2 oB.out).mono ?_); (case s1 => exact au3_1); (case s2 => exact au3_3); rintro e b3D ⟨rfl, hi, hb, hk⟩; (try clear oB); replace aa := am_ (Kd.N_mono (Kd.N_keep (Kd.N_mono (ok := fun k_ => (((w.heap.size ≤ k_)) ∧ (k_ ≠ ba ∧ (k_ ≠ bf ∧ k_ ≠ g)))) au3_24 (fun k_ hk_ => (⟨hk_, hk_.2.2.2⟩ : _ ∧ k_ ≠ g))) hk (fun _ h => h.2)) (fun _ h => h.1)); replace af := ka_ hk af aY; replace ac := ka_ hk ac aZ; replace HK := am_ (KeepBut.trans au3_0 hk (.inl rfl)); replace HB := am_ (hb); replace ay := am_ (hi); clear hb hk hi))
    go_loopg [] k1 (fun kq w' => ∃ (bq : Int) (br : Int) (bu : Int) (ag : List (S83)) (bL : Value), Aside0 (F45.l3 kq ae bq br bu cu (⟨#[68, 79, 67, 75]⟩ : ByteArray) (wrap64 (1 + cq)) ag = some (r1, r2, r3, r4, r5, r6, r7)) ∧ Aside0 (kq ≤ k1) ∧ Aside0 (Kd.N k83 83 w' w.heap.size (fun k_ => (w.heap.size ≤ k_) ∧ k_ ≠ ba ∧ k_ ≠ bf ∧ k_ ≠ g) bL ag) ∧ Aside0 (w'.heap[ba]? = some (.cells #[.string (⟨#[]⟩ : ByteArray), .string (⟨#[]⟩ : ByteArray), .int .i64 0, (.slice none 0 0)] 29 (0, 0))) ∧ Aside0 (w'.heap[bf]? = some (.cells #[.string cu, .string (⟨#[68, 79, 67, 75]⟩ : ByteArray), .int .i64 (wrap64 (1 + cq)), bL] 29 (0, 0))) ∧ Aside0 (IsS111 w0 w' g ae bq br bu) ∧ Aside0 (KeepBut w w' g none) ∧ Aside0 (Below w0.heap.size w0 w'))
    case atStart => exact ⟨(kj), (kk), (km), (aA), (bL), H', ⟨Nat.le_refl _⟩, ⟨by (with_reducible repeat (first | apply Kd.N_alloc | apply Kd.N_drewN | apply Kd.N_drew)); exact aa.out⟩, ⟨bk_ af⟩, ⟨bk_ ac⟩, ⟨is3_0_⟩, ⟨au3_9⟩, ⟨au3_7⟩⟩
    case round =>
     clear H'
     obtain ⟨bq, br, bu, ag, bL, HA, HK2, aa, af, ac, ay, HK, HB⟩ := hrel
     cases gk with
     | zero => exact absurd HA.out (by simp [F45.l3])
     | succ k2 =>
      have H := HA.out
      clear HA
      simp only [F45.l3] at H
      replace H := bi_ H; rcases H with ⟨⟨Uv, uO, tN, tO⟩, Uw, H⟩
      replace H := it_ H; rcases H with ⟨c221b0, H⟩ | ⟨c221b0, H⟩
      rotate_left
      ·simp only [Option.some.injEq, Prod.mk.injEq] at H
       obtain ⟨rfl, rfl, rfl, rfl, rfl, rfl, rfl⟩ := H
       try go_wp2
       replace aa := am_ (Kd.N_drew aa.out)
       replace af := bd_ af
       replace ac := bd_ ac
       replace ay := am_ (IsS111.drew ay.out)
       replace HK := am_ (keep_drew HK.out)
       replace HB := am_ (below_drew1 HB.out)
       obtain ⟨ym, oh, tP⟩ := Kd.N_slice aa.out
       (first | subst tP | (injection tP with dY gS dZ; have gT := dY.symm; have gU := dZ.symm; clear dY gS dZ; subst gT; subst gU))
       refine start_ (n := 7) (S := fun w' => w'.cell? ⟨bf, 0, none⟩ = some (.string cu) ∧ w'.cell? ⟨bf, 1, none⟩ = some (.string (⟨#[68, 79, 67, 75]⟩ : ByteArray)) ∧ w'.cell? ⟨bf, 2, none⟩ = some (.int .i64 (wrap64 (1 + cq))) ∧ w'.cell? ⟨bf, 3, none⟩ = some (.slice ym ag.length oh)) (ds := []) (bs 7 0) (by kernel_rfl) rfl rfl ⟨(blk_cell ac.out 0).trans rfl, (blk_cell ac.out 1).trans rfl, (blk_cell ac.out 2).trans rfl, (blk_cell ac.out 3).trans rfl⟩ (fun hHeld => ?_)
       generalize wr.drew = a5H at aa af ac ay HK HB hHeld ⊢
       refine pk_ 0 134 (bs 7 1) ?_ rfl rfl
       refine pk_ 3 137 (bs 7 9) ?_ rfl rfl
       refine take_ (i := 1) (N := some 135) (v := ?_) (a' := ?_) (bs 7 11) rfl rfl (by kernel_rfl) (fun _ _ _ h => h) (Or.inl ⟨by rfl, ?_⟩) hHeld ?_ ?_
       rotate_left
       ·rintro w' ⟨s0, s1, s2, s3⟩
        go_simp
        with_reducible rfl
       rotate_left
       ·simp only [Act.put, List.setIfInBounds_toArray, List.set_cons_zero, List.set_cons_succ, i64_w, i32_w]
        rfl
       refine pk_ 2 136 (bs 7 15) ?_ rfl rfl
       refine one_ (i := 4) (N := some 138) (bs 7 31) rfl rfl (by kernel_rfl) (by decide) (fun K hK => ?_)
       refine gr_ Tryd.func68 #[.pointer (some ⟨g, 0, none⟩), .int .i64 2] (by rfl) ?_ rfl rfl rfl
       with_reducible refine (F68.calls g ae bq br bu 2 Uv uO tN tO w0 _ ?s1 ?s2 Uw.out).mono ?_
       (case s1 => exact au3_1)
       (case s2 => exact au3_3)
       rintro e Ux ⟨rfl, hi, hb, hk⟩
       refine ⟨_, rfl, ?_⟩
       replace aa := am_ (Kd.N_mono (Kd.N_keep (Kd.N_mono (ok := fun k_ => (((w.heap.size ≤ k_)) ∧ (k_ ≠ ba ∧ (k_ ≠ bf ∧ k_ ≠ g)))) au3_24 (fun k_ hk_ => (⟨hk_, hk_.2.2.2⟩ : _ ∧ k_ ≠ g))) hk (fun _ h => h.2)) (fun _ h => h.1))
       replace af := ka_ hk af aY
       replace ac := ka_ hk ac aZ
       replace HK := am_ (KeepBut.trans au3_0 hk (.inl rfl))
       replace HB := am_ (hb)
       replace ay := am_ (hi)
       (try clear hb)
       (try clear hb2)
       (try clear hk)
       (try clear hi)
       refine hK.out _ _ ⟨(blk_cell ac.out 0).trans rfl, (blk_cell ac.out 1).trans rfl, (blk_cell ac.out 2).trans rfl, (blk_cell ac.out 3).trans rfl⟩ (fun hHeld => ?_)
       clear hK K
       refine no_ 138 ?_
       refine pk_ 5 139 (bs 7 63) ?_ rfl rfl
       refine pk_ 6 140 (bs 7 127) ?_ rfl rfl
       refine done_ (by kernel_rfl) ?_
       have a5I := dP.out
       have a5J := dO.out
       have a5K := aZ.out
       have a5L := cw.out
       obtain ⟨Uy, Uz, UA, UB, UC, UD, UE, UF⟩ := cellsF4 ac.out
       have Mm := aY.out
       have Mn := cF.out
       obtain ⟨UG, UH, UI, UJ, UK, UL, UM, UN⟩ := cellsF4 af.out
       try go_wp2
       refine bodyPost_ret (results_cell_row rfl _ _ ba 29 #[.string cu, .string (⟨#[68, 79, 67, 75]⟩ : ByteArray), .int .i64 (wrap64 (1 + cq)), .slice ym ag.length oh] (0, 0) _ rfl (bq_ af) Tryd.underlying29 rfl (by kernel_rfl)) rfl ?_
       exact ⟨_, au3_23, by (with_reducible repeat (first | apply Kd.N_alloc | apply Kd.N_drewN | apply Kd.N_drew)); exact Kd.N_mono (Kd.N_far (p := ⟨ba, 3, none⟩) (Kd.N_far (p := ⟨ba, 2, none⟩) (Kd.N_far (p := ⟨ba, 1, none⟩) (Kd.N_far (p := ⟨ba, 0, none⟩) (Kd.N_mono aa.out (fun k_ hk => (⟨hk, hk.2.1⟩ : _ ∧ k_ ≠ ba))) (fun _ hk => hk.2) (.string cu)) (fun _ hk => hk.2) (.string (⟨#[68, 79, 67, 75]⟩ : ByteArray))) (fun _ hk => hk.2) (.int .i64 (wrap64 (1 + cq)))) (fun _ hk => hk.2) (.slice ym ag.length oh)) (fun _ hk => hk.1.1), is3_0_, au3_7, au3_9⟩
      replace H := itn_ H; rcases H with ⟨c222b0, H⟩
      have c222b1 : decide (0 < ag.length) = true := n2_ c222b0
      replace H := iln_ H; rcases H with ⟨Mo, H⟩
      obtain ⟨He, De⟩ : ∃ y_ : List (S83), y_ = (ag ++ [(⟨(rd_T83 ag 0).f0, (rd_T83 ag 0).f1, (rd_T83 ag 0).f2⟩ : S83)]) := ⟨_, rfl⟩
      replace H : (F45.l3 k2 ae uO tN tO cu (⟨#[68, 79, 67, 75]⟩ : ByteArray) (wrap64 (1 + cq)) He) = some (r1, r2, r3, r4, r5, r6, r7) := by first | (rw [De]; exact H) | exact H
      have UO := am_ De
      clear De
      have H' := am_ H
      clear H
      try go_wp2
      replace aa := am_ (Kd.N_drew aa.out)
      replace af := bd_ af
      replace ac := bd_ ac
      replace ay := am_ (IsS111.drew ay.out)
      replace HK := am_ (keep_drew HK.out)
      replace HB := am_ (below_drew1 HB.out)
      obtain ⟨UP, ol, JQ⟩ := Kd.N_slice aa.out
      (first | subst JQ | (injection JQ with dY gS dZ; have gT := dY.symm; have gU := dZ.symm; clear dY gS dZ; subst gT; subst gU))
      refine start_ (n := 7) (S := fun w' => w'.cell? ⟨bf, 0, none⟩ = some (.string cu) ∧ w'.cell? ⟨bf, 1, none⟩ = some (.string (⟨#[68, 79, 67, 75]⟩ : ByteArray)) ∧ w'.cell? ⟨bf, 2, none⟩ = some (.int .i64 (wrap64 (1 + cq))) ∧ w'.cell? ⟨bf, 3, none⟩ = some (.slice UP ag.length ol)) (ds := []) (bs 7 0) (by kernel_rfl) rfl rfl ⟨(blk_cell ac.out 0).trans rfl, (blk_cell ac.out 1).trans rfl, (blk_cell ac.out 2).trans rfl, (blk_cell ac.out 3).trans rfl⟩ (fun hHeld => ?_)
      generalize wr.drew = b3E at aa af ac ay HK HB hHeld ⊢
      refine pk_ 0 134 (bs 7 1) ?_ rfl rfl
      refine pk_ 3 137 (bs 7 9) ?_ rfl rfl
      refine take_ (i := 1) (N := some 135) (v := ?_) (a' := ?_) (bs 7 11) rfl rfl (by kernel_rfl) (fun _ _ _ h => h) (Or.inl ⟨by rfl, ?_⟩) hHeld ?_ ?_
      rotate_left
      ·rintro w' ⟨s0, s1, s2, s3⟩
       go_simp
       with_reducible rfl
      rotate_left
      ·simp only [Act.put, List.setIfInBounds_toArray, List.set_cons_zero, List.set_cons_succ, i64_w, i32_w]
       rfl
      refine pk_ 2 136 (bs 7 15) ?_ rfl rfl
      refine one_ (i := 4) (N := some 138) (bs 7 31) rfl rfl (by kernel_rfl) (by decide) (fun K hK => ?_)
      refine gr_ Tryd.func68 #[.pointer (some ⟨g, 0, none⟩), .int .i64 2] (by rfl) ?_ rfl rfl rfl
      with_reducible refine (F68.calls g ae bq br bu 2 Uv uO tN tO w0 _ ?s1 ?s2 Uw.out).mono ?_
      (case s1 => exact au3_1)
      (case s2 => exact au3_3)
      rintro e UQ ⟨rfl, hi, hb, hk⟩
      refine ⟨_, rfl, ?_⟩
      replace aa := am_ (Kd.N_mono (Kd.N_keep (Kd.N_mono (ok := fun k_ => (((w.heap.size ≤ k_)) ∧ (k_ ≠ ba ∧ (k_ ≠ bf ∧ k_ ≠ g)))) au3_24 (fun k_ hk_ => (⟨hk_, hk_.2.2.2⟩ : _ ∧ k_ ≠ g))) hk (fun _ h => h.2)) (fun _ h => h.1))
      replace af := ka_ hk af aY
      replace ac := ka_ hk ac aZ
      replace HK := am_ (KeepBut.trans au3_0 hk (.inl rfl))
      replace HB := am_ (hb)
      replace ay := am_ (hi)
      (try clear hb)
      (try clear hb2)
      (try clear hk)
      (try clear hi)
      refine hK.out _ _ ⟨(blk_cell ac.out 0).trans rfl, (blk_cell ac.out 1).trans rfl, (blk_cell ac.out 2).trans rfl, (blk_cell ac.out 3).trans rfl⟩ (fun hHeld => ?_)
      clear hK K
      refine no_ 138 ?_
      refine pk_ 5 139 (bs 7 63) ?_ rfl rfl
      refine pk_ 6 140 (bs 7 127) ?_ rfl rfl
      refine done_ (by kernel_rfl) ?_
      try go_wp2
      replace aa := am_ (Kd.N_drew aa.out)
      replace af := bd_ af
      replace ac := bd_ ac
      replace ay := am_ (IsS111.drew ay.out)
      replace HK := am_ (keep_drew HK.out)
      replace HB := am_ (below_drew1 HB.out)
      have Hf : 0 ≤ (0 : Int) := (by omega)
      have Hg : 0 < (ag.length : Int) := od_
      obtain ⟨kb, Df, Dg, a5M, mq, mr, lb, yn, yo⟩ := at_T83 (Kd.N_reads' aa.out).2.2 0 Hf Hg
      cases a5M
      obtain ⟨b0r, Mp, Mq, Dh⟩ := Kd.N_get aa.out z83 0 Hf (by first | exact Hg | exact of_decide_eq_true as_ | (have e_ := (Kd.N_reads' aa.out).1; omega))
      obtain ⟨ZC, ZD, rfl, r8, r9⟩ := k83_openF Mq
      have o0 := Dh 2 _ rfl
      rw [add_field _ _ 2 (by omega)] at o0
      replace o0 := Option.some.inj (o0.symm.trans lb)
      injection o0 with hva_ hvn_ hvc_
      rw [hva_] at r9
      rw [hvc_] at r8
      have mt := am_ (show Kd.V k85 85 _ w.heap.size _ _ ((rd_T83 ag 0).f2) from Kd.V_mk r8 r9)
      clear hva_ hvn_ hvc_ r9 r8
      clear Dh Mp
      have b0s : (0 < ag.length) = True := eq_true (by omega)
      (try rw [show ((0 : Int)).toNat = 0 from rfl] at mq)
      (try rw [show 0 * 3 = 0 from rfl] at mq)
      (try rw [Addr.add_zero'] at mq)
      (try rw [show ((0 : Int)).toNat = 0 from rfl] at mr)
      (try rw [show 0 * 3 = 0 from rfl] at mr)
      (try rw [Addr.add_zero'] at mr)
      (try rw [show ((0 : Int)).toNat = 0 from rfl] at lb)
      (try rw [show 0 * 3 = 0 from rfl] at lb)
      (try rw [Addr.add_zero'] at lb)
      have Hh := am_ yo
      have ZE := am_ yn
      clear yo yn
      replace Hf := eq_true Hf
      replace Hg := eq_true Hg
      refine start_ (n := 10) (S := fun w' => w'.cell? ⟨bf, 0, none⟩ = some (.string cu) ∧ w'.cell? ⟨bf, 1, none⟩ = some (.string (⟨#[68, 79, 67, 75]⟩ : ByteArray)) ∧ w'.cell? ⟨bf, 2, none⟩ = some (.int .i64 (wrap64 (1 + cq))) ∧ w'.cell? ⟨bf, 3, none⟩ = some (.slice (some kb) ag.length ol) ∧ w'.cell? kb = some (.int .i64 ((rd_T83 ag 0).f0)) ∧ w'.cell? ⟨kb.block, kb.off + 1, none⟩ = some (.int .i64 ((rd_T83 ag 0).f1)) ∧ w'.cell? ⟨kb.block, kb.off + 2, none⟩ = some (.slice Df ((rd_T83 ag 0).f2).length Dg)) (ds := [7, 9]) (bs 10 0) (by kernel_rfl) rfl rfl ⟨(blk_cell ac.out 0).trans rfl, (blk_cell ac.out 1).trans rfl, (blk_cell ac.out 2).trans rfl, (blk_cell ac.out 3).trans rfl, mq, mr, lb⟩ (fun hHeld => ?_); refine with_tabW F45.tab32 F45.bits32 (fun HT_ HW_ => ?_)
      generalize UQ.drew = a5N at aa af ac ay HK HB mt Hh mq mr lb hHeld ⊢
      refine pu_ 0 141 (bs 10 1) HT_ ?_ rfl rfl
      refine pu_ 2 143 (bs 10 5) HT_ ?_ rfl rfl
      refine tk_ 1 142 (bs 10 7) HT_ HW_ hHeld au3_28 ?_ rfl rfl
      refine tk_ 3 144 (bs 10 15) HT_ HW_ hHeld au3_28 ?_ rfl rfl
      refine pu_ 4 145 (bs 10 31) HT_ ?_ rfl rfl
      refine tk_ 5 146 (bs 10 63) HT_ HW_ hHeld au3_28 ?_ rfl rfl
      refine one_ (i := 6) (N := some 147) (bs 10 127) rfl rfl (one_of HT_.out (by kernel_rfl)) (by decide) (fun K hK => ?_)
      refine value_ (w1 := ?_) (v := ?_) (by rfl) rfl ?_ ?_
      rotate_left 2
      ·go_simp
       constructor
       ·rfl
       ·rfl
      refine hK.out _ _ ⟨(blk_cell (blk_alloc ac.out _) 0).trans rfl, (blk_cell (blk_alloc ac.out _) 1).trans rfl, (blk_cell (blk_alloc ac.out _) 2).trans rfl, (blk_cell (blk_alloc ac.out _) 3).trans rfl, (World.cell?_alloc_lt _ _ _ (World.block_lt_of_cell? _ _ (hHeld.2.2.2.2.1))).trans (hHeld.2.2.2.2.1), (World.cell?_alloc_lt _ _ _ (World.block_lt_of_cell? _ _ (hHeld.2.2.2.2.2.1))).trans (hHeld.2.2.2.2.2.1), (World.cell?_alloc_lt _ _ _ (World.block_lt_of_cell? _ _ (hHeld.2.2.2.2.2.2))).trans (hHeld.2.2.2.2.2.2)⟩ (fun hHeld => ?_)
      clear hK K
      refine no_ 147 ?_
      refine last_ (i := 7) (N := some 148) (bs 10 255) rfl rfl (one_of HT_.out (by kernel_rfl)) (by decide) (fun K hK => ?_)
      refine Kd.N_append_step k83 w.heap.size (by rfl) (.tmp 142) (.tmp 147) 27 83 (.agg #[(.int .i64 0), (.int .i64 0), (.slice none 0 0)]) 40 rfl Tryd.underlying27 ix_info83 rfl (by decide) (by omega) (.slice (some kb) ag.length ol) ag (⟨(rd_T83 ag 0).f0, (rd_T83 ag 0).f1, (rd_T83 ag 0).f2⟩ : S83) [.int .i64 ((rd_T83 ag 0).f0), .int .i64 ((rd_T83 ag 0).f1), .slice Df ((rd_T83 ag 0).f2).length Dg] (fun k_ => (w.heap.size ≤ k_) ∧ k_ ≠ ba ∧ k_ ≠ bf ∧ k_ ≠ g) (fun k_ => ((fun k_ => (w.heap.size ≤ k_) ∧ k_ ≠ ba ∧ k_ ≠ bf ∧ k_ ≠ g)) k_ ∧ some k_ ≠ (.slice (some kb) ag.length ol : Value).ownBlock) rfl rfl ?aP (fun _ hk => hk) ?aF ?aO (Below.refl _ _) ?aS ?aL ?_
      (case aP => exact (k83_mkF _ _ (⟨(rd_T83 ag 0).f0, (rd_T83 ag 0).f1, (rd_T83 ag 0).f2⟩ : S83) (Kd.V_reads' (Kd.V_mono (ok' := (fun k_ => ((fun k_ => (w.heap.size ≤ k_) ∧ k_ ≠ ba ∧ k_ ≠ bf ∧ k_ ≠ g)) k_ ∧ some k_ ≠ (.slice (some kb) ag.length ol : Value).ownBlock)) (mt.out) (fun k_ hk => ⟨⟨hk.1.1, ⟨hk.1.2.1, ⟨hk.1.2.2.1, hk.1.2.2.2⟩⟩⟩, hk.2⟩))).2.1 (Kd.V_F (Kd.V_mono (ok' := (fun k_ => ((fun k_ => (w.heap.size ≤ k_) ∧ k_ ≠ ba ∧ k_ ≠ bf ∧ k_ ≠ g)) k_ ∧ some k_ ≠ (.slice (some kb) ag.length ol : Value).ownBlock)) (mt.out) (fun k_ hk => ⟨⟨hk.1.1, ⟨hk.1.2.1, ⟨hk.1.2.2.1, hk.1.2.2.2⟩⟩⟩, hk.2⟩)))))
      (case aF => exact (fun k_ hk => ⟨(Nat.le_trans (keep_size (w := w) (g := g) (row := none) au3_0) hk), Kd.freshB (g := ba) (o := .cells #[.string (⟨#[]⟩ : ByteArray), .string (⟨#[]⟩ : ByteArray), .int .i64 0, .slice none 0 0] 29 (0, 0)) (bk_ af) k_ hk, Kd.freshB (g := bf) (o := .cells #[.string cu, .string (⟨#[68, 79, 67, 75]⟩ : ByteArray), .int .i64 (wrap64 (1 + cq)), .slice (some kb) ag.length ol] 29 (0, 0)) (bk_ ac) k_ hk, IsS111.fresh is3_0_ k_ hk⟩))
      (case aO => exact au3_24)
      (case aS => exact (keep_size (w := w) (g := g) (row := none) au3_0))
      (case aL => have := Mo.out; omega)
      intro b3F a5O ho hb hg hat
      rw [← UO.out] at ho
      replace af := am_ (bg_ af hg (Kd.N_ne aa.out af.out (by decide)))
      replace ac := am_ (bg_ ac hg (Kd.N_ne aa.out ac.out (by decide)))
      replace mt := am_ (Kd.V_afterv (ok := (fun k_ => (w.heap.size ≤ k_) ∧ k_ ≠ ba ∧ k_ ≠ bf ∧ k_ ≠ g)) (by (with_reducible repeat (first | apply Kd.V_alloc | apply Kd.V_drewN | apply Kd.V_drew)); exact mt.out) hg hat)
      replace HB := am_ (below_weaken au3_22 HL.out hb)
      replace ay := am_ (IsS111.grown is3_0_ hg (IsS111.own_neN ay.out aa.out (by decide)))
      replace HK := am_ (KeepBut.trans au3_0 (KeepBut.of_grown hg g) (Kd.N_base2 aa.out))
      have JR := am_ (ho)
      clear aa
      clear ho hb hg hat
      obtain ⟨JS, JT, JU⟩ := Kd.N_slice JR.out
      (first | subst JU | (injection JU with dY gS dZ; have gT := dY.symm; have gU := dZ.symm; clear dY gS dZ; subst gT; subst gU))
      refine hK.out _ _ ?_
      clear hK K
      refine no_ 148 ?_
      refine pu_ 8 149 (bs 10 511) HT_ ?_ rfl rfl
      refine last_ (i := 9) (N := none) (bs 10 1023) rfl rfl (one_of HT_.out (by kernel_rfl)) (by decide) (fun K hK => ?_)
      have b0t : a5O.cell? ⟨bf, 3, none⟩ = some (.slice (some kb) ag.length ol) := (blk_cell ac.out 3).trans rfl
      have a5P := blk_frozen ac.out 3
      have UR := dO.out
      have US := dP.out
      refine skip_ (w1 := ?_) (by rfl) rfl ?_ ?_
      rotate_left
      ·go_simp
       rfl
      refine hK.out _ _ ?_
      clear hK K
      refine done_ (done_of HT_.out (by kernel_rfl)) ?_
      try go_wp2
      go_roundg k2
      case measure => have := dk.out; have := HK2.out; omega
      case rel => exact ⟨(uO), (tN), (tO), (He), (.slice JS He.length JT), H', ⟨au3_55⟩, ⟨by (with_reducible repeat (first | apply Kd.N_alloc | apply Kd.N_drewN | apply Kd.N_drew)); exact Kd.N_mono (Kd.N_far (p := ⟨bf, 3, none⟩) (Kd.N_mono JR.out (fun k_ hk => (⟨hk, hk.2.2.1⟩ : _ ∧ k_ ≠ bf))) (fun _ hk => hk.2) (.slice JS He.length JT)) (fun _ hk => ⟨hk.1.1, ⟨hk.1.2.1, ⟨hk.1.2.2.1, hk.1.2.2.2⟩⟩⟩)⟩, ⟨bf_ af⟩, ⟨bq_ ac⟩, ⟨is3_0_⟩, ⟨au3_9⟩, ⟨au3_7⟩⟩
   rw [if_neg uN] at H
   have c217b0 : (eX == 4) = false := beq_eq_false_iff_ne.mpr uN
   have c217b1 : (eX != 4) = true := bne_iff_ne.mpr uN
   have H' := am_ H
   clear H
   go_wp2_with (first | (go_at_call 70; (with_reducible refine (F70.calls g ae bx bz bA 20 true kf kg ki w0 _ ?s1 ?s2 mo.out).mono ?_); (case s1 => exact au3_1); (case s2 => exact au3_3); rintro e UQ ⟨rfl, hi, hb, hk⟩; (try clear mo); replace aa := am_ (Kd.S_mono (Kd.S_keep (IsS111.apartS (is3_0_ : IsS111 w0 _ g ae bx bz bA) au3_5 (by decide)) hk (fun _ h => h.2)) (fun _ h => h.1)); replace af := ka_ hk af aY; replace ac := ka_ hk ac aZ; replace HK := am_ (KeepBut.trans au3_0 hk (.inl rfl)); replace HB := am_ (hb); replace ay := am_ (hi); clear hb hk hi) | (go_at_call 68; (with_reducible refine (F68.calls g ae kf kg ki 6 eX kj kk km w0 _ ?s1 ?s2 oB.out).mono ?_); (case s1 => exact au3_1); (case s2 => exact au3_3); rintro e a5N ⟨rfl, hi, hb, hk⟩; (try clear oB); replace aa := am_ (Kd.S_mono (Kd.S_keep (IsS111.apartS (is3_0_ : IsS111 w0 _ g ae kf kg ki) au3_5 (by decide)) hk (fun _ h => h.2)) (fun _ h => h.1)); replace af := ka_ hk af aY; replace ac := ka_ hk ac aZ; replace HK := am_ (KeepBut.trans au3_0 hk (.inl rfl)); replace HB := am_ (hb); replace ay := am_ (hi); clear hb hk hi))
   go_loopg [] k1 (fun kq w' => ∃ (bq : Int) (br : Int) (bu : Int) (ag : List (S83)) (bL : Value), Aside0 (F45.l4 kq ae bq br bu cu (⟨#[68, 79, 67, 75]⟩ : ByteArray) (wrap64 (1 + cq)) ag = some (r1, r2, r3, r4, r5, r6, r7)) ∧ Aside0 (kq ≤ k1) ∧ Aside0 (Kd.S k83 83 w' w.heap.size (fun _ => True) bL ag) ∧ Aside0 (w'.heap[ba]? = some (.cells #[.string (⟨#[]⟩ : ByteArray), .string (⟨#[]⟩ : ByteArray), .int .i64 0, (.slice none 0 0)] 29 (0, 0))) ∧ Aside0 (w'.heap[bf]? = some (.cells #[.string cu, .string (⟨#[68, 79, 67, 75]⟩ : ByteArray), .int .i64 (wrap64 (1 + cq)), bL] 29 (0, 0))) ∧ Aside0 (IsS111 w0 w' g ae bq br bu) ∧ Aside0 (KeepBut w w' g none) ∧ Aside0 (Below w0.heap.size w0 w'))
   case atStart => exact ⟨(kj), (kk), (km), (aA), (bL), H', ⟨Nat.le_refl _⟩, ⟨au3_51⟩, ⟨bk_ af⟩, ⟨bk_ ac⟩, ⟨is3_0_⟩, ⟨au3_9⟩, ⟨au3_7⟩⟩
   case round =>
    clear H'
    obtain ⟨bq, br, bu, ag, bL, HA, HK2, aa, af, ac, ay, HK, HB⟩ := hrel
    cases gk with
    | zero => exact absurd HA.out (by simp [F45.l4])
    | succ k2 =>
     have H := HA.out
     clear HA
     simp only [F45.l4] at H
     replace H := itn_ H; rcases H with ⟨c228b0, H⟩
     have c228b1 : decide (0 < ag.length) = true := n2_ c228b0
     replace H := bi_ H; rcases H with ⟨⟨uO, tN, tO, Mr⟩, UT, H⟩
     replace H := it_ H; rcases H with ⟨c230b0, H⟩ | ⟨c230b0, H⟩
     rotate_left
     ·simp only [Option.some.injEq, Prod.mk.injEq] at H
      obtain ⟨rfl, rfl, rfl, rfl, rfl, rfl, rfl⟩ := H
      try go_wp2
      replace aa := am_ (Kd.S_drew aa.out)
      replace af := bd_ af
      replace ac := bd_ ac
      replace ay := am_ (IsS111.drew ay.out)
      replace HK := am_ (keep_drew HK.out)
      replace HB := am_ (below_drew1 HB.out)
      obtain ⟨b0u, Di, JV⟩ := Kd.S_slice aa.out
      (first | subst JV | (injection JV with dY gS dZ; have gT := dY.symm; have gU := dZ.symm; clear dY gS dZ; subst gT; subst gU))
      have sa : 0 ≤ (0 : Int) := (by omega)
      have tG : 0 < (ag.length : Int) := od_
      obtain ⟨gE, uP, uQ, Ms, ft, fu, eu, mu, mv⟩ := at_T83 (Kd.S_reads' aa.out).2.2 0 sa tG
      cases Ms
      obtain ⟨UU, uR, uS, pT⟩ := Kd.S_get aa.out z83 0 sa au3_54
      obtain ⟨Hi, rfl, gZ⟩ := k83_openM uS
      have fv := pT 2 _ rfl
      rw [add_field _ _ 2 (by omega)] at fv
      replace fv := Option.some.inj (fv.symm.trans eu)
      rw [fv] at gZ
      have k8 := am_ (show Kd.R k85 85 _ _ _ _ ((rd_T83 ag 0).f2) from (by first | exact gZ | exact Kd.S_R gZ))
      clear fv gZ
      clear pT uR
      have UV : (0 < ag.length) = True := eq_true (by omega)
      (try rw [show ((0 : Int)).toNat = 0 from rfl] at ft)
      (try rw [show 0 * 3 = 0 from rfl] at ft)
      (try rw [Addr.add_zero'] at ft)
      (try rw [show ((0 : Int)).toNat = 0 from rfl] at fu)
      (try rw [show 0 * 3 = 0 from rfl] at fu)
      (try rw [Addr.add_zero'] at fu)
      (try rw [show ((0 : Int)).toNat = 0 from rfl] at eu)
      (try rw [show 0 * 3 = 0 from rfl] at eu)
      (try rw [Addr.add_zero'] at eu)
      have sb := am_ mv
      have Hj := am_ mu
      clear mv mu
      replace sa := eq_true sa
      replace tG := eq_true tG
      refine start_ (n := 10) (S := fun w' => w'.cell? ⟨bf, 0, none⟩ = some (.string cu) ∧ w'.cell? ⟨bf, 1, none⟩ = some (.string (⟨#[68, 79, 67, 75]⟩ : ByteArray)) ∧ w'.cell? ⟨bf, 2, none⟩ = some (.int .i64 (wrap64 (1 + cq))) ∧ w'.cell? ⟨bf, 3, none⟩ = some (.slice (some gE) ag.length Di) ∧ w'.cell? gE = some (.int .i64 ((rd_T83 ag 0).f0)) ∧ w'.cell? ⟨gE.block, gE.off + 1, none⟩ = some (.int .i64 ((rd_T83 ag 0).f1)) ∧ w'.cell? ⟨gE.block, gE.off + 2, none⟩ = some (.slice uP ((rd_T83 ag 0).f2).length uQ)) (ds := []) (bs 10 0) (by kernel_rfl) rfl rfl ⟨(blk_cell ac.out 0).trans rfl, (blk_cell ac.out 1).trans rfl, (blk_cell ac.out 2).trans rfl, (blk_cell ac.out 3).trans rfl, ft, fu, eu⟩ (fun hHeld => ?_); refine with_tabW F45.tab20 F45.bits20 (fun HT_ HW_ => ?_)
      generalize wr.drew = b3G at aa af ac ay HK HB k8 sb ft fu eu hHeld ⊢
      refine pu_ 0 84 (bs 10 1) HT_ ?_ rfl rfl
      refine pu_ 6 90 (bs 10 65) HT_ ?_ rfl rfl
      refine tk_ 1 85 (bs 10 67) HT_ HW_ hHeld au3_28 ?_ rfl rfl
      refine pu_ 2 86 (bs 10 71) HT_ ?_ rfl rfl
      refine pu_ 3 87 (bs 10 79) HT_ ?_ rfl rfl
      refine tk_ 4 88 (bs 10 95) HT_ HW_ hHeld au3_28 ?_ rfl rfl
      refine pu_ 5 89 (bs 10 127) HT_ ?_ rfl rfl
      refine one_ (i := 7) (N := some 91) (bs 10 255) rfl rfl (one_of HT_.out (by kernel_rfl)) (by decide) (fun K hK => ?_)
      refine gr_ Tryd.func68 #[.pointer (some ⟨g, 0, none⟩), .int .i64 2] (by rfl) ?_ rfl rfl rfl
      with_reducible refine (F68.calls g ae bq br bu 2 uO tN tO Mr w0 _ ?s1 ?s2 UT.out).mono ?_
      (case s1 => exact au3_1)
      (case s2 => exact au3_3)
      rintro e b3H ⟨rfl, hi, hb, hk⟩
      have Mt := keep_cell hk (hHeld.2.2.2.2.1) au3_8
      have Mu := keep_cell hk (hHeld.2.2.2.2.2.1) au3_8
      have Mv := keep_cell hk (hHeld.2.2.2.2.2.2) au3_8
      refine ⟨_, rfl, ?_⟩
      replace aa := am_ (Kd.S_mono (Kd.S_keep (IsS111.apartS (is3_0_ : IsS111 w0 _ g ae bq br bu) au3_5 (by decide)) hk (fun _ h => h.2)) (fun _ h => h.1))
      replace af := ka_ hk af aY
      replace ac := ka_ hk ac aZ
      replace k8 := am_ (Kd.R_mono (Kd.R_keep (IsS111.apart (is3_0_ : IsS111 w0 _ g ae bq br bu) au3_52 (by decide)) hk (fun _ h => h.2)) (fun _ h => h.1))
      replace HK := am_ (KeepBut.trans au3_0 hk (.inl rfl))
      replace HB := am_ (hb)
      replace ay := am_ (hi)
      (try clear hb)
      (try clear hb2)
      (try clear hk)
      (try clear hi)
      refine hK.out _ _ ⟨(blk_cell ac.out 0).trans rfl, (blk_cell ac.out 1).trans rfl, (blk_cell ac.out 2).trans rfl, (blk_cell ac.out 3).trans rfl, Mt, Mu, Mv⟩ (fun hHeld => ?_)
      clear hK K
      refine no_ 91 ?_
      refine pu_ 8 92 (bs 10 511) HT_ ?_ rfl rfl
      refine pu_ 9 93 (bs 10 1023) HT_ ?_ rfl rfl
      refine done_ (done_of HT_.out (by kernel_rfl)) ?_
      have Mm := dP.out
      have Mn := dO.out
      have a5Q := aZ.out
      have a5R := cw.out
      obtain ⟨UW, UX, UY, UZ, U0, U1, U2, U3⟩ := cellsF4 ac.out
      have a5S := aY.out
      have a5T := cF.out
      obtain ⟨U4, U5, U6, U7, U8, U9, Va, Vb⟩ := cellsF4 af.out
      try go_wp2
      refine bodyPost_ret (results_cell_row rfl _ _ ba 29 #[.string cu, .string (⟨#[68, 79, 67, 75]⟩ : ByteArray), .int .i64 (wrap64 (1 + cq)), .slice (some gE) ag.length Di] (0, 0) _ rfl (bq_ af) Tryd.underlying29 rfl (by kernel_rfl)) rfl ?_
      exact ⟨_, au3_23, by refine Kd.N_mono (Kd.S_N (Kd.S_bound (ok := fun _ => True) ?_)) (fun _ hk_ => hk_.2.1); (with_reducible repeat (first | apply Kd.S_alloc | apply Kd.S_drewN | apply Kd.S_drew)); exact Kd.S_mono (Kd.S_far (p := ⟨ba, 3, none⟩) (Kd.S_far (p := ⟨ba, 2, none⟩) (Kd.S_far (p := ⟨ba, 1, none⟩) (Kd.S_far (p := ⟨ba, 0, none⟩) (Kd.S_types aa.out af.out (by decide)) (fun _ hk => hk.2) (.string cu)) (fun _ hk => hk.2) (.string (⟨#[68, 79, 67, 75]⟩ : ByteArray))) (fun _ hk => hk.2) (.int .i64 (wrap64 (1 + cq)))) (fun _ hk => hk.2) (.slice (some gE) ag.length Di)) (fun _ hk => trivial), is3_0_, au3_7, au3_9⟩
     by_cases cL_ : ((rd_T83 ag 0).f2).length < 4398046511104
     rotate_left
     ·rw [if_neg cL_] at H
      exact absurd H (by simp)
     rw [if_pos cL_] at H
     have LM_ := am_ cL_
     clear cL_
     obtain ⟨yN_, hyN_⟩ : ∃ y_ : List (S83), y_ = (ag.set (0 : Int).toNat (⟨(rd_T83 ag 0).f0, (rd_T83 ag 0).f1, (rd_T83 ag 0).f2 ++ [(⟨1, []⟩ : S85)]⟩ : S83)) := ⟨_, rfl⟩
     rw [← hyN_] at H
     have NyN_ := am_ hyN_
     clear hyN_
     have H' := am_ H
     clear H
     try go_wp2
     replace aa := am_ (Kd.S_drew aa.out)
     replace af := bd_ af
     replace ac := bd_ ac
     replace ay := am_ (IsS111.drew ay.out)
     replace HK := am_ (keep_drew HK.out)
     replace HB := am_ (below_drew1 HB.out)
     obtain ⟨ym, oh, tP⟩ := Kd.S_slice aa.out
     (first | subst tP | (injection tP with dY gS dZ; have gT := dY.symm; have gU := dZ.symm; clear dY gS dZ; subst gT; subst gU))
     have sa : 0 ≤ (0 : Int) := (by omega)
     have tG : 0 < (ag.length : Int) := od_
     obtain ⟨gE, uP, uQ, Ms, ft, fu, eu, mu, mv⟩ := at_T83 (Kd.S_reads' aa.out).2.2 0 sa tG
     cases Ms
     obtain ⟨UU, uR, uS, pT⟩ := Kd.S_get aa.out z83 0 sa au3_54
     obtain ⟨Hi, rfl, gZ⟩ := k83_openM uS
     have fv := pT 2 _ rfl
     rw [add_field _ _ 2 (by omega)] at fv
     replace fv := Option.some.inj (fv.symm.trans eu)
     rw [fv] at gZ
     have k8 := am_ (show Kd.R k85 85 _ _ _ _ ((rd_T83 ag 0).f2) from (by first | exact gZ | exact Kd.S_R gZ))
     clear fv gZ
     clear pT uR
     have UV : (0 < ag.length) = True := eq_true (by omega)
     (try rw [show ((0 : Int)).toNat = 0 from rfl] at ft)
     (try rw [show 0 * 3 = 0 from rfl] at ft)
     (try rw [Addr.add_zero'] at ft)
     (try rw [show ((0 : Int)).toNat = 0 from rfl] at fu)
     (try rw [show 0 * 3 = 0 from rfl] at fu)
     (try rw [Addr.add_zero'] at fu)
     (try rw [show ((0 : Int)).toNat = 0 from rfl] at eu)
     (try rw [show 0 * 3 = 0 from rfl] at eu)
     (try rw [Addr.add_zero'] at eu)
     have sb := am_ mv
     have Hj := am_ mu
     clear mv mu
     replace sa := eq_true sa
     replace tG := eq_true tG
     refine start_ (n := 10) (S := fun w' => w'.cell? ⟨bf, 0, none⟩ = some (.string cu) ∧ w'.cell? ⟨bf, 1, none⟩ = some (.string (⟨#[68, 79, 67, 75]⟩ : ByteArray)) ∧ w'.cell? ⟨bf, 2, none⟩ = some (.int .i64 (wrap64 (1 + cq))) ∧ w'.cell? ⟨bf, 3, none⟩ = some (.slice (some gE) ag.length oh) ∧ w'.cell? gE = some (.int .i64 ((rd_T83 ag 0).f0)) ∧ w'.cell? ⟨gE.block, gE.off + 1, none⟩ = some (.int .i64 ((rd_T83 ag 0).f1)) ∧ w'.cell? ⟨gE.block, gE.off + 2, none⟩ = some (.slice uP ((rd_T83 ag 0).f2).length uQ)) (ds := []) (bs 10 0) (by kernel_rfl) rfl rfl ⟨(blk_cell ac.out 0).trans rfl, (blk_cell ac.out 1).trans rfl, (blk_cell ac.out 2).trans rfl, (blk_cell ac.out 3).trans rfl, ft, fu, eu⟩ (fun hHeld => ?_); refine with_tabW F45.tab20 F45.bits20 (fun HT_ HW_ => ?_)
     generalize wr.drew = a5H at aa af ac ay HK HB k8 sb ft fu eu hHeld ⊢
     refine pu_ 0 84 (bs 10 1) HT_ ?_ rfl rfl
     refine pu_ 6 90 (bs 10 65) HT_ ?_ rfl rfl
     refine tk_ 1 85 (bs 10 67) HT_ HW_ hHeld au3_28 ?_ rfl rfl
     refine pu_ 2 86 (bs 10 71) HT_ ?_ rfl rfl
     refine pu_ 3 87 (bs 10 79) HT_ ?_ rfl rfl
     refine tk_ 4 88 (bs 10 95) HT_ HW_ hHeld au3_28 ?_ rfl rfl
     refine pu_ 5 89 (bs 10 127) HT_ ?_ rfl rfl
     refine one_ (i := 7) (N := some 91) (bs 10 255) rfl rfl (one_of HT_.out (by kernel_rfl)) (by decide) (fun K hK => ?_)
     refine gr_ Tryd.func68 #[.pointer (some ⟨g, 0, none⟩), .int .i64 2] (by rfl) ?_ rfl rfl rfl
     with_reducible refine (F68.calls g ae bq br bu 2 uO tN tO Mr w0 _ ?s1 ?s2 UT.out).mono ?_
     (case s1 => exact au3_1)
     (case s2 => exact au3_3)
     rintro e Ux ⟨rfl, hi, hb, hk⟩
     have Mt := keep_cell hk (hHeld.2.2.2.2.1) au3_8
     have Mu := keep_cell hk (hHeld.2.2.2.2.2.1) au3_8
     have Mv := keep_cell hk (hHeld.2.2.2.2.2.2) au3_8
     refine ⟨_, rfl, ?_⟩
     replace aa := am_ (Kd.S_mono (Kd.S_keep (IsS111.apartS (is3_0_ : IsS111 w0 _ g ae bq br bu) au3_5 (by decide)) hk (fun _ h => h.2)) (fun _ h => h.1))
     replace af := ka_ hk af aY
     replace ac := ka_ hk ac aZ
     replace k8 := am_ (Kd.R_mono (Kd.R_keep (IsS111.apart (is3_0_ : IsS111 w0 _ g ae bq br bu) au3_52 (by decide)) hk (fun _ h => h.2)) (fun _ h => h.1))
     replace HK := am_ (KeepBut.trans au3_0 hk (.inl rfl))
     replace HB := am_ (hb)
     replace ay := am_ (hi)
     (try clear hb)
     (try clear hb2)
     (try clear hk)
     (try clear hi)
     refine hK.out _ _ ⟨(blk_cell ac.out 0).trans rfl, (blk_cell ac.out 1).trans rfl, (blk_cell ac.out 2).trans rfl, (blk_cell ac.out 3).trans rfl, Mt, Mu, Mv⟩ (fun hHeld => ?_)
     clear hK K
     refine no_ 91 ?_
     refine pu_ 8 92 (bs 10 511) HT_ ?_ rfl rfl
     refine pu_ 9 93 (bs 10 1023) HT_ ?_ rfl rfl
     refine done_ (done_of HT_.out (by kernel_rfl)) ?_
     try go_wp2
     replace aa := am_ (Kd.S_drew aa.out)
     replace af := bd_ af
     replace ac := bd_ ac
     replace ay := am_ (IsS111.drew ay.out)
     replace HK := am_ (keep_drew HK.out)
     replace HB := am_ (below_drew1 HB.out)
     obtain ⟨go_, hgo_⟩ : ∃ g_, gE = ⟨g_, 0, none⟩ := Kd.R_head (Kd.S_R aa.out)
     subst hgo_
     have Vc := Kd.S_mono (Kd.S_bound aa.out) (ok' := fun k_ => w.heap.size ≤ k_) (fun k_ hk_ => hk_.2.1)
     have HGO_ := am_ (Kd.S_base aa.out go_ rfl)
     have a5U := am_ (show g ≠ go_ from by have h_ := IsS111.own_neS ay.out aa.out (by decide); intro e_; exact h_ (by rw [e_]; rfl))
     have HNR_ := am_ (show ba ≠ go_ from by have h_ := Kd.S_ne aa.out af.out (by decide); intro e_; exact h_ (by rw [e_]; rfl))
     have HNV_ := am_ (show bf ≠ go_ from by have h_ := Kd.S_ne aa.out ac.out (by decide); intro e_; exact h_ (by rw [e_]; rfl))
     have Hk : 0 ≤ (0 : Int) := (by omega)
     have Hl : (0 : Int) < (ag.length : Int) := od_
     have b0v : (0 < ag.length) = True := eq_true (by omega)
     obtain ⟨oki_, ce_, hcl_, hM_, hcc_, hfr_, hoki_, hH_⟩ := Kd.S_elem Vc z83 (0 : Int) Hk Hl
     have HBL_ := am_ (World.block_lt_of_cell? _ ⟨go_, _, none⟩ (hcc_ 0 _ (by obtain ⟨v, rfl, _⟩ := k83_openM hM_; rfl)))
     obtain ⟨v2_, rfl, hR_⟩ := k83_openM hM_
     obtain ⟨Am_, cm_, rfl⟩ := Kd.S_slice hR_
     have Vd : World.cell? _ ⟨go_, 2, none⟩ = some (.slice Am_ ((rd_T83 ag 0).f2).length cm_) := hcc_ 2 _ rfl
     have Ve := am_ Hk
     have Vf := am_ Hl
     replace Hk := eq_true Hk
     replace Hl := eq_true Hl
     have HH_ := am_ hH_
     have HR_ := am_ hR_
     have HOKI_ := am_ hoki_
     clear Vc hcl_ hM_ hcc_ hfr_ hoki_ hH_ hR_ aa
     refine start_ (n := 13) (S := fun w' => w'.cell? ⟨bf, 3, none⟩ = some (.slice (some ⟨go_, 0, none⟩) ag.length oh) ∧ w'.cell? ⟨go_, 2, none⟩ = some (.slice Am_ ((rd_T83 ag 0).f2).length cm_)) (ds := [12]) (bs 13 0) (by kernel_rfl) rfl rfl ⟨(blk_cell ac.out 3).trans rfl, Vd⟩ (fun hHeld => ?_)
     generalize Ux.drew = wd_ at af ac ay HK HB HH_ HR_ HBL_ Vd hHeld ⊢
     refine pk_ 0 94 (bs 13 1) ?_ rfl rfl
     refine pk_ 2 96 (bs 13 5) ?_ rfl rfl
     refine pk_ 7 101 (bs 13 133) ?_ rfl rfl
     refine take_ (i := 1) (N := some 95) (v := ?_) (a' := ?_) (bs 13 135) rfl rfl (by kernel_rfl) (fun _ _ _ h => h) (Or.inl ⟨by rfl, ?_⟩) hHeld ?_ ?_
     rotate_left
     ·rintro w' ⟨s0, s1⟩
      go_simp
      with_reducible rfl
     rotate_left
     ·simp only [Act.put, List.setIfInBounds_toArray, List.set_cons_zero, List.set_cons_succ, i64_w, i32_w]
      rfl
     refine take_ (i := 3) (N := some 97) (v := ?_) (a' := ?_) (bs 13 143) rfl rfl (by kernel_rfl) (fun _ _ _ h => h) (Or.inl ⟨by rfl, ?_⟩) hHeld ?_ ?_
     rotate_left
     ·rintro w' ⟨s0, s1⟩
      go_simp
      with_reducible rfl
     rotate_left
     ·simp only [Act.put, List.setIfInBounds_toArray, List.set_cons_zero, List.set_cons_succ, i64_w, i32_w]
      rfl
     refine pk_ 4 98 (bs 13 159) ?_ rfl rfl
     refine pk_ 5 99 (bs 13 191) ?_ rfl rfl
     refine take_ (i := 6) (N := some 100) (v := ?_) (a' := ?_) (bs 13 255) rfl rfl (by kernel_rfl) (fun _ _ _ h => h) (Or.inl ⟨by rfl, ?_⟩) hHeld ?_ ?_
     rotate_left
     ·rintro w' ⟨s0, s1⟩
      go_simp
      with_reducible rfl
     rotate_left
     ·simp only [Act.put, List.setIfInBounds_toArray, List.set_cons_zero, List.set_cons_succ, i64_w, i32_w]
      rfl
     refine one_ (i := 8) (N := some 102) (bs 13 511) rfl rfl (by kernel_rfl) (by decide) (fun K hK => ?_)
     refine value_ (w1 := ?_) (v := ?_) (by rfl) rfl ?_ ?_
     rotate_left 2
     ·go_simp
      constructor
      ·rfl
      ·rfl
     refine hK.out _ _ ⟨(World.cell?_alloc_lt _ _ _ (World.block_lt_of_cell? _ _ (hHeld.1))).trans (hHeld.1), (World.cell?_alloc_lt _ _ _ (World.block_lt_of_cell? _ _ (hHeld.2))).trans (hHeld.2)⟩ (fun hHeld => ?_)
     clear hK K
     refine no_ 102 ?_
     refine one_ (i := 9) (N := some 103) (bs 13 1023) rfl rfl (by kernel_rfl) (by decide) (fun K hK => ?_)
     refine Kd.S_append_step k85 w.heap.size (by rfl) (.tmp 100) (.tmp 102) 81 85 (.agg #[(.int .i64 0), (.slice none 0 0)]) 32 rfl Tryd.underlying81 ix_info85 rfl (by decide) (by omega) (.slice Am_ ((rd_T83 ag 0).f2).length cm_) ((rd_T83 ag 0).f2) (⟨1, []⟩ : S85) [.int .i64 1, .slice none 0 0] (fun k_ => oki_ k_ ∨ wd_.heap.size ≤ k_) (fun _ => False) rfl rfl ?aP (fun _ h_ => h_.elim) ?aF ?aO (Below.refl _ _) ?aS ?aL ?_
     (case aP => exact k85_mkM _ _ _ (⟨1, []⟩ : S85) (by first | exact Kd.S_nil _ _ _ _ _ | exact Kd.R_nil _ _ _ _ _))
     (case aF => exact fun k_ hk_ => .inr hk_)
     (case aO => exact Kd.S_mono HR_.out (fun k_ hk_ => ⟨.inl hk_, fun h_ => h_⟩))
     (case aS => exact (keep_size (w := w) (g := g) (row := none) HK.out))
     (case aL => have := LM_.out; omega)
     intro v6_ OI ho OJ qx hat
     obtain ⟨lF, Fz, rfl⟩ := Kd.S_slice ho
     rw [show ((rd_T83 ag 0).f2 ++ [(⟨1, []⟩ : S85)]).length = ((rd_T83 ag 0).f2).length + 1 from by simp] at ho
     obtain ⟨⟨hke_, hkf_⟩, n2_⟩ := ix_putM HH_.out HR_.out (fun k_ h_ => (HOKI_.out k_ h_).2) HBL_.out Ve.out Vf.out (keep_size (w := w) (g := g) (row := none) HK.out) ho qx
     have Vg : OI.cell? ⟨go_, 2, none⟩ = some (.slice Am_ ((rd_T83 ag 0).f2).length cm_) := hke_
     have b0w : OI.frozen? ⟨go_, 2, none⟩ = false := hkf_
     clear hke_ hkf_
     have HS_ := am_ n2_
     clear n2_
     replace af := am_ (blk_grown af.out qx (Kd.S_ne HR_.out af.out (by decide)))
     replace ac := am_ (blk_grown ac.out qx (Kd.S_ne HR_.out ac.out (by decide)))
     replace ay := am_ (IsS111.grown ay.out qx (IsS111.own_neS ay.out HR_.out (by decide)))
     replace HB := am_ (below_weaken HB.out HL.out OJ)
     replace HK := am_ (KeepBut.trans HK.out (KeepBut.of_grown qx g) (Kd.S_base2 HR_.out))
     clear HH_ HR_ ho OJ qx hat
     refine hK.out _ _ ⟨(blk_cell ac.out 3).trans rfl, Vg⟩ (fun hHeld => ?_)
     clear hK K
     refine no_ 103 ?_
     refine pk_ 10 104 (bs 13 2047) ?_ rfl rfl
     refine pk_ 11 105 (bs 13 4095) ?_ rfl rfl
     refine last_ (i := 12) (N := none) (bs 13 8191) rfl rfl (by kernel_rfl) (by decide) (fun K hK => ?_)
     refine skip_ (w1 := ?_) (by rfl) rfl ?_ ?_
     rotate_left
     ·go_simp
      rfl
     refine hK.out _ _ ?_
     clear hK K
     refine done_ (by kernel_rfl) ?_

     have bI : Aside0 (Kd.S k83 83 (OI.setCell ⟨go_, 2, none⟩ (.slice lF (((rd_T83 ag 0).f2).length + 1) Fz)) w.heap.size (fun _ => True) (.slice (some ⟨go_, 0, none⟩) ag.length oh) yN_) := ⟨by rw [NyN_.out]; exact Kd.S_mono HS_.out (fun _ _ => trivial)⟩
     have bZ := am_ (blk_far (p := ⟨go_, 2, none⟩) af.out HNR_.out (.slice lF (((rd_T83 ag 0).f2).length + 1) Fz))
     have n2_ := am_ (blk_far (p := ⟨go_, 2, none⟩) ac.out HNV_.out (.slice lF (((rd_T83 ag 0).f2).length + 1) Fz))
     have cD := am_ (IsS111.far (p := ⟨go_, 2, none⟩) ay.out a5U.out (.slice lF (((rd_T83 ag 0).f2).length + 1) Fz))
     have ji : Aside0 (KeepBut w (OI.setCell ⟨go_, 2, none⟩ (.slice lF (((rd_T83 ag 0).f2).length + 1) Fz)) g none) := ⟨keep_far HK.out HGO_.out _⟩
     have jj : Aside0 (Below w0.heap.size w0 (OI.setCell ⟨go_, 2, none⟩ (.slice lF (((rd_T83 ag 0).f2).length + 1) Fz))) := ⟨below_set HB.out (Nat.le_trans HL.out HGO_.out)⟩
     clear af ac ay HK HB HS_
     generalize (OI.setCell ⟨go_, 2, none⟩ (.slice lF (((rd_T83 ag 0).f2).length + 1) Fz)) = w7_ at bI bZ n2_ cD ji jj ⊢
     have aa := bI
     have af := bZ
     have ac := n2_
     have ay := cD
     have HK := ji
     have HB := jj
     clear bI bZ n2_ cD ji jj
     try go_wp2
     go_roundg k2
     case measure => have := dk.out; have := HK2.out; omega
     case rel => exact ⟨(tN), (tO), (Mr), (yN_), (.slice (some ⟨go_, 0, none⟩) ag.length oh), H', ⟨au3_55⟩, ⟨au3_51⟩, ⟨bk_ af⟩, ⟨bk_ ac⟩, ⟨is3_0_⟩, ⟨au3_9⟩, ⟨au3_7⟩⟩
end Go.Proofs.YtlghcbmkhdibdaaDoor.PFnTrailers
