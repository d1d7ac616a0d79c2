-- printed by a program of this session (wip/xp/xprint.py) out of the translation; Lean checks it
import Derived.Test.YtchoalagkcdbhaaPFnSegmentBackx0
import Derived.Test.YtchoalagkcdbhaaPFnSegmentBackx1
import Derived.Test.YtchoalagkcdbhaaPFnSegmentBackx2
namespace Go.Proofs.Ytchoalagkcdbhaa.PFnSegmentBack
open Go.RowKit Go.Proofs.YtchoalagkcdbhaaW.PrintWords Go.Proofs.YtchoalagkcdbhaaW.PrintLast Go.Proofs.YtchoalagkcdbhaaW.PrintMore
attribute [local go_sem] max2_int min2_int max_two min_two max_three min_three max_four min_four   -- for this text's walks alone
set_option linter.unusedVariables false
set_option linter.unusedSimpArgs false
set_option maxHeartbeats 8000000
set_option maxRecDepth 100000

theorem au3_0 {p : Prop} (h : p := by first | rfl | (simp [errW_none, errW_some] <;> rfl) | (simp [*, errW_none, errW_some] <;> rfl)) : p := h
theorem au3_1 {p : Prop} (h : p := by first | exact Kd.S_nil _ _ _ _ _ | exact Kd.N_nil _ _ _ _ _ | exact Kd.V_nil _ _ _ _ _ | exact Kd.Q_nil _ _ _ _ _ | exact Kd.R_nil _ _ _ _ _) : p := h
theorem au3_2 {p : Prop} (h : p := by first | exact Kd.own_blk (Kd.R_ne HO_5.out BK373.out (by decide)) | (rw [add_block]; exact Kd.own_blk (Kd.R_ne HO_5.out BK373.out (by decide))) | (show (Addr.add _ _).block ≠ _; rw [add_block]; exact Kd.own_blk (Kd.R_ne HO_5.out BK373.out (by decide))) | (dsimp only; exact Kd.own_blk (Kd.R_ne HO_5.out BK373.out (by decide)))) : p := h
theorem au3_3 {p : Prop} (h : p := by repeat (first | exact (Kd.R_reads' HO376.out).2.2 | (with_reducible refine Kd.C_alloc ?_ _) | (with_reducible refine Kd.C_drewN ?_ _) | (with_reducible refine Kd.C_drew ?_))) : p := h
theorem au3_4 {p : Prop} (h : p := by repeat (first | (with_reducible first | exact HBW.out | apply below_alloc | apply pw_below_drewN | apply below_drew1 | refine below_set ?_ GW407.out) | exact HBW.out)) : p := h
theorem au3_5 {p : Prop} (h : p := by (with_reducible repeat (first | apply Kd.S_alloc | apply Kd.S_drewN | apply Kd.S_drew)); exact Kd.S_mono (Kd.S_far (p := ⟨gb399, 0, none⟩) (Kd.S_mono HO_388001.out (fun k_ hk => (⟨hk, hk.2⟩ : _ ∧ k_ ≠ gb399))) (fun _ hk => hk.2) (.slice Ao79 t395.length co79)) (fun _ hk => ⟨hk.1.1.1.1, ⟨hk.1.1.1.2, ⟨hk.1.1.2, hk.1.2⟩⟩⟩)) : p := h
theorem au3_6 {p : Prop} (h : p := by (with_reducible repeat (first | apply Kd.R_alloc | apply Kd.R_drewN | apply Kd.R_drew)); exact Kd.R_mono (Kd.R_far (p := ⟨gb399, 0, none⟩) (Kd.R_types HO397.out BK399.out (by decide)) (fun _ hk => hk.2) (.slice Ao79 t395.length co79)) (fun _ hk => ⟨hk.1.1.2, hk.1.2⟩)) : p := h
theorem au3_7 {p : Prop} (h : p := by (with_reducible repeat (first | apply Kd.R_alloc | apply Kd.R_drewN | apply Kd.R_drew)); exact Kd.R_mono (Kd.R_far (p := ⟨gb399, 0, none⟩) (Kd.R_types HO_5.out BK399.out (by decide)) (fun _ hk => hk.2) (.slice Ao79 t395.length co79)) (fun _ hk => ⟨hk.1.1, hk.1.2⟩)) : p := h
theorem au3_8 {p : Prop} (h : p := by (with_reducible repeat (first | apply Kd.R_alloc | apply Kd.R_drewN | apply Kd.R_drew)); exact Kd.R_mono (Kd.R_far (p := ⟨gb399, 0, none⟩) (Kd.R_types HO_6.out BK399.out (by decide)) (fun _ hk => hk.2) (.slice Ao79 t395.length co79)) (fun _ hk => ⟨hk.1.1, hk.1.2⟩)) : p := h
theorem au3_9 {p : Prop} (h : p := by (with_reducible repeat (first | apply Kd.S_alloc | apply Kd.S_drewN | apply Kd.S_drew)); exact HO_388001.out) : p := h
theorem au3_10 {p : Prop} (h : p := by exact k102_mkM _ _ _ (⟨t395⟩ : S102) (Kd.R_mono (Kd.R_tight rfl (Kd.R_mono (ok' := fun k_ => ((fun k_ => some k_ ≠ (.slice (some ad382) t379.length co54 : Value).ownBlock ∧ some k_ ≠ (.slice (some ad386) t383.length co57 : Value).ownBlock ∧ k_ ≠ gb399)) k_ ∧ some k_ ≠ (u388001 : Value).ownBlock) (Kd.R_types (Kd.R_apart' (HO_400000.out) (Kd.S_typed HO_388001.out) (by decide)) BK399.out (by decide)) (fun k_ hk => ⟨⟨hk.1.1.1, ⟨hk.1.1.2, hk.2⟩⟩, hk.1.2⟩))) (fun _ h_ => h_))) : p := h
theorem au3_11 {p : Prop} (h : p := by exact (Reps.one (show Kd.M Kd.string _ _ _ a1 [.string a1] from rfl) (Reps.none _ _))) : p := h
theorem au3_12 {p : Prop} (h : p := by rintro w' ⟨s0, s1, s2, s3, s4⟩; go_simp; with_reducible rfl) : p := h
theorem au3_13 {p : Prop} (h : p := by (with_reducible repeat (first | apply Kd.R_alloc | apply Kd.R_drewN | apply Kd.R_drew)); exact Kd.R_mono (Kd.R_far (p := ⟨gb363, 0, none⟩) (Kd.R_types HO362.out BK363.out (by decide)) (fun _ hk => hk.2) (.slice none 0 0)) (fun _ hk => (by simp [Value.ownBlock]))) : p := h
theorem au3_14 {p : Prop} (h : p := by exact (fun k_ hk => ⟨Kd.fresh' (Kd.R_lt (rk_ HO_5)) k_ hk, Kd.fresh' (Kd.R_lt (rk_ HO_6)) k_ hk, Kd.freshB (g := gb399) (o := .cells #[.slice Ao79 t395.length co79] 102 (0, 0)) (bk_ BK399) k_ hk⟩)) : p := h
theorem au3_15 {p : Prop} (h : p := by exact (by (with_reducible repeat (first | apply Kd.S_alloc | apply Kd.S_drewN | apply Kd.S_drew)); exact Kd.S_mono HO_388001.out (fun k_ hk => ⟨⟨hk.1, ⟨hk.2.1, hk.2.2.2⟩⟩, fun e_ => hk.2.2.1 e_⟩))) : p := h
theorem au3_16 {p : Prop} (h : p := by first | rfl | (simp [errW_none, errW_some] <;> rfl) | (simp only [← hji61]; first | rfl | (simp [errW_none, errW_some] <;> rfl)) | (simp [*, errW_none, errW_some] <;> rfl)) : p := h
theorem au3_17 {p : Prop} (h : p := by rw [← hq_]; exact (by (with_reducible repeat (first | apply Kd.R_alloc | apply Kd.R_drewN | apply Kd.R_drew)); exact Kd.R_mono HO_364000.out (fun _ hk => ⟨hk.2, hk.1⟩))) : p := h
theorem au3_18 {p : Prop} (h : p := by (try simp only [List.map_toArray, List.map_cons, List.map_nil]); first | done | (simp only [hji13]; rfl) | rfl | (simp only [List.length_drop, List.length_take]; rfl)) : p := h
theorem au3_19 {p : Prop} (h : p := by rintro w' ⟨s0, s1, s2, s3⟩; go_simp; with_reducible rfl) : p := h
theorem au3_20 {p : Prop} (h : p := by repeat (first | exact HR0.out | (with_reducible refine Kd.C_alloc ?_ _) | (with_reducible refine Kd.C_drewN ?_ _) | (with_reducible refine Kd.C_drew ?_))) : p := h
theorem au3_21 {p : Prop} (h : p := by have := HK1.out; first | omega | exact Nat.le_refl _) : p := h
theorem au3_22 {p : Prop} (h : p := by first | exact Kd.R_nil _ _ _ _ _ | exact Kd.N_nil _ _ _ _ _ | exact Kd.V_nil _ _ _ _ _ | exact Kd.Q_nil _ _ _ _ _ | exact Kd.S_nil _ _ _ _ _) : p := h
theorem au3_23 {p : Prop} (h : p := by repeat (first | (with_reducible first | exact HBW.out | apply below_alloc | apply pw_below_drewN | apply below_drew1) | exact HBW.out)) : p := h
theorem au3_24 {p : Prop} (h : p := by exact (Kd.R_reads' HO376.out).2.1) : p := h

/-! ### F40: function 40 -/
def F40.f (k : Nat) (a0_0 : Int) (a0_1 : Int) (a0_2 : Int) (a0_3 : Int) (a1 : ByteArray) : Option (ByteArray × (List (S102)) × Int × Int × Int) := if (a1.size : Int) > 20000 then (some ((⟨#[]⟩ : ByteArray), ([] : List (S102)), 0, 0, 2)) else ((F23.f k a0_0 a0_1 a0_2 a0_3).bind fun t324 => (if t324 = true then ((F87.f k a0_0 a0_1 a0_2 a0_3 a1).bind fun bt325 => (some (bt325.1, bt325.2.1, bt325.2.2.1, bt325.2.2.2.1, bt325.2.2.2.2))) else (some ((⟨#[]⟩ : ByteArray), ([] : List (S102)), 0, 0, 1))))
theorem F40.mono : ∀ a0 a1 a2 a3 a4 k, LeO (F40.f k a0 a1 a2 a3 a4) (F40.f (k + 1) a0 a1 a2 a3 a4) := by
 intro a0 a1 a2 a3 a4 k
 unfold F40.f
 repeat' with_reducible first | exact F23.mono _ _ _ _ _ | exact F87.mono _ _ _ _ _ _ | exact LeO.refl _ | exact LeO.none _ | refine LeO.ite ?_ ?_ | refine LeO.bind ?_ (fun _ => ?_)
theorem F40.calls (k : Nat) (a0_0 : Int) (a0_1 : Int) (a0_2 : Int) (a0_3 : Int) (a1 : ByteArray) (r1 : ByteArray) (r2 : List (S102)) (r3 : Int) (r4 : Int) (r5 : Int) (w : World) (h : F40.f k a0_0 a0_1 a0_2 a0_3 a1 = some (r1, r2, r3, r4, r5)) :
  Calls Try.prog 40 #[.agg #[.int .i64 a0_0, .int .i64 a0_1, .int .i64 a0_2, .int .i64 a0_3], .string a1] w fun e w' => ∃ v1_ : Value, e = .returned (.agg #[.string r1, v1_, .int .i64 r3, .int .i64 r4, .int .i64 r5]) ∧ Kd.S k102 102 w' w.heap.size (fun _ => True) v1_ r2 ∧ Below w.heap.size w w' := by
 have hu23 := Try.underlying23
 have hu66 := Try.underlying66
 have HB := am_ (Below.refl w.heap.size w)
 have H : (if (a1.size : Int) > 20000 then (some ((⟨#[]⟩ : ByteArray), ([] : List (S102)), 0, 0, 2)) else ((F23.f k a0_0 a0_1 a0_2 a0_3).bind fun t324 => (if t324 = true then ((F87.f k a0_0 a0_1 a0_2 a0_3 a1).bind fun bt325 => (some (bt325.1, bt325.2.1, bt325.2.2.1, bt325.2.2.2.1, bt325.2.2.2.2))) else (some ((⟨#[]⟩ : ByteArray), ([] : List (S102)), 0, 0, 1))))) = some (r1, r2, r3, r4, r5) := h
 clear h
 replace H := it_ H; rcases H with ⟨(c3b0 : decide (20000 < (a1.size : Int)) = true), H⟩ | ⟨(c3b0 : decide (20000 < (a1.size : Int)) = false), H⟩
 ·have c3b1 : decide (20000 < a1.size) = true := n2_ c3b0
  simp only [Option.some.injEq, Prod.mk.injEq] at H
  obtain ⟨rfl, rfl, rfl, rfl, rfl⟩ := H
  go_enter Try.func40, Try.ntmps40
  go_wp2_with (first | ((with_reducible refine gate_dst (N := 2) rfl ?_); refine be_ 2 #[.int .i64 a0_0, .int .i64 a0_1, .int .i64 a0_2, .int .i64 a0_3] 23 ?_; intro gb322 hg w4 hbox hb; have BK322 := am_ (hbox); have GW322 := am_ (gw_ hg bl_); have GE322 := GW322; replace HB := hs_ w hb; clear hb hbox hg) | ((with_reducible refine gate_dst (N := 4) rfl ?_); refine be_ 4 #[.string (⟨#[]⟩ : ByteArray), .slice none 0 0, .int .i64 0, .int .i64 0, .int .i64 0] 66 ?_; intro gb323 hg w5 hbox hb; have BK323 := am_ (hbox); have GW323 := am_ (gw_ hg bl_); have GE323 := GW323; replace HB := hs_ w hb; have NB322_323 := am_ (gn_ hg (blkl_ BK322)); have NB323_322 := am_ (gm_ hg (blkl_ BK322)); replace BK322 := bb_ BK322 hb; clear hb hbox hg; have hnb6 := NB323_322.out; have hnc6 := NB322_323.out; obtain ⟨hcz7_0, hcz7_1, hcz7_2, hcz7_3, hcz7_4, hfz7_0, hfz7_1, hfz7_2, hfz7_3, hfz7_4⟩ := cellsF5 BK323.out))
  refine bodyPost_ret (results_cell_row rfl _ _ gb323 66 #[.string (⟨#[]⟩ : ByteArray), .slice none 0 0, .int .i64 0, .int .i64 0, .int .i64 2] (0, 0) _ rfl (bq_ BK323) Try.underlying66 rfl (by kernel_rfl)) rfl ?_
  exact ⟨_, au3_0, au3_1, bl_⟩
 have c3b1 : decide (20000 < a1.size) = false := n2_ c3b0
 replace H := bi_ H; rcases H with ⟨t324, A8, H⟩
 replace H := ib_ H; rcases H with ⟨rfl, H⟩ | ⟨rfl, H⟩
 rotate_left
 ·simp only [Option.some.injEq, Prod.mk.injEq] at H
  obtain ⟨rfl, rfl, rfl, rfl, rfl⟩ := H
  go_enter Try.func40, Try.ntmps40
  go_wp2_with (first | ((with_reducible refine gate_dst (N := 2) rfl ?_); refine be_ 2 #[.int .i64 a0_0, .int .i64 a0_1, .int .i64 a0_2, .int .i64 a0_3] 23 ?_; intro gb322 hg w20 hbox hb; have BK322 := am_ (hbox); have GW322 := am_ (gw_ hg bl_); have GE322 := GW322; replace HB := hs_ w hb; clear hb hbox hg) | ((with_reducible refine gate_dst (N := 4) rfl ?_); refine be_ 4 #[.string (⟨#[]⟩ : ByteArray), .slice none 0 0, .int .i64 0, .int .i64 0, .int .i64 0] 66 ?_; intro gb323 hg w21 hbox hb; have BK323 := am_ (hbox); have GW323 := am_ (gw_ hg bl_); have GE323 := GW323; replace HB := hs_ w hb; have NB322_323 := am_ (gn_ hg (blkl_ BK322)); have NB323_322 := am_ (gm_ hg (blkl_ BK322)); replace BK322 := bb_ BK322 hb; clear hb hbox hg; have hnb22 := NB322_323.out; have hnc22 := NB323_322.out; obtain ⟨hcz23_0, hcz23_1, hcz23_2, hcz23_3, hfz23_0, hfz23_1, hfz23_2, hfz23_3⟩ := cellsF4 BK322.out) | ((with_reducible refine gate_callee (f := 23) rfl ?_); refine gl_ 10 Try.func23 #[.agg #[.int .i64 a0_0, .int .i64 a0_1, .int .i64 a0_2, .int .i64 a0_3]] ?_ rfl rfl rfl rfl; (with_reducible refine (F23.calls k a0_0 a0_1 a0_2 a0_3 false _ A8.out).mono ?_); rintro e w24 ⟨rfl, hb⟩; refine ⟨_, rfl, ?_⟩; replace BK322 := bb_ BK322 hb; replace BK323 := bb_ BK323 hb; replace HB := hs_ w hb; (try clear hb); obtain ⟨hcz25_0, hcz25_1, hcz25_2, hcz25_3, hcz25_4, hfz25_0, hfz25_1, hfz25_2, hfz25_3, hfz25_4⟩ := cellsF5 BK323.out))
  refine bodyPost_ret (results_cell_row rfl _ _ gb323 66 #[.string (⟨#[]⟩ : ByteArray), .slice none 0 0, .int .i64 0, .int .i64 0, .int .i64 1] (0, 0) _ rfl (bq_ BK323) Try.underlying66 rfl (by kernel_rfl)) rfl ?_
  exact ⟨_, au3_0, au3_1, bl_⟩

 replace H := bi_ H; rcases H with ⟨⟨t325, t326, t329, t330, t331⟩, A10, H⟩
 simp only [Option.some.injEq, Prod.mk.injEq] at H
 obtain ⟨rfl, rfl, rfl, rfl, rfl⟩ := H
 go_enter Try.func40, Try.ntmps40
 go_wp2_with (first | ((with_reducible refine gate_dst (N := 2) rfl ?_); refine be_ 2 #[.int .i64 a0_0, .int .i64 a0_1, .int .i64 a0_2, .int .i64 a0_3] 23 ?_; intro gb322 hg w11 hbox hb; have BK322 := am_ (hbox); have GW322 := am_ (gw_ hg bl_); have GE322 := GW322; replace HB := hs_ w hb; clear hb hbox hg) | ((with_reducible refine gate_dst (N := 4) rfl ?_); refine be_ 4 #[.string (⟨#[]⟩ : ByteArray), .slice none 0 0, .int .i64 0, .int .i64 0, .int .i64 0] 66 ?_; intro gb323 hg w12 hbox hb; have BK323 := am_ (hbox); have GW323 := am_ (gw_ hg bl_); have GE323 := GW323; replace HB := hs_ w hb; have NB322_323 := am_ (gn_ hg (blkl_ BK322)); have NB323_322 := am_ (gm_ hg (blkl_ BK322)); replace BK322 := bb_ BK322 hb; clear hb hbox hg; have hnb13 := NB322_323.out; have hnc13 := NB323_322.out; obtain ⟨hcz14_0, hcz14_1, hcz14_2, hcz14_3, hfz14_0, hfz14_1, hfz14_2, hfz14_3⟩ := cellsF4 BK322.out) | ((with_reducible refine gate_callee (f := 23) rfl ?_); refine gl_ 10 Try.func23 #[.agg #[.int .i64 a0_0, .int .i64 a0_1, .int .i64 a0_2, .int .i64 a0_3]] ?_ rfl rfl rfl rfl; (with_reducible refine (F23.calls k a0_0 a0_1 a0_2 a0_3 true _ A8.out).mono ?_); rintro e w15 ⟨rfl, hb⟩; refine ⟨_, rfl, ?_⟩; replace BK322 := bb_ BK322 hb; replace BK323 := bb_ BK323 hb; replace HB := hs_ w hb; (try clear hb); obtain ⟨hcz16_0, hcz16_1, hcz16_2, hcz16_3, hfz16_0, hfz16_1, hfz16_2, hfz16_3⟩ := cellsF4 BK322.out) | ((with_reducible refine gate_callee (f := 87) rfl ?_); refine gl_ 15 Try.func87 #[.agg #[.int .i64 a0_0, .int .i64 a0_1, .int .i64 a0_2, .int .i64 a0_3], .string a1] ?_ rfl rfl rfl rfl; (with_reducible refine (F87.calls k a0_0 a0_1 a0_2 a0_3 a1 t325 t326 t329 t330 t331 _ A10.out).mono ?_); rintro e w17 ⟨v327, rfl, ho0, hb⟩; refine ⟨_, rfl, ?_⟩; have HO328 := am_ (Kd.S_lower ho0 (below_size bl_)); replace BK322 := bb_ BK322 hb; replace BK323 := bb_ BK323 hb; replace HB := hs_ w hb; (try clear hb); (try clear ho0); obtain ⟨hcz18_0, hcz18_1, hcz18_2, hcz18_3, hcz18_4, hfz18_0, hfz18_1, hfz18_2, hfz18_3, hfz18_4⟩ := cellsF5 BK323.out; obtain ⟨Ao19, co19, eo19⟩ := Kd.S_slice HO328.out; subst eo19))
 refine bodyPost_ret (results_cell_row rfl _ _ gb323 66 #[.string t325, .slice Ao19 t326.length co19, .int .i64 t329, .int .i64 t330, .int .i64 t331] (0, 0) _ rfl (bq_ BK323) Try.underlying66 rfl (by kernel_rfl)) rfl ?_
 exact ⟨_, au3_0, by (with_reducible repeat (first | apply Kd.S_alloc | apply Kd.S_drewN | apply Kd.S_drew)); exact Kd.S_mono (Kd.S_far (p := ⟨gb323, 4, none⟩) (Kd.S_far (p := ⟨gb323, 3, none⟩) (Kd.S_far (p := ⟨gb323, 2, none⟩) (Kd.S_far (p := ⟨gb323, 1, none⟩) (Kd.S_far (p := ⟨gb323, 0, none⟩) (Kd.S_types HO328.out BK323.out (by decide)) (fun _ hk => hk.2) (.string t325)) (fun _ hk => hk.2) (.slice Ao19 t326.length co19)) (fun _ hk => hk.2) (.int .i64 t329)) (fun _ hk => hk.2) (.int .i64 t330)) (fun _ hk => hk.2) (.int .i64 t331)) (fun _ hk => trivial), bl_⟩
/-! ### F100: function 100 -/
def F100.f (a0 : ByteArray) : Option (Bool) := some (decide ((a0.size : Int) > 20000))
theorem F100.calls (a0 : ByteArray) (r : Bool) (w : World) (h : F100.f a0 = some r) :
  Calls Try.prog 100 #[.string a0] w fun e w' => e = .returned (.bool r) ∧ Drawn0 w w' := by
 have H : (some (decide ((a0.size : Int) > 20000))) = some r := h
 clear h
 obtain rfl := Option.some.inj H
 go_enter Try.func100, Try.ntmps100
 go_wp2
 go_ret
 exact ⟨er_, dn_⟩

/-! ### F111a: function 111 -/
def F111a.l0 : Nat → List ByteArray → Int → Int → Option (Int)
  | 0, _, _, _ => none
  | k + 1, x0, x7, x8 => if x8 < x7 then (if 0 ≤ x8 then (if x8 < (x0.length : Int) then ((F100.f (rdOf ByteArray.empty x0 x8)).bind fun t333 => (if t333 = true then (some x8) else (F111a.l0 k x0 x7 (wrap64 (x8 + 1))))) else (none)) else (none)) else (some (-1))
def F111a.f (k : Nat) (l0 : List ByteArray)  : Option (Int) := F111a.l0 k l0 (l0.length : Int) 0
theorem F111a.mono_l : ∀ k, (∀ y0 y1 y2, LeO (F111a.l0 k y0 y1 y2) (F111a.l0 (k + 1) y0 y1 y2))
 | 0 => fun _ _ _ r h => by simp [F111a.l0] at h
 | k + 1 => by
  have ih0 := F111a.mono_l k
  intro y0 y1 y2
  unfold F111a.l0
  repeat' with_reducible first | exact ih0 _ _ _ | exact LeO.refl _ | exact LeO.none _ | refine LeO.ite ?_ ?_ | refine LeO.bind ?_ (fun _ => ?_)
theorem F111a.mono : ∀ a0 k, LeO (F111a.f k a0) (F111a.f (k + 1) a0) := by
 intro a0 k
 have ih0 := F111a.mono_l k
 unfold F111a.f
 repeat' with_reducible first | exact ih0 _ _ _ | exact LeO.refl _ | exact LeO.none _ | refine LeO.ite ?_ ?_ | refine LeO.bind ?_ (fun _ => ?_)
theorem F111a.calls (k : Nat) (A0 : Option Addr) (c0 : Nat) (l0 : List ByteArray)  (r : Int) (w : World) (hr0 : Kd.C Kd.string w A0 l0.length l0) (hc0 : l0.length ≤ c0) (h : F111a.f k l0 = some r) :
  Calls Try.prog 111 #[.slice A0 l0.length c0, .func (.func 100) #[] #[]] w fun e w' => e = .returned (.int .i64 r) ∧ Drawn0 w w' := by
 have HR0 := am_ hr0
 have HC0 := am_ hc0
 clear hr0 hc0
 have H : (F111a.l0 k l0 (l0.length : Int) 0) = some r := h
 clear h
 have H' := am_ H
 clear H
 go_enter Try.func111, Try.ntmps111
 go_wp2
 go_loopg [8] k (fun kq v8 w' => ∃ (x8_1 : Int), v8 = .int .i64 x8_1 ∧ Aside0 (F111a.l0 kq l0 (l0.length : Int) x8_1 = some r) ∧ Aside0 (kq ≤ k) ∧ Drawn0 w w')
 case atStart => exact ⟨(0), er_, H', ⟨Nat.le_refl _⟩, dn_⟩
 case round =>
  clear H'
  obtain ⟨x8_1, rfl, HA, HK1, ⟨m1, rfl⟩⟩ := hrel
  cases gk with
  | zero => exact absurd HA.out (by simp [F111a.l0])
  | succ k1 =>
   have H := HA.out
   clear HA
   simp only [F111a.l0] at H
   replace H := it_ H; rcases H with ⟨c3b0, H⟩ | ⟨c3b0, H⟩
   rotate_left
   ·obtain rfl := Option.some.inj H
    go_wp2
    go_ret
    exact ⟨er_, dn_⟩

   replace H := itn_ H; rcases H with ⟨c4b0, H⟩
   replace H := itn_ H; rcases H with ⟨c5b0, H⟩
   replace H := bi_ H; rcases H with ⟨t333, A6, H⟩
   replace H := ib_ H; rcases H with ⟨rfl, H⟩ | ⟨rfl, H⟩
   ·obtain rfl := Option.some.inj H
    have p332 : 0 ≤ (x8_1 : Int) := od_
    have q332 : x8_1 < (l0.length : Int) := od_
    obtain ⟨ad332, e332, hx332_0⟩ := Kd.at_string HR0.out x8_1 p332 q332
    cases e332
    replace p332 := eq_true p332
    replace q332 := eq_true q332
    go_wp2_with (first | (go_at_call 100; (with_reducible refine (F100.calls (rdOf ByteArray.empty l0 x8_1) true _ A6.out).mono ?_); rintro e w' ⟨rfl, ⟨nd, rfl⟩⟩))
    go_ret
    exact ⟨er_, dn_⟩
   have H' := am_ H
   clear H
   have p332 : 0 ≤ (x8_1 : Int) := od_
   have q332 : x8_1 < (l0.length : Int) := od_
   obtain ⟨ad332, e332, hx332_0⟩ := Kd.at_string HR0.out x8_1 p332 q332
   cases e332
   replace p332 := eq_true p332
   replace q332 := eq_true q332
   go_wp2_with (first | (go_at_call 100; (with_reducible refine (F100.calls (rdOf ByteArray.empty l0 x8_1) false _ A6.out).mono ?_); rintro e w' ⟨rfl, ⟨nd, rfl⟩⟩))
   go_roundg k1
   case measure => have := HK1.out; omega
   case rel => exact ⟨(wrap64 (x8_1 + 1)), er_, H', ⟨by have := HK1.out; omega⟩, dn_⟩
/-! ### F80a: function 80 -/
def F80a.f (k : Nat) (l0 : List ByteArray)  : Option (Bool) := (F111a.f k l0).bind fun t334 => (some (decide (t334 ≥ 0)))
theorem F80a.mono : ∀ a0 k, LeO (F80a.f k a0) (F80a.f (k + 1) a0) := by
 intro a0 k
 unfold F80a.f
 repeat' with_reducible first | exact F111a.mono _ _ | exact LeO.refl _ | exact LeO.none _ | refine LeO.ite ?_ ?_ | refine LeO.bind ?_ (fun _ => ?_)
theorem F80a.calls (k : Nat) (A0 : Option Addr) (c0 : Nat) (l0 : List ByteArray)  (r : Bool) (w : World) (hr0 : Kd.C Kd.string w A0 l0.length l0) (hc0 : l0.length ≤ c0) (h : F80a.f k l0 = some r) :
  Calls Try.prog 80 #[.slice A0 l0.length c0, .func (.func 100) #[] #[]] w fun e w' => e = .returned (.bool r) ∧ Drawn0 w w' := by
 have HR0 := am_ hr0
 have HC0 := am_ hc0
 clear hr0 hc0
 have H : ((F111a.f k l0).bind fun t334 => (some (decide (t334 ≥ 0)))) = some r := h
 clear h
 replace H := bi_ H; rcases H with ⟨t334, A3, H⟩
 obtain rfl := Option.some.inj H
 go_enter Try.func80, Try.ntmps80
 go_wp2_with (first | ((with_reducible refine gate_callee (f := 111) rfl ?_); refine gl_ 7 Try.func111 #[.slice A0 l0.length c0, .func (.func 100) #[] #[]] ?_ rfl rfl rfl rfl; (with_reducible refine (F111a.calls k _ _ l0  t334 _ ?s1 ?s2 A3.out).mono ?_); (case s1 => exact au3_20); (case s2 => exact HC0.out); rintro e w' ⟨rfl, ⟨nd, rfl⟩⟩; refine ⟨_, rfl, ?_⟩))
 go_ret
 exact ⟨er_, dn_⟩

/-! ### F58: function 58 -/
def F58.f (k : Nat) (l0 : List ByteArray) : Option (Bool) := (F80a.f k l0).bind fun t335 => (some t335)
theorem F58.mono : ∀ a0 k, LeO (F58.f k a0) (F58.f (k + 1) a0) := by
 intro a0 k
 unfold F58.f
 repeat' with_reducible first | exact F80a.mono _ _ | exact LeO.refl _ | exact LeO.none _ | refine LeO.ite ?_ ?_ | refine LeO.bind ?_ (fun _ => ?_)
theorem F58.calls (k : Nat) (A0 : Option Addr) (c0 : Nat) (l0 : List ByteArray) (r : Bool) (w : World) (hr0 : Kd.C Kd.string w A0 l0.length l0) (hc0 : l0.length ≤ c0) (h : F58.f k l0 = some r) :
  Calls Try.prog 58 #[.slice A0 l0.length c0] w fun e w' => e = .returned (.bool r) ∧ Drawn0 w w' := by
 have HR0 := am_ hr0
 have HC0 := am_ hc0
 clear hr0 hc0
 have H : ((F80a.f k l0).bind fun t335 => (some t335)) = some r := h
 clear h
 replace H := bi_ H; rcases H with ⟨t335, A2, H⟩
 obtain rfl := Option.some.inj H
 go_enter Try.func58, Try.ntmps58
 go_wp2_with (first | ((with_reducible refine gate_callee (f := 80) rfl ?_); refine gl_ 4 Try.func80 #[.slice A0 l0.length c0, .func (.func 100) #[] #[]] ?_ rfl rfl rfl rfl; (with_reducible refine (F80a.calls k _ _ l0  t335 _ ?s1 ?s2 A2.out).mono ?_); (case s1 => exact au3_20); (case s2 => exact HC0.out); rintro e w' ⟨rfl, ⟨nd, rfl⟩⟩; refine ⟨_, rfl, ?_⟩))
 go_ret
 exact ⟨er_, dn_⟩

/-! ### F69: function 69 -/
def F69.l0 : Nat → ByteArray → Int → List ByteArray → Int → Int → Int → Int → Int → Int → Option (List ByteArray)
  | 0, _, _, _, _, _, _, _, _, _ => none
  | k + 1, x1, x2, x7, x8, x9, x337000, x337001, x337002, x337003 => if x9 < (x1.size : Int) then (if 0 ≤ x9 then (if (wrap64 (bt x1 x9)) = x337003 then (F69.l0 k x1 x2 x7 x8 (wrap64 ((wrap64 (x9 + 1)) + 1)) x337000 x337001 x337002 x337003) else (if (wrap64 (bt x1 x9)) = x2 then (if 0 ≤ x8 then (if x8 ≤ x9 then (if x9 ≤ (x1.size : Int) then (if x7.length < 8796093022208 then (F69.l0 k x1 x2 (x7 ++ [x1.extract (x8 : Int).toNat (x9 : Int).toNat]) (wrap64 (x9 + 1)) (wrap64 (x9 + 1)) x337000 x337001 x337002 x337003) else (none)) else (none)) else (none)) else (none)) else (F69.l0 k x1 x2 x7 x8 (wrap64 (x9 + 1)) x337000 x337001 x337002 x337003))) else (none)) else (if 0 ≤ x8 then (if x8 ≤ (x1.size : Int) then (if x7.length < 8796093022208 then (some (x7 ++ [x1.extract (x8 : Int).toNat x1.size])) else (none)) else (none)) else (none))
def F69.f (k : Nat) (a0_0 : Int) (a0_1 : Int) (a0_2 : Int) (a0_3 : Int) (a1 : ByteArray) (a2 : Int) : Option (List ByteArray) := F69.l0 k a1 a2 (([] : List ByteArray)) 0 0 a0_0 a0_1 a0_2 a0_3
theorem F69.mono_l : ∀ k, (∀ y0 y1 y2 y3 y4 y5 y6 y7 y8, LeO (F69.l0 k y0 y1 y2 y3 y4 y5 y6 y7 y8) (F69.l0 (k + 1) y0 y1 y2 y3 y4 y5 y6 y7 y8))
 | 0 => fun _ _ _ _ _ _ _ _ _ r h => by simp [F69.l0] at h
 | k + 1 => by
  have ih0 := F69.mono_l k
  intro y0 y1 y2 y3 y4 y5 y6 y7 y8
  unfold F69.l0
  repeat' with_reducible first | exact ih0 _ _ _ _ _ _ _ _ _ | exact LeO.refl _ | exact LeO.none _ | refine LeO.ite ?_ ?_ | refine LeO.bind ?_ (fun _ => ?_)
theorem F69.mono : ∀ a0 a1 a2 a3 a4 a5 k, LeO (F69.f k a0 a1 a2 a3 a4 a5) (F69.f (k + 1) a0 a1 a2 a3 a4 a5) := by
 intro a0 a1 a2 a3 a4 a5 k
 have ih0 := F69.mono_l k
 unfold F69.f
 repeat' with_reducible first | exact ih0 _ _ _ _ _ _ _ _ _ | exact LeO.refl _ | exact LeO.none _ | refine LeO.ite ?_ ?_ | refine LeO.bind ?_ (fun _ => ?_)
theorem F69.calls (k : Nat) (a0_0 : Int) (a0_1 : Int) (a0_2 : Int) (a0_3 : Int) (a1 : ByteArray) (a2 : Int) (r : List ByteArray) (w : World) (h : F69.f k a0_0 a0_1 a0_2 a0_3 a1 a2 = some r) :
  Calls Try.prog 69 #[.agg #[.int .i64 a0_0, .int .i64 a0_1, .int .i64 a0_2, .int .i64 a0_3], .string a1, .int .i64 a2] w fun e w' => ∃ v0_ : Value, e = .returned (v0_) ∧ Kd.R Kd.string 9 w' w.heap.size (fun _ => True) v0_ r ∧ Below w.heap.size w w' := by
 have hu23 := Try.underlying23
 have HB := am_ (Below.refl w.heap.size w)
 have H : (F69.l0 k a1 a2 (([] : List ByteArray)) 0 0 a0_0 a0_1 a0_2 a0_3) = some r := h
 clear h
 obtain ⟨y337, hy337⟩ : ∃ y_ : List ByteArray, y_ = (([] : List ByteArray)) := ⟨_, rfl⟩
 replace H : (F69.l0 k a1 a2 y337 0 0 a0_0 a0_1 a0_2 a0_3) = some r := by first | (rw [hy337]; exact H) | exact H
 have Ny337 := am_ hy337
 clear hy337
 have H' := am_ H
 clear H
 go_enter Try.func69, Try.ntmps69
 go_wp2_with (first | ((with_reducible refine gate_dst (N := 3) rfl ?_); refine be_ 3 #[.int .i64 a0_0, .int .i64 a0_1, .int .i64 a0_2, .int .i64 a0_3] 23 ?_; intro gb336 hg w4 hbox hb; have BK336 := am_ (hbox); have GW336 := am_ (gw_ hg bl_); have GE336 := GW336; replace HB := hs_ w hb; clear hb hbox hg) | ((with_reducible refine gate_dst (N := 10) rfl ?_); refine Kd.R_lit Kd.string _ 9 ?hg (N := 10) ?hd (xs := ([] : List ByteArray)) (inner := []) (ok := fun _ => True) (okp := fun _ => True) ?hr ?hp (fun _ hk => hk) trivial (Below.refl _ _) (Nat.le_refl _) (by simp) ?_; (case hd => rfl); (case hg => rfl); (case hr => exact hr_); (case hp => exact (Reps.none _ _)); intro v338 w5 ho6 hb hg_ hnew_; clear hg_ hnew_; (first | rw [← Ny337.out] at ho6 | (simp only [Int.reduceToNat] at ho6; rw [← Ny337.out] at ho6)); have HO339 := am_ (Kd.R_lower ho6 (below_size bl_)); replace BK336 := bb_ BK336 hb; replace HB := hs_ w hb; clear hb ho6))
 go_loopg [7, 8, 9] k (fun kq v7 v8 v9 w' => ∃ (x7_1 : List ByteArray) (x8_1 : Int) (x9_1 : Int), v8 = .int .i64 x8_1 ∧ v9 = .int .i64 x9_1 ∧ Aside0 (F69.l0 kq a1 a2 x7_1 x8_1 x9_1 a0_0 a0_1 a0_2 a0_3 = some r) ∧ Aside0 (kq ≤ k) ∧ Aside0 (Kd.R Kd.string 9 w' w.heap.size (fun _ => True) v7 x7_1) ∧ Aside0 (w'.heap[gb336]? = some (.cells #[.int .i64 a0_0, .int .i64 a0_1, .int .i64 a0_2, .int .i64 a0_3] 23 (0, 0))) ∧ Aside0 (Below w.heap.size w w'))
 case atStart => exact ⟨(y337), (0), (0), er_, er_, H', ⟨Nat.le_refl _⟩, ⟨rk_ HO339⟩, ⟨bk_ BK336⟩, ⟨bl_⟩⟩
 case round =>
  clear H'
  obtain ⟨x7_1, x8_1, x9_1, rfl, rfl, HA, HK1, HO_7, BK336, HB⟩ := hrel
  cases gk with
  | zero => exact absurd HA.out (by simp [F69.l0])
  | succ k1 =>
   have H := HA.out
   clear HA
   simp only [F69.l0] at H
   replace H := it_ H; rcases H with ⟨c7b0, H⟩ | ⟨c7b0, H⟩
   rotate_left
   ·by_cases c20 : 0 ≤ x8_1
    rotate_left
    ·rw [if_neg c20] at H
     exact absurd H (by simp)

    rw [if_pos c20] at H
    have c20b0 := eq_true c20
    have c20b1 : decide (0 ≤ x8_1) = true := decide_eq_true c20
    clear c20
    by_cases c21 : x8_1 ≤ (a1.size : Int)
    rotate_left
    ·rw [if_neg c21] at H
     exact absurd H (by simp)
    rw [if_pos c21] at H
    have c21b0 := eq_true c21
    have c21b1 : decide (x8_1 ≤ (a1.size : Int)) = true := decide_eq_true c21
    clear c21
    replace H := iln_ H; rcases H with ⟨LMc22, H⟩
    obtain ⟨y340, hy340⟩ : ∃ y_ : List ByteArray, y_ = (x7_1 ++ [a1.extract (x8_1 : Int).toNat a1.size]) := ⟨_, rfl⟩
    replace H : (some y340) = some r := by first | (rw [hy340]; exact H) | exact H
    have Ny340 := am_ hy340
    clear hy340
    obtain rfl := Option.some.inj H
    go_wp2_with (first | ((with_reducible refine gate_builtin (b := .append) (xs := #[.tmp 39, .tmp 43]) rfl ?_); at_builtin; refine Kd.R_append Kd.string (w0 := w) w.heap.size rfl (.tmp 39) (.tmp 43) 41 9 (.string ⟨#[]⟩) 16 rfl Try.underlying41 info9 rfl (by decide) (by omega) u7 x7_1 (a1.extract (x8_1 : Int).toNat a1.size) [.string (a1.extract (x8_1 : Int).toNat a1.size)] (fun _ => True) (fun _ => False) rfl rfl ?aP (fun _ hk => hk.elim) ?aF ?aO ?aB ?aS ?aL ?_; (case aP => exact rfl); (case aB => exact bl_); (case aF => exact (fun _ _ => trivial)); (case aO => exact (rk_ HO_7)); (case aS => exact (below_size bl_)); (case aL => have := LMc22.out; omega); intro v341 w23 ho hb hg hat; rw [← Ny340.out] at ho; have n0_ := am_ (bg_ BK336 hg (Kd.R_ne HO_7.out BK336.out (by decide))); have n1_ := am_ (hb); have n2_ := am_ (ho); clear BK336; clear HB; clear HO_7; have BK336 := n0_; have HB := n1_; have HO342 := n2_; clear n0_ n1_ n2_; clear ho hb hg hat))
    go_ret
    exact ⟨_, au3_0, rk_ HO342, bl_⟩
   replace H := itn_ H; rcases H with ⟨c8b0, H⟩
   by_cases c10 : (wrap64 (bt a1 x9_1)) = a0_3
   ·rw [if_pos c10] at H
    have c10b0 : ((wrap64 (bt a1 x9_1)) == a0_3) = true := beq_iff_eq.mpr c10
    have c10b1 : ((wrap64 (bt a1 x9_1)) != a0_3) = false := bne_eq_false_iff_eq.mpr c10
    clear c10
    have H' := am_ H
    clear H
    have p9 : 0 ≤ (x9_1 : Int) := od_
    have q9 : x9_1 < (a1.size : Int) := od_
    have hx9 := bt_at a1 x9_1
    replace p9 := eq_true p9
    replace q9 := eq_true q9
    obtain ⟨hcz11_0, hcz11_1, hcz11_2, hcz11_3, hfz11_0, hfz11_1, hfz11_2, hfz11_3⟩ := cellsF4 BK336.out
    go_wp2
    go_roundg k1
    case measure => have := HK1.out; omega
    case rel => exact ⟨(x7_1), (x8_1), (wrap64 ((wrap64 (x9_1 + 1)) + 1)), er_, er_, H', ⟨by have := HK1.out; omega⟩, ⟨rk_ HO_7⟩, ⟨bk_ BK336⟩, ⟨bl_⟩⟩
   rw [if_neg c10] at H
   have c10b0 : ((wrap64 (bt a1 x9_1)) == a0_3) = false := beq_eq_false_iff_ne.mpr c10
   have c10b1 : ((wrap64 (bt a1 x9_1)) != a0_3) = true := bne_iff_ne.mpr c10
   by_cases c12 : (wrap64 (bt a1 x9_1)) = a2
   rotate_left
   ·rw [if_neg c12] at H
    have c12b0 : ((wrap64 (bt a1 x9_1)) == a2) = false := beq_eq_false_iff_ne.mpr c12
    have c12b1 : ((wrap64 (bt a1 x9_1)) != a2) = true := bne_iff_ne.mpr c12
    have H' := am_ H
    clear H
    have p9 : 0 ≤ (x9_1 : Int) := od_
    have q9 : x9_1 < (a1.size : Int) := od_
    have hx9 := bt_at a1 x9_1
    replace p9 := eq_true p9
    replace q9 := eq_true q9
    obtain ⟨hcz19_0, hcz19_1, hcz19_2, hcz19_3, hfz19_0, hfz19_1, hfz19_2, hfz19_3⟩ := cellsF4 BK336.out
    go_wp2
    go_roundg k1
    case measure => have := HK1.out; omega
    case rel => exact ⟨(x7_1), (x8_1), (wrap64 (x9_1 + 1)), er_, er_, H', ⟨by have := HK1.out; omega⟩, ⟨rk_ HO_7⟩, ⟨bk_ BK336⟩, ⟨bl_⟩⟩
   rw [if_pos c12] at H
   have c12b0 : ((wrap64 (bt a1 x9_1)) == a2) = true := beq_iff_eq.mpr c12
   have c12b1 : ((wrap64 (bt a1 x9_1)) != a2) = false := bne_eq_false_iff_eq.mpr c12
   clear c12
   by_cases c13 : 0 ≤ x8_1
   rotate_left
   ·rw [if_neg c13] at H
    exact absurd H (by simp)
   rw [if_pos c13] at H
   have c13b0 := eq_true c13
   have c13b1 : decide (0 ≤ x8_1) = true := decide_eq_true c13
   clear c13
   by_cases c14 : x8_1 ≤ x9_1
   rotate_left
   ·rw [if_neg c14] at H
    exact absurd H (by simp)
   rw [if_pos c14] at H
   have c14b0 := eq_true c14
   have c14b1 : decide (x8_1 ≤ x9_1) = true := decide_eq_true c14
   clear c14
   by_cases c15 : x9_1 ≤ (a1.size : Int)
   rotate_left
   ·rw [if_neg c15] at H
    exact absurd H (by simp)
   rw [if_pos c15] at H
   have c15b0 := eq_true c15
   have c15b1 : decide (x9_1 ≤ (a1.size : Int)) = true := decide_eq_true c15
   clear c15
   replace H := iln_ H; rcases H with ⟨LMc16, H⟩
   obtain ⟨y343, hy343⟩ : ∃ y_ : List ByteArray, y_ = (x7_1 ++ [a1.extract (x8_1 : Int).toNat (x9_1 : Int).toNat]) := ⟨_, rfl⟩
   replace H : (F69.l0 k1 a1 a2 y343 (wrap64 (x9_1 + 1)) (wrap64 (x9_1 + 1)) a0_0 a0_1 a0_2 a0_3) = some r := by first | (rw [hy343]; exact H) | exact H
   have Ny343 := am_ hy343
   clear hy343
   have H' := am_ H
   clear H
   have p9 : 0 ≤ (x9_1 : Int) := od_
   have q9 : x9_1 < (a1.size : Int) := od_
   have hx9 := bt_at a1 x9_1
   replace p9 := eq_true p9
   replace q9 := eq_true q9
   obtain ⟨hcz17_0, hcz17_1, hcz17_2, hcz17_3, hfz17_0, hfz17_1, hfz17_2, hfz17_3⟩ := cellsF4 BK336.out
   go_wp2_with (first | ((with_reducible refine gate_builtin (b := .append) (xs := #[.tmp 30, .tmp 35]) rfl ?_); at_builtin; refine Kd.R_append Kd.string (w0 := w) w.heap.size rfl (.tmp 30) (.tmp 35) 41 9 (.string ⟨#[]⟩) 16 rfl Try.underlying41 info9 rfl (by decide) (by omega) u7 x7_1 (a1.extract (x8_1 : Int).toNat (x9_1 : Int).toNat) [.string (a1.extract (x8_1 : Int).toNat (x9_1 : Int).toNat)] (fun _ => True) (fun _ => False) rfl rfl ?aP (fun _ hk => hk.elim) ?aF ?aO ?aB ?aS ?aL ?_; (case aP => exact rfl); (case aB => exact bl_); (case aF => exact (fun _ _ => trivial)); (case aO => exact (rk_ HO_7)); (case aS => exact (below_size bl_)); (case aL => have := LMc16.out; omega); intro v344 w18 ho hb hg hat; rw [← Ny343.out] at ho; have n0_ := am_ (bg_ BK336 hg (Kd.R_ne HO_7.out BK336.out (by decide))); have n1_ := am_ (hb); have n2_ := am_ (ho); clear BK336; clear HB; clear HO_7; have BK336 := n0_; have HB := n1_; have HO345 := n2_; clear n0_ n1_ n2_; clear ho hb hg hat))
   go_roundg k1
   case measure => have := HK1.out; omega
   case rel => exact ⟨(y343), (wrap64 (x9_1 + 1)), (wrap64 (x9_1 + 1)), er_, er_, H', ⟨by have := HK1.out; omega⟩, ⟨rk_ HO345⟩, ⟨bk_ BK336⟩, ⟨bl_⟩⟩
/-! ### F63: function 63 -/
def F63.l0 : Nat → ByteArray → List Int → Int → Int → Int → Int → Int → Option (ByteArray × Int)
  | 0, _, _, _, _, _, _, _ => none
  | k + 1, x1, x6, x7, x347000, x347001, x347002, x347003 => if x7 < (x1.size : Int) then (if 0 ≤ x7 then (if (wrap64 (bt x1 x7)) = x347003 then (if (wrap64 (x7 + 1)) = (x1.size : Int) then (some ((⟨#[]⟩ : ByteArray), wrap64 ((wrap64 (x7 + 1)) - 1))) else (if 0 ≤ (wrap64 (x7 + 1)) then (if (wrap64 (x7 + 1)) < (x1.size : Int) then ((F106.f k x347000 x347001 x347002 x347003 (bt x1 (wrap64 (x7 + 1)))).bind fun t350 => (if t350 = true then (if x6.length < 140737488355328 then (F63.l0 k x1 (x6 ++ [bt x1 (wrap64 (x7 + 1))]) (wrap64 ((wrap64 (x7 + 1)) + 1)) x347000 x347001 x347002 x347003) else (none)) else (some ((⟨#[]⟩ : ByteArray), wrap64 ((wrap64 (x7 + 1)) - 1))))) else (none)) else (none))) else ((F106.f k x347000 x347001 x347002 x347003 (bt x1 x7)).bind fun t354 => (if t354 = true then (some ((⟨#[]⟩ : ByteArray), x7)) else (if x6.length < 140737488355328 then (F63.l0 k x1 (x6 ++ [bt x1 x7]) (wrap64 (x7 + 1)) x347000 x347001 x347002 x347003) else (none))))) else (none)) else (some (strOfNums x6, (-1)))
def F63.f (k : Nat) (a0_0 : Int) (a0_1 : Int) (a0_2 : Int) (a0_3 : Int) (a1 : ByteArray) : Option (ByteArray × Int) := F63.l0 k a1 (([] : List Int)) 0 a0_0 a0_1 a0_2 a0_3
theorem F63.mono_l : ∀ k, (∀ y0 y1 y2 y3 y4 y5 y6, LeO (F63.l0 k y0 y1 y2 y3 y4 y5 y6) (F63.l0 (k + 1) y0 y1 y2 y3 y4 y5 y6))
 | 0 => fun _ _ _ _ _ _ _ r h => by simp [F63.l0] at h
 | k + 1 => by
  have ih0 := F63.mono_l k
  intro y0 y1 y2 y3 y4 y5 y6
  unfold F63.l0
  repeat' with_reducible first | exact ih0 _ _ _ _ _ _ _ | exact F106.mono _ _ _ _ _ _ | exact LeO.refl _ | exact LeO.none _ | refine LeO.ite ?_ ?_ | refine LeO.bind ?_ (fun _ => ?_)
theorem F63.mono : ∀ a0 a1 a2 a3 a4 k, LeO (F63.f k a0 a1 a2 a3 a4) (F63.f (k + 1) a0 a1 a2 a3 a4) := by
 intro a0 a1 a2 a3 a4 k
 have ih0 := F63.mono_l k
 unfold F63.f
 repeat' with_reducible first | exact ih0 _ _ _ _ _ _ _ | exact F106.mono _ _ _ _ _ _ | exact LeO.refl _ | exact LeO.none _ | refine LeO.ite ?_ ?_ | refine LeO.bind ?_ (fun _ => ?_)
def F63.T8 : Bool × List (List Nat × List Nat) := (true, [([], []), ([], []), ([1], [1]), ([0, 2], [0, 2]), ([3], [3]), ([4], [4]), ([4], [4]), ([4], [4]), ([6, 7, 4], [4, 6, 7]), ([5, 8, 4, 4], [4, 5, 8]), ([9, 4], [4, 9]), ([4, 10], [4, 10])])
def F63.B8 : List Nat := [0, 0, 2, 7, 15, 31, 31, 31, 223, 511, 1023, 2047]
theorem F63.tab8 : rtab .any (opsOf Try.f63 8) = F63.T8 := by kernel_rfl
theorem F63.bits8 : waitsOk F63.T8.2 F63.B8 = true := by kernel_rfl
theorem F63.calls (k : Nat) (a0_0 : Int) (a0_1 : Int) (a0_2 : Int) (a0_3 : Int) (a1 : ByteArray) (r1 : ByteArray) (r2 : Int) (w : World) (h : F63.f k a0_0 a0_1 a0_2 a0_3 a1 = some (r1, r2)) :
  Calls Try.prog 63 #[.agg #[.int .i64 a0_0, .int .i64 a0_1, .int .i64 a0_2, .int .i64 a0_3], .string a1] w fun e w' => e = .returned (.tuple #[.string r1, .int .i64 r2]) ∧ Below w.heap.size w w' := by
 have hu23 := Try.underlying23
 have HB := am_ (Below.refl w.heap.size w)
 have H : (F63.l0 k a1 (([] : List Int)) 0 a0_0 a0_1 a0_2 a0_3) = some (r1, r2) := h
 clear h
 obtain ⟨y347, hy347⟩ : ∃ y_ : List Int, y_ = (([] : List Int)) := ⟨_, rfl⟩
 replace H : (F63.l0 k a1 y347 0 a0_0 a0_1 a0_2 a0_3) = some (r1, r2) := by first | (rw [hy347]; exact H) | exact H
 have Ny347 := am_ hy347
 clear hy347
 have H' := am_ H
 clear H
 go_enter Try.func63, Try.ntmps63
 go_wp2_with (first | ((with_reducible refine gate_dst (N := 2) rfl ?_); refine be_ 2 #[.int .i64 a0_0, .int .i64 a0_1, .int .i64 a0_2, .int .i64 a0_3] 23 ?_; intro gb346 hg w3 hbox hb; have BK346 := am_ (hbox); have GW346 := am_ (gw_ hg bl_); have GE346 := GW346; replace HB := hs_ w hb; clear hb hbox hg) | ((with_reducible refine gate_dst (N := 9) rfl ?_); refine Kd.R_lit (Kd.int .u8) _ 5 ?hg (N := 9) ?hd (xs := ([] : List Int)) (inner := []) (ok := fun _ => True) (okp := fun _ => True) ?hr ?hp (fun _ hk => hk) trivial (Below.refl _ _) (Nat.le_refl _) (by simp) ?_; (case hd => rfl); (case hg => rfl); (case hr => exact hr_); (case hp => exact (Reps.none _ _)); intro v348 w4 ho5 hb hg_ hnew_; clear hg_ hnew_; (first | rw [← Ny347.out] at ho5 | (simp only [Int.reduceToNat] at ho5; rw [← Ny347.out] at ho5)); have HO349 := am_ (Kd.R_lower ho5 (below_size bl_)); replace BK346 := bb_ BK346 hb; replace HB := hs_ w hb; clear hb ho5))
 go_loopg [6, 7] k (fun kq v6 v7 w' => ∃ (x6_1 : List Int) (x7_1 : Int), v7 = .int .i64 x7_1 ∧ Aside0 (F63.l0 kq a1 x6_1 x7_1 a0_0 a0_1 a0_2 a0_3 = some (r1, r2)) ∧ Aside0 (kq ≤ k) ∧ Aside0 (Kd.R (Kd.int .u8) 5 w' w.heap.size (fun _ => True) v6 x6_1) ∧ Aside0 (w'.heap[gb346]? = some (.cells #[.int .i64 a0_0, .int .i64 a0_1, .int .i64 a0_2, .int .i64 a0_3] 23 (0, 0))) ∧ Aside0 (Below w.heap.size w w'))
 case atStart => exact ⟨(y347), (0), er_, H', ⟨Nat.le_refl _⟩, ⟨rk_ HO349⟩, ⟨bk_ BK346⟩, ⟨bl_⟩⟩
 case round =>
  clear H'
  obtain ⟨x6_1, x7_1, rfl, HA, HK1, HO_6, BK346, HB⟩ := hrel
  cases gk with
  | zero => exact absurd HA.out (by simp [F63.l0])
  | succ k1 =>
   have H := HA.out
   clear HA
   simp only [F63.l0] at H
   replace H := it_ H; rcases H with ⟨c6b0, H⟩ | ⟨c6b0, H⟩
   rotate_left
   ·simp only [Option.some.injEq, Prod.mk.injEq] at H
    obtain ⟨rfl, rfl⟩ := H
    have hcv36 := own_string (P := Try.prog) Try.underlying36 Try.underlying5 Try.underlying9 (Kd.own_of_R HO_6.out)
    go_wp2
    go_ret2
    exact ⟨au3_0, bl_⟩

   replace H := itn_ H; rcases H with ⟨c7b0, H⟩
   by_cases c9 : (wrap64 (bt a1 x7_1)) = a0_3
   rotate_left
   ·rw [if_neg c9] at H
    have c9b0 : ((wrap64 (bt a1 x7_1)) == a0_3) = false := beq_eq_false_iff_ne.mpr c9
    have c9b1 : ((wrap64 (bt a1 x7_1)) != a0_3) = true := bne_iff_ne.mpr c9
    replace H := bi_ H; rcases H with ⟨t354, A28, H⟩
    replace H := ib_ H; rcases H with ⟨rfl, H⟩ | ⟨rfl, H⟩
    ·simp only [Option.some.injEq, Prod.mk.injEq] at H
     obtain ⟨rfl, rfl⟩ := H
     have p8 : 0 ≤ (x7_1 : Int) := od_
     have q8 : x7_1 < (a1.size : Int) := od_
     have hx8 := bt_at a1 x7_1
     replace p8 := eq_true p8
     replace q8 := eq_true q8
     obtain ⟨hcz30_0, hcz30_1, hcz30_2, hcz30_3, hfz30_0, hfz30_1, hfz30_2, hfz30_3⟩ := cellsF4 BK346.out
     go_wp2_with (first | ((with_reducible refine gate_callee (f := 106) rfl ?_); refine gl_ 45 Try.func106 #[.agg #[.int .i64 a0_0, .int .i64 a0_1, .int .i64 a0_2, .int .i64 a0_3], .int .u8 (bt a1 x7_1)] ?_ rfl rfl rfl rfl; (with_reducible refine (F106.calls k1 a0_0 a0_1 a0_2 a0_3 (bt a1 x7_1) true _ A28.out).mono ?_); rintro e w31 ⟨rfl, hb⟩; refine ⟨_, rfl, ?_⟩; replace HO_6 := am_ (Kd.R_below (rk_ HO_6) hb); replace BK346 := bb_ BK346 hb; replace HB := hs_ w hb; (try clear hb)))
     go_ret2
     exact ⟨au3_0, bl_⟩
    replace H := iln_ H; rcases H with ⟨LMc32, H⟩
    obtain ⟨y355, hy355⟩ : ∃ y_ : List Int, y_ = (x6_1 ++ [bt a1 x7_1]) := ⟨_, rfl⟩
    replace H : (F63.l0 k1 a1 y355 (wrap64 (x7_1 + 1)) a0_0 a0_1 a0_2 a0_3) = some (r1, r2) := by first | (rw [hy355]; exact H) | exact H
    have Ny355 := am_ hy355
    clear hy355
    have H' := am_ H
    clear H
    have p8 : 0 ≤ (x7_1 : Int) := od_
    have q8 : x7_1 < (a1.size : Int) := od_
    have hx8 := bt_at a1 x7_1
    replace p8 := eq_true p8
    replace q8 := eq_true q8
    obtain ⟨hcz33_0, hcz33_1, hcz33_2, hcz33_3, hfz33_0, hfz33_1, hfz33_2, hfz33_3⟩ := cellsF4 BK346.out
    go_wp2_with (first | ((with_reducible refine gate_callee (f := 106) rfl ?_); refine gl_ 45 Try.func106 #[.agg #[.int .i64 a0_0, .int .i64 a0_1, .int .i64 a0_2, .int .i64 a0_3], .int .u8 (bt a1 x7_1)] ?_ rfl rfl rfl rfl; (with_reducible refine (F106.calls k1 a0_0 a0_1 a0_2 a0_3 (bt a1 x7_1) false _ A28.out).mono ?_); rintro e w34 ⟨rfl, hb⟩; refine ⟨_, rfl, ?_⟩; replace HO_6 := am_ (Kd.R_below (rk_ HO_6) hb); replace BK346 := bb_ BK346 hb; replace HB := hs_ w hb; (try clear hb)) | ((with_reducible refine gate_builtin (b := .append) (xs := #[.tmp 47, .tmp 49]) rfl ?_); at_builtin; refine Kd.R_append (Kd.int .u8) (w0 := w) w.heap.size rfl (.tmp 47) (.tmp 49) 36 5 (.int .u8 0) 1 rfl Try.underlying36 info5 rfl (by decide) (by omega) u6 x6_1 (bt a1 x7_1) [.int .u8 (bt a1 x7_1)] (fun _ => True) (fun _ => False) rfl rfl ?aP (fun _ hk => hk.elim) ?aF ?aO ?aB ?aS ?aL ?_; (case aP => exact rfl); (case aB => exact bl_); (case aF => exact (fun _ _ => trivial)); (case aO => exact (rk_ HO_6)); (case aS => exact (below_size bl_)); (case aL => have := LMc32.out; omega); intro v356 w35 ho hb hg hat; rw [← Ny355.out] at ho; have n0_ := am_ (bg_ BK346 hg (Kd.R_ne HO_6.out BK346.out (by decide))); have n1_ := am_ (hb); have n2_ := am_ (ho); clear BK346; clear HB; clear HO_6; have BK346 := n0_; have HB := n1_; have HO357 := n2_; clear n0_ n1_ n2_; clear ho hb hg hat))
    go_roundg k1
    case measure => have := HK1.out; omega
    case rel => exact ⟨(y355), (wrap64 (x7_1 + 1)), er_, H', ⟨by have := HK1.out; omega⟩, ⟨rk_ HO357⟩, ⟨bk_ BK346⟩, ⟨bl_⟩⟩
   rw [if_pos c9] at H
   have c9b0 : ((wrap64 (bt a1 x7_1)) == a0_3) = true := beq_iff_eq.mpr c9
   have c9b1 : ((wrap64 (bt a1 x7_1)) != a0_3) = false := bne_eq_false_iff_eq.mpr c9
   clear c9
   by_cases c10 : (wrap64 (x7_1 + 1)) = (a1.size : Int)
   ·rw [if_pos c10] at H
    have c10b0 : ((wrap64 (x7_1 + 1)) == (a1.size : Int)) = true := beq_iff_eq.mpr c10
    have c10b1 : ((wrap64 (x7_1 + 1)) != (a1.size : Int)) = false := bne_eq_false_iff_eq.mpr c10
    clear c10
    simp only [Option.some.injEq, Prod.mk.injEq] at H
    obtain ⟨rfl, rfl⟩ := H
    have p8 : 0 ≤ (x7_1 : Int) := od_
    have q8 : x7_1 < (a1.size : Int) := od_
    have hx8 := bt_at a1 x7_1
    replace p8 := eq_true p8
    replace q8 := eq_true q8
    obtain ⟨hcz11_0, hcz11_1, hcz11_2, hcz11_3, hfz11_0, hfz11_1, hfz11_2, hfz11_3⟩ := cellsF4 BK346.out
    try go_wp2
    replace HO_6 := am_ (Kd.R_drew HO_6.out)
    replace BK346 := bd_ BK346
    replace HB := am_ (below_drew1 HB.out)
    refine start_ (n := 12) (S := fun w' => True) (ds := []) (bs 12 0) (by kernel_rfl) rfl rfl trivial (fun hHeld => ?_); refine with_tabW F63.tab8 F63.bits8 (fun HT_ HW_ => ?_)
    generalize wr.drew = w12 at HO_6 BK346 HB hHeld ⊢
    refine pu_ 0 26 (bs 12 1) HT_ ?_ rfl rfl
    refine pu_ 1 27 (bs 12 3) HT_ ?_ rfl rfl
    refine pu_ 2 28 (bs 12 7) HT_ ?_ rfl rfl
    refine pu_ 3 29 (bs 12 15) HT_ ?_ rfl rfl
    refine pu_ 4 30 (bs 12 31) HT_ ?_ rfl rfl
    refine pv_ 5 31 (bs 12 63) HT_ ?_ rfl rfl
    refine pv_ 6 32 (bs 12 127) HT_ ?_ rfl rfl
    refine pv_ 7 33 (bs 12 255) HT_ ?_ rfl rfl
    refine pv_ 8 34 (bs 12 511) HT_ ?_ rfl rfl
    refine pv_ 9 35 (bs 12 1023) HT_ ?_ rfl rfl
    refine pv_ 10 36 (bs 12 2047) HT_ ?_ rfl rfl
    refine pu_ 11 37 (bs 12 4095) HT_ ?_ rfl rfl
    refine done_ (done_of HT_.out (by kernel_rfl)) ?_
    try go_wp2
    go_ret2
    exact ⟨au3_0, bl_⟩
   rw [if_neg c10] at H
   have c10b0 : ((wrap64 (x7_1 + 1)) == (a1.size : Int)) = false := beq_eq_false_iff_ne.mpr c10
   have c10b1 : ((wrap64 (x7_1 + 1)) != (a1.size : Int)) = true := bne_iff_ne.mpr c10
   obtain ⟨ji13, hji13⟩ : ∃ j_ : Int, (wrap64 (x7_1 + 1)) = j_ := ⟨_, rfl⟩
   replace H : (if 0 ≤ (ji13) then (if (ji13) < (a1.size : Int) then ((F106.f k1 a0_0 a0_1 a0_2 a0_3 (bt a1 (ji13))).bind fun t350 => (if t350 = true then (if x6_1.length < 140737488355328 then (F63.l0 k1 a1 (x6_1 ++ [bt a1 (ji13)]) (wrap64 ((ji13) + 1)) a0_0 a0_1 a0_2 a0_3) else (none)) else (some ((⟨#[]⟩ : ByteArray), wrap64 ((ji13) - 1))))) else (none)) else (none)) = some (r1, r2) := by first | (rw [hji13] at H; exact H) | (simp only [hji13] at H ⊢; exact H)
   (try rw [hji13] at c10b0)
   (try rw [hji13] at c10b1)
   have hji13w : (IntKind.i64.wrap (x7_1 + 1)) = ji13 := (i64_w _).trans hji13
   replace H := itn_ H; rcases H with ⟨c14b0, H⟩
   replace H := itn_ H; rcases H with ⟨c15b0, H⟩
   replace H := bi_ H; rcases H with ⟨t350, A17, H⟩
   replace H := ib_ H; rcases H with ⟨rfl, H⟩ | ⟨rfl, H⟩
   rotate_left
   ·simp only [Option.some.injEq, Prod.mk.injEq] at H
    obtain ⟨rfl, rfl⟩ := H
    have p8 : 0 ≤ (x7_1 : Int) := od_
    have q8 : x7_1 < (a1.size : Int) := od_
    have hx8 := bt_at a1 x7_1
    replace p8 := eq_true p8
    replace q8 := eq_true q8
    obtain ⟨hcz25_0, hcz25_1, hcz25_2, hcz25_3, hfz25_0, hfz25_1, hfz25_2, hfz25_3⟩ := cellsF4 BK346.out
    try go_wp2
    replace HO_6 := am_ (Kd.R_drew HO_6.out)
    replace BK346 := bd_ BK346
    replace HB := am_ (below_drew1 HB.out)
    have p16 : 0 ≤ ((ji13) : Int) := od_
    have q16 : (ji13) < (a1.size : Int) := od_
    have hx16 := bt_at a1 (ji13)
    replace p16 := eq_true p16
    replace q16 := eq_true q16
    refine start_ (n := 12) (S := fun w' => w'.cell? ⟨gb346, 0, none⟩ = some (.int .i64 a0_0) ∧ w'.cell? ⟨gb346, 1, none⟩ = some (.int .i64 a0_1) ∧ w'.cell? ⟨gb346, 2, none⟩ = some (.int .i64 a0_2) ∧ w'.cell? ⟨gb346, 3, none⟩ = some (.int .i64 a0_3)) (ds := []) (bs 12 0) (by kernel_rfl) rfl rfl ⟨(blk_cell BK346.out 0).trans rfl, (blk_cell BK346.out 1).trans rfl, (blk_cell BK346.out 2).trans rfl, (blk_cell BK346.out 3).trans rfl⟩ (fun hHeld => ?_); refine with_tabW F63.tab8 F63.bits8 (fun HT_ HW_ => ?_)
    generalize wr.drew = w26 at HO_6 BK346 HB hHeld ⊢
    refine pu_ 0 26 (bs 12 1) HT_ ?_ rfl rfl
    refine pu_ 1 27 (bs 12 3) HT_ ?_ rfl rfl
    refine pu_ 2 28 (bs 12 7) HT_ ?_ rfl rfl
    refine pu_ 3 29 (bs 12 15) HT_ ?_ rfl rfl
    refine pu_ 4 30 (bs 12 31) HT_ ?_ rfl rfl
    refine pu_ 6 32 (bs 12 95) HT_ ?_ rfl rfl
    refine pu_ 7 33 (bs 12 223) HT_ ?_ rfl rfl
    refine tk_ 5 31 (bs 12 255) HT_ HW_ hHeld au3_19 ?_ rfl rfl
    refine tk_ 8 34 (bs 12 511) HT_ HW_ hHeld au3_19 ?_ rfl rfl
    refine one_ (i := 9) (N := some 35) (bs 12 1023) rfl rfl (one_of HT_.out (by kernel_rfl)) (by decide) (fun K hK => ?_)
    refine goes_ Try.func106 (by kernel_rfl) rfl #[.agg #[.int .i64 a0_0, .int .i64 a0_1, .int .i64 a0_2, .int .i64 a0_3], .int .u8 (bt a1 (ji13))] (by rfl) rfl rfl au3_18 ?_
    with_reducible refine (F106.calls k1 a0_0 a0_1 a0_2 a0_3 (bt a1 (ji13)) false _ A17.out).mono ?_
    rintro e w27 ⟨rfl, hb⟩
    refine ⟨_, rfl, ?_⟩
    replace HO_6 := am_ (Kd.R_below (rk_ HO_6) hb)
    replace BK346 := bb_ BK346 hb
    replace HB := hs_ w hb
    (try clear hb)
    (try clear hb2)
    (try clear hk)
    (try clear hi)
    refine hK.out _ _ ⟨(blk_cell BK346.out 0).trans rfl, (blk_cell BK346.out 1).trans rfl, (blk_cell BK346.out 2).trans rfl, (blk_cell BK346.out 3).trans rfl⟩ (fun hHeld => ?_)
    clear hK K
    refine no_ 35 ?_
    refine pu_ 10 36 (bs 12 2047) HT_ ?_ rfl rfl
    refine pu_ 11 37 (bs 12 4095) HT_ ?_ rfl rfl
    refine done_ (done_of HT_.out (by kernel_rfl)) ?_
    try go_wp2
    go_ret2
    exact ⟨by first | rfl | (simp [errW_none, errW_some] <;> rfl) | (simp only [← hji13]; first | rfl | (simp [errW_none, errW_some] <;> rfl)) | (simp [*, errW_none, errW_some] <;> rfl), bl_⟩
   replace H := iln_ H; rcases H with ⟨LMc20, H⟩
   obtain ⟨y351, hy351⟩ : ∃ y_ : List Int, y_ = (x6_1 ++ [bt a1 (ji13)]) := ⟨_, rfl⟩
   replace H : (F63.l0 k1 a1 y351 (wrap64 ((ji13) + 1)) a0_0 a0_1 a0_2 a0_3) = some (r1, r2) := by first | (rw [hy351]; exact H) | exact H
   have Ny351 := am_ hy351
   clear hy351
   have H' := am_ H
   clear H
   have p8 : 0 ≤ (x7_1 : Int) := od_
   have q8 : x7_1 < (a1.size : Int) := od_
   have hx8 := bt_at a1 x7_1
   replace p8 := eq_true p8
   replace q8 := eq_true q8
   obtain ⟨hcz21_0, hcz21_1, hcz21_2, hcz21_3, hfz21_0, hfz21_1, hfz21_2, hfz21_3⟩ := cellsF4 BK346.out
   try go_wp2
   replace HO_6 := am_ (Kd.R_drew HO_6.out)
   replace BK346 := bd_ BK346
   replace HB := am_ (below_drew1 HB.out)
   have p16 : 0 ≤ ((ji13) : Int) := od_
   have q16 : (ji13) < (a1.size : Int) := od_
   have hx16 := bt_at a1 (ji13)
   replace p16 := eq_true p16
   replace q16 := eq_true q16
   refine start_ (n := 12) (S := fun w' => w'.cell? ⟨gb346, 0, none⟩ = some (.int .i64 a0_0) ∧ w'.cell? ⟨gb346, 1, none⟩ = some (.int .i64 a0_1) ∧ w'.cell? ⟨gb346, 2, none⟩ = some (.int .i64 a0_2) ∧ w'.cell? ⟨gb346, 3, none⟩ = some (.int .i64 a0_3)) (ds := []) (bs 12 0) (by kernel_rfl) rfl rfl ⟨(blk_cell BK346.out 0).trans rfl, (blk_cell BK346.out 1).trans rfl, (blk_cell BK346.out 2).trans rfl, (blk_cell BK346.out 3).trans rfl⟩ (fun hHeld => ?_); refine with_tabW F63.tab8 F63.bits8 (fun HT_ HW_ => ?_)
   generalize wr.drew = w22 at HO_6 BK346 HB hHeld ⊢
   refine pu_ 0 26 (bs 12 1) HT_ ?_ rfl rfl
   refine pu_ 1 27 (bs 12 3) HT_ ?_ rfl rfl
   refine pu_ 2 28 (bs 12 7) HT_ ?_ rfl rfl
   refine pu_ 3 29 (bs 12 15) HT_ ?_ rfl rfl
   refine pu_ 4 30 (bs 12 31) HT_ ?_ rfl rfl
   refine pu_ 6 32 (bs 12 95) HT_ ?_ rfl rfl
   refine pu_ 7 33 (bs 12 223) HT_ ?_ rfl rfl
   refine tk_ 5 31 (bs 12 255) HT_ HW_ hHeld au3_19 ?_ rfl rfl
   refine tk_ 8 34 (bs 12 511) HT_ HW_ hHeld au3_19 ?_ rfl rfl
   refine one_ (i := 9) (N := some 35) (bs 12 1023) rfl rfl (one_of HT_.out (by kernel_rfl)) (by decide) (fun K hK => ?_)
   refine goes_ Try.func106 (by kernel_rfl) rfl #[.agg #[.int .i64 a0_0, .int .i64 a0_1, .int .i64 a0_2, .int .i64 a0_3], .int .u8 (bt a1 (ji13))] (by rfl) rfl rfl au3_18 ?_
   with_reducible refine (F106.calls k1 a0_0 a0_1 a0_2 a0_3 (bt a1 (ji13)) true _ A17.out).mono ?_
   rintro e w23 ⟨rfl, hb⟩
   refine ⟨_, rfl, ?_⟩
   replace HO_6 := am_ (Kd.R_below (rk_ HO_6) hb)
   replace BK346 := bb_ BK346 hb
   replace HB := hs_ w hb
   (try clear hb)
   (try clear hb2)
   (try clear hk)
   (try clear hi)
   refine hK.out _ _ ⟨(blk_cell BK346.out 0).trans rfl, (blk_cell BK346.out 1).trans rfl, (blk_cell BK346.out 2).trans rfl, (blk_cell BK346.out 3).trans rfl⟩ (fun hHeld => ?_)
   clear hK K
   refine no_ 35 ?_
   refine pu_ 10 36 (bs 12 2047) HT_ ?_ rfl rfl
   refine pu_ 11 37 (bs 12 4095) HT_ ?_ rfl rfl
   refine done_ (done_of HT_.out (by kernel_rfl)) ?_
   have p19 : 0 ≤ ((ji13) : Int) := od_
   have q19 : (ji13) < (a1.size : Int) := od_
   have hx19 := bt_at a1 (ji13)
   replace p19 := eq_true p19
   replace q19 := eq_true q19
   try go_wp2_with (first | ((with_reducible refine gate_builtin (b := .append) (xs := #[.tmp 47, .tmp 49]) rfl ?_); at_builtin; refine Kd.R_append (Kd.int .u8) (w0 := w) w.heap.size rfl (.tmp 47) (.tmp 49) 36 5 (.int .u8 0) 1 rfl Try.underlying36 info5 rfl (by decide) (by omega) u6 x6_1 (bt a1 (ji13)) [.int .u8 (bt a1 (ji13))] (fun _ => True) (fun _ => False) rfl rfl ?aP (fun _ hk => hk.elim) ?aF ?aO ?aB ?aS ?aL ?_; (case aP => exact rfl); (case aB => exact bl_); (case aF => exact (fun _ _ => trivial)); (case aO => exact (rk_ HO_6)); (case aS => exact (below_size bl_)); (case aL => have := LMc20.out; omega); intro v352 w24 ho hb hg hat; rw [← Ny351.out] at ho; have n0_ := am_ (bg_ BK346 hg (Kd.R_ne HO_6.out BK346.out (by decide))); have n1_ := am_ (hb); have n2_ := am_ (ho); clear BK346; clear HB; clear HO_6; have BK346 := n0_; have HB := n1_; have HO353 := n2_; clear n0_ n1_ n2_; clear ho hb hg hat))
   go_roundg k1
   case measure => have := HK1.out; omega
   case rel => exact ⟨(y351), (wrap64 ((ji13) + 1)), (by first | rfl | (simp; done) | (simp only [← hji13] <;> (first | rfl | simp)) | (simp [*]; done)), H', ⟨by have := HK1.out; omega⟩, ⟨rk_ HO353⟩, ⟨bk_ BK346⟩, ⟨bl_⟩⟩
/-! ### F88: function 88 -/
def F88.l0 : Nat → Int → List ByteArray → Int → List ByteArray → Int → Int → Int → Int → Int → Int → List ByteArray → Option (List ByteArray × Int)
  | 0, _, _, _, _, _, _, _, _, _, _, _ => none
  | k + 1, x2, x8, x10, x27, x28, x29, x359000, x359001, x359002, x359003, x364000 => if x29 < x28 then (if 0 ≤ x29 then (if x29 < (x27.length : Int) then ((F63.f k x359000 x359001 x359002 x359003 (rdOf ByteArray.empty x27 x29)).bind fun bt366 => (if bt366.2 ≥ 0 then (some (x364000, wrap64 (x10 + bt366.2))) else ((F82.f k bt366.1).bind fun t368 => (if t368 = true then (if x364000.length < 8796093022208 then (F88.l0 k x2 x8 (wrap64 (x10 + (wrap64 (((rdOf ByteArray.empty x27 x29).size : Int) + 1)))) x27 x28 (wrap64 (x29 + 1)) x359000 x359001 x359002 x359003 (x364000 ++ [bt366.1])) else (none)) else (some (x364000, x10)))))) else (none)) else (none)) else (if (x8.length : Int) > 1 then (if 0 ≤ (wrap64 ((x8.length : Int) - 1)) then (if (wrap64 ((x8.length : Int) - 1)) < (x364000.length : Int) then (if (rdOf ByteArray.empty x364000 (wrap64 ((x8.length : Int) - 1))).toList = ([] : List UInt8) then (some (x364000, x2)) else (some (x364000, (-1)))) else (none)) else (none)) else (some (x364000, (-1))))
def F88.f (k : Nat) (a0_0 : Int) (a0_1 : Int) (a0_2 : Int) (a0_3 : Int) (a1 : ByteArray) (a2 : Int) : Option (List ByteArray × Int) := (F69.f k a0_0 a0_1 a0_2 a0_3 a1 a0_2).bind fun t360 => (if (t360.length : Int) > 4 then (some (([] : List ByteArray), a2)) else (F88.l0 k a2 t360 a2 t360 (t360.length : Int) 0 a0_0 a0_1 a0_2 a0_3 ([] : List ByteArray)))
theorem F88.mono_l : ∀ k, (∀ y0 y1 y2 y3 y4 y5 y6 y7 y8 y9 y10, LeO (F88.l0 k y0 y1 y2 y3 y4 y5 y6 y7 y8 y9 y10) (F88.l0 (k + 1) y0 y1 y2 y3 y4 y5 y6 y7 y8 y9 y10))
 | 0 => fun _ _ _ _ _ _ _ _ _ _ _ r h => by simp [F88.l0] at h
 | k + 1 => by
  have ih0 := F88.mono_l k
  intro y0 y1 y2 y3 y4 y5 y6 y7 y8 y9 y10
  unfold F88.l0
  repeat' with_reducible first | exact ih0 _ _ _ _ _ _ _ _ _ _ _ | exact F69.mono _ _ _ _ _ _ _ | exact F63.mono _ _ _ _ _ _ | exact F82.mono _ _ | exact LeO.refl _ | exact LeO.none _ | refine LeO.ite ?_ ?_ | refine LeO.bind ?_ (fun _ => ?_)
theorem F88.mono : ∀ a0 a1 a2 a3 a4 a5 k, LeO (F88.f k a0 a1 a2 a3 a4 a5) (F88.f (k + 1) a0 a1 a2 a3 a4 a5) := by
 intro a0 a1 a2 a3 a4 a5 k
 have ih0 := F88.mono_l k
 unfold F88.f
 repeat' with_reducible first | exact ih0 _ _ _ _ _ _ _ _ _ _ _ | exact F69.mono _ _ _ _ _ _ _ | exact F63.mono _ _ _ _ _ _ | exact F82.mono _ _ | exact LeO.refl _ | exact LeO.none _ | refine LeO.ite ?_ ?_ | refine LeO.bind ?_ (fun _ => ?_)
theorem F88.calls (k : Nat) (a0_0 : Int) (a0_1 : Int) (a0_2 : Int) (a0_3 : Int) (a1 : ByteArray) (a2 : Int) (r1 : List ByteArray) (r2 : Int) (w : World) (h : F88.f k a0_0 a0_1 a0_2 a0_3 a1 a2 = some (r1, r2)) :
  Calls Try.prog 88 #[.agg #[.int .i64 a0_0, .int .i64 a0_1, .int .i64 a0_2, .int .i64 a0_3], .string a1, .int .i64 a2] w fun e w' => ∃ v0_ : Value, e = .returned (.tuple #[.agg #[v0_], .int .i64 r2]) ∧ Kd.R Kd.string 9 w' w.heap.size (fun _ => True) v0_ r1 ∧ Below w.heap.size w w' := by
 have hu23 := Try.underlying23
 have hu102 := Try.underlying102
 have HB := am_ (Below.refl w.heap.size w)
 have H : ((F69.f k a0_0 a0_1 a0_2 a0_3 a1 a0_2).bind fun t360 => (if (t360.length : Int) > 4 then (some (([] : List ByteArray), a2)) else (F88.l0 k a2 t360 a2 t360 (t360.length : Int) 0 a0_0 a0_1 a0_2 a0_3 ([] : List ByteArray)))) = some (r1, r2) := h
 clear h
 replace H := bi_ H; rcases H with ⟨t360, A4, H⟩
 replace H := it_ H; rcases H with ⟨(c5b0 : decide (4 < (t360.length : Int)) = true), H⟩ | ⟨(c5b0 : decide (4 < (t360.length : Int)) = false), H⟩
 ·have c5b1 : decide (4 < t360.length) = true := n2_ c5b0
  simp only [Option.some.injEq, Prod.mk.injEq] at H
  obtain ⟨rfl, rfl⟩ := H
  go_enter Try.func88, Try.ntmps88
  go_wp2_with (first | ((with_reducible refine gate_dst (N := 3) rfl ?_); (try (refine gate_guard (by rfl) ?_; dsimp only)); refine be_ 3 #[.int .i64 a0_0, .int .i64 a0_1, .int .i64 a0_2, .int .i64 a0_3] 23 ?_; intro gb358 hg w6 hbox hb; have BK358 := am_ (hbox); have GW358 := am_ (gw_ hg bl_); have GE358 := GW358; replace HB := hs_ w hb; clear hb hbox hg) | ((with_reducible refine gate_dst (N := 6) rfl ?_); (try (refine gate_guard (by rfl) ?_; dsimp only)); refine be_ 6 #[.slice none 0 0] 102 ?_; intro gb359 hg w7 hbox hb; have BK359 := am_ (hbox); have GW359 := am_ (gw_ hg bl_); have GE359 := GW359; replace HB := hs_ w hb; have NB358_359 := am_ (gn_ hg (blkl_ BK358)); have NB359_358 := am_ (gm_ hg (blkl_ BK358)); replace BK358 := bb_ BK358 hb; clear hb hbox hg; have hnb8 := NB358_359.out; have hnc8 := NB359_358.out; obtain ⟨hcz9_0, hcz9_1, hcz9_2, hcz9_3, hfz9_0, hfz9_1, hfz9_2, hfz9_3⟩ := cellsF4 BK358.out) | (go_at_call 69; (with_reducible refine (F69.calls k a0_0 a0_1 a0_2 a0_3 a1 a0_2 t360 _ A4.out).mono ?_); rintro e w10 ⟨v361, rfl, ho0, hb⟩; (try clear A4); have HO362 := am_ (Kd.R_lower ho0 (below_size bl_)); replace BK358 := bb_ BK358 hb; replace BK359 := bb_ BK359 hb; replace HB := hs_ w hb; (try clear hb); (try clear ho0)) | ((with_reducible refine gate_dst (N := 9) rfl ?_); (try (refine gate_guard (by rfl) ?_; dsimp only)); refine be_ 9 #[.slice none 0 0] 102 ?_; intro gb363 hg w11 hbox hb; replace HO362 := am_ (Kd.R_below (rk_ HO362) hb); have BK363 := am_ (hbox); have GW363 := am_ (gw_ hg bl_); have GE363 := GW363; replace HB := hs_ w hb; have NB358_363 := am_ (gn_ hg (blkl_ BK358)); have NB363_358 := am_ (gm_ hg (blkl_ BK358)); replace BK358 := bb_ BK358 hb; have NB359_363 := am_ (gn_ hg (blkl_ BK359)); have NB363_359 := am_ (gm_ hg (blkl_ BK359)); replace BK359 := bb_ BK359 hb; clear hb hbox hg; have hnb12 := NB363_358.out; have hnc12 := NB358_363.out; have hnb13 := NB363_359.out; have hnc13 := NB359_363.out; have hcz14_0 : w11.cell? ⟨gb363, 0, none⟩ = some (.slice none 0 0) := (blk_cell BK363.out 0).trans rfl; have hfz14_0 := blk_frozen BK363.out 0; obtain ⟨Ao15, co15, eo15⟩ := Kd.R_slice HO362.out; subst eo15; have hcz16_0 : w11.cell? ⟨gb359, 0, none⟩ = some (.slice none 0 0) := (blk_cell BK359.out 0).trans rfl; have hfz16_0 := blk_frozen BK359.out 0))
  refine bodyPost_ret (results_ct rfl _ _ gb359 102 #[.slice none 0 0] (0, 0) _ rfl (bq_ BK359) Try.underlying102 rfl (by kernel_rfl)) rfl ?_
  exact ⟨_, au3_0, au3_22, bl_⟩
 have c5b1 : decide (4 < t360.length) = false := n2_ c5b0
 have H' := am_ H
 clear H
 go_enter Try.func88, Try.ntmps88
 go_wp2_with (first | ((with_reducible refine gate_dst (N := 3) rfl ?_); (try (refine gate_guard (by rfl) ?_; dsimp only)); refine be_ 3 #[.int .i64 a0_0, .int .i64 a0_1, .int .i64 a0_2, .int .i64 a0_3] 23 ?_; intro gb358 hg w17 hbox hb; have BK358 := am_ (hbox); have GW358 := am_ (gw_ hg bl_); have GE358 := GW358; replace HB := hs_ w hb; clear hb hbox hg) | ((with_reducible refine gate_dst (N := 6) rfl ?_); (try (refine gate_guard (by rfl) ?_; dsimp only)); refine be_ 6 #[.slice none 0 0] 102 ?_; intro gb359 hg w18 hbox hb; have BK359 := am_ (hbox); have GW359 := am_ (gw_ hg bl_); have GE359 := GW359; replace HB := hs_ w hb; have NB358_359 := am_ (gn_ hg (blkl_ BK358)); have NB359_358 := am_ (gm_ hg (blkl_ BK358)); replace BK358 := bb_ BK358 hb; clear hb hbox hg; have hnb19 := NB358_359.out; have hnc19 := NB359_358.out; obtain ⟨hcz20_0, hcz20_1, hcz20_2, hcz20_3, hfz20_0, hfz20_1, hfz20_2, hfz20_3⟩ := cellsF4 BK358.out) | (go_at_call 69; (with_reducible refine (F69.calls k a0_0 a0_1 a0_2 a0_3 a1 a0_2 t360 _ A4.out).mono ?_); rintro e w21 ⟨v361, rfl, ho0, hb⟩; (try clear A4); have HO362 := am_ (Kd.R_lower ho0 (below_size bl_)); replace BK358 := bb_ BK358 hb; replace BK359 := bb_ BK359 hb; replace HB := hs_ w hb; (try clear hb); (try clear ho0)) | ((with_reducible refine gate_dst (N := 9) rfl ?_); (try (refine gate_guard (by rfl) ?_; dsimp only)); refine be_ 9 #[.slice none 0 0] 102 ?_; intro gb363 hg w22 hbox hb; replace HO362 := am_ (Kd.R_below (rk_ HO362) hb); have BK363 := am_ (hbox); have GW363 := am_ (gw_ hg bl_); have GE363 := GW363; replace HB := hs_ w hb; have NB358_363 := am_ (gn_ hg (blkl_ BK358)); have NB363_358 := am_ (gm_ hg (blkl_ BK358)); replace BK358 := bb_ BK358 hb; have NB359_363 := am_ (gn_ hg (blkl_ BK359)); have NB363_359 := am_ (gm_ hg (blkl_ BK359)); replace BK359 := bb_ BK359 hb; clear hb hbox hg; have hnb23 := NB363_358.out; have hnc23 := NB358_363.out; have hnb24 := NB363_359.out; have hnc24 := NB359_363.out; have hcz25_0 : w22.cell? ⟨gb363, 0, none⟩ = some (.slice none 0 0) := (blk_cell BK363.out 0).trans rfl; have hfz25_0 := blk_frozen BK363.out 0; obtain ⟨Ao26, co26, eo26⟩ := Kd.R_slice HO362.out; subst eo26))
 go_loopg [10, 29] k (fun kq v10 v29 w' => ∃ (x10_1 : Int) (x29_1 : Int) (x364000_1 : List ByteArray) (u364000 : Value), v10 = .int .i64 x10_1 ∧ v29 = .int .i64 x29_1 ∧ Aside0 (F88.l0 kq a2 t360 x10_1 t360 (t360.length : Int) x29_1 a0_0 a0_1 a0_2 a0_3 x364000_1 = some (r1, r2)) ∧ Aside0 (kq ≤ k) ∧ Aside0 (Kd.R Kd.string 9 w' w.heap.size (fun k_ => some k_ ≠ (u364000 : Value).ownBlock) (.slice Ao26 t360.length co26) t360) ∧ Aside0 (Kd.R Kd.string 9 w' w.heap.size (fun k_ => some k_ ≠ (u364000 : Value).ownBlock) (.slice Ao26 t360.length co26) t360) ∧ Aside0 (Kd.R Kd.string 9 w' w.heap.size (fun k_ => some k_ ≠ ((.slice Ao26 t360.length co26) : Value).ownBlock ∧ some k_ ≠ ((.slice Ao26 t360.length co26) : Value).ownBlock) u364000 x364000_1) ∧ Aside0 (w'.heap[gb358]? = some (.cells #[.int .i64 a0_0, .int .i64 a0_1, .int .i64 a0_2, .int .i64 a0_3] 23 (0, 0))) ∧ Aside0 (w'.heap[gb359]? = some (.cells #[(.slice none 0 0)] 102 (0, 0))) ∧ Aside0 (w'.heap[gb363]? = some (.cells #[u364000] 102 (0, 0))) ∧ Aside0 (Below w.heap.size w w'))
 case atStart => exact ⟨(a2), (0), (([] : List ByteArray)), (.slice none 0 0), er_, er_, H', ⟨Nat.le_refl _⟩, ⟨au3_13⟩, ⟨au3_13⟩, ⟨au3_22⟩, ⟨bf_ BK358⟩, ⟨bf_ BK359⟩, ⟨bq_ BK363⟩, ⟨bl_⟩⟩
 case round =>
  clear H'
  try clear c5b0
  try clear c5b1
  try clear hcz14_0
  try clear hcz16_0
  try clear hcz20_0 hcz20_1 hcz20_2 hcz20_3
  try clear hcz25_0
  try clear hcz9_0 hcz9_1 hcz9_2 hcz9_3
  try clear hfz14_0
  try clear hfz16_0
  try clear hfz20_0 hfz20_1 hfz20_2 hfz20_3
  try clear hfz25_0
  try clear hfz9_0 hfz9_1 hfz9_2 hfz9_3
  obtain ⟨x10_1, x29_1, x364000_1, u364000, rfl, rfl, HA, HK1, HO_8, HO_27, HO_364000, BK358, BK359, BK363, HB⟩ := hrel
  cases gk with
  | zero => exact absurd HA.out (by simp [F88.l0])
  | succ k1 =>
   have H := HA.out
   clear HA
   simp only [F88.l0] at H
   replace H := it_ H; rcases H with ⟨c27b0, H⟩ | ⟨c27b0, H⟩
   ·replace H := itn_ H; rcases H with ⟨c28b0, H⟩
    replace H := itn_ H; rcases H with ⟨c29b0, H⟩
    replace H := bi_ H; rcases H with ⟨⟨t366, t367⟩, A30, H⟩
    replace H := it_ H; rcases H with ⟨(c31b0 : decide (0 ≤ t367) = true), H⟩ | ⟨(c31b0 : decide (0 ≤ t367) = false), H⟩
    ·simp only [Option.some.injEq, Prod.mk.injEq] at H
     obtain ⟨rfl, rfl⟩ := H
     have p365 : 0 ≤ (x29_1 : Int) := od_
     have q365 : x29_1 < (t360.length : Int) := od_
     obtain ⟨ad365, e365, hx365_0⟩ := Kd.at_string (Kd.R_reads' HO_27.out).2.2 x29_1 p365 q365
     cases e365
     replace p365 := eq_true p365
     replace q365 := eq_true q365
     have hnb32 := NB358_359.out
     have hnc32 := NB359_358.out
     have hnb33 := NB358_363.out
     have hnc33 := NB363_358.out
     obtain ⟨hcz34_0, hcz34_1, hcz34_2, hcz34_3, hfz34_0, hfz34_1, hfz34_2, hfz34_3⟩ := cellsF4 BK358.out
     go_wp2_with (first | (go_at_call 63; (with_reducible refine (F63.calls k1 a0_0 a0_1 a0_2 a0_3 (rdOf ByteArray.empty t360 x29_1) t366 t367 _ A30.out).mono ?_); rintro e w35 ⟨rfl, hb⟩; (try clear A30); replace HO_8 := am_ (Kd.R_below (rk_ HO_8) hb); replace HO_27 := am_ (Kd.R_below (rk_ HO_27) hb); replace HO_364000 := am_ (Kd.R_below (rk_ HO_364000) hb); replace BK358 := bb_ BK358 hb; replace BK359 := bb_ BK359 hb; replace BK363 := bb_ BK363 hb; replace HB := hs_ w hb; (try clear hb); have hnb36 := NB363_359.out; have hnc36 := NB359_363.out; have hcz37_0 : w35.cell? ⟨gb363, 0, none⟩ = some (u364000) := (blk_cell BK363.out 0).trans rfl; have hfz37_0 := blk_frozen BK363.out 0; obtain ⟨Ao38, co38, eo38⟩ := Kd.R_slice HO_364000.out; subst eo38; have hcz39_0 : w35.cell? ⟨gb359, 0, none⟩ = some (.slice none 0 0) := (blk_cell BK359.out 0).trans rfl; have hfz39_0 := blk_frozen BK359.out 0))
     refine bodyPost_ret (results_ct rfl _ _ gb359 102 #[.slice Ao38 x364000_1.length co38] (0, 0) _ rfl (bq_ BK359) Try.underlying102 rfl (by kernel_rfl)) rfl ?_
     exact ⟨_, au3_0, by (with_reducible repeat (first | apply Kd.R_alloc | apply Kd.R_drewN | apply Kd.R_drew)); exact Kd.R_mono (Kd.R_far (p := ⟨gb359, 0, none⟩) (Kd.R_types HO_364000.out BK359.out (by decide)) (fun _ hk => hk.2) (.slice Ao38 x364000_1.length co38)) (fun _ hk => trivial), bl_⟩
    replace H := bi_ H; rcases H with ⟨t368, A40, H⟩
    replace H := ib_ H; rcases H with ⟨rfl, H⟩ | ⟨rfl, H⟩
    rotate_left
    ·simp only [Option.some.injEq, Prod.mk.injEq] at H
     obtain ⟨rfl, rfl⟩ := H
     have p365 : 0 ≤ (x29_1 : Int) := od_
     have q365 : x29_1 < (t360.length : Int) := od_
     obtain ⟨ad365, e365, hx365_0⟩ := Kd.at_string (Kd.R_reads' HO_27.out).2.2 x29_1 p365 q365
     cases e365
     replace p365 := eq_true p365
     replace q365 := eq_true q365
     have hnb52 := NB358_359.out
     have hnc52 := NB359_358.out
     have hnb53 := NB358_363.out
     have hnc53 := NB363_358.out
     obtain ⟨hcz54_0, hcz54_1, hcz54_2, hcz54_3, hfz54_0, hfz54_1, hfz54_2, hfz54_3⟩ := cellsF4 BK358.out
     go_wp2_with (first | (go_at_call 63; (with_reducible refine (F63.calls k1 a0_0 a0_1 a0_2 a0_3 (rdOf ByteArray.empty t360 x29_1) t366 t367 _ A30.out).mono ?_); rintro e w55 ⟨rfl, hb⟩; (try clear A30); replace HO_8 := am_ (Kd.R_below (rk_ HO_8) hb); replace HO_27 := am_ (Kd.R_below (rk_ HO_27) hb); replace HO_364000 := am_ (Kd.R_below (rk_ HO_364000) hb); replace BK358 := bb_ BK358 hb; replace BK359 := bb_ BK359 hb; replace BK363 := bb_ BK363 hb; replace HB := hs_ w hb; (try clear hb)) | (go_at_call 82; (with_reducible refine (F82.calls k1 t366 false _ A40.out).mono ?_); rintro e w' ⟨rfl, ⟨nd, rfl⟩⟩; (try clear A40); (try (rw [drewN_self w55]; generalize hq_ : World.drewN w55 _ = w55; have n0_ : Aside0 (Kd.R Kd.string 9 w55 w.heap.size (fun k_ => some k_ ≠ (u364000 : Value).ownBlock) (.slice (some ad365) t360.length co26) t360) := ⟨by rw [← hq_]; exact (rk_ HO_27)⟩; have n1_ : Aside0 (Kd.R Kd.string 9 w55 w.heap.size (fun k_ => some k_ ≠ (.slice (some ad365) t360.length co26 : Value).ownBlock ∧ some k_ ≠ (.slice (some ad365) t360.length co26 : Value).ownBlock) u364000 x364000_1) := ⟨au3_17⟩; have n2_ : Aside0 (Kd.R Kd.string 9 w55 w.heap.size (fun k_ => some k_ ≠ (u364000 : Value).ownBlock) (.slice (some ad365) t360.length co26) t360) := ⟨by rw [← hq_]; exact (rk_ HO_8)⟩; have n3_ : Aside0 (w55.heap[gb358]? = some (.cells #[.int .i64 a0_0, .int .i64 a0_1, .int .i64 a0_2, .int .i64 a0_3] 23 (0, 0))) := ⟨by rw [← hq_]; exact (bk_ BK358)⟩; have n4_ : Aside0 (w55.heap[gb359]? = some (.cells #[.slice none 0 0] 102 (0, 0))) := ⟨by rw [← hq_]; exact (bk_ BK359)⟩; have n5_ : Aside0 (w55.heap[gb363]? = some (.cells #[u364000] 102 (0, 0))) := ⟨by rw [← hq_]; exact (bk_ BK363)⟩; have n6_ : Aside0 (Below w.heap.size w w55) := ⟨by rw [← hq_]; exact bl_⟩; clear HO_27 HO_364000 HO_8 BK358 BK359 BK363 HB hq_; have HO_27 := n0_; have HO_364000 := n1_; have HO_8 := n2_; have BK358 := n3_; have BK359 := n4_; have BK363 := n5_; have HB := n6_; clear n0_ n1_ n2_ n3_ n4_ n5_ n6_)); have hnb56 := NB363_359.out; have hnc56 := NB359_363.out; have hcz57_0 : w55.cell? ⟨gb363, 0, none⟩ = some (u364000) := (blk_cell BK363.out 0).trans rfl; have hfz57_0 := blk_frozen BK363.out 0; obtain ⟨Ao58, co58, eo58⟩ := Kd.R_slice HO_364000.out; subst eo58; have hcz59_0 : w55.cell? ⟨gb359, 0, none⟩ = some (.slice none 0 0) := (blk_cell BK359.out 0).trans rfl; have hfz59_0 := blk_frozen BK359.out 0))
     refine bodyPost_ret (results_ct rfl _ _ gb359 102 #[.slice Ao58 x364000_1.length co58] (0, 0) _ rfl (bq_ BK359) Try.underlying102 rfl (by kernel_rfl)) rfl ?_
     exact ⟨_, au3_0, by (with_reducible repeat (first | apply Kd.R_alloc | apply Kd.R_drewN | apply Kd.R_drew)); exact Kd.R_mono (Kd.R_far (p := ⟨gb359, 0, none⟩) (Kd.R_types HO_364000.out BK359.out (by decide)) (fun _ hk => hk.2) (.slice Ao58 x364000_1.length co58)) (fun _ hk => trivial), bl_⟩
    replace H := iln_ H; rcases H with ⟨LMc42, H⟩
    obtain ⟨y369, hy369⟩ : ∃ y_ : List ByteArray, y_ = (x364000_1 ++ [t366]) := ⟨_, rfl⟩
    replace H : (F88.l0 k1 a2 t360 (wrap64 (x10_1 + (wrap64 (((rdOf ByteArray.empty t360 x29_1).size : Int) + 1)))) t360 (t360.length : Int) (wrap64 (x29_1 + 1)) a0_0 a0_1 a0_2 a0_3 y369) = some (r1, r2) := by first | (rw [hy369]; exact H) | exact H
    have Ny369 := am_ hy369
    clear hy369
    have H' := am_ H
    clear H
    have p365 : 0 ≤ (x29_1 : Int) := od_
    have q365 : x29_1 < (t360.length : Int) := od_
    obtain ⟨ad365, e365, hx365_0⟩ := Kd.at_string (Kd.R_reads' HO_27.out).2.2 x29_1 p365 q365
    cases e365
    replace p365 := eq_true p365
    replace q365 := eq_true q365
    have hnb43 := NB358_359.out
    have hnc43 := NB359_358.out
    have hnb44 := NB358_363.out
    have hnc44 := NB363_358.out
    obtain ⟨hcz45_0, hcz45_1, hcz45_2, hcz45_3, hfz45_0, hfz45_1, hfz45_2, hfz45_3⟩ := cellsF4 BK358.out
    go_wp2_with (first | (go_at_call 63; (with_reducible refine (F63.calls k1 a0_0 a0_1 a0_2 a0_3 (rdOf ByteArray.empty t360 x29_1) t366 t367 _ A30.out).mono ?_); rintro e w46 ⟨rfl, hb⟩; (try clear A30); replace HO_8 := am_ (Kd.R_below (rk_ HO_8) hb); replace HO_27 := am_ (Kd.R_below (rk_ HO_27) hb); replace HO_364000 := am_ (Kd.R_below (rk_ HO_364000) hb); replace BK358 := bb_ BK358 hb; replace BK359 := bb_ BK359 hb; replace BK363 := bb_ BK363 hb; replace HB := hs_ w hb; (try clear hb)) | (go_at_call 82; (with_reducible refine (F82.calls k1 t366 true _ A40.out).mono ?_); rintro e w' ⟨rfl, ⟨nd, rfl⟩⟩; (try clear A40); (try (rw [drewN_self w46]; generalize hq_ : World.drewN w46 _ = w46; have n0_ : Aside0 (Kd.R Kd.string 9 w46 w.heap.size (fun k_ => some k_ ≠ (u364000 : Value).ownBlock) (.slice (some ad365) t360.length co26) t360) := ⟨by rw [← hq_]; exact (rk_ HO_27)⟩; have n1_ : Aside0 (Kd.R Kd.string 9 w46 w.heap.size (fun k_ => some k_ ≠ (.slice (some ad365) t360.length co26 : Value).ownBlock ∧ some k_ ≠ (.slice (some ad365) t360.length co26 : Value).ownBlock) u364000 x364000_1) := ⟨au3_17⟩; have n2_ : Aside0 (Kd.R Kd.string 9 w46 w.heap.size (fun k_ => some k_ ≠ (u364000 : Value).ownBlock) (.slice (some ad365) t360.length co26) t360) := ⟨by rw [← hq_]; exact (rk_ HO_8)⟩; have n3_ : Aside0 (w46.heap[gb358]? = some (.cells #[.int .i64 a0_0, .int .i64 a0_1, .int .i64 a0_2, .int .i64 a0_3] 23 (0, 0))) := ⟨by rw [← hq_]; exact (bk_ BK358)⟩; have n4_ : Aside0 (w46.heap[gb359]? = some (.cells #[.slice none 0 0] 102 (0, 0))) := ⟨by rw [← hq_]; exact (bk_ BK359)⟩; have n5_ : Aside0 (w46.heap[gb363]? = some (.cells #[u364000] 102 (0, 0))) := ⟨by rw [← hq_]; exact (bk_ BK363)⟩; have n6_ : Aside0 (Below w.heap.size w w46) := ⟨by rw [← hq_]; exact bl_⟩; clear HO_27 HO_364000 HO_8 BK358 BK359 BK363 HB hq_; have HO_27 := n0_; have HO_364000 := n1_; have HO_8 := n2_; have BK358 := n3_; have BK359 := n4_; have BK363 := n5_; have HB := n6_; clear n0_ n1_ n2_ n3_ n4_ n5_ n6_)); have hnb47 := NB363_359.out; have hnc47 := NB359_363.out; have hcz48_0 : w46.cell? ⟨gb363, 0, none⟩ = some (u364000) := (blk_cell BK363.out 0).trans rfl; have hfz48_0 := blk_frozen BK363.out 0) | ((with_reducible refine gate_builtin (b := .append) (xs := #[.tmp 51, .tmp 53]) rfl ?_); (try (refine gate_guard (by rfl) ?_; dsimp only)); at_builtin; refine Kd.R_append Kd.string (w0 := w) w.heap.size rfl (.tmp 51) (.tmp 53) 41 9 (.string ⟨#[]⟩) 16 rfl Try.underlying41 info9 rfl (by decide) (by omega) u364000 x364000_1 t366 [.string t366] (fun k_ => some k_ ≠ (.slice (some ad365) t360.length co26 : Value).ownBlock ∧ some k_ ≠ (.slice (some ad365) t360.length co26 : Value).ownBlock) (fun _ => False) rfl rfl ?aP (fun _ hk => hk.elim) ?aF ?aO ?aB ?aS ?aL ?_; (case aP => exact rfl); (case aB => exact bl_); (case aF => exact (fun k_ hk => ⟨Kd.fresh' (Kd.R_lt (rk_ HO_8)) k_ hk, Kd.fresh' (Kd.R_lt (rk_ HO_27)) k_ hk⟩)); (case aO => exact (rk_ HO_364000)); (case aS => exact (below_size bl_)); (case aL => have := LMc42.out; omega); intro v370 w49 ho hb hg hat; rw [← Ny369.out] at ho; have n0_ := am_ (Kd.R_after (ok := (fun _ => True)) (by (with_reducible repeat (first | apply Kd.R_alloc | apply Kd.R_drewN | apply Kd.R_drew)); exact Kd.R_mono HO_8.out (fun _ hk => ⟨trivial, hk⟩)) hg hat); have n1_ := am_ (Kd.R_after (ok := (fun _ => True)) (by (with_reducible repeat (first | apply Kd.R_alloc | apply Kd.R_drewN | apply Kd.R_drew)); exact Kd.R_mono HO_27.out (fun _ hk => ⟨trivial, hk⟩)) hg hat); have n2_ := am_ (bg_ BK358 hg (Kd.R_ne HO_364000.out BK358.out (by decide))); have n3_ := am_ (bg_ BK359 hg (Kd.R_ne HO_364000.out BK359.out (by decide))); have n4_ := am_ (bg_ BK363 hg (Kd.R_ne HO_364000.out BK363.out (by decide))); have n5_ := am_ (hb); have n6_ := am_ (ho); clear HO_8; clear HO_27; clear BK358; clear BK359; clear BK363; clear HB; clear HO_364000; have HO_8 := n0_; have HO_27 := n1_; have BK358 := n2_; have BK359 := n3_; have BK363 := n4_; have HB := n5_; have HO371 := n6_; clear n0_ n1_ n2_ n3_ n4_ n5_ n6_; clear ho hb hg hat; obtain ⟨Ao50, co50, eo50⟩ := Kd.R_slice HO371.out; subst eo50; have hcz51_0 : w49.cell? ⟨gb363, 0, none⟩ = some (u364000) := (blk_cell BK363.out 0).trans rfl; have hfz51_0 := blk_frozen BK363.out 0))
    go_roundg k1
    case measure => have := HK1.out; omega
    case rel => exact ⟨(wrap64 (x10_1 + (wrap64 (((rdOf ByteArray.empty t360 x29_1).size : Int) + 1)))), (wrap64 (x29_1 + 1)), (y369), (.slice Ao50 y369.length co50), er_, er_, H', ⟨by have := HK1.out; omega⟩, ⟨by (with_reducible repeat (first | apply Kd.R_alloc | apply Kd.R_drewN | apply Kd.R_drew)); exact Kd.R_mono (Kd.R_far (p := ⟨gb363, 0, none⟩) (Kd.R_types HO_8.out BK363.out (by decide)) (fun _ hk => hk.2) (.slice Ao50 y369.length co50)) (fun _ hk => hk.1.2)⟩, ⟨by (with_reducible repeat (first | apply Kd.R_alloc | apply Kd.R_drewN | apply Kd.R_drew)); exact Kd.R_mono (Kd.R_far (p := ⟨gb363, 0, none⟩) (Kd.R_types HO_27.out BK363.out (by decide)) (fun _ hk => hk.2) (.slice Ao50 y369.length co50)) (fun _ hk => hk.1.2)⟩, ⟨by (with_reducible repeat (first | apply Kd.R_alloc | apply Kd.R_drewN | apply Kd.R_drew)); exact Kd.R_mono (Kd.R_far (p := ⟨gb363, 0, none⟩) (Kd.R_types HO371.out BK363.out (by decide)) (fun _ hk => hk.2) (.slice Ao50 y369.length co50)) (fun _ hk => ⟨hk.1.1, hk.1.2⟩)⟩, ⟨bf_ BK358⟩, ⟨bf_ BK359⟩, ⟨bq_ BK363⟩, ⟨bl_⟩⟩
   replace H := it_ H; rcases H with ⟨(c60b0 : decide (1 < (t360.length : Int)) = true), H⟩ | ⟨(c60b0 : decide (1 < (t360.length : Int)) = false), H⟩
   rotate_left
   ·have c60b1 : decide (1 < t360.length) = false := n2_ c60b0
    simp only [Option.some.injEq, Prod.mk.injEq] at H
    obtain ⟨rfl, rfl⟩ := H
    have hnb77 := NB363_358.out
    have hnc77 := NB358_363.out
    have hnb78 := NB363_359.out
    have hnc78 := NB359_363.out
    have hcz79_0 : wr.cell? ⟨gb363, 0, none⟩ = some (u364000) := (blk_cell BK363.out 0).trans rfl
    have hfz79_0 := blk_frozen BK363.out 0
    obtain ⟨Ao80, co80, eo80⟩ := Kd.R_slice HO_364000.out
    subst eo80
    have hnb81 := NB359_358.out
    have hnc81 := NB358_359.out
    have hcz82_0 : wr.cell? ⟨gb359, 0, none⟩ = some (.slice none 0 0) := (blk_cell BK359.out 0).trans rfl
    have hfz82_0 := blk_frozen BK359.out 0
    go_wp2
    refine bodyPost_ret (results_ct rfl _ _ gb359 102 #[.slice Ao80 x364000_1.length co80] (0, 0) _ rfl (bq_ BK359) Try.underlying102 rfl (by kernel_rfl)) rfl ?_
    exact ⟨_, au3_0, by (with_reducible repeat (first | apply Kd.R_alloc | apply Kd.R_drewN | apply Kd.R_drew)); exact Kd.R_mono (Kd.R_far (p := ⟨gb359, 0, none⟩) (Kd.R_types HO_364000.out BK359.out (by decide)) (fun _ hk => hk.2) (.slice Ao80 x364000_1.length co80)) (fun _ hk => trivial), bl_⟩

   have c60b1 : decide (1 < t360.length) = true := n2_ c60b0
   obtain ⟨ji61, hji61⟩ : ∃ j_ : Int, (wrap64 ((t360.length : Int) - 1)) = j_ := ⟨_, rfl⟩
   replace H : (if 0 ≤ (ji61) then (if (ji61) < (x364000_1.length : Int) then (if (rdOf ByteArray.empty x364000_1 (ji61)).toList = ([] : List UInt8) then (some (x364000_1, a2)) else (some (x364000_1, (-1)))) else (none)) else (none)) = some (r1, r2) := by first | (rw [hji61] at H; exact H) | (simp only [hji61] at H ⊢; exact H)
   have hji61w : (IntKind.i64.wrap ((t360.length : Int) - 1)) = ji61 := (i64_w _).trans hji61
   replace H := itn_ H; rcases H with ⟨c62b0, H⟩
   replace H := itn_ H; rcases H with ⟨c63b0, H⟩
   by_cases c64 : (rdOf ByteArray.empty x364000_1 (ji61)).toList = ([] : List UInt8)
   rotate_left
   ·rw [if_neg c64] at H
    have c64b0 : ((rdOf ByteArray.empty x364000_1 (ji61)).toList == ([] : List UInt8)) = false := beq_eq_false_iff_ne.mpr c64
    have c64b1 : ((rdOf ByteArray.empty x364000_1 (ji61)).toList != ([] : List UInt8)) = true := bne_iff_ne.mpr c64
    simp only [Option.some.injEq, Prod.mk.injEq] at H
    obtain ⟨rfl, rfl⟩ := H
    have hnb71 := NB363_358.out
    have hnc71 := NB358_363.out
    have hnb72 := NB363_359.out
    have hnc72 := NB359_363.out
    have hcz73_0 : wr.cell? ⟨gb363, 0, none⟩ = some (u364000) := (blk_cell BK363.out 0).trans rfl
    have hfz73_0 := blk_frozen BK363.out 0
    obtain ⟨Ao74, co74, eo74⟩ := Kd.R_slice HO_364000.out
    subst eo74
    have p364 : 0 ≤ ((ji61) : Int) := od_
    have q364 : (ji61) < (x364000_1.length : Int) := od_
    obtain ⟨ad364, e364, hx364_0⟩ := Kd.at_string (Kd.R_reads' HO_364000.out).2.2 (ji61) p364 q364
    cases e364
    replace p364 := eq_true p364
    replace q364 := eq_true q364
    have hnb75 := NB359_358.out
    have hnc75 := NB358_359.out
    have hcz76_0 : wr.cell? ⟨gb359, 0, none⟩ = some (.slice none 0 0) := (blk_cell BK359.out 0).trans rfl
    have hfz76_0 := blk_frozen BK359.out 0
    go_wp2
    refine bodyPost_ret (results_ct rfl _ _ gb359 102 #[.slice (some ad364) x364000_1.length co74] (0, 0) _ rfl (bq_ BK359) Try.underlying102 rfl (by kernel_rfl)) rfl ?_
    exact ⟨_, au3_16, by (with_reducible repeat (first | apply Kd.R_alloc | apply Kd.R_drewN | apply Kd.R_drew)); exact Kd.R_mono (Kd.R_far (p := ⟨gb359, 0, none⟩) (Kd.R_types HO_364000.out BK359.out (by decide)) (fun _ hk => hk.2) (.slice (some ad364) x364000_1.length co74)) (fun _ hk => trivial), bl_⟩
   rw [if_pos c64] at H
   have c64b0 : ((rdOf ByteArray.empty x364000_1 (ji61)).toList == ([] : List UInt8)) = true := beq_iff_eq.mpr c64
   have c64b1 : ((rdOf ByteArray.empty x364000_1 (ji61)).toList != ([] : List UInt8)) = false := bne_eq_false_iff_eq.mpr c64
   clear c64
   simp only [Option.some.injEq, Prod.mk.injEq] at H
   obtain ⟨rfl, rfl⟩ := H
   have hnb65 := NB363_358.out
   have hnc65 := NB358_363.out
   have hnb66 := NB363_359.out
   have hnc66 := NB359_363.out
   have hcz67_0 : wr.cell? ⟨gb363, 0, none⟩ = some (u364000) := (blk_cell BK363.out 0).trans rfl
   have hfz67_0 := blk_frozen BK363.out 0
   obtain ⟨Ao68, co68, eo68⟩ := Kd.R_slice HO_364000.out
   subst eo68
   have p364 : 0 ≤ ((ji61) : Int) := od_
   have q364 : (ji61) < (x364000_1.length : Int) := od_
   obtain ⟨ad364, e364, hx364_0⟩ := Kd.at_string (Kd.R_reads' HO_364000.out).2.2 (ji61) p364 q364
   cases e364
   replace p364 := eq_true p364
   replace q364 := eq_true q364
   have hnb69 := NB359_358.out
   have hnc69 := NB358_359.out
   have hcz70_0 : wr.cell? ⟨gb359, 0, none⟩ = some (.slice none 0 0) := (blk_cell BK359.out 0).trans rfl
   have hfz70_0 := blk_frozen BK359.out 0
   go_wp2
   refine bodyPost_ret (results_ct rfl _ _ gb359 102 #[.slice (some ad364) x364000_1.length co68] (0, 0) _ rfl (bq_ BK359) Try.underlying102 rfl (by kernel_rfl)) rfl ?_
   exact ⟨_, au3_16, by (with_reducible repeat (first | apply Kd.R_alloc | apply Kd.R_drewN | apply Kd.R_drew)); exact Kd.R_mono (Kd.R_far (p := ⟨gb359, 0, none⟩) (Kd.R_types HO_364000.out BK359.out (by decide)) (fun _ hk => hk.2) (.slice (some ad364) x364000_1.length co68)) (fun _ hk => trivial), bl_⟩
/-! ### F41: function 41 -/
mutual
def F41.l0 : Nat → List ByteArray → List ByteArray → Int → List ByteArray → Int → Int → Int → Int → Int → Int → ByteArray → List (S102) → Option (ByteArray × (List (S102)) × Int × Int × Int)
  | 0, _, _, _, _, _, _, _, _, _, _, _, _ => none
  | k + 1, x5, x6, x8, x57, x58, x59, x373000, x373001, x373002, x373003, x388000, x388001 => if x59 < x58 then (if 0 ≤ x59 then (if x59 < (x57.length : Int) then (if x59 = 10 then (some ((⟨#[]⟩ : ByteArray), ([] : List (S102)), 0, x8, 3)) else ((F88.f k x373000 x373001 x373002 x373003 (rdOf ByteArray.empty x57 x59) x8).bind fun bt395 => (if bt395.2 < 0 then (if x59 = (wrap64 ((x6.length : Int) - 2)) then (if (bt395.1.length : Int) = 1 then (if 0 < (bt395.1.length : Int) then (F41.j1 k x5 x6 x8 (rdOf ByteArray.empty x57 x59) bt395.2 x57 x58 x59 ((rdOf ByteArray.empty bt395.1 0).toList == ([] : List UInt8)) x373000 x373001 x373002 x373003 x388000 x388001 bt395.1) else (none)) else (F41.j1 k x5 x6 x8 (rdOf ByteArray.empty x57 x59) bt395.2 x57 x58 x59 false x373000 x373001 x373002 x373003 x388000 x388001 bt395.1)) else (F41.j1 k x5 x6 x8 (rdOf ByteArray.empty x57 x59) bt395.2 x57 x58 x59 false x373000 x373001 x373002 x373003 x388000 x388001 bt395.1)) else (F41.j1 k x5 x6 x8 (rdOf ByteArray.empty x57 x59) bt395.2 x57 x58 x59 false x373000 x373001 x373002 x373003 x388000 x388001 bt395.1)))) else (none)) else (none)) else (if 0 < (x5.length : Int) then (some (x388000, x388001, wrap64 (((rdOf ByteArray.empty x5 0).size : Int) + 1), 0, 0)) else (none))
def F41.j1 : Nat → List ByteArray → List ByteArray → Int → ByteArray → Int → List ByteArray → Int → Int → Bool → Int → Int → Int → Int → ByteArray → List (S102) → List ByteArray → Option (ByteArray × (List (S102)) × Int × Int × Int)
  | 0, _, _, _, _, _, _, _, _, _, _, _, _, _, _, _, _ => none
  | k + 1, x5, x6, x8, x10, x12, x57, x58, x59, x96, x373000, x373001, x373002, x373003, x388000, x388001, x400000 => if x96 = true then (if x8 ≥ 0 then (some ((⟨#[]⟩ : ByteArray), ([] : List (S102)), 0, x8, 3)) else (if x388001.length < 5864062014805 then (F41.l0 k x5 x6 (wrap64 (x8 + (wrap64 ((x10.size : Int) + 1)))) x57 x58 (wrap64 (x59 + 1)) x373000 x373001 x373002 x373003 x388000 (x388001 ++ [(⟨x400000⟩ : S102)])) else (none))) else (if x12 ≥ 0 then (some ((⟨#[]⟩ : ByteArray), ([] : List (S102)), 0, x12, 3)) else (if x388001.length < 5864062014805 then (F41.l0 k x5 x6 (wrap64 (x8 + (wrap64 ((x10.size : Int) + 1)))) x57 x58 (wrap64 (x59 + 1)) x373000 x373001 x373002 x373003 x388000 (x388001 ++ [(⟨x400000⟩ : S102)])) else (none)))
end
def F41.f (k : Nat) (a0_0 : Int) (a0_1 : Int) (a0_2 : Int) (a0_3 : Int) (a1 : ByteArray) : Option (ByteArray × (List (S102)) × Int × Int × Int) := (F58.f k (([a1] : List ByteArray))).bind fun t377 => (if t377 = true then (some ((⟨#[]⟩ : ByteArray), ([] : List (S102)), 0, 0, 2)) else ((F60.f k a0_0 a0_1 a0_2 a0_3).bind fun t378 => (if t378 = true then (if a1.toList = ([] : List UInt8) then (some ((⟨#[]⟩ : ByteArray), ([] : List (S102)), 0, 0, 6)) else ((F69.f k a0_0 a0_1 a0_2 a0_3 a1 a0_0).bind fun t379 => (if (t379.length : Int) < 2 then (some ((⟨#[]⟩ : ByteArray), ([] : List (S102)), 0, 0, 4)) else (if 0 < (t379.length : Int) then ((F69.f k a0_0 a0_1 a0_2 a0_3 (rdOf ByteArray.empty t379 0) a0_1).bind fun t383 => (if 0 < (t383.length : Int) then ((F83.f (rdOf ByteArray.empty t383 0)).bind fun t388 => (if t388 = true then (if 1 ≤ (t383.length : Int) then ((some (t383.drop 1 : List ByteArray)).bind fun y389 => (F41.l0 k t379 t383 (wrap64 (((rdOf ByteArray.empty t383 0).size : Int) + 1)) y389 (y389.length : Int) 0 a0_0 a0_1 a0_2 a0_3 (rdOf ByteArray.empty t383 0) ([] : List (S102)))) else (none)) else (some ((⟨#[]⟩ : ByteArray), ([] : List (S102)), 0, 0, 3)))) else (none))) else (none))))) else (some ((⟨#[]⟩ : ByteArray), ([] : List (S102)), 0, 0, 1)))))
theorem F41.mono_l : ∀ k, (∀ y0 y1 y2 y3 y4 y5 y6 y7 y8 y9 y10 y11, LeO (F41.l0 k y0 y1 y2 y3 y4 y5 y6 y7 y8 y9 y10 y11) (F41.l0 (k + 1) y0 y1 y2 y3 y4 y5 y6 y7 y8 y9 y10 y11)) ∧ (∀ y0 y1 y2 y3 y4 y5 y6 y7 y8 y9 y10 y11 y12 y13 y14 y15, LeO (F41.j1 k y0 y1 y2 y3 y4 y5 y6 y7 y8 y9 y10 y11 y12 y13 y14 y15) (F41.j1 (k + 1) y0 y1 y2 y3 y4 y5 y6 y7 y8 y9 y10 y11 y12 y13 y14 y15))
 | 0 => ⟨fun _ _ _ _ _ _ _ _ _ _ _ _ r h => by simp [F41.l0] at h, fun _ _ _ _ _ _ _ _ _ _ _ _ _ _ _ _ r h => by simp [F41.j1] at h⟩
 | k + 1 => by
  obtain ⟨ih0, ih1⟩ := F41.mono_l k
  refine ⟨?_, ?_⟩
  rotate_left
  ·intro y0 y1 y2 y3 y4 y5 y6 y7 y8 y9 y10 y11 y12 y13 y14 y15
   unfold F41.j1
   repeat' with_reducible first | exact ih0 _ _ _ _ _ _ _ _ _ _ _ _ | exact ih1 _ _ _ _ _ _ _ _ _ _ _ _ _ _ _ _ | exact F60.mono _ _ _ _ _ | exact F69.mono _ _ _ _ _ _ _ | exact F88.mono _ _ _ _ _ _ _ | exact F58.mono _ _ | exact LeO.refl _ | exact LeO.none _ | refine LeO.ite ?_ ?_ | refine LeO.bind ?_ (fun _ => ?_)
  intro y0 y1 y2 y3 y4 y5 y6 y7 y8 y9 y10 y11
  unfold F41.l0
  repeat' with_reducible first | exact ih0 _ _ _ _ _ _ _ _ _ _ _ _ | exact ih1 _ _ _ _ _ _ _ _ _ _ _ _ _ _ _ _ | exact F60.mono _ _ _ _ _ | exact F69.mono _ _ _ _ _ _ _ | exact F88.mono _ _ _ _ _ _ _ | exact F58.mono _ _ | exact LeO.refl _ | exact LeO.none _ | refine LeO.ite ?_ ?_ | refine LeO.bind ?_ (fun _ => ?_)
theorem F41.mono : ∀ a0 a1 a2 a3 a4 k, LeO (F41.f k a0 a1 a2 a3 a4) (F41.f (k + 1) a0 a1 a2 a3 a4) := by
 intro a0 a1 a2 a3 a4 k
 obtain ⟨ih0, ih1⟩ := F41.mono_l k
 unfold F41.f
 repeat' with_reducible first | exact ih0 _ _ _ _ _ _ _ _ _ _ _ _ | exact ih1 _ _ _ _ _ _ _ _ _ _ _ _ _ _ _ _ | exact F60.mono _ _ _ _ _ | exact F69.mono _ _ _ _ _ _ _ | exact F88.mono _ _ _ _ _ _ _ | exact F58.mono _ _ | exact LeO.refl _ | exact LeO.none _ | refine LeO.ite ?_ ?_ | refine LeO.bind ?_ (fun _ => ?_)
def F41.T10 : Bool × List (List Nat × List Nat) := (true, [([], []), ([], []), ([1], [1]), ([2], [2]), ([], []), ([4], [4]), ([0, 3, 5], [0, 3, 5]), ([6, 6, 0, 1, 2, 3, 4, 5, 6], [6])])
def F41.B10 : List Nat := [0, 0, 2, 6, 0, 16, 63, 127]
theorem F41.tab10 : rtab .any (opsOf Try.f41 10) = F41.T10 := by kernel_rfl
theorem F41.bits10 : waitsOk F41.T10.2 F41.B10 = true := by kernel_rfl
def F41.T28 : Bool × List (List Nat × List Nat) := (true, [([], []), ([], []), ([1], [1]), ([2], [2]), ([3], [3]), ([4], [4]), ([0, 5], [0, 5]), ([6, 0, 1, 2, 3, 4, 5, 6], [6])])
def F41.B28 : List Nat := [0, 0, 2, 6, 14, 30, 63, 127]
theorem F41.tab28 : rtab .any (opsOf Try.f41 28) = F41.T28 := by kernel_rfl
theorem F41.bits28 : waitsOk F41.T28.2 F41.B28 = true := by kernel_rfl
theorem F41.calls (k : Nat) (a0_0 : Int) (a0_1 : Int) (a0_2 : Int) (a0_3 : Int) (a1 : ByteArray) (r1 : ByteArray) (r2 : List (S102)) (r3 : Int) (r4 : Int) (r5 : Int) (w : World) (h : F41.f k a0_0 a0_1 a0_2 a0_3 a1 = some (r1, r2, r3, r4, r5)) :
  Calls Try.prog 41 #[.agg #[.int .i64 a0_0, .int .i64 a0_1, .int .i64 a0_2, .int .i64 a0_3], .string a1] w fun e w' => ∃ v1_ : Value, e = .returned (.agg #[.string r1, v1_, .int .i64 r3, .int .i64 r4, .int .i64 r5]) ∧ Kd.S k102 102 w' w.heap.size (fun _ => True) v1_ r2 ∧ Below w.heap.size w w' := by
 have hu23 := Try.underlying23
 have hu66 := Try.underlying66
 have hu59 := Try.underlying59
 have hu102 := Try.underlying102
 have HB := am_ (Below.refl w.heap.size w)
 have H : ((F58.f k (([a1] : List ByteArray))).bind fun t377 => (if t377 = true then (some ((⟨#[]⟩ : ByteArray), ([] : List (S102)), 0, 0, 2)) else ((F60.f k a0_0 a0_1 a0_2 a0_3).bind fun t378 => (if t378 = true then (if a1.toList = ([] : List UInt8) then (some ((⟨#[]⟩ : ByteArray), ([] : List (S102)), 0, 0, 6)) else ((F69.f k a0_0 a0_1 a0_2 a0_3 a1 a0_0).bind fun t379 => (if (t379.length : Int) < 2 then (some ((⟨#[]⟩ : ByteArray), ([] : List (S102)), 0, 0, 4)) else (if 0 < (t379.length : Int) then ((F69.f k a0_0 a0_1 a0_2 a0_3 (rdOf ByteArray.empty t379 0) a0_1).bind fun t383 => (if 0 < (t383.length : Int) then ((F83.f (rdOf ByteArray.empty t383 0)).bind fun t388 => (if t388 = true then (if 1 ≤ (t383.length : Int) then ((some (t383.drop 1 : List ByteArray)).bind fun y389 => (F41.l0 k t379 t383 (wrap64 (((rdOf ByteArray.empty t383 0).size : Int) + 1)) y389 (y389.length : Int) 0 a0_0 a0_1 a0_2 a0_3 (rdOf ByteArray.empty t383 0) ([] : List (S102)))) else (none)) else (some ((⟨#[]⟩ : ByteArray), ([] : List (S102)), 0, 0, 3)))) else (none))) else (none))))) else (some ((⟨#[]⟩ : ByteArray), ([] : List (S102)), 0, 0, 1)))))) = some (r1, r2, r3, r4, r5) := h
 clear h
 obtain ⟨y374, hy374⟩ : ∃ y_ : List ByteArray, y_ = (([a1] : List ByteArray)) := ⟨_, rfl⟩
 replace H : ((F58.f k y374).bind fun t377 => (if t377 = true then (some ((⟨#[]⟩ : ByteArray), ([] : List (S102)), 0, 0, 2)) else ((F60.f k a0_0 a0_1 a0_2 a0_3).bind fun t378 => (if t378 = true then (if a1.toList = ([] : List UInt8) then (some ((⟨#[]⟩ : ByteArray), ([] : List (S102)), 0, 0, 6)) else ((F69.f k a0_0 a0_1 a0_2 a0_3 a1 a0_0).bind fun t379 => (if (t379.length : Int) < 2 then (some ((⟨#[]⟩ : ByteArray), ([] : List (S102)), 0, 0, 4)) else (if 0 < (t379.length : Int) then ((F69.f k a0_0 a0_1 a0_2 a0_3 (rdOf ByteArray.empty t379 0) a0_1).bind fun t383 => (if 0 < (t383.length : Int) then ((F83.f (rdOf ByteArray.empty t383 0)).bind fun t388 => (if t388 = true then (if 1 ≤ (t383.length : Int) then ((some (t383.drop 1 : List ByteArray)).bind fun y389 => (F41.l0 k t379 t383 (wrap64 (((rdOf ByteArray.empty t383 0).size : Int) + 1)) y389 (y389.length : Int) 0 a0_0 a0_1 a0_2 a0_3 (rdOf ByteArray.empty t383 0) ([] : List (S102)))) else (none)) else (some ((⟨#[]⟩ : ByteArray), ([] : List (S102)), 0, 0, 3)))) else (none))) else (none))))) else (some ((⟨#[]⟩ : ByteArray), ([] : List (S102)), 0, 0, 1)))))) = some (r1, r2, r3, r4, r5) := by first | (rw [hy374]; exact H) | exact H
 have Ny374 := am_ hy374
 clear hy374
 replace H := bi_ H; rcases H with ⟨t377, A3, H⟩
 replace H := ib_ H; rcases H with ⟨rfl, H⟩ | ⟨rfl, H⟩
 ·simp only [Option.some.injEq, Prod.mk.injEq] at H
  obtain ⟨rfl, rfl, rfl, rfl, rfl⟩ := H
  go_enter Try.func41, Try.ntmps41
  go_wp2_with (first | ((with_reducible refine gate_dst (N := 2) rfl ?_); (try (refine gate_guard (by rfl) ?_; dsimp only)); refine be_ 2 #[.int .i64 a0_0, .int .i64 a0_1, .int .i64 a0_2, .int .i64 a0_3] 23 ?_; intro gb372 hg w5 hbox hb; have BK372 := am_ (hbox); have GW372 := am_ (gw_ hg bl_); have GE372 := GW372; replace HB := hs_ w hb; clear hb hbox hg) | ((with_reducible refine gate_dst (N := 4) rfl ?_); (try (refine gate_guard (by rfl) ?_; dsimp only)); refine be_ 4 #[.string (⟨#[]⟩ : ByteArray), .slice none 0 0, .int .i64 0, .int .i64 0, .int .i64 0] 66 ?_; intro gb373 hg w6 hbox hb; have BK373 := am_ (hbox); have GW373 := am_ (gw_ hg bl_); have GE373 := GW373; replace HB := hs_ w hb; have NB372_373 := am_ (gn_ hg (blkl_ BK372)); have NB373_372 := am_ (gm_ hg (blkl_ BK372)); replace BK372 := bb_ BK372 hb; clear hb hbox hg) | ((with_reducible refine gate_dst (N := 15) rfl ?_); (try (refine gate_guard (by rfl) ?_; dsimp only)); refine Kd.R_lit Kd.string _ 9 ?hg (N := 15) ?hd (xs := ([a1] : List ByteArray)) (inner := [.string a1]) (ok := fun _ => True) (okp := fun _ => True) ?hr ?hp (fun _ hk => hk) trivial (Below.refl _ _) (Nat.le_refl _) (by simp) ?_; (case hd => rfl); (case hg => rfl); (case hr => exact hr_); (case hp => exact au3_11); intro v375 w7 ho8 hb hg_ hnew_; clear hg_ hnew_; (first | rw [← Ny374.out] at ho8 | (simp only [Int.reduceToNat] at ho8; rw [← Ny374.out] at ho8)); have HO376 := am_ (Kd.R_lower ho8 (below_size bl_)); replace BK372 := bb_ BK372 hb; replace BK373 := bb_ BK373 hb; replace HB := hs_ w hb; clear hb ho8; obtain ⟨Ao9, co9, eo9⟩ := Kd.R_slice HO376.out; subst eo9) | (go_at_call 58; (with_reducible refine (F58.calls k _ _ y374 true _ ?s1 ?s2 A3.out).mono ?_); (case s1 => exact au3_3); (case s2 => exact au3_24); rintro e w' ⟨rfl, ⟨nd, rfl⟩⟩; (try clear A3); (try (rw [drewN_self w7]; generalize hq_ : World.drewN w7 _ = w7; have n0_ : Aside0 (Kd.R Kd.string 9 w7 w.heap.size (fun _ => True) (.slice Ao9 y374.length co9) y374) := ⟨by rw [← hq_]; exact (rk_ HO376)⟩; have n1_ : Aside0 (w7.heap[gb372]? = some (.cells #[.int .i64 a0_0, .int .i64 a0_1, .int .i64 a0_2, .int .i64 a0_3] 23 (0, 0))) := ⟨by rw [← hq_]; exact (bk_ BK372)⟩; have n2_ : Aside0 (w7.heap[gb373]? = some (.cells #[.string (⟨#[]⟩ : ByteArray), .slice none 0 0, .int .i64 0, .int .i64 0, .int .i64 0] 66 (0, 0))) := ⟨by rw [← hq_]; exact (bk_ BK373)⟩; have n3_ : Aside0 (Below w.heap.size w w7) := ⟨by rw [← hq_]; exact bl_⟩; clear HO376 BK372 BK373 HB hq_; have HO376 := n0_; have BK372 := n1_; have BK373 := n2_; have HB := n3_; clear n0_ n1_ n2_ n3_)); have hnb10 := NB373_372.out; have hnc10 := NB372_373.out; obtain ⟨hcz11_0, hcz11_1, hcz11_2, hcz11_3, hcz11_4, hfz11_0, hfz11_1, hfz11_2, hfz11_3, hfz11_4⟩ := cellsF5 BK373.out))
  refine bodyPost_ret (results_cell_row rfl _ _ gb373 66 #[.string (⟨#[]⟩ : ByteArray), .slice none 0 0, .int .i64 0, .int .i64 0, .int .i64 2] (0, 0) _ rfl (bq_ BK373) Try.underlying66 rfl (by kernel_rfl)) rfl ?_
  exact ⟨_, au3_0, au3_1, bl_⟩
 replace H := bi_ H; rcases H with ⟨t378, A12, H⟩
 replace H := ib_ H; rcases H with ⟨rfl, H⟩ | ⟨rfl, H⟩
 rotate_left
 ·simp only [Option.some.injEq, Prod.mk.injEq] at H
  obtain ⟨rfl, rfl, rfl, rfl, rfl⟩ := H
  go_enter Try.func41, Try.ntmps41
  go_wp2_with (first | ((with_reducible refine gate_dst (N := 2) rfl ?_); (try (refine gate_guard (by rfl) ?_; dsimp only)); refine be_ 2 #[.int .i64 a0_0, .int .i64 a0_1, .int .i64 a0_2, .int .i64 a0_3] 23 ?_; intro gb372 hg w156 hbox hb; have BK372 := am_ (hbox); have GW372 := am_ (gw_ hg bl_); have GE372 := GW372; replace HB := hs_ w hb; clear hb hbox hg) | ((with_reducible refine gate_dst (N := 4) rfl ?_); (try (refine gate_guard (by rfl) ?_; dsimp only)); refine be_ 4 #[.string (⟨#[]⟩ : ByteArray), .slice none 0 0, .int .i64 0, .int .i64 0, .int .i64 0] 66 ?_; intro gb373 hg w157 hbox hb; have BK373 := am_ (hbox); have GW373 := am_ (gw_ hg bl_); have GE373 := GW373; replace HB := hs_ w hb; have NB372_373 := am_ (gn_ hg (blkl_ BK372)); have NB373_372 := am_ (gm_ hg (blkl_ BK372)); replace BK372 := bb_ BK372 hb; clear hb hbox hg) | ((with_reducible refine gate_dst (N := 15) rfl ?_); (try (refine gate_guard (by rfl) ?_; dsimp only)); refine Kd.R_lit Kd.string _ 9 ?hg (N := 15) ?hd (xs := ([a1] : List ByteArray)) (inner := [.string a1]) (ok := fun _ => True) (okp := fun _ => True) ?hr ?hp (fun _ hk => hk) trivial (Below.refl _ _) (Nat.le_refl _) (by simp) ?_; (case hd => rfl); (case hg => rfl); (case hr => exact hr_); (case hp => exact au3_11); intro v375 w158 ho159 hb hg_ hnew_; clear hg_ hnew_; (first | rw [← Ny374.out] at ho159 | (simp only [Int.reduceToNat] at ho159; rw [← Ny374.out] at ho159)); have HO376 := am_ (Kd.R_lower ho159 (below_size bl_)); replace BK372 := bb_ BK372 hb; replace BK373 := bb_ BK373 hb; replace HB := hs_ w hb; clear hb ho159; obtain ⟨Ao160, co160, eo160⟩ := Kd.R_slice HO376.out; subst eo160) | (go_at_call 58; (with_reducible refine (F58.calls k _ _ y374 false _ ?s1 ?s2 A3.out).mono ?_); (case s1 => exact au3_3); (case s2 => exact au3_24); rintro e w' ⟨rfl, ⟨nd, rfl⟩⟩; (try clear A3); (try (rw [drewN_self w158]; generalize hq_ : World.drewN w158 _ = w158; have n0_ : Aside0 (Kd.R Kd.string 9 w158 w.heap.size (fun _ => True) (.slice Ao160 y374.length co160) y374) := ⟨by rw [← hq_]; exact (rk_ HO376)⟩; have n1_ : Aside0 (w158.heap[gb372]? = some (.cells #[.int .i64 a0_0, .int .i64 a0_1, .int .i64 a0_2, .int .i64 a0_3] 23 (0, 0))) := ⟨by rw [← hq_]; exact (bk_ BK372)⟩; have n2_ : Aside0 (w158.heap[gb373]? = some (.cells #[.string (⟨#[]⟩ : ByteArray), .slice none 0 0, .int .i64 0, .int .i64 0, .int .i64 0] 66 (0, 0))) := ⟨by rw [← hq_]; exact (bk_ BK373)⟩; have n3_ : Aside0 (Below w.heap.size w w158) := ⟨by rw [← hq_]; exact bl_⟩; clear HO376 BK372 BK373 HB hq_; have HO376 := n0_; have BK372 := n1_; have BK373 := n2_; have HB := n3_; clear n0_ n1_ n2_ n3_)); have hnb161 := NB372_373.out; have hnc161 := NB373_372.out; obtain ⟨hcz162_0, hcz162_1, hcz162_2, hcz162_3, hfz162_0, hfz162_1, hfz162_2, hfz162_3⟩ := cellsF4 BK372.out) | (go_at_call 60; (with_reducible refine (F60.calls k a0_0 a0_1 a0_2 a0_3 false _ A12.out).mono ?_); rintro e w163 ⟨rfl, hb⟩; (try clear A12); replace HO376 := am_ (Kd.R_below (rk_ HO376) hb); replace BK372 := bb_ BK372 hb; replace BK373 := bb_ BK373 hb; replace HB := hs_ w hb; (try clear hb); obtain ⟨hcz164_0, hcz164_1, hcz164_2, hcz164_3, hcz164_4, hfz164_0, hfz164_1, hfz164_2, hfz164_3, hfz164_4⟩ := cellsF5 BK373.out))
  refine bodyPost_ret (results_cell_row rfl _ _ gb373 66 #[.string (⟨#[]⟩ : ByteArray), .slice none 0 0, .int .i64 0, .int .i64 0, .int .i64 1] (0, 0) _ rfl (bq_ BK373) Try.underlying66 rfl (by kernel_rfl)) rfl ?_
  exact ⟨_, au3_0, au3_1, bl_⟩

 by_cases c14 : a1.toList = ([] : List UInt8)
 ·rw [if_pos c14] at H
  have c14b0 : (a1.toList == ([] : List UInt8)) = true := beq_iff_eq.mpr c14
  have c14b1 : (a1.toList != ([] : List UInt8)) = false := bne_eq_false_iff_eq.mpr c14
  clear c14
  simp only [Option.some.injEq, Prod.mk.injEq] at H
  obtain ⟨rfl, rfl, rfl, rfl, rfl⟩ := H
  go_enter Try.func41, Try.ntmps41
  go_wp2_with (first | ((with_reducible refine gate_dst (N := 2) rfl ?_); (try (refine gate_guard (by rfl) ?_; dsimp only)); refine be_ 2 #[.int .i64 a0_0, .int .i64 a0_1, .int .i64 a0_2, .int .i64 a0_3] 23 ?_; intro gb372 hg w15 hbox hb; have BK372 := am_ (hbox); have GW372 := am_ (gw_ hg bl_); have GE372 := GW372; replace HB := hs_ w hb; clear hb hbox hg) | ((with_reducible refine gate_dst (N := 4) rfl ?_); (try (refine gate_guard (by rfl) ?_; dsimp only)); refine be_ 4 #[.string (⟨#[]⟩ : ByteArray), .slice none 0 0, .int .i64 0, .int .i64 0, .int .i64 0] 66 ?_; intro gb373 hg w16 hbox hb; have BK373 := am_ (hbox); have GW373 := am_ (gw_ hg bl_); have GE373 := GW373; replace HB := hs_ w hb; have NB372_373 := am_ (gn_ hg (blkl_ BK372)); have NB373_372 := am_ (gm_ hg (blkl_ BK372)); replace BK372 := bb_ BK372 hb; clear hb hbox hg) | ((with_reducible refine gate_dst (N := 15) rfl ?_); (try (refine gate_guard (by rfl) ?_; dsimp only)); refine Kd.R_lit Kd.string _ 9 ?hg (N := 15) ?hd (xs := ([a1] : List ByteArray)) (inner := [.string a1]) (ok := fun _ => True) (okp := fun _ => True) ?hr ?hp (fun _ hk => hk) trivial (Below.refl _ _) (Nat.le_refl _) (by simp) ?_; (case hd => rfl); (case hg => rfl); (case hr => exact hr_); (case hp => exact au3_11); intro v375 w17 ho18 hb hg_ hnew_; clear hg_ hnew_; (first | rw [← Ny374.out] at ho18 | (simp only [Int.reduceToNat] at ho18; rw [← Ny374.out] at ho18)); have HO376 := am_ (Kd.R_lower ho18 (below_size bl_)); replace BK372 := bb_ BK372 hb; replace BK373 := bb_ BK373 hb; replace HB := hs_ w hb; clear hb ho18; obtain ⟨Ao19, co19, eo19⟩ := Kd.R_slice HO376.out; subst eo19) | (go_at_call 58; (with_reducible refine (F58.calls k _ _ y374 false _ ?s1 ?s2 A3.out).mono ?_); (case s1 => exact au3_3); (case s2 => exact au3_24); rintro e w' ⟨rfl, ⟨nd, rfl⟩⟩; (try clear A3); (try (rw [drewN_self w17]; generalize hq_ : World.drewN w17 _ = w17; have n0_ : Aside0 (Kd.R Kd.string 9 w17 w.heap.size (fun _ => True) (.slice Ao19 y374.length co19) y374) := ⟨by rw [← hq_]; exact (rk_ HO376)⟩; have n1_ : Aside0 (w17.heap[gb372]? = some (.cells #[.int .i64 a0_0, .int .i64 a0_1, .int .i64 a0_2, .int .i64 a0_3] 23 (0, 0))) := ⟨by rw [← hq_]; exact (bk_ BK372)⟩; have n2_ : Aside0 (w17.heap[gb373]? = some (.cells #[.string (⟨#[]⟩ : ByteArray), .slice none 0 0, .int .i64 0, .int .i64 0, .int .i64 0] 66 (0, 0))) := ⟨by rw [← hq_]; exact (bk_ BK373)⟩; have n3_ : Aside0 (Below w.heap.size w w17) := ⟨by rw [← hq_]; exact bl_⟩; clear HO376 BK372 BK373 HB hq_; have HO376 := n0_; have BK372 := n1_; have BK373 := n2_; have HB := n3_; clear n0_ n1_ n2_ n3_)); have hnb20 := NB372_373.out; have hnc20 := NB373_372.out; obtain ⟨hcz21_0, hcz21_1, hcz21_2, hcz21_3, hfz21_0, hfz21_1, hfz21_2, hfz21_3⟩ := cellsF4 BK372.out) | (go_at_call 60; (with_reducible refine (F60.calls k a0_0 a0_1 a0_2 a0_3 true _ A12.out).mono ?_); rintro e w22 ⟨rfl, hb⟩; (try clear A12); replace HO376 := am_ (Kd.R_below (rk_ HO376) hb); replace BK372 := bb_ BK372 hb; replace BK373 := bb_ BK373 hb; replace HB := hs_ w hb; (try clear hb); obtain ⟨hcz23_0, hcz23_1, hcz23_2, hcz23_3, hcz23_4, hfz23_0, hfz23_1, hfz23_2, hfz23_3, hfz23_4⟩ := cellsF5 BK373.out))
  refine bodyPost_ret (results_cell_row rfl _ _ gb373 66 #[.string (⟨#[]⟩ : ByteArray), .slice none 0 0, .int .i64 0, .int .i64 0, .int .i64 6] (0, 0) _ rfl (bq_ BK373) Try.underlying66 rfl (by kernel_rfl)) rfl ?_
  exact ⟨_, au3_0, au3_1, bl_⟩
 rw [if_neg c14] at H
 have c14b0 : (a1.toList == ([] : List UInt8)) = false := beq_eq_false_iff_ne.mpr c14
 have c14b1 : (a1.toList != ([] : List UInt8)) = true := bne_iff_ne.mpr c14
 replace H := bi_ H; rcases H with ⟨t379, A24, H⟩
 replace H := it_ H; rcases H with ⟨c25b0, H⟩ | ⟨c25b0, H⟩
 ·have c25b1 : decide (t379.length < 2) = true := n2_ c25b0
  simp only [Option.some.injEq, Prod.mk.injEq] at H
  obtain ⟨rfl, rfl, rfl, rfl, rfl⟩ := H
  go_enter Try.func41, Try.ntmps41
  go_wp2_with (first | ((with_reducible refine gate_dst (N := 2) rfl ?_); (try (refine gate_guard (by rfl) ?_; dsimp only)); refine be_ 2 #[.int .i64 a0_0, .int .i64 a0_1, .int .i64 a0_2, .int .i64 a0_3] 23 ?_; intro gb372 hg w26 hbox hb; have BK372 := am_ (hbox); have GW372 := am_ (gw_ hg bl_); have GE372 := GW372; replace HB := hs_ w hb; clear hb hbox hg) | ((with_reducible refine gate_dst (N := 4) rfl ?_); (try (refine gate_guard (by rfl) ?_; dsimp only)); refine be_ 4 #[.string (⟨#[]⟩ : ByteArray), .slice none 0 0, .int .i64 0, .int .i64 0, .int .i64 0] 66 ?_; intro gb373 hg w27 hbox hb; have BK373 := am_ (hbox); have GW373 := am_ (gw_ hg bl_); have GE373 := GW373; replace HB := hs_ w hb; have NB372_373 := am_ (gn_ hg (blkl_ BK372)); have NB373_372 := am_ (gm_ hg (blkl_ BK372)); replace BK372 := bb_ BK372 hb; clear hb hbox hg) | ((with_reducible refine gate_dst (N := 15) rfl ?_); (try (refine gate_guard (by rfl) ?_; dsimp only)); refine Kd.R_lit Kd.string _ 9 ?hg (N := 15) ?hd (xs := ([a1] : List ByteArray)) (inner := [.string a1]) (ok := fun _ => True) (okp := fun _ => True) ?hr ?hp (fun _ hk => hk) trivial (Below.refl _ _) (Nat.le_refl _) (by simp) ?_; (case hd => rfl); (case hg => rfl); (case hr => exact hr_); (case hp => exact au3_11); intro v375 w28 ho29 hb hg_ hnew_; clear hg_ hnew_; (first | rw [← Ny374.out] at ho29 | (simp only [Int.reduceToNat] at ho29; rw [← Ny374.out] at ho29)); have HO376 := am_ (Kd.R_lower ho29 (below_size bl_)); replace BK372 := bb_ BK372 hb; replace BK373 := bb_ BK373 hb; replace HB := hs_ w hb; clear hb ho29; obtain ⟨Ao30, co30, eo30⟩ := Kd.R_slice HO376.out; subst eo30) | (go_at_call 58; (with_reducible refine (F58.calls k _ _ y374 false _ ?s1 ?s2 A3.out).mono ?_); (case s1 => exact au3_3); (case s2 => exact au3_24); rintro e w' ⟨rfl, ⟨nd, rfl⟩⟩; (try clear A3); (try (rw [drewN_self w28]; generalize hq_ : World.drewN w28 _ = w28; have n0_ : Aside0 (Kd.R Kd.string 9 w28 w.heap.size (fun _ => True) (.slice Ao30 y374.length co30) y374) := ⟨by rw [← hq_]; exact (rk_ HO376)⟩; have n1_ : Aside0 (w28.heap[gb372]? = some (.cells #[.int .i64 a0_0, .int .i64 a0_1, .int .i64 a0_2, .int .i64 a0_3] 23 (0, 0))) := ⟨by rw [← hq_]; exact (bk_ BK372)⟩; have n2_ : Aside0 (w28.heap[gb373]? = some (.cells #[.string (⟨#[]⟩ : ByteArray), .slice none 0 0, .int .i64 0, .int .i64 0, .int .i64 0] 66 (0, 0))) := ⟨by rw [← hq_]; exact (bk_ BK373)⟩; have n3_ : Aside0 (Below w.heap.size w w28) := ⟨by rw [← hq_]; exact bl_⟩; clear HO376 BK372 BK373 HB hq_; have HO376 := n0_; have BK372 := n1_; have BK373 := n2_; have HB := n3_; clear n0_ n1_ n2_ n3_)); have hnb31 := NB372_373.out; have hnc31 := NB373_372.out; obtain ⟨hcz32_0, hcz32_1, hcz32_2, hcz32_3, hfz32_0, hfz32_1, hfz32_2, hfz32_3⟩ := cellsF4 BK372.out) | (go_at_call 60; (with_reducible refine (F60.calls k a0_0 a0_1 a0_2 a0_3 true _ A12.out).mono ?_); rintro e w33 ⟨rfl, hb⟩; (try clear A12); replace HO376 := am_ (Kd.R_below (rk_ HO376) hb); replace BK372 := bb_ BK372 hb; replace BK373 := bb_ BK373 hb; replace HB := hs_ w hb; (try clear hb); obtain ⟨hcz34_0, hcz34_1, hcz34_2, hcz34_3, hfz34_0, hfz34_1, hfz34_2, hfz34_3⟩ := cellsF4 BK372.out) | (go_at_call 69; (with_reducible refine (F69.calls k a0_0 a0_1 a0_2 a0_3 a1 a0_0 t379 _ A24.out).mono ?_); rintro e w35 ⟨v380, rfl, ho0, hb⟩; (try clear A24); have HO381 := am_ (Kd.R_lower (Kd.R_new' ho0 (Kd.R_lt (rk_ HO376))) (below_size bl_)); replace HO376 := am_ (Kd.R_elder' (rk_ HO376) (Kd.R_base ho0) hb); replace BK372 := bb_ BK372 hb; replace BK373 := bb_ BK373 hb; replace HB := hs_ w hb; (try clear hb); (try clear ho0); obtain ⟨Ao36, co36, eo36⟩ := Kd.R_slice HO381.out; subst eo36; obtain ⟨hcz37_0, hcz37_1, hcz37_2, hcz37_3, hcz37_4, hfz37_0, hfz37_1, hfz37_2, hfz37_3, hfz37_4⟩ := cellsF5 BK373.out))
  refine bodyPost_ret (results_cell_row rfl _ _ gb373 66 #[.string (⟨#[]⟩ : ByteArray), .slice none 0 0, .int .i64 0, .int .i64 0, .int .i64 4] (0, 0) _ rfl (bq_ BK373) Try.underlying66 rfl (by kernel_rfl)) rfl ?_
  exact ⟨_, au3_0, au3_1, bl_⟩
 have c25b1 : decide (t379.length < 2) = false := n2_ c25b0
 replace H := itn_ H; rcases H with ⟨c38b0, H⟩
 have c38b1 : decide (0 < t379.length) = true := n2_ c38b0
 replace H := bi_ H; rcases H with ⟨t383, A39, H⟩
 replace H := itn_ H; rcases H with ⟨c40b0, H⟩
 have c40b1 : decide (0 < t383.length) = true := n2_ c40b0
 replace H := bi_ H; rcases H with ⟨t388, A41, H⟩
 replace H := ib_ H; rcases H with ⟨rfl, H⟩ | ⟨rfl, H⟩
 rotate_left
 ·simp only [Option.some.injEq, Prod.mk.injEq] at H
  obtain ⟨rfl, rfl, rfl, rfl, rfl⟩ := H
  go_enter Try.func41, Try.ntmps41
  try go_wp2_with (first | ((with_reducible refine gate_dst (N := 2) rfl ?_); (try (refine gate_guard (by rfl) ?_; dsimp only)); refine be_ 2 #[.int .i64 a0_0, .int .i64 a0_1, .int .i64 a0_2, .int .i64 a0_3] 23 ?_; intro gb372 hg w137 hbox hb; have BK372 := am_ (hbox); have GW372 := am_ (gw_ hg bl_); have GE372 := GW372; replace HB := hs_ w hb; clear hb hbox hg) | ((with_reducible refine gate_dst (N := 4) rfl ?_); (try (refine gate_guard (by rfl) ?_; dsimp only)); refine be_ 4 #[.string (⟨#[]⟩ : ByteArray), .slice none 0 0, .int .i64 0, .int .i64 0, .int .i64 0] 66 ?_; intro gb373 hg w138 hbox hb; have BK373 := am_ (hbox); have GW373 := am_ (gw_ hg bl_); have GE373 := GW373; replace HB := hs_ w hb; have NB372_373 := am_ (gn_ hg (blkl_ BK372)); have NB373_372 := am_ (gm_ hg (blkl_ BK372)); replace BK372 := bb_ BK372 hb; clear hb hbox hg) | ((with_reducible refine gate_dst (N := 15) rfl ?_); (try (refine gate_guard (by rfl) ?_; dsimp only)); refine Kd.R_lit Kd.string _ 9 ?hg (N := 15) ?hd (xs := ([a1] : List ByteArray)) (inner := [.string a1]) (ok := fun _ => True) (okp := fun _ => True) ?hr ?hp (fun _ hk => hk) trivial (Below.refl _ _) (Nat.le_refl _) (by simp) ?_; (case hd => rfl); (case hg => rfl); (case hr => exact hr_); (case hp => exact au3_11); intro v375 w139 ho140 hb hg_ hnew_; clear hg_ hnew_; (first | rw [← Ny374.out] at ho140 | (simp only [Int.reduceToNat] at ho140; rw [← Ny374.out] at ho140)); have HO376 := am_ (Kd.R_lower ho140 (below_size bl_)); replace BK372 := bb_ BK372 hb; replace BK373 := bb_ BK373 hb; replace HB := hs_ w hb; clear hb ho140; obtain ⟨Ao141, co141, eo141⟩ := Kd.R_slice HO376.out; subst eo141) | (go_at_call 58; (with_reducible refine (F58.calls k _ _ y374 false _ ?s1 ?s2 A3.out).mono ?_); (case s1 => exact au3_3); (case s2 => exact au3_24); rintro e w' ⟨rfl, ⟨nd, rfl⟩⟩; (try clear A3); (try (rw [drewN_self w139]; generalize hq_ : World.drewN w139 _ = w139; have n0_ : Aside0 (Kd.R Kd.string 9 w139 w.heap.size (fun _ => True) (.slice Ao141 y374.length co141) y374) := ⟨by rw [← hq_]; exact (rk_ HO376)⟩; have n1_ : Aside0 (w139.heap[gb372]? = some (.cells #[.int .i64 a0_0, .int .i64 a0_1, .int .i64 a0_2, .int .i64 a0_3] 23 (0, 0))) := ⟨by rw [← hq_]; exact (bk_ BK372)⟩; have n2_ : Aside0 (w139.heap[gb373]? = some (.cells #[.string (⟨#[]⟩ : ByteArray), .slice none 0 0, .int .i64 0, .int .i64 0, .int .i64 0] 66 (0, 0))) := ⟨by rw [← hq_]; exact (bk_ BK373)⟩; have n3_ : Aside0 (Below w.heap.size w w139) := ⟨by rw [← hq_]; exact bl_⟩; clear HO376 BK372 BK373 HB hq_; have HO376 := n0_; have BK372 := n1_; have BK373 := n2_; have HB := n3_; clear n0_ n1_ n2_ n3_)); have hnb142 := NB372_373.out; have hnc142 := NB373_372.out; obtain ⟨hcz143_0, hcz143_1, hcz143_2, hcz143_3, hfz143_0, hfz143_1, hfz143_2, hfz143_3⟩ := cellsF4 BK372.out) | (go_at_call 60; (with_reducible refine (F60.calls k a0_0 a0_1 a0_2 a0_3 true _ A12.out).mono ?_); rintro e w144 ⟨rfl, hb⟩; (try clear A12); replace HO376 := am_ (Kd.R_below (rk_ HO376) hb); replace BK372 := bb_ BK372 hb; replace BK373 := bb_ BK373 hb; replace HB := hs_ w hb; (try clear hb); obtain ⟨hcz145_0, hcz145_1, hcz145_2, hcz145_3, hfz145_0, hfz145_1, hfz145_2, hfz145_3⟩ := cellsF4 BK372.out) | (go_at_call 69; (with_reducible refine (F69.calls k a0_0 a0_1 a0_2 a0_3 a1 a0_0 t379 _ A24.out).mono ?_); rintro e w146 ⟨v380, rfl, ho0, hb⟩; (try clear A24); have HO381 := am_ (Kd.R_lower (Kd.R_new' ho0 (Kd.R_lt (rk_ HO376))) (below_size bl_)); replace HO376 := am_ (Kd.R_elder' (rk_ HO376) (Kd.R_base ho0) hb); replace BK372 := bb_ BK372 hb; replace BK373 := bb_ BK373 hb; replace HB := hs_ w hb; (try clear hb); (try clear ho0); obtain ⟨Ao147, co147, eo147⟩ := Kd.R_slice HO381.out; subst eo147))
  replace HO376 := am_ (Kd.R_drew HO376.out)
  replace HO381 := am_ (Kd.R_drew HO381.out)
  replace BK372 := bd_ BK372
  replace BK373 := bd_ BK373
  replace HB := am_ (below_drew1 HB.out)
  have p382 : 0 ≤ (0 : Int) := (by omega)
  have q382 : 0 < (t379.length : Int) := od_
  obtain ⟨ad382, e382, hx382_0⟩ := Kd.at_string (Kd.R_reads' HO381.out).2.2 0 p382 q382
  cases e382
  have qi382 : (0 < t379.length) = True := eq_true (by omega)
  (try rw [show ((0 : Int)).toNat = 0 from rfl] at hx382_0)
  (try rw [Addr.add_zero'] at hx382_0)
  replace p382 := eq_true p382
  replace q382 := eq_true q382
  refine start_ (n := 8) (S := fun w' => w'.cell? ⟨gb372, 0, none⟩ = some (.int .i64 a0_0) ∧ w'.cell? ⟨gb372, 1, none⟩ = some (.int .i64 a0_1) ∧ w'.cell? ⟨gb372, 2, none⟩ = some (.int .i64 a0_2) ∧ w'.cell? ⟨gb372, 3, none⟩ = some (.int .i64 a0_3) ∧ w'.cell? ad382 = some (.string (rdOf ByteArray.empty t379 0))) (ds := []) (bs 8 0) (by kernel_rfl) rfl rfl ⟨(blk_cell BK372.out 0).trans rfl, (blk_cell BK372.out 1).trans rfl, (blk_cell BK372.out 2).trans rfl, (blk_cell BK372.out 3).trans rfl, hx382_0⟩ (fun hHeld => ?_); refine with_tabW F41.tab10 F41.bits10 (fun HT_ HW_ => ?_)
  generalize w146.drew = w148 at HO376 HO381 BK372 BK373 HB hx382_0 hHeld ⊢
  refine pu_ 1 37 (bs 8 2) HT_ ?_ rfl rfl
  refine pu_ 2 38 (bs 8 6) HT_ ?_ rfl rfl
  refine pu_ 4 40 (bs 8 22) HT_ ?_ rfl rfl
  refine tk_ 0 36 (bs 8 23) HT_ HW_ hHeld au3_12 ?_ rfl rfl
  refine tk_ 3 39 (bs 8 31) HT_ HW_ hHeld au3_12 ?_ rfl rfl
  refine tk_ 5 41 (bs 8 63) HT_ HW_ hHeld au3_12 ?_ rfl rfl
  refine one_ (i := 6) (N := some 42) (bs 8 127) rfl rfl (one_of HT_.out (by kernel_rfl)) (by decide) (fun K hK => ?_)
  refine gr_ Try.func69 #[.agg #[.int .i64 a0_0, .int .i64 a0_1, .int .i64 a0_2, .int .i64 a0_3], .string (rdOf ByteArray.empty t379 0), .int .i64 a0_1] (by rfl) ?_ rfl rfl rfl
  with_reducible refine (F69.calls k a0_0 a0_1 a0_2 a0_3 (rdOf ByteArray.empty t379 0) a0_1 t383 _ A39.out).mono ?_
  rintro e w149 ⟨v384, rfl, ho0, hb⟩
  have HS4_ := (hb.cell (World.block_lt_of_cell? _ _ (hHeld.2.2.2.2))).trans (hHeld.2.2.2.2)
  refine ⟨_, rfl, ?_⟩
  have HO385 := am_ (Kd.R_lower (Kd.R_new' (Kd.R_new' ho0 (Kd.R_lt (rk_ HO376))) (Kd.R_lt (rk_ HO381))) (below_size bl_))
  replace HO376 := am_ (Kd.R_elder' (rk_ HO376) (Kd.R_base ho0) hb)
  replace HO381 := am_ (Kd.R_elder' (rk_ HO381) (Kd.R_base ho0) hb)
  replace BK372 := bb_ BK372 hb
  replace BK373 := bb_ BK373 hb
  replace HB := hs_ w hb
  (try clear hb)
  (try clear hb2)
  (try clear hk)
  (try clear hi)
  (try clear ho0)
  refine hK.out _ _ ⟨(blk_cell BK372.out 0).trans rfl, (blk_cell BK372.out 1).trans rfl, (blk_cell BK372.out 2).trans rfl, (blk_cell BK372.out 3).trans rfl, HS4_⟩ (fun hHeld => ?_)
  clear hK K
  refine no_ 42 ?_
  refine pu_ 7 6 (bs 8 255) HT_ ?_ rfl rfl
  refine done_ (done_of HT_.out (by kernel_rfl)) ?_
  obtain ⟨Ao150, co150, eo150⟩ := Kd.R_slice HO385.out
  subst eo150
  have p386 : 0 ≤ (0 : Int) := (by omega)
  have q386 : 0 < (t383.length : Int) := od_
  obtain ⟨ad386, e386, hx386_0⟩ := Kd.at_string (Kd.R_reads' HO385.out).2.2 0 p386 q386
  cases e386
  have qi386 : (0 < t383.length) = True := eq_true (by omega)
  (try rw [show ((0 : Int)).toNat = 0 from rfl] at hx386_0)
  (try rw [Addr.add_zero'] at hx386_0)
  replace p386 := eq_true p386
  replace q386 := eq_true q386
  try go_wp2_with (first | ((with_reducible refine gate_dst (N := 7) rfl ?_); (try (refine gate_guard (by rfl) ?_; dsimp only)); refine be_ 7 #[.string (⟨#[]⟩ : ByteArray), .slice none 0 0] 59 ?_; intro gb387 hg w151 hbox hb; replace HO376 := am_ (Kd.R_below (rk_ HO376) hb); replace HO381 := am_ (Kd.R_below (rk_ HO381) hb); replace HO385 := am_ (Kd.R_below (rk_ HO385) hb); have BK387 := am_ (hbox); have GW387 := am_ (gw_ hg bl_); have GE387 := GW387; replace HB := hs_ w hb; have NB372_387 := am_ (gn_ hg (blkl_ BK372)); have NB387_372 := am_ (gm_ hg (blkl_ BK372)); replace BK372 := bb_ BK372 hb; have NB373_387 := am_ (gn_ hg (blkl_ BK373)); have NB387_373 := am_ (gm_ hg (blkl_ BK373)); replace BK373 := bb_ BK373 hb; clear hb hbox hg; have hnb152 := NB387_372.out; have hnc152 := NB372_387.out; have hnb153 := NB387_373.out; have hnc153 := NB373_387.out; obtain ⟨hcz154_0, hcz154_1, hfz154_0, hfz154_1⟩ := cellsF2 BK387.out) | (go_at_call 83; (with_reducible refine (F83.calls (rdOf ByteArray.empty t383 0) false _ A41.out).mono ?_); rintro e w' ⟨rfl, ⟨nd, rfl⟩⟩; (try clear A41); obtain ⟨hcz155_0, hcz155_1, hcz155_2, hcz155_3, hcz155_4, hfz155_0, hfz155_1, hfz155_2, hfz155_3, hfz155_4⟩ := cellsF5 BK373.out))
  refine bodyPost_ret (results_cell_row rfl _ _ gb373 66 #[.string (⟨#[]⟩ : ByteArray), .slice none 0 0, .int .i64 0, .int .i64 0, .int .i64 3] (0, 0) _ rfl (bq_ BK373) Try.underlying66 rfl (by kernel_rfl)) rfl ?_
  exact ⟨_, au3_0, au3_1, bl_⟩
 by_cases c43 : 1 ≤ (t383.length : Int)
 rotate_left
 ·rw [if_neg c43] at H
  exact absurd H (by simp)
 rw [if_pos c43] at H
 have c43b0 := eq_true c43
 have c43b1 : decide (1 ≤ (t383.length : Int)) = true := decide_eq_true c43
 clear c43
 obtain ⟨y389, hy389⟩ : ∃ y_ : List ByteArray, y_ = (t383.drop 1) := ⟨_, rfl⟩
 replace H : (F41.l0 k t379 t383 (wrap64 (((rdOf ByteArray.empty t383 0).size : Int) + 1)) y389 (y389.length : Int) 0 a0_0 a0_1 a0_2 a0_3 (rdOf ByteArray.empty t383 0) ([] : List (S102))) = some (r1, r2, r3, r4, r5) := by first | (rw [hy389]; exact H) | exact H
 have Ny389 := am_ hy389
 clear hy389
 have H' := am_ H
 clear H
 go_enter Try.func41, Try.ntmps41
 try go_wp2_with (first | ((with_reducible refine gate_dst (N := 2) rfl ?_); (try (refine gate_guard (by rfl) ?_; dsimp only)); refine be_ 2 #[.int .i64 a0_0, .int .i64 a0_1, .int .i64 a0_2, .int .i64 a0_3] 23 ?_; intro gb372 hg w44 hbox hb; have BK372 := am_ (hbox); have GW372 := am_ (gw_ hg bl_); have GE372 := GW372; replace HB := hs_ w hb; clear hb hbox hg) | ((with_reducible refine gate_dst (N := 4) rfl ?_); (try (refine gate_guard (by rfl) ?_; dsimp only)); refine be_ 4 #[.string (⟨#[]⟩ : ByteArray), .slice none 0 0, .int .i64 0, .int .i64 0, .int .i64 0] 66 ?_; intro gb373 hg w45 hbox hb; have BK373 := am_ (hbox); have GW373 := am_ (gw_ hg bl_); have GE373 := GW373; replace HB := hs_ w hb; have NB372_373 := am_ (gn_ hg (blkl_ BK372)); have NB373_372 := am_ (gm_ hg (blkl_ BK372)); replace BK372 := bb_ BK372 hb; clear hb hbox hg) | ((with_reducible refine gate_dst (N := 15) rfl ?_); (try (refine gate_guard (by rfl) ?_; dsimp only)); refine Kd.R_lit Kd.string _ 9 ?hg (N := 15) ?hd (xs := ([a1] : List ByteArray)) (inner := [.string a1]) (ok := fun _ => True) (okp := fun _ => True) ?hr ?hp (fun _ hk => hk) trivial (Below.refl _ _) (Nat.le_refl _) (by simp) ?_; (case hd => rfl); (case hg => rfl); (case hr => exact hr_); (case hp => exact au3_11); intro v375 w46 ho47 hb hg_ hnew_; clear hg_ hnew_; (first | rw [← Ny374.out] at ho47 | (simp only [Int.reduceToNat] at ho47; rw [← Ny374.out] at ho47)); have HO376 := am_ (Kd.R_lower ho47 (below_size bl_)); replace BK372 := bb_ BK372 hb; replace BK373 := bb_ BK373 hb; replace HB := hs_ w hb; clear hb ho47; obtain ⟨Ao48, co48, eo48⟩ := Kd.R_slice HO376.out; subst eo48) | (go_at_call 58; (with_reducible refine (F58.calls k _ _ y374 false _ ?s1 ?s2 A3.out).mono ?_); (case s1 => exact au3_3); (case s2 => exact au3_24); rintro e w' ⟨rfl, ⟨nd, rfl⟩⟩; (try clear A3); (try (rw [drewN_self w46]; generalize hq_ : World.drewN w46 _ = w46; have n0_ : Aside0 (Kd.R Kd.string 9 w46 w.heap.size (fun _ => True) (.slice Ao48 y374.length co48) y374) := ⟨by rw [← hq_]; exact (rk_ HO376)⟩; have n1_ : Aside0 (w46.heap[gb372]? = some (.cells #[.int .i64 a0_0, .int .i64 a0_1, .int .i64 a0_2, .int .i64 a0_3] 23 (0, 0))) := ⟨by rw [← hq_]; exact (bk_ BK372)⟩; have n2_ : Aside0 (w46.heap[gb373]? = some (.cells #[.string (⟨#[]⟩ : ByteArray), .slice none 0 0, .int .i64 0, .int .i64 0, .int .i64 0] 66 (0, 0))) := ⟨by rw [← hq_]; exact (bk_ BK373)⟩; have n3_ : Aside0 (Below w.heap.size w w46) := ⟨by rw [← hq_]; exact bl_⟩; clear HO376 BK372 BK373 HB hq_; have HO376 := n0_; have BK372 := n1_; have BK373 := n2_; have HB := n3_; clear n0_ n1_ n2_ n3_)); have hnb49 := NB372_373.out; have hnc49 := NB373_372.out; obtain ⟨hcz50_0, hcz50_1, hcz50_2, hcz50_3, hfz50_0, hfz50_1, hfz50_2, hfz50_3⟩ := cellsF4 BK372.out) | (go_at_call 60; (with_reducible refine (F60.calls k a0_0 a0_1 a0_2 a0_3 true _ A12.out).mono ?_); rintro e w51 ⟨rfl, hb⟩; (try clear A12); replace HO376 := am_ (Kd.R_below (rk_ HO376) hb); replace BK372 := bb_ BK372 hb; replace BK373 := bb_ BK373 hb; replace HB := hs_ w hb; (try clear hb); obtain ⟨hcz52_0, hcz52_1, hcz52_2, hcz52_3, hfz52_0, hfz52_1, hfz52_2, hfz52_3⟩ := cellsF4 BK372.out) | (go_at_call 69; (with_reducible refine (F69.calls k a0_0 a0_1 a0_2 a0_3 a1 a0_0 t379 _ A24.out).mono ?_); rintro e w53 ⟨v380, rfl, ho0, hb⟩; (try clear A24); have HO381 := am_ (Kd.R_lower (Kd.R_new' ho0 (Kd.R_lt (rk_ HO376))) (below_size bl_)); replace HO376 := am_ (Kd.R_elder' (rk_ HO376) (Kd.R_base ho0) hb); replace BK372 := bb_ BK372 hb; replace BK373 := bb_ BK373 hb; replace HB := hs_ w hb; (try clear hb); (try clear ho0); obtain ⟨Ao54, co54, eo54⟩ := Kd.R_slice HO381.out; subst eo54))
 replace HO376 := am_ (Kd.R_drew HO376.out)
 replace HO381 := am_ (Kd.R_drew HO381.out)
 replace BK372 := bd_ BK372
 replace BK373 := bd_ BK373
 replace HB := am_ (below_drew1 HB.out)
 have p382 : 0 ≤ (0 : Int) := (by omega)
 have q382 : 0 < (t379.length : Int) := od_
 obtain ⟨ad382, e382, hx382_0⟩ := Kd.at_string (Kd.R_reads' HO381.out).2.2 0 p382 q382
 cases e382
 have qi382 : (0 < t379.length) = True := eq_true (by omega)
 (try rw [show ((0 : Int)).toNat = 0 from rfl] at hx382_0)
 (try rw [Addr.add_zero'] at hx382_0)
 replace p382 := eq_true p382
 replace q382 := eq_true q382
 refine start_ (n := 8) (S := fun w' => w'.cell? ⟨gb372, 0, none⟩ = some (.int .i64 a0_0) ∧ w'.cell? ⟨gb372, 1, none⟩ = some (.int .i64 a0_1) ∧ w'.cell? ⟨gb372, 2, none⟩ = some (.int .i64 a0_2) ∧ w'.cell? ⟨gb372, 3, none⟩ = some (.int .i64 a0_3) ∧ w'.cell? ad382 = some (.string (rdOf ByteArray.empty t379 0))) (ds := []) (bs 8 0) (by kernel_rfl) rfl rfl ⟨(blk_cell BK372.out 0).trans rfl, (blk_cell BK372.out 1).trans rfl, (blk_cell BK372.out 2).trans rfl, (blk_cell BK372.out 3).trans rfl, hx382_0⟩ (fun hHeld => ?_); refine with_tabW F41.tab10 F41.bits10 (fun HT_ HW_ => ?_)
 generalize w53.drew = w55 at HO376 HO381 BK372 BK373 HB hx382_0 hHeld ⊢
 refine pu_ 1 37 (bs 8 2) HT_ ?_ rfl rfl
 refine pu_ 2 38 (bs 8 6) HT_ ?_ rfl rfl
 refine pu_ 4 40 (bs 8 22) HT_ ?_ rfl rfl
 refine tk_ 0 36 (bs 8 23) HT_ HW_ hHeld au3_12 ?_ rfl rfl
 refine tk_ 3 39 (bs 8 31) HT_ HW_ hHeld au3_12 ?_ rfl rfl
 refine tk_ 5 41 (bs 8 63) HT_ HW_ hHeld au3_12 ?_ rfl rfl
 refine one_ (i := 6) (N := some 42) (bs 8 127) rfl rfl (one_of HT_.out (by kernel_rfl)) (by decide) (fun K hK => ?_)
 refine gr_ Try.func69 #[.agg #[.int .i64 a0_0, .int .i64 a0_1, .int .i64 a0_2, .int .i64 a0_3], .string (rdOf ByteArray.empty t379 0), .int .i64 a0_1] (by rfl) ?_ rfl rfl rfl
 with_reducible refine (F69.calls k a0_0 a0_1 a0_2 a0_3 (rdOf ByteArray.empty t379 0) a0_1 t383 _ A39.out).mono ?_
 rintro e w56 ⟨v384, rfl, ho0, hb⟩
 have HS4_ := (hb.cell (World.block_lt_of_cell? _ _ (hHeld.2.2.2.2))).trans (hHeld.2.2.2.2)
 refine ⟨_, rfl, ?_⟩
 have HO385 := am_ (Kd.R_lower (Kd.R_new' (Kd.R_new' ho0 (Kd.R_lt (rk_ HO376))) (Kd.R_lt (rk_ HO381))) (below_size bl_))
 replace HO376 := am_ (Kd.R_elder' (rk_ HO376) (Kd.R_base ho0) hb)
 replace HO381 := am_ (Kd.R_elder' (rk_ HO381) (Kd.R_base ho0) hb)
 replace BK372 := bb_ BK372 hb
 replace BK373 := bb_ BK373 hb
 replace HB := hs_ w hb
 (try clear hb)
 (try clear hb2)
 (try clear hk)
 (try clear hi)
 (try clear ho0)
 refine hK.out _ _ ⟨(blk_cell BK372.out 0).trans rfl, (blk_cell BK372.out 1).trans rfl, (blk_cell BK372.out 2).trans rfl, (blk_cell BK372.out 3).trans rfl, HS4_⟩ (fun hHeld => ?_)
 clear hK K
 refine no_ 42 ?_
 refine pu_ 7 6 (bs 8 255) HT_ ?_ rfl rfl
 refine done_ (done_of HT_.out (by kernel_rfl)) ?_
 obtain ⟨Ao57, co57, eo57⟩ := Kd.R_slice HO385.out
 subst eo57
 have p386 : 0 ≤ (0 : Int) := (by omega)
 have q386 : 0 < (t383.length : Int) := od_
 obtain ⟨ad386, e386, hx386_0⟩ := Kd.at_string (Kd.R_reads' HO385.out).2.2 0 p386 q386
 cases e386
 have qi386 : (0 < t383.length) = True := eq_true (by omega)
 (try rw [show ((0 : Int)).toNat = 0 from rfl] at hx386_0)
 (try rw [Addr.add_zero'] at hx386_0)
 replace p386 := eq_true p386
 replace q386 := eq_true q386
 try go_wp2_with (first | ((with_reducible refine gate_dst (N := 7) rfl ?_); (try (refine gate_guard (by rfl) ?_; dsimp only)); refine be_ 7 #[.string (⟨#[]⟩ : ByteArray), .slice none 0 0] 59 ?_; intro gb387 hg w58 hbox hb; replace HO376 := am_ (Kd.R_below (rk_ HO376) hb); replace HO381 := am_ (Kd.R_below (rk_ HO381) hb); replace HO385 := am_ (Kd.R_below (rk_ HO385) hb); have BK387 := am_ (hbox); have GW387 := am_ (gw_ hg bl_); have GE387 := GW387; replace HB := hs_ w hb; have NB372_387 := am_ (gn_ hg (blkl_ BK372)); have NB387_372 := am_ (gm_ hg (blkl_ BK372)); replace BK372 := bb_ BK372 hb; have NB373_387 := am_ (gn_ hg (blkl_ BK373)); have NB387_373 := am_ (gm_ hg (blkl_ BK373)); replace BK373 := bb_ BK373 hb; clear hb hbox hg; have hnb59 := NB387_372.out; have hnc59 := NB372_387.out; have hnb60 := NB387_373.out; have hnc60 := NB373_387.out; obtain ⟨hcz61_0, hcz61_1, hfz61_0, hfz61_1⟩ := cellsF2 BK387.out) | ((with_reducible refine gate_store (t := 59) (p := 7) rfl ?_); refine store_event (t := 59) (p := 7) (v := ?vo_w62) (w1 := ((w58.setCell ⟨gb387, 0, none⟩ (.string (rdOf ByteArray.empty t383 0))).setCell ⟨gb387, 1, none⟩ (.slice none 0 0))) ?hg ?ho ?hn ?hr ?_; (case ho => rfl); (case hg => rfl); (case hn => rfl); (case hr => exact hr_); intro w62 hw; have n0_ : Aside0 (Kd.R Kd.string 9 w62 w.heap.size (fun k_ => some k_ ≠ (.slice (some ad382) t379.length co54 : Value).ownBlock ∧ some k_ ≠ (.slice (some ad386) t383.length co57 : Value).ownBlock) (.slice Ao48 y374.length co48) y374) := ⟨(by rw [hw]; exact (by (with_reducible repeat (first | apply Kd.R_alloc | apply Kd.R_drewN | apply Kd.R_drew)); exact Kd.R_mono (Kd.R_far (p := ⟨gb387, 1, none⟩) (Kd.R_far (p := ⟨gb387, 0, none⟩) (Kd.R_types HO376.out BK387.out (by decide)) (fun _ hk => hk.2) (.string (rdOf ByteArray.empty t383 0))) (fun _ hk => hk.2) (.slice none 0 0)) (fun _ hk => ⟨hk.1.1.2, hk.1.2⟩)))⟩; have n1_ : Aside0 (Kd.R Kd.string 9 w62 w.heap.size (fun k_ => some k_ ≠ (.slice Ao48 y374.length co48 : Value).ownBlock ∧ some k_ ≠ (.slice (some ad386) t383.length co57 : Value).ownBlock) (.slice (some ad382) t379.length co54) t379) := ⟨(by rw [hw]; exact (by (with_reducible repeat (first | apply Kd.R_alloc | apply Kd.R_drewN | apply Kd.R_drew)); exact Kd.R_mono (Kd.R_far (p := ⟨gb387, 1, none⟩) (Kd.R_far (p := ⟨gb387, 0, none⟩) (Kd.R_types HO381.out BK387.out (by decide)) (fun _ hk => hk.2) (.string (rdOf ByteArray.empty t383 0))) (fun _ hk => hk.2) (.slice none 0 0)) (fun _ hk => ⟨hk.1.1.2, hk.1.2⟩)))⟩; have n2_ : Aside0 (Kd.R Kd.string 9 w62 w.heap.size (fun k_ => some k_ ≠ (.slice Ao48 y374.length co48 : Value).ownBlock ∧ some k_ ≠ (.slice (some ad382) t379.length co54 : Value).ownBlock) (.slice (some ad386) t383.length co57) t383) := ⟨(by rw [hw]; exact (by (with_reducible repeat (first | apply Kd.R_alloc | apply Kd.R_drewN | apply Kd.R_drew)); exact Kd.R_mono (Kd.R_far (p := ⟨gb387, 1, none⟩) (Kd.R_far (p := ⟨gb387, 0, none⟩) (Kd.R_types HO385.out BK387.out (by decide)) (fun _ hk => hk.2) (.string (rdOf ByteArray.empty t383 0))) (fun _ hk => hk.2) (.slice none 0 0)) (fun _ hk => ⟨hk.1.1.2, hk.1.2⟩)))⟩; have n3_ : Aside0 (w62.heap[gb372]? = some (.cells #[.int .i64 a0_0, .int .i64 a0_1, .int .i64 a0_2, .int .i64 a0_3] 23 (0, 0))) := ⟨(by rw [hw]; exact (bf_ BK372))⟩; have n4_ : Aside0 (w62.heap[gb373]? = some (.cells #[.string (⟨#[]⟩ : ByteArray), .slice none 0 0, .int .i64 0, .int .i64 0, .int .i64 0] 66 (0, 0))) := ⟨(by rw [hw]; exact (bf_ BK373))⟩; have n5_ : Aside0 (w62.heap[gb387]? = some (.cells #[.string (rdOf ByteArray.empty t383 0), .slice none 0 0] 59 (0, 0))) := ⟨(by rw [hw]; exact (bq_ BK387))⟩; have n6_ : Aside0 (Below w.heap.size w w62) := ⟨(by rw [hw]; exact bl_)⟩; clear hw; clear HO376; clear HO381; clear HO385; clear BK372; clear BK373; clear BK387; clear HB; have HO376 := n0_; have HO381 := n1_; have HO385 := n2_; have BK372 := n3_; have BK373 := n4_; have BK387 := n5_; have HB := n6_; clear n0_ n1_ n2_ n3_ n4_ n5_ n6_; obtain ⟨hcz63_0, hcz63_1, hfz63_0, hfz63_1⟩ := cellsF2 BK387.out) | (go_at_call 83; (with_reducible refine (F83.calls (rdOf ByteArray.empty t383 0) true _ A41.out).mono ?_); rintro e w' ⟨rfl, ⟨nd, rfl⟩⟩; (try clear A41); have q64 : (1 : Int) ≤ ((t383.length : Int) : Int) := od_; obtain ⟨i064, hi064, _, hsz64, _⟩ := info_parts info9; have hroom64 : t383.length ≤ co57 := (Kd.R_reads' HO385.out).2.1; have hC64 : Kd.C Kd.string _ (some ad386) t383.length t383 := (Kd.R_reads' HO385.out).2.2; have hcut64 := cut_from (P := Try.prog) 41 9 .i64 Try.underlying41 hi064 1 hsz64 (some ad386) t383.length co57 1 (by omega) q64; have hr64 := Kd.C_drop (m := (1 : Int).toNat) (c := co57) hC64 (by omega) hroom64; obtain ⟨A64, hA64⟩ : ∃ A1, A1 = (if co57 = (1 : Int).toNat then (some ad386) else ((some ad386) : Option Addr).map (·.add ((1 : Int).toNat * 1))) := ⟨_, rfl⟩; obtain ⟨c64, hc64⟩ : ∃ c1, c1 = co57 - (1 : Int).toNat := ⟨_, rfl⟩; have hy64 : y389.length = t383.length - (1 : Int).toNat := (by rw [Ny389.out, List.length_drop] <;> omega); rw [show (t383).drop (1 : Int).toNat = y389 from Ny389.out.symm] at hr64; replace hr64 : Kd.C Kd.string _ A64 y389.length y389 := (by rw [hA64]; exact hr64); rw [← hy64, ← hA64, ← hc64] at hcut64; have HR392 := am_ hr64; have HC392 := am_ (show y389.length ≤ c64 from by rw [hy64, hc64]; exact Nat.sub_le_sub_right hroom64 _); clear hr64 hC64 hroom64 hi064 hsz64 hc64; have KY64 := am_ hy64; have KA64 := am_ hA64; clear hy64 hA64; have KL64 := am_ (show 1 ≤ t383.length from by omega); replace q64 := eq_true q64))
 go_loopg [8, 59] k (fun kq v8 v59 w' => ∃ (x8_1 : Int) (x59_1 : Int) (x374000_1 : ByteArray) (x374002_1 : Int) (x374003_1 : Int) (x374004_1 : Int) (x388001_1 : List (S102)) (u388001 : Value), v8 = .int .i64 x8_1 ∧ v59 = .int .i64 x59_1 ∧ Aside0 (F41.l0 kq t379 t383 x8_1 y389 (y389.length : Int) x59_1 a0_0 a0_1 a0_2 a0_3 (rdOf ByteArray.empty t383 0) x388001_1 = some (r1, r2, r3, r4, r5)) ∧ Aside0 (kq ≤ k) ∧ Aside0 (Kd.R Kd.string 9 w' w.heap.size (fun k_ => some k_ ≠ ((.slice (some ad386) t383.length co57) : Value).ownBlock) (.slice (some ad382) t379.length co54) t379) ∧ Aside0 (Kd.R Kd.string 9 w' w.heap.size (fun k_ => some k_ ≠ ((.slice (some ad382) t379.length co54) : Value).ownBlock) (.slice (some ad386) t383.length co57) t383) ∧ Aside0 (Kd.S k102 102 w' w.heap.size (fun k_ => some k_ ≠ ((.slice (some ad382) t379.length co54) : Value).ownBlock ∧ some k_ ≠ ((.slice (some ad386) t383.length co57) : Value).ownBlock) u388001 x388001_1) ∧ Aside0 (w'.heap[gb372]? = some (.cells #[.int .i64 a0_0, .int .i64 a0_1, .int .i64 a0_2, .int .i64 a0_3] 23 (0, 0))) ∧ Aside0 (w'.heap[gb373]? = some (.cells #[.string x374000_1, (.slice none 0 0), .int .i64 x374002_1, .int .i64 x374003_1, .int .i64 x374004_1] 66 (0, 0))) ∧ Aside0 (w'.heap[gb387]? = some (.cells #[.string (rdOf ByteArray.empty t383 0), u388001] 59 (0, 0))) ∧ Aside0 (Below w.heap.size w w'))
 case atStart => exact ⟨(wrap64 (((rdOf ByteArray.empty t383 0).size : Int) + 1)), (0), ((⟨#[]⟩ : ByteArray)), (0), (0), (0), (([] : List (S102))), (.slice none 0 0), er_, er_, H', ⟨Nat.le_refl _⟩, ⟨by (with_reducible repeat (first | apply Kd.R_alloc | apply Kd.R_drewN | apply Kd.R_drew)); exact Kd.R_mono HO381.out (fun _ hk => hk.2)⟩, ⟨by (with_reducible repeat (first | apply Kd.R_alloc | apply Kd.R_drewN | apply Kd.R_drew)); exact Kd.R_mono HO385.out (fun _ hk => hk.2)⟩, ⟨au3_1⟩, ⟨bk_ BK372⟩, ⟨bk_ BK373⟩, ⟨bk_ BK387⟩, ⟨bl_⟩⟩
 case round =>
  clear H'
  try clear c1
  try clear c14
  try clear c14b0
  try clear c14b1
  try clear c25b0
  try clear c25b1
  try clear c38b0
  try clear c38b1
  try clear c40b0
  try clear c40b1
  try clear c43
  try clear c43b0
  try clear c43b1
  try clear c64
  try clear q64
  try clear hcz11_0 hcz11_1 hcz11_2 hcz11_3 hcz11_4
  try clear hcz21_0 hcz21_1 hcz21_2 hcz21_3
  try clear hcz23_0 hcz23_1 hcz23_2 hcz23_3 hcz23_4
  try clear hcz32_0 hcz32_1 hcz32_2 hcz32_3
  try clear hcz34_0 hcz34_1 hcz34_2 hcz34_3
  try clear hcz37_0 hcz37_1 hcz37_2 hcz37_3 hcz37_4
  try clear hcz50_0 hcz50_1 hcz50_2 hcz50_3
  try clear hcz52_0 hcz52_1 hcz52_2 hcz52_3
  try clear hcz61_0 hcz61_1
  try clear hcz63_0 hcz63_1
  try clear hfz11_0 hfz11_1 hfz11_2 hfz11_3 hfz11_4
  try clear hfz21_0 hfz21_1 hfz21_2 hfz21_3
  try clear hfz23_0 hfz23_1 hfz23_2 hfz23_3 hfz23_4
  try clear hfz32_0 hfz32_1 hfz32_2 hfz32_3
  try clear hfz34_0 hfz34_1 hfz34_2 hfz34_3
  try clear hfz37_0 hfz37_1 hfz37_2 hfz37_3 hfz37_4
  try clear hfz50_0 hfz50_1 hfz50_2 hfz50_3
  try clear hfz52_0 hfz52_1 hfz52_2 hfz52_3
  try clear hfz61_0 hfz61_1
  try clear hfz63_0 hfz63_1
  try clear hx382_0
  try clear hx386_0
  try clear p382
  try clear p386
  try clear q382
  try clear q386
  try clear q64
  obtain ⟨x8_1, x59_1, x374000_1, x374002_1, x374003_1, x374004_1, x388001_1, u388001, rfl, rfl, HA, HK1, HO_5, HO_6, HO_388001, BK372, BK373, BK387, HB⟩ := hrel
  cases gk with
  | zero => exact absurd HA.out (by simp [F41.l0])
  | succ k1 =>
   have H := HA.out
   clear HA
   simp only [F41.l0] at H
   replace H := it_ H; rcases H with ⟨c65b0, H⟩ | ⟨c65b0, H⟩
   rotate_left
   ·replace H := itn_ H; rcases H with ⟨c129b0, H⟩
    have c129b1 : decide (0 < t379.length) = true := n2_ c129b0
    simp only [Option.some.injEq, Prod.mk.injEq] at H
    obtain ⟨rfl, rfl, rfl, rfl, rfl⟩ := H
    try go_wp2
    replace HO_5 := am_ (Kd.R_drew HO_5.out)
    replace HO_6 := am_ (Kd.R_drew HO_6.out)
    replace HO_388001 := am_ (Kd.S_drew HO_388001.out)
    replace BK372 := bd_ BK372
    replace BK373 := bd_ BK373
    replace BK387 := bd_ BK387
    replace HB := am_ (below_drew1 HB.out)
    have p393 : 0 ≤ (0 : Int) := (by omega)
    have q393 : 0 < (t379.length : Int) := od_
    obtain ⟨ad393, e393, hx393_0⟩ := Kd.at_string (Kd.R_reads' HO_5.out).2.2 0 p393 q393
    obtain rfl : ad382 = ad393 := (by injection e393)
    have qi393 : (0 < t379.length) = True := eq_true (by omega)
    (try rw [show ((0 : Int)).toNat = 0 from rfl] at hx393_0)
    (try rw [Addr.add_zero'] at hx393_0)
    replace p393 := eq_true p393
    replace q393 := eq_true q393
    obtain ⟨Ao131, co131, eo131⟩ := Kd.S_slice HO_388001.out
    (first | subst eo131 | (injection eo131 with f1_ f2_ f3_; have f4_ := f1_.symm; have f5_ := f3_.symm; clear f1_ f2_ f3_; subst f4_; subst f5_))
    refine start_ (n := 8) (S := fun w' => w'.cell? ⟨gb387, 0, none⟩ = some (.string (rdOf ByteArray.empty t383 0)) ∧ w'.cell? ⟨gb387, 1, none⟩ = some (.slice Ao131 x388001_1.length co131) ∧ w'.cell? ad382 = some (.string (rdOf ByteArray.empty t379 0))) (ds := []) (bs 8 0) (by kernel_rfl) rfl rfl ⟨(blk_cell BK387.out 0).trans rfl, (blk_cell BK387.out 1).trans rfl, hx393_0⟩ (fun hHeld => ?_); refine with_tabW F41.tab28 F41.bits28 (fun HT_ HW_ => ?_)
    generalize wr.drew = w130 at HO_5 HO_6 HO_388001 BK372 BK373 BK387 HB hx393_0 hHeld ⊢
    refine pu_ 1 115 (bs 8 2) HT_ ?_ rfl rfl
    refine pu_ 2 116 (bs 8 6) HT_ ?_ rfl rfl
    refine tk_ 0 114 (bs 8 7) HT_ HW_ hHeld (by rintro w' ⟨s0, s1, s2⟩; go_simp; with_reducible rfl) ?_ rfl rfl
    refine tk_ 3 117 (bs 8 15) HT_ HW_ hHeld (by rintro w' ⟨s0, s1, s2⟩; go_simp; with_reducible rfl) ?_ rfl rfl
    refine pu_ 4 118 (bs 8 31) HT_ ?_ rfl rfl
    refine pu_ 5 119 (bs 8 63) HT_ ?_ rfl rfl
    refine pu_ 6 120 (bs 8 127) HT_ ?_ rfl rfl
    refine one_ (i := 7) (N := none) (bs 8 255) rfl rfl (one_of HT_.out (by kernel_rfl)) (by decide) (fun K hK => ?_)
    have hs132 : w130.cell? ⟨gb373, 0, none⟩ = some (.string x374000_1) := (blk_cell BK373.out 0).trans rfl
    have hfs132 := blk_frozen BK373.out 0
    have hns132_0 := NB372_373.out
    have hns132_2 := NB387_373.out
    have hms132_0 := NB373_372.out
    have hms132_2 := NB373_387.out
    have hs133 : w130.cell? ⟨gb373, 1, none⟩ = some (.slice none 0 0) := (blk_cell BK373.out 1).trans rfl
    have hfs133 := blk_frozen BK373.out 1
    have hns133_0 := NB372_373.out
    have hns133_2 := NB387_373.out
    have hms133_0 := NB373_372.out
    have hms133_2 := NB373_387.out
    have hs134 : w130.cell? ⟨gb373, 2, none⟩ = some (.int .i64 x374002_1) := (blk_cell BK373.out 2).trans rfl
    have hfs134 := blk_frozen BK373.out 2
    have hns134_0 := NB372_373.out
    have hns134_2 := NB387_373.out
    have hms134_0 := NB373_372.out
    have hms134_2 := NB373_387.out
    have hs135 : w130.cell? ⟨gb373, 3, none⟩ = some (.int .i64 x374003_1) := (blk_cell BK373.out 3).trans rfl
    have hfs135 := blk_frozen BK373.out 3
    have hns135_0 := NB372_373.out
    have hns135_2 := NB387_373.out
    have hms135_0 := NB373_372.out
    have hms135_2 := NB373_387.out
    have hs136 : w130.cell? ⟨gb373, 4, none⟩ = some (.int .i64 x374004_1) := (blk_cell BK373.out 4).trans rfl
    have hfs136 := blk_frozen BK373.out 4
    have hns136_0 := NB372_373.out
    have hns136_2 := NB387_373.out
    have hms136_0 := NB373_372.out
    have hms136_2 := NB373_387.out
    refine skip_ (w1 := ?_) (by rfl) rfl ?_ ?_
    rotate_left
    ·go_simp
     rfl
    refine hK.out _ _ ⟨((cell_far (p := ⟨gb373, _, none⟩) NB387_373.out _).trans (((cell_far (p := ⟨gb373, _, none⟩) NB387_373.out _).trans (((cell_far (p := ⟨gb373, _, none⟩) NB387_373.out _).trans (((cell_far (p := ⟨gb373, _, none⟩) NB387_373.out _).trans (((cell_far (p := ⟨gb373, _, none⟩) NB387_373.out _).trans (hHeld.1)))))))))), ((cell_far (p := ⟨gb373, _, none⟩) NB387_373.out _).trans (((cell_far (p := ⟨gb373, _, none⟩) NB387_373.out _).trans (((cell_far (p := ⟨gb373, _, none⟩) NB387_373.out _).trans (((cell_far (p := ⟨gb373, _, none⟩) NB387_373.out _).trans (((cell_far (p := ⟨gb373, _, none⟩) NB387_373.out _).trans (hHeld.2.1)))))))))), ((cell_far (p := ⟨gb373, _, none⟩) au3_2 _).trans (((cell_far (p := ⟨gb373, _, none⟩) au3_2 _).trans (((cell_far (p := ⟨gb373, _, none⟩) au3_2 _).trans (((cell_far (p := ⟨gb373, _, none⟩) au3_2 _).trans (((cell_far (p := ⟨gb373, _, none⟩) au3_2 _).trans (hHeld.2.2))))))))))⟩ (fun hHeld => ?_)
    clear hK K
    refine done_ (done_of HT_.out (by kernel_rfl)) ?_
    try go_wp2
    refine bodyPost_ret (results_cell_row rfl _ _ gb373 66 #[.string (rdOf ByteArray.empty t383 0), .slice Ao131 x388001_1.length co131, .int .i64 (wrap64 (((rdOf ByteArray.empty t379 0).size : Int) + 1)), .int .i64 0, .int .i64 0] (0, 0) _ rfl (bq_ BK373) Try.underlying66 rfl (by kernel_rfl)) rfl ?_
    exact ⟨_, au3_0, by (with_reducible repeat (first | apply Kd.S_alloc | apply Kd.S_drewN | apply Kd.S_drew)); exact Kd.S_mono (Kd.S_far (p := ⟨gb373, 4, none⟩) (Kd.S_far (p := ⟨gb373, 3, none⟩) (Kd.S_far (p := ⟨gb373, 2, none⟩) (Kd.S_far (p := ⟨gb373, 1, none⟩) (Kd.S_far (p := ⟨gb373, 0, none⟩) (Kd.S_types HO_388001.out BK373.out (by decide)) (fun _ hk => hk.2) (.string (rdOf ByteArray.empty t383 0))) (fun _ hk => hk.2) (.slice Ao131 x388001_1.length co131)) (fun _ hk => hk.2) (.int .i64 (wrap64 (((rdOf ByteArray.empty t379 0).size : Int) + 1)))) (fun _ hk => hk.2) (.int .i64 0)) (fun _ hk => hk.2) (.int .i64 0)) (fun _ hk => trivial), bl_⟩
   replace H := itn_ H; rcases H with ⟨c66b0, H⟩
   replace H := itn_ H; rcases H with ⟨c67b0, H⟩
   replace HR392 := am_ (show Kd.C Kd.string wr A64 y389.length y389 from by rw [Ny389.out, KA64.out]; exact Kd.C_drop (m := 1) (c := co57) ((Kd.R_reads' HO_6.out).2.2) KL64.out ((Kd.R_reads' HO_6.out).2.1))
   by_cases c68 : x59_1 = 10
   ·rw [if_pos c68] at H
    have c68b0 : (x59_1 == 10) = true := beq_iff_eq.mpr c68
    have c68b1 : (x59_1 != 10) = false := bne_eq_false_iff_eq.mpr c68
    clear c68
    simp only [Option.some.injEq, Prod.mk.injEq] at H
    obtain ⟨rfl, rfl, rfl, rfl, rfl⟩ := H
    have p394 : 0 ≤ (x59_1 : Int) := od_
    have q394 : x59_1 < (y389.length : Int) := od_
    obtain ⟨ad394, e394, hx394_0⟩ := Kd.at_string HR392.out x59_1 p394 q394
    cases e394
    try replace hx394_0 := (HB.out.cell (World.block_lt_of_cell? _ _ hx394_0)).trans hx394_0
    replace p394 := eq_true p394
    replace q394 := eq_true q394
    have hnb69 := NB373_372.out
    have hnc69 := NB372_373.out
    have hnb70 := NB373_387.out
    have hnc70 := NB387_373.out
    obtain ⟨hcz71_0, hcz71_1, hcz71_2, hcz71_3, hcz71_4, hfz71_0, hfz71_1, hfz71_2, hfz71_3, hfz71_4⟩ := cellsF5 BK373.out
    go_wp2
    refine bodyPost_ret (results_cell_row rfl _ _ gb373 66 #[.string (⟨#[]⟩ : ByteArray), .slice none 0 0, .int .i64 0, .int .i64 x8_1, .int .i64 3] (0, 0) _ rfl (bq_ BK373) Try.underlying66 rfl (by kernel_rfl)) rfl ?_
    exact ⟨_, au3_0, au3_1, bl_⟩
   rw [if_neg c68] at H
   have c68b0 : (x59_1 == 10) = false := beq_eq_false_iff_ne.mpr c68
   have c68b1 : (x59_1 != 10) = true := bne_iff_ne.mpr c68
   replace H := bi_ H; rcases H with ⟨⟨t395, t398⟩, A72, H⟩
   have HC73 := am_ H
   clear H
   have p394 : 0 ≤ (x59_1 : Int) := od_
   have q394 : x59_1 < (y389.length : Int) := od_
   obtain ⟨ad394, e394, hx394_0⟩ := Kd.at_string HR392.out x59_1 p394 q394
   cases e394
   try replace hx394_0 := (HB.out.cell (World.block_lt_of_cell? _ _ hx394_0)).trans hx394_0
   replace p394 := eq_true p394
   replace q394 := eq_true q394
   have hnb74 := NB372_373.out
   have hnc74 := NB373_372.out
   have hnb75 := NB372_387.out
   have hnc75 := NB387_372.out
   obtain ⟨hcz76_0, hcz76_1, hcz76_2, hcz76_3, hfz76_0, hfz76_1, hfz76_2, hfz76_3⟩ := cellsF4 BK372.out
   go_upto_region 21 with (first | (go_at_call 88; (with_reducible refine (F88.calls k1 a0_0 a0_1 a0_2 a0_3 (rdOf ByteArray.empty y389 x59_1) x8_1 t395 t398 _ A72.out).mono ?_); rintro e w77 ⟨v396, rfl, ho0, hb⟩; (try clear A72); replace HO_388001 := am_ (Kd.S_elder' au3_9 (Kd.R_base ho0) hb); have HO397 := am_ (Kd.R_lower (Kd.R_new' (Kd.R_new' ho0 (Kd.R_lt (rk_ HO_5))) (Kd.R_lt (rk_ HO_6))) (below_size bl_)); replace HO_5 := am_ (Kd.R_elder' (rk_ HO_5) (Kd.R_base ho0) hb); replace HO_6 := am_ (Kd.R_elder' (rk_ HO_6) (Kd.R_base ho0) hb); replace BK372 := bb_ BK372 hb; replace BK373 := bb_ BK373 hb; replace BK387 := bb_ BK387 hb; replace HB := hs_ w hb; (try clear hb); (try clear hb2); (try clear hk); (try clear hi); (try clear ho0)) | ((with_reducible refine gate_dst (N := 11) rfl ?_); (try (refine gate_guard (by rfl) ?_; dsimp only)); refine be_ 11 #[.slice none 0 0] 102 ?_; intro gb399 hg w78 hbox hb; replace HO_5 := am_ (Kd.R_below (rk_ HO_5) hb); replace HO_6 := am_ (Kd.R_below (rk_ HO_6) hb); replace HO_388001 := am_ (Kd.S_below (Kd.S_elderB au3_9 gb399 (Nat.le_of_eq hg.symm)) hb); replace HO397 := am_ (Kd.R_below (rk_ HO397) hb); have BK399 := am_ (hbox); have GW399 := am_ (gw_ hg bl_); have GE399 := GW399; replace HB := hs_ w hb; have NB372_399 := am_ (gn_ hg (blkl_ BK372)); have NB399_372 := am_ (gm_ hg (blkl_ BK372)); replace BK372 := bb_ BK372 hb; have NB373_399 := am_ (gn_ hg (blkl_ BK373)); have NB399_373 := am_ (gm_ hg (blkl_ BK373)); replace BK373 := bb_ BK373 hb; have NB387_399 := am_ (gn_ hg (blkl_ BK387)); have NB399_387 := am_ (gm_ hg (blkl_ BK387)); replace BK387 := bb_ BK387 hb; clear hb hbox hg; obtain ⟨Ao79, co79, eo79⟩ := Kd.R_slice HO397.out; subst eo79; have hnb80 := NB399_372.out; have hnc80 := NB372_399.out; have hnb81 := NB399_373.out; have hnc81 := NB373_399.out; have hnb82 := NB399_387.out; have hnc82 := NB387_399.out; have hcz83_0 : w78.cell? ⟨gb399, 0, none⟩ = some (.slice none 0 0) := (blk_cell BK399.out 0).trans rfl; have hfz83_0 := blk_frozen BK399.out 0))
   (try simp only [Act.put, List.setIfInBounds_toArray, List.set_cons_zero, List.set_cons_succ])
   go_cut [96] (fun v96 wc => ∃ (kq : Nat) (x96_72 : Bool), v96 = .bool x96_72 ∧ Aside0 (F41.j1 kq t379 t383 x8_1 (rdOf ByteArray.empty y389 x59_1) t398 y389 (y389.length : Int) x59_1 x96_72 a0_0 a0_1 a0_2 a0_3 (rdOf ByteArray.empty t383 0) x388001_1 t395 = some (r1, r2, r3, r4, r5)) ∧ Aside0 (kq ≤ k1) ∧ Aside0 (Kd.R Kd.string 9 wc w.heap.size (fun k_ => some k_ ≠ ((.slice (some ad386) t383.length co57) : Value).ownBlock ∧ some k_ ≠ ((.slice Ao79 t395.length co79) : Value).ownBlock) (.slice (some ad382) t379.length co54) t379) ∧ Aside0 (Kd.R Kd.string 9 wc w.heap.size (fun k_ => some k_ ≠ ((.slice (some ad382) t379.length co54) : Value).ownBlock ∧ some k_ ≠ ((.slice Ao79 t395.length co79) : Value).ownBlock) (.slice (some ad386) t383.length co57) t383) ∧ Aside0 (Kd.S k102 102 wc w.heap.size (fun k_ => some k_ ≠ ((.slice (some ad382) t379.length co54) : Value).ownBlock ∧ some k_ ≠ ((.slice (some ad386) t383.length co57) : Value).ownBlock ∧ some k_ ≠ ((.slice Ao79 t395.length co79) : Value).ownBlock ∧ k_ ≠ gb399) u388001 x388001_1) ∧ Aside0 (Kd.R Kd.string 9 wc w.heap.size (fun k_ => some k_ ≠ ((.slice (some ad382) t379.length co54) : Value).ownBlock ∧ some k_ ≠ ((.slice (some ad386) t383.length co57) : Value).ownBlock) (.slice Ao79 t395.length co79) t395) ∧ Aside0 (wc.heap[gb372]? = some (.cells #[.int .i64 a0_0, .int .i64 a0_1, .int .i64 a0_2, .int .i64 a0_3] 23 (0, 0))) ∧ Aside0 (wc.heap[gb373]? = some (.cells #[.string x374000_1, (.slice none 0 0), .int .i64 x374002_1, .int .i64 x374003_1, .int .i64 x374004_1] 66 (0, 0))) ∧ Aside0 (wc.heap[gb387]? = some (.cells #[.string (rdOf ByteArray.empty t383 0), u388001] 59 (0, 0))) ∧ Aside0 (wc.heap[gb399]? = some (.cells #[(.slice Ao79 t395.length co79)] 102 (0, 0))) ∧ Aside0 (Below w.heap.size w wc))
   case first =>
    have H := HC73.out
    clear HC73
    replace H := it_ H; rcases H with ⟨c84b0, H⟩ | ⟨c84b0, H⟩
    rotate_left
    ·(first | rw [c84b0] | (simp only [i64_w, i32_w]; rw [c84b0]) | skip)
     have H' := am_ H
     clear H
     go_wp2
     go_meet
     case rel => exact ⟨_, (false), er_, H', ⟨au3_21⟩, ⟨au3_7⟩, ⟨au3_8⟩, ⟨au3_5⟩, ⟨au3_6⟩, ⟨bf_ BK372⟩, ⟨bf_ BK373⟩, ⟨bf_ BK387⟩, ⟨bq_ BK399⟩, ⟨bl_⟩⟩
    (first | rw [c84b0] | (simp only [i64_w, i32_w]; rw [c84b0]) | skip)
    by_cases c85 : x59_1 = (wrap64 ((t383.length : Int) - 2))
    rotate_left
    ·rw [if_neg c85] at H
     have c85b0 : (x59_1 == (wrap64 ((t383.length : Int) - 2))) = false := beq_eq_false_iff_ne.mpr c85
     have c85b1 : (x59_1 != (wrap64 ((t383.length : Int) - 2))) = true := bne_iff_ne.mpr c85
     have H' := am_ H
     clear H
     go_wp2
     go_meet
     case rel => exact ⟨_, (false), er_, H', ⟨au3_21⟩, ⟨au3_7⟩, ⟨au3_8⟩, ⟨au3_5⟩, ⟨au3_6⟩, ⟨bf_ BK372⟩, ⟨bf_ BK373⟩, ⟨bf_ BK387⟩, ⟨bq_ BK399⟩, ⟨bl_⟩⟩
    rw [if_pos c85] at H
    have c85b0 : (x59_1 == (wrap64 ((t383.length : Int) - 2))) = true := beq_iff_eq.mpr c85
    have c85b1 : (x59_1 != (wrap64 ((t383.length : Int) - 2))) = false := bne_eq_false_iff_eq.mpr c85
    clear c85
    by_cases c86 : (t395.length : Int) = 1
    rotate_left
    ·rw [if_neg c86] at H
     have c86b0 : ((t395.length : Int) == 1) = false := beq_eq_false_iff_ne.mpr c86
     have c86b1 : ((t395.length : Int) != 1) = true := bne_iff_ne.mpr c86
     have H' := am_ H
     clear H
     have hnb92 := NB399_372.out
     have hnc92 := NB372_399.out
     have hnb93 := NB399_373.out
     have hnc93 := NB373_399.out
     have hnb94 := NB399_387.out
     have hnc94 := NB387_399.out
     have hcz95_0 : w78.cell? ⟨gb399, 0, none⟩ = some (.slice none 0 0) := (blk_cell BK399.out 0).trans rfl
     have hfz95_0 := blk_frozen BK399.out 0
     go_wp2
     go_meet
     case rel => exact ⟨_, (false), er_, H', ⟨au3_21⟩, ⟨au3_7⟩, ⟨au3_8⟩, ⟨au3_5⟩, ⟨au3_6⟩, ⟨bf_ BK372⟩, ⟨bf_ BK373⟩, ⟨bf_ BK387⟩, ⟨bq_ BK399⟩, ⟨bl_⟩⟩
    rw [if_pos c86] at H
    have c86b0 : ((t395.length : Int) == 1) = true := beq_iff_eq.mpr c86
    have c86b1 : ((t395.length : Int) != 1) = false := bne_eq_false_iff_eq.mpr c86
    clear c86
    replace H := itn_ H; rcases H with ⟨c87b0, H⟩
    have c87b1 : decide (0 < t395.length) = true := n2_ c87b0
    have H' := am_ H
    clear H
    have hnb88 := NB399_372.out
    have hnc88 := NB372_399.out
    have hnb89 := NB399_373.out
    have hnc89 := NB373_399.out
    have hnb90 := NB399_387.out
    have hnc90 := NB387_399.out
    have hcz91_0 : w78.cell? ⟨gb399, 0, none⟩ = some (.slice none 0 0) := (blk_cell BK399.out 0).trans rfl
    have hfz91_0 := blk_frozen BK399.out 0
    have p400 : 0 ≤ (0 : Int) := (by omega)
    have q400 : 0 < (t395.length : Int) := od_
    obtain ⟨ad400, e400, hx400_0⟩ := Kd.at_string (Kd.R_reads' HO397.out).2.2 0 p400 q400
    cases e400
    have qi400 : (0 < t395.length) = True := eq_true (by omega)
    (try rw [show ((0 : Int)).toNat = 0 from rfl] at hx400_0)
    (try rw [Addr.add_zero'] at hx400_0)
    have hn400_0 : ad400.block ≠ gb399 := Kd.own_blk (Kd.R_ne HO397.out BK399.out (by decide))
    replace hx400_0 := (cell_far (p := ⟨gb399, 0, none⟩) (by first | (rw [add_block]; exact hn400_0) | (show (Addr.add _ _).block ≠ _; rw [add_block]; exact hn400_0) | exact hn400_0) (.slice (some ad400) t395.length co79)).trans hx400_0
    clear hn400_0
    replace p400 := eq_true p400
    replace q400 := eq_true q400
    go_wp2
    go_meet
    case rel => exact ⟨_, (((rdOf ByteArray.empty t395 0).toList == ([] : List UInt8))), er_, H', ⟨au3_21⟩, ⟨by (with_reducible repeat (first | apply Kd.R_alloc | apply Kd.R_drewN | apply Kd.R_drew)); exact Kd.R_mono (Kd.R_far (p := ⟨gb399, 0, none⟩) (Kd.R_types HO_5.out BK399.out (by decide)) (fun _ hk => hk.2) (.slice (some ad400) t395.length co79)) (fun _ hk => ⟨hk.1.1, hk.1.2⟩)⟩, ⟨by (with_reducible repeat (first | apply Kd.R_alloc | apply Kd.R_drewN | apply Kd.R_drew)); exact Kd.R_mono (Kd.R_far (p := ⟨gb399, 0, none⟩) (Kd.R_types HO_6.out BK399.out (by decide)) (fun _ hk => hk.2) (.slice (some ad400) t395.length co79)) (fun _ hk => ⟨hk.1.1, hk.1.2⟩)⟩, ⟨by (with_reducible repeat (first | apply Kd.S_alloc | apply Kd.S_drewN | apply Kd.S_drew)); exact Kd.S_mono (Kd.S_far (p := ⟨gb399, 0, none⟩) (Kd.S_mono HO_388001.out (fun k_ hk => (⟨hk, hk.2⟩ : _ ∧ k_ ≠ gb399))) (fun _ hk => hk.2) (.slice (some ad400) t395.length co79)) (fun _ hk => ⟨hk.1.1.1.1, ⟨hk.1.1.1.2, ⟨hk.1.1.2, hk.1.2⟩⟩⟩)⟩, ⟨by (with_reducible repeat (first | apply Kd.R_alloc | apply Kd.R_drewN | apply Kd.R_drew)); exact Kd.R_mono (Kd.R_far (p := ⟨gb399, 0, none⟩) (Kd.R_types HO397.out BK399.out (by decide)) (fun _ hk => hk.2) (.slice (some ad400) t395.length co79)) (fun _ hk => ⟨hk.1.1.2, hk.1.2⟩)⟩, ⟨bf_ BK372⟩, ⟨bf_ BK373⟩, ⟨bf_ BK387⟩, ⟨bq_ BK399⟩, ⟨bl_⟩⟩
   case rest =>
    clear HC73
    try clear c1
    try clear c14
    try clear c14b0
    try clear c14b1
    try clear c25b0
    try clear c25b1
    try clear c38b0
    try clear c38b1
    try clear c40b0
    try clear c40b1
    try clear c43
    try clear c43b0
    try clear c43b1
    try clear c64
    try clear q64
    try clear c65b0
    try clear c66b0
    try clear c67b0
    try clear c68
    try clear c68b0
    try clear c68b1
    try clear c84b0
    try clear c85
    try clear c85b0
    try clear c85b1
    try clear c86
    try clear c86b0
    try clear c86b1
    try clear c87b0
    try clear c87b1
    try clear hcz11_0 hcz11_1 hcz11_2 hcz11_3 hcz11_4
    try clear hcz21_0 hcz21_1 hcz21_2 hcz21_3
    try clear hcz23_0 hcz23_1 hcz23_2 hcz23_3 hcz23_4
    try clear hcz32_0 hcz32_1 hcz32_2 hcz32_3
    try clear hcz34_0 hcz34_1 hcz34_2 hcz34_3
    try clear hcz37_0 hcz37_1 hcz37_2 hcz37_3 hcz37_4
    try clear hcz50_0 hcz50_1 hcz50_2 hcz50_3
    try clear hcz52_0 hcz52_1 hcz52_2 hcz52_3
    try clear hcz61_0 hcz61_1
    try clear hcz63_0 hcz63_1
    try clear hcz71_0 hcz71_1 hcz71_2 hcz71_3 hcz71_4
    try clear hcz76_0 hcz76_1 hcz76_2 hcz76_3
    try clear hcz83_0
    try clear hcz91_0
    try clear hcz95_0
    try clear hfz11_0 hfz11_1 hfz11_2 hfz11_3 hfz11_4
    try clear hfz21_0 hfz21_1 hfz21_2 hfz21_3
    try clear hfz23_0 hfz23_1 hfz23_2 hfz23_3 hfz23_4
    try clear hfz32_0 hfz32_1 hfz32_2 hfz32_3
    try clear hfz34_0 hfz34_1 hfz34_2 hfz34_3
    try clear hfz37_0 hfz37_1 hfz37_2 hfz37_3 hfz37_4
    try clear hfz50_0 hfz50_1 hfz50_2 hfz50_3
    try clear hfz52_0 hfz52_1 hfz52_2 hfz52_3
    try clear hfz61_0 hfz61_1
    try clear hfz63_0 hfz63_1
    try clear hfz71_0 hfz71_1 hfz71_2 hfz71_3 hfz71_4
    try clear hfz76_0 hfz76_1 hfz76_2 hfz76_3
    try clear hfz83_0
    try clear hfz91_0
    try clear hfz95_0
    try clear hx382_0
    try clear hx386_0
    try clear hx394_0
    try clear hx400_0
    try clear p382
    try clear p386
    try clear p394
    try clear p400
    try clear q382
    try clear q386
    try clear q394
    try clear q400
    try clear q64
    obtain ⟨kq, x96_72, rfl, HA, HJ72, HO_5, HO_6, HO_388001, HO_400000, BK372, BK373, BK387, BK399, HB⟩ := hcut
    cases kq with
    | zero => exact absurd HA.out (by simp [F41.j1])
    | succ kj72 =>
     have H := HA.out
     clear HA
     simp only [F41.j1] at H
     replace H := ib_ H; rcases H with ⟨rfl, H⟩ | ⟨rfl, H⟩
     rotate_left
     ·replace H := it_ H; rcases H with ⟨(c113b0 : decide (0 ≤ t398) = true), H⟩ | ⟨(c113b0 : decide (0 ≤ t398) = false), H⟩
      ·simp only [Option.some.injEq, Prod.mk.injEq] at H
       obtain ⟨rfl, rfl, rfl, rfl, rfl⟩ := H
       have hnb114 := NB373_372.out
       have hnc114 := NB372_373.out
       have hnb115 := NB373_387.out
       have hnc115 := NB387_373.out
       have hnb116 := NB373_399.out
       have hnc116 := NB399_373.out
       obtain ⟨hcz117_0, hcz117_1, hcz117_2, hcz117_3, hcz117_4, hfz117_0, hfz117_1, hfz117_2, hfz117_3, hfz117_4⟩ := cellsF5 BK373.out
       go_wp2
       refine bodyPost_ret (results_cell_row rfl _ _ gb373 66 #[.string (⟨#[]⟩ : ByteArray), .slice none 0 0, .int .i64 0, .int .i64 t398, .int .i64 3] (0, 0) _ rfl (bq_ BK373) Try.underlying66 rfl (by kernel_rfl)) rfl ?_
       exact ⟨_, au3_0, au3_1, bl_⟩
      replace H := iln_ H; rcases H with ⟨LMc118, H⟩
      obtain ⟨y404, hy404⟩ : ∃ y_ : List (S102), y_ = (x388001_1 ++ [(⟨t395⟩ : S102)]) := ⟨_, rfl⟩
      replace H : (F41.l0 kj72 t379 t383 (wrap64 (x8_1 + (wrap64 (((rdOf ByteArray.empty y389 x59_1).size : Int) + 1)))) y389 (y389.length : Int) (wrap64 (x59_1 + 1)) a0_0 a0_1 a0_2 a0_3 (rdOf ByteArray.empty t383 0) y404) = some (r1, r2, r3, r4, r5) := by first | (rw [hy404]; exact H) | exact H
      have Ny404 := am_ hy404
      clear hy404
      have H' := am_ H
      clear H
      have hnb119 := NB387_372.out
      have hnc119 := NB372_387.out
      have hnb120 := NB387_373.out
      have hnc120 := NB373_387.out
      have hnb121 := NB387_399.out
      have hnc121 := NB399_387.out
      obtain ⟨hcz122_0, hcz122_1, hfz122_0, hfz122_1⟩ := cellsF2 BK387.out
      have hnb123 := NB399_372.out
      have hnc123 := NB372_399.out
      have hnb124 := NB399_373.out
      have hnc124 := NB373_399.out
      have hcz125_0 : wc.cell? ⟨gb399, 0, none⟩ = some (.slice Ao79 t395.length co79) := (blk_cell BK399.out 0).trans rfl
      have hfz125_0 := blk_frozen BK399.out 0
      go_wp2_with (first | ((with_reducible refine gate_builtin (b := .append) (xs := #[.tmp 103, .tmp 105]) rfl ?_); (try (refine gate_guard (by rfl) ?_; dsimp only)); at_builtin; refine Kd.S_append k102 (w0 := w) w.heap.size rfl (.tmp 103) (.tmp 105) 57 102 (.agg #[(.slice none 0 0)]) 24 rfl Try.underlying57 info102 rfl (by decide) (by omega) u388001 x388001_1 (⟨t395⟩ : S102) [.slice Ao79 t395.length co79] (fun k_ => some k_ ≠ (.slice (some ad382) t379.length co54 : Value).ownBlock ∧ some k_ ≠ (.slice (some ad386) t383.length co57 : Value).ownBlock ∧ k_ ≠ gb399) (fun k_ => some k_ = (.slice Ao79 t395.length co79 : Value).ownBlock) rfl rfl ?aP (fun k_ hk_ => ((Kd.R_mono (ok' := fun k_ => ((fun k_ => some k_ ≠ (.slice (some ad382) t379.length co54 : Value).ownBlock ∧ some k_ ≠ (.slice (some ad386) t383.length co57 : Value).ownBlock ∧ k_ ≠ gb399)) k_ ∧ some k_ ≠ (u388001 : Value).ownBlock) (Kd.R_types (Kd.R_apart' (HO_400000.out) (Kd.S_typed HO_388001.out) (by decide)) BK399.out (by decide)) (fun k_ hk => ⟨⟨hk.1.1.1, ⟨hk.1.1.2, hk.2⟩⟩, hk.1.2⟩))).1 k_ hk_.symm) ?aF ?aO ?aB ?aS ?aL ?_; (case aP => exact au3_10); (case aB => exact bl_); (case aF => exact au3_14); (case aO => exact au3_15); (case aS => exact (below_size bl_)); (case aL => have := LMc118.out; omega); intro v405 w126 ho hb hg hat; rw [← Ny404.out] at ho; have n0_ := am_ (Kd.R_over' (rk_ HO_5) (Kd.S_typed au3_9) (by decide) hg); have n1_ := am_ (Kd.R_over' (rk_ HO_6) (Kd.S_typed au3_9) (by decide) hg); have n2_ := am_ (bg_ BK372 hg (Kd.S_ne HO_388001.out BK372.out (by decide))); have n3_ := am_ (bg_ BK373 hg (Kd.S_ne HO_388001.out BK373.out (by decide))); have n4_ := am_ (bg_ BK387 hg (Kd.S_ne HO_388001.out BK387.out (by decide))); have n5_ := am_ (bg_ BK399 hg (Kd.S_away HO_388001.out (fun _ hk => hk.2.2.2))); have n6_ := am_ (hb); have n7_ := am_ (ho); clear HO_5; clear HO_6; clear BK372; clear BK373; clear BK387; clear BK399; clear HB; clear HO_388001; clear HO_400000; have HO_5 := n0_; have HO_6 := n1_; have BK372 := n2_; have BK373 := n3_; have BK387 := n4_; have BK399 := n5_; have HB := n6_; have HO406 := n7_; clear n0_ n1_ n2_ n3_ n4_ n5_ n6_ n7_; clear ho hb hg hat; obtain ⟨Ao127, co127, eo127⟩ := Kd.S_slice HO406.out; subst eo127; obtain ⟨hcz128_0, hcz128_1, hfz128_0, hfz128_1⟩ := cellsF2 BK387.out))
      go_roundg kj72
      case measure => have := HK1.out; have := HJ72.out; omega
      case rel => exact ⟨(wrap64 (x8_1 + (wrap64 (((rdOf ByteArray.empty y389 x59_1).size : Int) + 1)))), (wrap64 (x59_1 + 1)), (x374000_1), (x374002_1), (x374003_1), (x374004_1), (y404), (.slice Ao127 y404.length co127), er_, er_, H', ⟨by have := HK1.out; have := HJ72.out; omega⟩, ⟨by (with_reducible repeat (first | apply Kd.R_alloc | apply Kd.R_drewN | apply Kd.R_drew)); exact Kd.R_mono (Kd.R_far (p := ⟨gb387, 1, none⟩) (Kd.R_types HO_5.out BK387.out (by decide)) (fun _ hk => hk.2) (.slice Ao127 y404.length co127)) (fun _ hk => hk.1.1)⟩, ⟨by (with_reducible repeat (first | apply Kd.R_alloc | apply Kd.R_drewN | apply Kd.R_drew)); exact Kd.R_mono (Kd.R_far (p := ⟨gb387, 1, none⟩) (Kd.R_types HO_6.out BK387.out (by decide)) (fun _ hk => hk.2) (.slice Ao127 y404.length co127)) (fun _ hk => hk.1.1)⟩, ⟨by (with_reducible repeat (first | apply Kd.S_alloc | apply Kd.S_drewN | apply Kd.S_drew)); exact Kd.S_mono (Kd.S_far (p := ⟨gb387, 1, none⟩) (Kd.S_types HO406.out BK387.out (by decide)) (fun _ hk => hk.2) (.slice Ao127 y404.length co127)) (fun _ hk => ⟨hk.1.1, hk.1.2.1⟩)⟩, ⟨bf_ BK372⟩, ⟨bf_ BK373⟩, ⟨bq_ BK387⟩, ⟨bl_⟩⟩
     replace H := it_ H; rcases H with ⟨(c97b0 : decide (0 ≤ x8_1) = true), H⟩ | ⟨(c97b0 : decide (0 ≤ x8_1) = false), H⟩
     ·simp only [Option.some.injEq, Prod.mk.injEq] at H
      obtain ⟨rfl, rfl, rfl, rfl, rfl⟩ := H
      have hnb98 := NB373_372.out
      have hnc98 := NB372_373.out
      have hnb99 := NB373_387.out
      have hnc99 := NB387_373.out
      have hnb100 := NB373_399.out
      have hnc100 := NB399_373.out
      obtain ⟨hcz101_0, hcz101_1, hcz101_2, hcz101_3, hcz101_4, hfz101_0, hfz101_1, hfz101_2, hfz101_3, hfz101_4⟩ := cellsF5 BK373.out
      go_wp2
      refine bodyPost_ret (results_cell_row rfl _ _ gb373 66 #[.string (⟨#[]⟩ : ByteArray), .slice none 0 0, .int .i64 0, .int .i64 x8_1, .int .i64 3] (0, 0) _ rfl (bq_ BK373) Try.underlying66 rfl (by kernel_rfl)) rfl ?_
      exact ⟨_, au3_0, au3_1, bl_⟩
     replace H := iln_ H; rcases H with ⟨LMc102, H⟩
     obtain ⟨y401, hy401⟩ : ∃ y_ : List (S102), y_ = (x388001_1 ++ [(⟨t395⟩ : S102)]) := ⟨_, rfl⟩
     replace H : (F41.l0 kj72 t379 t383 (wrap64 (x8_1 + (wrap64 (((rdOf ByteArray.empty y389 x59_1).size : Int) + 1)))) y389 (y389.length : Int) (wrap64 (x59_1 + 1)) a0_0 a0_1 a0_2 a0_3 (rdOf ByteArray.empty t383 0) y401) = some (r1, r2, r3, r4, r5) := by first | (rw [hy401]; exact H) | exact H
     have Ny401 := am_ hy401
     clear hy401
     have H' := am_ H
     clear H
     have hnb103 := NB387_372.out
     have hnc103 := NB372_387.out
     have hnb104 := NB387_373.out
     have hnc104 := NB373_387.out
     have hnb105 := NB387_399.out
     have hnc105 := NB399_387.out
     obtain ⟨hcz106_0, hcz106_1, hfz106_0, hfz106_1⟩ := cellsF2 BK387.out
     have hnb107 := NB399_372.out
     have hnc107 := NB372_399.out
     have hnb108 := NB399_373.out
     have hnc108 := NB373_399.out
     have hcz109_0 : wc.cell? ⟨gb399, 0, none⟩ = some (.slice Ao79 t395.length co79) := (blk_cell BK399.out 0).trans rfl
     have hfz109_0 := blk_frozen BK399.out 0
     go_wp2_with (first | ((with_reducible refine gate_builtin (b := .append) (xs := #[.tmp 103, .tmp 105]) rfl ?_); (try (refine gate_guard (by rfl) ?_; dsimp only)); at_builtin; refine Kd.S_append k102 (w0 := w) w.heap.size rfl (.tmp 103) (.tmp 105) 57 102 (.agg #[(.slice none 0 0)]) 24 rfl Try.underlying57 info102 rfl (by decide) (by omega) u388001 x388001_1 (⟨t395⟩ : S102) [.slice Ao79 t395.length co79] (fun k_ => some k_ ≠ (.slice (some ad382) t379.length co54 : Value).ownBlock ∧ some k_ ≠ (.slice (some ad386) t383.length co57 : Value).ownBlock ∧ k_ ≠ gb399) (fun k_ => some k_ = (.slice Ao79 t395.length co79 : Value).ownBlock) rfl rfl ?aP (fun k_ hk_ => ((Kd.R_mono (ok' := fun k_ => ((fun k_ => some k_ ≠ (.slice (some ad382) t379.length co54 : Value).ownBlock ∧ some k_ ≠ (.slice (some ad386) t383.length co57 : Value).ownBlock ∧ k_ ≠ gb399)) k_ ∧ some k_ ≠ (u388001 : Value).ownBlock) (Kd.R_types (Kd.R_apart' (HO_400000.out) (Kd.S_typed HO_388001.out) (by decide)) BK399.out (by decide)) (fun k_ hk => ⟨⟨hk.1.1.1, ⟨hk.1.1.2, hk.2⟩⟩, hk.1.2⟩))).1 k_ hk_.symm) ?aF ?aO ?aB ?aS ?aL ?_; (case aP => exact au3_10); (case aB => exact bl_); (case aF => exact au3_14); (case aO => exact au3_15); (case aS => exact (below_size bl_)); (case aL => have := LMc102.out; omega); intro v402 w110 ho hb hg hat; rw [← Ny401.out] at ho; have n0_ := am_ (Kd.R_over' (rk_ HO_5) (Kd.S_typed au3_9) (by decide) hg); have n1_ := am_ (Kd.R_over' (rk_ HO_6) (Kd.S_typed au3_9) (by decide) hg); have n2_ := am_ (bg_ BK372 hg (Kd.S_ne HO_388001.out BK372.out (by decide))); have n3_ := am_ (bg_ BK373 hg (Kd.S_ne HO_388001.out BK373.out (by decide))); have n4_ := am_ (bg_ BK387 hg (Kd.S_ne HO_388001.out BK387.out (by decide))); have n5_ := am_ (bg_ BK399 hg (Kd.S_away HO_388001.out (fun _ hk => hk.2.2.2))); have n6_ := am_ (hb); have n7_ := am_ (ho); clear HO_5; clear HO_6; clear BK372; clear BK373; clear BK387; clear BK399; clear HB; clear HO_388001; clear HO_400000; have HO_5 := n0_; have HO_6 := n1_; have BK372 := n2_; have BK373 := n3_; have BK387 := n4_; have BK399 := n5_; have HB := n6_; have HO403 := n7_; clear n0_ n1_ n2_ n3_ n4_ n5_ n6_ n7_; clear ho hb hg hat; obtain ⟨Ao111, co111, eo111⟩ := Kd.S_slice HO403.out; subst eo111; obtain ⟨hcz112_0, hcz112_1, hfz112_0, hfz112_1⟩ := cellsF2 BK387.out))
     go_roundg kj72
     case measure => have := HK1.out; have := HJ72.out; omega
     case rel => exact ⟨(wrap64 (x8_1 + (wrap64 (((rdOf ByteArray.empty y389 x59_1).size : Int) + 1)))), (wrap64 (x59_1 + 1)), (x374000_1), (x374002_1), (x374003_1), (x374004_1), (y401), (.slice Ao111 y401.length co111), er_, er_, H', ⟨by have := HK1.out; have := HJ72.out; omega⟩, ⟨by (with_reducible repeat (first | apply Kd.R_alloc | apply Kd.R_drewN | apply Kd.R_drew)); exact Kd.R_mono (Kd.R_far (p := ⟨gb387, 1, none⟩) (Kd.R_types HO_5.out BK387.out (by decide)) (fun _ hk => hk.2) (.slice Ao111 y401.length co111)) (fun _ hk => hk.1.1)⟩, ⟨by (with_reducible repeat (first | apply Kd.R_alloc | apply Kd.R_drewN | apply Kd.R_drew)); exact Kd.R_mono (Kd.R_far (p := ⟨gb387, 1, none⟩) (Kd.R_types HO_6.out BK387.out (by decide)) (fun _ hk => hk.2) (.slice Ao111 y401.length co111)) (fun _ hk => hk.1.1)⟩, ⟨by (with_reducible repeat (first | apply Kd.S_alloc | apply Kd.S_drewN | apply Kd.S_drew)); exact Kd.S_mono (Kd.S_far (p := ⟨gb387, 1, none⟩) (Kd.S_types HO403.out BK387.out (by decide)) (fun _ hk => hk.2) (.slice Ao111 y401.length co111)) (fun _ hk => ⟨hk.1.1, hk.1.2.1⟩)⟩, ⟨bf_ BK372⟩, ⟨bf_ BK373⟩, ⟨bq_ BK387⟩, ⟨bl_⟩⟩
/-- A state of type 121 at block g of W; what its slices lead to came in by w0. -/
def IsS121 (w0 W : World) (g : Nat) (f0 : List Int) (f1 : Int) (f2 : Int) (f3 : Int) : Prop := ∃ A0 c0, W.heap[g]? = some (.cells #[.slice A0 f0.length c0, .int .i64 f1, .int .u64 f2, .int .i64 f3] 121 (0, 0)) ∧ w0.heap.size ≤ g ∧ Kd.C (Kd.int .u8) w0 A0 f0.length f0
theorem IsS121.grown {w0 W : World} {g : Nat} {f0 : List Int} {f1 : Int} {f2 : Int} {f3 : Int} {W1 : World} {row : Option Nat} (h : IsS121 w0 W g f0 f1 f2 f3) (hw : W.grownBy W1 row) (hne : some g ≠ row) : IsS121 w0 W1 g f0 f1 f2 f3 := by
 obtain ⟨A0, c0, hb, hg, hr0⟩ := h
 exact ⟨A0, c0, blk_grown hb hw hne, hg, hr0⟩
theorem IsS121.own_neN {w0 W : World} {g : Nat} {f0 : List Int} {f1 : Int} {f2 : Int} {f3 : Int} {α : Type} {d : Kd α} {e : Nat} {base : Nat} {ok : Nat → Prop} {v : Value} {xs : List α} (h : IsS121 w0 W g f0 f1 f2 f3) (ho : Kd.N d e W base ok v xs) (ht : e ≠ 121) : some g ≠ v.ownBlock := by
 obtain ⟨A0, c0, hb, hg, hr0⟩ := h
 exact Kd.N_ne ho hb ht
theorem IsS121.fresh {w0 W : World} {g : Nat} {f0 : List Int} {f1 : Int} {f2 : Int} {f3 : Int} (h : IsS121 w0 W g f0 f1 f2 f3) : ∀ k, W.heap.size ≤ k → k ≠ g := by
 obtain ⟨A0, c0, hb, hg, hr0⟩ := h
 exact Kd.freshB hb
theorem IsS121.kept {w0 W : World} {g : Nat} {f0 : List Int} {f1 : Int} {f2 : Int} {f3 : Int} {W1 : World} {S : Nat → Prop} (h : IsS121 w0 W g f0 f1 f2 f3) (hk : Kept W W1 S) (hne : ¬ S g) : IsS121 w0 W1 g f0 f1 f2 f3 := by
 obtain ⟨A0, c0, hb, hg, hr0⟩ := h
 exact ⟨A0, c0, blk_kept hb hk hne, hg, hr0⟩
theorem IsS121.below {w0 W : World} {g : Nat} {f0 : List Int} {f1 : Int} {f2 : Int} {f3 : Int} {W1 : World} (h : IsS121 w0 W g f0 f1 f2 f3) (hw : Below W.heap.size W W1) : IsS121 w0 W1 g f0 f1 f2 f3 := h.grown (grown_of_below hw none) (by simp)
theorem IsS121.alloc {w0 W : World} {g : Nat} {f0 : List Int} {f1 : Int} {f2 : Int} {f3 : Int} (h : IsS121 w0 W g f0 f1 f2 f3) (o : Obj) : IsS121 w0 (W.alloc o) g f0 f1 f2 f3 := h.below (below_alloc (Below.refl _ _) o)
theorem IsS121.drewN {w0 W : World} {g : Nat} {f0 : List Int} {f1 : Int} {f2 : Int} {f3 : Int} (h : IsS121 w0 W g f0 f1 f2 f3) (m : Nat) : IsS121 w0 (W.drewN m) g f0 f1 f2 f3 := h
theorem IsS121.drew {w0 W : World} {g : Nat} {f0 : List Int} {f1 : Int} {f2 : Int} {f3 : Int} (h : IsS121 w0 W g f0 f1 f2 f3) : IsS121 w0 W.drew g f0 f1 f2 f3 := h
theorem IsS121.at_ {w0 W : World} {g : Nat} {f0 : List Int} {f1 : Int} {f2 : Int} {f3 : Int} {w' : World} {m : Nat} (hq : W.drewN m = w') (h : IsS121 w0 W g f0 f1 f2 f3) : IsS121 w0 w' g f0 f1 f2 f3 := by subst hq; exact IsS121.drewN h m
theorem IsS121.apart {w0 W : World} {g : Nat} {f0 : List Int} {f1 : Int} {f2 : Int} {f3 : Int} {α : Type} {d : Kd α} {e : Nat} {base : Nat} {ok : Nat → Prop} {v : Value} {xs : List α} (h : IsS121 w0 W g f0 f1 f2 f3) (ho : d.R e W base ok v xs) (ht : ∀ q, q ∈ e :: d.E → q ≠ 121) : d.R e W base (fun k => ok k ∧ k ≠ g) v xs := by
 obtain ⟨A0, c0, hb, hg, hr0⟩ := h
 exact Kd.R_types ho hb ht
theorem IsS121.own_ne {w0 W : World} {g : Nat} {f0 : List Int} {f1 : Int} {f2 : Int} {f3 : Int} {α : Type} {d : Kd α} {e : Nat} {base : Nat} {ok : Nat → Prop} {v : Value} {xs : List α} (h : IsS121 w0 W g f0 f1 f2 f3) (ho : d.R e W base ok v xs) (ht : e ≠ 121) : some g ≠ v.ownBlock := by
 obtain ⟨A0, c0, hb, hg, hr0⟩ := h
 exact Kd.R_ne ho hb ht
theorem IsS121.apartQ {w0 W : World} {g : Nat} {f0 : List Int} {f1 : Int} {f2 : Int} {f3 : Int} {α : Type} {d : Kd α} {e : Nat} {base : Nat} {ok : Nat → Prop} {v : Value} {xs : List α} (h : IsS121 w0 W g f0 f1 f2 f3) (ho : d.Q e W base ok v xs) (ht : ∀ q, q ∈ e :: d.E → q ≠ 121) : d.Q e W base (fun k => ok k ∧ k ≠ g) v xs := by
 obtain ⟨A0, c0, hb, hg, hr0⟩ := h
 exact Kd.Q_types ho hb ht
theorem IsS121.own_neQ {w0 W : World} {g : Nat} {f0 : List Int} {f1 : Int} {f2 : Int} {f3 : Int} {α : Type} {d : Kd α} {e : Nat} {base : Nat} {ok : Nat → Prop} {v : Value} {xs : List α} (h : IsS121 w0 W g f0 f1 f2 f3) (ho : d.Q e W base ok v xs) (ht : e ≠ 121) : some g ≠ v.ownBlock := by
 obtain ⟨A0, c0, hb, hg, hr0⟩ := h
 exact Kd.Q_ne ho hb ht
theorem IsS121.apartS {w0 W : World} {g : Nat} {f0 : List Int} {f1 : Int} {f2 : Int} {f3 : Int} {α : Type} {d : Kd α} {e : Nat} {base : Nat} {ok : Nat → Prop} {v : Value} {xs : List α} (h : IsS121 w0 W g f0 f1 f2 f3) (ho : d.S e W base ok v xs) (ht : ∀ q, q ∈ e :: d.E → q ≠ 121) : d.S e W base (fun k => ok k ∧ k ≠ g) v xs := by
 obtain ⟨A0, c0, hb, hg, hr0⟩ := h
 exact Kd.S_types ho hb ht
theorem IsS121.own_neS {w0 W : World} {g : Nat} {f0 : List Int} {f1 : Int} {f2 : Int} {f3 : Int} {α : Type} {d : Kd α} {e : Nat} {base : Nat} {ok : Nat → Prop} {v : Value} {xs : List α} (h : IsS121 w0 W g f0 f1 f2 f3) (ho : d.S e W base ok v xs) (ht : e ≠ 121) : some g ≠ v.ownBlock := by
 obtain ⟨A0, c0, hb, hg, hr0⟩ := h
 exact Kd.S_ne ho hb ht
theorem IsS121.lt {w0 W : World} {g : Nat} {f0 : List Int} {f1 : Int} {f2 : Int} {f3 : Int} (h : IsS121 w0 W g f0 f1 f2 f3) : g < W.heap.size := by
 obtain ⟨A0, c0, hb, hg, hr0⟩ := h
 exact blk_lt hb
theorem IsS121.ge {w0 W : World} {g : Nat} {f0 : List Int} {f1 : Int} {f2 : Int} {f3 : Int} (h : IsS121 w0 W g f0 f1 f2 f3) : w0.heap.size ≤ g := by
 obtain ⟨A0, c0, hb, hg, hr0⟩ := h
 exact hg
theorem IsS121.ne_blk {w0 W : World} {g : Nat} {f0 : List Int} {f1 : Int} {f2 : Int} {f3 : Int} {a : Nat} {cs : Array Value} {t : TypeId} {fr : Nat × Nat} (h : IsS121 w0 W g f0 f1 f2 f3) (hb2 : W.heap[a]? = some (.cells cs t fr)) (ht : t ≠ 121) : g ≠ a := by
 obtain ⟨A0, c0, hb, hg, hr0⟩ := h
 rintro rfl
 rw [hb] at hb2
 injection hb2 with hb2
 injection hb2 with _ ht2
 exact ht ht2.symm
theorem IsS121.far {w0 W : World} {g : Nat} {f0 : List Int} {f1 : Int} {f2 : Int} {f3 : Int} {p : Addr} (h : IsS121 w0 W g f0 f1 f2 f3) (hne : g ≠ p.block) (u : Value) : IsS121 w0 (W.setCell p u) g f0 f1 f2 f3 := by
 obtain ⟨A0, c0, hb, hg, hr0⟩ := h
 exact ⟨A0, c0, blk_far hb hne u, hg, hr0⟩
theorem cellS121_0 {W : World} {g : Nat} {A0 : Option Addr} {c0 : Nat} {f0 : List Int} {f1 : Int} {f2 : Int} {f3 : Int} (h : W.heap[g]? = some (.cells #[.slice A0 f0.length c0, .int .i64 f1, .int .u64 f2, .int .i64 f3] 121 (0, 0))) : W.cell? ⟨g, 0, none⟩ = some (.slice A0 f0.length c0) := (blk_cell h 0).trans rfl
theorem cellS121_1 {W : World} {g : Nat} {A0 : Option Addr} {c0 : Nat} {f0 : List Int} {f1 : Int} {f2 : Int} {f3 : Int} (h : W.heap[g]? = some (.cells #[.slice A0 f0.length c0, .int .i64 f1, .int .u64 f2, .int .i64 f3] 121 (0, 0))) : W.cell? ⟨g, 1, none⟩ = some (.int .i64 f1) := (blk_cell h 1).trans rfl
theorem IsS121.set_1 {w0 W : World} {g : Nat} {f0 : List Int} {f1 : Int} {f2 : Int} {f3 : Int} (h : IsS121 w0 W g f0 f1 f2 f3) (x : Int) : IsS121 w0 (W.setCell ⟨g, 1, none⟩ (.int .i64 x)) g f0 x f2 f3 := by
 obtain ⟨A0, c0, hb, hg, hr0⟩ := h
 exact ⟨A0, c0, by simpa using blk_set hb 1 (.int .i64 x), hg, hr0⟩
theorem cellS121_2 {W : World} {g : Nat} {A0 : Option Addr} {c0 : Nat} {f0 : List Int} {f1 : Int} {f2 : Int} {f3 : Int} (h : W.heap[g]? = some (.cells #[.slice A0 f0.length c0, .int .i64 f1, .int .u64 f2, .int .i64 f3] 121 (0, 0))) : W.cell? ⟨g, 2, none⟩ = some (.int .u64 f2) := (blk_cell h 2).trans rfl
theorem IsS121.set_2 {w0 W : World} {g : Nat} {f0 : List Int} {f1 : Int} {f2 : Int} {f3 : Int} (h : IsS121 w0 W g f0 f1 f2 f3) (x : Int) : IsS121 w0 (W.setCell ⟨g, 2, none⟩ (.int .u64 x)) g f0 f1 x f3 := by
 obtain ⟨A0, c0, hb, hg, hr0⟩ := h
 exact ⟨A0, c0, by simpa using blk_set hb 2 (.int .u64 x), hg, hr0⟩
theorem cellS121_3 {W : World} {g : Nat} {A0 : Option Addr} {c0 : Nat} {f0 : List Int} {f1 : Int} {f2 : Int} {f3 : Int} (h : W.heap[g]? = some (.cells #[.slice A0 f0.length c0, .int .i64 f1, .int .u64 f2, .int .i64 f3] 121 (0, 0))) : W.cell? ⟨g, 3, none⟩ = some (.int .i64 f3) := (blk_cell h 3).trans rfl
theorem IsS121.set_3 {w0 W : World} {g : Nat} {f0 : List Int} {f1 : Int} {f2 : Int} {f3 : Int} (h : IsS121 w0 W g f0 f1 f2 f3) (x : Int) : IsS121 w0 (W.setCell ⟨g, 3, none⟩ (.int .i64 x)) g f0 f1 f2 x := by
 obtain ⟨A0, c0, hb, hg, hr0⟩ := h
 exact ⟨A0, c0, by simpa using blk_set hb 3 (.int .i64 x), hg, hr0⟩
theorem IsS121.new (w0 W : World) (A0 : Option Addr) (c0 : Nat) (f0 : List Int) (f1 : Int) (f2 : Int) (f3 : Int) (hB : Below w0.heap.size w0 W) (hr0 : Kd.C (Kd.int .u8) w0 A0 f0.length f0) : IsS121 w0 (W.alloc (.cells #[.slice A0 f0.length c0, .int .i64 f1, .int .u64 f2, .int .i64 f3] 121)) W.heap.size f0 f1 f2 f3 := ⟨A0, c0, by simpa using heap_alloc_new W _, hB.size, hr0⟩

/-! ### F64: function 64 -/
def F64.l0 : Nat → List Int → Int → List Int → Int → Int → Int → Option (List Int × Int × Int × Int)
  | 0, _, _, _, _, _, _ => none
  | k + 1, x0, x4, x408000, x408001, x408002, x408003 => if x4 < (x0.length : Int) then (if x4 < 64 then (if 0 ≤ x4 then (F64.l0 k x0 (wrap64 (x4 + 1)) x408000 x408001 (IntKind.u64.wrap ((Go.bits .xor .u64 x408002 (IntKind.u64.wrap (rd x0 x4))) * 1099511628211)) x408003) else (none)) else (if (wrap64 ((x0.length : Int) / 20)) > 12 then (some (x408000, x408001, x408002, 12)) else (some (x408000, x408001, x408002, wrap64 ((x0.length : Int) / 20))))) else (if (wrap64 ((x0.length : Int) / 20)) > 12 then (some (x408000, x408001, x408002, 12)) else (some (x408000, x408001, x408002, wrap64 ((x0.length : Int) / 20))))
def F64.f (k : Nat) (l0 : List Int) : Option (List Int × Int × Int × Int) := F64.l0 k l0 0 l0 0 88172645463325252 0
theorem F64.mono_l : ∀ k, (∀ y0 y1 y2 y3 y4 y5, LeO (F64.l0 k y0 y1 y2 y3 y4 y5) (F64.l0 (k + 1) y0 y1 y2 y3 y4 y5))
 | 0 => fun _ _ _ _ _ _ r h => by simp [F64.l0] at h
 | k + 1 => by
  have ih0 := F64.mono_l k
  intro y0 y1 y2 y3 y4 y5
  unfold F64.l0
  repeat' with_reducible first | exact ih0 _ _ _ _ _ _ | exact LeO.refl _ | exact LeO.none _ | refine LeO.ite ?_ ?_ | refine LeO.bind ?_ (fun _ => ?_)
theorem F64.mono : ∀ a0 k, LeO (F64.f k a0) (F64.f (k + 1) a0) := by
 intro a0 k
 have ih0 := F64.mono_l k
 unfold F64.f
 repeat' with_reducible first | exact ih0 _ _ _ _ _ _ | exact LeO.refl _ | exact LeO.none _ | refine LeO.ite ?_ ?_ | refine LeO.bind ?_ (fun _ => ?_)
def F64.T5 : Bool × List (List Nat × List Nat) := (true, [([], []), ([], []), ([1], [1]), ([2], [2]), ([3], [3]), ([], []), ([], []), ([5, 6], [5, 6]), ([7], [7]), ([8], [8]), ([4, 9], [4, 9]), ([10], [10]), ([0, 0, 1, 2, 3, 4, 5, 6, 7, 8, 9, 10, 11], [0]), ([12, 0, 1, 2, 3, 4, 5, 6, 7, 8, 9, 10, 11], [12]), ([13, 11, 0, 1, 2, 3, 4, 5, 6, 7, 8, 9, 10, 11], [11, 13])])
def F64.B5 : List Nat := [0, 0, 2, 6, 14, 0, 0, 96, 224, 480, 1022, 2046, 4095, 8191, 16383]
theorem F64.tab5 : rtab .any (opsOf Try.f64 5) = F64.T5 := by kernel_rfl
theorem F64.bits5 : waitsOk F64.T5.2 F64.B5 = true := by kernel_rfl
theorem F64.calls (k : Nat) (A0 : Option Addr) (c0 : Nat) (l0 : List Int) (r1 : List Int) (r2 : Int) (r3 : Int) (r4 : Int) (w0 w : World) (hB : Below w0.heap.size w0 w) (hr0 : Kd.C (Kd.int .u8) w0 A0 l0.length l0) (hc0 : l0.length ≤ c0) (h : F64.f k l0 = some (r1, r2, r3, r4)) :
  Calls Try.prog 64 #[.slice A0 l0.length c0] w fun e w' => ∃ g_ : Nat, e = .returned (.pointer (some ⟨g_, 0, none⟩)) ∧ IsS121 w0 w' g_ r1 r2 r3 r4 ∧ Below w0.heap.size w0 w' ∧ Below w.heap.size w w' := by
 have hu121 := Try.underlying121
 have HR0 := am_ hr0
 have HC0 := am_ hc0
 clear hr0 hc0
 have HBW := am_ (Below.refl w.heap.size w)
 have HW0 := am_ hB.size
 have HB := am_ hB
 clear hB
 have H : (F64.l0 k l0 0 l0 0 88172645463325252 0) = some (r1, r2, r3, r4) := h
 clear h
 have H' := am_ H
 clear H
 go_enter Try.func64, Try.ntmps64
 go_wp2_with (first | ((with_reducible refine gate_dst (N := 7) rfl ?_); refine be_ 7 #[.slice A0 l0.length c0, .int .i64 0, .int .u64 88172645463325252, .int .i64 0] 121 ?_; intro gb407 hg w2 hbox hb; replace HB := am_ (below_step bl_ hb); have BK407 := am_ (hbox); have GW407 := am_ ((by rw [hg]; exact (below_size au3_23) : w.heap.size ≤ gb407)); have GE407 := am_ ((Nat.le_trans HW0.out (by rw [hg]; exact (below_size au3_23) : w.heap.size ≤ gb407) : w0.heap.size ≤ gb407)); replace HBW := am_ (below_step HBW.out hb); clear hb hbox hg))
 go_loopg [4] k (fun kq v4 w' => ∃ (x4_1 : Int) (x408002_1 : Int), v4 = .int .i64 x4_1 ∧ Aside0 (F64.l0 kq l0 x4_1 l0 0 x408002_1 0 = some (r1, r2, r3, r4)) ∧ Aside0 (kq ≤ k) ∧ Aside0 (w'.heap[gb407]? = some (.cells #[(.slice A0 l0.length c0), .int .i64 0, .int .u64 x408002_1, .int .i64 0] 121 (0, 0))) ∧ Aside0 (Below w.heap.size w w') ∧ Aside0 (Below w0.heap.size w0 w'))
 case atStart => exact ⟨(0), (88172645463325252), er_, H', ⟨Nat.le_refl _⟩, ⟨bk_ BK407⟩, ⟨au3_4⟩, ⟨bl_⟩⟩
 case round =>
  clear H'
  obtain ⟨x4_1, x408002_1, rfl, HA, HK1, BK407, HBW, HB⟩ := hrel
  cases gk with
  | zero => exact absurd HA.out (by simp [F64.l0])
  | succ k1 =>
   have H := HA.out
   clear HA
   simp only [F64.l0] at H
   replace H := it_ H; rcases H with ⟨c3b0, H⟩ | ⟨c3b0, H⟩
   rotate_left
   ·replace H := it_ H; rcases H with ⟨(c11b0 : decide (12 < (wrap64 ((l0.length : Int) / 20))) = true), H⟩ | ⟨(c11b0 : decide (12 < (wrap64 ((l0.length : Int) / 20))) = false), H⟩
    rotate_left
    ·simp only [Option.some.injEq, Prod.mk.injEq] at H
     obtain ⟨rfl, rfl, rfl, rfl⟩ := H
     obtain ⟨hcz13_0, hcz13_1, hcz13_2, hcz13_3, hfz13_0, hfz13_1, hfz13_2, hfz13_3⟩ := cellsF4 BK407.out
     go_wp2
     go_ret
     exact ⟨_, rfl, (show IsS121 w0 _ gb407 l0 0 x408002_1 (wrap64 ((l0.length : Int) / 20)) from ⟨_, _, bq_ BK407, GE407.out, HR0.out⟩), bl_, au3_4⟩
    simp only [Option.some.injEq, Prod.mk.injEq] at H
    obtain ⟨rfl, rfl, rfl, rfl⟩ := H
    obtain ⟨hcz12_0, hcz12_1, hcz12_2, hcz12_3, hfz12_0, hfz12_1, hfz12_2, hfz12_3⟩ := cellsF4 BK407.out
    go_wp2
    go_ret
    exact ⟨_, rfl, (show IsS121 w0 _ gb407 l0 0 x408002_1 12 from ⟨_, _, bq_ BK407, GE407.out, HR0.out⟩), bl_, au3_4⟩
   replace H := it_ H; rcases H with ⟨c4b0, H⟩ | ⟨c4b0, H⟩
   rotate_left
   ·replace H := it_ H; rcases H with ⟨(c8b0 : decide (12 < (wrap64 ((l0.length : Int) / 20))) = true), H⟩ | ⟨(c8b0 : decide (12 < (wrap64 ((l0.length : Int) / 20))) = false), H⟩
    rotate_left
    ·simp only [Option.some.injEq, Prod.mk.injEq] at H
     obtain ⟨rfl, rfl, rfl, rfl⟩ := H
     obtain ⟨hcz10_0, hcz10_1, hcz10_2, hcz10_3, hfz10_0, hfz10_1, hfz10_2, hfz10_3⟩ := cellsF4 BK407.out
     go_wp2
     go_ret
     exact ⟨_, rfl, (show IsS121 w0 _ gb407 l0 0 x408002_1 (wrap64 ((l0.length : Int) / 20)) from ⟨_, _, bq_ BK407, GE407.out, HR0.out⟩), bl_, au3_4⟩
    simp only [Option.some.injEq, Prod.mk.injEq] at H
    obtain ⟨rfl, rfl, rfl, rfl⟩ := H
    obtain ⟨hcz9_0, hcz9_1, hcz9_2, hcz9_3, hfz9_0, hfz9_1, hfz9_2, hfz9_3⟩ := cellsF4 BK407.out
    go_wp2
    go_ret
    exact ⟨_, rfl, (show IsS121 w0 _ gb407 l0 0 x408002_1 12 from ⟨_, _, bq_ BK407, GE407.out, HR0.out⟩), bl_, au3_4⟩
   replace H := itn_ H; rcases H with ⟨c5b0, H⟩
   have H' := am_ H
   clear H
   try go_wp2
   replace BK407 := bd_ BK407
   replace HB := am_ (below_drew1 HB.out)
   replace HBW := am_ (below_drew1 HBW.out)
   have p408 : 0 ≤ (x4_1 : Int) := od_
   have q408 : x4_1 < (l0.length : Int) := od_
   obtain ⟨ad408, e408, hx408_0⟩ := Kd.at_int HR0.out x4_1 p408 q408
   have hw408_0 := hx408_0
   cases e408
   replace hx408_0 := pw_cell_below HB.out hx408_0
   replace p408 := eq_true p408
   replace q408 := eq_true q408
   refine start_ (n := 15) (S := fun w' => w'.cell? ⟨gb407, 0, none⟩ = some (.slice (some ad408) l0.length c0) ∧ w'.cell? ⟨gb407, 1, none⟩ = some (.int .i64 0) ∧ w'.cell? ⟨gb407, 2, none⟩ = some (.int .u64 x408002_1) ∧ w'.cell? ⟨gb407, 3, none⟩ = some (.int .i64 0) ∧ w'.cell? (ad408.add (x4_1).toNat) = some (.int .u8 (rd l0 x4_1))) (ds := [14]) (bs 15 0) (by kernel_rfl) rfl rfl ⟨(blk_cell BK407.out 0).trans rfl, (blk_cell BK407.out 1).trans rfl, (blk_cell BK407.out 2).trans rfl, (blk_cell BK407.out 3).trans rfl, ((HB.out.cell (World.block_lt_of_cell? _ _ hw408_0)).trans hw408_0)⟩ (fun hHeld => ?_); refine with_tabW F64.tab5 F64.bits5 (fun HT_ HW_ => ?_)
   generalize wr.drew = w6 at BK407 HB HBW hx408_0 hHeld ⊢
   refine pu_ 0 18 (bs 15 1) HT_ ?_ rfl rfl
   refine pu_ 1 19 (bs 15 3) HT_ ?_ rfl rfl
   refine pu_ 2 20 (bs 15 7) HT_ ?_ rfl rfl
   refine pu_ 3 21 (bs 15 15) HT_ ?_ rfl rfl
   refine pu_ 5 23 (bs 15 47) HT_ ?_ rfl rfl
   refine pu_ 6 24 (bs 15 111) HT_ ?_ rfl rfl
   refine pu_ 7 25 (bs 15 239) HT_ ?_ rfl rfl
   refine tk_ 4 22 (bs 15 255) HT_ HW_ hHeld au3_12 ?_ rfl rfl
   refine tk_ 8 26 (bs 15 511) HT_ HW_ hHeld au3_12 ?_ rfl rfl
   refine pu_ 9 27 (bs 15 1023) HT_ ?_ rfl rfl
   refine pu_ 10 28 (bs 15 2047) HT_ ?_ rfl rfl
   refine pu_ 11 29 (bs 15 4095) HT_ ?_ rfl rfl
   refine pu_ 12 30 (bs 15 8191) HT_ ?_ rfl rfl
   refine pu_ 13 31 (bs 15 16383) HT_ ?_ rfl rfl
   refine last_ (i := 14) (N := none) (bs 15 32767) rfl rfl (one_of HT_.out (by kernel_rfl)) (by decide) (fun K hK => ?_)
   have hs7 : w6.cell? ⟨gb407, 2, none⟩ = some (.int .u64 x408002_1) := (blk_cell BK407.out 2).trans rfl
   have hfs7 := blk_frozen BK407.out 2
   refine skip_ (w1 := ?_) (by rfl) rfl ?_ ?_
   rotate_left
   ·go_simp
    rfl
   refine hK.out _ _ ?_
   clear hK K
   refine done_ (done_of HT_.out (by kernel_rfl)) ?_
   try go_wp2
   go_roundg k1
   case measure => have := HK1.out; omega
   case rel => exact ⟨(wrap64 (x4_1 + 1)), (IntKind.u64.wrap ((Go.bits .xor .u64 x408002_1 (IntKind.u64.wrap (rd l0 x4_1))) * 1099511628211)), er_, H', ⟨by have := HK1.out; omega⟩, ⟨bq_ BK407⟩, ⟨au3_4⟩, ⟨bl_⟩⟩
end Go.Proofs.Ytchoalagkcdbhaa.PFnSegmentBack
