-- printed by a program of this session (wip/xp/xprint.py) out of the translation; Lean checks it
import Derived.Test.YtchoalagkcdbhaaPFnExactSegmentReadx0
import Derived.Test.YtchoalagkcdbhaaPFnExactSegmentReadx1
import Derived.Test.YtchoalagkcdbhaaPFnExactSegmentReadx2
namespace Go.Proofs.Ytchoalagkcdbhaa.PFnExactSegmentRead
open Go.RowKit Go.Proofs.YtchoalagkcdbhaaW.PrintWords Go.Proofs.YtchoalagkcdbhaaW.PrintLast Go.Proofs.YtchoalagkcdbhaaW.PrintMore
attribute [local go_sem] max2_int min2_int max_two min_two max_three min_three max_four min_four   -- for this text's walks alone
set_option linter.unusedVariables false
set_option linter.unusedSimpArgs false
set_option maxHeartbeats 8000000
set_option maxRecDepth 100000

theorem au3_0 {p : Prop} (h : p := by first | rfl | (simp [errW_none, errW_some] <;> rfl) | (simp [*, errW_none, errW_some] <;> rfl)) : p := h
theorem au3_1 {p : Prop} (h : p := by first | exact Kd.S_nil _ _ _ _ _ | exact Kd.N_nil _ _ _ _ _ | exact Kd.V_nil _ _ _ _ _ | exact Kd.Q_nil _ _ _ _ _ | exact Kd.R_nil _ _ _ _ _) : p := h
theorem au3_2 {p : Prop} (h : p := by first | exact Kd.own_blk (Kd.R_ne HO_5.out BK313.out (by decide)) | (rw [add_block]; exact Kd.own_blk (Kd.R_ne HO_5.out BK313.out (by decide))) | (show (Addr.add _ _).block ≠ _; rw [add_block]; exact Kd.own_blk (Kd.R_ne HO_5.out BK313.out (by decide))) | (dsimp only; exact Kd.own_blk (Kd.R_ne HO_5.out BK313.out (by decide)))) : p := h
theorem au3_3 {p : Prop} (h : p := by repeat (first | exact (Kd.R_reads' HO316.out).2.2 | (with_reducible refine Kd.C_alloc ?_ _) | (with_reducible refine Kd.C_drewN ?_ _) | (with_reducible refine Kd.C_drew ?_))) : p := h
theorem au3_4 {p : Prop} (h : p := by (with_reducible repeat (first | apply Kd.S_alloc | apply Kd.S_drewN | apply Kd.S_drew)); exact Kd.S_mono (Kd.S_far (p := ⟨gb339, 0, none⟩) (Kd.S_mono HO_328001.out (fun k_ hk => (⟨hk, hk.2⟩ : _ ∧ k_ ≠ gb339))) (fun _ hk => hk.2) (.slice Ao79 t335.length co79)) (fun _ hk => ⟨hk.1.1.1.1, ⟨hk.1.1.1.2, ⟨hk.1.1.2, hk.1.2⟩⟩⟩)) : p := h
theorem au3_5 {p : Prop} (h : p := by (with_reducible repeat (first | apply Kd.R_alloc | apply Kd.R_drewN | apply Kd.R_drew)); exact Kd.R_mono (Kd.R_far (p := ⟨gb339, 0, none⟩) (Kd.R_types HO337.out BK339.out (by decide)) (fun _ hk => hk.2) (.slice Ao79 t335.length co79)) (fun _ hk => ⟨hk.1.1.2, hk.1.2⟩)) : p := h
theorem au3_6 {p : Prop} (h : p := by (with_reducible repeat (first | apply Kd.R_alloc | apply Kd.R_drewN | apply Kd.R_drew)); exact Kd.R_mono (Kd.R_far (p := ⟨gb339, 0, none⟩) (Kd.R_types HO_5.out BK339.out (by decide)) (fun _ hk => hk.2) (.slice Ao79 t335.length co79)) (fun _ hk => ⟨hk.1.1, hk.1.2⟩)) : p := h
theorem au3_7 {p : Prop} (h : p := by (with_reducible repeat (first | apply Kd.R_alloc | apply Kd.R_drewN | apply Kd.R_drew)); exact Kd.R_mono (Kd.R_far (p := ⟨gb339, 0, none⟩) (Kd.R_types HO_6.out BK339.out (by decide)) (fun _ hk => hk.2) (.slice Ao79 t335.length co79)) (fun _ hk => ⟨hk.1.1, hk.1.2⟩)) : p := h
theorem au3_8 {p : Prop} (h : p := by (with_reducible repeat (first | apply Kd.S_alloc | apply Kd.S_drewN | apply Kd.S_drew)); exact HO_328001.out) : p := h
theorem au3_9 {p : Prop} (h : p := by exact k102_mkM _ _ _ (⟨t335⟩ : S102) (Kd.R_mono (Kd.R_tight rfl (Kd.R_mono (ok' := fun k_ => ((fun k_ => some k_ ≠ (.slice (some ad322) t319.length co54 : Value).ownBlock ∧ some k_ ≠ (.slice (some ad326) t323.length co57 : Value).ownBlock ∧ k_ ≠ gb339)) k_ ∧ some k_ ≠ (u328001 : Value).ownBlock) (Kd.R_types (Kd.R_apart' (HO_340000.out) (Kd.S_typed HO_328001.out) (by decide)) BK339.out (by decide)) (fun k_ hk => ⟨⟨hk.1.1.1, ⟨hk.1.1.2, hk.2⟩⟩, hk.1.2⟩))) (fun _ h_ => h_))) : p := h
theorem au3_10 {p : Prop} (h : p := by exact (Reps.one (show Kd.M Kd.string _ _ _ a1 [.string a1] from rfl) (Reps.none _ _))) : p := h
theorem au3_11 {p : Prop} (h : p := by repeat (first | exact HR0.out | (with_reducible refine Kd.C_alloc ?_ _) | (with_reducible refine Kd.C_drewN ?_ _) | (with_reducible refine Kd.C_drew ?_))) : p := h
theorem au3_12 {p : Prop} (h : p := by rintro w' ⟨s0, s1, s2, s3, s4⟩; go_simp; with_reducible rfl) : p := h
theorem au3_13 {p : Prop} (h : p := by (with_reducible repeat (first | apply Kd.R_alloc | apply Kd.R_drewN | apply Kd.R_drew)); exact Kd.R_mono (Kd.R_far (p := ⟨gb303, 0, none⟩) (Kd.R_types HO302.out BK303.out (by decide)) (fun _ hk => hk.2) (.slice none 0 0)) (fun _ hk => (by simp [Value.ownBlock]))) : p := h
theorem au3_14 {p : Prop} (h : p := by have := HK1.out; first | omega | exact Nat.le_refl _) : p := h
theorem au3_15 {p : Prop} (h : p := by exact (fun k_ hk => ⟨Kd.fresh' (Kd.R_lt (rk_ HO_5)) k_ hk, Kd.fresh' (Kd.R_lt (rk_ HO_6)) k_ hk, Kd.freshB (g := gb339) (o := .cells #[.slice Ao79 t335.length co79] 102 (0, 0)) (bk_ BK339) k_ hk⟩)) : p := h
theorem au3_16 {p : Prop} (h : p := by exact (by (with_reducible repeat (first | apply Kd.S_alloc | apply Kd.S_drewN | apply Kd.S_drew)); exact Kd.S_mono HO_328001.out (fun k_ hk => ⟨⟨hk.1, ⟨hk.2.1, hk.2.2.2⟩⟩, fun e_ => hk.2.2.1 e_⟩))) : p := h
theorem au3_17 {p : Prop} (h : p := by first | rfl | (simp [errW_none, errW_some] <;> rfl) | (simp only [← hji61]; first | rfl | (simp [errW_none, errW_some] <;> rfl)) | (simp [*, errW_none, errW_some] <;> rfl)) : p := h
theorem au3_18 {p : Prop} (h : p := by rw [← hq_]; exact (by (with_reducible repeat (first | apply Kd.R_alloc | apply Kd.R_drewN | apply Kd.R_drew)); exact Kd.R_mono HO_304000.out (fun _ hk => ⟨hk.2, hk.1⟩))) : p := h
theorem au3_19 {p : Prop} (h : p := by (try simp only [List.map_toArray, List.map_cons, List.map_nil]); first | done | (simp only [hji13]; rfl) | rfl | (simp only [List.length_drop, List.length_take]; rfl)) : p := h
theorem au3_20 {p : Prop} (h : p := by rintro w' ⟨s0, s1, s2, s3⟩; go_simp; with_reducible rfl) : p := h
theorem au3_21 {p : Prop} (h : p := by first | exact Kd.R_nil _ _ _ _ _ | exact Kd.N_nil _ _ _ _ _ | exact Kd.V_nil _ _ _ _ _ | exact Kd.Q_nil _ _ _ _ _ | exact Kd.S_nil _ _ _ _ _) : p := h
theorem au3_22 {p : Prop} (h : p := by exact (Kd.R_reads' HO316.out).2.1) : p := h

/-! ### F40: function 40 -/
def F40.f (k : Nat) (a0_0 : Int) (a0_1 : Int) (a0_2 : Int) (a0_3 : Int) (a1 : ByteArray) : Option (ByteArray × (List (S102)) × Int × Int × Int) := if (a1.size : Int) > 20000 then (some ((⟨#[]⟩ : ByteArray), ([] : List (S102)), 0, 0, 2)) else ((F23.f k a0_0 a0_1 a0_2 a0_3).bind fun t235 => (if t235 = true then ((F87.f k a0_0 a0_1 a0_2 a0_3 a1).bind fun bt236 => (some (bt236.1, bt236.2.1, bt236.2.2.1, bt236.2.2.2.1, bt236.2.2.2.2))) else (some ((⟨#[]⟩ : ByteArray), ([] : List (S102)), 0, 0, 1))))
theorem F40.mono : ∀ a0 a1 a2 a3 a4 k, LeO (F40.f k a0 a1 a2 a3 a4) (F40.f (k + 1) a0 a1 a2 a3 a4) := by
 intro a0 a1 a2 a3 a4 k
 unfold F40.f
 repeat' with_reducible first | exact F23.mono _ _ _ _ _ | exact F87.mono _ _ _ _ _ _ | exact LeO.refl _ | exact LeO.none _ | refine LeO.ite ?_ ?_ | refine LeO.bind ?_ (fun _ => ?_)
theorem F40.calls (k : Nat) (a0_0 : Int) (a0_1 : Int) (a0_2 : Int) (a0_3 : Int) (a1 : ByteArray) (r1 : ByteArray) (r2 : List (S102)) (r3 : Int) (r4 : Int) (r5 : Int) (w : World) (h : F40.f k a0_0 a0_1 a0_2 a0_3 a1 = some (r1, r2, r3, r4, r5)) :
  Calls Try.prog 40 #[.agg #[.int .i64 a0_0, .int .i64 a0_1, .int .i64 a0_2, .int .i64 a0_3], .string a1] w fun e w' => ∃ v1_ : Value, e = .returned (.agg #[.string r1, v1_, .int .i64 r3, .int .i64 r4, .int .i64 r5]) ∧ Kd.S k102 102 w' w.heap.size (fun _ => True) v1_ r2 ∧ Below w.heap.size w w' := by
 have hu23 := Try.underlying23
 have hu66 := Try.underlying66
 have HB := am_ (Below.refl w.heap.size w)
 have H : (if (a1.size : Int) > 20000 then (some ((⟨#[]⟩ : ByteArray), ([] : List (S102)), 0, 0, 2)) else ((F23.f k a0_0 a0_1 a0_2 a0_3).bind fun t235 => (if t235 = true then ((F87.f k a0_0 a0_1 a0_2 a0_3 a1).bind fun bt236 => (some (bt236.1, bt236.2.1, bt236.2.2.1, bt236.2.2.2.1, bt236.2.2.2.2))) else (some ((⟨#[]⟩ : ByteArray), ([] : List (S102)), 0, 0, 1))))) = some (r1, r2, r3, r4, r5) := h
 clear h
 replace H := it_ H; rcases H with ⟨(c3b0 : decide (20000 < (a1.size : Int)) = true), H⟩ | ⟨(c3b0 : decide (20000 < (a1.size : Int)) = false), H⟩
 ·have c3b1 : decide (20000 < a1.size) = true := n2_ c3b0
  simp only [Option.some.injEq, Prod.mk.injEq] at H
  obtain ⟨rfl, rfl, rfl, rfl, rfl⟩ := H
  go_enter Try.func40, Try.ntmps40
  go_wp2_with (first | ((with_reducible refine gate_dst (N := 2) rfl ?_); refine be_ 2 #[.int .i64 a0_0, .int .i64 a0_1, .int .i64 a0_2, .int .i64 a0_3] 23 ?_; intro gb233 hg w4 hbox hb; have BK233 := am_ (hbox); have GW233 := am_ (gw_ hg bl_); have GE233 := GW233; replace HB := hs_ w hb; clear hb hbox hg) | ((with_reducible refine gate_dst (N := 4) rfl ?_); refine be_ 4 #[.string (⟨#[]⟩ : ByteArray), .slice none 0 0, .int .i64 0, .int .i64 0, .int .i64 0] 66 ?_; intro gb234 hg w5 hbox hb; have BK234 := am_ (hbox); have GW234 := am_ (gw_ hg bl_); have GE234 := GW234; replace HB := hs_ w hb; have NB233_234 := am_ (gn_ hg (blkl_ BK233)); have NB234_233 := am_ (gm_ hg (blkl_ BK233)); replace BK233 := bb_ BK233 hb; clear hb hbox hg; have hnb6 := NB234_233.out; have hnc6 := NB233_234.out; obtain ⟨hcz7_0, hcz7_1, hcz7_2, hcz7_3, hcz7_4, hfz7_0, hfz7_1, hfz7_2, hfz7_3, hfz7_4⟩ := cellsF5 BK234.out))
  refine bodyPost_ret (results_cell_row rfl _ _ gb234 66 #[.string (⟨#[]⟩ : ByteArray), .slice none 0 0, .int .i64 0, .int .i64 0, .int .i64 2] (0, 0) _ rfl (bq_ BK234) Try.underlying66 rfl (by kernel_rfl)) rfl ?_
  exact ⟨_, au3_0, au3_1, bl_⟩
 have c3b1 : decide (20000 < a1.size) = false := n2_ c3b0
 replace H := bi_ H; rcases H with ⟨t235, A8, H⟩
 replace H := ib_ H; rcases H with ⟨rfl, H⟩ | ⟨rfl, H⟩
 rotate_left
 ·simp only [Option.some.injEq, Prod.mk.injEq] at H
  obtain ⟨rfl, rfl, rfl, rfl, rfl⟩ := H
  go_enter Try.func40, Try.ntmps40
  go_wp2_with (first | ((with_reducible refine gate_dst (N := 2) rfl ?_); refine be_ 2 #[.int .i64 a0_0, .int .i64 a0_1, .int .i64 a0_2, .int .i64 a0_3] 23 ?_; intro gb233 hg w20 hbox hb; have BK233 := am_ (hbox); have GW233 := am_ (gw_ hg bl_); have GE233 := GW233; replace HB := hs_ w hb; clear hb hbox hg) | ((with_reducible refine gate_dst (N := 4) rfl ?_); refine be_ 4 #[.string (⟨#[]⟩ : ByteArray), .slice none 0 0, .int .i64 0, .int .i64 0, .int .i64 0] 66 ?_; intro gb234 hg w21 hbox hb; have BK234 := am_ (hbox); have GW234 := am_ (gw_ hg bl_); have GE234 := GW234; replace HB := hs_ w hb; have NB233_234 := am_ (gn_ hg (blkl_ BK233)); have NB234_233 := am_ (gm_ hg (blkl_ BK233)); replace BK233 := bb_ BK233 hb; clear hb hbox hg; have hnb22 := NB233_234.out; have hnc22 := NB234_233.out; obtain ⟨hcz23_0, hcz23_1, hcz23_2, hcz23_3, hfz23_0, hfz23_1, hfz23_2, hfz23_3⟩ := cellsF4 BK233.out) | ((with_reducible refine gate_callee (f := 23) rfl ?_); refine gl_ 10 Try.func23 #[.agg #[.int .i64 a0_0, .int .i64 a0_1, .int .i64 a0_2, .int .i64 a0_3]] ?_ rfl rfl rfl rfl; (with_reducible refine (F23.calls k a0_0 a0_1 a0_2 a0_3 false _ A8.out).mono ?_); rintro e w24 ⟨rfl, hb⟩; refine ⟨_, rfl, ?_⟩; replace BK233 := bb_ BK233 hb; replace BK234 := bb_ BK234 hb; replace HB := hs_ w hb; (try clear hb); obtain ⟨hcz25_0, hcz25_1, hcz25_2, hcz25_3, hcz25_4, hfz25_0, hfz25_1, hfz25_2, hfz25_3, hfz25_4⟩ := cellsF5 BK234.out))
  refine bodyPost_ret (results_cell_row rfl _ _ gb234 66 #[.string (⟨#[]⟩ : ByteArray), .slice none 0 0, .int .i64 0, .int .i64 0, .int .i64 1] (0, 0) _ rfl (bq_ BK234) Try.underlying66 rfl (by kernel_rfl)) rfl ?_
  exact ⟨_, au3_0, au3_1, bl_⟩

 replace H := bi_ H; rcases H with ⟨⟨t236, t237, t240, t241, t242⟩, A10, H⟩
 simp only [Option.some.injEq, Prod.mk.injEq] at H
 obtain ⟨rfl, rfl, rfl, rfl, rfl⟩ := H
 go_enter Try.func40, Try.ntmps40
 go_wp2_with (first | ((with_reducible refine gate_dst (N := 2) rfl ?_); refine be_ 2 #[.int .i64 a0_0, .int .i64 a0_1, .int .i64 a0_2, .int .i64 a0_3] 23 ?_; intro gb233 hg w11 hbox hb; have BK233 := am_ (hbox); have GW233 := am_ (gw_ hg bl_); have GE233 := GW233; replace HB := hs_ w hb; clear hb hbox hg) | ((with_reducible refine gate_dst (N := 4) rfl ?_); refine be_ 4 #[.string (⟨#[]⟩ : ByteArray), .slice none 0 0, .int .i64 0, .int .i64 0, .int .i64 0] 66 ?_; intro gb234 hg w12 hbox hb; have BK234 := am_ (hbox); have GW234 := am_ (gw_ hg bl_); have GE234 := GW234; replace HB := hs_ w hb; have NB233_234 := am_ (gn_ hg (blkl_ BK233)); have NB234_233 := am_ (gm_ hg (blkl_ BK233)); replace BK233 := bb_ BK233 hb; clear hb hbox hg; have hnb13 := NB233_234.out; have hnc13 := NB234_233.out; obtain ⟨hcz14_0, hcz14_1, hcz14_2, hcz14_3, hfz14_0, hfz14_1, hfz14_2, hfz14_3⟩ := cellsF4 BK233.out) | ((with_reducible refine gate_callee (f := 23) rfl ?_); refine gl_ 10 Try.func23 #[.agg #[.int .i64 a0_0, .int .i64 a0_1, .int .i64 a0_2, .int .i64 a0_3]] ?_ rfl rfl rfl rfl; (with_reducible refine (F23.calls k a0_0 a0_1 a0_2 a0_3 true _ A8.out).mono ?_); rintro e w15 ⟨rfl, hb⟩; refine ⟨_, rfl, ?_⟩; replace BK233 := bb_ BK233 hb; replace BK234 := bb_ BK234 hb; replace HB := hs_ w hb; (try clear hb); obtain ⟨hcz16_0, hcz16_1, hcz16_2, hcz16_3, hfz16_0, hfz16_1, hfz16_2, hfz16_3⟩ := cellsF4 BK233.out) | ((with_reducible refine gate_callee (f := 87) rfl ?_); refine gl_ 15 Try.func87 #[.agg #[.int .i64 a0_0, .int .i64 a0_1, .int .i64 a0_2, .int .i64 a0_3], .string a1] ?_ rfl rfl rfl rfl; (with_reducible refine (F87.calls k a0_0 a0_1 a0_2 a0_3 a1 t236 t237 t240 t241 t242 _ A10.out).mono ?_); rintro e w17 ⟨v238, rfl, ho0, hb⟩; refine ⟨_, rfl, ?_⟩; have HO239 := am_ (Kd.S_lower ho0 (below_size bl_)); replace BK233 := bb_ BK233 hb; replace BK234 := bb_ BK234 hb; replace HB := hs_ w hb; (try clear hb); (try clear ho0); obtain ⟨hcz18_0, hcz18_1, hcz18_2, hcz18_3, hcz18_4, hfz18_0, hfz18_1, hfz18_2, hfz18_3, hfz18_4⟩ := cellsF5 BK234.out; obtain ⟨Ao19, co19, eo19⟩ := Kd.S_slice HO239.out; subst eo19))
 refine bodyPost_ret (results_cell_row rfl _ _ gb234 66 #[.string t236, .slice Ao19 t237.length co19, .int .i64 t240, .int .i64 t241, .int .i64 t242] (0, 0) _ rfl (bq_ BK234) Try.underlying66 rfl (by kernel_rfl)) rfl ?_
 exact ⟨_, au3_0, by (with_reducible repeat (first | apply Kd.S_alloc | apply Kd.S_drewN | apply Kd.S_drew)); exact Kd.S_mono (Kd.S_far (p := ⟨gb234, 4, none⟩) (Kd.S_far (p := ⟨gb234, 3, none⟩) (Kd.S_far (p := ⟨gb234, 2, none⟩) (Kd.S_far (p := ⟨gb234, 1, none⟩) (Kd.S_far (p := ⟨gb234, 0, none⟩) (Kd.S_types HO239.out BK234.out (by decide)) (fun _ hk => hk.2) (.string t236)) (fun _ hk => hk.2) (.slice Ao19 t237.length co19)) (fun _ hk => hk.2) (.int .i64 t240)) (fun _ hk => hk.2) (.int .i64 t241)) (fun _ hk => hk.2) (.int .i64 t242)) (fun _ hk => trivial), bl_⟩
/-! ### F100: function 100 -/
def F100.f (a0 : ByteArray) : Option (Bool) := some (decide ((a0.size : Int) > 20000))
theorem F100.calls (a0 : ByteArray) (r : Bool) (w : World) (h : F100.f a0 = some r) :
  Calls Try.prog 100 #[.string a0] w fun e w' => e = .returned (.bool r) ∧ Drawn0 w w' := by
 have H : (some (decide ((a0.size : Int) > 20000))) = some r := h
 clear h
 obtain rfl := Option.some.inj H
 go_enter Try.func100, Try.ntmps100
 go_wp2
 go_ret
 exact ⟨er_, dn_⟩

/-! ### F111: function 111 -/
def F111.l0 : Nat → List ByteArray → Int → Int → Option (Int)
  | 0, _, _, _ => none
  | k + 1, x0, x7, x8 => if x8 < x7 then (if 0 ≤ x8 then (if x8 < (x0.length : Int) then ((F100.f (rdOf ByteArray.empty x0 x8)).bind fun t244 => (if t244 = true then (some x8) else (F111.l0 k x0 x7 (wrap64 (x8 + 1))))) else (none)) else (none)) else (some (-1))
def F111.f (k : Nat) (l0 : List ByteArray)  : Option (Int) := F111.l0 k l0 (l0.length : Int) 0
theorem F111.mono_l : ∀ k, (∀ y0 y1 y2, LeO (F111.l0 k y0 y1 y2) (F111.l0 (k + 1) y0 y1 y2))
 | 0 => fun _ _ _ r h => by simp [F111.l0] at h
 | k + 1 => by
  have ih0 := F111.mono_l k
  intro y0 y1 y2
  unfold F111.l0
  repeat' with_reducible first | exact ih0 _ _ _ | exact LeO.refl _ | exact LeO.none _ | refine LeO.ite ?_ ?_ | refine LeO.bind ?_ (fun _ => ?_)
theorem F111.mono : ∀ a0 k, LeO (F111.f k a0) (F111.f (k + 1) a0) := by
 intro a0 k
 have ih0 := F111.mono_l k
 unfold F111.f
 repeat' with_reducible first | exact ih0 _ _ _ | exact LeO.refl _ | exact LeO.none _ | refine LeO.ite ?_ ?_ | refine LeO.bind ?_ (fun _ => ?_)
theorem F111.calls (k : Nat) (A0 : Option Addr) (c0 : Nat) (l0 : List ByteArray)  (r : Int) (w : World) (hr0 : Kd.C Kd.string w A0 l0.length l0) (hc0 : l0.length ≤ c0) (h : F111.f k l0 = some r) :
  Calls Try.prog 111 #[.slice A0 l0.length c0, .func (.func 100) #[] #[]] w fun e w' => e = .returned (.int .i64 r) ∧ Drawn0 w w' := by
 have HR0 := am_ hr0
 have HC0 := am_ hc0
 clear hr0 hc0
 have H : (F111.l0 k l0 (l0.length : Int) 0) = some r := h
 clear h
 have H' := am_ H
 clear H
 go_enter Try.func111, Try.ntmps111
 go_wp2
 go_loopg [8] k (fun kq v8 w' => ∃ (x8_1 : Int), v8 = .int .i64 x8_1 ∧ Aside0 (F111.l0 kq l0 (l0.length : Int) x8_1 = some r) ∧ Aside0 (kq ≤ k) ∧ Drawn0 w w')
 case atStart => exact ⟨(0), er_, H', ⟨Nat.le_refl _⟩, dn_⟩
 case round =>
  clear H'
  obtain ⟨x8_1, rfl, HA, HK1, ⟨m1, rfl⟩⟩ := hrel
  cases gk with
  | zero => exact absurd HA.out (by simp [F111.l0])
  | succ k1 =>
   have H := HA.out
   clear HA
   simp only [F111.l0] at H
   replace H := it_ H; rcases H with ⟨c3b0, H⟩ | ⟨c3b0, H⟩
   rotate_left
   ·obtain rfl := Option.some.inj H
    go_wp2
    go_ret
    exact ⟨er_, dn_⟩

   replace H := itn_ H; rcases H with ⟨c4b0, H⟩
   replace H := itn_ H; rcases H with ⟨c5b0, H⟩
   replace H := bi_ H; rcases H with ⟨t244, A6, H⟩
   replace H := ib_ H; rcases H with ⟨rfl, H⟩ | ⟨rfl, H⟩
   ·obtain rfl := Option.some.inj H
    have p243 : 0 ≤ (x8_1 : Int) := od_
    have q243 : x8_1 < (l0.length : Int) := od_
    obtain ⟨ad243, e243, hx243_0⟩ := Kd.at_string HR0.out x8_1 p243 q243
    cases e243
    replace p243 := eq_true p243
    replace q243 := eq_true q243
    go_wp2_with (first | (go_at_call 100; (with_reducible refine (F100.calls (rdOf ByteArray.empty l0 x8_1) true _ A6.out).mono ?_); rintro e w' ⟨rfl, ⟨nd, rfl⟩⟩))
    go_ret
    exact ⟨er_, dn_⟩
   have H' := am_ H
   clear H
   have p243 : 0 ≤ (x8_1 : Int) := od_
   have q243 : x8_1 < (l0.length : Int) := od_
   obtain ⟨ad243, e243, hx243_0⟩ := Kd.at_string HR0.out x8_1 p243 q243
   cases e243
   replace p243 := eq_true p243
   replace q243 := eq_true q243
   go_wp2_with (first | (go_at_call 100; (with_reducible refine (F100.calls (rdOf ByteArray.empty l0 x8_1) false _ A6.out).mono ?_); rintro e w' ⟨rfl, ⟨nd, rfl⟩⟩))
   go_roundg k1
   case measure => have := HK1.out; omega
   case rel => exact ⟨(wrap64 (x8_1 + 1)), er_, H', ⟨by have := HK1.out; omega⟩, dn_⟩
/-! ### F80: function 80 -/
def F80.f (k : Nat) (l0 : List ByteArray)  : Option (Bool) := (F111.f k l0).bind fun t245 => (some (decide (t245 ≥ 0)))
theorem F80.mono : ∀ a0 k, LeO (F80.f k a0) (F80.f (k + 1) a0) := by
 intro a0 k
 unfold F80.f
 repeat' with_reducible first | exact F111.mono _ _ | exact LeO.refl _ | exact LeO.none _ | refine LeO.ite ?_ ?_ | refine LeO.bind ?_ (fun _ => ?_)
theorem F80.calls (k : Nat) (A0 : Option Addr) (c0 : Nat) (l0 : List ByteArray)  (r : Bool) (w : World) (hr0 : Kd.C Kd.string w A0 l0.length l0) (hc0 : l0.length ≤ c0) (h : F80.f k l0 = some r) :
  Calls Try.prog 80 #[.slice A0 l0.length c0, .func (.func 100) #[] #[]] w fun e w' => e = .returned (.bool r) ∧ Drawn0 w w' := by
 have HR0 := am_ hr0
 have HC0 := am_ hc0
 clear hr0 hc0
 have H : ((F111.f k l0).bind fun t245 => (some (decide (t245 ≥ 0)))) = some r := h
 clear h
 replace H := bi_ H; rcases H with ⟨t245, A3, H⟩
 obtain rfl := Option.some.inj H
 go_enter Try.func80, Try.ntmps80
 go_wp2_with (first | ((with_reducible refine gate_callee (f := 111) rfl ?_); refine gl_ 7 Try.func111 #[.slice A0 l0.length c0, .func (.func 100) #[] #[]] ?_ rfl rfl rfl rfl; (with_reducible refine (F111.calls k _ _ l0  t245 _ ?s1 ?s2 A3.out).mono ?_); (case s1 => exact au3_11); (case s2 => exact HC0.out); rintro e w' ⟨rfl, ⟨nd, rfl⟩⟩; refine ⟨_, rfl, ?_⟩))
 go_ret
 exact ⟨er_, dn_⟩

/-! ### F58: function 58 -/
def F58.f (k : Nat) (l0 : List ByteArray) : Option (Bool) := (F80.f k l0).bind fun t246 => (some t246)
theorem F58.mono : ∀ a0 k, LeO (F58.f k a0) (F58.f (k + 1) a0) := by
 intro a0 k
 unfold F58.f
 repeat' with_reducible first | exact F80.mono _ _ | exact LeO.refl _ | exact LeO.none _ | refine LeO.ite ?_ ?_ | refine LeO.bind ?_ (fun _ => ?_)
theorem F58.calls (k : Nat) (A0 : Option Addr) (c0 : Nat) (l0 : List ByteArray) (r : Bool) (w : World) (hr0 : Kd.C Kd.string w A0 l0.length l0) (hc0 : l0.length ≤ c0) (h : F58.f k l0 = some r) :
  Calls Try.prog 58 #[.slice A0 l0.length c0] w fun e w' => e = .returned (.bool r) ∧ Drawn0 w w' := by
 have HR0 := am_ hr0
 have HC0 := am_ hc0
 clear hr0 hc0
 have H : ((F80.f k l0).bind fun t246 => (some t246)) = some r := h
 clear h
 replace H := bi_ H; rcases H with ⟨t246, A2, H⟩
 obtain rfl := Option.some.inj H
 go_enter Try.func58, Try.ntmps58
 go_wp2_with (first | ((with_reducible refine gate_callee (f := 80) rfl ?_); refine gl_ 4 Try.func80 #[.slice A0 l0.length c0, .func (.func 100) #[] #[]] ?_ rfl rfl rfl rfl; (with_reducible refine (F80.calls k _ _ l0  t246 _ ?s1 ?s2 A2.out).mono ?_); (case s1 => exact au3_11); (case s2 => exact HC0.out); rintro e w' ⟨rfl, ⟨nd, rfl⟩⟩; refine ⟨_, rfl, ?_⟩))
 go_ret
 exact ⟨er_, dn_⟩

/-! ### F79: function 79 -/
def F79.f (a0 : Int) (a1 : Int) (a2 : Int) : Option (Bool) := if a1 ≤ a0 then (some (decide (a0 ≤ a2))) else (some false)
theorem F79.calls (a0 : Int) (a1 : Int) (a2 : Int) (r : Bool) (w : World) (h : F79.f a0 a1 a2 = some r) :
  Calls Try.prog 79 #[.int .i64 a0, .int .i64 a1, .int .i64 a2] w fun e w' => e = .returned (.bool r) ∧ Drawn0 w w' := by
 have H : (if a1 ≤ a0 then (some (decide (a0 ≤ a2))) else (some false)) = some r := h
 clear h
 replace H := it_ H; rcases H with ⟨c4b0, H⟩ | ⟨c4b0, H⟩
 ·obtain rfl := Option.some.inj H
  go_enter Try.func79, Try.ntmps79
  go_wp2
  go_ret
  exact ⟨er_, dn_⟩
 obtain rfl := Option.some.inj H
 go_enter Try.func79, Try.ntmps79
 go_wp2
 go_ret
 exact ⟨er_, dn_⟩

/-! ### F102: function 102 -/
def F102.f (a0_0 : Int) (a0_1 : Int) (a0_2 : Int) (a0_3 : Int) : Option (List Int) := some (([a0_0, a0_1, a0_2, a0_3] : List Int))
theorem F102.calls (a0_0 : Int) (a0_1 : Int) (a0_2 : Int) (a0_3 : Int) (r : List Int) (w : World) (h : F102.f a0_0 a0_1 a0_2 a0_3 = some r) :
  Calls Try.prog 102 #[.agg #[.int .i64 a0_0, .int .i64 a0_1, .int .i64 a0_2, .int .i64 a0_3]] w fun e w' => ∃ v0_ : Value, e = .returned (v0_) ∧ Kd.R (Kd.int .i64) 2 w' w.heap.size (fun _ => True) v0_ r ∧ Below w.heap.size w w' := by
 have hu23 := Try.underlying23
 have HB := am_ (Below.refl w.heap.size w)
 have H : (some (([a0_0, a0_1, a0_2, a0_3] : List Int))) = some r := h
 clear h
 obtain ⟨y248, hy248⟩ : ∃ y_ : List Int, y_ = (([a0_0, a0_1, a0_2, a0_3] : List Int)) := ⟨_, rfl⟩
 replace H : (some y248) = some r := by first | (rw [hy248]; exact H) | exact H
 have Ny248 := am_ hy248
 clear hy248
 obtain rfl := Option.some.inj H
 go_enter Try.func102, Try.ntmps102
 go_wp2_with (first | ((with_reducible refine gate_dst (N := 1) rfl ?_); refine be_ 1 #[.int .i64 a0_0, .int .i64 a0_1, .int .i64 a0_2, .int .i64 a0_3] 23 ?_; intro gb247 hg w2 hbox hb; have BK247 := am_ (hbox); have GW247 := am_ (gw_ hg bl_); have GE247 := GW247; replace HB := hs_ w hb; clear hb hbox hg; obtain ⟨hcz3_0, hcz3_1, hcz3_2, hcz3_3, hfz3_0, hfz3_1, hfz3_2, hfz3_3⟩ := cellsF4 BK247.out) | ((with_reducible refine gate_dst (N := 11) rfl ?_); refine Kd.R_lit (Kd.int .i64) _ 2 ?hg (N := 11) ?hd (xs := ([a0_0, a0_1, a0_2, a0_3] : List Int)) (inner := [.int .i64 a0_0, .int .i64 a0_1, .int .i64 a0_2, .int .i64 a0_3]) (ok := fun _ => True) (okp := fun _ => True) ?hr ?hp (fun _ hk => hk) trivial (Below.refl _ _) (Nat.le_refl _) (by simp) ?_; (case hd => rfl); (case hg => rfl); (case hr => exact hr_); (case hp => exact (Reps.one (show Kd.M (Kd.int .i64) _ _ _ a0_0 [.int .i64 a0_0] from rfl) (Reps.one (show Kd.M (Kd.int .i64) _ _ _ a0_1 [.int .i64 a0_1] from rfl) (Reps.one (show Kd.M (Kd.int .i64) _ _ _ a0_2 [.int .i64 a0_2] from rfl) (Reps.one (show Kd.M (Kd.int .i64) _ _ _ a0_3 [.int .i64 a0_3] from rfl) (Reps.none _ _)))))); intro v249 w4 ho5 hb hg_ hnew_; clear hg_ hnew_; (first | rw [← Ny248.out] at ho5 | (simp only [Int.reduceToNat] at ho5; rw [← Ny248.out] at ho5)); have HO250 := am_ (Kd.R_lower ho5 (below_size bl_)); replace BK247 := bb_ BK247 hb; replace HB := hs_ w hb; clear hb ho5))
 go_ret
 exact ⟨_, au3_0, rk_ HO250, bl_⟩

/-! ### F120: function 120 -/
def F120.l0 : Nat → List Int → Int → Int → Int → Option (Int)
  | 0, _, _, _, _ => none
  | k + 1, x0, x1, x7, x8 => if x8 < x7 then (if 0 ≤ x8 then (if x8 < (x0.length : Int) then (if x1 = (rd x0 x8) then (some x8) else (F120.l0 k x0 x1 x7 (wrap64 (x8 + 1)))) else (none)) else (none)) else (some (-1))
def F120.f (k : Nat) (l0 : List Int) (a1 : Int) : Option (Int) := F120.l0 k l0 a1 (l0.length : Int) 0
theorem F120.mono_l : ∀ k, (∀ y0 y1 y2 y3, LeO (F120.l0 k y0 y1 y2 y3) (F120.l0 (k + 1) y0 y1 y2 y3))
 | 0 => fun _ _ _ _ r h => by simp [F120.l0] at h
 | k + 1 => by
  have ih0 := F120.mono_l k
  intro y0 y1 y2 y3
  unfold F120.l0
  repeat' with_reducible first | exact ih0 _ _ _ _ | exact LeO.refl _ | exact LeO.none _ | refine LeO.ite ?_ ?_ | refine LeO.bind ?_ (fun _ => ?_)
theorem F120.mono : ∀ a0 a1 k, LeO (F120.f k a0 a1) (F120.f (k + 1) a0 a1) := by
 intro a0 a1 k
 have ih0 := F120.mono_l k
 unfold F120.f
 repeat' with_reducible first | exact ih0 _ _ _ _ | exact LeO.refl _ | exact LeO.none _ | refine LeO.ite ?_ ?_ | refine LeO.bind ?_ (fun _ => ?_)
theorem F120.calls (k : Nat) (A0 : Option Addr) (c0 : Nat) (l0 : List Int) (a1 : Int) (r : Int) (w : World) (hr0 : Kd.C (Kd.int .i64) w A0 l0.length l0) (hc0 : l0.length ≤ c0) (h : F120.f k l0 a1 = some r) :
  Calls Try.prog 120 #[.slice A0 l0.length c0, .int .i64 a1] w fun e w' => e = .returned (.int .i64 r) ∧ Drawn0 w w' := by
 have HR0 := am_ hr0
 have HC0 := am_ hc0
 clear hr0 hc0
 have H : (F120.l0 k l0 a1 (l0.length : Int) 0) = some r := h
 clear h
 have H' := am_ H
 clear H
 go_enter Try.func120, Try.ntmps120
 go_wp2
 go_loopg [8] k (fun kq v8 w' => ∃ (x8_1 : Int), v8 = .int .i64 x8_1 ∧ Aside0 (F120.l0 kq l0 a1 (l0.length : Int) x8_1 = some r) ∧ Aside0 (kq ≤ k) ∧ Drawn0 w w')
 case atStart => exact ⟨(0), er_, H', ⟨Nat.le_refl _⟩, dn_⟩
 case round =>
  clear H'
  obtain ⟨x8_1, rfl, HA, HK1, ⟨m1, rfl⟩⟩ := hrel
  cases gk with
  | zero => exact absurd HA.out (by simp [F120.l0])
  | succ k1 =>
   have H := HA.out
   clear HA
   simp only [F120.l0] at H
   replace H := it_ H; rcases H with ⟨c3b0, H⟩ | ⟨c3b0, H⟩
   rotate_left
   ·obtain rfl := Option.some.inj H
    go_wp2
    go_ret
    exact ⟨er_, dn_⟩

   replace H := itn_ H; rcases H with ⟨c4b0, H⟩
   replace H := itn_ H; rcases H with ⟨c5b0, H⟩
   by_cases c6 : a1 = (rd l0 x8_1)
   ·rw [if_pos c6] at H
    have c6b0 : (a1 == (rd l0 x8_1)) = true := beq_iff_eq.mpr c6
    have c6b1 : (a1 != (rd l0 x8_1)) = false := bne_eq_false_iff_eq.mpr c6
    clear c6
    obtain rfl := Option.some.inj H
    have p251 : 0 ≤ (x8_1 : Int) := od_
    have q251 : x8_1 < (l0.length : Int) := od_
    obtain ⟨ad251, e251, hx251_0⟩ := Kd.at_int HR0.out x8_1 p251 q251
    cases e251
    replace p251 := eq_true p251
    replace q251 := eq_true q251
    go_wp2
    go_ret
    exact ⟨er_, dn_⟩
   rw [if_neg c6] at H
   have c6b0 : (a1 == (rd l0 x8_1)) = false := beq_eq_false_iff_ne.mpr c6
   have c6b1 : (a1 != (rd l0 x8_1)) = true := bne_iff_ne.mpr c6
   have H' := am_ H
   clear H
   have p251 : 0 ≤ (x8_1 : Int) := od_
   have q251 : x8_1 < (l0.length : Int) := od_
   obtain ⟨ad251, e251, hx251_0⟩ := Kd.at_int HR0.out x8_1 p251 q251
   cases e251
   replace p251 := eq_true p251
   replace q251 := eq_true q251
   go_wp2
   go_roundg k1
   case measure => have := HK1.out; omega
   case rel => exact ⟨(wrap64 (x8_1 + 1)), er_, H', ⟨by have := HK1.out; omega⟩, dn_⟩
/-! ### F103: function 103 -/
def F103.f (k : Nat) (l0 : List Int) (a1 : Int) : Option (Bool) := (F120.f k l0 a1).bind fun t252 => (some (decide (t252 ≥ 0)))
theorem F103.mono : ∀ a0 a1 k, LeO (F103.f k a0 a1) (F103.f (k + 1) a0 a1) := by
 intro a0 a1 k
 unfold F103.f
 repeat' with_reducible first | exact F120.mono _ _ _ | exact LeO.refl _ | exact LeO.none _ | refine LeO.ite ?_ ?_ | refine LeO.bind ?_ (fun _ => ?_)
theorem F103.calls (k : Nat) (A0 : Option Addr) (c0 : Nat) (l0 : List Int) (a1 : Int) (r : Bool) (w : World) (hr0 : Kd.C (Kd.int .i64) w A0 l0.length l0) (hc0 : l0.length ≤ c0) (h : F103.f k l0 a1 = some r) :
  Calls Try.prog 103 #[.slice A0 l0.length c0, .int .i64 a1] w fun e w' => e = .returned (.bool r) ∧ Drawn0 w w' := by
 have HR0 := am_ hr0
 have HC0 := am_ hc0
 clear hr0 hc0
 have H : ((F120.f k l0 a1).bind fun t252 => (some (decide (t252 ≥ 0)))) = some r := h
 clear h
 replace H := bi_ H; rcases H with ⟨t252, A3, H⟩
 obtain rfl := Option.some.inj H
 go_enter Try.func103, Try.ntmps103
 go_wp2_with (first | ((with_reducible refine gate_callee (f := 120) rfl ?_); refine gl_ 7 Try.func120 #[.slice A0 l0.length c0, .int .i64 a1] ?_ rfl rfl rfl rfl; (with_reducible refine (F120.calls k _ _ l0 a1 t252 _ ?s1 ?s2 A3.out).mono ?_); (case s1 => exact au3_11); (case s2 => exact HC0.out); rintro e w' ⟨rfl, ⟨nd, rfl⟩⟩; refine ⟨_, rfl, ?_⟩))
 go_ret
 exact ⟨er_, dn_⟩

/-! ### F104: function 104 -/
def F104.f (a0 : Int) : Option (Bool) := if a0 ≥ 65 then (some (decide (a0 ≤ 90))) else (some false)
theorem F104.calls (a0 : Int) (r : Bool) (w : World) (h : F104.f a0 = some r) :
  Calls Try.prog 104 #[.int .u8 a0] w fun e w' => e = .returned (.bool r) ∧ Drawn0 w w' := by
 have H : (if a0 ≥ 65 then (some (decide (a0 ≤ 90))) else (some false)) = some r := h
 clear h
 replace H := it_ H; rcases H with ⟨(c2b0 : decide (65 ≤ a0) = true), H⟩ | ⟨(c2b0 : decide (65 ≤ a0) = false), H⟩
 ·obtain rfl := Option.some.inj H
  go_enter Try.func104, Try.ntmps104
  go_wp2
  go_ret
  exact ⟨er_, dn_⟩
 obtain rfl := Option.some.inj H
 go_enter Try.func104, Try.ntmps104
 go_wp2
 go_ret
 exact ⟨er_, dn_⟩

/-! ### F105: function 105 -/
def F105.f (a0 : Int) : Option (Bool) := if a0 ≥ 48 then (some (decide (a0 ≤ 57))) else (some false)
theorem F105.calls (a0 : Int) (r : Bool) (w : World) (h : F105.f a0 = some r) :
  Calls Try.prog 105 #[.int .u8 a0] w fun e w' => e = .returned (.bool r) ∧ Drawn0 w w' := by
 have H : (if a0 ≥ 48 then (some (decide (a0 ≤ 57))) else (some false)) = some r := h
 clear h
 replace H := it_ H; rcases H with ⟨(c2b0 : decide (48 ≤ a0) = true), H⟩ | ⟨(c2b0 : decide (48 ≤ a0) = false), H⟩
 ·obtain rfl := Option.some.inj H
  go_enter Try.func105, Try.ntmps105
  go_wp2
  go_ret
  exact ⟨er_, dn_⟩
 obtain rfl := Option.some.inj H
 go_enter Try.func105, Try.ntmps105
 go_wp2
 go_ret
 exact ⟨er_, dn_⟩

/-! ### F60: function 60 -/
mutual
def F60.l0 : Nat → List Int → List Int → Int → Int → Option (Bool)
  | 0, _, _, _, _ => none
  | k + 1, x3, x9, x10, x11 => if x11 < x10 then (if 0 ≤ x11 then (if x11 < (x9.length : Int) then ((F79.f (rd x9 x11) 33 126).bind fun t258 => (if t258 = true then (if x11 ≤ (x3.length : Int) then ((F103.f k (x3.take (x11 : Int).toNat) (rd x9 x11)).bind fun t263 => (F60.j1 k x3 (rd x9 x11) x9 x10 x11 t263)) else (none)) else (F60.j1 k x3 (rd x9 x11) x9 x10 x11 true))) else (none)) else (none)) else (some true)
def F60.j1 : Nat → List Int → Int → List Int → Int → Int → Bool → Option (Bool)
  | 0, _, _, _, _, _, _ => none
  | k + 1, x3, x5, x9, x10, x11, x25 => if x25 = true then (some false) else ((F104.f ((x5) % 256)).bind fun t264 => (if t264 = true then (some false) else (if ((x5) % 256) ≥ 97 then (if ((x5) % 256) ≤ 122 then (some false) else ((F105.f ((x5) % 256)).bind fun t265 => (if t265 = true then (some false) else (if ((x5) % 256) = 45 then (some false) else (F60.l0 k x3 x9 x10 (wrap64 (x11 + 1))))))) else ((F105.f ((x5) % 256)).bind fun t266 => (if t266 = true then (some false) else (if ((x5) % 256) = 45 then (some false) else (F60.l0 k x3 x9 x10 (wrap64 (x11 + 1)))))))))
end
def F60.f (k : Nat) (a0_0 : Int) (a0_1 : Int) (a0_2 : Int) (a0_3 : Int) : Option (Bool) := (F102.f a0_0 a0_1 a0_2 a0_3).bind fun t254 => (F60.l0 k t254 t254 (t254.length : Int) 0)
theorem F60.mono_l : ∀ k, (∀ y0 y1 y2 y3, LeO (F60.l0 k y0 y1 y2 y3) (F60.l0 (k + 1) y0 y1 y2 y3)) ∧ (∀ y0 y1 y2 y3 y4 y5, LeO (F60.j1 k y0 y1 y2 y3 y4 y5) (F60.j1 (k + 1) y0 y1 y2 y3 y4 y5))
 | 0 => ⟨fun _ _ _ _ r h => by simp [F60.l0] at h, fun _ _ _ _ _ _ r h => by simp [F60.j1] at h⟩
 | k + 1 => by
  obtain ⟨ih0, ih1⟩ := F60.mono_l k
  refine ⟨?_, ?_⟩
  rotate_left
  ·intro y0 y1 y2 y3 y4 y5
   unfold F60.j1
   repeat' with_reducible first | exact ih0 _ _ _ _ | exact ih1 _ _ _ _ _ _ | exact F103.mono _ _ _ | exact LeO.refl _ | exact LeO.none _ | refine LeO.ite ?_ ?_ | refine LeO.bind ?_ (fun _ => ?_)
  intro y0 y1 y2 y3
  unfold F60.l0
  repeat' with_reducible first | exact ih0 _ _ _ _ | exact ih1 _ _ _ _ _ _ | exact F103.mono _ _ _ | exact LeO.refl _ | exact LeO.none _ | refine LeO.ite ?_ ?_ | refine LeO.bind ?_ (fun _ => ?_)
theorem F60.mono : ∀ a0 a1 a2 a3 k, LeO (F60.f k a0 a1 a2 a3) (F60.f (k + 1) a0 a1 a2 a3) := by
 intro a0 a1 a2 a3 k
 obtain ⟨ih0, ih1⟩ := F60.mono_l k
 unfold F60.f
 repeat' with_reducible first | exact ih0 _ _ _ _ | exact ih1 _ _ _ _ _ _ | exact F103.mono _ _ _ | exact LeO.refl _ | exact LeO.none _ | refine LeO.ite ?_ ?_ | refine LeO.bind ?_ (fun _ => ?_)
theorem F60.calls (k : Nat) (a0_0 : Int) (a0_1 : Int) (a0_2 : Int) (a0_3 : Int) (r : Bool) (w : World) (h : F60.f k a0_0 a0_1 a0_2 a0_3 = some r) :
  Calls Try.prog 60 #[.agg #[.int .i64 a0_0, .int .i64 a0_1, .int .i64 a0_2, .int .i64 a0_3]] w fun e w' => e = .returned (.bool r) ∧ Below w.heap.size w w' := by
 have hu23 := Try.underlying23
 have HB := am_ (Below.refl w.heap.size w)
 have H : ((F102.f a0_0 a0_1 a0_2 a0_3).bind fun t254 => (F60.l0 k t254 t254 (t254.length : Int) 0)) = some r := h
 clear h
 replace H := bi_ H; rcases H with ⟨t254, A2, H⟩
 have H' := am_ H
 clear H
 go_enter Try.func60, Try.ntmps60
 go_wp2_with (first | ((with_reducible refine gate_dst (N := 1) rfl ?_); refine be_ 1 #[.int .i64 a0_0, .int .i64 a0_1, .int .i64 a0_2, .int .i64 a0_3] 23 ?_; intro gb253 hg w3 hbox hb; have BK253 := am_ (hbox); have GW253 := am_ (gw_ hg bl_); have GE253 := GW253; replace HB := hs_ w hb; clear hb hbox hg; obtain ⟨hcz4_0, hcz4_1, hcz4_2, hcz4_3, hfz4_0, hfz4_1, hfz4_2, hfz4_3⟩ := cellsF4 BK253.out) | ((with_reducible refine gate_callee (f := 102) rfl ?_); refine gl_ 8 Try.func102 #[.agg #[.int .i64 a0_0, .int .i64 a0_1, .int .i64 a0_2, .int .i64 a0_3]] ?_ rfl rfl rfl rfl; (with_reducible refine (F102.calls a0_0 a0_1 a0_2 a0_3 t254 _ A2.out).mono ?_); rintro e w5 ⟨v255, rfl, ho0, hb⟩; refine ⟨_, rfl, ?_⟩; have HO256 := am_ (Kd.R_lower ho0 (below_size bl_)); replace BK253 := bb_ BK253 hb; replace HB := hs_ w hb; (try clear hb); (try clear ho0); obtain ⟨Ao6, co6, eo6⟩ := Kd.R_slice HO256.out; subst eo6))
 go_loopg [11] k (fun kq v11 w' => ∃ (x11_1 : Int), v11 = .int .i64 x11_1 ∧ Aside0 (F60.l0 kq t254 t254 (t254.length : Int) x11_1 = some r) ∧ Aside0 (kq ≤ k) ∧ Aside0 (Kd.R (Kd.int .i64) 2 w' w.heap.size (fun _ => True) (.slice Ao6 t254.length co6) t254) ∧ Aside0 (Kd.R (Kd.int .i64) 2 w' w.heap.size (fun _ => True) (.slice Ao6 t254.length co6) t254) ∧ Aside0 (w'.heap[gb253]? = some (.cells #[.int .i64 a0_0, .int .i64 a0_1, .int .i64 a0_2, .int .i64 a0_3] 23 (0, 0))) ∧ Aside0 (Below w.heap.size w w'))
 case atStart => exact ⟨(0), er_, H', ⟨Nat.le_refl _⟩, ⟨rk_ HO256⟩, ⟨rk_ HO256⟩, ⟨bk_ BK253⟩, ⟨bl_⟩⟩
 case round =>
  clear H'
  try clear hcz4_0 hcz4_1 hcz4_2 hcz4_3
  try clear hfz4_0 hfz4_1 hfz4_2 hfz4_3
  obtain ⟨x11_1, rfl, HA, HK1, HO_3, HO_9, BK253, HB⟩ := hrel
  cases gk with
  | zero => exact absurd HA.out (by simp [F60.l0])
  | succ k1 =>
   have H := HA.out
   clear HA
   simp only [F60.l0] at H
   replace H := it_ H; rcases H with ⟨c7b0, H⟩ | ⟨c7b0, H⟩
   rotate_left
   ·obtain rfl := Option.some.inj H
    go_wp2
    go_ret
    exact ⟨au3_0, bl_⟩

   replace H := itn_ H; rcases H with ⟨c8b0, H⟩
   replace H := itn_ H; rcases H with ⟨c9b0, H⟩
   have HC10 := am_ H
   clear H
   have p257 : 0 ≤ (x11_1 : Int) := od_
   have q257 : x11_1 < (t254.length : Int) := od_
   obtain ⟨ad257, e257, hx257_0⟩ := Kd.at_int (Kd.R_reads' HO_9.out).2.2 x11_1 p257 q257
   cases e257
   replace p257 := eq_true p257
   replace q257 := eq_true q257
   go_upto_region 5 with (fail)
   go_cut [25] (fun v25 wc => ∃ (kq : Nat) (x25_9 : Bool), v25 = .bool x25_9 ∧ Aside0 (F60.j1 kq t254 (rd t254 x11_1) t254 (t254.length : Int) x11_1 x25_9 = some r) ∧ Aside0 (kq ≤ k1) ∧ Aside0 (Kd.R (Kd.int .i64) 2 wc w.heap.size (fun _ => True) (.slice (some ad257) t254.length co6) t254) ∧ Aside0 (Kd.R (Kd.int .i64) 2 wc w.heap.size (fun _ => True) (.slice (some ad257) t254.length co6) t254) ∧ Aside0 (wc.heap[gb253]? = some (.cells #[.int .i64 a0_0, .int .i64 a0_1, .int .i64 a0_2, .int .i64 a0_3] 23 (0, 0))) ∧ Aside0 (Below w.heap.size w wc))
   case first =>
    have H := HC10.out
    clear HC10
    replace H := bi_ H; rcases H with ⟨t258, A11, H⟩
    replace H := ib_ H; rcases H with ⟨rfl, H⟩ | ⟨rfl, H⟩
    rotate_left
    ·have H' := am_ H
     clear H
     go_wp2_with (first | ((with_reducible refine gate_callee (f := 79) rfl ?_); refine gl_ 17 Try.func79 #[.int .i64 (rd t254 x11_1), .int .i64 33, .int .i64 126] ?_ rfl rfl rfl rfl; (with_reducible refine (F79.calls (rd t254 x11_1) 33 126 false _ A11.out).mono ?_); rintro e w' ⟨rfl, ⟨nd, rfl⟩⟩; refine ⟨_, rfl, ?_⟩))
     go_meet
     case rel => exact ⟨_, (true), er_, H', ⟨au3_14⟩, ⟨rk_ HO_3⟩, ⟨rk_ HO_9⟩, ⟨bk_ BK253⟩, ⟨bl_⟩⟩
    have c13b0 := eq_true (of_decide_eq_true as_ : 0 ≤ x11_1)
    by_cases c14 : x11_1 ≤ (t254.length : Int)
    rotate_left
    ·rw [if_neg c14] at H
     exact absurd H (by simp)
    rw [if_pos c14] at H
    have c14b0 := eq_true c14
    have c14b1 : decide (x11_1 ≤ (t254.length : Int)) = true := decide_eq_true c14
    clear c14
    obtain ⟨y259, hy259⟩ : ∃ y_ : List Int, y_ = (t254.take (x11_1 : Int).toNat) := ⟨_, rfl⟩
    replace H : ((F103.f k1 y259 (rd t254 x11_1)).bind fun t263 => (F60.j1 k1 t254 (rd t254 x11_1) t254 (t254.length : Int) x11_1 t263)) = some r := by first | (rw [hy259]; exact H) | exact H
    have Ny259 := am_ hy259
    clear hy259
    replace H := bi_ H; rcases H with ⟨t263, A15, H⟩
    have H' := am_ H
    clear H
    go_wp2_with (first | ((with_reducible refine gate_callee (f := 79) rfl ?_); refine gl_ 17 Try.func79 #[.int .i64 (rd t254 x11_1), .int .i64 33, .int .i64 126] ?_ rfl rfl rfl rfl; (with_reducible refine (F79.calls (rd t254 x11_1) 33 126 true _ A11.out).mono ?_); rintro e w' ⟨rfl, ⟨nd, rfl⟩⟩; refine ⟨_, rfl, ?_⟩; have q16 : (x11_1 : Int) ≤ ((t254.length : Int) : Int) := od_; obtain ⟨i016, hi016, _, hsz16, _⟩ := info_parts info2; have hroom16 : t254.length ≤ co6 := (Kd.R_reads' HO_3.out).2.1; have hC16 : Kd.C (Kd.int .i64) _ (some ad257) t254.length t254 := (Kd.R_reads' HO_3.out).2.2; have hcut16 := cut_to (P := Try.prog) 93 2 .i64 Try.underlying93 hi016 (some ad257) t254.length co6 x11_1 (of_decide_eq_true as_) q16 hroom16; have hr16 := Kd.C_take (m := (x11_1 : Int).toNat) hC16 (by omega); have hy16 : y259.length = (x11_1 : Int).toNat := (by rw [Ny259.out, List.length_take]; omega); rw [← Ny259.out] at hr16; rw [← hy16] at hcut16; have HR262 := am_ hr16; have HC262 := am_ (show y259.length ≤ co6 from by omega); clear hr16 hC16 hroom16 hi016 hsz16; have KY16 := am_ hy16; clear hy16; have KL16 := am_ (show (x11_1 : Int).toNat ≤ t254.length from by omega); replace q16 := eq_true q16) | (go_at_call 103; (with_reducible refine (F103.calls k1 _ _ y259 (rd t254 x11_1) t263 _ ?s1 ?s2 A15.out).mono ?_); (case s1 => repeat (first | exact (by repeat (first | (with_reducible exact HR262.out) | (with_reducible refine Kd.C_alloc ?_ _) | (with_reducible refine Kd.C_drewN ?_ _) | (with_reducible refine Kd.C_drew ?_) | exact HR262.out)) | (with_reducible refine Kd.C_alloc ?_ _) | (with_reducible refine Kd.C_drewN ?_ _) | (with_reducible refine Kd.C_drew ?_))); (case s2 => exact HC262.out); rintro e w' ⟨rfl, ⟨nd, rfl⟩⟩))
    go_meet
    case rel => exact ⟨_, (t263), er_, H', ⟨au3_14⟩, ⟨rk_ HO_3⟩, ⟨rk_ HO_9⟩, ⟨bk_ BK253⟩, ⟨bl_⟩⟩
   case rest =>
    clear HC10
    try clear c7b0
    try clear c8b0
    try clear c9b0
    try clear c13b0
    try clear c14
    try clear c14b0
    try clear c14b1
    try clear q16
    try clear hcz4_0 hcz4_1 hcz4_2 hcz4_3
    try clear hfz4_0 hfz4_1 hfz4_2 hfz4_3
    try clear hx257_0
    try clear p257
    try clear q16
    try clear q257
    obtain ⟨kq, x25_9, rfl, HA, HJ9, HO_3, HO_9, BK253, HB⟩ := hcut
    cases kq with
    | zero => exact absurd HA.out (by simp [F60.j1])
    | succ kj9 =>
     have H := HA.out
     clear HA
     simp only [F60.j1] at H
     replace H := ib_ H; rcases H with ⟨rfl, H⟩ | ⟨rfl, H⟩
     ·obtain rfl := Option.some.inj H
      go_wp2
      go_ret
      exact ⟨au3_0, bl_⟩
     replace H := bi_ H; rcases H with ⟨t264, A18, H⟩
     replace H := ib_ H; rcases H with ⟨rfl, H⟩ | ⟨rfl, H⟩
     ·obtain rfl := Option.some.inj H
      go_wp2_with (first | ((with_reducible refine gate_callee (f := 104) rfl ?_); refine gl_ 29 Try.func104 #[.int .u8 (((rd t254 x11_1)) % 256)] ?_ rfl rfl rfl rfl; (with_reducible refine (F104.calls (((rd t254 x11_1)) % 256) true _ A18.out).mono ?_); rintro e w' ⟨rfl, ⟨nd, rfl⟩⟩; refine ⟨_, rfl, ?_⟩))
      go_ret
      exact ⟨au3_0, bl_⟩
     replace H := it_ H; rcases H with ⟨(c20b0 : decide (97 ≤ (((rd t254 x11_1)) % 256)) = true), H⟩ | ⟨(c20b0 : decide (97 ≤ (((rd t254 x11_1)) % 256)) = false), H⟩
     rotate_left
     ·replace H := bi_ H; rcases H with ⟨t266, A25, H⟩
      replace H := ib_ H; rcases H with ⟨rfl, H⟩ | ⟨rfl, H⟩
      ·obtain rfl := Option.some.inj H
       go_wp2_with (first | ((with_reducible refine gate_callee (f := 104) rfl ?_); refine gl_ 29 Try.func104 #[.int .u8 (((rd t254 x11_1)) % 256)] ?_ rfl rfl rfl rfl; (with_reducible refine (F104.calls (((rd t254 x11_1)) % 256) false _ A18.out).mono ?_); rintro e w' ⟨rfl, ⟨nd, rfl⟩⟩; refine ⟨_, rfl, ?_⟩) | (go_at_call 105; (with_reducible refine (F105.calls (((rd t254 x11_1)) % 256) true _ A25.out).mono ?_); rintro e w' ⟨rfl, ⟨nd, rfl⟩⟩))
       go_ret
       exact ⟨au3_0, bl_⟩
      by_cases c27 : (((rd t254 x11_1)) % 256) = 45
      ·rw [if_pos c27] at H
       have c27b0 : ((((rd t254 x11_1)) % 256) == 45) = true := beq_iff_eq.mpr c27
       have c27b1 : ((((rd t254 x11_1)) % 256) != 45) = false := bne_eq_false_iff_eq.mpr c27
       clear c27
       obtain rfl := Option.some.inj H
       go_wp2_with (first | ((with_reducible refine gate_callee (f := 104) rfl ?_); refine gl_ 29 Try.func104 #[.int .u8 (((rd t254 x11_1)) % 256)] ?_ rfl rfl rfl rfl; (with_reducible refine (F104.calls (((rd t254 x11_1)) % 256) false _ A18.out).mono ?_); rintro e w' ⟨rfl, ⟨nd, rfl⟩⟩; refine ⟨_, rfl, ?_⟩) | (go_at_call 105; (with_reducible refine (F105.calls (((rd t254 x11_1)) % 256) false _ A25.out).mono ?_); rintro e w' ⟨rfl, ⟨nd, rfl⟩⟩))
       go_ret
       exact ⟨au3_0, bl_⟩
      rw [if_neg c27] at H
      have c27b0 : ((((rd t254 x11_1)) % 256) == 45) = false := beq_eq_false_iff_ne.mpr c27
      have c27b1 : ((((rd t254 x11_1)) % 256) != 45) = true := bne_iff_ne.mpr c27
      have H' := am_ H
      clear H
      go_wp2_with (first | ((with_reducible refine gate_callee (f := 104) rfl ?_); refine gl_ 29 Try.func104 #[.int .u8 (((rd t254 x11_1)) % 256)] ?_ rfl rfl rfl rfl; (with_reducible refine (F104.calls (((rd t254 x11_1)) % 256) false _ A18.out).mono ?_); rintro e w' ⟨rfl, ⟨nd, rfl⟩⟩; refine ⟨_, rfl, ?_⟩) | (go_at_call 105; (with_reducible refine (F105.calls (((rd t254 x11_1)) % 256) false _ A25.out).mono ?_); rintro e w' ⟨rfl, ⟨nd, rfl⟩⟩))
      go_roundg kj9
      case measure => have := HK1.out; have := HJ9.out; omega
      case rel => exact ⟨(wrap64 (x11_1 + 1)), er_, H', ⟨by have := HK1.out; have := HJ9.out; omega⟩, ⟨rk_ HO_3⟩, ⟨rk_ HO_9⟩, ⟨bk_ BK253⟩, ⟨bl_⟩⟩
     replace H := it_ H; rcases H with ⟨c21b0, H⟩ | ⟨c21b0, H⟩
     ·obtain rfl := Option.some.inj H
      go_wp2_with (first | ((with_reducible refine gate_callee (f := 104) rfl ?_); refine gl_ 29 Try.func104 #[.int .u8 (((rd t254 x11_1)) % 256)] ?_ rfl rfl rfl rfl; (with_reducible refine (F104.calls (((rd t254 x11_1)) % 256) false _ A18.out).mono ?_); rintro e w' ⟨rfl, ⟨nd, rfl⟩⟩; refine ⟨_, rfl, ?_⟩))
      go_ret
      exact ⟨au3_0, bl_⟩
     replace H := bi_ H; rcases H with ⟨t265, A22, H⟩
     replace H := ib_ H; rcases H with ⟨rfl, H⟩ | ⟨rfl, H⟩
     ·obtain rfl := Option.some.inj H
      go_wp2_with (first | ((with_reducible refine gate_callee (f := 104) rfl ?_); refine gl_ 29 Try.func104 #[.int .u8 (((rd t254 x11_1)) % 256)] ?_ rfl rfl rfl rfl; (with_reducible refine (F104.calls (((rd t254 x11_1)) % 256) false _ A18.out).mono ?_); rintro e w' ⟨rfl, ⟨nd, rfl⟩⟩; refine ⟨_, rfl, ?_⟩) | (go_at_call 105; (with_reducible refine (F105.calls (((rd t254 x11_1)) % 256) true _ A22.out).mono ?_); rintro e w' ⟨rfl, ⟨nd, rfl⟩⟩))
      go_ret
      exact ⟨au3_0, bl_⟩
     by_cases c24 : (((rd t254 x11_1)) % 256) = 45
     ·rw [if_pos c24] at H
      have c24b0 : ((((rd t254 x11_1)) % 256) == 45) = true := beq_iff_eq.mpr c24
      have c24b1 : ((((rd t254 x11_1)) % 256) != 45) = false := bne_eq_false_iff_eq.mpr c24
      clear c24
      obtain rfl := Option.some.inj H
      go_wp2_with (first | ((with_reducible refine gate_callee (f := 104) rfl ?_); refine gl_ 29 Try.func104 #[.int .u8 (((rd t254 x11_1)) % 256)] ?_ rfl rfl rfl rfl; (with_reducible refine (F104.calls (((rd t254 x11_1)) % 256) false _ A18.out).mono ?_); rintro e w' ⟨rfl, ⟨nd, rfl⟩⟩; refine ⟨_, rfl, ?_⟩) | (go_at_call 105; (with_reducible refine (F105.calls (((rd t254 x11_1)) % 256) false _ A22.out).mono ?_); rintro e w' ⟨rfl, ⟨nd, rfl⟩⟩))
      go_ret
      exact ⟨au3_0, bl_⟩
     rw [if_neg c24] at H
     have c24b0 : ((((rd t254 x11_1)) % 256) == 45) = false := beq_eq_false_iff_ne.mpr c24
     have c24b1 : ((((rd t254 x11_1)) % 256) != 45) = true := bne_iff_ne.mpr c24
     have H' := am_ H
     clear H
     go_wp2_with (first | ((with_reducible refine gate_callee (f := 104) rfl ?_); refine gl_ 29 Try.func104 #[.int .u8 (((rd t254 x11_1)) % 256)] ?_ rfl rfl rfl rfl; (with_reducible refine (F104.calls (((rd t254 x11_1)) % 256) false _ A18.out).mono ?_); rintro e w' ⟨rfl, ⟨nd, rfl⟩⟩; refine ⟨_, rfl, ?_⟩) | (go_at_call 105; (with_reducible refine (F105.calls (((rd t254 x11_1)) % 256) false _ A22.out).mono ?_); rintro e w' ⟨rfl, ⟨nd, rfl⟩⟩))
     go_roundg kj9
     case measure => have := HK1.out; have := HJ9.out; omega
     case rel => exact ⟨(wrap64 (x11_1 + 1)), er_, H', ⟨by have := HK1.out; have := HJ9.out; omega⟩, ⟨rk_ HO_3⟩, ⟨rk_ HO_9⟩, ⟨bk_ BK253⟩, ⟨bl_⟩⟩
/-! ### F69: function 69 -/
def F69.l0 : Nat → ByteArray → Int → List ByteArray → Int → Int → Int → Int → Int → Int → Option (List ByteArray)
  | 0, _, _, _, _, _, _, _, _, _ => none
  | k + 1, x1, x2, x7, x8, x9, x268000, x268001, x268002, x268003 => if x9 < (x1.size : Int) then (if 0 ≤ x9 then (if (wrap64 (bt x1 x9)) = x268003 then (F69.l0 k x1 x2 x7 x8 (wrap64 ((wrap64 (x9 + 1)) + 1)) x268000 x268001 x268002 x268003) else (if (wrap64 (bt x1 x9)) = x2 then (if 0 ≤ x8 then (if x8 ≤ x9 then (if x9 ≤ (x1.size : Int) then (if x7.length < 8796093022208 then (F69.l0 k x1 x2 (x7 ++ [x1.extract (x8 : Int).toNat (x9 : Int).toNat]) (wrap64 (x9 + 1)) (wrap64 (x9 + 1)) x268000 x268001 x268002 x268003) else (none)) else (none)) else (none)) else (none)) else (F69.l0 k x1 x2 x7 x8 (wrap64 (x9 + 1)) x268000 x268001 x268002 x268003))) else (none)) else (if 0 ≤ x8 then (if x8 ≤ (x1.size : Int) then (if x7.length < 8796093022208 then (some (x7 ++ [x1.extract (x8 : Int).toNat x1.size])) else (none)) else (none)) else (none))
def F69.f (k : Nat) (a0_0 : Int) (a0_1 : Int) (a0_2 : Int) (a0_3 : Int) (a1 : ByteArray) (a2 : Int) : Option (List ByteArray) := F69.l0 k a1 a2 (([] : List ByteArray)) 0 0 a0_0 a0_1 a0_2 a0_3
theorem F69.mono_l : ∀ k, (∀ y0 y1 y2 y3 y4 y5 y6 y7 y8, LeO (F69.l0 k y0 y1 y2 y3 y4 y5 y6 y7 y8) (F69.l0 (k + 1) y0 y1 y2 y3 y4 y5 y6 y7 y8))
 | 0 => fun _ _ _ _ _ _ _ _ _ r h => by simp [F69.l0] at h
 | k + 1 => by
  have ih0 := F69.mono_l k
  intro y0 y1 y2 y3 y4 y5 y6 y7 y8
  unfold F69.l0
  repeat' with_reducible first | exact ih0 _ _ _ _ _ _ _ _ _ | exact LeO.refl _ | exact LeO.none _ | refine LeO.ite ?_ ?_ | refine LeO.bind ?_ (fun _ => ?_)
theorem F69.mono : ∀ a0 a1 a2 a3 a4 a5 k, LeO (F69.f k a0 a1 a2 a3 a4 a5) (F69.f (k + 1) a0 a1 a2 a3 a4 a5) := by
 intro a0 a1 a2 a3 a4 a5 k
 have ih0 := F69.mono_l k
 unfold F69.f
 repeat' with_reducible first | exact ih0 _ _ _ _ _ _ _ _ _ | exact LeO.refl _ | exact LeO.none _ | refine LeO.ite ?_ ?_ | refine LeO.bind ?_ (fun _ => ?_)
theorem F69.calls (k : Nat) (a0_0 : Int) (a0_1 : Int) (a0_2 : Int) (a0_3 : Int) (a1 : ByteArray) (a2 : Int) (r : List ByteArray) (w : World) (h : F69.f k a0_0 a0_1 a0_2 a0_3 a1 a2 = some r) :
  Calls Try.prog 69 #[.agg #[.int .i64 a0_0, .int .i64 a0_1, .int .i64 a0_2, .int .i64 a0_3], .string a1, .int .i64 a2] w fun e w' => ∃ v0_ : Value, e = .returned (v0_) ∧ Kd.R Kd.string 9 w' w.heap.size (fun _ => True) v0_ r ∧ Below w.heap.size w w' := by
 have hu23 := Try.underlying23
 have HB := am_ (Below.refl w.heap.size w)
 have H : (F69.l0 k a1 a2 (([] : List ByteArray)) 0 0 a0_0 a0_1 a0_2 a0_3) = some r := h
 clear h
 obtain ⟨y268, hy268⟩ : ∃ y_ : List ByteArray, y_ = (([] : List ByteArray)) := ⟨_, rfl⟩
 replace H : (F69.l0 k a1 a2 y268 0 0 a0_0 a0_1 a0_2 a0_3) = some r := by first | (rw [hy268]; exact H) | exact H
 have Ny268 := am_ hy268
 clear hy268
 have H' := am_ H
 clear H
 go_enter Try.func69, Try.ntmps69
 go_wp2_with (first | ((with_reducible refine gate_dst (N := 3) rfl ?_); refine be_ 3 #[.int .i64 a0_0, .int .i64 a0_1, .int .i64 a0_2, .int .i64 a0_3] 23 ?_; intro gb267 hg w4 hbox hb; have BK267 := am_ (hbox); have GW267 := am_ (gw_ hg bl_); have GE267 := GW267; replace HB := hs_ w hb; clear hb hbox hg) | ((with_reducible refine gate_dst (N := 10) rfl ?_); refine Kd.R_lit Kd.string _ 9 ?hg (N := 10) ?hd (xs := ([] : List ByteArray)) (inner := []) (ok := fun _ => True) (okp := fun _ => True) ?hr ?hp (fun _ hk => hk) trivial (Below.refl _ _) (Nat.le_refl _) (by simp) ?_; (case hd => rfl); (case hg => rfl); (case hr => exact hr_); (case hp => exact (Reps.none _ _)); intro v269 w5 ho6 hb hg_ hnew_; clear hg_ hnew_; (first | rw [← Ny268.out] at ho6 | (simp only [Int.reduceToNat] at ho6; rw [← Ny268.out] at ho6)); have HO270 := am_ (Kd.R_lower ho6 (below_size bl_)); replace BK267 := bb_ BK267 hb; replace HB := hs_ w hb; clear hb ho6))
 go_loopg [7, 8, 9] k (fun kq v7 v8 v9 w' => ∃ (x7_1 : List ByteArray) (x8_1 : Int) (x9_1 : Int), v8 = .int .i64 x8_1 ∧ v9 = .int .i64 x9_1 ∧ Aside0 (F69.l0 kq a1 a2 x7_1 x8_1 x9_1 a0_0 a0_1 a0_2 a0_3 = some r) ∧ Aside0 (kq ≤ k) ∧ Aside0 (Kd.R Kd.string 9 w' w.heap.size (fun _ => True) v7 x7_1) ∧ Aside0 (w'.heap[gb267]? = some (.cells #[.int .i64 a0_0, .int .i64 a0_1, .int .i64 a0_2, .int .i64 a0_3] 23 (0, 0))) ∧ Aside0 (Below w.heap.size w w'))
 case atStart => exact ⟨(y268), (0), (0), er_, er_, H', ⟨Nat.le_refl _⟩, ⟨rk_ HO270⟩, ⟨bk_ BK267⟩, ⟨bl_⟩⟩
 case round =>
  clear H'
  obtain ⟨x7_1, x8_1, x9_1, rfl, rfl, HA, HK1, HO_7, BK267, HB⟩ := hrel
  cases gk with
  | zero => exact absurd HA.out (by simp [F69.l0])
  | succ k1 =>
   have H := HA.out
   clear HA
   simp only [F69.l0] at H
   replace H := it_ H; rcases H with ⟨c7b0, H⟩ | ⟨c7b0, H⟩
   rotate_left
   ·by_cases c20 : 0 ≤ x8_1
    rotate_left
    ·rw [if_neg c20] at H
     exact absurd H (by simp)

    rw [if_pos c20] at H
    have c20b0 := eq_true c20
    have c20b1 : decide (0 ≤ x8_1) = true := decide_eq_true c20
    clear c20
    by_cases c21 : x8_1 ≤ (a1.size : Int)
    rotate_left
    ·rw [if_neg c21] at H
     exact absurd H (by simp)
    rw [if_pos c21] at H
    have c21b0 := eq_true c21
    have c21b1 : decide (x8_1 ≤ (a1.size : Int)) = true := decide_eq_true c21
    clear c21
    replace H := iln_ H; rcases H with ⟨LMc22, H⟩
    obtain ⟨y271, hy271⟩ : ∃ y_ : List ByteArray, y_ = (x7_1 ++ [a1.extract (x8_1 : Int).toNat a1.size]) := ⟨_, rfl⟩
    replace H : (some y271) = some r := by first | (rw [hy271]; exact H) | exact H
    have Ny271 := am_ hy271
    clear hy271
    obtain rfl := Option.some.inj H
    go_wp2_with (first | ((with_reducible refine gate_builtin (b := .append) (xs := #[.tmp 39, .tmp 43]) rfl ?_); at_builtin; refine Kd.R_append Kd.string (w0 := w) w.heap.size rfl (.tmp 39) (.tmp 43) 41 9 (.string ⟨#[]⟩) 16 rfl Try.underlying41 info9 rfl (by decide) (by omega) u7 x7_1 (a1.extract (x8_1 : Int).toNat a1.size) [.string (a1.extract (x8_1 : Int).toNat a1.size)] (fun _ => True) (fun _ => False) rfl rfl ?aP (fun _ hk => hk.elim) ?aF ?aO ?aB ?aS ?aL ?_; (case aP => exact rfl); (case aB => exact bl_); (case aF => exact (fun _ _ => trivial)); (case aO => exact (rk_ HO_7)); (case aS => exact (below_size bl_)); (case aL => have := LMc22.out; omega); intro v272 w23 ho hb hg hat; rw [← Ny271.out] at ho; have n0_ := am_ (bg_ BK267 hg (Kd.R_ne HO_7.out BK267.out (by decide))); have n1_ := am_ (hb); have n2_ := am_ (ho); clear BK267; clear HB; clear HO_7; have BK267 := n0_; have HB := n1_; have HO273 := n2_; clear n0_ n1_ n2_; clear ho hb hg hat))
    go_ret
    exact ⟨_, au3_0, rk_ HO273, bl_⟩
   replace H := itn_ H; rcases H with ⟨c8b0, H⟩
   by_cases c10 : (wrap64 (bt a1 x9_1)) = a0_3
   ·rw [if_pos c10] at H
    have c10b0 : ((wrap64 (bt a1 x9_1)) == a0_3) = true := beq_iff_eq.mpr c10
    have c10b1 : ((wrap64 (bt a1 x9_1)) != a0_3) = false := bne_eq_false_iff_eq.mpr c10
    clear c10
    have H' := am_ H
    clear H
    have p9 : 0 ≤ (x9_1 : Int) := od_
    have q9 : x9_1 < (a1.size : Int) := od_
    have hx9 := bt_at a1 x9_1
    replace p9 := eq_true p9
    replace q9 := eq_true q9
    obtain ⟨hcz11_0, hcz11_1, hcz11_2, hcz11_3, hfz11_0, hfz11_1, hfz11_2, hfz11_3⟩ := cellsF4 BK267.out
    go_wp2
    go_roundg k1
    case measure => have := HK1.out; omega
    case rel => exact ⟨(x7_1), (x8_1), (wrap64 ((wrap64 (x9_1 + 1)) + 1)), er_, er_, H', ⟨by have := HK1.out; omega⟩, ⟨rk_ HO_7⟩, ⟨bk_ BK267⟩, ⟨bl_⟩⟩
   rw [if_neg c10] at H
   have c10b0 : ((wrap64 (bt a1 x9_1)) == a0_3) = false := beq_eq_false_iff_ne.mpr c10
   have c10b1 : ((wrap64 (bt a1 x9_1)) != a0_3) = true := bne_iff_ne.mpr c10
   by_cases c12 : (wrap64 (bt a1 x9_1)) = a2
   rotate_left
   ·rw [if_neg c12] at H
    have c12b0 : ((wrap64 (bt a1 x9_1)) == a2) = false := beq_eq_false_iff_ne.mpr c12
    have c12b1 : ((wrap64 (bt a1 x9_1)) != a2) = true := bne_iff_ne.mpr c12
    have H' := am_ H
    clear H
    have p9 : 0 ≤ (x9_1 : Int) := od_
    have q9 : x9_1 < (a1.size : Int) := od_
    have hx9 := bt_at a1 x9_1
    replace p9 := eq_true p9
    replace q9 := eq_true q9
    obtain ⟨hcz19_0, hcz19_1, hcz19_2, hcz19_3, hfz19_0, hfz19_1, hfz19_2, hfz19_3⟩ := cellsF4 BK267.out
    go_wp2
    go_roundg k1
    case measure => have := HK1.out; omega
    case rel => exact ⟨(x7_1), (x8_1), (wrap64 (x9_1 + 1)), er_, er_, H', ⟨by have := HK1.out; omega⟩, ⟨rk_ HO_7⟩, ⟨bk_ BK267⟩, ⟨bl_⟩⟩
   rw [if_pos c12] at H
   have c12b0 : ((wrap64 (bt a1 x9_1)) == a2) = true := beq_iff_eq.mpr c12
   have c12b1 : ((wrap64 (bt a1 x9_1)) != a2) = false := bne_eq_false_iff_eq.mpr c12
   clear c12
   by_cases c13 : 0 ≤ x8_1
   rotate_left
   ·rw [if_neg c13] at H
    exact absurd H (by simp)
   rw [if_pos c13] at H
   have c13b0 := eq_true c13
   have c13b1 : decide (0 ≤ x8_1) = true := decide_eq_true c13
   clear c13
   by_cases c14 : x8_1 ≤ x9_1
   rotate_left
   ·rw [if_neg c14] at H
    exact absurd H (by simp)
   rw [if_pos c14] at H
   have c14b0 := eq_true c14
   have c14b1 : decide (x8_1 ≤ x9_1) = true := decide_eq_true c14
   clear c14
   by_cases c15 : x9_1 ≤ (a1.size : Int)
   rotate_left
   ·rw [if_neg c15] at H
    exact absurd H (by simp)
   rw [if_pos c15] at H
   have c15b0 := eq_true c15
   have c15b1 : decide (x9_1 ≤ (a1.size : Int)) = true := decide_eq_true c15
   clear c15
   replace H := iln_ H; rcases H with ⟨LMc16, H⟩
   obtain ⟨y274, hy274⟩ : ∃ y_ : List ByteArray, y_ = (x7_1 ++ [a1.extract (x8_1 : Int).toNat (x9_1 : Int).toNat]) := ⟨_, rfl⟩
   replace H : (F69.l0 k1 a1 a2 y274 (wrap64 (x9_1 + 1)) (wrap64 (x9_1 + 1)) a0_0 a0_1 a0_2 a0_3) = some r := by first | (rw [hy274]; exact H) | exact H
   have Ny274 := am_ hy274
   clear hy274
   have H' := am_ H
   clear H
   have p9 : 0 ≤ (x9_1 : Int) := od_
   have q9 : x9_1 < (a1.size : Int) := od_
   have hx9 := bt_at a1 x9_1
   replace p9 := eq_true p9
   replace q9 := eq_true q9
   obtain ⟨hcz17_0, hcz17_1, hcz17_2, hcz17_3, hfz17_0, hfz17_1, hfz17_2, hfz17_3⟩ := cellsF4 BK267.out
   go_wp2_with (first | ((with_reducible refine gate_builtin (b := .append) (xs := #[.tmp 30, .tmp 35]) rfl ?_); at_builtin; refine Kd.R_append Kd.string (w0 := w) w.heap.size rfl (.tmp 30) (.tmp 35) 41 9 (.string ⟨#[]⟩) 16 rfl Try.underlying41 info9 rfl (by decide) (by omega) u7 x7_1 (a1.extract (x8_1 : Int).toNat (x9_1 : Int).toNat) [.string (a1.extract (x8_1 : Int).toNat (x9_1 : Int).toNat)] (fun _ => True) (fun _ => False) rfl rfl ?aP (fun _ hk => hk.elim) ?aF ?aO ?aB ?aS ?aL ?_; (case aP => exact rfl); (case aB => exact bl_); (case aF => exact (fun _ _ => trivial)); (case aO => exact (rk_ HO_7)); (case aS => exact (below_size bl_)); (case aL => have := LMc16.out; omega); intro v275 w18 ho hb hg hat; rw [← Ny274.out] at ho; have n0_ := am_ (bg_ BK267 hg (Kd.R_ne HO_7.out BK267.out (by decide))); have n1_ := am_ (hb); have n2_ := am_ (ho); clear BK267; clear HB; clear HO_7; have BK267 := n0_; have HB := n1_; have HO276 := n2_; clear n0_ n1_ n2_; clear ho hb hg hat))
   go_roundg k1
   case measure => have := HK1.out; omega
   case rel => exact ⟨(y274), (wrap64 (x9_1 + 1)), (wrap64 (x9_1 + 1)), er_, er_, H', ⟨by have := HK1.out; omega⟩, ⟨rk_ HO276⟩, ⟨bk_ BK267⟩, ⟨bl_⟩⟩
/-! ### F83: function 83 -/
def F83.f (a0 : ByteArray) : Option (Bool) := if (a0.size : Int) = 3 then (if 0 < (a0.size : Int) then ((F104.f (bt a0 0)).bind fun t277 => (if t277 = true then (if 1 < (a0.size : Int) then ((F104.f (bt a0 1)).bind fun t278 => (if t278 = true then (if 2 < (a0.size : Int) then ((F104.f (bt a0 2)).bind fun t279 => (some t279)) else (none)) else (some false))) else (none)) else (some false))) else (none)) else (some false)
theorem F83.calls (a0 : ByteArray) (r : Bool) (w : World) (h : F83.f a0 = some r) :
  Calls Try.prog 83 #[.string a0] w fun e w' => e = .returned (.bool r) ∧ Drawn0 w w' := by
 have H : (if (a0.size : Int) = 3 then (if 0 < (a0.size : Int) then ((F104.f (bt a0 0)).bind fun t277 => (if t277 = true then (if 1 < (a0.size : Int) then ((F104.f (bt a0 1)).bind fun t278 => (if t278 = true then (if 2 < (a0.size : Int) then ((F104.f (bt a0 2)).bind fun t279 => (some t279)) else (none)) else (some false))) else (none)) else (some false))) else (none)) else (some false)) = some r := h
 clear h
 by_cases c2 : (a0.size : Int) = 3
 rotate_left
 ·rw [if_neg c2] at H
  have c2b0 : ((a0.size : Int) == 3) = false := beq_eq_false_iff_ne.mpr c2
  have c2b1 : ((a0.size : Int) != 3) = true := bne_iff_ne.mpr c2
  obtain rfl := Option.some.inj H
  go_enter Try.func83, Try.ntmps83
  go_wp2
  go_ret
  exact ⟨er_, dn_⟩

 rw [if_pos c2] at H
 have c2b0 : ((a0.size : Int) == 3) = true := beq_iff_eq.mpr c2
 have c2b1 : ((a0.size : Int) != 3) = false := bne_eq_false_iff_eq.mpr c2
 clear c2
 replace H := itn_ H; rcases H with ⟨c3b0, H⟩
 have c3b1 : decide (0 < a0.size) = true := n2_ c3b0
 replace H := bi_ H; rcases H with ⟨t277, A5, H⟩
 replace H := ib_ H; rcases H with ⟨rfl, H⟩ | ⟨rfl, H⟩
 rotate_left
 ·obtain rfl := Option.some.inj H
  have p4 : 0 ≤ (0 : Int) := (by omega)
  have q4 : 0 < a0.size := (by have : (0 : Int) < (a0.size : Int) := od_; omega)
  have hx4 : ∀ h : 0 < a0.size, ((a0[0]'h).toNat : Int) = bt a0 0 := bt_at a0 0
  clear p4
  have qi4 : (0 < (a0.size : Int)) = True := eq_true (of_decide_eq_true as_)
  replace q4 := eq_true q4
  go_enter Try.func83, Try.ntmps83
  go_wp2_with (first | (go_at_call 104; (with_reducible refine (F104.calls (bt a0 0) false _ A5.out).mono ?_); rintro e w' ⟨rfl, ⟨nd, rfl⟩⟩))
  go_ret
  exact ⟨er_, dn_⟩
 replace H := itn_ H; rcases H with ⟨c7b0, H⟩
 have c7b1 : decide (1 < a0.size) = true := n2_ c7b0
 replace H := bi_ H; rcases H with ⟨t278, A9, H⟩
 replace H := ib_ H; rcases H with ⟨rfl, H⟩ | ⟨rfl, H⟩
 rotate_left
 ·obtain rfl := Option.some.inj H
  have p4 : 0 ≤ (0 : Int) := (by omega)
  have q4 : 0 < a0.size := (by have : (0 : Int) < (a0.size : Int) := od_; omega)
  have hx4 : ∀ h : 0 < a0.size, ((a0[0]'h).toNat : Int) = bt a0 0 := bt_at a0 0
  clear p4
  have qi4 : (0 < (a0.size : Int)) = True := eq_true (of_decide_eq_true as_)
  replace q4 := eq_true q4
  go_enter Try.func83, Try.ntmps83
  go_wp2_with (first | (go_at_call 104; (with_reducible refine (F104.calls (bt a0 0) true _ A5.out).mono ?_); rintro e w' ⟨rfl, ⟨nd, rfl⟩⟩; have p8 : 0 ≤ (1 : Int) := (by omega); have q8 : 1 < a0.size := (by have : (1 : Int) < (a0.size : Int) := od_; omega); have hx8 : ∀ h : 1 < a0.size, ((a0[1]'h).toNat : Int) = bt a0 1 := bt_at a0 1; clear p8; have qi8 : (1 < (a0.size : Int)) = True := eq_true (of_decide_eq_true as_); replace q8 := eq_true q8) | (go_at_call 104; (with_reducible refine (F104.calls (bt a0 1) false _ A9.out).mono ?_); rintro e w' ⟨rfl, ⟨nd, rfl⟩⟩))
  go_ret
  exact ⟨er_, dn_⟩
 replace H := itn_ H; rcases H with ⟨c11b0, H⟩
 have c11b1 : decide (2 < a0.size) = true := n2_ c11b0
 replace H := bi_ H; rcases H with ⟨t279, A13, H⟩
 obtain rfl := Option.some.inj H
 have p4 : 0 ≤ (0 : Int) := (by omega)
 have q4 : 0 < a0.size := (by have : (0 : Int) < (a0.size : Int) := od_; omega)
 have hx4 : ∀ h : 0 < a0.size, ((a0[0]'h).toNat : Int) = bt a0 0 := bt_at a0 0
 clear p4
 have qi4 : (0 < (a0.size : Int)) = True := eq_true (of_decide_eq_true as_)
 replace q4 := eq_true q4
 go_enter Try.func83, Try.ntmps83
 go_wp2_with (first | (go_at_call 104; (with_reducible refine (F104.calls (bt a0 0) true _ A5.out).mono ?_); rintro e w' ⟨rfl, ⟨nd, rfl⟩⟩; have p8 : 0 ≤ (1 : Int) := (by omega); have q8 : 1 < a0.size := (by have : (1 : Int) < (a0.size : Int) := od_; omega); have hx8 : ∀ h : 1 < a0.size, ((a0[1]'h).toNat : Int) = bt a0 1 := bt_at a0 1; clear p8; have qi8 : (1 < (a0.size : Int)) = True := eq_true (of_decide_eq_true as_); replace q8 := eq_true q8) | (go_at_call 104; (with_reducible refine (F104.calls (bt a0 1) true _ A9.out).mono ?_); rintro e w' ⟨rfl, ⟨nd, rfl⟩⟩; have p12 : 0 ≤ (2 : Int) := (by omega); have q12 : 2 < a0.size := (by have : (2 : Int) < (a0.size : Int) := od_; omega); have hx12 : ∀ h : 2 < a0.size, ((a0[2]'h).toNat : Int) = bt a0 2 := bt_at a0 2; clear p12; have qi12 : (2 < (a0.size : Int)) = True := eq_true (of_decide_eq_true as_); replace q12 := eq_true q12) | (go_at_call 104; (with_reducible refine (F104.calls (bt a0 2) t279 _ A13.out).mono ?_); rintro e w' ⟨rfl, ⟨nd, rfl⟩⟩))
 go_ret
 exact ⟨er_, dn_⟩
/-! ### F106: function 106 -/
def F106.f (k : Nat) (a0_0 : Int) (a0_1 : Int) (a0_2 : Int) (a0_3 : Int) (a1 : Int) : Option (Bool) := (F102.f a0_0 a0_1 a0_2 a0_3).bind fun t281 => ((F103.f k t281 (wrap64 (a1))).bind fun t284 => (some t284))
theorem F106.mono : ∀ a0 a1 a2 a3 a4 k, LeO (F106.f k a0 a1 a2 a3 a4) (F106.f (k + 1) a0 a1 a2 a3 a4) := by
 intro a0 a1 a2 a3 a4 k
 unfold F106.f
 repeat' with_reducible first | exact F103.mono _ _ _ | exact LeO.refl _ | exact LeO.none _ | refine LeO.ite ?_ ?_ | refine LeO.bind ?_ (fun _ => ?_)
theorem F106.calls (k : Nat) (a0_0 : Int) (a0_1 : Int) (a0_2 : Int) (a0_3 : Int) (a1 : Int) (r : Bool) (w : World) (h : F106.f k a0_0 a0_1 a0_2 a0_3 a1 = some r) :
  Calls Try.prog 106 #[.agg #[.int .i64 a0_0, .int .i64 a0_1, .int .i64 a0_2, .int .i64 a0_3], .int .u8 a1] w fun e w' => e = .returned (.bool r) ∧ Below w.heap.size w w' := by
 have hu23 := Try.underlying23
 have HB := am_ (Below.refl w.heap.size w)
 have H : ((F102.f a0_0 a0_1 a0_2 a0_3).bind fun t281 => ((F103.f k t281 (wrap64 (a1))).bind fun t284 => (some t284))) = some r := h
 clear h
 replace H := bi_ H; rcases H with ⟨t281, A3, H⟩
 replace H := bi_ H; rcases H with ⟨t284, A4, H⟩
 obtain rfl := Option.some.inj H
 go_enter Try.func106, Try.ntmps106
 go_wp2_with (first | ((with_reducible refine gate_dst (N := 2) rfl ?_); refine be_ 2 #[.int .i64 a0_0, .int .i64 a0_1, .int .i64 a0_2, .int .i64 a0_3] 23 ?_; intro gb280 hg w5 hbox hb; have BK280 := am_ (hbox); have GW280 := am_ (gw_ hg bl_); have GE280 := GW280; replace HB := hs_ w hb; clear hb hbox hg; obtain ⟨hcz6_0, hcz6_1, hcz6_2, hcz6_3, hfz6_0, hfz6_1, hfz6_2, hfz6_3⟩ := cellsF4 BK280.out) | ((with_reducible refine gate_callee (f := 102) rfl ?_); refine gl_ 6 Try.func102 #[.agg #[.int .i64 a0_0, .int .i64 a0_1, .int .i64 a0_2, .int .i64 a0_3]] ?_ rfl rfl rfl rfl; (with_reducible refine (F102.calls a0_0 a0_1 a0_2 a0_3 t281 _ A3.out).mono ?_); rintro e w7 ⟨v282, rfl, ho0, hb⟩; refine ⟨_, rfl, ?_⟩; have HO283 := am_ (Kd.R_lower ho0 (below_size bl_)); replace BK280 := bb_ BK280 hb; replace HB := hs_ w hb; (try clear hb); (try clear ho0); obtain ⟨Ao8, co8, eo8⟩ := Kd.R_slice HO283.out; subst eo8) | ((with_reducible refine gate_callee (f := 103) rfl ?_); refine gl_ 9 Try.func103 #[.slice Ao8 t281.length co8, .int .i64 (wrap64 (a1))] ?_ rfl rfl rfl rfl; (with_reducible refine (F103.calls k _ _ t281 (wrap64 (a1)) t284 _ ?s1 ?s2 A4.out).mono ?_); (case s1 => repeat (first | exact (Kd.R_reads' HO283.out).2.2 | (with_reducible refine Kd.C_alloc ?_ _) | (with_reducible refine Kd.C_drewN ?_ _) | (with_reducible refine Kd.C_drew ?_))); (case s2 => exact (Kd.R_reads' HO283.out).2.1); rintro e w' ⟨rfl, ⟨nd, rfl⟩⟩; refine ⟨_, rfl, ?_⟩))
 go_ret
 exact ⟨au3_0, bl_⟩

/-! ### F63: function 63 -/
def F63.l0 : Nat → ByteArray → List Int → Int → Int → Int → Int → Int → Option (ByteArray × Int)
  | 0, _, _, _, _, _, _, _ => none
  | k + 1, x1, x6, x7, x286000, x286001, x286002, x286003 => if x7 < (x1.size : Int) then (if 0 ≤ x7 then (if (wrap64 (bt x1 x7)) = x286003 then (if (wrap64 (x7 + 1)) = (x1.size : Int) then (some ((⟨#[]⟩ : ByteArray), wrap64 ((wrap64 (x7 + 1)) - 1))) else (if 0 ≤ (wrap64 (x7 + 1)) then (if (wrap64 (x7 + 1)) < (x1.size : Int) then ((F106.f k x286000 x286001 x286002 x286003 (bt x1 (wrap64 (x7 + 1)))).bind fun t289 => (if t289 = true then (if x6.length < 140737488355328 then (F63.l0 k x1 (x6 ++ [bt x1 (wrap64 (x7 + 1))]) (wrap64 ((wrap64 (x7 + 1)) + 1)) x286000 x286001 x286002 x286003) else (none)) else (some ((⟨#[]⟩ : ByteArray), wrap64 ((wrap64 (x7 + 1)) - 1))))) else (none)) else (none))) else ((F106.f k x286000 x286001 x286002 x286003 (bt x1 x7)).bind fun t293 => (if t293 = true then (some ((⟨#[]⟩ : ByteArray), x7)) else (if x6.length < 140737488355328 then (F63.l0 k x1 (x6 ++ [bt x1 x7]) (wrap64 (x7 + 1)) x286000 x286001 x286002 x286003) else (none))))) else (none)) else (some (strOfNums x6, (-1)))
def F63.f (k : Nat) (a0_0 : Int) (a0_1 : Int) (a0_2 : Int) (a0_3 : Int) (a1 : ByteArray) : Option (ByteArray × Int) := F63.l0 k a1 (([] : List Int)) 0 a0_0 a0_1 a0_2 a0_3
theorem F63.mono_l : ∀ k, (∀ y0 y1 y2 y3 y4 y5 y6, LeO (F63.l0 k y0 y1 y2 y3 y4 y5 y6) (F63.l0 (k + 1) y0 y1 y2 y3 y4 y5 y6))
 | 0 => fun _ _ _ _ _ _ _ r h => by simp [F63.l0] at h
 | k + 1 => by
  have ih0 := F63.mono_l k
  intro y0 y1 y2 y3 y4 y5 y6
  unfold F63.l0
  repeat' with_reducible first | exact ih0 _ _ _ _ _ _ _ | exact F106.mono _ _ _ _ _ _ | exact LeO.refl _ | exact LeO.none _ | refine LeO.ite ?_ ?_ | refine LeO.bind ?_ (fun _ => ?_)
theorem F63.mono : ∀ a0 a1 a2 a3 a4 k, LeO (F63.f k a0 a1 a2 a3 a4) (F63.f (k + 1) a0 a1 a2 a3 a4) := by
 intro a0 a1 a2 a3 a4 k
 have ih0 := F63.mono_l k
 unfold F63.f
 repeat' with_reducible first | exact ih0 _ _ _ _ _ _ _ | exact F106.mono _ _ _ _ _ _ | exact LeO.refl _ | exact LeO.none _ | refine LeO.ite ?_ ?_ | refine LeO.bind ?_ (fun _ => ?_)
def F63.T8 : Bool × List (List Nat × List Nat) := (true, [([], []), ([], []), ([1], [1]), ([0, 2], [0, 2]), ([3], [3]), ([4], [4]), ([4], [4]), ([4], [4]), ([6, 7, 4], [4, 6, 7]), ([5, 8, 4, 4], [4, 5, 8]), ([9, 4], [4, 9]), ([4, 10], [4, 10])])
def F63.B8 : List Nat := [0, 0, 2, 7, 15, 31, 31, 31, 223, 511, 1023, 2047]
theorem F63.tab8 : rtab .any (opsOf Try.f63 8) = F63.T8 := by kernel_rfl
theorem F63.bits8 : waitsOk F63.T8.2 F63.B8 = true := by kernel_rfl
theorem F63.calls (k : Nat) (a0_0 : Int) (a0_1 : Int) (a0_2 : Int) (a0_3 : Int) (a1 : ByteArray) (r1 : ByteArray) (r2 : Int) (w : World) (h : F63.f k a0_0 a0_1 a0_2 a0_3 a1 = some (r1, r2)) :
  Calls Try.prog 63 #[.agg #[.int .i64 a0_0, .int .i64 a0_1, .int .i64 a0_2, .int .i64 a0_3], .string a1] w fun e w' => e = .returned (.tuple #[.string r1, .int .i64 r2]) ∧ Below w.heap.size w w' := by
 have hu23 := Try.underlying23
 have HB := am_ (Below.refl w.heap.size w)
 have H : (F63.l0 k a1 (([] : List Int)) 0 a0_0 a0_1 a0_2 a0_3) = some (r1, r2) := h
 clear h
 obtain ⟨y286, hy286⟩ : ∃ y_ : List Int, y_ = (([] : List Int)) := ⟨_, rfl⟩
 replace H : (F63.l0 k a1 y286 0 a0_0 a0_1 a0_2 a0_3) = some (r1, r2) := by first | (rw [hy286]; exact H) | exact H
 have Ny286 := am_ hy286
 clear hy286
 have H' := am_ H
 clear H
 go_enter Try.func63, Try.ntmps63
 go_wp2_with (first | ((with_reducible refine gate_dst (N := 2) rfl ?_); refine be_ 2 #[.int .i64 a0_0, .int .i64 a0_1, .int .i64 a0_2, .int .i64 a0_3] 23 ?_; intro gb285 hg w3 hbox hb; have BK285 := am_ (hbox); have GW285 := am_ (gw_ hg bl_); have GE285 := GW285; replace HB := hs_ w hb; clear hb hbox hg) | ((with_reducible refine gate_dst (N := 9) rfl ?_); refine Kd.R_lit (Kd.int .u8) _ 5 ?hg (N := 9) ?hd (xs := ([] : List Int)) (inner := []) (ok := fun _ => True) (okp := fun _ => True) ?hr ?hp (fun _ hk => hk) trivial (Below.refl _ _) (Nat.le_refl _) (by simp) ?_; (case hd => rfl); (case hg => rfl); (case hr => exact hr_); (case hp => exact (Reps.none _ _)); intro v287 w4 ho5 hb hg_ hnew_; clear hg_ hnew_; (first | rw [← Ny286.out] at ho5 | (simp only [Int.reduceToNat] at ho5; rw [← Ny286.out] at ho5)); have HO288 := am_ (Kd.R_lower ho5 (below_size bl_)); replace BK285 := bb_ BK285 hb; replace HB := hs_ w hb; clear hb ho5))
 go_loopg [6, 7] k (fun kq v6 v7 w' => ∃ (x6_1 : List Int) (x7_1 : Int), v7 = .int .i64 x7_1 ∧ Aside0 (F63.l0 kq a1 x6_1 x7_1 a0_0 a0_1 a0_2 a0_3 = some (r1, r2)) ∧ Aside0 (kq ≤ k) ∧ Aside0 (Kd.R (Kd.int .u8) 5 w' w.heap.size (fun _ => True) v6 x6_1) ∧ Aside0 (w'.heap[gb285]? = some (.cells #[.int .i64 a0_0, .int .i64 a0_1, .int .i64 a0_2, .int .i64 a0_3] 23 (0, 0))) ∧ Aside0 (Below w.heap.size w w'))
 case atStart => exact ⟨(y286), (0), er_, H', ⟨Nat.le_refl _⟩, ⟨rk_ HO288⟩, ⟨bk_ BK285⟩, ⟨bl_⟩⟩
 case round =>
  clear H'
  obtain ⟨x6_1, x7_1, rfl, HA, HK1, HO_6, BK285, HB⟩ := hrel
  cases gk with
  | zero => exact absurd HA.out (by simp [F63.l0])
  | succ k1 =>
   have H := HA.out
   clear HA
   simp only [F63.l0] at H
   replace H := it_ H; rcases H with ⟨c6b0, H⟩ | ⟨c6b0, H⟩
   rotate_left
   ·simp only [Option.some.injEq, Prod.mk.injEq] at H
    obtain ⟨rfl, rfl⟩ := H
    have hcv36 := own_string (P := Try.prog) Try.underlying36 Try.underlying5 Try.underlying9 (Kd.own_of_R HO_6.out)
    go_wp2
    go_ret2
    exact ⟨au3_0, bl_⟩

   replace H := itn_ H; rcases H with ⟨c7b0, H⟩
   by_cases c9 : (wrap64 (bt a1 x7_1)) = a0_3
   rotate_left
   ·rw [if_neg c9] at H
    have c9b0 : ((wrap64 (bt a1 x7_1)) == a0_3) = false := beq_eq_false_iff_ne.mpr c9
    have c9b1 : ((wrap64 (bt a1 x7_1)) != a0_3) = true := bne_iff_ne.mpr c9
    replace H := bi_ H; rcases H with ⟨t293, A28, H⟩
    replace H := ib_ H; rcases H with ⟨rfl, H⟩ | ⟨rfl, H⟩
    ·simp only [Option.some.injEq, Prod.mk.injEq] at H
     obtain ⟨rfl, rfl⟩ := H
     have p8 : 0 ≤ (x7_1 : Int) := od_
     have q8 : x7_1 < (a1.size : Int) := od_
     have hx8 := bt_at a1 x7_1
     replace p8 := eq_true p8
     replace q8 := eq_true q8
     obtain ⟨hcz30_0, hcz30_1, hcz30_2, hcz30_3, hfz30_0, hfz30_1, hfz30_2, hfz30_3⟩ := cellsF4 BK285.out
     go_wp2_with (first | ((with_reducible refine gate_callee (f := 106) rfl ?_); refine gl_ 45 Try.func106 #[.agg #[.int .i64 a0_0, .int .i64 a0_1, .int .i64 a0_2, .int .i64 a0_3], .int .u8 (bt a1 x7_1)] ?_ rfl rfl rfl rfl; (with_reducible refine (F106.calls k1 a0_0 a0_1 a0_2 a0_3 (bt a1 x7_1) true _ A28.out).mono ?_); rintro e w31 ⟨rfl, hb⟩; refine ⟨_, rfl, ?_⟩; replace HO_6 := am_ (Kd.R_below (rk_ HO_6) hb); replace BK285 := bb_ BK285 hb; replace HB := hs_ w hb; (try clear hb)))
     go_ret2
     exact ⟨au3_0, bl_⟩
    replace H := iln_ H; rcases H with ⟨LMc32, H⟩
    obtain ⟨y294, hy294⟩ : ∃ y_ : List Int, y_ = (x6_1 ++ [bt a1 x7_1]) := ⟨_, rfl⟩
    replace H : (F63.l0 k1 a1 y294 (wrap64 (x7_1 + 1)) a0_0 a0_1 a0_2 a0_3) = some (r1, r2) := by first | (rw [hy294]; exact H) | exact H
    have Ny294 := am_ hy294
    clear hy294
    have H' := am_ H
    clear H
    have p8 : 0 ≤ (x7_1 : Int) := od_
    have q8 : x7_1 < (a1.size : Int) := od_
    have hx8 := bt_at a1 x7_1
    replace p8 := eq_true p8
    replace q8 := eq_true q8
    obtain ⟨hcz33_0, hcz33_1, hcz33_2, hcz33_3, hfz33_0, hfz33_1, hfz33_2, hfz33_3⟩ := cellsF4 BK285.out
    go_wp2_with (first | ((with_reducible refine gate_callee (f := 106) rfl ?_); refine gl_ 45 Try.func106 #[.agg #[.int .i64 a0_0, .int .i64 a0_1, .int .i64 a0_2, .int .i64 a0_3], .int .u8 (bt a1 x7_1)] ?_ rfl rfl rfl rfl; (with_reducible refine (F106.calls k1 a0_0 a0_1 a0_2 a0_3 (bt a1 x7_1) false _ A28.out).mono ?_); rintro e w34 ⟨rfl, hb⟩; refine ⟨_, rfl, ?_⟩; replace HO_6 := am_ (Kd.R_below (rk_ HO_6) hb); replace BK285 := bb_ BK285 hb; replace HB := hs_ w hb; (try clear hb)) | ((with_reducible refine gate_builtin (b := .append) (xs := #[.tmp 47, .tmp 49]) rfl ?_); at_builtin; refine Kd.R_append (Kd.int .u8) (w0 := w) w.heap.size rfl (.tmp 47) (.tmp 49) 36 5 (.int .u8 0) 1 rfl Try.underlying36 info5 rfl (by decide) (by omega) u6 x6_1 (bt a1 x7_1) [.int .u8 (bt a1 x7_1)] (fun _ => True) (fun _ => False) rfl rfl ?aP (fun _ hk => hk.elim) ?aF ?aO ?aB ?aS ?aL ?_; (case aP => exact rfl); (case aB => exact bl_); (case aF => exact (fun _ _ => trivial)); (case aO => exact (rk_ HO_6)); (case aS => exact (below_size bl_)); (case aL => have := LMc32.out; omega); intro v295 w35 ho hb hg hat; rw [← Ny294.out] at ho; have n0_ := am_ (bg_ BK285 hg (Kd.R_ne HO_6.out BK285.out (by decide))); have n1_ := am_ (hb); have n2_ := am_ (ho); clear BK285; clear HB; clear HO_6; have BK285 := n0_; have HB := n1_; have HO296 := n2_; clear n0_ n1_ n2_; clear ho hb hg hat))
    go_roundg k1
    case measure => have := HK1.out; omega
    case rel => exact ⟨(y294), (wrap64 (x7_1 + 1)), er_, H', ⟨by have := HK1.out; omega⟩, ⟨rk_ HO296⟩, ⟨bk_ BK285⟩, ⟨bl_⟩⟩
   rw [if_pos c9] at H
   have c9b0 : ((wrap64 (bt a1 x7_1)) == a0_3) = true := beq_iff_eq.mpr c9
   have c9b1 : ((wrap64 (bt a1 x7_1)) != a0_3) = false := bne_eq_false_iff_eq.mpr c9
   clear c9
   by_cases c10 : (wrap64 (x7_1 + 1)) = (a1.size : Int)
   ·rw [if_pos c10] at H
    have c10b0 : ((wrap64 (x7_1 + 1)) == (a1.size : Int)) = true := beq_iff_eq.mpr c10
    have c10b1 : ((wrap64 (x7_1 + 1)) != (a1.size : Int)) = false := bne_eq_false_iff_eq.mpr c10
    clear c10
    simp only [Option.some.injEq, Prod.mk.injEq] at H
    obtain ⟨rfl, rfl⟩ := H
    have p8 : 0 ≤ (x7_1 : Int) := od_
    have q8 : x7_1 < (a1.size : Int) := od_
    have hx8 := bt_at a1 x7_1
    replace p8 := eq_true p8
    replace q8 := eq_true q8
    obtain ⟨hcz11_0, hcz11_1, hcz11_2, hcz11_3, hfz11_0, hfz11_1, hfz11_2, hfz11_3⟩ := cellsF4 BK285.out
    try go_wp2
    replace HO_6 := am_ (Kd.R_drew HO_6.out)
    replace BK285 := bd_ BK285
    replace HB := am_ (below_drew1 HB.out)
    refine start_ (n := 12) (S := fun w' => True) (ds := []) (bs 12 0) (by kernel_rfl) rfl rfl trivial (fun hHeld => ?_); refine with_tabW F63.tab8 F63.bits8 (fun HT_ HW_ => ?_)
    generalize wr.drew = w12 at HO_6 BK285 HB hHeld ⊢
    refine pu_ 0 26 (bs 12 1) HT_ ?_ rfl rfl
    refine pu_ 1 27 (bs 12 3) HT_ ?_ rfl rfl
    refine pu_ 2 28 (bs 12 7) HT_ ?_ rfl rfl
    refine pu_ 3 29 (bs 12 15) HT_ ?_ rfl rfl
    refine pu_ 4 30 (bs 12 31) HT_ ?_ rfl rfl
    refine pv_ 5 31 (bs 12 63) HT_ ?_ rfl rfl
    refine pv_ 6 32 (bs 12 127) HT_ ?_ rfl rfl
    refine pv_ 7 33 (bs 12 255) HT_ ?_ rfl rfl
    refine pv_ 8 34 (bs 12 511) HT_ ?_ rfl rfl
    refine pv_ 9 35 (bs 12 1023) HT_ ?_ rfl rfl
    refine pv_ 10 36 (bs 12 2047) HT_ ?_ rfl rfl
    refine pu_ 11 37 (bs 12 4095) HT_ ?_ rfl rfl
    refine done_ (done_of HT_.out (by kernel_rfl)) ?_
    try go_wp2
    go_ret2
    exact ⟨au3_0, bl_⟩
   rw [if_neg c10] at H
   have c10b0 : ((wrap64 (x7_1 + 1)) == (a1.size : Int)) = false := beq_eq_false_iff_ne.mpr c10
   have c10b1 : ((wrap64 (x7_1 + 1)) != (a1.size : Int)) = true := bne_iff_ne.mpr c10
   obtain ⟨ji13, hji13⟩ : ∃ j_ : Int, (wrap64 (x7_1 + 1)) = j_ := ⟨_, rfl⟩
   replace H : (if 0 ≤ (ji13) then (if (ji13) < (a1.size : Int) then ((F106.f k1 a0_0 a0_1 a0_2 a0_3 (bt a1 (ji13))).bind fun t289 => (if t289 = true then (if x6_1.length < 140737488355328 then (F63.l0 k1 a1 (x6_1 ++ [bt a1 (ji13)]) (wrap64 ((ji13) + 1)) a0_0 a0_1 a0_2 a0_3) else (none)) else (some ((⟨#[]⟩ : ByteArray), wrap64 ((ji13) - 1))))) else (none)) else (none)) = some (r1, r2) := by first | (rw [hji13] at H; exact H) | (simp only [hji13] at H ⊢; exact H)
   (try rw [hji13] at c10b0)
   (try rw [hji13] at c10b1)
   have hji13w : (IntKind.i64.wrap (x7_1 + 1)) = ji13 := (i64_w _).trans hji13
   replace H := itn_ H; rcases H with ⟨c14b0, H⟩
   replace H := itn_ H; rcases H with ⟨c15b0, H⟩
   replace H := bi_ H; rcases H with ⟨t289, A17, H⟩
   replace H := ib_ H; rcases H with ⟨rfl, H⟩ | ⟨rfl, H⟩
   rotate_left
   ·simp only [Option.some.injEq, Prod.mk.injEq] at H
    obtain ⟨rfl, rfl⟩ := H
    have p8 : 0 ≤ (x7_1 : Int) := od_
    have q8 : x7_1 < (a1.size : Int) := od_
    have hx8 := bt_at a1 x7_1
    replace p8 := eq_true p8
    replace q8 := eq_true q8
    obtain ⟨hcz25_0, hcz25_1, hcz25_2, hcz25_3, hfz25_0, hfz25_1, hfz25_2, hfz25_3⟩ := cellsF4 BK285.out
    try go_wp2
    replace HO_6 := am_ (Kd.R_drew HO_6.out)
    replace BK285 := bd_ BK285
    replace HB := am_ (below_drew1 HB.out)
    have p16 : 0 ≤ ((ji13) : Int) := od_
    have q16 : (ji13) < (a1.size : Int) := od_
    have hx16 := bt_at a1 (ji13)
    replace p16 := eq_true p16
    replace q16 := eq_true q16
    refine start_ (n := 12) (S := fun w' => w'.cell? ⟨gb285, 0, none⟩ = some (.int .i64 a0_0) ∧ w'.cell? ⟨gb285, 1, none⟩ = some (.int .i64 a0_1) ∧ w'.cell? ⟨gb285, 2, none⟩ = some (.int .i64 a0_2) ∧ w'.cell? ⟨gb285, 3, none⟩ = some (.int .i64 a0_3)) (ds := []) (bs 12 0) (by kernel_rfl) rfl rfl ⟨(blk_cell BK285.out 0).trans rfl, (blk_cell BK285.out 1).trans rfl, (blk_cell BK285.out 2).trans rfl, (blk_cell BK285.out 3).trans rfl⟩ (fun hHeld => ?_); refine with_tabW F63.tab8 F63.bits8 (fun HT_ HW_ => ?_)
    generalize wr.drew = w26 at HO_6 BK285 HB hHeld ⊢
    refine pu_ 0 26 (bs 12 1) HT_ ?_ rfl rfl
    refine pu_ 1 27 (bs 12 3) HT_ ?_ rfl rfl
    refine pu_ 2 28 (bs 12 7) HT_ ?_ rfl rfl
    refine pu_ 3 29 (bs 12 15) HT_ ?_ rfl rfl
    refine pu_ 4 30 (bs 12 31) HT_ ?_ rfl rfl
    refine pu_ 6 32 (bs 12 95) HT_ ?_ rfl rfl
    refine pu_ 7 33 (bs 12 223) HT_ ?_ rfl rfl
    refine tk_ 5 31 (bs 12 255) HT_ HW_ hHeld au3_20 ?_ rfl rfl
    refine tk_ 8 34 (bs 12 511) HT_ HW_ hHeld au3_20 ?_ rfl rfl
    refine one_ (i := 9) (N := some 35) (bs 12 1023) rfl rfl (one_of HT_.out (by kernel_rfl)) (by decide) (fun K hK => ?_)
    refine goes_ Try.func106 (by kernel_rfl) rfl #[.agg #[.int .i64 a0_0, .int .i64 a0_1, .int .i64 a0_2, .int .i64 a0_3], .int .u8 (bt a1 (ji13))] (by rfl) rfl rfl au3_19 ?_
    with_reducible refine (F106.calls k1 a0_0 a0_1 a0_2 a0_3 (bt a1 (ji13)) false _ A17.out).mono ?_
    rintro e w27 ⟨rfl, hb⟩
    refine ⟨_, rfl, ?_⟩
    replace HO_6 := am_ (Kd.R_below (rk_ HO_6) hb)
    replace BK285 := bb_ BK285 hb
    replace HB := hs_ w hb
    (try clear hb)
    (try clear hb2)
    (try clear hk)
    (try clear hi)
    refine hK.out _ _ ⟨(blk_cell BK285.out 0).trans rfl, (blk_cell BK285.out 1).trans rfl, (blk_cell BK285.out 2).trans rfl, (blk_cell BK285.out 3).trans rfl⟩ (fun hHeld => ?_)
    clear hK K
    refine no_ 35 ?_
    refine pu_ 10 36 (bs 12 2047) HT_ ?_ rfl rfl
    refine pu_ 11 37 (bs 12 4095) HT_ ?_ rfl rfl
    refine done_ (done_of HT_.out (by kernel_rfl)) ?_
    try go_wp2
    go_ret2
    exact ⟨by first | rfl | (simp [errW_none, errW_some] <;> rfl) | (simp only [← hji13]; first | rfl | (simp [errW_none, errW_some] <;> rfl)) | (simp [*, errW_none, errW_some] <;> rfl), bl_⟩
   replace H := iln_ H; rcases H with ⟨LMc20, H⟩
   obtain ⟨y290, hy290⟩ : ∃ y_ : List Int, y_ = (x6_1 ++ [bt a1 (ji13)]) := ⟨_, rfl⟩
   replace H : (F63.l0 k1 a1 y290 (wrap64 ((ji13) + 1)) a0_0 a0_1 a0_2 a0_3) = some (r1, r2) := by first | (rw [hy290]; exact H) | exact H
   have Ny290 := am_ hy290
   clear hy290
   have H' := am_ H
   clear H
   have p8 : 0 ≤ (x7_1 : Int) := od_
   have q8 : x7_1 < (a1.size : Int) := od_
   have hx8 := bt_at a1 x7_1
   replace p8 := eq_true p8
   replace q8 := eq_true q8
   obtain ⟨hcz21_0, hcz21_1, hcz21_2, hcz21_3, hfz21_0, hfz21_1, hfz21_2, hfz21_3⟩ := cellsF4 BK285.out
   try go_wp2
   replace HO_6 := am_ (Kd.R_drew HO_6.out)
   replace BK285 := bd_ BK285
   replace HB := am_ (below_drew1 HB.out)
   have p16 : 0 ≤ ((ji13) : Int) := od_
   have q16 : (ji13) < (a1.size : Int) := od_
   have hx16 := bt_at a1 (ji13)
   replace p16 := eq_true p16
   replace q16 := eq_true q16
   refine start_ (n := 12) (S := fun w' => w'.cell? ⟨gb285, 0, none⟩ = some (.int .i64 a0_0) ∧ w'.cell? ⟨gb285, 1, none⟩ = some (.int .i64 a0_1) ∧ w'.cell? ⟨gb285, 2, none⟩ = some (.int .i64 a0_2) ∧ w'.cell? ⟨gb285, 3, none⟩ = some (.int .i64 a0_3)) (ds := []) (bs 12 0) (by kernel_rfl) rfl rfl ⟨(blk_cell BK285.out 0).trans rfl, (blk_cell BK285.out 1).trans rfl, (blk_cell BK285.out 2).trans rfl, (blk_cell BK285.out 3).trans rfl⟩ (fun hHeld => ?_); refine with_tabW F63.tab8 F63.bits8 (fun HT_ HW_ => ?_)
   generalize wr.drew = w22 at HO_6 BK285 HB hHeld ⊢
   refine pu_ 0 26 (bs 12 1) HT_ ?_ rfl rfl
   refine pu_ 1 27 (bs 12 3) HT_ ?_ rfl rfl
   refine pu_ 2 28 (bs 12 7) HT_ ?_ rfl rfl
   refine pu_ 3 29 (bs 12 15) HT_ ?_ rfl rfl
   refine pu_ 4 30 (bs 12 31) HT_ ?_ rfl rfl
   refine pu_ 6 32 (bs 12 95) HT_ ?_ rfl rfl
   refine pu_ 7 33 (bs 12 223) HT_ ?_ rfl rfl
   refine tk_ 5 31 (bs 12 255) HT_ HW_ hHeld au3_20 ?_ rfl rfl
   refine tk_ 8 34 (bs 12 511) HT_ HW_ hHeld au3_20 ?_ rfl rfl
   refine one_ (i := 9) (N := some 35) (bs 12 1023) rfl rfl (one_of HT_.out (by kernel_rfl)) (by decide) (fun K hK => ?_)
   refine goes_ Try.func106 (by kernel_rfl) rfl #[.agg #[.int .i64 a0_0, .int .i64 a0_1, .int .i64 a0_2, .int .i64 a0_3], .int .u8 (bt a1 (ji13))] (by rfl) rfl rfl au3_19 ?_
   with_reducible refine (F106.calls k1 a0_0 a0_1 a0_2 a0_3 (bt a1 (ji13)) true _ A17.out).mono ?_
   rintro e w23 ⟨rfl, hb⟩
   refine ⟨_, rfl, ?_⟩
   replace HO_6 := am_ (Kd.R_below (rk_ HO_6) hb)
   replace BK285 := bb_ BK285 hb
   replace HB := hs_ w hb
   (try clear hb)
   (try clear hb2)
   (try clear hk)
   (try clear hi)
   refine hK.out _ _ ⟨(blk_cell BK285.out 0).trans rfl, (blk_cell BK285.out 1).trans rfl, (blk_cell BK285.out 2).trans rfl, (blk_cell BK285.out 3).trans rfl⟩ (fun hHeld => ?_)
   clear hK K
   refine no_ 35 ?_
   refine pu_ 10 36 (bs 12 2047) HT_ ?_ rfl rfl
   refine pu_ 11 37 (bs 12 4095) HT_ ?_ rfl rfl
   refine done_ (done_of HT_.out (by kernel_rfl)) ?_
   have p19 : 0 ≤ ((ji13) : Int) := od_
   have q19 : (ji13) < (a1.size : Int) := od_
   have hx19 := bt_at a1 (ji13)
   replace p19 := eq_true p19
   replace q19 := eq_true q19
   try go_wp2_with (first | ((with_reducible refine gate_builtin (b := .append) (xs := #[.tmp 47, .tmp 49]) rfl ?_); at_builtin; refine Kd.R_append (Kd.int .u8) (w0 := w) w.heap.size rfl (.tmp 47) (.tmp 49) 36 5 (.int .u8 0) 1 rfl Try.underlying36 info5 rfl (by decide) (by omega) u6 x6_1 (bt a1 (ji13)) [.int .u8 (bt a1 (ji13))] (fun _ => True) (fun _ => False) rfl rfl ?aP (fun _ hk => hk.elim) ?aF ?aO ?aB ?aS ?aL ?_; (case aP => exact rfl); (case aB => exact bl_); (case aF => exact (fun _ _ => trivial)); (case aO => exact (rk_ HO_6)); (case aS => exact (below_size bl_)); (case aL => have := LMc20.out; omega); intro v291 w24 ho hb hg hat; rw [← Ny290.out] at ho; have n0_ := am_ (bg_ BK285 hg (Kd.R_ne HO_6.out BK285.out (by decide))); have n1_ := am_ (hb); have n2_ := am_ (ho); clear BK285; clear HB; clear HO_6; have BK285 := n0_; have HB := n1_; have HO292 := n2_; clear n0_ n1_ n2_; clear ho hb hg hat))
   go_roundg k1
   case measure => have := HK1.out; omega
   case rel => exact ⟨(y290), (wrap64 ((ji13) + 1)), (by first | rfl | (simp; done) | (simp only [← hji13] <;> (first | rfl | simp)) | (simp [*]; done)), H', ⟨by have := HK1.out; omega⟩, ⟨rk_ HO292⟩, ⟨bk_ BK285⟩, ⟨bl_⟩⟩
/-! ### F112: function 112 -/
def F112.l0 : Nat → ByteArray → Int → Int → Option (Bool)
  | 0, _, _, _ => none
  | k + 1, x0, x5, x6 => if x6 < x5 then (if 0 ≤ x6 then (if x6 < (x0.size : Int) then (if (bt x0 x6) < 32 then (some false) else (if (bt x0 x6) > 126 then (some false) else (F112.l0 k x0 x5 (wrap64 (x6 + 1))))) else (none)) else (none)) else (some true)
def F112.f (k : Nat) (a0 : ByteArray) : Option (Bool) := F112.l0 k a0 (a0.size : Int) 0
theorem F112.mono_l : ∀ k, (∀ y0 y1 y2, LeO (F112.l0 k y0 y1 y2) (F112.l0 (k + 1) y0 y1 y2))
 | 0 => fun _ _ _ r h => by simp [F112.l0] at h
 | k + 1 => by
  have ih0 := F112.mono_l k
  intro y0 y1 y2
  unfold F112.l0
  repeat' with_reducible first | exact ih0 _ _ _ | exact LeO.refl _ | exact LeO.none _ | refine LeO.ite ?_ ?_ | refine LeO.bind ?_ (fun _ => ?_)
theorem F112.mono : ∀ a0 k, LeO (F112.f k a0) (F112.f (k + 1) a0) := by
 intro a0 k
 have ih0 := F112.mono_l k
 unfold F112.f
 repeat' with_reducible first | exact ih0 _ _ _ | exact LeO.refl _ | exact LeO.none _ | refine LeO.ite ?_ ?_ | refine LeO.bind ?_ (fun _ => ?_)
theorem F112.calls (k : Nat) (a0 : ByteArray) (r : Bool) (w : World) (h : F112.f k a0 = some r) :
  Calls Try.prog 112 #[.string a0] w fun e w' => e = .returned (.bool r) ∧ Drawn0 w w' := by
 have H : (F112.l0 k a0 (a0.size : Int) 0) = some r := h
 clear h
 have H' := am_ H
 clear H
 go_enter Try.func112, Try.ntmps112
 go_wp2
 go_loopg [6] k (fun kq v6 w' => ∃ (x6_1 : Int), v6 = .int .i64 x6_1 ∧ Aside0 (F112.l0 kq a0 (a0.size : Int) x6_1 = some r) ∧ Aside0 (kq ≤ k) ∧ Drawn0 w w')
 case atStart => exact ⟨(0), er_, H', ⟨Nat.le_refl _⟩, dn_⟩
 case round =>
  clear H'
  obtain ⟨x6_1, rfl, HA, HK1, ⟨m1, rfl⟩⟩ := hrel
  cases gk with
  | zero => exact absurd HA.out (by simp [F112.l0])
  | succ k1 =>
   have H := HA.out
   clear HA
   simp only [F112.l0] at H
   replace H := it_ H; rcases H with ⟨c2b0, H⟩ | ⟨c2b0, H⟩
   rotate_left
   ·obtain rfl := Option.some.inj H
    go_wp2
    go_ret
    exact ⟨er_, dn_⟩

   replace H := itn_ H; rcases H with ⟨c3b0, H⟩
   replace H := itn_ H; rcases H with ⟨c4b0, H⟩
   replace H := it_ H; rcases H with ⟨c6b0, H⟩ | ⟨c6b0, H⟩
   ·obtain rfl := Option.some.inj H
    have p5 : 0 ≤ (x6_1 : Int) := od_
    have q5 : x6_1 < (a0.size : Int) := od_
    have hx5 := bt_at a0 x6_1
    replace p5 := eq_true p5
    replace q5 := eq_true q5
    go_wp2
    go_ret
    exact ⟨er_, dn_⟩
   replace H := it_ H; rcases H with ⟨(c8b0 : decide (126 < (bt a0 x6_1)) = true), H⟩ | ⟨(c8b0 : decide (126 < (bt a0 x6_1)) = false), H⟩
   ·obtain rfl := Option.some.inj H
    have p5 : 0 ≤ (x6_1 : Int) := od_
    have q5 : x6_1 < (a0.size : Int) := od_
    have hx5 := bt_at a0 x6_1
    replace p5 := eq_true p5
    replace q5 := eq_true q5
    have p7 : 0 ≤ (x6_1 : Int) := od_
    have q7 : x6_1 < (a0.size : Int) := od_
    have hx7 := bt_at a0 x6_1
    replace p7 := eq_true p7
    replace q7 := eq_true q7
    go_wp2
    go_ret
    exact ⟨er_, dn_⟩
   have H' := am_ H
   clear H
   have p5 : 0 ≤ (x6_1 : Int) := od_
   have q5 : x6_1 < (a0.size : Int) := od_
   have hx5 := bt_at a0 x6_1
   replace p5 := eq_true p5
   replace q5 := eq_true q5
   have p7 : 0 ≤ (x6_1 : Int) := od_
   have q7 : x6_1 < (a0.size : Int) := od_
   have hx7 := bt_at a0 x6_1
   replace p7 := eq_true p7
   replace q7 := eq_true q7
   go_wp2
   go_roundg k1
   case measure => have := HK1.out; omega
   case rel => exact ⟨(wrap64 (x6_1 + 1)), er_, H', ⟨by have := HK1.out; omega⟩, dn_⟩
/-! ### F82: function 82 -/
def F82.f (k : Nat) (a0 : ByteArray) : Option (Bool) := if (a0.size : Int) ≤ 40 then ((F112.f k a0).bind fun t297 => (some t297)) else (some false)
theorem F82.mono : ∀ a0 k, LeO (F82.f k a0) (F82.f (k + 1) a0) := by
 intro a0 k
 unfold F82.f
 repeat' with_reducible first | exact F112.mono _ _ | exact LeO.refl _ | exact LeO.none _ | refine LeO.ite ?_ ?_ | refine LeO.bind ?_ (fun _ => ?_)
theorem F82.calls (k : Nat) (a0 : ByteArray) (r : Bool) (w : World) (h : F82.f k a0 = some r) :
  Calls Try.prog 82 #[.string a0] w fun e w' => e = .returned (.bool r) ∧ Drawn0 w w' := by
 have H : (if (a0.size : Int) ≤ 40 then ((F112.f k a0).bind fun t297 => (some t297)) else (some false)) = some r := h
 clear h
 replace H := it_ H; rcases H with ⟨c2b0, H⟩ | ⟨c2b0, H⟩
 rotate_left
 ·have c2b1 : decide (a0.size ≤ 40) = false := n2_ c2b0
  obtain rfl := Option.some.inj H
  go_enter Try.func82, Try.ntmps82
  go_wp2
  go_ret
  exact ⟨er_, dn_⟩

 have c2b1 : decide (a0.size ≤ 40) = true := n2_ c2b0
 replace H := bi_ H; rcases H with ⟨t297, A3, H⟩
 obtain rfl := Option.some.inj H
 go_enter Try.func82, Try.ntmps82
 go_wp2_with (first | (go_at_call 112; (with_reducible refine (F112.calls k a0 t297 _ A3.out).mono ?_); rintro e w' ⟨rfl, ⟨nd, rfl⟩⟩))
 go_ret
 exact ⟨er_, dn_⟩
/-! ### F88: function 88 -/
def F88.l0 : Nat → Int → List ByteArray → Int → List ByteArray → Int → Int → Int → Int → Int → Int → List ByteArray → Option (List ByteArray × Int)
  | 0, _, _, _, _, _, _, _, _, _, _, _ => none
  | k + 1, x2, x8, x10, x27, x28, x29, x299000, x299001, x299002, x299003, x304000 => if x29 < x28 then (if 0 ≤ x29 then (if x29 < (x27.length : Int) then ((F63.f k x299000 x299001 x299002 x299003 (rdOf ByteArray.empty x27 x29)).bind fun bt306 => (if bt306.2 ≥ 0 then (some (x304000, wrap64 (x10 + bt306.2))) else ((F82.f k bt306.1).bind fun t308 => (if t308 = true then (if x304000.length < 8796093022208 then (F88.l0 k x2 x8 (wrap64 (x10 + (wrap64 (((rdOf ByteArray.empty x27 x29).size : Int) + 1)))) x27 x28 (wrap64 (x29 + 1)) x299000 x299001 x299002 x299003 (x304000 ++ [bt306.1])) else (none)) else (some (x304000, x10)))))) else (none)) else (none)) else (if (x8.length : Int) > 1 then (if 0 ≤ (wrap64 ((x8.length : Int) - 1)) then (if (wrap64 ((x8.length : Int) - 1)) < (x304000.length : Int) then (if (rdOf ByteArray.empty x304000 (wrap64 ((x8.length : Int) - 1))).toList = ([] : List UInt8) then (some (x304000, x2)) else (some (x304000, (-1)))) else (none)) else (none)) else (some (x304000, (-1))))
def F88.f (k : Nat) (a0_0 : Int) (a0_1 : Int) (a0_2 : Int) (a0_3 : Int) (a1 : ByteArray) (a2 : Int) : Option (List ByteArray × Int) := (F69.f k a0_0 a0_1 a0_2 a0_3 a1 a0_2).bind fun t300 => (if (t300.length : Int) > 4 then (some (([] : List ByteArray), a2)) else (F88.l0 k a2 t300 a2 t300 (t300.length : Int) 0 a0_0 a0_1 a0_2 a0_3 ([] : List ByteArray)))
theorem F88.mono_l : ∀ k, (∀ y0 y1 y2 y3 y4 y5 y6 y7 y8 y9 y10, LeO (F88.l0 k y0 y1 y2 y3 y4 y5 y6 y7 y8 y9 y10) (F88.l0 (k + 1) y0 y1 y2 y3 y4 y5 y6 y7 y8 y9 y10))
 | 0 => fun _ _ _ _ _ _ _ _ _ _ _ r h => by simp [F88.l0] at h
 | k + 1 => by
  have ih0 := F88.mono_l k
  intro y0 y1 y2 y3 y4 y5 y6 y7 y8 y9 y10
  unfold F88.l0
  repeat' with_reducible first | exact ih0 _ _ _ _ _ _ _ _ _ _ _ | exact F69.mono _ _ _ _ _ _ _ | exact F63.mono _ _ _ _ _ _ | exact F82.mono _ _ | exact LeO.refl _ | exact LeO.none _ | refine LeO.ite ?_ ?_ | refine LeO.bind ?_ (fun _ => ?_)
theorem F88.mono : ∀ a0 a1 a2 a3 a4 a5 k, LeO (F88.f k a0 a1 a2 a3 a4 a5) (F88.f (k + 1) a0 a1 a2 a3 a4 a5) := by
 intro a0 a1 a2 a3 a4 a5 k
 have ih0 := F88.mono_l k
 unfold F88.f
 repeat' with_reducible first | exact ih0 _ _ _ _ _ _ _ _ _ _ _ | exact F69.mono _ _ _ _ _ _ _ | exact F63.mono _ _ _ _ _ _ | exact F82.mono _ _ | exact LeO.refl _ | exact LeO.none _ | refine LeO.ite ?_ ?_ | refine LeO.bind ?_ (fun _ => ?_)
theorem F88.calls (k : Nat) (a0_0 : Int) (a0_1 : Int) (a0_2 : Int) (a0_3 : Int) (a1 : ByteArray) (a2 : Int) (r1 : List ByteArray) (r2 : Int) (w : World) (h : F88.f k a0_0 a0_1 a0_2 a0_3 a1 a2 = some (r1, r2)) :
  Calls Try.prog 88 #[.agg #[.int .i64 a0_0, .int .i64 a0_1, .int .i64 a0_2, .int .i64 a0_3], .string a1, .int .i64 a2] w fun e w' => ∃ v0_ : Value, e = .returned (.tuple #[.agg #[v0_], .int .i64 r2]) ∧ Kd.R Kd.string 9 w' w.heap.size (fun _ => True) v0_ r1 ∧ Below w.heap.size w w' := by
 have hu23 := Try.underlying23
 have hu102 := Try.underlying102
 have HB := am_ (Below.refl w.heap.size w)
 have H : ((F69.f k a0_0 a0_1 a0_2 a0_3 a1 a0_2).bind fun t300 => (if (t300.length : Int) > 4 then (some (([] : List ByteArray), a2)) else (F88.l0 k a2 t300 a2 t300 (t300.length : Int) 0 a0_0 a0_1 a0_2 a0_3 ([] : List ByteArray)))) = some (r1, r2) := h
 clear h
 replace H := bi_ H; rcases H with ⟨t300, A4, H⟩
 replace H := it_ H; rcases H with ⟨(c5b0 : decide (4 < (t300.length : Int)) = true), H⟩ | ⟨(c5b0 : decide (4 < (t300.length : Int)) = false), H⟩
 ·have c5b1 : decide (4 < t300.length) = true := n2_ c5b0
  simp only [Option.some.injEq, Prod.mk.injEq] at H
  obtain ⟨rfl, rfl⟩ := H
  go_enter Try.func88, Try.ntmps88
  go_wp2_with (first | ((with_reducible refine gate_dst (N := 3) rfl ?_); (try (refine gate_guard (by rfl) ?_; dsimp only)); refine be_ 3 #[.int .i64 a0_0, .int .i64 a0_1, .int .i64 a0_2, .int .i64 a0_3] 23 ?_; intro gb298 hg w6 hbox hb; have BK298 := am_ (hbox); have GW298 := am_ (gw_ hg bl_); have GE298 := GW298; replace HB := hs_ w hb; clear hb hbox hg) | ((with_reducible refine gate_dst (N := 6) rfl ?_); (try (refine gate_guard (by rfl) ?_; dsimp only)); refine be_ 6 #[.slice none 0 0] 102 ?_; intro gb299 hg w7 hbox hb; have BK299 := am_ (hbox); have GW299 := am_ (gw_ hg bl_); have GE299 := GW299; replace HB := hs_ w hb; have NB298_299 := am_ (gn_ hg (blkl_ BK298)); have NB299_298 := am_ (gm_ hg (blkl_ BK298)); replace BK298 := bb_ BK298 hb; clear hb hbox hg; have hnb8 := NB298_299.out; have hnc8 := NB299_298.out; obtain ⟨hcz9_0, hcz9_1, hcz9_2, hcz9_3, hfz9_0, hfz9_1, hfz9_2, hfz9_3⟩ := cellsF4 BK298.out) | (go_at_call 69; (with_reducible refine (F69.calls k a0_0 a0_1 a0_2 a0_3 a1 a0_2 t300 _ A4.out).mono ?_); rintro e w10 ⟨v301, rfl, ho0, hb⟩; (try clear A4); have HO302 := am_ (Kd.R_lower ho0 (below_size bl_)); replace BK298 := bb_ BK298 hb; replace BK299 := bb_ BK299 hb; replace HB := hs_ w hb; (try clear hb); (try clear ho0)) | ((with_reducible refine gate_dst (N := 9) rfl ?_); (try (refine gate_guard (by rfl) ?_; dsimp only)); refine be_ 9 #[.slice none 0 0] 102 ?_; intro gb303 hg w11 hbox hb; replace HO302 := am_ (Kd.R_below (rk_ HO302) hb); have BK303 := am_ (hbox); have GW303 := am_ (gw_ hg bl_); have GE303 := GW303; replace HB := hs_ w hb; have NB298_303 := am_ (gn_ hg (blkl_ BK298)); have NB303_298 := am_ (gm_ hg (blkl_ BK298)); replace BK298 := bb_ BK298 hb; have NB299_303 := am_ (gn_ hg (blkl_ BK299)); have NB303_299 := am_ (gm_ hg (blkl_ BK299)); replace BK299 := bb_ BK299 hb; clear hb hbox hg; have hnb12 := NB303_298.out; have hnc12 := NB298_303.out; have hnb13 := NB303_299.out; have hnc13 := NB299_303.out; have hcz14_0 : w11.cell? ⟨gb303, 0, none⟩ = some (.slice none 0 0) := (blk_cell BK303.out 0).trans rfl; have hfz14_0 := blk_frozen BK303.out 0; obtain ⟨Ao15, co15, eo15⟩ := Kd.R_slice HO302.out; subst eo15; have hcz16_0 : w11.cell? ⟨gb299, 0, none⟩ = some (.slice none 0 0) := (blk_cell BK299.out 0).trans rfl; have hfz16_0 := blk_frozen BK299.out 0))
  refine bodyPost_ret (results_ct rfl _ _ gb299 102 #[.slice none 0 0] (0, 0) _ rfl (bq_ BK299) Try.underlying102 rfl (by kernel_rfl)) rfl ?_
  exact ⟨_, au3_0, au3_21, bl_⟩
 have c5b1 : decide (4 < t300.length) = false := n2_ c5b0
 have H' := am_ H
 clear H
 go_enter Try.func88, Try.ntmps88
 go_wp2_with (first | ((with_reducible refine gate_dst (N := 3) rfl ?_); (try (refine gate_guard (by rfl) ?_; dsimp only)); refine be_ 3 #[.int .i64 a0_0, .int .i64 a0_1, .int .i64 a0_2, .int .i64 a0_3] 23 ?_; intro gb298 hg w17 hbox hb; have BK298 := am_ (hbox); have GW298 := am_ (gw_ hg bl_); have GE298 := GW298; replace HB := hs_ w hb; clear hb hbox hg) | ((with_reducible refine gate_dst (N := 6) rfl ?_); (try (refine gate_guard (by rfl) ?_; dsimp only)); refine be_ 6 #[.slice none 0 0] 102 ?_; intro gb299 hg w18 hbox hb; have BK299 := am_ (hbox); have GW299 := am_ (gw_ hg bl_); have GE299 := GW299; replace HB := hs_ w hb; have NB298_299 := am_ (gn_ hg (blkl_ BK298)); have NB299_298 := am_ (gm_ hg (blkl_ BK298)); replace BK298 := bb_ BK298 hb; clear hb hbox hg; have hnb19 := NB298_299.out; have hnc19 := NB299_298.out; obtain ⟨hcz20_0, hcz20_1, hcz20_2, hcz20_3, hfz20_0, hfz20_1, hfz20_2, hfz20_3⟩ := cellsF4 BK298.out) | (go_at_call 69; (with_reducible refine (F69.calls k a0_0 a0_1 a0_2 a0_3 a1 a0_2 t300 _ A4.out).mono ?_); rintro e w21 ⟨v301, rfl, ho0, hb⟩; (try clear A4); have HO302 := am_ (Kd.R_lower ho0 (below_size bl_)); replace BK298 := bb_ BK298 hb; replace BK299 := bb_ BK299 hb; replace HB := hs_ w hb; (try clear hb); (try clear ho0)) | ((with_reducible refine gate_dst (N := 9) rfl ?_); (try (refine gate_guard (by rfl) ?_; dsimp only)); refine be_ 9 #[.slice none 0 0] 102 ?_; intro gb303 hg w22 hbox hb; replace HO302 := am_ (Kd.R_below (rk_ HO302) hb); have BK303 := am_ (hbox); have GW303 := am_ (gw_ hg bl_); have GE303 := GW303; replace HB := hs_ w hb; have NB298_303 := am_ (gn_ hg (blkl_ BK298)); have NB303_298 := am_ (gm_ hg (blkl_ BK298)); replace BK298 := bb_ BK298 hb; have NB299_303 := am_ (gn_ hg (blkl_ BK299)); have NB303_299 := am_ (gm_ hg (blkl_ BK299)); replace BK299 := bb_ BK299 hb; clear hb hbox hg; have hnb23 := NB303_298.out; have hnc23 := NB298_303.out; have hnb24 := NB303_299.out; have hnc24 := NB299_303.out; have hcz25_0 : w22.cell? ⟨gb303, 0, none⟩ = some (.slice none 0 0) := (blk_cell BK303.out 0).trans rfl; have hfz25_0 := blk_frozen BK303.out 0; obtain ⟨Ao26, co26, eo26⟩ := Kd.R_slice HO302.out; subst eo26))
 go_loopg [10, 29] k (fun kq v10 v29 w' => ∃ (x10_1 : Int) (x29_1 : Int) (x304000_1 : List ByteArray) (u304000 : Value), v10 = .int .i64 x10_1 ∧ v29 = .int .i64 x29_1 ∧ Aside0 (F88.l0 kq a2 t300 x10_1 t300 (t300.length : Int) x29_1 a0_0 a0_1 a0_2 a0_3 x304000_1 = some (r1, r2)) ∧ Aside0 (kq ≤ k) ∧ Aside0 (Kd.R Kd.string 9 w' w.heap.size (fun k_ => some k_ ≠ (u304000 : Value).ownBlock) (.slice Ao26 t300.length co26) t300) ∧ Aside0 (Kd.R Kd.string 9 w' w.heap.size (fun k_ => some k_ ≠ (u304000 : Value).ownBlock) (.slice Ao26 t300.length co26) t300) ∧ Aside0 (Kd.R Kd.string 9 w' w.heap.size (fun k_ => some k_ ≠ ((.slice Ao26 t300.length co26) : Value).ownBlock ∧ some k_ ≠ ((.slice Ao26 t300.length co26) : Value).ownBlock) u304000 x304000_1) ∧ Aside0 (w'.heap[gb298]? = some (.cells #[.int .i64 a0_0, .int .i64 a0_1, .int .i64 a0_2, .int .i64 a0_3] 23 (0, 0))) ∧ Aside0 (w'.heap[gb299]? = some (.cells #[(.slice none 0 0)] 102 (0, 0))) ∧ Aside0 (w'.heap[gb303]? = some (.cells #[u304000] 102 (0, 0))) ∧ Aside0 (Below w.heap.size w w'))
 case atStart => exact ⟨(a2), (0), (([] : List ByteArray)), (.slice none 0 0), er_, er_, H', ⟨Nat.le_refl _⟩, ⟨au3_13⟩, ⟨au3_13⟩, ⟨au3_21⟩, ⟨bf_ BK298⟩, ⟨bf_ BK299⟩, ⟨bq_ BK303⟩, ⟨bl_⟩⟩
 case round =>
  clear H'
  try clear c5b0
  try clear c5b1
  try clear hcz14_0
  try clear hcz16_0
  try clear hcz20_0 hcz20_1 hcz20_2 hcz20_3
  try clear hcz25_0
  try clear hcz9_0 hcz9_1 hcz9_2 hcz9_3
  try clear hfz14_0
  try clear hfz16_0
  try clear hfz20_0 hfz20_1 hfz20_2 hfz20_3
  try clear hfz25_0
  try clear hfz9_0 hfz9_1 hfz9_2 hfz9_3
  obtain ⟨x10_1, x29_1, x304000_1, u304000, rfl, rfl, HA, HK1, HO_8, HO_27, HO_304000, BK298, BK299, BK303, HB⟩ := hrel
  cases gk with
  | zero => exact absurd HA.out (by simp [F88.l0])
  | succ k1 =>
   have H := HA.out
   clear HA
   simp only [F88.l0] at H
   replace H := it_ H; rcases H with ⟨c27b0, H⟩ | ⟨c27b0, H⟩
   ·replace H := itn_ H; rcases H with ⟨c28b0, H⟩
    replace H := itn_ H; rcases H with ⟨c29b0, H⟩
    replace H := bi_ H; rcases H with ⟨⟨t306, t307⟩, A30, H⟩
    replace H := it_ H; rcases H with ⟨(c31b0 : decide (0 ≤ t307) = true), H⟩ | ⟨(c31b0 : decide (0 ≤ t307) = false), H⟩
    ·simp only [Option.some.injEq, Prod.mk.injEq] at H
     obtain ⟨rfl, rfl⟩ := H
     have p305 : 0 ≤ (x29_1 : Int) := od_
     have q305 : x29_1 < (t300.length : Int) := od_
     obtain ⟨ad305, e305, hx305_0⟩ := Kd.at_string (Kd.R_reads' HO_27.out).2.2 x29_1 p305 q305
     cases e305
     replace p305 := eq_true p305
     replace q305 := eq_true q305
     have hnb32 := NB298_299.out
     have hnc32 := NB299_298.out
     have hnb33 := NB298_303.out
     have hnc33 := NB303_298.out
     obtain ⟨hcz34_0, hcz34_1, hcz34_2, hcz34_3, hfz34_0, hfz34_1, hfz34_2, hfz34_3⟩ := cellsF4 BK298.out
     go_wp2_with (first | (go_at_call 63; (with_reducible refine (F63.calls k1 a0_0 a0_1 a0_2 a0_3 (rdOf ByteArray.empty t300 x29_1) t306 t307 _ A30.out).mono ?_); rintro e w35 ⟨rfl, hb⟩; (try clear A30); replace HO_8 := am_ (Kd.R_below (rk_ HO_8) hb); replace HO_27 := am_ (Kd.R_below (rk_ HO_27) hb); replace HO_304000 := am_ (Kd.R_below (rk_ HO_304000) hb); replace BK298 := bb_ BK298 hb; replace BK299 := bb_ BK299 hb; replace BK303 := bb_ BK303 hb; replace HB := hs_ w hb; (try clear hb); have hnb36 := NB303_299.out; have hnc36 := NB299_303.out; have hcz37_0 : w35.cell? ⟨gb303, 0, none⟩ = some (u304000) := (blk_cell BK303.out 0).trans rfl; have hfz37_0 := blk_frozen BK303.out 0; obtain ⟨Ao38, co38, eo38⟩ := Kd.R_slice HO_304000.out; subst eo38; have hcz39_0 : w35.cell? ⟨gb299, 0, none⟩ = some (.slice none 0 0) := (blk_cell BK299.out 0).trans rfl; have hfz39_0 := blk_frozen BK299.out 0))
     refine bodyPost_ret (results_ct rfl _ _ gb299 102 #[.slice Ao38 x304000_1.length co38] (0, 0) _ rfl (bq_ BK299) Try.underlying102 rfl (by kernel_rfl)) rfl ?_
     exact ⟨_, au3_0, by (with_reducible repeat (first | apply Kd.R_alloc | apply Kd.R_drewN | apply Kd.R_drew)); exact Kd.R_mono (Kd.R_far (p := ⟨gb299, 0, none⟩) (Kd.R_types HO_304000.out BK299.out (by decide)) (fun _ hk => hk.2) (.slice Ao38 x304000_1.length co38)) (fun _ hk => trivial), bl_⟩
    replace H := bi_ H; rcases H with ⟨t308, A40, H⟩
    replace H := ib_ H; rcases H with ⟨rfl, H⟩ | ⟨rfl, H⟩
    rotate_left
    ·simp only [Option.some.injEq, Prod.mk.injEq] at H
     obtain ⟨rfl, rfl⟩ := H
     have p305 : 0 ≤ (x29_1 : Int) := od_
     have q305 : x29_1 < (t300.length : Int) := od_
     obtain ⟨ad305, e305, hx305_0⟩ := Kd.at_string (Kd.R_reads' HO_27.out).2.2 x29_1 p305 q305
     cases e305
     replace p305 := eq_true p305
     replace q305 := eq_true q305
     have hnb52 := NB298_299.out
     have hnc52 := NB299_298.out
     have hnb53 := NB298_303.out
     have hnc53 := NB303_298.out
     obtain ⟨hcz54_0, hcz54_1, hcz54_2, hcz54_3, hfz54_0, hfz54_1, hfz54_2, hfz54_3⟩ := cellsF4 BK298.out
     go_wp2_with (first | (go_at_call 63; (with_reducible refine (F63.calls k1 a0_0 a0_1 a0_2 a0_3 (rdOf ByteArray.empty t300 x29_1) t306 t307 _ A30.out).mono ?_); rintro e w55 ⟨rfl, hb⟩; (try clear A30); replace HO_8 := am_ (Kd.R_below (rk_ HO_8) hb); replace HO_27 := am_ (Kd.R_below (rk_ HO_27) hb); replace HO_304000 := am_ (Kd.R_below (rk_ HO_304000) hb); replace BK298 := bb_ BK298 hb; replace BK299 := bb_ BK299 hb; replace BK303 := bb_ BK303 hb; replace HB := hs_ w hb; (try clear hb)) | (go_at_call 82; (with_reducible refine (F82.calls k1 t306 false _ A40.out).mono ?_); rintro e w' ⟨rfl, ⟨nd, rfl⟩⟩; (try clear A40); (try (rw [drewN_self w55]; generalize hq_ : World.drewN w55 _ = w55; have n0_ : Aside0 (Kd.R Kd.string 9 w55 w.heap.size (fun k_ => some k_ ≠ (u304000 : Value).ownBlock) (.slice (some ad305) t300.length co26) t300) := ⟨by rw [← hq_]; exact (rk_ HO_27)⟩; have n1_ : Aside0 (Kd.R Kd.string 9 w55 w.heap.size (fun k_ => some k_ ≠ (.slice (some ad305) t300.length co26 : Value).ownBlock ∧ some k_ ≠ (.slice (some ad305) t300.length co26 : Value).ownBlock) u304000 x304000_1) := ⟨au3_18⟩; have n2_ : Aside0 (Kd.R Kd.string 9 w55 w.heap.size (fun k_ => some k_ ≠ (u304000 : Value).ownBlock) (.slice (some ad305) t300.length co26) t300) := ⟨by rw [← hq_]; exact (rk_ HO_8)⟩; have n3_ : Aside0 (w55.heap[gb298]? = some (.cells #[.int .i64 a0_0, .int .i64 a0_1, .int .i64 a0_2, .int .i64 a0_3] 23 (0, 0))) := ⟨by rw [← hq_]; exact (bk_ BK298)⟩; have n4_ : Aside0 (w55.heap[gb299]? = some (.cells #[.slice none 0 0] 102 (0, 0))) := ⟨by rw [← hq_]; exact (bk_ BK299)⟩; have n5_ : Aside0 (w55.heap[gb303]? = some (.cells #[u304000] 102 (0, 0))) := ⟨by rw [← hq_]; exact (bk_ BK303)⟩; have n6_ : Aside0 (Below w.heap.size w w55) := ⟨by rw [← hq_]; exact bl_⟩; clear HO_27 HO_304000 HO_8 BK298 BK299 BK303 HB hq_; have HO_27 := n0_; have HO_304000 := n1_; have HO_8 := n2_; have BK298 := n3_; have BK299 := n4_; have BK303 := n5_; have HB := n6_; clear n0_ n1_ n2_ n3_ n4_ n5_ n6_)); have hnb56 := NB303_299.out; have hnc56 := NB299_303.out; have hcz57_0 : w55.cell? ⟨gb303, 0, none⟩ = some (u304000) := (blk_cell BK303.out 0).trans rfl; have hfz57_0 := blk_frozen BK303.out 0; obtain ⟨Ao58, co58, eo58⟩ := Kd.R_slice HO_304000.out; subst eo58; have hcz59_0 : w55.cell? ⟨gb299, 0, none⟩ = some (.slice none 0 0) := (blk_cell BK299.out 0).trans rfl; have hfz59_0 := blk_frozen BK299.out 0))
     refine bodyPost_ret (results_ct rfl _ _ gb299 102 #[.slice Ao58 x304000_1.length co58] (0, 0) _ rfl (bq_ BK299) Try.underlying102 rfl (by kernel_rfl)) rfl ?_
     exact ⟨_, au3_0, by (with_reducible repeat (first | apply Kd.R_alloc | apply Kd.R_drewN | apply Kd.R_drew)); exact Kd.R_mono (Kd.R_far (p := ⟨gb299, 0, none⟩) (Kd.R_types HO_304000.out BK299.out (by decide)) (fun _ hk => hk.2) (.slice Ao58 x304000_1.length co58)) (fun _ hk => trivial), bl_⟩
    replace H := iln_ H; rcases H with ⟨LMc42, H⟩
    obtain ⟨y309, hy309⟩ : ∃ y_ : List ByteArray, y_ = (x304000_1 ++ [t306]) := ⟨_, rfl⟩
    replace H : (F88.l0 k1 a2 t300 (wrap64 (x10_1 + (wrap64 (((rdOf ByteArray.empty t300 x29_1).size : Int) + 1)))) t300 (t300.length : Int) (wrap64 (x29_1 + 1)) a0_0 a0_1 a0_2 a0_3 y309) = some (r1, r2) := by first | (rw [hy309]; exact H) | exact H
    have Ny309 := am_ hy309
    clear hy309
    have H' := am_ H
    clear H
    have p305 : 0 ≤ (x29_1 : Int) := od_
    have q305 : x29_1 < (t300.length : Int) := od_
    obtain ⟨ad305, e305, hx305_0⟩ := Kd.at_string (Kd.R_reads' HO_27.out).2.2 x29_1 p305 q305
    cases e305
    replace p305 := eq_true p305
    replace q305 := eq_true q305
    have hnb43 := NB298_299.out
    have hnc43 := NB299_298.out
    have hnb44 := NB298_303.out
    have hnc44 := NB303_298.out
    obtain ⟨hcz45_0, hcz45_1, hcz45_2, hcz45_3, hfz45_0, hfz45_1, hfz45_2, hfz45_3⟩ := cellsF4 BK298.out
    go_wp2_with (first | (go_at_call 63; (with_reducible refine (F63.calls k1 a0_0 a0_1 a0_2 a0_3 (rdOf ByteArray.empty t300 x29_1) t306 t307 _ A30.out).mono ?_); rintro e w46 ⟨rfl, hb⟩; (try clear A30); replace HO_8 := am_ (Kd.R_below (rk_ HO_8) hb); replace HO_27 := am_ (Kd.R_below (rk_ HO_27) hb); replace HO_304000 := am_ (Kd.R_below (rk_ HO_304000) hb); replace BK298 := bb_ BK298 hb; replace BK299 := bb_ BK299 hb; replace BK303 := bb_ BK303 hb; replace HB := hs_ w hb; (try clear hb)) | (go_at_call 82; (with_reducible refine (F82.calls k1 t306 true _ A40.out).mono ?_); rintro e w' ⟨rfl, ⟨nd, rfl⟩⟩; (try clear A40); (try (rw [drewN_self w46]; generalize hq_ : World.drewN w46 _ = w46; have n0_ : Aside0 (Kd.R Kd.string 9 w46 w.heap.size (fun k_ => some k_ ≠ (u304000 : Value).ownBlock) (.slice (some ad305) t300.length co26) t300) := ⟨by rw [← hq_]; exact (rk_ HO_27)⟩; have n1_ : Aside0 (Kd.R Kd.string 9 w46 w.heap.size (fun k_ => some k_ ≠ (.slice (some ad305) t300.length co26 : Value).ownBlock ∧ some k_ ≠ (.slice (some ad305) t300.length co26 : Value).ownBlock) u304000 x304000_1) := ⟨au3_18⟩; have n2_ : Aside0 (Kd.R Kd.string 9 w46 w.heap.size (fun k_ => some k_ ≠ (u304000 : Value).ownBlock) (.slice (some ad305) t300.length co26) t300) := ⟨by rw [← hq_]; exact (rk_ HO_8)⟩; have n3_ : Aside0 (w46.heap[gb298]? = some (.cells #[.int .i64 a0_0, .int .i64 a0_1, .int .i64 a0_2, .int .i64 a0_3] 23 (0, 0))) := ⟨by rw [← hq_]; exact (bk_ BK298)⟩; have n4_ : Aside0 (w46.heap[gb299]? = some (.cells #[.slice none 0 0] 102 (0, 0))) := ⟨by rw [← hq_]; exact (bk_ BK299)⟩; have n5_ : Aside0 (w46.heap[gb303]? = some (.cells #[u304000] 102 (0, 0))) := ⟨by rw [← hq_]; exact (bk_ BK303)⟩; have n6_ : Aside0 (Below w.heap.size w w46) := ⟨by rw [← hq_]; exact bl_⟩; clear HO_27 HO_304000 HO_8 BK298 BK299 BK303 HB hq_; have HO_27 := n0_; have HO_304000 := n1_; have HO_8 := n2_; have BK298 := n3_; have BK299 := n4_; have BK303 := n5_; have HB := n6_; clear n0_ n1_ n2_ n3_ n4_ n5_ n6_)); have hnb47 := NB303_299.out; have hnc47 := NB299_303.out; have hcz48_0 : w46.cell? ⟨gb303, 0, none⟩ = some (u304000) := (blk_cell BK303.out 0).trans rfl; have hfz48_0 := blk_frozen BK303.out 0) | ((with_reducible refine gate_builtin (b := .append) (xs := #[.tmp 51, .tmp 53]) rfl ?_); (try (refine gate_guard (by rfl) ?_; dsimp only)); at_builtin; refine Kd.R_append Kd.string (w0 := w) w.heap.size rfl (.tmp 51) (.tmp 53) 41 9 (.string ⟨#[]⟩) 16 rfl Try.underlying41 info9 rfl (by decide) (by omega) u304000 x304000_1 t306 [.string t306] (fun k_ => some k_ ≠ (.slice (some ad305) t300.length co26 : Value).ownBlock ∧ some k_ ≠ (.slice (some ad305) t300.length co26 : Value).ownBlock) (fun _ => False) rfl rfl ?aP (fun _ hk => hk.elim) ?aF ?aO ?aB ?aS ?aL ?_; (case aP => exact rfl); (case aB => exact bl_); (case aF => exact (fun k_ hk => ⟨Kd.fresh' (Kd.R_lt (rk_ HO_8)) k_ hk, Kd.fresh' (Kd.R_lt (rk_ HO_27)) k_ hk⟩)); (case aO => exact (rk_ HO_304000)); (case aS => exact (below_size bl_)); (case aL => have := LMc42.out; omega); intro v310 w49 ho hb hg hat; rw [← Ny309.out] at ho; have n0_ := am_ (Kd.R_after (ok := (fun _ => True)) (by (with_reducible repeat (first | apply Kd.R_alloc | apply Kd.R_drewN | apply Kd.R_drew)); exact Kd.R_mono HO_8.out (fun _ hk => ⟨trivial, hk⟩)) hg hat); have n1_ := am_ (Kd.R_after (ok := (fun _ => True)) (by (with_reducible repeat (first | apply Kd.R_alloc | apply Kd.R_drewN | apply Kd.R_drew)); exact Kd.R_mono HO_27.out (fun _ hk => ⟨trivial, hk⟩)) hg hat); have n2_ := am_ (bg_ BK298 hg (Kd.R_ne HO_304000.out BK298.out (by decide))); have n3_ := am_ (bg_ BK299 hg (Kd.R_ne HO_304000.out BK299.out (by decide))); have n4_ := am_ (bg_ BK303 hg (Kd.R_ne HO_304000.out BK303.out (by decide))); have n5_ := am_ (hb); have n6_ := am_ (ho); clear HO_8; clear HO_27; clear BK298; clear BK299; clear BK303; clear HB; clear HO_304000; have HO_8 := n0_; have HO_27 := n1_; have BK298 := n2_; have BK299 := n3_; have BK303 := n4_; have HB := n5_; have HO311 := n6_; clear n0_ n1_ n2_ n3_ n4_ n5_ n6_; clear ho hb hg hat; obtain ⟨Ao50, co50, eo50⟩ := Kd.R_slice HO311.out; subst eo50; have hcz51_0 : w49.cell? ⟨gb303, 0, none⟩ = some (u304000) := (blk_cell BK303.out 0).trans rfl; have hfz51_0 := blk_frozen BK303.out 0))
    go_roundg k1
    case measure => have := HK1.out; omega
    case rel => exact ⟨(wrap64 (x10_1 + (wrap64 (((rdOf ByteArray.empty t300 x29_1).size : Int) + 1)))), (wrap64 (x29_1 + 1)), (y309), (.slice Ao50 y309.length co50), er_, er_, H', ⟨by have := HK1.out; omega⟩, ⟨by (with_reducible repeat (first | apply Kd.R_alloc | apply Kd.R_drewN | apply Kd.R_drew)); exact Kd.R_mono (Kd.R_far (p := ⟨gb303, 0, none⟩) (Kd.R_types HO_8.out BK303.out (by decide)) (fun _ hk => hk.2) (.slice Ao50 y309.length co50)) (fun _ hk => hk.1.2)⟩, ⟨by (with_reducible repeat (first | apply Kd.R_alloc | apply Kd.R_drewN | apply Kd.R_drew)); exact Kd.R_mono (Kd.R_far (p := ⟨gb303, 0, none⟩) (Kd.R_types HO_27.out BK303.out (by decide)) (fun _ hk => hk.2) (.slice Ao50 y309.length co50)) (fun _ hk => hk.1.2)⟩, ⟨by (with_reducible repeat (first | apply Kd.R_alloc | apply Kd.R_drewN | apply Kd.R_drew)); exact Kd.R_mono (Kd.R_far (p := ⟨gb303, 0, none⟩) (Kd.R_types HO311.out BK303.out (by decide)) (fun _ hk => hk.2) (.slice Ao50 y309.length co50)) (fun _ hk => ⟨hk.1.1, hk.1.2⟩)⟩, ⟨bf_ BK298⟩, ⟨bf_ BK299⟩, ⟨bq_ BK303⟩, ⟨bl_⟩⟩
   replace H := it_ H; rcases H with ⟨(c60b0 : decide (1 < (t300.length : Int)) = true), H⟩ | ⟨(c60b0 : decide (1 < (t300.length : Int)) = false), H⟩
   rotate_left
   ·have c60b1 : decide (1 < t300.length) = false := n2_ c60b0
    simp only [Option.some.injEq, Prod.mk.injEq] at H
    obtain ⟨rfl, rfl⟩ := H
    have hnb77 := NB303_298.out
    have hnc77 := NB298_303.out
    have hnb78 := NB303_299.out
    have hnc78 := NB299_303.out
    have hcz79_0 : wr.cell? ⟨gb303, 0, none⟩ = some (u304000) := (blk_cell BK303.out 0).trans rfl
    have hfz79_0 := blk_frozen BK303.out 0
    obtain ⟨Ao80, co80, eo80⟩ := Kd.R_slice HO_304000.out
    subst eo80
    have hnb81 := NB299_298.out
    have hnc81 := NB298_299.out
    have hcz82_0 : wr.cell? ⟨gb299, 0, none⟩ = some (.slice none 0 0) := (blk_cell BK299.out 0).trans rfl
    have hfz82_0 := blk_frozen BK299.out 0
    go_wp2
    refine bodyPost_ret (results_ct rfl _ _ gb299 102 #[.slice Ao80 x304000_1.length co80] (0, 0) _ rfl (bq_ BK299) Try.underlying102 rfl (by kernel_rfl)) rfl ?_
    exact ⟨_, au3_0, by (with_reducible repeat (first | apply Kd.R_alloc | apply Kd.R_drewN | apply Kd.R_drew)); exact Kd.R_mono (Kd.R_far (p := ⟨gb299, 0, none⟩) (Kd.R_types HO_304000.out BK299.out (by decide)) (fun _ hk => hk.2) (.slice Ao80 x304000_1.length co80)) (fun _ hk => trivial), bl_⟩

   have c60b1 : decide (1 < t300.length) = true := n2_ c60b0
   obtain ⟨ji61, hji61⟩ : ∃ j_ : Int, (wrap64 ((t300.length : Int) - 1)) = j_ := ⟨_, rfl⟩
   replace H : (if 0 ≤ (ji61) then (if (ji61) < (x304000_1.length : Int) then (if (rdOf ByteArray.empty x304000_1 (ji61)).toList = ([] : List UInt8) then (some (x304000_1, a2)) else (some (x304000_1, (-1)))) else (none)) else (none)) = some (r1, r2) := by first | (rw [hji61] at H; exact H) | (simp only [hji61] at H ⊢; exact H)
   have hji61w : (IntKind.i64.wrap ((t300.length : Int) - 1)) = ji61 := (i64_w _).trans hji61
   replace H := itn_ H; rcases H with ⟨c62b0, H⟩
   replace H := itn_ H; rcases H with ⟨c63b0, H⟩
   by_cases c64 : (rdOf ByteArray.empty x304000_1 (ji61)).toList = ([] : List UInt8)
   rotate_left
   ·rw [if_neg c64] at H
    have c64b0 : ((rdOf ByteArray.empty x304000_1 (ji61)).toList == ([] : List UInt8)) = false := beq_eq_false_iff_ne.mpr c64
    have c64b1 : ((rdOf ByteArray.empty x304000_1 (ji61)).toList != ([] : List UInt8)) = true := bne_iff_ne.mpr c64
    simp only [Option.some.injEq, Prod.mk.injEq] at H
    obtain ⟨rfl, rfl⟩ := H
    have hnb71 := NB303_298.out
    have hnc71 := NB298_303.out
    have hnb72 := NB303_299.out
    have hnc72 := NB299_303.out
    have hcz73_0 : wr.cell? ⟨gb303, 0, none⟩ = some (u304000) := (blk_cell BK303.out 0).trans rfl
    have hfz73_0 := blk_frozen BK303.out 0
    obtain ⟨Ao74, co74, eo74⟩ := Kd.R_slice HO_304000.out
    subst eo74
    have p304 : 0 ≤ ((ji61) : Int) := od_
    have q304 : (ji61) < (x304000_1.length : Int) := od_
    obtain ⟨ad304, e304, hx304_0⟩ := Kd.at_string (Kd.R_reads' HO_304000.out).2.2 (ji61) p304 q304
    cases e304
    replace p304 := eq_true p304
    replace q304 := eq_true q304
    have hnb75 := NB299_298.out
    have hnc75 := NB298_299.out
    have hcz76_0 : wr.cell? ⟨gb299, 0, none⟩ = some (.slice none 0 0) := (blk_cell BK299.out 0).trans rfl
    have hfz76_0 := blk_frozen BK299.out 0
    go_wp2
    refine bodyPost_ret (results_ct rfl _ _ gb299 102 #[.slice (some ad304) x304000_1.length co74] (0, 0) _ rfl (bq_ BK299) Try.underlying102 rfl (by kernel_rfl)) rfl ?_
    exact ⟨_, au3_17, by (with_reducible repeat (first | apply Kd.R_alloc | apply Kd.R_drewN | apply Kd.R_drew)); exact Kd.R_mono (Kd.R_far (p := ⟨gb299, 0, none⟩) (Kd.R_types HO_304000.out BK299.out (by decide)) (fun _ hk => hk.2) (.slice (some ad304) x304000_1.length co74)) (fun _ hk => trivial), bl_⟩
   rw [if_pos c64] at H
   have c64b0 : ((rdOf ByteArray.empty x304000_1 (ji61)).toList == ([] : List UInt8)) = true := beq_iff_eq.mpr c64
   have c64b1 : ((rdOf ByteArray.empty x304000_1 (ji61)).toList != ([] : List UInt8)) = false := bne_eq_false_iff_eq.mpr c64
   clear c64
   simp only [Option.some.injEq, Prod.mk.injEq] at H
   obtain ⟨rfl, rfl⟩ := H
   have hnb65 := NB303_298.out
   have hnc65 := NB298_303.out
   have hnb66 := NB303_299.out
   have hnc66 := NB299_303.out
   have hcz67_0 : wr.cell? ⟨gb303, 0, none⟩ = some (u304000) := (blk_cell BK303.out 0).trans rfl
   have hfz67_0 := blk_frozen BK303.out 0
   obtain ⟨Ao68, co68, eo68⟩ := Kd.R_slice HO_304000.out
   subst eo68
   have p304 : 0 ≤ ((ji61) : Int) := od_
   have q304 : (ji61) < (x304000_1.length : Int) := od_
   obtain ⟨ad304, e304, hx304_0⟩ := Kd.at_string (Kd.R_reads' HO_304000.out).2.2 (ji61) p304 q304
   cases e304
   replace p304 := eq_true p304
   replace q304 := eq_true q304
   have hnb69 := NB299_298.out
   have hnc69 := NB298_299.out
   have hcz70_0 : wr.cell? ⟨gb299, 0, none⟩ = some (.slice none 0 0) := (blk_cell BK299.out 0).trans rfl
   have hfz70_0 := blk_frozen BK299.out 0
   go_wp2
   refine bodyPost_ret (results_ct rfl _ _ gb299 102 #[.slice (some ad304) x304000_1.length co68] (0, 0) _ rfl (bq_ BK299) Try.underlying102 rfl (by kernel_rfl)) rfl ?_
   exact ⟨_, au3_17, by (with_reducible repeat (first | apply Kd.R_alloc | apply Kd.R_drewN | apply Kd.R_drew)); exact Kd.R_mono (Kd.R_far (p := ⟨gb299, 0, none⟩) (Kd.R_types HO_304000.out BK299.out (by decide)) (fun _ hk => hk.2) (.slice (some ad304) x304000_1.length co68)) (fun _ hk => trivial), bl_⟩
/-! ### F41: function 41 -/
mutual
def F41.l0 : Nat → List ByteArray → List ByteArray → Int → List ByteArray → Int → Int → Int → Int → Int → Int → ByteArray → List (S102) → Option (ByteArray × (List (S102)) × Int × Int × Int)
  | 0, _, _, _, _, _, _, _, _, _, _, _, _ => none
  | k + 1, x5, x6, x8, x57, x58, x59, x313000, x313001, x313002, x313003, x328000, x328001 => if x59 < x58 then (if 0 ≤ x59 then (if x59 < (x57.length : Int) then (if x59 = 10 then (some ((⟨#[]⟩ : ByteArray), ([] : List (S102)), 0, x8, 3)) else ((F88.f k x313000 x313001 x313002 x313003 (rdOf ByteArray.empty x57 x59) x8).bind fun bt335 => (if bt335.2 < 0 then (if x59 = (wrap64 ((x6.length : Int) - 2)) then (if (bt335.1.length : Int) = 1 then (if 0 < (bt335.1.length : Int) then (F41.j1 k x5 x6 x8 (rdOf ByteArray.empty x57 x59) bt335.2 x57 x58 x59 ((rdOf ByteArray.empty bt335.1 0).toList == ([] : List UInt8)) x313000 x313001 x313002 x313003 x328000 x328001 bt335.1) else (none)) else (F41.j1 k x5 x6 x8 (rdOf ByteArray.empty x57 x59) bt335.2 x57 x58 x59 false x313000 x313001 x313002 x313003 x328000 x328001 bt335.1)) else (F41.j1 k x5 x6 x8 (rdOf ByteArray.empty x57 x59) bt335.2 x57 x58 x59 false x313000 x313001 x313002 x313003 x328000 x328001 bt335.1)) else (F41.j1 k x5 x6 x8 (rdOf ByteArray.empty x57 x59) bt335.2 x57 x58 x59 false x313000 x313001 x313002 x313003 x328000 x328001 bt335.1)))) else (none)) else (none)) else (if 0 < (x5.length : Int) then (some (x328000, x328001, wrap64 (((rdOf ByteArray.empty x5 0).size : Int) + 1), 0, 0)) else (none))
def F41.j1 : Nat → List ByteArray → List ByteArray → Int → ByteArray → Int → List ByteArray → Int → Int → Bool → Int → Int → Int → Int → ByteArray → List (S102) → List ByteArray → Option (ByteArray × (List (S102)) × Int × Int × Int)
  | 0, _, _, _, _, _, _, _, _, _, _, _, _, _, _, _, _ => none
  | k + 1, x5, x6, x8, x10, x12, x57, x58, x59, x96, x313000, x313001, x313002, x313003, x328000, x328001, x340000 => if x96 = true then (if x8 ≥ 0 then (some ((⟨#[]⟩ : ByteArray), ([] : List (S102)), 0, x8, 3)) else (if x328001.length < 5864062014805 then (F41.l0 k x5 x6 (wrap64 (x8 + (wrap64 ((x10.size : Int) + 1)))) x57 x58 (wrap64 (x59 + 1)) x313000 x313001 x313002 x313003 x328000 (x328001 ++ [(⟨x340000⟩ : S102)])) else (none))) else (if x12 ≥ 0 then (some ((⟨#[]⟩ : ByteArray), ([] : List (S102)), 0, x12, 3)) else (if x328001.length < 5864062014805 then (F41.l0 k x5 x6 (wrap64 (x8 + (wrap64 ((x10.size : Int) + 1)))) x57 x58 (wrap64 (x59 + 1)) x313000 x313001 x313002 x313003 x328000 (x328001 ++ [(⟨x340000⟩ : S102)])) else (none)))
end
def F41.f (k : Nat) (a0_0 : Int) (a0_1 : Int) (a0_2 : Int) (a0_3 : Int) (a1 : ByteArray) : Option (ByteArray × (List (S102)) × Int × Int × Int) := (F58.f k (([a1] : List ByteArray))).bind fun t317 => (if t317 = true then (some ((⟨#[]⟩ : ByteArray), ([] : List (S102)), 0, 0, 2)) else ((F60.f k a0_0 a0_1 a0_2 a0_3).bind fun t318 => (if t318 = true then (if a1.toList = ([] : List UInt8) then (some ((⟨#[]⟩ : ByteArray), ([] : List (S102)), 0, 0, 6)) else ((F69.f k a0_0 a0_1 a0_2 a0_3 a1 a0_0).bind fun t319 => (if (t319.length : Int) < 2 then (some ((⟨#[]⟩ : ByteArray), ([] : List (S102)), 0, 0, 4)) else (if 0 < (t319.length : Int) then ((F69.f k a0_0 a0_1 a0_2 a0_3 (rdOf ByteArray.empty t319 0) a0_1).bind fun t323 => (if 0 < (t323.length : Int) then ((F83.f (rdOf ByteArray.empty t323 0)).bind fun t328 => (if t328 = true then (if 1 ≤ (t323.length : Int) then ((some (t323.drop 1 : List ByteArray)).bind fun y329 => (F41.l0 k t319 t323 (wrap64 (((rdOf ByteArray.empty t323 0).size : Int) + 1)) y329 (y329.length : Int) 0 a0_0 a0_1 a0_2 a0_3 (rdOf ByteArray.empty t323 0) ([] : List (S102)))) else (none)) else (some ((⟨#[]⟩ : ByteArray), ([] : List (S102)), 0, 0, 3)))) else (none))) else (none))))) else (some ((⟨#[]⟩ : ByteArray), ([] : List (S102)), 0, 0, 1)))))
theorem F41.mono_l : ∀ k, (∀ y0 y1 y2 y3 y4 y5 y6 y7 y8 y9 y10 y11, LeO (F41.l0 k y0 y1 y2 y3 y4 y5 y6 y7 y8 y9 y10 y11) (F41.l0 (k + 1) y0 y1 y2 y3 y4 y5 y6 y7 y8 y9 y10 y11)) ∧ (∀ y0 y1 y2 y3 y4 y5 y6 y7 y8 y9 y10 y11 y12 y13 y14 y15, LeO (F41.j1 k y0 y1 y2 y3 y4 y5 y6 y7 y8 y9 y10 y11 y12 y13 y14 y15) (F41.j1 (k + 1) y0 y1 y2 y3 y4 y5 y6 y7 y8 y9 y10 y11 y12 y13 y14 y15))
 | 0 => ⟨fun _ _ _ _ _ _ _ _ _ _ _ _ r h => by simp [F41.l0] at h, fun _ _ _ _ _ _ _ _ _ _ _ _ _ _ _ _ r h => by simp [F41.j1] at h⟩
 | k + 1 => by
  obtain ⟨ih0, ih1⟩ := F41.mono_l k
  refine ⟨?_, ?_⟩
  rotate_left
  ·intro y0 y1 y2 y3 y4 y5 y6 y7 y8 y9 y10 y11 y12 y13 y14 y15
   unfold F41.j1
   repeat' with_reducible first | exact ih0 _ _ _ _ _ _ _ _ _ _ _ _ | exact ih1 _ _ _ _ _ _ _ _ _ _ _ _ _ _ _ _ | exact F60.mono _ _ _ _ _ | exact F69.mono _ _ _ _ _ _ _ | exact F88.mono _ _ _ _ _ _ _ | exact F58.mono _ _ | exact LeO.refl _ | exact LeO.none _ | refine LeO.ite ?_ ?_ | refine LeO.bind ?_ (fun _ => ?_)
  intro y0 y1 y2 y3 y4 y5 y6 y7 y8 y9 y10 y11
  unfold F41.l0
  repeat' with_reducible first | exact ih0 _ _ _ _ _ _ _ _ _ _ _ _ | exact ih1 _ _ _ _ _ _ _ _ _ _ _ _ _ _ _ _ | exact F60.mono _ _ _ _ _ | exact F69.mono _ _ _ _ _ _ _ | exact F88.mono _ _ _ _ _ _ _ | exact F58.mono _ _ | exact LeO.refl _ | exact LeO.none _ | refine LeO.ite ?_ ?_ | refine LeO.bind ?_ (fun _ => ?_)
theorem F41.mono : ∀ a0 a1 a2 a3 a4 k, LeO (F41.f k a0 a1 a2 a3 a4) (F41.f (k + 1) a0 a1 a2 a3 a4) := by
 intro a0 a1 a2 a3 a4 k
 obtain ⟨ih0, ih1⟩ := F41.mono_l k
 unfold F41.f
 repeat' with_reducible first | exact ih0 _ _ _ _ _ _ _ _ _ _ _ _ | exact ih1 _ _ _ _ _ _ _ _ _ _ _ _ _ _ _ _ | exact F60.mono _ _ _ _ _ | exact F69.mono _ _ _ _ _ _ _ | exact F88.mono _ _ _ _ _ _ _ | exact F58.mono _ _ | exact LeO.refl _ | exact LeO.none _ | refine LeO.ite ?_ ?_ | refine LeO.bind ?_ (fun _ => ?_)
def F41.T10 : Bool × List (List Nat × List Nat) := (true, [([], []), ([], []), ([1], [1]), ([2], [2]), ([], []), ([4], [4]), ([0, 3, 5], [0, 3, 5]), ([6, 6, 0, 1, 2, 3, 4, 5, 6], [6])])
def F41.B10 : List Nat := [0, 0, 2, 6, 0, 16, 63, 127]
theorem F41.tab10 : rtab .any (opsOf Try.f41 10) = F41.T10 := by kernel_rfl
theorem F41.bits10 : waitsOk F41.T10.2 F41.B10 = true := by kernel_rfl
def F41.T28 : Bool × List (List Nat × List Nat) := (true, [([], []), ([], []), ([1], [1]), ([2], [2]), ([3], [3]), ([4], [4]), ([0, 5], [0, 5]), ([6, 0, 1, 2, 3, 4, 5, 6], [6])])
def F41.B28 : List Nat := [0, 0, 2, 6, 14, 30, 63, 127]
theorem F41.tab28 : rtab .any (opsOf Try.f41 28) = F41.T28 := by kernel_rfl
theorem F41.bits28 : waitsOk F41.T28.2 F41.B28 = true := by kernel_rfl
theorem F41.calls (k : Nat) (a0_0 : Int) (a0_1 : Int) (a0_2 : Int) (a0_3 : Int) (a1 : ByteArray) (r1 : ByteArray) (r2 : List (S102)) (r3 : Int) (r4 : Int) (r5 : Int) (w : World) (h : F41.f k a0_0 a0_1 a0_2 a0_3 a1 = some (r1, r2, r3, r4, r5)) :
  Calls Try.prog 41 #[.agg #[.int .i64 a0_0, .int .i64 a0_1, .int .i64 a0_2, .int .i64 a0_3], .string a1] w fun e w' => ∃ v1_ : Value, e = .returned (.agg #[.string r1, v1_, .int .i64 r3, .int .i64 r4, .int .i64 r5]) ∧ Kd.S k102 102 w' w.heap.size (fun _ => True) v1_ r2 ∧ Below w.heap.size w w' := by
 have hu23 := Try.underlying23
 have hu66 := Try.underlying66
 have hu59 := Try.underlying59
 have hu102 := Try.underlying102
 have HB := am_ (Below.refl w.heap.size w)
 have H : ((F58.f k (([a1] : List ByteArray))).bind fun t317 => (if t317 = true then (some ((⟨#[]⟩ : ByteArray), ([] : List (S102)), 0, 0, 2)) else ((F60.f k a0_0 a0_1 a0_2 a0_3).bind fun t318 => (if t318 = true then (if a1.toList = ([] : List UInt8) then (some ((⟨#[]⟩ : ByteArray), ([] : List (S102)), 0, 0, 6)) else ((F69.f k a0_0 a0_1 a0_2 a0_3 a1 a0_0).bind fun t319 => (if (t319.length : Int) < 2 then (some ((⟨#[]⟩ : ByteArray), ([] : List (S102)), 0, 0, 4)) else (if 0 < (t319.length : Int) then ((F69.f k a0_0 a0_1 a0_2 a0_3 (rdOf ByteArray.empty t319 0) a0_1).bind fun t323 => (if 0 < (t323.length : Int) then ((F83.f (rdOf ByteArray.empty t323 0)).bind fun t328 => (if t328 = true then (if 1 ≤ (t323.length : Int) then ((some (t323.drop 1 : List ByteArray)).bind fun y329 => (F41.l0 k t319 t323 (wrap64 (((rdOf ByteArray.empty t323 0).size : Int) + 1)) y329 (y329.length : Int) 0 a0_0 a0_1 a0_2 a0_3 (rdOf ByteArray.empty t323 0) ([] : List (S102)))) else (none)) else (some ((⟨#[]⟩ : ByteArray), ([] : List (S102)), 0, 0, 3)))) else (none))) else (none))))) else (some ((⟨#[]⟩ : ByteArray), ([] : List (S102)), 0, 0, 1)))))) = some (r1, r2, r3, r4, r5) := h
 clear h
 obtain ⟨y314, hy314⟩ : ∃ y_ : List ByteArray, y_ = (([a1] : List ByteArray)) := ⟨_, rfl⟩
 replace H : ((F58.f k y314).bind fun t317 => (if t317 = true then (some ((⟨#[]⟩ : ByteArray), ([] : List (S102)), 0, 0, 2)) else ((F60.f k a0_0 a0_1 a0_2 a0_3).bind fun t318 => (if t318 = true then (if a1.toList = ([] : List UInt8) then (some ((⟨#[]⟩ : ByteArray), ([] : List (S102)), 0, 0, 6)) else ((F69.f k a0_0 a0_1 a0_2 a0_3 a1 a0_0).bind fun t319 => (if (t319.length : Int) < 2 then (some ((⟨#[]⟩ : ByteArray), ([] : List (S102)), 0, 0, 4)) else (if 0 < (t319.length : Int) then ((F69.f k a0_0 a0_1 a0_2 a0_3 (rdOf ByteArray.empty t319 0) a0_1).bind fun t323 => (if 0 < (t323.length : Int) then ((F83.f (rdOf ByteArray.empty t323 0)).bind fun t328 => (if t328 = true then (if 1 ≤ (t323.length : Int) then ((some (t323.drop 1 : List ByteArray)).bind fun y329 => (F41.l0 k t319 t323 (wrap64 (((rdOf ByteArray.empty t323 0).size : Int) + 1)) y329 (y329.length : Int) 0 a0_0 a0_1 a0_2 a0_3 (rdOf ByteArray.empty t323 0) ([] : List (S102)))) else (none)) else (some ((⟨#[]⟩ : ByteArray), ([] : List (S102)), 0, 0, 3)))) else (none))) else (none))))) else (some ((⟨#[]⟩ : ByteArray), ([] : List (S102)), 0, 0, 1)))))) = some (r1, r2, r3, r4, r5) := by first | (rw [hy314]; exact H) | exact H
 have Ny314 := am_ hy314
 clear hy314
 replace H := bi_ H; rcases H with ⟨t317, A3, H⟩
 replace H := ib_ H; rcases H with ⟨rfl, H⟩ | ⟨rfl, H⟩
 ·simp only [Option.some.injEq, Prod.mk.injEq] at H
  obtain ⟨rfl, rfl, rfl, rfl, rfl⟩ := H
  go_enter Try.func41, Try.ntmps41
  go_wp2_with (first | ((with_reducible refine gate_dst (N := 2) rfl ?_); (try (refine gate_guard (by rfl) ?_; dsimp only)); refine be_ 2 #[.int .i64 a0_0, .int .i64 a0_1, .int .i64 a0_2, .int .i64 a0_3] 23 ?_; intro gb312 hg w5 hbox hb; have BK312 := am_ (hbox); have GW312 := am_ (gw_ hg bl_); have GE312 := GW312; replace HB := hs_ w hb; clear hb hbox hg) | ((with_reducible refine gate_dst (N := 4) rfl ?_); (try (refine gate_guard (by rfl) ?_; dsimp only)); refine be_ 4 #[.string (⟨#[]⟩ : ByteArray), .slice none 0 0, .int .i64 0, .int .i64 0, .int .i64 0] 66 ?_; intro gb313 hg w6 hbox hb; have BK313 := am_ (hbox); have GW313 := am_ (gw_ hg bl_); have GE313 := GW313; replace HB := hs_ w hb; have NB312_313 := am_ (gn_ hg (blkl_ BK312)); have NB313_312 := am_ (gm_ hg (blkl_ BK312)); replace BK312 := bb_ BK312 hb; clear hb hbox hg) | ((with_reducible refine gate_dst (N := 15) rfl ?_); (try (refine gate_guard (by rfl) ?_; dsimp only)); refine Kd.R_lit Kd.string _ 9 ?hg (N := 15) ?hd (xs := ([a1] : List ByteArray)) (inner := [.string a1]) (ok := fun _ => True) (okp := fun _ => True) ?hr ?hp (fun _ hk => hk) trivial (Below.refl _ _) (Nat.le_refl _) (by simp) ?_; (case hd => rfl); (case hg => rfl); (case hr => exact hr_); (case hp => exact au3_10); intro v315 w7 ho8 hb hg_ hnew_; clear hg_ hnew_; (first | rw [← Ny314.out] at ho8 | (simp only [Int.reduceToNat] at ho8; rw [← Ny314.out] at ho8)); have HO316 := am_ (Kd.R_lower ho8 (below_size bl_)); replace BK312 := bb_ BK312 hb; replace BK313 := bb_ BK313 hb; replace HB := hs_ w hb; clear hb ho8; obtain ⟨Ao9, co9, eo9⟩ := Kd.R_slice HO316.out; subst eo9) | (go_at_call 58; (with_reducible refine (F58.calls k _ _ y314 true _ ?s1 ?s2 A3.out).mono ?_); (case s1 => exact au3_3); (case s2 => exact au3_22); rintro e w' ⟨rfl, ⟨nd, rfl⟩⟩; (try clear A3); (try (rw [drewN_self w7]; generalize hq_ : World.drewN w7 _ = w7; have n0_ : Aside0 (Kd.R Kd.string 9 w7 w.heap.size (fun _ => True) (.slice Ao9 y314.length co9) y314) := ⟨by rw [← hq_]; exact (rk_ HO316)⟩; have n1_ : Aside0 (w7.heap[gb312]? = some (.cells #[.int .i64 a0_0, .int .i64 a0_1, .int .i64 a0_2, .int .i64 a0_3] 23 (0, 0))) := ⟨by rw [← hq_]; exact (bk_ BK312)⟩; have n2_ : Aside0 (w7.heap[gb313]? = some (.cells #[.string (⟨#[]⟩ : ByteArray), .slice none 0 0, .int .i64 0, .int .i64 0, .int .i64 0] 66 (0, 0))) := ⟨by rw [← hq_]; exact (bk_ BK313)⟩; have n3_ : Aside0 (Below w.heap.size w w7) := ⟨by rw [← hq_]; exact bl_⟩; clear HO316 BK312 BK313 HB hq_; have HO316 := n0_; have BK312 := n1_; have BK313 := n2_; have HB := n3_; clear n0_ n1_ n2_ n3_)); have hnb10 := NB313_312.out; have hnc10 := NB312_313.out; obtain ⟨hcz11_0, hcz11_1, hcz11_2, hcz11_3, hcz11_4, hfz11_0, hfz11_1, hfz11_2, hfz11_3, hfz11_4⟩ := cellsF5 BK313.out))
  refine bodyPost_ret (results_cell_row rfl _ _ gb313 66 #[.string (⟨#[]⟩ : ByteArray), .slice none 0 0, .int .i64 0, .int .i64 0, .int .i64 2] (0, 0) _ rfl (bq_ BK313) Try.underlying66 rfl (by kernel_rfl)) rfl ?_
  exact ⟨_, au3_0, au3_1, bl_⟩
 replace H := bi_ H; rcases H with ⟨t318, A12, H⟩
 replace H := ib_ H; rcases H with ⟨rfl, H⟩ | ⟨rfl, H⟩
 rotate_left
 ·simp only [Option.some.injEq, Prod.mk.injEq] at H
  obtain ⟨rfl, rfl, rfl, rfl, rfl⟩ := H
  go_enter Try.func41, Try.ntmps41
  go_wp2_with (first | ((with_reducible refine gate_dst (N := 2) rfl ?_); (try (refine gate_guard (by rfl) ?_; dsimp only)); refine be_ 2 #[.int .i64 a0_0, .int .i64 a0_1, .int .i64 a0_2, .int .i64 a0_3] 23 ?_; intro gb312 hg w156 hbox hb; have BK312 := am_ (hbox); have GW312 := am_ (gw_ hg bl_); have GE312 := GW312; replace HB := hs_ w hb; clear hb hbox hg) | ((with_reducible refine gate_dst (N := 4) rfl ?_); (try (refine gate_guard (by rfl) ?_; dsimp only)); refine be_ 4 #[.string (⟨#[]⟩ : ByteArray), .slice none 0 0, .int .i64 0, .int .i64 0, .int .i64 0] 66 ?_; intro gb313 hg w157 hbox hb; have BK313 := am_ (hbox); have GW313 := am_ (gw_ hg bl_); have GE313 := GW313; replace HB := hs_ w hb; have NB312_313 := am_ (gn_ hg (blkl_ BK312)); have NB313_312 := am_ (gm_ hg (blkl_ BK312)); replace BK312 := bb_ BK312 hb; clear hb hbox hg) | ((with_reducible refine gate_dst (N := 15) rfl ?_); (try (refine gate_guard (by rfl) ?_; dsimp only)); refine Kd.R_lit Kd.string _ 9 ?hg (N := 15) ?hd (xs := ([a1] : List ByteArray)) (inner := [.string a1]) (ok := fun _ => True) (okp := fun _ => True) ?hr ?hp (fun _ hk => hk) trivial (Below.refl _ _) (Nat.le_refl _) (by simp) ?_; (case hd => rfl); (case hg => rfl); (case hr => exact hr_); (case hp => exact au3_10); intro v315 w158 ho159 hb hg_ hnew_; clear hg_ hnew_; (first | rw [← Ny314.out] at ho159 | (simp only [Int.reduceToNat] at ho159; rw [← Ny314.out] at ho159)); have HO316 := am_ (Kd.R_lower ho159 (below_size bl_)); replace BK312 := bb_ BK312 hb; replace BK313 := bb_ BK313 hb; replace HB := hs_ w hb; clear hb ho159; obtain ⟨Ao160, co160, eo160⟩ := Kd.R_slice HO316.out; subst eo160) | (go_at_call 58; (with_reducible refine (F58.calls k _ _ y314 false _ ?s1 ?s2 A3.out).mono ?_); (case s1 => exact au3_3); (case s2 => exact au3_22); rintro e w' ⟨rfl, ⟨nd, rfl⟩⟩; (try clear A3); (try (rw [drewN_self w158]; generalize hq_ : World.drewN w158 _ = w158; have n0_ : Aside0 (Kd.R Kd.string 9 w158 w.heap.size (fun _ => True) (.slice Ao160 y314.length co160) y314) := ⟨by rw [← hq_]; exact (rk_ HO316)⟩; have n1_ : Aside0 (w158.heap[gb312]? = some (.cells #[.int .i64 a0_0, .int .i64 a0_1, .int .i64 a0_2, .int .i64 a0_3] 23 (0, 0))) := ⟨by rw [← hq_]; exact (bk_ BK312)⟩; have n2_ : Aside0 (w158.heap[gb313]? = some (.cells #[.string (⟨#[]⟩ : ByteArray), .slice none 0 0, .int .i64 0, .int .i64 0, .int .i64 0] 66 (0, 0))) := ⟨by rw [← hq_]; exact (bk_ BK313)⟩; have n3_ : Aside0 (Below w.heap.size w w158) := ⟨by rw [← hq_]; exact bl_⟩; clear HO316 BK312 BK313 HB hq_; have HO316 := n0_; have BK312 := n1_; have BK313 := n2_; have HB := n3_; clear n0_ n1_ n2_ n3_)); have hnb161 := NB312_313.out; have hnc161 := NB313_312.out; obtain ⟨hcz162_0, hcz162_1, hcz162_2, hcz162_3, hfz162_0, hfz162_1, hfz162_2, hfz162_3⟩ := cellsF4 BK312.out) | (go_at_call 60; (with_reducible refine (F60.calls k a0_0 a0_1 a0_2 a0_3 false _ A12.out).mono ?_); rintro e w163 ⟨rfl, hb⟩; (try clear A12); replace HO316 := am_ (Kd.R_below (rk_ HO316) hb); replace BK312 := bb_ BK312 hb; replace BK313 := bb_ BK313 hb; replace HB := hs_ w hb; (try clear hb); obtain ⟨hcz164_0, hcz164_1, hcz164_2, hcz164_3, hcz164_4, hfz164_0, hfz164_1, hfz164_2, hfz164_3, hfz164_4⟩ := cellsF5 BK313.out))
  refine bodyPost_ret (results_cell_row rfl _ _ gb313 66 #[.string (⟨#[]⟩ : ByteArray), .slice none 0 0, .int .i64 0, .int .i64 0, .int .i64 1] (0, 0) _ rfl (bq_ BK313) Try.underlying66 rfl (by kernel_rfl)) rfl ?_
  exact ⟨_, au3_0, au3_1, bl_⟩
 by_cases c14 : a1.toList = ([] : List UInt8)
 ·rw [if_pos c14] at H
  have c14b0 : (a1.toList == ([] : List UInt8)) = true := beq_iff_eq.mpr c14
  have c14b1 : (a1.toList != ([] : List UInt8)) = false := bne_eq_false_iff_eq.mpr c14
  clear c14
  simp only [Option.some.injEq, Prod.mk.injEq] at H
  obtain ⟨rfl, rfl, rfl, rfl, rfl⟩ := H
  go_enter Try.func41, Try.ntmps41
  go_wp2_with (first | ((with_reducible refine gate_dst (N := 2) rfl ?_); (try (refine gate_guard (by rfl) ?_; dsimp only)); refine be_ 2 #[.int .i64 a0_0, .int .i64 a0_1, .int .i64 a0_2, .int .i64 a0_3] 23 ?_; intro gb312 hg w15 hbox hb; have BK312 := am_ (hbox); have GW312 := am_ (gw_ hg bl_); have GE312 := GW312; replace HB := hs_ w hb; clear hb hbox hg) | ((with_reducible refine gate_dst (N := 4) rfl ?_); (try (refine gate_guard (by rfl) ?_; dsimp only)); refine be_ 4 #[.string (⟨#[]⟩ : ByteArray), .slice none 0 0, .int .i64 0, .int .i64 0, .int .i64 0] 66 ?_; intro gb313 hg w16 hbox hb; have BK313 := am_ (hbox); have GW313 := am_ (gw_ hg bl_); have GE313 := GW313; replace HB := hs_ w hb; have NB312_313 := am_ (gn_ hg (blkl_ BK312)); have NB313_312 := am_ (gm_ hg (blkl_ BK312)); replace BK312 := bb_ BK312 hb; clear hb hbox hg) | ((with_reducible refine gate_dst (N := 15) rfl ?_); (try (refine gate_guard (by rfl) ?_; dsimp only)); refine Kd.R_lit Kd.string _ 9 ?hg (N := 15) ?hd (xs := ([a1] : List ByteArray)) (inner := [.string a1]) (ok := fun _ => True) (okp := fun _ => True) ?hr ?hp (fun _ hk => hk) trivial (Below.refl _ _) (Nat.le_refl _) (by simp) ?_; (case hd => rfl); (case hg => rfl); (case hr => exact hr_); (case hp => exact au3_10); intro v315 w17 ho18 hb hg_ hnew_; clear hg_ hnew_; (first | rw [← Ny314.out] at ho18 | (simp only [Int.reduceToNat] at ho18; rw [← Ny314.out] at ho18)); have HO316 := am_ (Kd.R_lower ho18 (below_size bl_)); replace BK312 := bb_ BK312 hb; replace BK313 := bb_ BK313 hb; replace HB := hs_ w hb; clear hb ho18; obtain ⟨Ao19, co19, eo19⟩ := Kd.R_slice HO316.out; subst eo19) | (go_at_call 58; (with_reducible refine (F58.calls k _ _ y314 false _ ?s1 ?s2 A3.out).mono ?_); (case s1 => exact au3_3); (case s2 => exact au3_22); rintro e w' ⟨rfl, ⟨nd, rfl⟩⟩; (try clear A3); (try (rw [drewN_self w17]; generalize hq_ : World.drewN w17 _ = w17; have n0_ : Aside0 (Kd.R Kd.string 9 w17 w.heap.size (fun _ => True) (.slice Ao19 y314.length co19) y314) := ⟨by rw [← hq_]; exact (rk_ HO316)⟩; have n1_ : Aside0 (w17.heap[gb312]? = some (.cells #[.int .i64 a0_0, .int .i64 a0_1, .int .i64 a0_2, .int .i64 a0_3] 23 (0, 0))) := ⟨by rw [← hq_]; exact (bk_ BK312)⟩; have n2_ : Aside0 (w17.heap[gb313]? = some (.cells #[.string (⟨#[]⟩ : ByteArray), .slice none 0 0, .int .i64 0, .int .i64 0, .int .i64 0] 66 (0, 0))) := ⟨by rw [← hq_]; exact (bk_ BK313)⟩; have n3_ : Aside0 (Below w.heap.size w w17) := ⟨by rw [← hq_]; exact bl_⟩; clear HO316 BK312 BK313 HB hq_; have HO316 := n0_; have BK312 := n1_; have BK313 := n2_; have HB := n3_; clear n0_ n1_ n2_ n3_)); have hnb20 := NB312_313.out; have hnc20 := NB313_312.out; obtain ⟨hcz21_0, hcz21_1, hcz21_2, hcz21_3, hfz21_0, hfz21_1, hfz21_2, hfz21_3⟩ := cellsF4 BK312.out) | (go_at_call 60; (with_reducible refine (F60.calls k a0_0 a0_1 a0_2 a0_3 true _ A12.out).mono ?_); rintro e w22 ⟨rfl, hb⟩; (try clear A12); replace HO316 := am_ (Kd.R_below (rk_ HO316) hb); replace BK312 := bb_ BK312 hb; replace BK313 := bb_ BK313 hb; replace HB := hs_ w hb; (try clear hb); obtain ⟨hcz23_0, hcz23_1, hcz23_2, hcz23_3, hcz23_4, hfz23_0, hfz23_1, hfz23_2, hfz23_3, hfz23_4⟩ := cellsF5 BK313.out))
  refine bodyPost_ret (results_cell_row rfl _ _ gb313 66 #[.string (⟨#[]⟩ : ByteArray), .slice none 0 0, .int .i64 0, .int .i64 0, .int .i64 6] (0, 0) _ rfl (bq_ BK313) Try.underlying66 rfl (by kernel_rfl)) rfl ?_
  exact ⟨_, au3_0, au3_1, bl_⟩
 rw [if_neg c14] at H
 have c14b0 : (a1.toList == ([] : List UInt8)) = false := beq_eq_false_iff_ne.mpr c14
 have c14b1 : (a1.toList != ([] : List UInt8)) = true := bne_iff_ne.mpr c14
 replace H := bi_ H; rcases H with ⟨t319, A24, H⟩
 replace H := it_ H; rcases H with ⟨c25b0, H⟩ | ⟨c25b0, H⟩
 ·have c25b1 : decide (t319.length < 2) = true := n2_ c25b0
  simp only [Option.some.injEq, Prod.mk.injEq] at H
  obtain ⟨rfl, rfl, rfl, rfl, rfl⟩ := H
  go_enter Try.func41, Try.ntmps41
  go_wp2_with (first | ((with_reducible refine gate_dst (N := 2) rfl ?_); (try (refine gate_guard (by rfl) ?_; dsimp only)); refine be_ 2 #[.int .i64 a0_0, .int .i64 a0_1, .int .i64 a0_2, .int .i64 a0_3] 23 ?_; intro gb312 hg w26 hbox hb; have BK312 := am_ (hbox); have GW312 := am_ (gw_ hg bl_); have GE312 := GW312; replace HB := hs_ w hb; clear hb hbox hg) | ((with_reducible refine gate_dst (N := 4) rfl ?_); (try (refine gate_guard (by rfl) ?_; dsimp only)); refine be_ 4 #[.string (⟨#[]⟩ : ByteArray), .slice none 0 0, .int .i64 0, .int .i64 0, .int .i64 0] 66 ?_; intro gb313 hg w27 hbox hb; have BK313 := am_ (hbox); have GW313 := am_ (gw_ hg bl_); have GE313 := GW313; replace HB := hs_ w hb; have NB312_313 := am_ (gn_ hg (blkl_ BK312)); have NB313_312 := am_ (gm_ hg (blkl_ BK312)); replace BK312 := bb_ BK312 hb; clear hb hbox hg) | ((with_reducible refine gate_dst (N := 15) rfl ?_); (try (refine gate_guard (by rfl) ?_; dsimp only)); refine Kd.R_lit Kd.string _ 9 ?hg (N := 15) ?hd (xs := ([a1] : List ByteArray)) (inner := [.string a1]) (ok := fun _ => True) (okp := fun _ => True) ?hr ?hp (fun _ hk => hk) trivial (Below.refl _ _) (Nat.le_refl _) (by simp) ?_; (case hd => rfl); (case hg => rfl); (case hr => exact hr_); (case hp => exact au3_10); intro v315 w28 ho29 hb hg_ hnew_; clear hg_ hnew_; (first | rw [← Ny314.out] at ho29 | (simp only [Int.reduceToNat] at ho29; rw [← Ny314.out] at ho29)); have HO316 := am_ (Kd.R_lower ho29 (below_size bl_)); replace BK312 := bb_ BK312 hb; replace BK313 := bb_ BK313 hb; replace HB := hs_ w hb; clear hb ho29; obtain ⟨Ao30, co30, eo30⟩ := Kd.R_slice HO316.out; subst eo30) | (go_at_call 58; (with_reducible refine (F58.calls k _ _ y314 false _ ?s1 ?s2 A3.out).mono ?_); (case s1 => exact au3_3); (case s2 => exact au3_22); rintro e w' ⟨rfl, ⟨nd, rfl⟩⟩; (try clear A3); (try (rw [drewN_self w28]; generalize hq_ : World.drewN w28 _ = w28; have n0_ : Aside0 (Kd.R Kd.string 9 w28 w.heap.size (fun _ => True) (.slice Ao30 y314.length co30) y314) := ⟨by rw [← hq_]; exact (rk_ HO316)⟩; have n1_ : Aside0 (w28.heap[gb312]? = some (.cells #[.int .i64 a0_0, .int .i64 a0_1, .int .i64 a0_2, .int .i64 a0_3] 23 (0, 0))) := ⟨by rw [← hq_]; exact (bk_ BK312)⟩; have n2_ : Aside0 (w28.heap[gb313]? = some (.cells #[.string (⟨#[]⟩ : ByteArray), .slice none 0 0, .int .i64 0, .int .i64 0, .int .i64 0] 66 (0, 0))) := ⟨by rw [← hq_]; exact (bk_ BK313)⟩; have n3_ : Aside0 (Below w.heap.size w w28) := ⟨by rw [← hq_]; exact bl_⟩; clear HO316 BK312 BK313 HB hq_; have HO316 := n0_; have BK312 := n1_; have BK313 := n2_; have HB := n3_; clear n0_ n1_ n2_ n3_)); have hnb31 := NB312_313.out; have hnc31 := NB313_312.out; obtain ⟨hcz32_0, hcz32_1, hcz32_2, hcz32_3, hfz32_0, hfz32_1, hfz32_2, hfz32_3⟩ := cellsF4 BK312.out) | (go_at_call 60; (with_reducible refine (F60.calls k a0_0 a0_1 a0_2 a0_3 true _ A12.out).mono ?_); rintro e w33 ⟨rfl, hb⟩; (try clear A12); replace HO316 := am_ (Kd.R_below (rk_ HO316) hb); replace BK312 := bb_ BK312 hb; replace BK313 := bb_ BK313 hb; replace HB := hs_ w hb; (try clear hb); obtain ⟨hcz34_0, hcz34_1, hcz34_2, hcz34_3, hfz34_0, hfz34_1, hfz34_2, hfz34_3⟩ := cellsF4 BK312.out) | (go_at_call 69; (with_reducible refine (F69.calls k a0_0 a0_1 a0_2 a0_3 a1 a0_0 t319 _ A24.out).mono ?_); rintro e w35 ⟨v320, rfl, ho0, hb⟩; (try clear A24); have HO321 := am_ (Kd.R_lower (Kd.R_new' ho0 (Kd.R_lt (rk_ HO316))) (below_size bl_)); replace HO316 := am_ (Kd.R_elder' (rk_ HO316) (Kd.R_base ho0) hb); replace BK312 := bb_ BK312 hb; replace BK313 := bb_ BK313 hb; replace HB := hs_ w hb; (try clear hb); (try clear ho0); obtain ⟨Ao36, co36, eo36⟩ := Kd.R_slice HO321.out; subst eo36; obtain ⟨hcz37_0, hcz37_1, hcz37_2, hcz37_3, hcz37_4, hfz37_0, hfz37_1, hfz37_2, hfz37_3, hfz37_4⟩ := cellsF5 BK313.out))
  refine bodyPost_ret (results_cell_row rfl _ _ gb313 66 #[.string (⟨#[]⟩ : ByteArray), .slice none 0 0, .int .i64 0, .int .i64 0, .int .i64 4] (0, 0) _ rfl (bq_ BK313) Try.underlying66 rfl (by kernel_rfl)) rfl ?_
  exact ⟨_, au3_0, au3_1, bl_⟩
 have c25b1 : decide (t319.length < 2) = false := n2_ c25b0
 replace H := itn_ H; rcases H with ⟨c38b0, H⟩
 have c38b1 : decide (0 < t319.length) = true := n2_ c38b0
 replace H := bi_ H; rcases H with ⟨t323, A39, H⟩
 replace H := itn_ H; rcases H with ⟨c40b0, H⟩
 have c40b1 : decide (0 < t323.length) = true := n2_ c40b0
 replace H := bi_ H; rcases H with ⟨t328, A41, H⟩
 replace H := ib_ H; rcases H with ⟨rfl, H⟩ | ⟨rfl, H⟩
 rotate_left
 ·simp only [Option.some.injEq, Prod.mk.injEq] at H
  obtain ⟨rfl, rfl, rfl, rfl, rfl⟩ := H
  go_enter Try.func41, Try.ntmps41
  try go_wp2_with (first | ((with_reducible refine gate_dst (N := 2) rfl ?_); (try (refine gate_guard (by rfl) ?_; dsimp only)); refine be_ 2 #[.int .i64 a0_0, .int .i64 a0_1, .int .i64 a0_2, .int .i64 a0_3] 23 ?_; intro gb312 hg w137 hbox hb; have BK312 := am_ (hbox); have GW312 := am_ (gw_ hg bl_); have GE312 := GW312; replace HB := hs_ w hb; clear hb hbox hg) | ((with_reducible refine gate_dst (N := 4) rfl ?_); (try (refine gate_guard (by rfl) ?_; dsimp only)); refine be_ 4 #[.string (⟨#[]⟩ : ByteArray), .slice none 0 0, .int .i64 0, .int .i64 0, .int .i64 0] 66 ?_; intro gb313 hg w138 hbox hb; have BK313 := am_ (hbox); have GW313 := am_ (gw_ hg bl_); have GE313 := GW313; replace HB := hs_ w hb; have NB312_313 := am_ (gn_ hg (blkl_ BK312)); have NB313_312 := am_ (gm_ hg (blkl_ BK312)); replace BK312 := bb_ BK312 hb; clear hb hbox hg) | ((with_reducible refine gate_dst (N := 15) rfl ?_); (try (refine gate_guard (by rfl) ?_; dsimp only)); refine Kd.R_lit Kd.string _ 9 ?hg (N := 15) ?hd (xs := ([a1] : List ByteArray)) (inner := [.string a1]) (ok := fun _ => True) (okp := fun _ => True) ?hr ?hp (fun _ hk => hk) trivial (Below.refl _ _) (Nat.le_refl _) (by simp) ?_; (case hd => rfl); (case hg => rfl); (case hr => exact hr_); (case hp => exact au3_10); intro v315 w139 ho140 hb hg_ hnew_; clear hg_ hnew_; (first | rw [← Ny314.out] at ho140 | (simp only [Int.reduceToNat] at ho140; rw [← Ny314.out] at ho140)); have HO316 := am_ (Kd.R_lower ho140 (below_size bl_)); replace BK312 := bb_ BK312 hb; replace BK313 := bb_ BK313 hb; replace HB := hs_ w hb; clear hb ho140; obtain ⟨Ao141, co141, eo141⟩ := Kd.R_slice HO316.out; subst eo141) | (go_at_call 58; (with_reducible refine (F58.calls k _ _ y314 false _ ?s1 ?s2 A3.out).mono ?_); (case s1 => exact au3_3); (case s2 => exact au3_22); rintro e w' ⟨rfl, ⟨nd, rfl⟩⟩; (try clear A3); (try (rw [drewN_self w139]; generalize hq_ : World.drewN w139 _ = w139; have n0_ : Aside0 (Kd.R Kd.string 9 w139 w.heap.size (fun _ => True) (.slice Ao141 y314.length co141) y314) := ⟨by rw [← hq_]; exact (rk_ HO316)⟩; have n1_ : Aside0 (w139.heap[gb312]? = some (.cells #[.int .i64 a0_0, .int .i64 a0_1, .int .i64 a0_2, .int .i64 a0_3] 23 (0, 0))) := ⟨by rw [← hq_]; exact (bk_ BK312)⟩; have n2_ : Aside0 (w139.heap[gb313]? = some (.cells #[.string (⟨#[]⟩ : ByteArray), .slice none 0 0, .int .i64 0, .int .i64 0, .int .i64 0] 66 (0, 0))) := ⟨by rw [← hq_]; exact (bk_ BK313)⟩; have n3_ : Aside0 (Below w.heap.size w w139) := ⟨by rw [← hq_]; exact bl_⟩; clear HO316 BK312 BK313 HB hq_; have HO316 := n0_; have BK312 := n1_; have BK313 := n2_; have HB := n3_; clear n0_ n1_ n2_ n3_)); have hnb142 := NB312_313.out; have hnc142 := NB313_312.out; obtain ⟨hcz143_0, hcz143_1, hcz143_2, hcz143_3, hfz143_0, hfz143_1, hfz143_2, hfz143_3⟩ := cellsF4 BK312.out) | (go_at_call 60; (with_reducible refine (F60.calls k a0_0 a0_1 a0_2 a0_3 true _ A12.out).mono ?_); rintro e w144 ⟨rfl, hb⟩; (try clear A12); replace HO316 := am_ (Kd.R_below (rk_ HO316) hb); replace BK312 := bb_ BK312 hb; replace BK313 := bb_ BK313 hb; replace HB := hs_ w hb; (try clear hb); obtain ⟨hcz145_0, hcz145_1, hcz145_2, hcz145_3, hfz145_0, hfz145_1, hfz145_2, hfz145_3⟩ := cellsF4 BK312.out) | (go_at_call 69; (with_reducible refine (F69.calls k a0_0 a0_1 a0_2 a0_3 a1 a0_0 t319 _ A24.out).mono ?_); rintro e w146 ⟨v320, rfl, ho0, hb⟩; (try clear A24); have HO321 := am_ (Kd.R_lower (Kd.R_new' ho0 (Kd.R_lt (rk_ HO316))) (below_size bl_)); replace HO316 := am_ (Kd.R_elder' (rk_ HO316) (Kd.R_base ho0) hb); replace BK312 := bb_ BK312 hb; replace BK313 := bb_ BK313 hb; replace HB := hs_ w hb; (try clear hb); (try clear ho0); obtain ⟨Ao147, co147, eo147⟩ := Kd.R_slice HO321.out; subst eo147))
  replace HO316 := am_ (Kd.R_drew HO316.out)
  replace HO321 := am_ (Kd.R_drew HO321.out)
  replace BK312 := bd_ BK312
  replace BK313 := bd_ BK313
  replace HB := am_ (below_drew1 HB.out)
  have p322 : 0 ≤ (0 : Int) := (by omega)
  have q322 : 0 < (t319.length : Int) := od_
  obtain ⟨ad322, e322, hx322_0⟩ := Kd.at_string (Kd.R_reads' HO321.out).2.2 0 p322 q322
  cases e322
  have qi322 : (0 < t319.length) = True := eq_true (by omega)
  (try rw [show ((0 : Int)).toNat = 0 from rfl] at hx322_0)
  (try rw [Addr.add_zero'] at hx322_0)
  replace p322 := eq_true p322
  replace q322 := eq_true q322
  refine start_ (n := 8) (S := fun w' => w'.cell? ⟨gb312, 0, none⟩ = some (.int .i64 a0_0) ∧ w'.cell? ⟨gb312, 1, none⟩ = some (.int .i64 a0_1) ∧ w'.cell? ⟨gb312, 2, none⟩ = some (.int .i64 a0_2) ∧ w'.cell? ⟨gb312, 3, none⟩ = some (.int .i64 a0_3) ∧ w'.cell? ad322 = some (.string (rdOf ByteArray.empty t319 0))) (ds := []) (bs 8 0) (by kernel_rfl) rfl rfl ⟨(blk_cell BK312.out 0).trans rfl, (blk_cell BK312.out 1).trans rfl, (blk_cell BK312.out 2).trans rfl, (blk_cell BK312.out 3).trans rfl, hx322_0⟩ (fun hHeld => ?_); refine with_tabW F41.tab10 F41.bits10 (fun HT_ HW_ => ?_)
  generalize w146.drew = w148 at HO316 HO321 BK312 BK313 HB hx322_0 hHeld ⊢
  refine pu_ 1 37 (bs 8 2) HT_ ?_ rfl rfl
  refine pu_ 2 38 (bs 8 6) HT_ ?_ rfl rfl
  refine pu_ 4 40 (bs 8 22) HT_ ?_ rfl rfl
  refine tk_ 0 36 (bs 8 23) HT_ HW_ hHeld au3_12 ?_ rfl rfl
  refine tk_ 3 39 (bs 8 31) HT_ HW_ hHeld au3_12 ?_ rfl rfl
  refine tk_ 5 41 (bs 8 63) HT_ HW_ hHeld au3_12 ?_ rfl rfl
  refine one_ (i := 6) (N := some 42) (bs 8 127) rfl rfl (one_of HT_.out (by kernel_rfl)) (by decide) (fun K hK => ?_)
  refine gr_ Try.func69 #[.agg #[.int .i64 a0_0, .int .i64 a0_1, .int .i64 a0_2, .int .i64 a0_3], .string (rdOf ByteArray.empty t319 0), .int .i64 a0_1] (by rfl) ?_ rfl rfl rfl
  with_reducible refine (F69.calls k a0_0 a0_1 a0_2 a0_3 (rdOf ByteArray.empty t319 0) a0_1 t323 _ A39.out).mono ?_
  rintro e w149 ⟨v324, rfl, ho0, hb⟩
  have HS4_ := (hb.cell (World.block_lt_of_cell? _ _ (hHeld.2.2.2.2))).trans (hHeld.2.2.2.2)
  refine ⟨_, rfl, ?_⟩
  have HO325 := am_ (Kd.R_lower (Kd.R_new' (Kd.R_new' ho0 (Kd.R_lt (rk_ HO316))) (Kd.R_lt (rk_ HO321))) (below_size bl_))
  replace HO316 := am_ (Kd.R_elder' (rk_ HO316) (Kd.R_base ho0) hb)
  replace HO321 := am_ (Kd.R_elder' (rk_ HO321) (Kd.R_base ho0) hb)
  replace BK312 := bb_ BK312 hb
  replace BK313 := bb_ BK313 hb
  replace HB := hs_ w hb
  (try clear hb)
  (try clear hb2)
  (try clear hk)
  (try clear hi)
  (try clear ho0)
  refine hK.out _ _ ⟨(blk_cell BK312.out 0).trans rfl, (blk_cell BK312.out 1).trans rfl, (blk_cell BK312.out 2).trans rfl, (blk_cell BK312.out 3).trans rfl, HS4_⟩ (fun hHeld => ?_)
  clear hK K
  refine no_ 42 ?_
  refine pu_ 7 6 (bs 8 255) HT_ ?_ rfl rfl
  refine done_ (done_of HT_.out (by kernel_rfl)) ?_
  obtain ⟨Ao150, co150, eo150⟩ := Kd.R_slice HO325.out
  subst eo150
  have p326 : 0 ≤ (0 : Int) := (by omega)
  have q326 : 0 < (t323.length : Int) := od_
  obtain ⟨ad326, e326, hx326_0⟩ := Kd.at_string (Kd.R_reads' HO325.out).2.2 0 p326 q326
  cases e326
  have qi326 : (0 < t323.length) = True := eq_true (by omega)
  (try rw [show ((0 : Int)).toNat = 0 from rfl] at hx326_0)
  (try rw [Addr.add_zero'] at hx326_0)
  replace p326 := eq_true p326
  replace q326 := eq_true q326
  try go_wp2_with (first | ((with_reducible refine gate_dst (N := 7) rfl ?_); (try (refine gate_guard (by rfl) ?_; dsimp only)); refine be_ 7 #[.string (⟨#[]⟩ : ByteArray), .slice none 0 0] 59 ?_; intro gb327 hg w151 hbox hb; replace HO316 := am_ (Kd.R_below (rk_ HO316) hb); replace HO321 := am_ (Kd.R_below (rk_ HO321) hb); replace HO325 := am_ (Kd.R_below (rk_ HO325) hb); have BK327 := am_ (hbox); have GW327 := am_ (gw_ hg bl_); have GE327 := GW327; replace HB := hs_ w hb; have NB312_327 := am_ (gn_ hg (blkl_ BK312)); have NB327_312 := am_ (gm_ hg (blkl_ BK312)); replace BK312 := bb_ BK312 hb; have NB313_327 := am_ (gn_ hg (blkl_ BK313)); have NB327_313 := am_ (gm_ hg (blkl_ BK313)); replace BK313 := bb_ BK313 hb; clear hb hbox hg; have hnb152 := NB327_312.out; have hnc152 := NB312_327.out; have hnb153 := NB327_313.out; have hnc153 := NB313_327.out; obtain ⟨hcz154_0, hcz154_1, hfz154_0, hfz154_1⟩ := cellsF2 BK327.out) | (go_at_call 83; (with_reducible refine (F83.calls (rdOf ByteArray.empty t323 0) false _ A41.out).mono ?_); rintro e w' ⟨rfl, ⟨nd, rfl⟩⟩; (try clear A41); obtain ⟨hcz155_0, hcz155_1, hcz155_2, hcz155_3, hcz155_4, hfz155_0, hfz155_1, hfz155_2, hfz155_3, hfz155_4⟩ := cellsF5 BK313.out))
  refine bodyPost_ret (results_cell_row rfl _ _ gb313 66 #[.string (⟨#[]⟩ : ByteArray), .slice none 0 0, .int .i64 0, .int .i64 0, .int .i64 3] (0, 0) _ rfl (bq_ BK313) Try.underlying66 rfl (by kernel_rfl)) rfl ?_
  exact ⟨_, au3_0, au3_1, bl_⟩
 by_cases c43 : 1 ≤ (t323.length : Int)
 rotate_left
 ·rw [if_neg c43] at H
  exact absurd H (by simp)
 rw [if_pos c43] at H
 have c43b0 := eq_true c43
 have c43b1 : decide (1 ≤ (t323.length : Int)) = true := decide_eq_true c43
 clear c43
 obtain ⟨y329, hy329⟩ : ∃ y_ : List ByteArray, y_ = (t323.drop 1) := ⟨_, rfl⟩
 replace H : (F41.l0 k t319 t323 (wrap64 (((rdOf ByteArray.empty t323 0).size : Int) + 1)) y329 (y329.length : Int) 0 a0_0 a0_1 a0_2 a0_3 (rdOf ByteArray.empty t323 0) ([] : List (S102))) = some (r1, r2, r3, r4, r5) := by first | (rw [hy329]; exact H) | exact H
 have Ny329 := am_ hy329
 clear hy329
 have H' := am_ H
 clear H
 go_enter Try.func41, Try.ntmps41
 try go_wp2_with (first | ((with_reducible refine gate_dst (N := 2) rfl ?_); (try (refine gate_guard (by rfl) ?_; dsimp only)); refine be_ 2 #[.int .i64 a0_0, .int .i64 a0_1, .int .i64 a0_2, .int .i64 a0_3] 23 ?_; intro gb312 hg w44 hbox hb; have BK312 := am_ (hbox); have GW312 := am_ (gw_ hg bl_); have GE312 := GW312; replace HB := hs_ w hb; clear hb hbox hg) | ((with_reducible refine gate_dst (N := 4) rfl ?_); (try (refine gate_guard (by rfl) ?_; dsimp only)); refine be_ 4 #[.string (⟨#[]⟩ : ByteArray), .slice none 0 0, .int .i64 0, .int .i64 0, .int .i64 0] 66 ?_; intro gb313 hg w45 hbox hb; have BK313 := am_ (hbox); have GW313 := am_ (gw_ hg bl_); have GE313 := GW313; replace HB := hs_ w hb; have NB312_313 := am_ (gn_ hg (blkl_ BK312)); have NB313_312 := am_ (gm_ hg (blkl_ BK312)); replace BK312 := bb_ BK312 hb; clear hb hbox hg) | ((with_reducible refine gate_dst (N := 15) rfl ?_); (try (refine gate_guard (by rfl) ?_; dsimp only)); refine Kd.R_lit Kd.string _ 9 ?hg (N := 15) ?hd (xs := ([a1] : List ByteArray)) (inner := [.string a1]) (ok := fun _ => True) (okp := fun _ => True) ?hr ?hp (fun _ hk => hk) trivial (Below.refl _ _) (Nat.le_refl _) (by simp) ?_; (case hd => rfl); (case hg => rfl); (case hr => exact hr_); (case hp => exact au3_10); intro v315 w46 ho47 hb hg_ hnew_; clear hg_ hnew_; (first | rw [← Ny314.out] at ho47 | (simp only [Int.reduceToNat] at ho47; rw [← Ny314.out] at ho47)); have HO316 := am_ (Kd.R_lower ho47 (below_size bl_)); replace BK312 := bb_ BK312 hb; replace BK313 := bb_ BK313 hb; replace HB := hs_ w hb; clear hb ho47; obtain ⟨Ao48, co48, eo48⟩ := Kd.R_slice HO316.out; subst eo48) | (go_at_call 58; (with_reducible refine (F58.calls k _ _ y314 false _ ?s1 ?s2 A3.out).mono ?_); (case s1 => exact au3_3); (case s2 => exact au3_22); rintro e w' ⟨rfl, ⟨nd, rfl⟩⟩; (try clear A3); (try (rw [drewN_self w46]; generalize hq_ : World.drewN w46 _ = w46; have n0_ : Aside0 (Kd.R Kd.string 9 w46 w.heap.size (fun _ => True) (.slice Ao48 y314.length co48) y314) := ⟨by rw [← hq_]; exact (rk_ HO316)⟩; have n1_ : Aside0 (w46.heap[gb312]? = some (.cells #[.int .i64 a0_0, .int .i64 a0_1, .int .i64 a0_2, .int .i64 a0_3] 23 (0, 0))) := ⟨by rw [← hq_]; exact (bk_ BK312)⟩; have n2_ : Aside0 (w46.heap[gb313]? = some (.cells #[.string (⟨#[]⟩ : ByteArray), .slice none 0 0, .int .i64 0, .int .i64 0, .int .i64 0] 66 (0, 0))) := ⟨by rw [← hq_]; exact (bk_ BK313)⟩; have n3_ : Aside0 (Below w.heap.size w w46) := ⟨by rw [← hq_]; exact bl_⟩; clear HO316 BK312 BK313 HB hq_; have HO316 := n0_; have BK312 := n1_; have BK313 := n2_; have HB := n3_; clear n0_ n1_ n2_ n3_)); have hnb49 := NB312_313.out; have hnc49 := NB313_312.out; obtain ⟨hcz50_0, hcz50_1, hcz50_2, hcz50_3, hfz50_0, hfz50_1, hfz50_2, hfz50_3⟩ := cellsF4 BK312.out) | (go_at_call 60; (with_reducible refine (F60.calls k a0_0 a0_1 a0_2 a0_3 true _ A12.out).mono ?_); rintro e w51 ⟨rfl, hb⟩; (try clear A12); replace HO316 := am_ (Kd.R_below (rk_ HO316) hb); replace BK312 := bb_ BK312 hb; replace BK313 := bb_ BK313 hb; replace HB := hs_ w hb; (try clear hb); obtain ⟨hcz52_0, hcz52_1, hcz52_2, hcz52_3, hfz52_0, hfz52_1, hfz52_2, hfz52_3⟩ := cellsF4 BK312.out) | (go_at_call 69; (with_reducible refine (F69.calls k a0_0 a0_1 a0_2 a0_3 a1 a0_0 t319 _ A24.out).mono ?_); rintro e w53 ⟨v320, rfl, ho0, hb⟩; (try clear A24); have HO321 := am_ (Kd.R_lower (Kd.R_new' ho0 (Kd.R_lt (rk_ HO316))) (below_size bl_)); replace HO316 := am_ (Kd.R_elder' (rk_ HO316) (Kd.R_base ho0) hb); replace BK312 := bb_ BK312 hb; replace BK313 := bb_ BK313 hb; replace HB := hs_ w hb; (try clear hb); (try clear ho0); obtain ⟨Ao54, co54, eo54⟩ := Kd.R_slice HO321.out; subst eo54))
 replace HO316 := am_ (Kd.R_drew HO316.out)
 replace HO321 := am_ (Kd.R_drew HO321.out)
 replace BK312 := bd_ BK312
 replace BK313 := bd_ BK313
 replace HB := am_ (below_drew1 HB.out)
 have p322 : 0 ≤ (0 : Int) := (by omega)
 have q322 : 0 < (t319.length : Int) := od_
 obtain ⟨ad322, e322, hx322_0⟩ := Kd.at_string (Kd.R_reads' HO321.out).2.2 0 p322 q322
 cases e322
 have qi322 : (0 < t319.length) = True := eq_true (by omega)
 (try rw [show ((0 : Int)).toNat = 0 from rfl] at hx322_0)
 (try rw [Addr.add_zero'] at hx322_0)
 replace p322 := eq_true p322
 replace q322 := eq_true q322
 refine start_ (n := 8) (S := fun w' => w'.cell? ⟨gb312, 0, none⟩ = some (.int .i64 a0_0) ∧ w'.cell? ⟨gb312, 1, none⟩ = some (.int .i64 a0_1) ∧ w'.cell? ⟨gb312, 2, none⟩ = some (.int .i64 a0_2) ∧ w'.cell? ⟨gb312, 3, none⟩ = some (.int .i64 a0_3) ∧ w'.cell? ad322 = some (.string (rdOf ByteArray.empty t319 0))) (ds := []) (bs 8 0) (by kernel_rfl) rfl rfl ⟨(blk_cell BK312.out 0).trans rfl, (blk_cell BK312.out 1).trans rfl, (blk_cell BK312.out 2).trans rfl, (blk_cell BK312.out 3).trans rfl, hx322_0⟩ (fun hHeld => ?_); refine with_tabW F41.tab10 F41.bits10 (fun HT_ HW_ => ?_)
 generalize w53.drew = w55 at HO316 HO321 BK312 BK313 HB hx322_0 hHeld ⊢
 refine pu_ 1 37 (bs 8 2) HT_ ?_ rfl rfl
 refine pu_ 2 38 (bs 8 6) HT_ ?_ rfl rfl
 refine pu_ 4 40 (bs 8 22) HT_ ?_ rfl rfl
 refine tk_ 0 36 (bs 8 23) HT_ HW_ hHeld au3_12 ?_ rfl rfl
 refine tk_ 3 39 (bs 8 31) HT_ HW_ hHeld au3_12 ?_ rfl rfl
 refine tk_ 5 41 (bs 8 63) HT_ HW_ hHeld au3_12 ?_ rfl rfl
 refine one_ (i := 6) (N := some 42) (bs 8 127) rfl rfl (one_of HT_.out (by kernel_rfl)) (by decide) (fun K hK => ?_)
 refine gr_ Try.func69 #[.agg #[.int .i64 a0_0, .int .i64 a0_1, .int .i64 a0_2, .int .i64 a0_3], .string (rdOf ByteArray.empty t319 0), .int .i64 a0_1] (by rfl) ?_ rfl rfl rfl
 with_reducible refine (F69.calls k a0_0 a0_1 a0_2 a0_3 (rdOf ByteArray.empty t319 0) a0_1 t323 _ A39.out).mono ?_
 rintro e w56 ⟨v324, rfl, ho0, hb⟩
 have HS4_ := (hb.cell (World.block_lt_of_cell? _ _ (hHeld.2.2.2.2))).trans (hHeld.2.2.2.2)
 refine ⟨_, rfl, ?_⟩
 have HO325 := am_ (Kd.R_lower (Kd.R_new' (Kd.R_new' ho0 (Kd.R_lt (rk_ HO316))) (Kd.R_lt (rk_ HO321))) (below_size bl_))
 replace HO316 := am_ (Kd.R_elder' (rk_ HO316) (Kd.R_base ho0) hb)
 replace HO321 := am_ (Kd.R_elder' (rk_ HO321) (Kd.R_base ho0) hb)
 replace BK312 := bb_ BK312 hb
 replace BK313 := bb_ BK313 hb
 replace HB := hs_ w hb
 (try clear hb)
 (try clear hb2)
 (try clear hk)
 (try clear hi)
 (try clear ho0)
 refine hK.out _ _ ⟨(blk_cell BK312.out 0).trans rfl, (blk_cell BK312.out 1).trans rfl, (blk_cell BK312.out 2).trans rfl, (blk_cell BK312.out 3).trans rfl, HS4_⟩ (fun hHeld => ?_)
 clear hK K
 refine no_ 42 ?_
 refine pu_ 7 6 (bs 8 255) HT_ ?_ rfl rfl
 refine done_ (done_of HT_.out (by kernel_rfl)) ?_
 obtain ⟨Ao57, co57, eo57⟩ := Kd.R_slice HO325.out
 subst eo57
 have p326 : 0 ≤ (0 : Int) := (by omega)
 have q326 : 0 < (t323.length : Int) := od_
 obtain ⟨ad326, e326, hx326_0⟩ := Kd.at_string (Kd.R_reads' HO325.out).2.2 0 p326 q326
 cases e326
 have qi326 : (0 < t323.length) = True := eq_true (by omega)
 (try rw [show ((0 : Int)).toNat = 0 from rfl] at hx326_0)
 (try rw [Addr.add_zero'] at hx326_0)
 replace p326 := eq_true p326
 replace q326 := eq_true q326
 try go_wp2_with (first | ((with_reducible refine gate_dst (N := 7) rfl ?_); (try (refine gate_guard (by rfl) ?_; dsimp only)); refine be_ 7 #[.string (⟨#[]⟩ : ByteArray), .slice none 0 0] 59 ?_; intro gb327 hg w58 hbox hb; replace HO316 := am_ (Kd.R_below (rk_ HO316) hb); replace HO321 := am_ (Kd.R_below (rk_ HO321) hb); replace HO325 := am_ (Kd.R_below (rk_ HO325) hb); have BK327 := am_ (hbox); have GW327 := am_ (gw_ hg bl_); have GE327 := GW327; replace HB := hs_ w hb; have NB312_327 := am_ (gn_ hg (blkl_ BK312)); have NB327_312 := am_ (gm_ hg (blkl_ BK312)); replace BK312 := bb_ BK312 hb; have NB313_327 := am_ (gn_ hg (blkl_ BK313)); have NB327_313 := am_ (gm_ hg (blkl_ BK313)); replace BK313 := bb_ BK313 hb; clear hb hbox hg; have hnb59 := NB327_312.out; have hnc59 := NB312_327.out; have hnb60 := NB327_313.out; have hnc60 := NB313_327.out; obtain ⟨hcz61_0, hcz61_1, hfz61_0, hfz61_1⟩ := cellsF2 BK327.out) | ((with_reducible refine gate_store (t := 59) (p := 7) rfl ?_); refine store_event (t := 59) (p := 7) (v := ?vo_w62) (w1 := ((w58.setCell ⟨gb327, 0, none⟩ (.string (rdOf ByteArray.empty t323 0))).setCell ⟨gb327, 1, none⟩ (.slice none 0 0))) ?hg ?ho ?hn ?hr ?_; (case ho => rfl); (case hg => rfl); (case hn => rfl); (case hr => exact hr_); intro w62 hw; have n0_ : Aside0 (Kd.R Kd.string 9 w62 w.heap.size (fun k_ => some k_ ≠ (.slice (some ad322) t319.length co54 : Value).ownBlock ∧ some k_ ≠ (.slice (some ad326) t323.length co57 : Value).ownBlock) (.slice Ao48 y314.length co48) y314) := ⟨(by rw [hw]; exact (by (with_reducible repeat (first | apply Kd.R_alloc | apply Kd.R_drewN | apply Kd.R_drew)); exact Kd.R_mono (Kd.R_far (p := ⟨gb327, 1, none⟩) (Kd.R_far (p := ⟨gb327, 0, none⟩) (Kd.R_types HO316.out BK327.out (by decide)) (fun _ hk => hk.2) (.string (rdOf ByteArray.empty t323 0))) (fun _ hk => hk.2) (.slice none 0 0)) (fun _ hk => ⟨hk.1.1.2, hk.1.2⟩)))⟩; have n1_ : Aside0 (Kd.R Kd.string 9 w62 w.heap.size (fun k_ => some k_ ≠ (.slice Ao48 y314.length co48 : Value).ownBlock ∧ some k_ ≠ (.slice (some ad326) t323.length co57 : Value).ownBlock) (.slice (some ad322) t319.length co54) t319) := ⟨(by rw [hw]; exact (by (with_reducible repeat (first | apply Kd.R_alloc | apply Kd.R_drewN | apply Kd.R_drew)); exact Kd.R_mono (Kd.R_far (p := ⟨gb327, 1, none⟩) (Kd.R_far (p := ⟨gb327, 0, none⟩) (Kd.R_types HO321.out BK327.out (by decide)) (fun _ hk => hk.2) (.string (rdOf ByteArray.empty t323 0))) (fun _ hk => hk.2) (.slice none 0 0)) (fun _ hk => ⟨hk.1.1.2, hk.1.2⟩)))⟩; have n2_ : Aside0 (Kd.R Kd.string 9 w62 w.heap.size (fun k_ => some k_ ≠ (.slice Ao48 y314.length co48 : Value).ownBlock ∧ some k_ ≠ (.slice (some ad322) t319.length co54 : Value).ownBlock) (.slice (some ad326) t323.length co57) t323) := ⟨(by rw [hw]; exact (by (with_reducible repeat (first | apply Kd.R_alloc | apply Kd.R_drewN | apply Kd.R_drew)); exact Kd.R_mono (Kd.R_far (p := ⟨gb327, 1, none⟩) (Kd.R_far (p := ⟨gb327, 0, none⟩) (Kd.R_types HO325.out BK327.out (by decide)) (fun _ hk => hk.2) (.string (rdOf ByteArray.empty t323 0))) (fun _ hk => hk.2) (.slice none 0 0)) (fun _ hk => ⟨hk.1.1.2, hk.1.2⟩)))⟩; have n3_ : Aside0 (w62.heap[gb312]? = some (.cells #[.int .i64 a0_0, .int .i64 a0_1, .int .i64 a0_2, .int .i64 a0_3] 23 (0, 0))) := ⟨(by rw [hw]; exact (bf_ BK312))⟩; have n4_ : Aside0 (w62.heap[gb313]? = some (.cells #[.string (⟨#[]⟩ : ByteArray), .slice none 0 0, .int .i64 0, .int .i64 0, .int .i64 0] 66 (0, 0))) := ⟨(by rw [hw]; exact (bf_ BK313))⟩; have n5_ : Aside0 (w62.heap[gb327]? = some (.cells #[.string (rdOf ByteArray.empty t323 0), .slice none 0 0] 59 (0, 0))) := ⟨(by rw [hw]; exact (bq_ BK327))⟩; have n6_ : Aside0 (Below w.heap.size w w62) := ⟨(by rw [hw]; exact bl_)⟩; clear hw; clear HO316; clear HO321; clear HO325; clear BK312; clear BK313; clear BK327; clear HB; have HO316 := n0_; have HO321 := n1_; have HO325 := n2_; have BK312 := n3_; have BK313 := n4_; have BK327 := n5_; have HB := n6_; clear n0_ n1_ n2_ n3_ n4_ n5_ n6_; obtain ⟨hcz63_0, hcz63_1, hfz63_0, hfz63_1⟩ := cellsF2 BK327.out) | (go_at_call 83; (with_reducible refine (F83.calls (rdOf ByteArray.empty t323 0) true _ A41.out).mono ?_); rintro e w' ⟨rfl, ⟨nd, rfl⟩⟩; (try clear A41); have q64 : (1 : Int) ≤ ((t323.length : Int) : Int) := od_; obtain ⟨i064, hi064, _, hsz64, _⟩ := info_parts info9; have hroom64 : t323.length ≤ co57 := (Kd.R_reads' HO325.out).2.1; have hC64 : Kd.C Kd.string _ (some ad326) t323.length t323 := (Kd.R_reads' HO325.out).2.2; have hcut64 := cut_from (P := Try.prog) 41 9 .i64 Try.underlying41 hi064 1 hsz64 (some ad326) t323.length co57 1 (by omega) q64; have hr64 := Kd.C_drop (m := (1 : Int).toNat) (c := co57) hC64 (by omega) hroom64; obtain ⟨A64, hA64⟩ : ∃ A1, A1 = (if co57 = (1 : Int).toNat then (some ad326) else ((some ad326) : Option Addr).map (·.add ((1 : Int).toNat * 1))) := ⟨_, rfl⟩; obtain ⟨c64, hc64⟩ : ∃ c1, c1 = co57 - (1 : Int).toNat := ⟨_, rfl⟩; have hy64 : y329.length = t323.length - (1 : Int).toNat := (by rw [Ny329.out, List.length_drop] <;> omega); rw [show (t323).drop (1 : Int).toNat = y329 from Ny329.out.symm] at hr64; replace hr64 : Kd.C Kd.string _ A64 y329.length y329 := (by rw [hA64]; exact hr64); rw [← hy64, ← hA64, ← hc64] at hcut64; have HR332 := am_ hr64; have HC332 := am_ (show y329.length ≤ c64 from by rw [hy64, hc64]; exact Nat.sub_le_sub_right hroom64 _); clear hr64 hC64 hroom64 hi064 hsz64 hc64; have KY64 := am_ hy64; have KA64 := am_ hA64; clear hy64 hA64; have KL64 := am_ (show 1 ≤ t323.length from by omega); replace q64 := eq_true q64))
 go_loopg [8, 59] k (fun kq v8 v59 w' => ∃ (x8_1 : Int) (x59_1 : Int) (x314000_1 : ByteArray) (x314002_1 : Int) (x314003_1 : Int) (x314004_1 : Int) (x328001_1 : List (S102)) (u328001 : Value), v8 = .int .i64 x8_1 ∧ v59 = .int .i64 x59_1 ∧ Aside0 (F41.l0 kq t319 t323 x8_1 y329 (y329.length : Int) x59_1 a0_0 a0_1 a0_2 a0_3 (rdOf ByteArray.empty t323 0) x328001_1 = some (r1, r2, r3, r4, r5)) ∧ Aside0 (kq ≤ k) ∧ Aside0 (Kd.R Kd.string 9 w' w.heap.size (fun k_ => some k_ ≠ ((.slice (some ad326) t323.length co57) : Value).ownBlock) (.slice (some ad322) t319.length co54) t319) ∧ Aside0 (Kd.R Kd.string 9 w' w.heap.size (fun k_ => some k_ ≠ ((.slice (some ad322) t319.length co54) : Value).ownBlock) (.slice (some ad326) t323.length co57) t323) ∧ Aside0 (Kd.S k102 102 w' w.heap.size (fun k_ => some k_ ≠ ((.slice (some ad322) t319.length co54) : Value).ownBlock ∧ some k_ ≠ ((.slice (some ad326) t323.length co57) : Value).ownBlock) u328001 x328001_1) ∧ Aside0 (w'.heap[gb312]? = some (.cells #[.int .i64 a0_0, .int .i64 a0_1, .int .i64 a0_2, .int .i64 a0_3] 23 (0, 0))) ∧ Aside0 (w'.heap[gb313]? = some (.cells #[.string x314000_1, (.slice none 0 0), .int .i64 x314002_1, .int .i64 x314003_1, .int .i64 x314004_1] 66 (0, 0))) ∧ Aside0 (w'.heap[gb327]? = some (.cells #[.string (rdOf ByteArray.empty t323 0), u328001] 59 (0, 0))) ∧ Aside0 (Below w.heap.size w w'))
 case atStart => exact ⟨(wrap64 (((rdOf ByteArray.empty t323 0).size : Int) + 1)), (0), ((⟨#[]⟩ : ByteArray)), (0), (0), (0), (([] : List (S102))), (.slice none 0 0), er_, er_, H', ⟨Nat.le_refl _⟩, ⟨by (with_reducible repeat (first | apply Kd.R_alloc | apply Kd.R_drewN | apply Kd.R_drew)); exact Kd.R_mono HO321.out (fun _ hk => hk.2)⟩, ⟨by (with_reducible repeat (first | apply Kd.R_alloc | apply Kd.R_drewN | apply Kd.R_drew)); exact Kd.R_mono HO325.out (fun _ hk => hk.2)⟩, ⟨au3_1⟩, ⟨bk_ BK312⟩, ⟨bk_ BK313⟩, ⟨bk_ BK327⟩, ⟨bl_⟩⟩
 case round =>
  clear H'
  try clear c1
  try clear c14
  try clear c14b0
  try clear c14b1
  try clear c25b0
  try clear c25b1
  try clear c38b0
  try clear c38b1
  try clear c40b0
  try clear c40b1
  try clear c43
  try clear c43b0
  try clear c43b1
  try clear c64
  try clear q64
  try clear hcz11_0 hcz11_1 hcz11_2 hcz11_3 hcz11_4
  try clear hcz21_0 hcz21_1 hcz21_2 hcz21_3
  try clear hcz23_0 hcz23_1 hcz23_2 hcz23_3 hcz23_4
  try clear hcz32_0 hcz32_1 hcz32_2 hcz32_3
  try clear hcz34_0 hcz34_1 hcz34_2 hcz34_3
  try clear hcz37_0 hcz37_1 hcz37_2 hcz37_3 hcz37_4
  try clear hcz50_0 hcz50_1 hcz50_2 hcz50_3
  try clear hcz52_0 hcz52_1 hcz52_2 hcz52_3
  try clear hcz61_0 hcz61_1
  try clear hcz63_0 hcz63_1
  try clear hfz11_0 hfz11_1 hfz11_2 hfz11_3 hfz11_4
  try clear hfz21_0 hfz21_1 hfz21_2 hfz21_3
  try clear hfz23_0 hfz23_1 hfz23_2 hfz23_3 hfz23_4
  try clear hfz32_0 hfz32_1 hfz32_2 hfz32_3
  try clear hfz34_0 hfz34_1 hfz34_2 hfz34_3
  try clear hfz37_0 hfz37_1 hfz37_2 hfz37_3 hfz37_4
  try clear hfz50_0 hfz50_1 hfz50_2 hfz50_3
  try clear hfz52_0 hfz52_1 hfz52_2 hfz52_3
  try clear hfz61_0 hfz61_1
  try clear hfz63_0 hfz63_1
  try clear hx322_0
  try clear hx326_0
  try clear p322
  try clear p326
  try clear q322
  try clear q326
  try clear q64
  obtain ⟨x8_1, x59_1, x314000_1, x314002_1, x314003_1, x314004_1, x328001_1, u328001, rfl, rfl, HA, HK1, HO_5, HO_6, HO_328001, BK312, BK313, BK327, HB⟩ := hrel
  cases gk with
  | zero => exact absurd HA.out (by simp [F41.l0])
  | succ k1 =>
   have H := HA.out
   clear HA
   simp only [F41.l0] at H
   replace H := it_ H; rcases H with ⟨c65b0, H⟩ | ⟨c65b0, H⟩
   rotate_left
   ·replace H := itn_ H; rcases H with ⟨c129b0, H⟩
    have c129b1 : decide (0 < t319.length) = true := n2_ c129b0
    simp only [Option.some.injEq, Prod.mk.injEq] at H
    obtain ⟨rfl, rfl, rfl, rfl, rfl⟩ := H
    try go_wp2
    replace HO_5 := am_ (Kd.R_drew HO_5.out)
    replace HO_6 := am_ (Kd.R_drew HO_6.out)
    replace HO_328001 := am_ (Kd.S_drew HO_328001.out)
    replace BK312 := bd_ BK312
    replace BK313 := bd_ BK313
    replace BK327 := bd_ BK327
    replace HB := am_ (below_drew1 HB.out)
    have p333 : 0 ≤ (0 : Int) := (by omega)
    have q333 : 0 < (t319.length : Int) := od_
    obtain ⟨ad333, e333, hx333_0⟩ := Kd.at_string (Kd.R_reads' HO_5.out).2.2 0 p333 q333
    obtain rfl : ad322 = ad333 := (by injection e333)
    have qi333 : (0 < t319.length) = True := eq_true (by omega)
    (try rw [show ((0 : Int)).toNat = 0 from rfl] at hx333_0)
    (try rw [Addr.add_zero'] at hx333_0)
    replace p333 := eq_true p333
    replace q333 := eq_true q333
    obtain ⟨Ao131, co131, eo131⟩ := Kd.S_slice HO_328001.out
    (first | subst eo131 | (injection eo131 with f1_ f2_ f3_; have f4_ := f1_.symm; have f5_ := f3_.symm; clear f1_ f2_ f3_; subst f4_; subst f5_))
    refine start_ (n := 8) (S := fun w' => w'.cell? ⟨gb327, 0, none⟩ = some (.string (rdOf ByteArray.empty t323 0)) ∧ w'.cell? ⟨gb327, 1, none⟩ = some (.slice Ao131 x328001_1.length co131) ∧ w'.cell? ad322 = some (.string (rdOf ByteArray.empty t319 0))) (ds := []) (bs 8 0) (by kernel_rfl) rfl rfl ⟨(blk_cell BK327.out 0).trans rfl, (blk_cell BK327.out 1).trans rfl, hx333_0⟩ (fun hHeld => ?_); refine with_tabW F41.tab28 F41.bits28 (fun HT_ HW_ => ?_)
    generalize wr.drew = w130 at HO_5 HO_6 HO_328001 BK312 BK313 BK327 HB hx333_0 hHeld ⊢
    refine pu_ 1 115 (bs 8 2) HT_ ?_ rfl rfl
    refine pu_ 2 116 (bs 8 6) HT_ ?_ rfl rfl
    refine tk_ 0 114 (bs 8 7) HT_ HW_ hHeld (by rintro w' ⟨s0, s1, s2⟩; go_simp; with_reducible rfl) ?_ rfl rfl
    refine tk_ 3 117 (bs 8 15) HT_ HW_ hHeld (by rintro w' ⟨s0, s1, s2⟩; go_simp; with_reducible rfl) ?_ rfl rfl
    refine pu_ 4 118 (bs 8 31) HT_ ?_ rfl rfl
    refine pu_ 5 119 (bs 8 63) HT_ ?_ rfl rfl
    refine pu_ 6 120 (bs 8 127) HT_ ?_ rfl rfl
    refine one_ (i := 7) (N := none) (bs 8 255) rfl rfl (one_of HT_.out (by kernel_rfl)) (by decide) (fun K hK => ?_)
    have hs132 : w130.cell? ⟨gb313, 0, none⟩ = some (.string x314000_1) := (blk_cell BK313.out 0).trans rfl
    have hfs132 := blk_frozen BK313.out 0
    have hns132_0 := NB312_313.out
    have hns132_2 := NB327_313.out
    have hms132_0 := NB313_312.out
    have hms132_2 := NB313_327.out
    have hs133 : w130.cell? ⟨gb313, 1, none⟩ = some (.slice none 0 0) := (blk_cell BK313.out 1).trans rfl
    have hfs133 := blk_frozen BK313.out 1
    have hns133_0 := NB312_313.out
    have hns133_2 := NB327_313.out
    have hms133_0 := NB313_312.out
    have hms133_2 := NB313_327.out
    have hs134 : w130.cell? ⟨gb313, 2, none⟩ = some (.int .i64 x314002_1) := (blk_cell BK313.out 2).trans rfl
    have hfs134 := blk_frozen BK313.out 2
    have hns134_0 := NB312_313.out
    have hns134_2 := NB327_313.out
    have hms134_0 := NB313_312.out
    have hms134_2 := NB313_327.out
    have hs135 : w130.cell? ⟨gb313, 3, none⟩ = some (.int .i64 x314003_1) := (blk_cell BK313.out 3).trans rfl
    have hfs135 := blk_frozen BK313.out 3
    have hns135_0 := NB312_313.out
    have hns135_2 := NB327_313.out
    have hms135_0 := NB313_312.out
    have hms135_2 := NB313_327.out
    have hs136 : w130.cell? ⟨gb313, 4, none⟩ = some (.int .i64 x314004_1) := (blk_cell BK313.out 4).trans rfl
    have hfs136 := blk_frozen BK313.out 4
    have hns136_0 := NB312_313.out
    have hns136_2 := NB327_313.out
    have hms136_0 := NB313_312.out
    have hms136_2 := NB313_327.out
    refine skip_ (w1 := ?_) (by rfl) rfl ?_ ?_
    rotate_left
    ·go_simp
     rfl
    refine hK.out _ _ ⟨((cell_far (p := ⟨gb313, _, none⟩) NB327_313.out _).trans (((cell_far (p := ⟨gb313, _, none⟩) NB327_313.out _).trans (((cell_far (p := ⟨gb313, _, none⟩) NB327_313.out _).trans (((cell_far (p := ⟨gb313, _, none⟩) NB327_313.out _).trans (((cell_far (p := ⟨gb313, _, none⟩) NB327_313.out _).trans (hHeld.1)))))))))), ((cell_far (p := ⟨gb313, _, none⟩) NB327_313.out _).trans (((cell_far (p := ⟨gb313, _, none⟩) NB327_313.out _).trans (((cell_far (p := ⟨gb313, _, none⟩) NB327_313.out _).trans (((cell_far (p := ⟨gb313, _, none⟩) NB327_313.out _).trans (((cell_far (p := ⟨gb313, _, none⟩) NB327_313.out _).trans (hHeld.2.1)))))))))), ((cell_far (p := ⟨gb313, _, none⟩) au3_2 _).trans (((cell_far (p := ⟨gb313, _, none⟩) au3_2 _).trans (((cell_far (p := ⟨gb313, _, none⟩) au3_2 _).trans (((cell_far (p := ⟨gb313, _, none⟩) au3_2 _).trans (((cell_far (p := ⟨gb313, _, none⟩) au3_2 _).trans (hHeld.2.2))))))))))⟩ (fun hHeld => ?_)
    clear hK K
    refine done_ (done_of HT_.out (by kernel_rfl)) ?_
    try go_wp2
    refine bodyPost_ret (results_cell_row rfl _ _ gb313 66 #[.string (rdOf ByteArray.empty t323 0), .slice Ao131 x328001_1.length co131, .int .i64 (wrap64 (((rdOf ByteArray.empty t319 0).size : Int) + 1)), .int .i64 0, .int .i64 0] (0, 0) _ rfl (bq_ BK313) Try.underlying66 rfl (by kernel_rfl)) rfl ?_
    exact ⟨_, au3_0, by (with_reducible repeat (first | apply Kd.S_alloc | apply Kd.S_drewN | apply Kd.S_drew)); exact Kd.S_mono (Kd.S_far (p := ⟨gb313, 4, none⟩) (Kd.S_far (p := ⟨gb313, 3, none⟩) (Kd.S_far (p := ⟨gb313, 2, none⟩) (Kd.S_far (p := ⟨gb313, 1, none⟩) (Kd.S_far (p := ⟨gb313, 0, none⟩) (Kd.S_types HO_328001.out BK313.out (by decide)) (fun _ hk => hk.2) (.string (rdOf ByteArray.empty t323 0))) (fun _ hk => hk.2) (.slice Ao131 x328001_1.length co131)) (fun _ hk => hk.2) (.int .i64 (wrap64 (((rdOf ByteArray.empty t319 0).size : Int) + 1)))) (fun _ hk => hk.2) (.int .i64 0)) (fun _ hk => hk.2) (.int .i64 0)) (fun _ hk => trivial), bl_⟩
   replace H := itn_ H; rcases H with ⟨c66b0, H⟩
   replace H := itn_ H; rcases H with ⟨c67b0, H⟩
   replace HR332 := am_ (show Kd.C Kd.string wr A64 y329.length y329 from by rw [Ny329.out, KA64.out]; exact Kd.C_drop (m := 1) (c := co57) ((Kd.R_reads' HO_6.out).2.2) KL64.out ((Kd.R_reads' HO_6.out).2.1))
   by_cases c68 : x59_1 = 10
   ·rw [if_pos c68] at H
    have c68b0 : (x59_1 == 10) = true := beq_iff_eq.mpr c68
    have c68b1 : (x59_1 != 10) = false := bne_eq_false_iff_eq.mpr c68
    clear c68
    simp only [Option.some.injEq, Prod.mk.injEq] at H
    obtain ⟨rfl, rfl, rfl, rfl, rfl⟩ := H
    have p334 : 0 ≤ (x59_1 : Int) := od_
    have q334 : x59_1 < (y329.length : Int) := od_
    obtain ⟨ad334, e334, hx334_0⟩ := Kd.at_string HR332.out x59_1 p334 q334
    cases e334
    try replace hx334_0 := (HB.out.cell (World.block_lt_of_cell? _ _ hx334_0)).trans hx334_0
    replace p334 := eq_true p334
    replace q334 := eq_true q334
    have hnb69 := NB313_312.out
    have hnc69 := NB312_313.out
    have hnb70 := NB313_327.out
    have hnc70 := NB327_313.out
    obtain ⟨hcz71_0, hcz71_1, hcz71_2, hcz71_3, hcz71_4, hfz71_0, hfz71_1, hfz71_2, hfz71_3, hfz71_4⟩ := cellsF5 BK313.out
    go_wp2
    refine bodyPost_ret (results_cell_row rfl _ _ gb313 66 #[.string (⟨#[]⟩ : ByteArray), .slice none 0 0, .int .i64 0, .int .i64 x8_1, .int .i64 3] (0, 0) _ rfl (bq_ BK313) Try.underlying66 rfl (by kernel_rfl)) rfl ?_
    exact ⟨_, au3_0, au3_1, bl_⟩
   rw [if_neg c68] at H
   have c68b0 : (x59_1 == 10) = false := beq_eq_false_iff_ne.mpr c68
   have c68b1 : (x59_1 != 10) = true := bne_iff_ne.mpr c68
   replace H := bi_ H; rcases H with ⟨⟨t335, t338⟩, A72, H⟩
   have HC73 := am_ H
   clear H
   have p334 : 0 ≤ (x59_1 : Int) := od_
   have q334 : x59_1 < (y329.length : Int) := od_
   obtain ⟨ad334, e334, hx334_0⟩ := Kd.at_string HR332.out x59_1 p334 q334
   cases e334
   try replace hx334_0 := (HB.out.cell (World.block_lt_of_cell? _ _ hx334_0)).trans hx334_0
   replace p334 := eq_true p334
   replace q334 := eq_true q334
   have hnb74 := NB312_313.out
   have hnc74 := NB313_312.out
   have hnb75 := NB312_327.out
   have hnc75 := NB327_312.out
   obtain ⟨hcz76_0, hcz76_1, hcz76_2, hcz76_3, hfz76_0, hfz76_1, hfz76_2, hfz76_3⟩ := cellsF4 BK312.out
   go_upto_region 21 with (first | (go_at_call 88; (with_reducible refine (F88.calls k1 a0_0 a0_1 a0_2 a0_3 (rdOf ByteArray.empty y329 x59_1) x8_1 t335 t338 _ A72.out).mono ?_); rintro e w77 ⟨v336, rfl, ho0, hb⟩; (try clear A72); replace HO_328001 := am_ (Kd.S_elder' au3_8 (Kd.R_base ho0) hb); have HO337 := am_ (Kd.R_lower (Kd.R_new' (Kd.R_new' ho0 (Kd.R_lt (rk_ HO_5))) (Kd.R_lt (rk_ HO_6))) (below_size bl_)); replace HO_5 := am_ (Kd.R_elder' (rk_ HO_5) (Kd.R_base ho0) hb); replace HO_6 := am_ (Kd.R_elder' (rk_ HO_6) (Kd.R_base ho0) hb); replace BK312 := bb_ BK312 hb; replace BK313 := bb_ BK313 hb; replace BK327 := bb_ BK327 hb; replace HB := hs_ w hb; (try clear hb); (try clear hb2); (try clear hk); (try clear hi); (try clear ho0)) | ((with_reducible refine gate_dst (N := 11) rfl ?_); (try (refine gate_guard (by rfl) ?_; dsimp only)); refine be_ 11 #[.slice none 0 0] 102 ?_; intro gb339 hg w78 hbox hb; replace HO_5 := am_ (Kd.R_below (rk_ HO_5) hb); replace HO_6 := am_ (Kd.R_below (rk_ HO_6) hb); replace HO_328001 := am_ (Kd.S_below (Kd.S_elderB au3_8 gb339 (Nat.le_of_eq hg.symm)) hb); replace HO337 := am_ (Kd.R_below (rk_ HO337) hb); have BK339 := am_ (hbox); have GW339 := am_ (gw_ hg bl_); have GE339 := GW339; replace HB := hs_ w hb; have NB312_339 := am_ (gn_ hg (blkl_ BK312)); have NB339_312 := am_ (gm_ hg (blkl_ BK312)); replace BK312 := bb_ BK312 hb; have NB313_339 := am_ (gn_ hg (blkl_ BK313)); have NB339_313 := am_ (gm_ hg (blkl_ BK313)); replace BK313 := bb_ BK313 hb; have NB327_339 := am_ (gn_ hg (blkl_ BK327)); have NB339_327 := am_ (gm_ hg (blkl_ BK327)); replace BK327 := bb_ BK327 hb; clear hb hbox hg; obtain ⟨Ao79, co79, eo79⟩ := Kd.R_slice HO337.out; subst eo79; have hnb80 := NB339_312.out; have hnc80 := NB312_339.out; have hnb81 := NB339_313.out; have hnc81 := NB313_339.out; have hnb82 := NB339_327.out; have hnc82 := NB327_339.out; have hcz83_0 : w78.cell? ⟨gb339, 0, none⟩ = some (.slice none 0 0) := (blk_cell BK339.out 0).trans rfl; have hfz83_0 := blk_frozen BK339.out 0))
   (try simp only [Act.put, List.setIfInBounds_toArray, List.set_cons_zero, List.set_cons_succ])
   go_cut [96] (fun v96 wc => ∃ (kq : Nat) (x96_72 : Bool), v96 = .bool x96_72 ∧ Aside0 (F41.j1 kq t319 t323 x8_1 (rdOf ByteArray.empty y329 x59_1) t338 y329 (y329.length : Int) x59_1 x96_72 a0_0 a0_1 a0_2 a0_3 (rdOf ByteArray.empty t323 0) x328001_1 t335 = some (r1, r2, r3, r4, r5)) ∧ Aside0 (kq ≤ k1) ∧ Aside0 (Kd.R Kd.string 9 wc w.heap.size (fun k_ => some k_ ≠ ((.slice (some ad326) t323.length co57) : Value).ownBlock ∧ some k_ ≠ ((.slice Ao79 t335.length co79) : Value).ownBlock) (.slice (some ad322) t319.length co54) t319) ∧ Aside0 (Kd.R Kd.string 9 wc w.heap.size (fun k_ => some k_ ≠ ((.slice (some ad322) t319.length co54) : Value).ownBlock ∧ some k_ ≠ ((.slice Ao79 t335.length co79) : Value).ownBlock) (.slice (some ad326) t323.length co57) t323) ∧ Aside0 (Kd.S k102 102 wc w.heap.size (fun k_ => some k_ ≠ ((.slice (some ad322) t319.length co54) : Value).ownBlock ∧ some k_ ≠ ((.slice (some ad326) t323.length co57) : Value).ownBlock ∧ some k_ ≠ ((.slice Ao79 t335.length co79) : Value).ownBlock ∧ k_ ≠ gb339) u328001 x328001_1) ∧ Aside0 (Kd.R Kd.string 9 wc w.heap.size (fun k_ => some k_ ≠ ((.slice (some ad322) t319.length co54) : Value).ownBlock ∧ some k_ ≠ ((.slice (some ad326) t323.length co57) : Value).ownBlock) (.slice Ao79 t335.length co79) t335) ∧ Aside0 (wc.heap[gb312]? = some (.cells #[.int .i64 a0_0, .int .i64 a0_1, .int .i64 a0_2, .int .i64 a0_3] 23 (0, 0))) ∧ Aside0 (wc.heap[gb313]? = some (.cells #[.string x314000_1, (.slice none 0 0), .int .i64 x314002_1, .int .i64 x314003_1, .int .i64 x314004_1] 66 (0, 0))) ∧ Aside0 (wc.heap[gb327]? = some (.cells #[.string (rdOf ByteArray.empty t323 0), u328001] 59 (0, 0))) ∧ Aside0 (wc.heap[gb339]? = some (.cells #[(.slice Ao79 t335.length co79)] 102 (0, 0))) ∧ Aside0 (Below w.heap.size w wc))
   case first =>
    have H := HC73.out
    clear HC73
    replace H := it_ H; rcases H with ⟨c84b0, H⟩ | ⟨c84b0, H⟩
    rotate_left
    ·(first | rw [c84b0] | (simp only [i64_w, i32_w]; rw [c84b0]) | skip)
     have H' := am_ H
     clear H
     go_wp2
     go_meet
     case rel => exact ⟨_, (false), er_, H', ⟨au3_14⟩, ⟨au3_6⟩, ⟨au3_7⟩, ⟨au3_4⟩, ⟨au3_5⟩, ⟨bf_ BK312⟩, ⟨bf_ BK313⟩, ⟨bf_ BK327⟩, ⟨bq_ BK339⟩, ⟨bl_⟩⟩
    (first | rw [c84b0] | (simp only [i64_w, i32_w]; rw [c84b0]) | skip)
    by_cases c85 : x59_1 = (wrap64 ((t323.length : Int) - 2))
    rotate_left
    ·rw [if_neg c85] at H
     have c85b0 : (x59_1 == (wrap64 ((t323.length : Int) - 2))) = false := beq_eq_false_iff_ne.mpr c85
     have c85b1 : (x59_1 != (wrap64 ((t323.length : Int) - 2))) = true := bne_iff_ne.mpr c85
     have H' := am_ H
     clear H
     go_wp2
     go_meet
     case rel => exact ⟨_, (false), er_, H', ⟨au3_14⟩, ⟨au3_6⟩, ⟨au3_7⟩, ⟨au3_4⟩, ⟨au3_5⟩, ⟨bf_ BK312⟩, ⟨bf_ BK313⟩, ⟨bf_ BK327⟩, ⟨bq_ BK339⟩, ⟨bl_⟩⟩
    rw [if_pos c85] at H
    have c85b0 : (x59_1 == (wrap64 ((t323.length : Int) - 2))) = true := beq_iff_eq.mpr c85
    have c85b1 : (x59_1 != (wrap64 ((t323.length : Int) - 2))) = false := bne_eq_false_iff_eq.mpr c85
    clear c85
    by_cases c86 : (t335.length : Int) = 1
    rotate_left
    ·rw [if_neg c86] at H
     have c86b0 : ((t335.length : Int) == 1) = false := beq_eq_false_iff_ne.mpr c86
     have c86b1 : ((t335.length : Int) != 1) = true := bne_iff_ne.mpr c86
     have H' := am_ H
     clear H
     have hnb92 := NB339_312.out
     have hnc92 := NB312_339.out
     have hnb93 := NB339_313.out
     have hnc93 := NB313_339.out
     have hnb94 := NB339_327.out
     have hnc94 := NB327_339.out
     have hcz95_0 : w78.cell? ⟨gb339, 0, none⟩ = some (.slice none 0 0) := (blk_cell BK339.out 0).trans rfl
     have hfz95_0 := blk_frozen BK339.out 0
     go_wp2
     go_meet
     case rel => exact ⟨_, (false), er_, H', ⟨au3_14⟩, ⟨au3_6⟩, ⟨au3_7⟩, ⟨au3_4⟩, ⟨au3_5⟩, ⟨bf_ BK312⟩, ⟨bf_ BK313⟩, ⟨bf_ BK327⟩, ⟨bq_ BK339⟩, ⟨bl_⟩⟩
    rw [if_pos c86] at H
    have c86b0 : ((t335.length : Int) == 1) = true := beq_iff_eq.mpr c86
    have c86b1 : ((t335.length : Int) != 1) = false := bne_eq_false_iff_eq.mpr c86
    clear c86
    replace H := itn_ H; rcases H with ⟨c87b0, H⟩
    have c87b1 : decide (0 < t335.length) = true := n2_ c87b0
    have H' := am_ H
    clear H
    have hnb88 := NB339_312.out
    have hnc88 := NB312_339.out
    have hnb89 := NB339_313.out
    have hnc89 := NB313_339.out
    have hnb90 := NB339_327.out
    have hnc90 := NB327_339.out
    have hcz91_0 : w78.cell? ⟨gb339, 0, none⟩ = some (.slice none 0 0) := (blk_cell BK339.out 0).trans rfl
    have hfz91_0 := blk_frozen BK339.out 0
    have p340 : 0 ≤ (0 : Int) := (by omega)
    have q340 : 0 < (t335.length : Int) := od_
    obtain ⟨ad340, e340, hx340_0⟩ := Kd.at_string (Kd.R_reads' HO337.out).2.2 0 p340 q340
    cases e340
    have qi340 : (0 < t335.length) = True := eq_true (by omega)
    (try rw [show ((0 : Int)).toNat = 0 from rfl] at hx340_0)
    (try rw [Addr.add_zero'] at hx340_0)
    have hn340_0 : ad340.block ≠ gb339 := Kd.own_blk (Kd.R_ne HO337.out BK339.out (by decide))
    replace hx340_0 := (cell_far (p := ⟨gb339, 0, none⟩) (by first | (rw [add_block]; exact hn340_0) | (show (Addr.add _ _).block ≠ _; rw [add_block]; exact hn340_0) | exact hn340_0) (.slice (some ad340) t335.length co79)).trans hx340_0
    clear hn340_0
    replace p340 := eq_true p340
    replace q340 := eq_true q340
    go_wp2
    go_meet
    case rel => exact ⟨_, (((rdOf ByteArray.empty t335 0).toList == ([] : List UInt8))), er_, H', ⟨au3_14⟩, ⟨by (with_reducible repeat (first | apply Kd.R_alloc | apply Kd.R_drewN | apply Kd.R_drew)); exact Kd.R_mono (Kd.R_far (p := ⟨gb339, 0, none⟩) (Kd.R_types HO_5.out BK339.out (by decide)) (fun _ hk => hk.2) (.slice (some ad340) t335.length co79)) (fun _ hk => ⟨hk.1.1, hk.1.2⟩)⟩, ⟨by (with_reducible repeat (first | apply Kd.R_alloc | apply Kd.R_drewN | apply Kd.R_drew)); exact Kd.R_mono (Kd.R_far (p := ⟨gb339, 0, none⟩) (Kd.R_types HO_6.out BK339.out (by decide)) (fun _ hk => hk.2) (.slice (some ad340) t335.length co79)) (fun _ hk => ⟨hk.1.1, hk.1.2⟩)⟩, ⟨by (with_reducible repeat (first | apply Kd.S_alloc | apply Kd.S_drewN | apply Kd.S_drew)); exact Kd.S_mono (Kd.S_far (p := ⟨gb339, 0, none⟩) (Kd.S_mono HO_328001.out (fun k_ hk => (⟨hk, hk.2⟩ : _ ∧ k_ ≠ gb339))) (fun _ hk => hk.2) (.slice (some ad340) t335.length co79)) (fun _ hk => ⟨hk.1.1.1.1, ⟨hk.1.1.1.2, ⟨hk.1.1.2, hk.1.2⟩⟩⟩)⟩, ⟨by (with_reducible repeat (first | apply Kd.R_alloc | apply Kd.R_drewN | apply Kd.R_drew)); exact Kd.R_mono (Kd.R_far (p := ⟨gb339, 0, none⟩) (Kd.R_types HO337.out BK339.out (by decide)) (fun _ hk => hk.2) (.slice (some ad340) t335.length co79)) (fun _ hk => ⟨hk.1.1.2, hk.1.2⟩)⟩, ⟨bf_ BK312⟩, ⟨bf_ BK313⟩, ⟨bf_ BK327⟩, ⟨bq_ BK339⟩, ⟨bl_⟩⟩
   case rest =>
    clear HC73
    try clear c1
    try clear c14
    try clear c14b0
    try clear c14b1
    try clear c25b0
    try clear c25b1
    try clear c38b0
    try clear c38b1
    try clear c40b0
    try clear c40b1
    try clear c43
    try clear c43b0
    try clear c43b1
    try clear c64
    try clear q64
    try clear c65b0
    try clear c66b0
    try clear c67b0
    try clear c68
    try clear c68b0
    try clear c68b1
    try clear c84b0
    try clear c85
    try clear c85b0
    try clear c85b1
    try clear c86
    try clear c86b0
    try clear c86b1
    try clear c87b0
    try clear c87b1
    try clear hcz11_0 hcz11_1 hcz11_2 hcz11_3 hcz11_4
    try clear hcz21_0 hcz21_1 hcz21_2 hcz21_3
    try clear hcz23_0 hcz23_1 hcz23_2 hcz23_3 hcz23_4
    try clear hcz32_0 hcz32_1 hcz32_2 hcz32_3
    try clear hcz34_0 hcz34_1 hcz34_2 hcz34_3
    try clear hcz37_0 hcz37_1 hcz37_2 hcz37_3 hcz37_4
    try clear hcz50_0 hcz50_1 hcz50_2 hcz50_3
    try clear hcz52_0 hcz52_1 hcz52_2 hcz52_3
    try clear hcz61_0 hcz61_1
    try clear hcz63_0 hcz63_1
    try clear hcz71_0 hcz71_1 hcz71_2 hcz71_3 hcz71_4
    try clear hcz76_0 hcz76_1 hcz76_2 hcz76_3
    try clear hcz83_0
    try clear hcz91_0
    try clear hcz95_0
    try clear hfz11_0 hfz11_1 hfz11_2 hfz11_3 hfz11_4
    try clear hfz21_0 hfz21_1 hfz21_2 hfz21_3
    try clear hfz23_0 hfz23_1 hfz23_2 hfz23_3 hfz23_4
    try clear hfz32_0 hfz32_1 hfz32_2 hfz32_3
    try clear hfz34_0 hfz34_1 hfz34_2 hfz34_3
    try clear hfz37_0 hfz37_1 hfz37_2 hfz37_3 hfz37_4
    try clear hfz50_0 hfz50_1 hfz50_2 hfz50_3
    try clear hfz52_0 hfz52_1 hfz52_2 hfz52_3
    try clear hfz61_0 hfz61_1
    try clear hfz63_0 hfz63_1
    try clear hfz71_0 hfz71_1 hfz71_2 hfz71_3 hfz71_4
    try clear hfz76_0 hfz76_1 hfz76_2 hfz76_3
    try clear hfz83_0
    try clear hfz91_0
    try clear hfz95_0
    try clear hx322_0
    try clear hx326_0
    try clear hx334_0
    try clear hx340_0
    try clear p322
    try clear p326
    try clear p334
    try clear p340
    try clear q322
    try clear q326
    try clear q334
    try clear q340
    try clear q64
    obtain ⟨kq, x96_72, rfl, HA, HJ72, HO_5, HO_6, HO_328001, HO_340000, BK312, BK313, BK327, BK339, HB⟩ := hcut
    cases kq with
    | zero => exact absurd HA.out (by simp [F41.j1])
    | succ kj72 =>
     have H := HA.out
     clear HA
     simp only [F41.j1] at H
     replace H := ib_ H; rcases H with ⟨rfl, H⟩ | ⟨rfl, H⟩
     rotate_left
     ·replace H := it_ H; rcases H with ⟨(c113b0 : decide (0 ≤ t338) = true), H⟩ | ⟨(c113b0 : decide (0 ≤ t338) = false), H⟩
      ·simp only [Option.some.injEq, Prod.mk.injEq] at H
       obtain ⟨rfl, rfl, rfl, rfl, rfl⟩ := H
       have hnb114 := NB313_312.out
       have hnc114 := NB312_313.out
       have hnb115 := NB313_327.out
       have hnc115 := NB327_313.out
       have hnb116 := NB313_339.out
       have hnc116 := NB339_313.out
       obtain ⟨hcz117_0, hcz117_1, hcz117_2, hcz117_3, hcz117_4, hfz117_0, hfz117_1, hfz117_2, hfz117_3, hfz117_4⟩ := cellsF5 BK313.out
       go_wp2
       refine bodyPost_ret (results_cell_row rfl _ _ gb313 66 #[.string (⟨#[]⟩ : ByteArray), .slice none 0 0, .int .i64 0, .int .i64 t338, .int .i64 3] (0, 0) _ rfl (bq_ BK313) Try.underlying66 rfl (by kernel_rfl)) rfl ?_
       exact ⟨_, au3_0, au3_1, bl_⟩
      replace H := iln_ H; rcases H with ⟨LMc118, H⟩
      obtain ⟨y344, hy344⟩ : ∃ y_ : List (S102), y_ = (x328001_1 ++ [(⟨t335⟩ : S102)]) := ⟨_, rfl⟩
      replace H : (F41.l0 kj72 t319 t323 (wrap64 (x8_1 + (wrap64 (((rdOf ByteArray.empty y329 x59_1).size : Int) + 1)))) y329 (y329.length : Int) (wrap64 (x59_1 + 1)) a0_0 a0_1 a0_2 a0_3 (rdOf ByteArray.empty t323 0) y344) = some (r1, r2, r3, r4, r5) := by first | (rw [hy344]; exact H) | exact H
      have Ny344 := am_ hy344
      clear hy344
      have H' := am_ H
      clear H
      have hnb119 := NB327_312.out
      have hnc119 := NB312_327.out
      have hnb120 := NB327_313.out
      have hnc120 := NB313_327.out
      have hnb121 := NB327_339.out
      have hnc121 := NB339_327.out
      obtain ⟨hcz122_0, hcz122_1, hfz122_0, hfz122_1⟩ := cellsF2 BK327.out
      have hnb123 := NB339_312.out
      have hnc123 := NB312_339.out
      have hnb124 := NB339_313.out
      have hnc124 := NB313_339.out
      have hcz125_0 : wc.cell? ⟨gb339, 0, none⟩ = some (.slice Ao79 t335.length co79) := (blk_cell BK339.out 0).trans rfl
      have hfz125_0 := blk_frozen BK339.out 0
      go_wp2_with (first | ((with_reducible refine gate_builtin (b := .append) (xs := #[.tmp 103, .tmp 105]) rfl ?_); (try (refine gate_guard (by rfl) ?_; dsimp only)); at_builtin; refine Kd.S_append k102 (w0 := w) w.heap.size rfl (.tmp 103) (.tmp 105) 57 102 (.agg #[(.slice none 0 0)]) 24 rfl Try.underlying57 info102 rfl (by decide) (by omega) u328001 x328001_1 (⟨t335⟩ : S102) [.slice Ao79 t335.length co79] (fun k_ => some k_ ≠ (.slice (some ad322) t319.length co54 : Value).ownBlock ∧ some k_ ≠ (.slice (some ad326) t323.length co57 : Value).ownBlock ∧ k_ ≠ gb339) (fun k_ => some k_ = (.slice Ao79 t335.length co79 : Value).ownBlock) rfl rfl ?aP (fun k_ hk_ => ((Kd.R_mono (ok' := fun k_ => ((fun k_ => some k_ ≠ (.slice (some ad322) t319.length co54 : Value).ownBlock ∧ some k_ ≠ (.slice (some ad326) t323.length co57 : Value).ownBlock ∧ k_ ≠ gb339)) k_ ∧ some k_ ≠ (u328001 : Value).ownBlock) (Kd.R_types (Kd.R_apart' (HO_340000.out) (Kd.S_typed HO_328001.out) (by decide)) BK339.out (by decide)) (fun k_ hk => ⟨⟨hk.1.1.1, ⟨hk.1.1.2, hk.2⟩⟩, hk.1.2⟩))).1 k_ hk_.symm) ?aF ?aO ?aB ?aS ?aL ?_; (case aP => exact au3_9); (case aB => exact bl_); (case aF => exact au3_15); (case aO => exact au3_16); (case aS => exact (below_size bl_)); (case aL => have := LMc118.out; omega); intro v345 w126 ho hb hg hat; rw [← Ny344.out] at ho; have n0_ := am_ (Kd.R_over' (rk_ HO_5) (Kd.S_typed au3_8) (by decide) hg); have n1_ := am_ (Kd.R_over' (rk_ HO_6) (Kd.S_typed au3_8) (by decide) hg); have n2_ := am_ (bg_ BK312 hg (Kd.S_ne HO_328001.out BK312.out (by decide))); have n3_ := am_ (bg_ BK313 hg (Kd.S_ne HO_328001.out BK313.out (by decide))); have n4_ := am_ (bg_ BK327 hg (Kd.S_ne HO_328001.out BK327.out (by decide))); have n5_ := am_ (bg_ BK339 hg (Kd.S_away HO_328001.out (fun _ hk => hk.2.2.2))); have n6_ := am_ (hb); have n7_ := am_ (ho); clear HO_5; clear HO_6; clear BK312; clear BK313; clear BK327; clear BK339; clear HB; clear HO_328001; clear HO_340000; have HO_5 := n0_; have HO_6 := n1_; have BK312 := n2_; have BK313 := n3_; have BK327 := n4_; have BK339 := n5_; have HB := n6_; have HO346 := n7_; clear n0_ n1_ n2_ n3_ n4_ n5_ n6_ n7_; clear ho hb hg hat; obtain ⟨Ao127, co127, eo127⟩ := Kd.S_slice HO346.out; subst eo127; obtain ⟨hcz128_0, hcz128_1, hfz128_0, hfz128_1⟩ := cellsF2 BK327.out))
      go_roundg kj72
      case measure => have := HK1.out; have := HJ72.out; omega
      case rel => exact ⟨(wrap64 (x8_1 + (wrap64 (((rdOf ByteArray.empty y329 x59_1).size : Int) + 1)))), (wrap64 (x59_1 + 1)), (x314000_1), (x314002_1), (x314003_1), (x314004_1), (y344), (.slice Ao127 y344.length co127), er_, er_, H', ⟨by have := HK1.out; have := HJ72.out; omega⟩, ⟨by (with_reducible repeat (first | apply Kd.R_alloc | apply Kd.R_drewN | apply Kd.R_drew)); exact Kd.R_mono (Kd.R_far (p := ⟨gb327, 1, none⟩) (Kd.R_types HO_5.out BK327.out (by decide)) (fun _ hk => hk.2) (.slice Ao127 y344.length co127)) (fun _ hk => hk.1.1)⟩, ⟨by (with_reducible repeat (first | apply Kd.R_alloc | apply Kd.R_drewN | apply Kd.R_drew)); exact Kd.R_mono (Kd.R_far (p := ⟨gb327, 1, none⟩) (Kd.R_types HO_6.out BK327.out (by decide)) (fun _ hk => hk.2) (.slice Ao127 y344.length co127)) (fun _ hk => hk.1.1)⟩, ⟨by (with_reducible repeat (first | apply Kd.S_alloc | apply Kd.S_drewN | apply Kd.S_drew)); exact Kd.S_mono (Kd.S_far (p := ⟨gb327, 1, none⟩) (Kd.S_types HO346.out BK327.out (by decide)) (fun _ hk => hk.2) (.slice Ao127 y344.length co127)) (fun _ hk => ⟨hk.1.1, hk.1.2.1⟩)⟩, ⟨bf_ BK312⟩, ⟨bf_ BK313⟩, ⟨bq_ BK327⟩, ⟨bl_⟩⟩
     replace H := it_ H; rcases H with ⟨(c97b0 : decide (0 ≤ x8_1) = true), H⟩ | ⟨(c97b0 : decide (0 ≤ x8_1) = false), H⟩
     ·simp only [Option.some.injEq, Prod.mk.injEq] at H
      obtain ⟨rfl, rfl, rfl, rfl, rfl⟩ := H
      have hnb98 := NB313_312.out
      have hnc98 := NB312_313.out
      have hnb99 := NB313_327.out
      have hnc99 := NB327_313.out
      have hnb100 := NB313_339.out
      have hnc100 := NB339_313.out
      obtain ⟨hcz101_0, hcz101_1, hcz101_2, hcz101_3, hcz101_4, hfz101_0, hfz101_1, hfz101_2, hfz101_3, hfz101_4⟩ := cellsF5 BK313.out
      go_wp2
      refine bodyPost_ret (results_cell_row rfl _ _ gb313 66 #[.string (⟨#[]⟩ : ByteArray), .slice none 0 0, .int .i64 0, .int .i64 x8_1, .int .i64 3] (0, 0) _ rfl (bq_ BK313) Try.underlying66 rfl (by kernel_rfl)) rfl ?_
      exact ⟨_, au3_0, au3_1, bl_⟩
     replace H := iln_ H; rcases H with ⟨LMc102, H⟩
     obtain ⟨y341, hy341⟩ : ∃ y_ : List (S102), y_ = (x328001_1 ++ [(⟨t335⟩ : S102)]) := ⟨_, rfl⟩
     replace H : (F41.l0 kj72 t319 t323 (wrap64 (x8_1 + (wrap64 (((rdOf ByteArray.empty y329 x59_1).size : Int) + 1)))) y329 (y329.length : Int) (wrap64 (x59_1 + 1)) a0_0 a0_1 a0_2 a0_3 (rdOf ByteArray.empty t323 0) y341) = some (r1, r2, r3, r4, r5) := by first | (rw [hy341]; exact H) | exact H
     have Ny341 := am_ hy341
     clear hy341
     have H' := am_ H
     clear H
     have hnb103 := NB327_312.out
     have hnc103 := NB312_327.out
     have hnb104 := NB327_313.out
     have hnc104 := NB313_327.out
     have hnb105 := NB327_339.out
     have hnc105 := NB339_327.out
     obtain ⟨hcz106_0, hcz106_1, hfz106_0, hfz106_1⟩ := cellsF2 BK327.out
     have hnb107 := NB339_312.out
     have hnc107 := NB312_339.out
     have hnb108 := NB339_313.out
     have hnc108 := NB313_339.out
     have hcz109_0 : wc.cell? ⟨gb339, 0, none⟩ = some (.slice Ao79 t335.length co79) := (blk_cell BK339.out 0).trans rfl
     have hfz109_0 := blk_frozen BK339.out 0
     go_wp2_with (first | ((with_reducible refine gate_builtin (b := .append) (xs := #[.tmp 103, .tmp 105]) rfl ?_); (try (refine gate_guard (by rfl) ?_; dsimp only)); at_builtin; refine Kd.S_append k102 (w0 := w) w.heap.size rfl (.tmp 103) (.tmp 105) 57 102 (.agg #[(.slice none 0 0)]) 24 rfl Try.underlying57 info102 rfl (by decide) (by omega) u328001 x328001_1 (⟨t335⟩ : S102) [.slice Ao79 t335.length co79] (fun k_ => some k_ ≠ (.slice (some ad322) t319.length co54 : Value).ownBlock ∧ some k_ ≠ (.slice (some ad326) t323.length co57 : Value).ownBlock ∧ k_ ≠ gb339) (fun k_ => some k_ = (.slice Ao79 t335.length co79 : Value).ownBlock) rfl rfl ?aP (fun k_ hk_ => ((Kd.R_mono (ok' := fun k_ => ((fun k_ => some k_ ≠ (.slice (some ad322) t319.length co54 : Value).ownBlock ∧ some k_ ≠ (.slice (some ad326) t323.length co57 : Value).ownBlock ∧ k_ ≠ gb339)) k_ ∧ some k_ ≠ (u328001 : Value).ownBlock) (Kd.R_types (Kd.R_apart' (HO_340000.out) (Kd.S_typed HO_328001.out) (by decide)) BK339.out (by decide)) (fun k_ hk => ⟨⟨hk.1.1.1, ⟨hk.1.1.2, hk.2⟩⟩, hk.1.2⟩))).1 k_ hk_.symm) ?aF ?aO ?aB ?aS ?aL ?_; (case aP => exact au3_9); (case aB => exact bl_); (case aF => exact au3_15); (case aO => exact au3_16); (case aS => exact (below_size bl_)); (case aL => have := LMc102.out; omega); intro v342 w110 ho hb hg hat; rw [← Ny341.out] at ho; have n0_ := am_ (Kd.R_over' (rk_ HO_5) (Kd.S_typed au3_8) (by decide) hg); have n1_ := am_ (Kd.R_over' (rk_ HO_6) (Kd.S_typed au3_8) (by decide) hg); have n2_ := am_ (bg_ BK312 hg (Kd.S_ne HO_328001.out BK312.out (by decide))); have n3_ := am_ (bg_ BK313 hg (Kd.S_ne HO_328001.out BK313.out (by decide))); have n4_ := am_ (bg_ BK327 hg (Kd.S_ne HO_328001.out BK327.out (by decide))); have n5_ := am_ (bg_ BK339 hg (Kd.S_away HO_328001.out (fun _ hk => hk.2.2.2))); have n6_ := am_ (hb); have n7_ := am_ (ho); clear HO_5; clear HO_6; clear BK312; clear BK313; clear BK327; clear BK339; clear HB; clear HO_328001; clear HO_340000; have HO_5 := n0_; have HO_6 := n1_; have BK312 := n2_; have BK313 := n3_; have BK327 := n4_; have BK339 := n5_; have HB := n6_; have HO343 := n7_; clear n0_ n1_ n2_ n3_ n4_ n5_ n6_ n7_; clear ho hb hg hat; obtain ⟨Ao111, co111, eo111⟩ := Kd.S_slice HO343.out; subst eo111; obtain ⟨hcz112_0, hcz112_1, hfz112_0, hfz112_1⟩ := cellsF2 BK327.out))
     go_roundg kj72
     case measure => have := HK1.out; have := HJ72.out; omega
     case rel => exact ⟨(wrap64 (x8_1 + (wrap64 (((rdOf ByteArray.empty y329 x59_1).size : Int) + 1)))), (wrap64 (x59_1 + 1)), (x314000_1), (x314002_1), (x314003_1), (x314004_1), (y341), (.slice Ao111 y341.length co111), er_, er_, H', ⟨by have := HK1.out; have := HJ72.out; omega⟩, ⟨by (with_reducible repeat (first | apply Kd.R_alloc | apply Kd.R_drewN | apply Kd.R_drew)); exact Kd.R_mono (Kd.R_far (p := ⟨gb327, 1, none⟩) (Kd.R_types HO_5.out BK327.out (by decide)) (fun _ hk => hk.2) (.slice Ao111 y341.length co111)) (fun _ hk => hk.1.1)⟩, ⟨by (with_reducible repeat (first | apply Kd.R_alloc | apply Kd.R_drewN | apply Kd.R_drew)); exact Kd.R_mono (Kd.R_far (p := ⟨gb327, 1, none⟩) (Kd.R_types HO_6.out BK327.out (by decide)) (fun _ hk => hk.2) (.slice Ao111 y341.length co111)) (fun _ hk => hk.1.1)⟩, ⟨by (with_reducible repeat (first | apply Kd.S_alloc | apply Kd.S_drewN | apply Kd.S_drew)); exact Kd.S_mono (Kd.S_far (p := ⟨gb327, 1, none⟩) (Kd.S_types HO343.out BK327.out (by decide)) (fun _ hk => hk.2) (.slice Ao111 y341.length co111)) (fun _ hk => ⟨hk.1.1, hk.1.2.1⟩)⟩, ⟨bf_ BK312⟩, ⟨bf_ BK313⟩, ⟨bq_ BK327⟩, ⟨bl_⟩⟩
end Go.Proofs.Ytchoalagkcdbhaa.PFnExactSegmentRead
