-- printed by a program of this session (wip/xp/xprint.py) out of the translation; Lean checks it
import Derived.Test.YtlghcbmkhdibdaaPFnFirstSegmentsx0
import Derived.Test.YtlghcbmkhdibdaaPFnFirstSegmentsx3
namespace Go.Proofs.Ytlghcbmkhdibdaa.PFnFirstSegments
open Go.RowKit Go.Proofs.YtlghcbmkhdibdaaW.PrintWords Go.Proofs.YtlghcbmkhdibdaaW.PrintLast Go.Proofs.YtlghcbmkhdibdaaW.PrintMore
attribute [local go_sem] max2_int min2_int max_two min_two max_three min_three max_four min_four   -- for this text's walks alone
set_option linter.unusedVariables false
set_option linter.unusedSimpArgs false
set_option maxHeartbeats 8000000
set_option maxRecDepth 100000

theorem au4_0 {p : Prop} (h : p := by first | rfl | (simp [errW_none, errW_some] <;> rfl) | (simp [*, errW_none, errW_some] <;> rfl)) : p := h
theorem au4_1 {p : Prop} (h : p := by first | exact Kd.own_blk (Kd.R_ne HO_5.out BK562.out (by decide)) | (rw [add_block]; exact Kd.own_blk (Kd.R_ne HO_5.out BK562.out (by decide))) | (show (Addr.add _ _).block ≠ _; rw [add_block]; exact Kd.own_blk (Kd.R_ne HO_5.out BK562.out (by decide))) | (dsimp only; exact Kd.own_blk (Kd.R_ne HO_5.out BK562.out (by decide)))) : p := h
theorem au4_2 {p : Prop} (h : p := by first | exact Kd.S_nil _ _ _ _ _ | exact Kd.N_nil _ _ _ _ _ | exact Kd.V_nil _ _ _ _ _ | exact Kd.Q_nil _ _ _ _ _ | exact Kd.R_nil _ _ _ _ _) : p := h
theorem au4_3 {p : Prop} (h : p := by repeat (first | exact (Kd.R_reads' HO565.out).2.2 | (with_reducible refine Kd.C_alloc ?_ _) | (with_reducible refine Kd.C_drewN ?_ _) | (with_reducible refine Kd.C_drew ?_))) : p := h
theorem au4_4 {p : Prop} (h : p := by (with_reducible repeat (first | apply Kd.S_alloc | apply Kd.S_drewN | apply Kd.S_drew)); exact Kd.S_mono (Kd.S_far (p := ⟨gb588, 0, none⟩) (Kd.S_mono HO_577001.out (fun k_ hk => (⟨hk, hk.2⟩ : _ ∧ k_ ≠ gb588))) (fun _ hk => hk.2) (.slice Ao79 t584.length co79)) (fun _ hk => ⟨hk.1.1.1.1, ⟨hk.1.1.1.2, ⟨hk.1.1.2, hk.1.2⟩⟩⟩)) : p := h
theorem au4_5 {p : Prop} (h : p := by (with_reducible repeat (first | apply Kd.R_alloc | apply Kd.R_drewN | apply Kd.R_drew)); exact Kd.R_mono (Kd.R_far (p := ⟨gb588, 0, none⟩) (Kd.R_types HO586.out BK588.out (by decide)) (fun _ hk => hk.2) (.slice Ao79 t584.length co79)) (fun _ hk => ⟨hk.1.1.2, hk.1.2⟩)) : p := h
theorem au4_6 {p : Prop} (h : p := by (with_reducible repeat (first | apply Kd.R_alloc | apply Kd.R_drewN | apply Kd.R_drew)); exact Kd.R_mono (Kd.R_far (p := ⟨gb588, 0, none⟩) (Kd.R_types HO_5.out BK588.out (by decide)) (fun _ hk => hk.2) (.slice Ao79 t584.length co79)) (fun _ hk => ⟨hk.1.1, hk.1.2⟩)) : p := h
theorem au4_7 {p : Prop} (h : p := by (with_reducible repeat (first | apply Kd.R_alloc | apply Kd.R_drewN | apply Kd.R_drew)); exact Kd.R_mono (Kd.R_far (p := ⟨gb588, 0, none⟩) (Kd.R_types HO_6.out BK588.out (by decide)) (fun _ hk => hk.2) (.slice Ao79 t584.length co79)) (fun _ hk => ⟨hk.1.1, hk.1.2⟩)) : p := h
theorem au4_8 {p : Prop} (h : p := by (with_reducible repeat (first | apply Kd.S_alloc | apply Kd.S_drewN | apply Kd.S_drew)); exact HO_577001.out) : p := h
theorem au4_9 {p : Prop} (h : p := by exact k122_mkM _ _ _ (⟨t584⟩ : S122) (Kd.R_mono (Kd.R_tight rfl (Kd.R_mono (ok' := fun k_ => ((fun k_ => some k_ ≠ (.slice (some ad571) t568.length co54 : Value).ownBlock ∧ some k_ ≠ (.slice (some ad575) t572.length co57 : Value).ownBlock ∧ k_ ≠ gb588)) k_ ∧ some k_ ≠ (u577001 : Value).ownBlock) (Kd.R_types (Kd.R_apart' (HO_589000.out) (Kd.S_typed HO_577001.out) (by decide)) BK588.out (by decide)) (fun k_ hk => ⟨⟨hk.1.1.1, ⟨hk.1.1.2, hk.2⟩⟩, hk.1.2⟩))) (fun _ h_ => h_))) : p := h
theorem au4_10 {p : Prop} (h : p := by exact (Reps.one (show Kd.M Kd.string _ _ _ a1 [.string a1] from rfl) (Reps.none _ _))) : p := h
theorem au4_11 {p : Prop} (h : p := by rintro w' ⟨s0, s1, s2, s3, s4⟩; go_simp; with_reducible rfl) : p := h
theorem au4_12 {p : Prop} (h : p := by (with_reducible repeat (first | apply Kd.R_alloc | apply Kd.R_drewN | apply Kd.R_drew)); exact Kd.R_mono (Kd.R_far (p := ⟨gb552, 0, none⟩) (Kd.R_types HO551.out BK552.out (by decide)) (fun _ hk => hk.2) (.slice none 0 0)) (fun _ hk => (by simp [Value.ownBlock]))) : p := h
theorem au4_13 {p : Prop} (h : p := by exact (fun k_ hk => ⟨Kd.fresh' (Kd.R_lt (rk_ HO_5)) k_ hk, Kd.fresh' (Kd.R_lt (rk_ HO_6)) k_ hk, Kd.freshB (g := gb588) (o := .cells #[.slice Ao79 t584.length co79] 122 (0, 0)) (bk_ BK588) k_ hk⟩)) : p := h
theorem au4_14 {p : Prop} (h : p := by exact (by (with_reducible repeat (first | apply Kd.S_alloc | apply Kd.S_drewN | apply Kd.S_drew)); exact Kd.S_mono HO_577001.out (fun k_ hk => ⟨⟨hk.1, ⟨hk.2.1, hk.2.2.2⟩⟩, fun e_ => hk.2.2.1 e_⟩))) : p := h
theorem au4_15 {p : Prop} (h : p := by first | rfl | (simp [errW_none, errW_some] <;> rfl) | (simp only [← hji61]; first | rfl | (simp [errW_none, errW_some] <;> rfl)) | (simp [*, errW_none, errW_some] <;> rfl)) : p := h
theorem au4_16 {p : Prop} (h : p := by rw [← hq_]; exact (by (with_reducible repeat (first | apply Kd.R_alloc | apply Kd.R_drewN | apply Kd.R_drew)); exact Kd.R_mono HO_553000.out (fun _ hk => ⟨hk.2, hk.1⟩))) : p := h
theorem au4_17 {p : Prop} (h : p := by (try simp only [List.map_toArray, List.map_cons, List.map_nil]); first | done | (simp only [hji13]; rfl) | rfl | (simp only [List.length_drop, List.length_take]; rfl)) : p := h
theorem au4_18 {p : Prop} (h : p := by rintro w' ⟨s0, s1, s2, s3⟩; go_simp; with_reducible rfl) : p := h
theorem au4_19 {p : Prop} (h : p := by have := HK1.out; first | omega | exact Nat.le_refl _) : p := h
theorem au4_20 {p : Prop} (h : p := by first | exact Kd.R_nil _ _ _ _ _ | exact Kd.N_nil _ _ _ _ _ | exact Kd.V_nil _ _ _ _ _ | exact Kd.Q_nil _ _ _ _ _ | exact Kd.S_nil _ _ _ _ _) : p := h
theorem au4_21 {p : Prop} (h : p := by exact (Kd.R_reads' HO565.out).2.1) : p := h

/-! ### F112: function 112 -/
def F112.l0 : Nat → ByteArray → List Int → Int → Int → Int → Int → Int → Option (ByteArray × Int)
  | 0, _, _, _, _, _, _, _ => none
  | k + 1, x1, x6, x7, x536000, x536001, x536002, x536003 => if x7 < (x1.size : Int) then (if 0 ≤ x7 then (if (wrap64 (bt x1 x7)) = x536003 then (if (wrap64 (x7 + 1)) = (x1.size : Int) then (some ((⟨#[]⟩ : ByteArray), wrap64 ((wrap64 (x7 + 1)) - 1))) else (if 0 ≤ (wrap64 (x7 + 1)) then (if (wrap64 (x7 + 1)) < (x1.size : Int) then ((F119.f k x536000 x536001 x536002 x536003 (bt x1 (wrap64 (x7 + 1)))).bind fun t539 => (if t539 = true then (if x6.length < 140737488355328 then (F112.l0 k x1 (x6 ++ [bt x1 (wrap64 (x7 + 1))]) (wrap64 ((wrap64 (x7 + 1)) + 1)) x536000 x536001 x536002 x536003) else (none)) else (some ((⟨#[]⟩ : ByteArray), wrap64 ((wrap64 (x7 + 1)) - 1))))) else (none)) else (none))) else ((F119.f k x536000 x536001 x536002 x536003 (bt x1 x7)).bind fun t543 => (if t543 = true then (some ((⟨#[]⟩ : ByteArray), x7)) else (if x6.length < 140737488355328 then (F112.l0 k x1 (x6 ++ [bt x1 x7]) (wrap64 (x7 + 1)) x536000 x536001 x536002 x536003) else (none))))) else (none)) else (some (strOfNums x6, (-1)))
def F112.f (k : Nat) (a0_0 : Int) (a0_1 : Int) (a0_2 : Int) (a0_3 : Int) (a1 : ByteArray) : Option (ByteArray × Int) := F112.l0 k a1 (([] : List Int)) 0 a0_0 a0_1 a0_2 a0_3
theorem F112.mono_l : ∀ k, (∀ y0 y1 y2 y3 y4 y5 y6, LeO (F112.l0 k y0 y1 y2 y3 y4 y5 y6) (F112.l0 (k + 1) y0 y1 y2 y3 y4 y5 y6))
 | 0 => fun _ _ _ _ _ _ _ r h => by simp [F112.l0] at h
 | k + 1 => by
  have ih0 := F112.mono_l k
  intro y0 y1 y2 y3 y4 y5 y6
  unfold F112.l0
  repeat' with_reducible first | exact ih0 _ _ _ _ _ _ _ | exact F119.mono _ _ _ _ _ _ | exact LeO.refl _ | exact LeO.none _ | refine LeO.ite ?_ ?_ | refine LeO.bind ?_ (fun _ => ?_)
theorem F112.mono : ∀ a0 a1 a2 a3 a4 k, LeO (F112.f k a0 a1 a2 a3 a4) (F112.f (k + 1) a0 a1 a2 a3 a4) := by
 intro a0 a1 a2 a3 a4 k
 have ih0 := F112.mono_l k
 unfold F112.f
 repeat' with_reducible first | exact ih0 _ _ _ _ _ _ _ | exact F119.mono _ _ _ _ _ _ | exact LeO.refl _ | exact LeO.none _ | refine LeO.ite ?_ ?_ | refine LeO.bind ?_ (fun _ => ?_)
def F112.T8 : Bool × List (List Nat × List Nat) := (true, [([], []), ([], []), ([1], [1]), ([0, 2], [0, 2]), ([3], [3]), ([4], [4]), ([4], [4]), ([4], [4]), ([6, 7, 4], [4, 6, 7]), ([5, 8, 4, 4], [4, 5, 8]), ([9, 4], [4, 9]), ([4, 10], [4, 10])])
def F112.B8 : List Nat := [0, 0, 2, 7, 15, 31, 31, 31, 223, 511, 1023, 2047]
theorem F112.tab8 : rtab .any (opsOf Try.f112 8) = F112.T8 := by kernel_rfl
theorem F112.bits8 : waitsOk F112.T8.2 F112.B8 = true := by kernel_rfl
theorem F112.calls (k : Nat) (a0_0 : Int) (a0_1 : Int) (a0_2 : Int) (a0_3 : Int) (a1 : ByteArray) (r1 : ByteArray) (r2 : Int) (w : World) (h : F112.f k a0_0 a0_1 a0_2 a0_3 a1 = some (r1, r2)) :
  Calls Try.prog 112 #[.agg #[.int .i64 a0_0, .int .i64 a0_1, .int .i64 a0_2, .int .i64 a0_3], .string a1] w fun e w' => e = .returned (.tuple #[.string r1, .int .i64 r2]) ∧ Below w.heap.size w w' := by
 have hu45 := Try.underlying45
 have HB := am_ (Below.refl w.heap.size w)
 have H : (F112.l0 k a1 (([] : List Int)) 0 a0_0 a0_1 a0_2 a0_3) = some (r1, r2) := h
 clear h
 obtain ⟨y536, hy536⟩ : ∃ y_ : List Int, y_ = (([] : List Int)) := ⟨_, rfl⟩
 replace H : (F112.l0 k a1 y536 0 a0_0 a0_1 a0_2 a0_3) = some (r1, r2) := by first | (rw [hy536]; exact H) | exact H
 have Ny536 := am_ hy536
 clear hy536
 have H' := am_ H
 clear H
 go_enter Try.func112, Try.ntmps112
 go_wp2_with (first | ((with_reducible refine gate_dst (N := 2) rfl ?_); refine be_ 2 #[.int .i64 a0_0, .int .i64 a0_1, .int .i64 a0_2, .int .i64 a0_3] 45 ?_; intro gb535 hg w3 hbox hb; have BK535 := am_ (hbox); have GW535 := am_ (gw_ hg bl_); have GE535 := GW535; replace HB := hs_ w hb; clear hb hbox hg) | ((with_reducible refine gate_dst (N := 9) rfl ?_); refine Kd.R_lit (Kd.int .u8) _ 5 ?hg (N := 9) ?hd (xs := ([] : List Int)) (inner := []) (ok := fun _ => True) (okp := fun _ => True) ?hr ?hp (fun _ hk => hk) trivial (Below.refl _ _) (Nat.le_refl _) (by simp) ?_; (case hd => rfl); (case hg => rfl); (case hr => exact hr_); (case hp => exact (Reps.none _ _)); intro v537 w4 ho5 hb hg_ hnew_; clear hg_ hnew_; (first | rw [← Ny536.out] at ho5 | (simp only [Int.reduceToNat] at ho5; rw [← Ny536.out] at ho5)); have HO538 := am_ (Kd.R_lower ho5 (below_size bl_)); replace BK535 := bb_ BK535 hb; replace HB := hs_ w hb; clear hb ho5))
 go_loopg [6, 7] k (fun kq v6 v7 w' => ∃ (x6_1 : List Int) (x7_1 : Int), v7 = .int .i64 x7_1 ∧ Aside0 (F112.l0 kq a1 x6_1 x7_1 a0_0 a0_1 a0_2 a0_3 = some (r1, r2)) ∧ Aside0 (kq ≤ k) ∧ Aside0 (Kd.R (Kd.int .u8) 5 w' w.heap.size (fun _ => True) v6 x6_1) ∧ Aside0 (w'.heap[gb535]? = some (.cells #[.int .i64 a0_0, .int .i64 a0_1, .int .i64 a0_2, .int .i64 a0_3] 45 (0, 0))) ∧ Aside0 (Below w.heap.size w w'))
 case atStart => exact ⟨(y536), (0), er_, H', ⟨Nat.le_refl _⟩, ⟨rk_ HO538⟩, ⟨bk_ BK535⟩, ⟨bl_⟩⟩
 case round =>
  clear H'
  obtain ⟨x6_1, x7_1, rfl, HA, HK1, HO_6, BK535, HB⟩ := hrel
  cases gk with
  | zero => exact absurd HA.out (by simp [F112.l0])
  | succ k1 =>
   have H := HA.out
   clear HA
   simp only [F112.l0] at H
   replace H := it_ H; rcases H with ⟨c6b0, H⟩ | ⟨c6b0, H⟩
   rotate_left
   ·simp only [Option.some.injEq, Prod.mk.injEq] at H
    obtain ⟨rfl, rfl⟩ := H
    have hcv36 := own_string (P := Try.prog) Try.underlying43 Try.underlying5 Try.underlying9 (Kd.own_of_R HO_6.out)
    go_wp2
    go_ret2
    exact ⟨au4_0, bl_⟩

   replace H := itn_ H; rcases H with ⟨c7b0, H⟩
   by_cases c9 : (wrap64 (bt a1 x7_1)) = a0_3
   rotate_left
   ·rw [if_neg c9] at H
    have c9b0 : ((wrap64 (bt a1 x7_1)) == a0_3) = false := beq_eq_false_iff_ne.mpr c9
    have c9b1 : ((wrap64 (bt a1 x7_1)) != a0_3) = true := bne_iff_ne.mpr c9
    replace H := bi_ H; rcases H with ⟨t543, A28, H⟩
    replace H := ib_ H; rcases H with ⟨rfl, H⟩ | ⟨rfl, H⟩
    ·simp only [Option.some.injEq, Prod.mk.injEq] at H
     obtain ⟨rfl, rfl⟩ := H
     have p8 : 0 ≤ (x7_1 : Int) := od_
     have q8 : x7_1 < (a1.size : Int) := od_
     have hx8 := bt_at a1 x7_1
     replace p8 := eq_true p8
     replace q8 := eq_true q8
     obtain ⟨hcz30_0, hcz30_1, hcz30_2, hcz30_3, hfz30_0, hfz30_1, hfz30_2, hfz30_3⟩ := cellsF4 BK535.out
     go_wp2_with (first | ((with_reducible refine gate_callee (f := 119) rfl ?_); refine gl_ 45 Try.func119 #[.agg #[.int .i64 a0_0, .int .i64 a0_1, .int .i64 a0_2, .int .i64 a0_3], .int .u8 (bt a1 x7_1)] ?_ rfl rfl rfl rfl; (with_reducible refine (F119.calls k1 a0_0 a0_1 a0_2 a0_3 (bt a1 x7_1) true _ A28.out).mono ?_); rintro e w31 ⟨rfl, hb⟩; refine ⟨_, rfl, ?_⟩; replace HO_6 := am_ (Kd.R_below (rk_ HO_6) hb); replace BK535 := bb_ BK535 hb; replace HB := hs_ w hb; (try clear hb)))
     go_ret2
     exact ⟨au4_0, bl_⟩
    replace H := iln_ H; rcases H with ⟨LMc32, H⟩
    obtain ⟨y544, hy544⟩ : ∃ y_ : List Int, y_ = (x6_1 ++ [bt a1 x7_1]) := ⟨_, rfl⟩
    replace H : (F112.l0 k1 a1 y544 (wrap64 (x7_1 + 1)) a0_0 a0_1 a0_2 a0_3) = some (r1, r2) := by first | (rw [hy544]; exact H) | exact H
    have Ny544 := am_ hy544
    clear hy544
    have H' := am_ H
    clear H
    have p8 : 0 ≤ (x7_1 : Int) := od_
    have q8 : x7_1 < (a1.size : Int) := od_
    have hx8 := bt_at a1 x7_1
    replace p8 := eq_true p8
    replace q8 := eq_true q8
    obtain ⟨hcz33_0, hcz33_1, hcz33_2, hcz33_3, hfz33_0, hfz33_1, hfz33_2, hfz33_3⟩ := cellsF4 BK535.out
    go_wp2_with (first | ((with_reducible refine gate_callee (f := 119) rfl ?_); refine gl_ 45 Try.func119 #[.agg #[.int .i64 a0_0, .int .i64 a0_1, .int .i64 a0_2, .int .i64 a0_3], .int .u8 (bt a1 x7_1)] ?_ rfl rfl rfl rfl; (with_reducible refine (F119.calls k1 a0_0 a0_1 a0_2 a0_3 (bt a1 x7_1) false _ A28.out).mono ?_); rintro e w34 ⟨rfl, hb⟩; refine ⟨_, rfl, ?_⟩; replace HO_6 := am_ (Kd.R_below (rk_ HO_6) hb); replace BK535 := bb_ BK535 hb; replace HB := hs_ w hb; (try clear hb)) | ((with_reducible refine gate_builtin (b := .append) (xs := #[.tmp 47, .tmp 49]) rfl ?_); at_builtin; refine Kd.R_append (Kd.int .u8) (w0 := w) w.heap.size rfl (.tmp 47) (.tmp 49) 43 5 (.int .u8 0) 1 rfl Try.underlying43 info5 rfl (by decide) (by omega) u6 x6_1 (bt a1 x7_1) [.int .u8 (bt a1 x7_1)] (fun _ => True) (fun _ => False) rfl rfl ?aP (fun _ hk => hk.elim) ?aF ?aO ?aB ?aS ?aL ?_; (case aP => exact rfl); (case aB => exact bl_); (case aF => exact (fun _ _ => trivial)); (case aO => exact (rk_ HO_6)); (case aS => exact (below_size bl_)); (case aL => have := LMc32.out; omega); intro v545 w35 ho hb hg hat; rw [← Ny544.out] at ho; have n0_ := am_ (bg_ BK535 hg (Kd.R_ne HO_6.out BK535.out (by decide))); have n1_ := am_ (hb); have n2_ := am_ (ho); clear BK535; clear HB; clear HO_6; have BK535 := n0_; have HB := n1_; have HO546 := n2_; clear n0_ n1_ n2_; clear ho hb hg hat))
    go_roundg k1
    case measure => have := HK1.out; omega
    case rel => exact ⟨(y544), (wrap64 (x7_1 + 1)), er_, H', ⟨by have := HK1.out; omega⟩, ⟨rk_ HO546⟩, ⟨bk_ BK535⟩, ⟨bl_⟩⟩
   rw [if_pos c9] at H
   have c9b0 : ((wrap64 (bt a1 x7_1)) == a0_3) = true := beq_iff_eq.mpr c9
   have c9b1 : ((wrap64 (bt a1 x7_1)) != a0_3) = false := bne_eq_false_iff_eq.mpr c9
   clear c9
   by_cases c10 : (wrap64 (x7_1 + 1)) = (a1.size : Int)
   ·rw [if_pos c10] at H
    have c10b0 : ((wrap64 (x7_1 + 1)) == (a1.size : Int)) = true := beq_iff_eq.mpr c10
    have c10b1 : ((wrap64 (x7_1 + 1)) != (a1.size : Int)) = false := bne_eq_false_iff_eq.mpr c10
    clear c10
    simp only [Option.some.injEq, Prod.mk.injEq] at H
    obtain ⟨rfl, rfl⟩ := H
    have p8 : 0 ≤ (x7_1 : Int) := od_
    have q8 : x7_1 < (a1.size : Int) := od_
    have hx8 := bt_at a1 x7_1
    replace p8 := eq_true p8
    replace q8 := eq_true q8
    obtain ⟨hcz11_0, hcz11_1, hcz11_2, hcz11_3, hfz11_0, hfz11_1, hfz11_2, hfz11_3⟩ := cellsF4 BK535.out
    try go_wp2
    replace HO_6 := am_ (Kd.R_drew HO_6.out)
    replace BK535 := bd_ BK535
    replace HB := am_ (below_drew1 HB.out)
    refine start_ (n := 12) (S := fun w' => True) (ds := []) (bs 12 0) (by kernel_rfl) rfl rfl trivial (fun hHeld => ?_); refine with_tabW F112.tab8 F112.bits8 (fun HT_ HW_ => ?_)
    generalize wr.drew = w12 at HO_6 BK535 HB hHeld ⊢
    refine pu_ 0 26 (bs 12 1) HT_ ?_ rfl rfl
    refine pu_ 1 27 (bs 12 3) HT_ ?_ rfl rfl
    refine pu_ 2 28 (bs 12 7) HT_ ?_ rfl rfl
    refine pu_ 3 29 (bs 12 15) HT_ ?_ rfl rfl
    refine pu_ 4 30 (bs 12 31) HT_ ?_ rfl rfl
    refine pv_ 5 31 (bs 12 63) HT_ ?_ rfl rfl
    refine pv_ 6 32 (bs 12 127) HT_ ?_ rfl rfl
    refine pv_ 7 33 (bs 12 255) HT_ ?_ rfl rfl
    refine pv_ 8 34 (bs 12 511) HT_ ?_ rfl rfl
    refine pv_ 9 35 (bs 12 1023) HT_ ?_ rfl rfl
    refine pv_ 10 36 (bs 12 2047) HT_ ?_ rfl rfl
    refine pu_ 11 37 (bs 12 4095) HT_ ?_ rfl rfl
    refine done_ (done_of HT_.out (by kernel_rfl)) ?_
    try go_wp2
    go_ret2
    exact ⟨au4_0, bl_⟩
   rw [if_neg c10] at H
   have c10b0 : ((wrap64 (x7_1 + 1)) == (a1.size : Int)) = false := beq_eq_false_iff_ne.mpr c10
   have c10b1 : ((wrap64 (x7_1 + 1)) != (a1.size : Int)) = true := bne_iff_ne.mpr c10
   obtain ⟨ji13, hji13⟩ : ∃ j_ : Int, (wrap64 (x7_1 + 1)) = j_ := ⟨_, rfl⟩
   replace H : (if 0 ≤ (ji13) then (if (ji13) < (a1.size : Int) then ((F119.f k1 a0_0 a0_1 a0_2 a0_3 (bt a1 (ji13))).bind fun t539 => (if t539 = true then (if x6_1.length < 140737488355328 then (F112.l0 k1 a1 (x6_1 ++ [bt a1 (ji13)]) (wrap64 ((ji13) + 1)) a0_0 a0_1 a0_2 a0_3) else (none)) else (some ((⟨#[]⟩ : ByteArray), wrap64 ((ji13) - 1))))) else (none)) else (none)) = some (r1, r2) := by first | (rw [hji13] at H; exact H) | (simp only [hji13] at H ⊢; exact H)
   (try rw [hji13] at c10b0)
   (try rw [hji13] at c10b1)
   have hji13w : (IntKind.i64.wrap (x7_1 + 1)) = ji13 := (i64_w _).trans hji13
   replace H := itn_ H; rcases H with ⟨c14b0, H⟩
   replace H := itn_ H; rcases H with ⟨c15b0, H⟩
   replace H := bi_ H; rcases H with ⟨t539, A17, H⟩
   replace H := ib_ H; rcases H with ⟨rfl, H⟩ | ⟨rfl, H⟩
   rotate_left
   ·simp only [Option.some.injEq, Prod.mk.injEq] at H
    obtain ⟨rfl, rfl⟩ := H
    have p8 : 0 ≤ (x7_1 : Int) := od_
    have q8 : x7_1 < (a1.size : Int) := od_
    have hx8 := bt_at a1 x7_1
    replace p8 := eq_true p8
    replace q8 := eq_true q8
    obtain ⟨hcz25_0, hcz25_1, hcz25_2, hcz25_3, hfz25_0, hfz25_1, hfz25_2, hfz25_3⟩ := cellsF4 BK535.out
    try go_wp2
    replace HO_6 := am_ (Kd.R_drew HO_6.out)
    replace BK535 := bd_ BK535
    replace HB := am_ (below_drew1 HB.out)
    have p16 : 0 ≤ ((ji13) : Int) := od_
    have q16 : (ji13) < (a1.size : Int) := od_
    have hx16 := bt_at a1 (ji13)
    replace p16 := eq_true p16
    replace q16 := eq_true q16
    refine start_ (n := 12) (S := fun w' => w'.cell? ⟨gb535, 0, none⟩ = some (.int .i64 a0_0) ∧ w'.cell? ⟨gb535, 1, none⟩ = some (.int .i64 a0_1) ∧ w'.cell? ⟨gb535, 2, none⟩ = some (.int .i64 a0_2) ∧ w'.cell? ⟨gb535, 3, none⟩ = some (.int .i64 a0_3)) (ds := []) (bs 12 0) (by kernel_rfl) rfl rfl ⟨(blk_cell BK535.out 0).trans rfl, (blk_cell BK535.out 1).trans rfl, (blk_cell BK535.out 2).trans rfl, (blk_cell BK535.out 3).trans rfl⟩ (fun hHeld => ?_); refine with_tabW F112.tab8 F112.bits8 (fun HT_ HW_ => ?_)
    generalize wr.drew = w26 at HO_6 BK535 HB hHeld ⊢
    refine pu_ 0 26 (bs 12 1) HT_ ?_ rfl rfl
    refine pu_ 1 27 (bs 12 3) HT_ ?_ rfl rfl
    refine pu_ 2 28 (bs 12 7) HT_ ?_ rfl rfl
    refine pu_ 3 29 (bs 12 15) HT_ ?_ rfl rfl
    refine pu_ 4 30 (bs 12 31) HT_ ?_ rfl rfl
    refine pu_ 6 32 (bs 12 95) HT_ ?_ rfl rfl
    refine pu_ 7 33 (bs 12 223) HT_ ?_ rfl rfl
    refine tk_ 5 31 (bs 12 255) HT_ HW_ hHeld au4_18 ?_ rfl rfl
    refine tk_ 8 34 (bs 12 511) HT_ HW_ hHeld au4_18 ?_ rfl rfl
    refine one_ (i := 9) (N := some 35) (bs 12 1023) rfl rfl (one_of HT_.out (by kernel_rfl)) (by decide) (fun K hK => ?_)
    refine goes_ Try.func119 (by kernel_rfl) rfl #[.agg #[.int .i64 a0_0, .int .i64 a0_1, .int .i64 a0_2, .int .i64 a0_3], .int .u8 (bt a1 (ji13))] (by rfl) rfl rfl au4_17 ?_
    with_reducible refine (F119.calls k1 a0_0 a0_1 a0_2 a0_3 (bt a1 (ji13)) false _ A17.out).mono ?_
    rintro e w27 ⟨rfl, hb⟩
    refine ⟨_, rfl, ?_⟩
    replace HO_6 := am_ (Kd.R_below (rk_ HO_6) hb)
    replace BK535 := bb_ BK535 hb
    replace HB := hs_ w hb
    (try clear hb)
    (try clear hb2)
    (try clear hk)
    (try clear hi)
    refine hK.out _ _ ⟨(blk_cell BK535.out 0).trans rfl, (blk_cell BK535.out 1).trans rfl, (blk_cell BK535.out 2).trans rfl, (blk_cell BK535.out 3).trans rfl⟩ (fun hHeld => ?_)
    clear hK K
    refine no_ 35 ?_
    refine pu_ 10 36 (bs 12 2047) HT_ ?_ rfl rfl
    refine pu_ 11 37 (bs 12 4095) HT_ ?_ rfl rfl
    refine done_ (done_of HT_.out (by kernel_rfl)) ?_
    try go_wp2
    go_ret2
    exact ⟨by first | rfl | (simp [errW_none, errW_some] <;> rfl) | (simp only [← hji13]; first | rfl | (simp [errW_none, errW_some] <;> rfl)) | (simp [*, errW_none, errW_some] <;> rfl), bl_⟩
   replace H := iln_ H; rcases H with ⟨LMc20, H⟩
   obtain ⟨y540, hy540⟩ : ∃ y_ : List Int, y_ = (x6_1 ++ [bt a1 (ji13)]) := ⟨_, rfl⟩
   replace H : (F112.l0 k1 a1 y540 (wrap64 ((ji13) + 1)) a0_0 a0_1 a0_2 a0_3) = some (r1, r2) := by first | (rw [hy540]; exact H) | exact H
   have Ny540 := am_ hy540
   clear hy540
   have H' := am_ H
   clear H
   have p8 : 0 ≤ (x7_1 : Int) := od_
   have q8 : x7_1 < (a1.size : Int) := od_
   have hx8 := bt_at a1 x7_1
   replace p8 := eq_true p8
   replace q8 := eq_true q8
   obtain ⟨hcz21_0, hcz21_1, hcz21_2, hcz21_3, hfz21_0, hfz21_1, hfz21_2, hfz21_3⟩ := cellsF4 BK535.out
   try go_wp2
   replace HO_6 := am_ (Kd.R_drew HO_6.out)
   replace BK535 := bd_ BK535
   replace HB := am_ (below_drew1 HB.out)
   have p16 : 0 ≤ ((ji13) : Int) := od_
   have q16 : (ji13) < (a1.size : Int) := od_
   have hx16 := bt_at a1 (ji13)
   replace p16 := eq_true p16
   replace q16 := eq_true q16
   refine start_ (n := 12) (S := fun w' => w'.cell? ⟨gb535, 0, none⟩ = some (.int .i64 a0_0) ∧ w'.cell? ⟨gb535, 1, none⟩ = some (.int .i64 a0_1) ∧ w'.cell? ⟨gb535, 2, none⟩ = some (.int .i64 a0_2) ∧ w'.cell? ⟨gb535, 3, none⟩ = some (.int .i64 a0_3)) (ds := []) (bs 12 0) (by kernel_rfl) rfl rfl ⟨(blk_cell BK535.out 0).trans rfl, (blk_cell BK535.out 1).trans rfl, (blk_cell BK535.out 2).trans rfl, (blk_cell BK535.out 3).trans rfl⟩ (fun hHeld => ?_); refine with_tabW F112.tab8 F112.bits8 (fun HT_ HW_ => ?_)
   generalize wr.drew = w22 at HO_6 BK535 HB hHeld ⊢
   refine pu_ 0 26 (bs 12 1) HT_ ?_ rfl rfl
   refine pu_ 1 27 (bs 12 3) HT_ ?_ rfl rfl
   refine pu_ 2 28 (bs 12 7) HT_ ?_ rfl rfl
   refine pu_ 3 29 (bs 12 15) HT_ ?_ rfl rfl
   refine pu_ 4 30 (bs 12 31) HT_ ?_ rfl rfl
   refine pu_ 6 32 (bs 12 95) HT_ ?_ rfl rfl
   refine pu_ 7 33 (bs 12 223) HT_ ?_ rfl rfl
   refine tk_ 5 31 (bs 12 255) HT_ HW_ hHeld au4_18 ?_ rfl rfl
   refine tk_ 8 34 (bs 12 511) HT_ HW_ hHeld au4_18 ?_ rfl rfl
   refine one_ (i := 9) (N := some 35) (bs 12 1023) rfl rfl (one_of HT_.out (by kernel_rfl)) (by decide) (fun K hK => ?_)
   refine goes_ Try.func119 (by kernel_rfl) rfl #[.agg #[.int .i64 a0_0, .int .i64 a0_1, .int .i64 a0_2, .int .i64 a0_3], .int .u8 (bt a1 (ji13))] (by rfl) rfl rfl au4_17 ?_
   with_reducible refine (F119.calls k1 a0_0 a0_1 a0_2 a0_3 (bt a1 (ji13)) true _ A17.out).mono ?_
   rintro e w23 ⟨rfl, hb⟩
   refine ⟨_, rfl, ?_⟩
   replace HO_6 := am_ (Kd.R_below (rk_ HO_6) hb)
   replace BK535 := bb_ BK535 hb
   replace HB := hs_ w hb
   (try clear hb)
   (try clear hb2)
   (try clear hk)
   (try clear hi)
   refine hK.out _ _ ⟨(blk_cell BK535.out 0).trans rfl, (blk_cell BK535.out 1).trans rfl, (blk_cell BK535.out 2).trans rfl, (blk_cell BK535.out 3).trans rfl⟩ (fun hHeld => ?_)
   clear hK K
   refine no_ 35 ?_
   refine pu_ 10 36 (bs 12 2047) HT_ ?_ rfl rfl
   refine pu_ 11 37 (bs 12 4095) HT_ ?_ rfl rfl
   refine done_ (done_of HT_.out (by kernel_rfl)) ?_
   have p19 : 0 ≤ ((ji13) : Int) := od_
   have q19 : (ji13) < (a1.size : Int) := od_
   have hx19 := bt_at a1 (ji13)
   replace p19 := eq_true p19
   replace q19 := eq_true q19
   try go_wp2_with (first | ((with_reducible refine gate_builtin (b := .append) (xs := #[.tmp 47, .tmp 49]) rfl ?_); at_builtin; refine Kd.R_append (Kd.int .u8) (w0 := w) w.heap.size rfl (.tmp 47) (.tmp 49) 43 5 (.int .u8 0) 1 rfl Try.underlying43 info5 rfl (by decide) (by omega) u6 x6_1 (bt a1 (ji13)) [.int .u8 (bt a1 (ji13))] (fun _ => True) (fun _ => False) rfl rfl ?aP (fun _ hk => hk.elim) ?aF ?aO ?aB ?aS ?aL ?_; (case aP => exact rfl); (case aB => exact bl_); (case aF => exact (fun _ _ => trivial)); (case aO => exact (rk_ HO_6)); (case aS => exact (below_size bl_)); (case aL => have := LMc20.out; omega); intro v541 w24 ho hb hg hat; rw [← Ny540.out] at ho; have n0_ := am_ (bg_ BK535 hg (Kd.R_ne HO_6.out BK535.out (by decide))); have n1_ := am_ (hb); have n2_ := am_ (ho); clear BK535; clear HB; clear HO_6; have BK535 := n0_; have HB := n1_; have HO542 := n2_; clear n0_ n1_ n2_; clear ho hb hg hat))
   go_roundg k1
   case measure => have := HK1.out; omega
   case rel => exact ⟨(y540), (wrap64 ((ji13) + 1)), (by first | rfl | (simp; done) | (simp only [← hji13] <;> (first | rfl | simp)) | (simp [*]; done)), H', ⟨by have := HK1.out; omega⟩, ⟨rk_ HO542⟩, ⟨bk_ BK535⟩, ⟨bl_⟩⟩
/-! ### F94: function 94 -/
def F94.l0 : Nat → Int → List ByteArray → Int → List ByteArray → Int → Int → Int → Int → Int → Int → List ByteArray → Option (List ByteArray × Int)
  | 0, _, _, _, _, _, _, _, _, _, _, _ => none
  | k + 1, x2, x8, x10, x27, x28, x29, x548000, x548001, x548002, x548003, x553000 => if x29 < x28 then (if 0 ≤ x29 then (if x29 < (x27.length : Int) then ((F112.f k x548000 x548001 x548002 x548003 (rdOf ByteArray.empty x27 x29)).bind fun bt555 => (if bt555.2 ≥ 0 then (some (x553000, wrap64 (x10 + bt555.2))) else ((F88.f k bt555.1).bind fun t557 => (if t557 = true then (if x553000.length < 8796093022208 then (F94.l0 k x2 x8 (wrap64 (x10 + (wrap64 (((rdOf ByteArray.empty x27 x29).size : Int) + 1)))) x27 x28 (wrap64 (x29 + 1)) x548000 x548001 x548002 x548003 (x553000 ++ [bt555.1])) else (none)) else (some (x553000, x10)))))) else (none)) else (none)) else (if (x8.length : Int) > 1 then (if 0 ≤ (wrap64 ((x8.length : Int) - 1)) then (if (wrap64 ((x8.length : Int) - 1)) < (x553000.length : Int) then (if (rdOf ByteArray.empty x553000 (wrap64 ((x8.length : Int) - 1))).toList = ([] : List UInt8) then (some (x553000, x2)) else (some (x553000, (-1)))) else (none)) else (none)) else (some (x553000, (-1))))
def F94.f (k : Nat) (a0_0 : Int) (a0_1 : Int) (a0_2 : Int) (a0_3 : Int) (a1 : ByteArray) (a2 : Int) : Option (List ByteArray × Int) := (F93.f k a0_0 a0_1 a0_2 a0_3 a1 a0_2).bind fun t549 => (if (t549.length : Int) > 4 then (some (([] : List ByteArray), a2)) else (F94.l0 k a2 t549 a2 t549 (t549.length : Int) 0 a0_0 a0_1 a0_2 a0_3 ([] : List ByteArray)))
theorem F94.mono_l : ∀ k, (∀ y0 y1 y2 y3 y4 y5 y6 y7 y8 y9 y10, LeO (F94.l0 k y0 y1 y2 y3 y4 y5 y6 y7 y8 y9 y10) (F94.l0 (k + 1) y0 y1 y2 y3 y4 y5 y6 y7 y8 y9 y10))
 | 0 => fun _ _ _ _ _ _ _ _ _ _ _ r h => by simp [F94.l0] at h
 | k + 1 => by
  have ih0 := F94.mono_l k
  intro y0 y1 y2 y3 y4 y5 y6 y7 y8 y9 y10
  unfold F94.l0
  repeat' with_reducible first | exact ih0 _ _ _ _ _ _ _ _ _ _ _ | exact F93.mono _ _ _ _ _ _ _ | exact F112.mono _ _ _ _ _ _ | exact F88.mono _ _ | exact LeO.refl _ | exact LeO.none _ | refine LeO.ite ?_ ?_ | refine LeO.bind ?_ (fun _ => ?_)
theorem F94.mono : ∀ a0 a1 a2 a3 a4 a5 k, LeO (F94.f k a0 a1 a2 a3 a4 a5) (F94.f (k + 1) a0 a1 a2 a3 a4 a5) := by
 intro a0 a1 a2 a3 a4 a5 k
 have ih0 := F94.mono_l k
 unfold F94.f
 repeat' with_reducible first | exact ih0 _ _ _ _ _ _ _ _ _ _ _ | exact F93.mono _ _ _ _ _ _ _ | exact F112.mono _ _ _ _ _ _ | exact F88.mono _ _ | exact LeO.refl _ | exact LeO.none _ | refine LeO.ite ?_ ?_ | refine LeO.bind ?_ (fun _ => ?_)
theorem F94.calls (k : Nat) (a0_0 : Int) (a0_1 : Int) (a0_2 : Int) (a0_3 : Int) (a1 : ByteArray) (a2 : Int) (r1 : List ByteArray) (r2 : Int) (w : World) (h : F94.f k a0_0 a0_1 a0_2 a0_3 a1 a2 = some (r1, r2)) :
  Calls Try.prog 94 #[.agg #[.int .i64 a0_0, .int .i64 a0_1, .int .i64 a0_2, .int .i64 a0_3], .string a1, .int .i64 a2] w fun e w' => ∃ v0_ : Value, e = .returned (.tuple #[.agg #[v0_], .int .i64 r2]) ∧ Kd.R Kd.string 9 w' w.heap.size (fun _ => True) v0_ r1 ∧ Below w.heap.size w w' := by
 have hu45 := Try.underlying45
 have hu122 := Try.underlying122
 have HB := am_ (Below.refl w.heap.size w)
 have H : ((F93.f k a0_0 a0_1 a0_2 a0_3 a1 a0_2).bind fun t549 => (if (t549.length : Int) > 4 then (some (([] : List ByteArray), a2)) else (F94.l0 k a2 t549 a2 t549 (t549.length : Int) 0 a0_0 a0_1 a0_2 a0_3 ([] : List ByteArray)))) = some (r1, r2) := h
 clear h
 replace H := bi_ H; rcases H with ⟨t549, A4, H⟩
 replace H := it_ H; rcases H with ⟨(c5b0 : decide (4 < (t549.length : Int)) = true), H⟩ | ⟨(c5b0 : decide (4 < (t549.length : Int)) = false), H⟩
 ·have c5b1 : decide (4 < t549.length) = true := n2_ c5b0
  simp only [Option.some.injEq, Prod.mk.injEq] at H
  obtain ⟨rfl, rfl⟩ := H
  go_enter Try.func94, Try.ntmps94
  go_wp2_with (first | ((with_reducible refine gate_dst (N := 3) rfl ?_); (try (refine gate_guard (by rfl) ?_; dsimp only)); refine be_ 3 #[.int .i64 a0_0, .int .i64 a0_1, .int .i64 a0_2, .int .i64 a0_3] 45 ?_; intro gb547 hg w6 hbox hb; have BK547 := am_ (hbox); have GW547 := am_ (gw_ hg bl_); have GE547 := GW547; replace HB := hs_ w hb; clear hb hbox hg) | ((with_reducible refine gate_dst (N := 6) rfl ?_); (try (refine gate_guard (by rfl) ?_; dsimp only)); refine be_ 6 #[.slice none 0 0] 122 ?_; intro gb548 hg w7 hbox hb; have BK548 := am_ (hbox); have GW548 := am_ (gw_ hg bl_); have GE548 := GW548; replace HB := hs_ w hb; have NB547_548 := am_ (gn_ hg (blkl_ BK547)); have NB548_547 := am_ (gm_ hg (blkl_ BK547)); replace BK547 := bb_ BK547 hb; clear hb hbox hg; have hnb8 := NB547_548.out; have hnc8 := NB548_547.out; obtain ⟨hcz9_0, hcz9_1, hcz9_2, hcz9_3, hfz9_0, hfz9_1, hfz9_2, hfz9_3⟩ := cellsF4 BK547.out) | (go_at_call 93; (with_reducible refine (F93.calls k a0_0 a0_1 a0_2 a0_3 a1 a0_2 t549 _ A4.out).mono ?_); rintro e w10 ⟨v550, rfl, ho0, hb⟩; (try clear A4); have HO551 := am_ (Kd.R_lower ho0 (below_size bl_)); replace BK547 := bb_ BK547 hb; replace BK548 := bb_ BK548 hb; replace HB := hs_ w hb; (try clear hb); (try clear ho0)) | ((with_reducible refine gate_dst (N := 9) rfl ?_); (try (refine gate_guard (by rfl) ?_; dsimp only)); refine be_ 9 #[.slice none 0 0] 122 ?_; intro gb552 hg w11 hbox hb; replace HO551 := am_ (Kd.R_below (rk_ HO551) hb); have BK552 := am_ (hbox); have GW552 := am_ (gw_ hg bl_); have GE552 := GW552; replace HB := hs_ w hb; have NB547_552 := am_ (gn_ hg (blkl_ BK547)); have NB552_547 := am_ (gm_ hg (blkl_ BK547)); replace BK547 := bb_ BK547 hb; have NB548_552 := am_ (gn_ hg (blkl_ BK548)); have NB552_548 := am_ (gm_ hg (blkl_ BK548)); replace BK548 := bb_ BK548 hb; clear hb hbox hg; have hnb12 := NB552_547.out; have hnc12 := NB547_552.out; have hnb13 := NB552_548.out; have hnc13 := NB548_552.out; have hcz14_0 : w11.cell? ⟨gb552, 0, none⟩ = some (.slice none 0 0) := (blk_cell BK552.out 0).trans rfl; have hfz14_0 := blk_frozen BK552.out 0; obtain ⟨Ao15, co15, eo15⟩ := Kd.R_slice HO551.out; subst eo15; have hcz16_0 : w11.cell? ⟨gb548, 0, none⟩ = some (.slice none 0 0) := (blk_cell BK548.out 0).trans rfl; have hfz16_0 := blk_frozen BK548.out 0))
  refine bodyPost_ret (results_ct rfl _ _ gb548 122 #[.slice none 0 0] (0, 0) _ rfl (bq_ BK548) Try.underlying122 rfl (by kernel_rfl)) rfl ?_
  exact ⟨_, au4_0, au4_20, bl_⟩
 have c5b1 : decide (4 < t549.length) = false := n2_ c5b0
 have H' := am_ H
 clear H
 go_enter Try.func94, Try.ntmps94
 go_wp2_with (first | ((with_reducible refine gate_dst (N := 3) rfl ?_); (try (refine gate_guard (by rfl) ?_; dsimp only)); refine be_ 3 #[.int .i64 a0_0, .int .i64 a0_1, .int .i64 a0_2, .int .i64 a0_3] 45 ?_; intro gb547 hg w17 hbox hb; have BK547 := am_ (hbox); have GW547 := am_ (gw_ hg bl_); have GE547 := GW547; replace HB := hs_ w hb; clear hb hbox hg) | ((with_reducible refine gate_dst (N := 6) rfl ?_); (try (refine gate_guard (by rfl) ?_; dsimp only)); refine be_ 6 #[.slice none 0 0] 122 ?_; intro gb548 hg w18 hbox hb; have BK548 := am_ (hbox); have GW548 := am_ (gw_ hg bl_); have GE548 := GW548; replace HB := hs_ w hb; have NB547_548 := am_ (gn_ hg (blkl_ BK547)); have NB548_547 := am_ (gm_ hg (blkl_ BK547)); replace BK547 := bb_ BK547 hb; clear hb hbox hg; have hnb19 := NB547_548.out; have hnc19 := NB548_547.out; obtain ⟨hcz20_0, hcz20_1, hcz20_2, hcz20_3, hfz20_0, hfz20_1, hfz20_2, hfz20_3⟩ := cellsF4 BK547.out) | (go_at_call 93; (with_reducible refine (F93.calls k a0_0 a0_1 a0_2 a0_3 a1 a0_2 t549 _ A4.out).mono ?_); rintro e w21 ⟨v550, rfl, ho0, hb⟩; (try clear A4); have HO551 := am_ (Kd.R_lower ho0 (below_size bl_)); replace BK547 := bb_ BK547 hb; replace BK548 := bb_ BK548 hb; replace HB := hs_ w hb; (try clear hb); (try clear ho0)) | ((with_reducible refine gate_dst (N := 9) rfl ?_); (try (refine gate_guard (by rfl) ?_; dsimp only)); refine be_ 9 #[.slice none 0 0] 122 ?_; intro gb552 hg w22 hbox hb; replace HO551 := am_ (Kd.R_below (rk_ HO551) hb); have BK552 := am_ (hbox); have GW552 := am_ (gw_ hg bl_); have GE552 := GW552; replace HB := hs_ w hb; have NB547_552 := am_ (gn_ hg (blkl_ BK547)); have NB552_547 := am_ (gm_ hg (blkl_ BK547)); replace BK547 := bb_ BK547 hb; have NB548_552 := am_ (gn_ hg (blkl_ BK548)); have NB552_548 := am_ (gm_ hg (blkl_ BK548)); replace BK548 := bb_ BK548 hb; clear hb hbox hg; have hnb23 := NB552_547.out; have hnc23 := NB547_552.out; have hnb24 := NB552_548.out; have hnc24 := NB548_552.out; have hcz25_0 : w22.cell? ⟨gb552, 0, none⟩ = some (.slice none 0 0) := (blk_cell BK552.out 0).trans rfl; have hfz25_0 := blk_frozen BK552.out 0; obtain ⟨Ao26, co26, eo26⟩ := Kd.R_slice HO551.out; subst eo26))
 go_loopg [10, 29] k (fun kq v10 v29 w' => ∃ (x10_1 : Int) (x29_1 : Int) (x553000_1 : List ByteArray) (u553000 : Value), v10 = .int .i64 x10_1 ∧ v29 = .int .i64 x29_1 ∧ Aside0 (F94.l0 kq a2 t549 x10_1 t549 (t549.length : Int) x29_1 a0_0 a0_1 a0_2 a0_3 x553000_1 = some (r1, r2)) ∧ Aside0 (kq ≤ k) ∧ Aside0 (Kd.R Kd.string 9 w' w.heap.size (fun k_ => some k_ ≠ (u553000 : Value).ownBlock) (.slice Ao26 t549.length co26) t549) ∧ Aside0 (Kd.R Kd.string 9 w' w.heap.size (fun k_ => some k_ ≠ (u553000 : Value).ownBlock) (.slice Ao26 t549.length co26) t549) ∧ Aside0 (Kd.R Kd.string 9 w' w.heap.size (fun k_ => some k_ ≠ ((.slice Ao26 t549.length co26) : Value).ownBlock ∧ some k_ ≠ ((.slice Ao26 t549.length co26) : Value).ownBlock) u553000 x553000_1) ∧ Aside0 (w'.heap[gb547]? = some (.cells #[.int .i64 a0_0, .int .i64 a0_1, .int .i64 a0_2, .int .i64 a0_3] 45 (0, 0))) ∧ Aside0 (w'.heap[gb548]? = some (.cells #[(.slice none 0 0)] 122 (0, 0))) ∧ Aside0 (w'.heap[gb552]? = some (.cells #[u553000] 122 (0, 0))) ∧ Aside0 (Below w.heap.size w w'))
 case atStart => exact ⟨(a2), (0), (([] : List ByteArray)), (.slice none 0 0), er_, er_, H', ⟨Nat.le_refl _⟩, ⟨au4_12⟩, ⟨au4_12⟩, ⟨au4_20⟩, ⟨bf_ BK547⟩, ⟨bf_ BK548⟩, ⟨bq_ BK552⟩, ⟨bl_⟩⟩
 case round =>
  clear H'
  try clear c5b0
  try clear c5b1
  try clear hcz14_0
  try clear hcz16_0
  try clear hcz20_0 hcz20_1 hcz20_2 hcz20_3
  try clear hcz25_0
  try clear hcz9_0 hcz9_1 hcz9_2 hcz9_3
  try clear hfz14_0
  try clear hfz16_0
  try clear hfz20_0 hfz20_1 hfz20_2 hfz20_3
  try clear hfz25_0
  try clear hfz9_0 hfz9_1 hfz9_2 hfz9_3
  obtain ⟨x10_1, x29_1, x553000_1, u553000, rfl, rfl, HA, HK1, HO_8, HO_27, HO_553000, BK547, BK548, BK552, HB⟩ := hrel
  cases gk with
  | zero => exact absurd HA.out (by simp [F94.l0])
  | succ k1 =>
   have H := HA.out
   clear HA
   simp only [F94.l0] at H
   replace H := it_ H; rcases H with ⟨c27b0, H⟩ | ⟨c27b0, H⟩
   ·replace H := itn_ H; rcases H with ⟨c28b0, H⟩
    replace H := itn_ H; rcases H with ⟨c29b0, H⟩
    replace H := bi_ H; rcases H with ⟨⟨t555, t556⟩, A30, H⟩
    replace H := it_ H; rcases H with ⟨(c31b0 : decide (0 ≤ t556) = true), H⟩ | ⟨(c31b0 : decide (0 ≤ t556) = false), H⟩
    ·simp only [Option.some.injEq, Prod.mk.injEq] at H
     obtain ⟨rfl, rfl⟩ := H
     have p554 : 0 ≤ (x29_1 : Int) := od_
     have q554 : x29_1 < (t549.length : Int) := od_
     obtain ⟨ad554, e554, hx554_0⟩ := Kd.at_string (Kd.R_reads' HO_27.out).2.2 x29_1 p554 q554
     cases e554
     replace p554 := eq_true p554
     replace q554 := eq_true q554
     have hnb32 := NB547_548.out
     have hnc32 := NB548_547.out
     have hnb33 := NB547_552.out
     have hnc33 := NB552_547.out
     obtain ⟨hcz34_0, hcz34_1, hcz34_2, hcz34_3, hfz34_0, hfz34_1, hfz34_2, hfz34_3⟩ := cellsF4 BK547.out
     go_wp2_with (first | (go_at_call 112; (with_reducible refine (F112.calls k1 a0_0 a0_1 a0_2 a0_3 (rdOf ByteArray.empty t549 x29_1) t555 t556 _ A30.out).mono ?_); rintro e w35 ⟨rfl, hb⟩; (try clear A30); replace HO_8 := am_ (Kd.R_below (rk_ HO_8) hb); replace HO_27 := am_ (Kd.R_below (rk_ HO_27) hb); replace HO_553000 := am_ (Kd.R_below (rk_ HO_553000) hb); replace BK547 := bb_ BK547 hb; replace BK548 := bb_ BK548 hb; replace BK552 := bb_ BK552 hb; replace HB := hs_ w hb; (try clear hb); have hnb36 := NB552_548.out; have hnc36 := NB548_552.out; have hcz37_0 : w35.cell? ⟨gb552, 0, none⟩ = some (u553000) := (blk_cell BK552.out 0).trans rfl; have hfz37_0 := blk_frozen BK552.out 0; obtain ⟨Ao38, co38, eo38⟩ := Kd.R_slice HO_553000.out; subst eo38; have hcz39_0 : w35.cell? ⟨gb548, 0, none⟩ = some (.slice none 0 0) := (blk_cell BK548.out 0).trans rfl; have hfz39_0 := blk_frozen BK548.out 0))
     refine bodyPost_ret (results_ct rfl _ _ gb548 122 #[.slice Ao38 x553000_1.length co38] (0, 0) _ rfl (bq_ BK548) Try.underlying122 rfl (by kernel_rfl)) rfl ?_
     exact ⟨_, au4_0, by (with_reducible repeat (first | apply Kd.R_alloc | apply Kd.R_drewN | apply Kd.R_drew)); exact Kd.R_mono (Kd.R_far (p := ⟨gb548, 0, none⟩) (Kd.R_types HO_553000.out BK548.out (by decide)) (fun _ hk => hk.2) (.slice Ao38 x553000_1.length co38)) (fun _ hk => trivial), bl_⟩
    replace H := bi_ H; rcases H with ⟨t557, A40, H⟩
    replace H := ib_ H; rcases H with ⟨rfl, H⟩ | ⟨rfl, H⟩
    rotate_left
    ·simp only [Option.some.injEq, Prod.mk.injEq] at H
     obtain ⟨rfl, rfl⟩ := H
     have p554 : 0 ≤ (x29_1 : Int) := od_
     have q554 : x29_1 < (t549.length : Int) := od_
     obtain ⟨ad554, e554, hx554_0⟩ := Kd.at_string (Kd.R_reads' HO_27.out).2.2 x29_1 p554 q554
     cases e554
     replace p554 := eq_true p554
     replace q554 := eq_true q554
     have hnb52 := NB547_548.out
     have hnc52 := NB548_547.out
     have hnb53 := NB547_552.out
     have hnc53 := NB552_547.out
     obtain ⟨hcz54_0, hcz54_1, hcz54_2, hcz54_3, hfz54_0, hfz54_1, hfz54_2, hfz54_3⟩ := cellsF4 BK547.out
     go_wp2_with (first | (go_at_call 112; (with_reducible refine (F112.calls k1 a0_0 a0_1 a0_2 a0_3 (rdOf ByteArray.empty t549 x29_1) t555 t556 _ A30.out).mono ?_); rintro e w55 ⟨rfl, hb⟩; (try clear A30); replace HO_8 := am_ (Kd.R_below (rk_ HO_8) hb); replace HO_27 := am_ (Kd.R_below (rk_ HO_27) hb); replace HO_553000 := am_ (Kd.R_below (rk_ HO_553000) hb); replace BK547 := bb_ BK547 hb; replace BK548 := bb_ BK548 hb; replace BK552 := bb_ BK552 hb; replace HB := hs_ w hb; (try clear hb)) | (go_at_call 88; (with_reducible refine (F88.calls k1 t555 false _ A40.out).mono ?_); rintro e w' ⟨rfl, ⟨nd, rfl⟩⟩; (try clear A40); (try (rw [drewN_self w55]; generalize hq_ : World.drewN w55 _ = w55; have n0_ : Aside0 (Kd.R Kd.string 9 w55 w.heap.size (fun k_ => some k_ ≠ (u553000 : Value).ownBlock) (.slice (some ad554) t549.length co26) t549) := ⟨by rw [← hq_]; exact (rk_ HO_27)⟩; have n1_ : Aside0 (Kd.R Kd.string 9 w55 w.heap.size (fun k_ => some k_ ≠ (.slice (some ad554) t549.length co26 : Value).ownBlock ∧ some k_ ≠ (.slice (some ad554) t549.length co26 : Value).ownBlock) u553000 x553000_1) := ⟨au4_16⟩; have n2_ : Aside0 (Kd.R Kd.string 9 w55 w.heap.size (fun k_ => some k_ ≠ (u553000 : Value).ownBlock) (.slice (some ad554) t549.length co26) t549) := ⟨by rw [← hq_]; exact (rk_ HO_8)⟩; have n3_ : Aside0 (w55.heap[gb547]? = some (.cells #[.int .i64 a0_0, .int .i64 a0_1, .int .i64 a0_2, .int .i64 a0_3] 45 (0, 0))) := ⟨by rw [← hq_]; exact (bk_ BK547)⟩; have n4_ : Aside0 (w55.heap[gb548]? = some (.cells #[.slice none 0 0] 122 (0, 0))) := ⟨by rw [← hq_]; exact (bk_ BK548)⟩; have n5_ : Aside0 (w55.heap[gb552]? = some (.cells #[u553000] 122 (0, 0))) := ⟨by rw [← hq_]; exact (bk_ BK552)⟩; have n6_ : Aside0 (Below w.heap.size w w55) := ⟨by rw [← hq_]; exact bl_⟩; clear HO_27 HO_553000 HO_8 BK547 BK548 BK552 HB hq_; have HO_27 := n0_; have HO_553000 := n1_; have HO_8 := n2_; have BK547 := n3_; have BK548 := n4_; have BK552 := n5_; have HB := n6_; clear n0_ n1_ n2_ n3_ n4_ n5_ n6_)); have hnb56 := NB552_548.out; have hnc56 := NB548_552.out; have hcz57_0 : w55.cell? ⟨gb552, 0, none⟩ = some (u553000) := (blk_cell BK552.out 0).trans rfl; have hfz57_0 := blk_frozen BK552.out 0; obtain ⟨Ao58, co58, eo58⟩ := Kd.R_slice HO_553000.out; subst eo58; have hcz59_0 : w55.cell? ⟨gb548, 0, none⟩ = some (.slice none 0 0) := (blk_cell BK548.out 0).trans rfl; have hfz59_0 := blk_frozen BK548.out 0))
     refine bodyPost_ret (results_ct rfl _ _ gb548 122 #[.slice Ao58 x553000_1.length co58] (0, 0) _ rfl (bq_ BK548) Try.underlying122 rfl (by kernel_rfl)) rfl ?_
     exact ⟨_, au4_0, by (with_reducible repeat (first | apply Kd.R_alloc | apply Kd.R_drewN | apply Kd.R_drew)); exact Kd.R_mono (Kd.R_far (p := ⟨gb548, 0, none⟩) (Kd.R_types HO_553000.out BK548.out (by decide)) (fun _ hk => hk.2) (.slice Ao58 x553000_1.length co58)) (fun _ hk => trivial), bl_⟩
    replace H := iln_ H; rcases H with ⟨LMc42, H⟩
    obtain ⟨y558, hy558⟩ : ∃ y_ : List ByteArray, y_ = (x553000_1 ++ [t555]) := ⟨_, rfl⟩
    replace H : (F94.l0 k1 a2 t549 (wrap64 (x10_1 + (wrap64 (((rdOf ByteArray.empty t549 x29_1).size : Int) + 1)))) t549 (t549.length : Int) (wrap64 (x29_1 + 1)) a0_0 a0_1 a0_2 a0_3 y558) = some (r1, r2) := by first | (rw [hy558]; exact H) | exact H
    have Ny558 := am_ hy558
    clear hy558
    have H' := am_ H
    clear H
    have p554 : 0 ≤ (x29_1 : Int) := od_
    have q554 : x29_1 < (t549.length : Int) := od_
    obtain ⟨ad554, e554, hx554_0⟩ := Kd.at_string (Kd.R_reads' HO_27.out).2.2 x29_1 p554 q554
    cases e554
    replace p554 := eq_true p554
    replace q554 := eq_true q554
    have hnb43 := NB547_548.out
    have hnc43 := NB548_547.out
    have hnb44 := NB547_552.out
    have hnc44 := NB552_547.out
    obtain ⟨hcz45_0, hcz45_1, hcz45_2, hcz45_3, hfz45_0, hfz45_1, hfz45_2, hfz45_3⟩ := cellsF4 BK547.out
    go_wp2_with (first | (go_at_call 112; (with_reducible refine (F112.calls k1 a0_0 a0_1 a0_2 a0_3 (rdOf ByteArray.empty t549 x29_1) t555 t556 _ A30.out).mono ?_); rintro e w46 ⟨rfl, hb⟩; (try clear A30); replace HO_8 := am_ (Kd.R_below (rk_ HO_8) hb); replace HO_27 := am_ (Kd.R_below (rk_ HO_27) hb); replace HO_553000 := am_ (Kd.R_below (rk_ HO_553000) hb); replace BK547 := bb_ BK547 hb; replace BK548 := bb_ BK548 hb; replace BK552 := bb_ BK552 hb; replace HB := hs_ w hb; (try clear hb)) | (go_at_call 88; (with_reducible refine (F88.calls k1 t555 true _ A40.out).mono ?_); rintro e w' ⟨rfl, ⟨nd, rfl⟩⟩; (try clear A40); (try (rw [drewN_self w46]; generalize hq_ : World.drewN w46 _ = w46; have n0_ : Aside0 (Kd.R Kd.string 9 w46 w.heap.size (fun k_ => some k_ ≠ (u553000 : Value).ownBlock) (.slice (some ad554) t549.length co26) t549) := ⟨by rw [← hq_]; exact (rk_ HO_27)⟩; have n1_ : Aside0 (Kd.R Kd.string 9 w46 w.heap.size (fun k_ => some k_ ≠ (.slice (some ad554) t549.length co26 : Value).ownBlock ∧ some k_ ≠ (.slice (some ad554) t549.length co26 : Value).ownBlock) u553000 x553000_1) := ⟨au4_16⟩; have n2_ : Aside0 (Kd.R Kd.string 9 w46 w.heap.size (fun k_ => some k_ ≠ (u553000 : Value).ownBlock) (.slice (some ad554) t549.length co26) t549) := ⟨by rw [← hq_]; exact (rk_ HO_8)⟩; have n3_ : Aside0 (w46.heap[gb547]? = some (.cells #[.int .i64 a0_0, .int .i64 a0_1, .int .i64 a0_2, .int .i64 a0_3] 45 (0, 0))) := ⟨by rw [← hq_]; exact (bk_ BK547)⟩; have n4_ : Aside0 (w46.heap[gb548]? = some (.cells #[.slice none 0 0] 122 (0, 0))) := ⟨by rw [← hq_]; exact (bk_ BK548)⟩; have n5_ : Aside0 (w46.heap[gb552]? = some (.cells #[u553000] 122 (0, 0))) := ⟨by rw [← hq_]; exact (bk_ BK552)⟩; have n6_ : Aside0 (Below w.heap.size w w46) := ⟨by rw [← hq_]; exact bl_⟩; clear HO_27 HO_553000 HO_8 BK547 BK548 BK552 HB hq_; have HO_27 := n0_; have HO_553000 := n1_; have HO_8 := n2_; have BK547 := n3_; have BK548 := n4_; have BK552 := n5_; have HB := n6_; clear n0_ n1_ n2_ n3_ n4_ n5_ n6_)); have hnb47 := NB552_548.out; have hnc47 := NB548_552.out; have hcz48_0 : w46.cell? ⟨gb552, 0, none⟩ = some (u553000) := (blk_cell BK552.out 0).trans rfl; have hfz48_0 := blk_frozen BK552.out 0) | ((with_reducible refine gate_builtin (b := .append) (xs := #[.tmp 51, .tmp 53]) rfl ?_); (try (refine gate_guard (by rfl) ?_; dsimp only)); at_builtin; refine Kd.R_append Kd.string (w0 := w) w.heap.size rfl (.tmp 51) (.tmp 53) 22 9 (.string ⟨#[]⟩) 16 rfl Try.underlying22 info9 rfl (by decide) (by omega) u553000 x553000_1 t555 [.string t555] (fun k_ => some k_ ≠ (.slice (some ad554) t549.length co26 : Value).ownBlock ∧ some k_ ≠ (.slice (some ad554) t549.length co26 : Value).ownBlock) (fun _ => False) rfl rfl ?aP (fun _ hk => hk.elim) ?aF ?aO ?aB ?aS ?aL ?_; (case aP => exact rfl); (case aB => exact bl_); (case aF => exact (fun k_ hk => ⟨Kd.fresh' (Kd.R_lt (rk_ HO_8)) k_ hk, Kd.fresh' (Kd.R_lt (rk_ HO_27)) k_ hk⟩)); (case aO => exact (rk_ HO_553000)); (case aS => exact (below_size bl_)); (case aL => have := LMc42.out; omega); intro v559 w49 ho hb hg hat; rw [← Ny558.out] at ho; have n0_ := am_ (Kd.R_after (ok := (fun _ => True)) (by (with_reducible repeat (first | apply Kd.R_alloc | apply Kd.R_drewN | apply Kd.R_drew)); exact Kd.R_mono HO_8.out (fun _ hk => ⟨trivial, hk⟩)) hg hat); have n1_ := am_ (Kd.R_after (ok := (fun _ => True)) (by (with_reducible repeat (first | apply Kd.R_alloc | apply Kd.R_drewN | apply Kd.R_drew)); exact Kd.R_mono HO_27.out (fun _ hk => ⟨trivial, hk⟩)) hg hat); have n2_ := am_ (bg_ BK547 hg (Kd.R_ne HO_553000.out BK547.out (by decide))); have n3_ := am_ (bg_ BK548 hg (Kd.R_ne HO_553000.out BK548.out (by decide))); have n4_ := am_ (bg_ BK552 hg (Kd.R_ne HO_553000.out BK552.out (by decide))); have n5_ := am_ (hb); have n6_ := am_ (ho); clear HO_8; clear HO_27; clear BK547; clear BK548; clear BK552; clear HB; clear HO_553000; have HO_8 := n0_; have HO_27 := n1_; have BK547 := n2_; have BK548 := n3_; have BK552 := n4_; have HB := n5_; have HO560 := n6_; clear n0_ n1_ n2_ n3_ n4_ n5_ n6_; clear ho hb hg hat; obtain ⟨Ao50, co50, eo50⟩ := Kd.R_slice HO560.out; subst eo50; have hcz51_0 : w49.cell? ⟨gb552, 0, none⟩ = some (u553000) := (blk_cell BK552.out 0).trans rfl; have hfz51_0 := blk_frozen BK552.out 0))
    go_roundg k1
    case measure => have := HK1.out; omega
    case rel => exact ⟨(wrap64 (x10_1 + (wrap64 (((rdOf ByteArray.empty t549 x29_1).size : Int) + 1)))), (wrap64 (x29_1 + 1)), (y558), (.slice Ao50 y558.length co50), er_, er_, H', ⟨by have := HK1.out; omega⟩, ⟨by (with_reducible repeat (first | apply Kd.R_alloc | apply Kd.R_drewN | apply Kd.R_drew)); exact Kd.R_mono (Kd.R_far (p := ⟨gb552, 0, none⟩) (Kd.R_types HO_8.out BK552.out (by decide)) (fun _ hk => hk.2) (.slice Ao50 y558.length co50)) (fun _ hk => hk.1.2)⟩, ⟨by (with_reducible repeat (first | apply Kd.R_alloc | apply Kd.R_drewN | apply Kd.R_drew)); exact Kd.R_mono (Kd.R_far (p := ⟨gb552, 0, none⟩) (Kd.R_types HO_27.out BK552.out (by decide)) (fun _ hk => hk.2) (.slice Ao50 y558.length co50)) (fun _ hk => hk.1.2)⟩, ⟨by (with_reducible repeat (first | apply Kd.R_alloc | apply Kd.R_drewN | apply Kd.R_drew)); exact Kd.R_mono (Kd.R_far (p := ⟨gb552, 0, none⟩) (Kd.R_types HO560.out BK552.out (by decide)) (fun _ hk => hk.2) (.slice Ao50 y558.length co50)) (fun _ hk => ⟨hk.1.1, hk.1.2⟩)⟩, ⟨bf_ BK547⟩, ⟨bf_ BK548⟩, ⟨bq_ BK552⟩, ⟨bl_⟩⟩
   replace H := it_ H; rcases H with ⟨(c60b0 : decide (1 < (t549.length : Int)) = true), H⟩ | ⟨(c60b0 : decide (1 < (t549.length : Int)) = false), H⟩
   rotate_left
   ·have c60b1 : decide (1 < t549.length) = false := n2_ c60b0
    simp only [Option.some.injEq, Prod.mk.injEq] at H
    obtain ⟨rfl, rfl⟩ := H
    have hnb77 := NB552_547.out
    have hnc77 := NB547_552.out
    have hnb78 := NB552_548.out
    have hnc78 := NB548_552.out
    have hcz79_0 : wr.cell? ⟨gb552, 0, none⟩ = some (u553000) := (blk_cell BK552.out 0).trans rfl
    have hfz79_0 := blk_frozen BK552.out 0
    obtain ⟨Ao80, co80, eo80⟩ := Kd.R_slice HO_553000.out
    subst eo80
    have hnb81 := NB548_547.out
    have hnc81 := NB547_548.out
    have hcz82_0 : wr.cell? ⟨gb548, 0, none⟩ = some (.slice none 0 0) := (blk_cell BK548.out 0).trans rfl
    have hfz82_0 := blk_frozen BK548.out 0
    go_wp2
    refine bodyPost_ret (results_ct rfl _ _ gb548 122 #[.slice Ao80 x553000_1.length co80] (0, 0) _ rfl (bq_ BK548) Try.underlying122 rfl (by kernel_rfl)) rfl ?_
    exact ⟨_, au4_0, by (with_reducible repeat (first | apply Kd.R_alloc | apply Kd.R_drewN | apply Kd.R_drew)); exact Kd.R_mono (Kd.R_far (p := ⟨gb548, 0, none⟩) (Kd.R_types HO_553000.out BK548.out (by decide)) (fun _ hk => hk.2) (.slice Ao80 x553000_1.length co80)) (fun _ hk => trivial), bl_⟩

   have c60b1 : decide (1 < t549.length) = true := n2_ c60b0
   obtain ⟨ji61, hji61⟩ : ∃ j_ : Int, (wrap64 ((t549.length : Int) - 1)) = j_ := ⟨_, rfl⟩
   replace H : (if 0 ≤ (ji61) then (if (ji61) < (x553000_1.length : Int) then (if (rdOf ByteArray.empty x553000_1 (ji61)).toList = ([] : List UInt8) then (some (x553000_1, a2)) else (some (x553000_1, (-1)))) else (none)) else (none)) = some (r1, r2) := by first | (rw [hji61] at H; exact H) | (simp only [hji61] at H ⊢; exact H)
   have hji61w : (IntKind.i64.wrap ((t549.length : Int) - 1)) = ji61 := (i64_w _).trans hji61
   replace H := itn_ H; rcases H with ⟨c62b0, H⟩
   replace H := itn_ H; rcases H with ⟨c63b0, H⟩
   by_cases c64 : (rdOf ByteArray.empty x553000_1 (ji61)).toList = ([] : List UInt8)
   rotate_left
   ·rw [if_neg c64] at H
    have c64b0 : ((rdOf ByteArray.empty x553000_1 (ji61)).toList == ([] : List UInt8)) = false := beq_eq_false_iff_ne.mpr c64
    have c64b1 : ((rdOf ByteArray.empty x553000_1 (ji61)).toList != ([] : List UInt8)) = true := bne_iff_ne.mpr c64
    simp only [Option.some.injEq, Prod.mk.injEq] at H
    obtain ⟨rfl, rfl⟩ := H
    have hnb71 := NB552_547.out
    have hnc71 := NB547_552.out
    have hnb72 := NB552_548.out
    have hnc72 := NB548_552.out
    have hcz73_0 : wr.cell? ⟨gb552, 0, none⟩ = some (u553000) := (blk_cell BK552.out 0).trans rfl
    have hfz73_0 := blk_frozen BK552.out 0
    obtain ⟨Ao74, co74, eo74⟩ := Kd.R_slice HO_553000.out
    subst eo74
    have p553 : 0 ≤ ((ji61) : Int) := od_
    have q553 : (ji61) < (x553000_1.length : Int) := od_
    obtain ⟨ad553, e553, hx553_0⟩ := Kd.at_string (Kd.R_reads' HO_553000.out).2.2 (ji61) p553 q553
    cases e553
    replace p553 := eq_true p553
    replace q553 := eq_true q553
    have hnb75 := NB548_547.out
    have hnc75 := NB547_548.out
    have hcz76_0 : wr.cell? ⟨gb548, 0, none⟩ = some (.slice none 0 0) := (blk_cell BK548.out 0).trans rfl
    have hfz76_0 := blk_frozen BK548.out 0
    go_wp2
    refine bodyPost_ret (results_ct rfl _ _ gb548 122 #[.slice (some ad553) x553000_1.length co74] (0, 0) _ rfl (bq_ BK548) Try.underlying122 rfl (by kernel_rfl)) rfl ?_
    exact ⟨_, au4_15, by (with_reducible repeat (first | apply Kd.R_alloc | apply Kd.R_drewN | apply Kd.R_drew)); exact Kd.R_mono (Kd.R_far (p := ⟨gb548, 0, none⟩) (Kd.R_types HO_553000.out BK548.out (by decide)) (fun _ hk => hk.2) (.slice (some ad553) x553000_1.length co74)) (fun _ hk => trivial), bl_⟩
   rw [if_pos c64] at H
   have c64b0 : ((rdOf ByteArray.empty x553000_1 (ji61)).toList == ([] : List UInt8)) = true := beq_iff_eq.mpr c64
   have c64b1 : ((rdOf ByteArray.empty x553000_1 (ji61)).toList != ([] : List UInt8)) = false := bne_eq_false_iff_eq.mpr c64
   clear c64
   simp only [Option.some.injEq, Prod.mk.injEq] at H
   obtain ⟨rfl, rfl⟩ := H
   have hnb65 := NB552_547.out
   have hnc65 := NB547_552.out
   have hnb66 := NB552_548.out
   have hnc66 := NB548_552.out
   have hcz67_0 : wr.cell? ⟨gb552, 0, none⟩ = some (u553000) := (blk_cell BK552.out 0).trans rfl
   have hfz67_0 := blk_frozen BK552.out 0
   obtain ⟨Ao68, co68, eo68⟩ := Kd.R_slice HO_553000.out
   subst eo68
   have p553 : 0 ≤ ((ji61) : Int) := od_
   have q553 : (ji61) < (x553000_1.length : Int) := od_
   obtain ⟨ad553, e553, hx553_0⟩ := Kd.at_string (Kd.R_reads' HO_553000.out).2.2 (ji61) p553 q553
   cases e553
   replace p553 := eq_true p553
   replace q553 := eq_true q553
   have hnb69 := NB548_547.out
   have hnc69 := NB547_548.out
   have hcz70_0 : wr.cell? ⟨gb548, 0, none⟩ = some (.slice none 0 0) := (blk_cell BK548.out 0).trans rfl
   have hfz70_0 := blk_frozen BK548.out 0
   go_wp2
   refine bodyPost_ret (results_ct rfl _ _ gb548 122 #[.slice (some ad553) x553000_1.length co68] (0, 0) _ rfl (bq_ BK548) Try.underlying122 rfl (by kernel_rfl)) rfl ?_
   exact ⟨_, au4_15, by (with_reducible repeat (first | apply Kd.R_alloc | apply Kd.R_drewN | apply Kd.R_drew)); exact Kd.R_mono (Kd.R_far (p := ⟨gb548, 0, none⟩) (Kd.R_types HO_553000.out BK548.out (by decide)) (fun _ hk => hk.2) (.slice (some ad553) x553000_1.length co68)) (fun _ hk => trivial), bl_⟩
/-! ### F52: function 52 -/
mutual
def F52.l0 : Nat → List ByteArray → List ByteArray → Int → List ByteArray → Int → Int → Int → Int → Int → Int → ByteArray → List (S122) → Option (ByteArray × (List (S122)) × Int × Int × Int)
  | 0, _, _, _, _, _, _, _, _, _, _, _, _ => none
  | k + 1, x5, x6, x8, x57, x58, x59, x562000, x562001, x562002, x562003, x577000, x577001 => if x59 < x58 then (if 0 ≤ x59 then (if x59 < (x57.length : Int) then (if x59 = 10 then (some ((⟨#[]⟩ : ByteArray), ([] : List (S122)), 0, x8, 3)) else ((F94.f k x562000 x562001 x562002 x562003 (rdOf ByteArray.empty x57 x59) x8).bind fun bt584 => (if bt584.2 < 0 then (if x59 = (wrap64 ((x6.length : Int) - 2)) then (if (bt584.1.length : Int) = 1 then (if 0 < (bt584.1.length : Int) then (F52.j1 k x5 x6 x8 (rdOf ByteArray.empty x57 x59) bt584.2 x57 x58 x59 ((rdOf ByteArray.empty bt584.1 0).toList == ([] : List UInt8)) x562000 x562001 x562002 x562003 x577000 x577001 bt584.1) else (none)) else (F52.j1 k x5 x6 x8 (rdOf ByteArray.empty x57 x59) bt584.2 x57 x58 x59 false x562000 x562001 x562002 x562003 x577000 x577001 bt584.1)) else (F52.j1 k x5 x6 x8 (rdOf ByteArray.empty x57 x59) bt584.2 x57 x58 x59 false x562000 x562001 x562002 x562003 x577000 x577001 bt584.1)) else (F52.j1 k x5 x6 x8 (rdOf ByteArray.empty x57 x59) bt584.2 x57 x58 x59 false x562000 x562001 x562002 x562003 x577000 x577001 bt584.1)))) else (none)) else (none)) else (if 0 < (x5.length : Int) then (some (x577000, x577001, wrap64 (((rdOf ByteArray.empty x5 0).size : Int) + 1), 0, 0)) else (none))
def F52.j1 : Nat → List ByteArray → List ByteArray → Int → ByteArray → Int → List ByteArray → Int → Int → Bool → Int → Int → Int → Int → ByteArray → List (S122) → List ByteArray → Option (ByteArray × (List (S122)) × Int × Int × Int)
  | 0, _, _, _, _, _, _, _, _, _, _, _, _, _, _, _, _ => none
  | k + 1, x5, x6, x8, x10, x12, x57, x58, x59, x96, x562000, x562001, x562002, x562003, x577000, x577001, x589000 => if x96 = true then (if x8 ≥ 0 then (some ((⟨#[]⟩ : ByteArray), ([] : List (S122)), 0, x8, 3)) else (if x577001.length < 5864062014805 then (F52.l0 k x5 x6 (wrap64 (x8 + (wrap64 ((x10.size : Int) + 1)))) x57 x58 (wrap64 (x59 + 1)) x562000 x562001 x562002 x562003 x577000 (x577001 ++ [(⟨x589000⟩ : S122)])) else (none))) else (if x12 ≥ 0 then (some ((⟨#[]⟩ : ByteArray), ([] : List (S122)), 0, x12, 3)) else (if x577001.length < 5864062014805 then (F52.l0 k x5 x6 (wrap64 (x8 + (wrap64 ((x10.size : Int) + 1)))) x57 x58 (wrap64 (x59 + 1)) x562000 x562001 x562002 x562003 x577000 (x577001 ++ [(⟨x589000⟩ : S122)])) else (none)))
end
def F52.f (k : Nat) (a0_0 : Int) (a0_1 : Int) (a0_2 : Int) (a0_3 : Int) (a1 : ByteArray) : Option (ByteArray × (List (S122)) × Int × Int × Int) := (F51.f k (([a1] : List ByteArray))).bind fun t566 => (if t566 = true then (some ((⟨#[]⟩ : ByteArray), ([] : List (S122)), 0, 0, 2)) else ((F46.f k a0_0 a0_1 a0_2 a0_3).bind fun t567 => (if t567 = true then (if a1.toList = ([] : List UInt8) then (some ((⟨#[]⟩ : ByteArray), ([] : List (S122)), 0, 0, 6)) else ((F93.f k a0_0 a0_1 a0_2 a0_3 a1 a0_0).bind fun t568 => (if (t568.length : Int) < 2 then (some ((⟨#[]⟩ : ByteArray), ([] : List (S122)), 0, 0, 4)) else (if 0 < (t568.length : Int) then ((F93.f k a0_0 a0_1 a0_2 a0_3 (rdOf ByteArray.empty t568 0) a0_1).bind fun t572 => (if 0 < (t572.length : Int) then ((F89.f (rdOf ByteArray.empty t572 0)).bind fun t577 => (if t577 = true then (if 1 ≤ (t572.length : Int) then ((some (t572.drop 1 : List ByteArray)).bind fun y578 => (F52.l0 k t568 t572 (wrap64 (((rdOf ByteArray.empty t572 0).size : Int) + 1)) y578 (y578.length : Int) 0 a0_0 a0_1 a0_2 a0_3 (rdOf ByteArray.empty t572 0) ([] : List (S122)))) else (none)) else (some ((⟨#[]⟩ : ByteArray), ([] : List (S122)), 0, 0, 3)))) else (none))) else (none))))) else (some ((⟨#[]⟩ : ByteArray), ([] : List (S122)), 0, 0, 1)))))
theorem F52.mono_l : ∀ k, (∀ y0 y1 y2 y3 y4 y5 y6 y7 y8 y9 y10 y11, LeO (F52.l0 k y0 y1 y2 y3 y4 y5 y6 y7 y8 y9 y10 y11) (F52.l0 (k + 1) y0 y1 y2 y3 y4 y5 y6 y7 y8 y9 y10 y11)) ∧ (∀ y0 y1 y2 y3 y4 y5 y6 y7 y8 y9 y10 y11 y12 y13 y14 y15, LeO (F52.j1 k y0 y1 y2 y3 y4 y5 y6 y7 y8 y9 y10 y11 y12 y13 y14 y15) (F52.j1 (k + 1) y0 y1 y2 y3 y4 y5 y6 y7 y8 y9 y10 y11 y12 y13 y14 y15))
 | 0 => ⟨fun _ _ _ _ _ _ _ _ _ _ _ _ r h => by simp [F52.l0] at h, fun _ _ _ _ _ _ _ _ _ _ _ _ _ _ _ _ r h => by simp [F52.j1] at h⟩
 | k + 1 => by
  obtain ⟨ih0, ih1⟩ := F52.mono_l k
  refine ⟨?_, ?_⟩
  rotate_left
  ·intro y0 y1 y2 y3 y4 y5 y6 y7 y8 y9 y10 y11 y12 y13 y14 y15
   unfold F52.j1
   repeat' with_reducible first | exact ih0 _ _ _ _ _ _ _ _ _ _ _ _ | exact ih1 _ _ _ _ _ _ _ _ _ _ _ _ _ _ _ _ | exact F46.mono _ _ _ _ _ | exact F93.mono _ _ _ _ _ _ _ | exact F94.mono _ _ _ _ _ _ _ | exact F51.mono _ _ | exact LeO.refl _ | exact LeO.none _ | refine LeO.ite ?_ ?_ | refine LeO.bind ?_ (fun _ => ?_)
  intro y0 y1 y2 y3 y4 y5 y6 y7 y8 y9 y10 y11
  unfold F52.l0
  repeat' with_reducible first | exact ih0 _ _ _ _ _ _ _ _ _ _ _ _ | exact ih1 _ _ _ _ _ _ _ _ _ _ _ _ _ _ _ _ | exact F46.mono _ _ _ _ _ | exact F93.mono _ _ _ _ _ _ _ | exact F94.mono _ _ _ _ _ _ _ | exact F51.mono _ _ | exact LeO.refl _ | exact LeO.none _ | refine LeO.ite ?_ ?_ | refine LeO.bind ?_ (fun _ => ?_)
theorem F52.mono : ∀ a0 a1 a2 a3 a4 k, LeO (F52.f k a0 a1 a2 a3 a4) (F52.f (k + 1) a0 a1 a2 a3 a4) := by
 intro a0 a1 a2 a3 a4 k
 obtain ⟨ih0, ih1⟩ := F52.mono_l k
 unfold F52.f
 repeat' with_reducible first | exact ih0 _ _ _ _ _ _ _ _ _ _ _ _ | exact ih1 _ _ _ _ _ _ _ _ _ _ _ _ _ _ _ _ | exact F46.mono _ _ _ _ _ | exact F93.mono _ _ _ _ _ _ _ | exact F94.mono _ _ _ _ _ _ _ | exact F51.mono _ _ | exact LeO.refl _ | exact LeO.none _ | refine LeO.ite ?_ ?_ | refine LeO.bind ?_ (fun _ => ?_)
def F52.T10 : Bool × List (List Nat × List Nat) := (true, [([], []), ([], []), ([1], [1]), ([2], [2]), ([], []), ([4], [4]), ([0, 3, 5], [0, 3, 5]), ([6, 6, 0, 1, 2, 3, 4, 5, 6], [6])])
def F52.B10 : List Nat := [0, 0, 2, 6, 0, 16, 63, 127]
theorem F52.tab10 : rtab .any (opsOf Try.f52 10) = F52.T10 := by kernel_rfl
theorem F52.bits10 : waitsOk F52.T10.2 F52.B10 = true := by kernel_rfl
def F52.T28 : Bool × List (List Nat × List Nat) := (true, [([], []), ([], []), ([1], [1]), ([2], [2]), ([3], [3]), ([4], [4]), ([0, 5], [0, 5]), ([6, 0, 1, 2, 3, 4, 5, 6], [6])])
def F52.B28 : List Nat := [0, 0, 2, 6, 14, 30, 63, 127]
theorem F52.tab28 : rtab .any (opsOf Try.f52 28) = F52.T28 := by kernel_rfl
theorem F52.bits28 : waitsOk F52.T28.2 F52.B28 = true := by kernel_rfl
theorem F52.calls (k : Nat) (a0_0 : Int) (a0_1 : Int) (a0_2 : Int) (a0_3 : Int) (a1 : ByteArray) (r1 : ByteArray) (r2 : List (S122)) (r3 : Int) (r4 : Int) (r5 : Int) (w : World) (h : F52.f k a0_0 a0_1 a0_2 a0_3 a1 = some (r1, r2, r3, r4, r5)) :
  Calls Try.prog 52 #[.agg #[.int .i64 a0_0, .int .i64 a0_1, .int .i64 a0_2, .int .i64 a0_3], .string a1] w fun e w' => ∃ v1_ : Value, e = .returned (.agg #[.string r1, v1_, .int .i64 r3, .int .i64 r4, .int .i64 r5]) ∧ Kd.S k122 122 w' w.heap.size (fun _ => True) v1_ r2 ∧ Below w.heap.size w w' := by
 have hu45 := Try.underlying45
 have hu94 := Try.underlying94
 have hu88 := Try.underlying88
 have hu122 := Try.underlying122
 have HB := am_ (Below.refl w.heap.size w)
 have H : ((F51.f k (([a1] : List ByteArray))).bind fun t566 => (if t566 = true then (some ((⟨#[]⟩ : ByteArray), ([] : List (S122)), 0, 0, 2)) else ((F46.f k a0_0 a0_1 a0_2 a0_3).bind fun t567 => (if t567 = true then (if a1.toList = ([] : List UInt8) then (some ((⟨#[]⟩ : ByteArray), ([] : List (S122)), 0, 0, 6)) else ((F93.f k a0_0 a0_1 a0_2 a0_3 a1 a0_0).bind fun t568 => (if (t568.length : Int) < 2 then (some ((⟨#[]⟩ : ByteArray), ([] : List (S122)), 0, 0, 4)) else (if 0 < (t568.length : Int) then ((F93.f k a0_0 a0_1 a0_2 a0_3 (rdOf ByteArray.empty t568 0) a0_1).bind fun t572 => (if 0 < (t572.length : Int) then ((F89.f (rdOf ByteArray.empty t572 0)).bind fun t577 => (if t577 = true then (if 1 ≤ (t572.length : Int) then ((some (t572.drop 1 : List ByteArray)).bind fun y578 => (F52.l0 k t568 t572 (wrap64 (((rdOf ByteArray.empty t572 0).size : Int) + 1)) y578 (y578.length : Int) 0 a0_0 a0_1 a0_2 a0_3 (rdOf ByteArray.empty t572 0) ([] : List (S122)))) else (none)) else (some ((⟨#[]⟩ : ByteArray), ([] : List (S122)), 0, 0, 3)))) else (none))) else (none))))) else (some ((⟨#[]⟩ : ByteArray), ([] : List (S122)), 0, 0, 1)))))) = some (r1, r2, r3, r4, r5) := h
 clear h
 obtain ⟨y563, hy563⟩ : ∃ y_ : List ByteArray, y_ = (([a1] : List ByteArray)) := ⟨_, rfl⟩
 replace H : ((F51.f k y563).bind fun t566 => (if t566 = true then (some ((⟨#[]⟩ : ByteArray), ([] : List (S122)), 0, 0, 2)) else ((F46.f k a0_0 a0_1 a0_2 a0_3).bind fun t567 => (if t567 = true then (if a1.toList = ([] : List UInt8) then (some ((⟨#[]⟩ : ByteArray), ([] : List (S122)), 0, 0, 6)) else ((F93.f k a0_0 a0_1 a0_2 a0_3 a1 a0_0).bind fun t568 => (if (t568.length : Int) < 2 then (some ((⟨#[]⟩ : ByteArray), ([] : List (S122)), 0, 0, 4)) else (if 0 < (t568.length : Int) then ((F93.f k a0_0 a0_1 a0_2 a0_3 (rdOf ByteArray.empty t568 0) a0_1).bind fun t572 => (if 0 < (t572.length : Int) then ((F89.f (rdOf ByteArray.empty t572 0)).bind fun t577 => (if t577 = true then (if 1 ≤ (t572.length : Int) then ((some (t572.drop 1 : List ByteArray)).bind fun y578 => (F52.l0 k t568 t572 (wrap64 (((rdOf ByteArray.empty t572 0).size : Int) + 1)) y578 (y578.length : Int) 0 a0_0 a0_1 a0_2 a0_3 (rdOf ByteArray.empty t572 0) ([] : List (S122)))) else (none)) else (some ((⟨#[]⟩ : ByteArray), ([] : List (S122)), 0, 0, 3)))) else (none))) else (none))))) else (some ((⟨#[]⟩ : ByteArray), ([] : List (S122)), 0, 0, 1)))))) = some (r1, r2, r3, r4, r5) := by first | (rw [hy563]; exact H) | exact H
 have Ny563 := am_ hy563
 clear hy563
 replace H := bi_ H; rcases H with ⟨t566, A3, H⟩
 replace H := ib_ H; rcases H with ⟨rfl, H⟩ | ⟨rfl, H⟩
 ·simp only [Option.some.injEq, Prod.mk.injEq] at H
  obtain ⟨rfl, rfl, rfl, rfl, rfl⟩ := H
  go_enter Try.func52, Try.ntmps52
  go_wp2_with (first | ((with_reducible refine gate_dst (N := 2) rfl ?_); (try (refine gate_guard (by rfl) ?_; dsimp only)); refine be_ 2 #[.int .i64 a0_0, .int .i64 a0_1, .int .i64 a0_2, .int .i64 a0_3] 45 ?_; intro gb561 hg w5 hbox hb; have BK561 := am_ (hbox); have GW561 := am_ (gw_ hg bl_); have GE561 := GW561; replace HB := hs_ w hb; clear hb hbox hg) | ((with_reducible refine gate_dst (N := 4) rfl ?_); (try (refine gate_guard (by rfl) ?_; dsimp only)); refine be_ 4 #[.string (⟨#[]⟩ : ByteArray), .slice none 0 0, .int .i64 0, .int .i64 0, .int .i64 0] 94 ?_; intro gb562 hg w6 hbox hb; have BK562 := am_ (hbox); have GW562 := am_ (gw_ hg bl_); have GE562 := GW562; replace HB := hs_ w hb; have NB561_562 := am_ (gn_ hg (blkl_ BK561)); have NB562_561 := am_ (gm_ hg (blkl_ BK561)); replace BK561 := bb_ BK561 hb; clear hb hbox hg) | ((with_reducible refine gate_dst (N := 15) rfl ?_); (try (refine gate_guard (by rfl) ?_; dsimp only)); refine Kd.R_lit Kd.string _ 9 ?hg (N := 15) ?hd (xs := ([a1] : List ByteArray)) (inner := [.string a1]) (ok := fun _ => True) (okp := fun _ => True) ?hr ?hp (fun _ hk => hk) trivial (Below.refl _ _) (Nat.le_refl _) (by simp) ?_; (case hd => rfl); (case hg => rfl); (case hr => exact hr_); (case hp => exact au4_10); intro v564 w7 ho8 hb hg_ hnew_; clear hg_ hnew_; (first | rw [← Ny563.out] at ho8 | (simp only [Int.reduceToNat] at ho8; rw [← Ny563.out] at ho8)); have HO565 := am_ (Kd.R_lower ho8 (below_size bl_)); replace BK561 := bb_ BK561 hb; replace BK562 := bb_ BK562 hb; replace HB := hs_ w hb; clear hb ho8; obtain ⟨Ao9, co9, eo9⟩ := Kd.R_slice HO565.out; subst eo9) | (go_at_call 51; (with_reducible refine (F51.calls k _ _ y563 true _ ?s1 ?s2 A3.out).mono ?_); (case s1 => exact au4_3); (case s2 => exact au4_21); rintro e w' ⟨rfl, ⟨nd, rfl⟩⟩; (try clear A3); (try (rw [drewN_self w7]; generalize hq_ : World.drewN w7 _ = w7; have n0_ : Aside0 (Kd.R Kd.string 9 w7 w.heap.size (fun _ => True) (.slice Ao9 y563.length co9) y563) := ⟨by rw [← hq_]; exact (rk_ HO565)⟩; have n1_ : Aside0 (w7.heap[gb561]? = some (.cells #[.int .i64 a0_0, .int .i64 a0_1, .int .i64 a0_2, .int .i64 a0_3] 45 (0, 0))) := ⟨by rw [← hq_]; exact (bk_ BK561)⟩; have n2_ : Aside0 (w7.heap[gb562]? = some (.cells #[.string (⟨#[]⟩ : ByteArray), .slice none 0 0, .int .i64 0, .int .i64 0, .int .i64 0] 94 (0, 0))) := ⟨by rw [← hq_]; exact (bk_ BK562)⟩; have n3_ : Aside0 (Below w.heap.size w w7) := ⟨by rw [← hq_]; exact bl_⟩; clear HO565 BK561 BK562 HB hq_; have HO565 := n0_; have BK561 := n1_; have BK562 := n2_; have HB := n3_; clear n0_ n1_ n2_ n3_)); have hnb10 := NB562_561.out; have hnc10 := NB561_562.out; obtain ⟨hcz11_0, hcz11_1, hcz11_2, hcz11_3, hcz11_4, hfz11_0, hfz11_1, hfz11_2, hfz11_3, hfz11_4⟩ := cellsF5 BK562.out))
  refine bodyPost_ret (results_cell_row rfl _ _ gb562 94 #[.string (⟨#[]⟩ : ByteArray), .slice none 0 0, .int .i64 0, .int .i64 0, .int .i64 2] (0, 0) _ rfl (bq_ BK562) Try.underlying94 rfl (by kernel_rfl)) rfl ?_
  exact ⟨_, au4_0, au4_2, bl_⟩
 replace H := bi_ H; rcases H with ⟨t567, A12, H⟩
 replace H := ib_ H; rcases H with ⟨rfl, H⟩ | ⟨rfl, H⟩
 rotate_left
 ·simp only [Option.some.injEq, Prod.mk.injEq] at H
  obtain ⟨rfl, rfl, rfl, rfl, rfl⟩ := H
  go_enter Try.func52, Try.ntmps52
  go_wp2_with (first | ((with_reducible refine gate_dst (N := 2) rfl ?_); (try (refine gate_guard (by rfl) ?_; dsimp only)); refine be_ 2 #[.int .i64 a0_0, .int .i64 a0_1, .int .i64 a0_2, .int .i64 a0_3] 45 ?_; intro gb561 hg w156 hbox hb; have BK561 := am_ (hbox); have GW561 := am_ (gw_ hg bl_); have GE561 := GW561; replace HB := hs_ w hb; clear hb hbox hg) | ((with_reducible refine gate_dst (N := 4) rfl ?_); (try (refine gate_guard (by rfl) ?_; dsimp only)); refine be_ 4 #[.string (⟨#[]⟩ : ByteArray), .slice none 0 0, .int .i64 0, .int .i64 0, .int .i64 0] 94 ?_; intro gb562 hg w157 hbox hb; have BK562 := am_ (hbox); have GW562 := am_ (gw_ hg bl_); have GE562 := GW562; replace HB := hs_ w hb; have NB561_562 := am_ (gn_ hg (blkl_ BK561)); have NB562_561 := am_ (gm_ hg (blkl_ BK561)); replace BK561 := bb_ BK561 hb; clear hb hbox hg) | ((with_reducible refine gate_dst (N := 15) rfl ?_); (try (refine gate_guard (by rfl) ?_; dsimp only)); refine Kd.R_lit Kd.string _ 9 ?hg (N := 15) ?hd (xs := ([a1] : List ByteArray)) (inner := [.string a1]) (ok := fun _ => True) (okp := fun _ => True) ?hr ?hp (fun _ hk => hk) trivial (Below.refl _ _) (Nat.le_refl _) (by simp) ?_; (case hd => rfl); (case hg => rfl); (case hr => exact hr_); (case hp => exact au4_10); intro v564 w158 ho159 hb hg_ hnew_; clear hg_ hnew_; (first | rw [← Ny563.out] at ho159 | (simp only [Int.reduceToNat] at ho159; rw [← Ny563.out] at ho159)); have HO565 := am_ (Kd.R_lower ho159 (below_size bl_)); replace BK561 := bb_ BK561 hb; replace BK562 := bb_ BK562 hb; replace HB := hs_ w hb; clear hb ho159; obtain ⟨Ao160, co160, eo160⟩ := Kd.R_slice HO565.out; subst eo160) | (go_at_call 51; (with_reducible refine (F51.calls k _ _ y563 false _ ?s1 ?s2 A3.out).mono ?_); (case s1 => exact au4_3); (case s2 => exact au4_21); rintro e w' ⟨rfl, ⟨nd, rfl⟩⟩; (try clear A3); (try (rw [drewN_self w158]; generalize hq_ : World.drewN w158 _ = w158; have n0_ : Aside0 (Kd.R Kd.string 9 w158 w.heap.size (fun _ => True) (.slice Ao160 y563.length co160) y563) := ⟨by rw [← hq_]; exact (rk_ HO565)⟩; have n1_ : Aside0 (w158.heap[gb561]? = some (.cells #[.int .i64 a0_0, .int .i64 a0_1, .int .i64 a0_2, .int .i64 a0_3] 45 (0, 0))) := ⟨by rw [← hq_]; exact (bk_ BK561)⟩; have n2_ : Aside0 (w158.heap[gb562]? = some (.cells #[.string (⟨#[]⟩ : ByteArray), .slice none 0 0, .int .i64 0, .int .i64 0, .int .i64 0] 94 (0, 0))) := ⟨by rw [← hq_]; exact (bk_ BK562)⟩; have n3_ : Aside0 (Below w.heap.size w w158) := ⟨by rw [← hq_]; exact bl_⟩; clear HO565 BK561 BK562 HB hq_; have HO565 := n0_; have BK561 := n1_; have BK562 := n2_; have HB := n3_; clear n0_ n1_ n2_ n3_)); have hnb161 := NB561_562.out; have hnc161 := NB562_561.out; obtain ⟨hcz162_0, hcz162_1, hcz162_2, hcz162_3, hfz162_0, hfz162_1, hfz162_2, hfz162_3⟩ := cellsF4 BK561.out) | (go_at_call 46; (with_reducible refine (F46.calls k a0_0 a0_1 a0_2 a0_3 false _ A12.out).mono ?_); rintro e w163 ⟨rfl, hb⟩; (try clear A12); replace HO565 := am_ (Kd.R_below (rk_ HO565) hb); replace BK561 := bb_ BK561 hb; replace BK562 := bb_ BK562 hb; replace HB := hs_ w hb; (try clear hb); obtain ⟨hcz164_0, hcz164_1, hcz164_2, hcz164_3, hcz164_4, hfz164_0, hfz164_1, hfz164_2, hfz164_3, hfz164_4⟩ := cellsF5 BK562.out))
  refine bodyPost_ret (results_cell_row rfl _ _ gb562 94 #[.string (⟨#[]⟩ : ByteArray), .slice none 0 0, .int .i64 0, .int .i64 0, .int .i64 1] (0, 0) _ rfl (bq_ BK562) Try.underlying94 rfl (by kernel_rfl)) rfl ?_
  exact ⟨_, au4_0, au4_2, bl_⟩
 by_cases c14 : a1.toList = ([] : List UInt8)
 ·rw [if_pos c14] at H
  have c14b0 : (a1.toList == ([] : List UInt8)) = true := beq_iff_eq.mpr c14
  have c14b1 : (a1.toList != ([] : List UInt8)) = false := bne_eq_false_iff_eq.mpr c14
  clear c14
  simp only [Option.some.injEq, Prod.mk.injEq] at H
  obtain ⟨rfl, rfl, rfl, rfl, rfl⟩ := H
  go_enter Try.func52, Try.ntmps52
  go_wp2_with (first | ((with_reducible refine gate_dst (N := 2) rfl ?_); (try (refine gate_guard (by rfl) ?_; dsimp only)); refine be_ 2 #[.int .i64 a0_0, .int .i64 a0_1, .int .i64 a0_2, .int .i64 a0_3] 45 ?_; intro gb561 hg w15 hbox hb; have BK561 := am_ (hbox); have GW561 := am_ (gw_ hg bl_); have GE561 := GW561; replace HB := hs_ w hb; clear hb hbox hg) | ((with_reducible refine gate_dst (N := 4) rfl ?_); (try (refine gate_guard (by rfl) ?_; dsimp only)); refine be_ 4 #[.string (⟨#[]⟩ : ByteArray), .slice none 0 0, .int .i64 0, .int .i64 0, .int .i64 0] 94 ?_; intro gb562 hg w16 hbox hb; have BK562 := am_ (hbox); have GW562 := am_ (gw_ hg bl_); have GE562 := GW562; replace HB := hs_ w hb; have NB561_562 := am_ (gn_ hg (blkl_ BK561)); have NB562_561 := am_ (gm_ hg (blkl_ BK561)); replace BK561 := bb_ BK561 hb; clear hb hbox hg) | ((with_reducible refine gate_dst (N := 15) rfl ?_); (try (refine gate_guard (by rfl) ?_; dsimp only)); refine Kd.R_lit Kd.string _ 9 ?hg (N := 15) ?hd (xs := ([a1] : List ByteArray)) (inner := [.string a1]) (ok := fun _ => True) (okp := fun _ => True) ?hr ?hp (fun _ hk => hk) trivial (Below.refl _ _) (Nat.le_refl _) (by simp) ?_; (case hd => rfl); (case hg => rfl); (case hr => exact hr_); (case hp => exact au4_10); intro v564 w17 ho18 hb hg_ hnew_; clear hg_ hnew_; (first | rw [← Ny563.out] at ho18 | (simp only [Int.reduceToNat] at ho18; rw [← Ny563.out] at ho18)); have HO565 := am_ (Kd.R_lower ho18 (below_size bl_)); replace BK561 := bb_ BK561 hb; replace BK562 := bb_ BK562 hb; replace HB := hs_ w hb; clear hb ho18; obtain ⟨Ao19, co19, eo19⟩ := Kd.R_slice HO565.out; subst eo19) | (go_at_call 51; (with_reducible refine (F51.calls k _ _ y563 false _ ?s1 ?s2 A3.out).mono ?_); (case s1 => exact au4_3); (case s2 => exact au4_21); rintro e w' ⟨rfl, ⟨nd, rfl⟩⟩; (try clear A3); (try (rw [drewN_self w17]; generalize hq_ : World.drewN w17 _ = w17; have n0_ : Aside0 (Kd.R Kd.string 9 w17 w.heap.size (fun _ => True) (.slice Ao19 y563.length co19) y563) := ⟨by rw [← hq_]; exact (rk_ HO565)⟩; have n1_ : Aside0 (w17.heap[gb561]? = some (.cells #[.int .i64 a0_0, .int .i64 a0_1, .int .i64 a0_2, .int .i64 a0_3] 45 (0, 0))) := ⟨by rw [← hq_]; exact (bk_ BK561)⟩; have n2_ : Aside0 (w17.heap[gb562]? = some (.cells #[.string (⟨#[]⟩ : ByteArray), .slice none 0 0, .int .i64 0, .int .i64 0, .int .i64 0] 94 (0, 0))) := ⟨by rw [← hq_]; exact (bk_ BK562)⟩; have n3_ : Aside0 (Below w.heap.size w w17) := ⟨by rw [← hq_]; exact bl_⟩; clear HO565 BK561 BK562 HB hq_; have HO565 := n0_; have BK561 := n1_; have BK562 := n2_; have HB := n3_; clear n0_ n1_ n2_ n3_)); have hnb20 := NB561_562.out; have hnc20 := NB562_561.out; obtain ⟨hcz21_0, hcz21_1, hcz21_2, hcz21_3, hfz21_0, hfz21_1, hfz21_2, hfz21_3⟩ := cellsF4 BK561.out) | (go_at_call 46; (with_reducible refine (F46.calls k a0_0 a0_1 a0_2 a0_3 true _ A12.out).mono ?_); rintro e w22 ⟨rfl, hb⟩; (try clear A12); replace HO565 := am_ (Kd.R_below (rk_ HO565) hb); replace BK561 := bb_ BK561 hb; replace BK562 := bb_ BK562 hb; replace HB := hs_ w hb; (try clear hb); obtain ⟨hcz23_0, hcz23_1, hcz23_2, hcz23_3, hcz23_4, hfz23_0, hfz23_1, hfz23_2, hfz23_3, hfz23_4⟩ := cellsF5 BK562.out))
  refine bodyPost_ret (results_cell_row rfl _ _ gb562 94 #[.string (⟨#[]⟩ : ByteArray), .slice none 0 0, .int .i64 0, .int .i64 0, .int .i64 6] (0, 0) _ rfl (bq_ BK562) Try.underlying94 rfl (by kernel_rfl)) rfl ?_
  exact ⟨_, au4_0, au4_2, bl_⟩
 rw [if_neg c14] at H
 have c14b0 : (a1.toList == ([] : List UInt8)) = false := beq_eq_false_iff_ne.mpr c14
 have c14b1 : (a1.toList != ([] : List UInt8)) = true := bne_iff_ne.mpr c14
 replace H := bi_ H; rcases H with ⟨t568, A24, H⟩
 replace H := it_ H; rcases H with ⟨c25b0, H⟩ | ⟨c25b0, H⟩
 ·have c25b1 : decide (t568.length < 2) = true := n2_ c25b0
  simp only [Option.some.injEq, Prod.mk.injEq] at H
  obtain ⟨rfl, rfl, rfl, rfl, rfl⟩ := H
  go_enter Try.func52, Try.ntmps52
  go_wp2_with (first | ((with_reducible refine gate_dst (N := 2) rfl ?_); (try (refine gate_guard (by rfl) ?_; dsimp only)); refine be_ 2 #[.int .i64 a0_0, .int .i64 a0_1, .int .i64 a0_2, .int .i64 a0_3] 45 ?_; intro gb561 hg w26 hbox hb; have BK561 := am_ (hbox); have GW561 := am_ (gw_ hg bl_); have GE561 := GW561; replace HB := hs_ w hb; clear hb hbox hg) | ((with_reducible refine gate_dst (N := 4) rfl ?_); (try (refine gate_guard (by rfl) ?_; dsimp only)); refine be_ 4 #[.string (⟨#[]⟩ : ByteArray), .slice none 0 0, .int .i64 0, .int .i64 0, .int .i64 0] 94 ?_; intro gb562 hg w27 hbox hb; have BK562 := am_ (hbox); have GW562 := am_ (gw_ hg bl_); have GE562 := GW562; replace HB := hs_ w hb; have NB561_562 := am_ (gn_ hg (blkl_ BK561)); have NB562_561 := am_ (gm_ hg (blkl_ BK561)); replace BK561 := bb_ BK561 hb; clear hb hbox hg) | ((with_reducible refine gate_dst (N := 15) rfl ?_); (try (refine gate_guard (by rfl) ?_; dsimp only)); refine Kd.R_lit Kd.string _ 9 ?hg (N := 15) ?hd (xs := ([a1] : List ByteArray)) (inner := [.string a1]) (ok := fun _ => True) (okp := fun _ => True) ?hr ?hp (fun _ hk => hk) trivial (Below.refl _ _) (Nat.le_refl _) (by simp) ?_; (case hd => rfl); (case hg => rfl); (case hr => exact hr_); (case hp => exact au4_10); intro v564 w28 ho29 hb hg_ hnew_; clear hg_ hnew_; (first | rw [← Ny563.out] at ho29 | (simp only [Int.reduceToNat] at ho29; rw [← Ny563.out] at ho29)); have HO565 := am_ (Kd.R_lower ho29 (below_size bl_)); replace BK561 := bb_ BK561 hb; replace BK562 := bb_ BK562 hb; replace HB := hs_ w hb; clear hb ho29; obtain ⟨Ao30, co30, eo30⟩ := Kd.R_slice HO565.out; subst eo30) | (go_at_call 51; (with_reducible refine (F51.calls k _ _ y563 false _ ?s1 ?s2 A3.out).mono ?_); (case s1 => exact au4_3); (case s2 => exact au4_21); rintro e w' ⟨rfl, ⟨nd, rfl⟩⟩; (try clear A3); (try (rw [drewN_self w28]; generalize hq_ : World.drewN w28 _ = w28; have n0_ : Aside0 (Kd.R Kd.string 9 w28 w.heap.size (fun _ => True) (.slice Ao30 y563.length co30) y563) := ⟨by rw [← hq_]; exact (rk_ HO565)⟩; have n1_ : Aside0 (w28.heap[gb561]? = some (.cells #[.int .i64 a0_0, .int .i64 a0_1, .int .i64 a0_2, .int .i64 a0_3] 45 (0, 0))) := ⟨by rw [← hq_]; exact (bk_ BK561)⟩; have n2_ : Aside0 (w28.heap[gb562]? = some (.cells #[.string (⟨#[]⟩ : ByteArray), .slice none 0 0, .int .i64 0, .int .i64 0, .int .i64 0] 94 (0, 0))) := ⟨by rw [← hq_]; exact (bk_ BK562)⟩; have n3_ : Aside0 (Below w.heap.size w w28) := ⟨by rw [← hq_]; exact bl_⟩; clear HO565 BK561 BK562 HB hq_; have HO565 := n0_; have BK561 := n1_; have BK562 := n2_; have HB := n3_; clear n0_ n1_ n2_ n3_)); have hnb31 := NB561_562.out; have hnc31 := NB562_561.out; obtain ⟨hcz32_0, hcz32_1, hcz32_2, hcz32_3, hfz32_0, hfz32_1, hfz32_2, hfz32_3⟩ := cellsF4 BK561.out) | (go_at_call 46; (with_reducible refine (F46.calls k a0_0 a0_1 a0_2 a0_3 true _ A12.out).mono ?_); rintro e w33 ⟨rfl, hb⟩; (try clear A12); replace HO565 := am_ (Kd.R_below (rk_ HO565) hb); replace BK561 := bb_ BK561 hb; replace BK562 := bb_ BK562 hb; replace HB := hs_ w hb; (try clear hb); obtain ⟨hcz34_0, hcz34_1, hcz34_2, hcz34_3, hfz34_0, hfz34_1, hfz34_2, hfz34_3⟩ := cellsF4 BK561.out) | (go_at_call 93; (with_reducible refine (F93.calls k a0_0 a0_1 a0_2 a0_3 a1 a0_0 t568 _ A24.out).mono ?_); rintro e w35 ⟨v569, rfl, ho0, hb⟩; (try clear A24); have HO570 := am_ (Kd.R_lower (Kd.R_new' ho0 (Kd.R_lt (rk_ HO565))) (below_size bl_)); replace HO565 := am_ (Kd.R_elder' (rk_ HO565) (Kd.R_base ho0) hb); replace BK561 := bb_ BK561 hb; replace BK562 := bb_ BK562 hb; replace HB := hs_ w hb; (try clear hb); (try clear ho0); obtain ⟨Ao36, co36, eo36⟩ := Kd.R_slice HO570.out; subst eo36; obtain ⟨hcz37_0, hcz37_1, hcz37_2, hcz37_3, hcz37_4, hfz37_0, hfz37_1, hfz37_2, hfz37_3, hfz37_4⟩ := cellsF5 BK562.out))
  refine bodyPost_ret (results_cell_row rfl _ _ gb562 94 #[.string (⟨#[]⟩ : ByteArray), .slice none 0 0, .int .i64 0, .int .i64 0, .int .i64 4] (0, 0) _ rfl (bq_ BK562) Try.underlying94 rfl (by kernel_rfl)) rfl ?_
  exact ⟨_, au4_0, au4_2, bl_⟩
 have c25b1 : decide (t568.length < 2) = false := n2_ c25b0
 replace H := itn_ H; rcases H with ⟨c38b0, H⟩
 have c38b1 : decide (0 < t568.length) = true := n2_ c38b0
 replace H := bi_ H; rcases H with ⟨t572, A39, H⟩
 replace H := itn_ H; rcases H with ⟨c40b0, H⟩
 have c40b1 : decide (0 < t572.length) = true := n2_ c40b0
 replace H := bi_ H; rcases H with ⟨t577, A41, H⟩
 replace H := ib_ H; rcases H with ⟨rfl, H⟩ | ⟨rfl, H⟩
 rotate_left
 ·simp only [Option.some.injEq, Prod.mk.injEq] at H
  obtain ⟨rfl, rfl, rfl, rfl, rfl⟩ := H
  go_enter Try.func52, Try.ntmps52
  try go_wp2_with (first | ((with_reducible refine gate_dst (N := 2) rfl ?_); (try (refine gate_guard (by rfl) ?_; dsimp only)); refine be_ 2 #[.int .i64 a0_0, .int .i64 a0_1, .int .i64 a0_2, .int .i64 a0_3] 45 ?_; intro gb561 hg w137 hbox hb; have BK561 := am_ (hbox); have GW561 := am_ (gw_ hg bl_); have GE561 := GW561; replace HB := hs_ w hb; clear hb hbox hg) | ((with_reducible refine gate_dst (N := 4) rfl ?_); (try (refine gate_guard (by rfl) ?_; dsimp only)); refine be_ 4 #[.string (⟨#[]⟩ : ByteArray), .slice none 0 0, .int .i64 0, .int .i64 0, .int .i64 0] 94 ?_; intro gb562 hg w138 hbox hb; have BK562 := am_ (hbox); have GW562 := am_ (gw_ hg bl_); have GE562 := GW562; replace HB := hs_ w hb; have NB561_562 := am_ (gn_ hg (blkl_ BK561)); have NB562_561 := am_ (gm_ hg (blkl_ BK561)); replace BK561 := bb_ BK561 hb; clear hb hbox hg) | ((with_reducible refine gate_dst (N := 15) rfl ?_); (try (refine gate_guard (by rfl) ?_; dsimp only)); refine Kd.R_lit Kd.string _ 9 ?hg (N := 15) ?hd (xs := ([a1] : List ByteArray)) (inner := [.string a1]) (ok := fun _ => True) (okp := fun _ => True) ?hr ?hp (fun _ hk => hk) trivial (Below.refl _ _) (Nat.le_refl _) (by simp) ?_; (case hd => rfl); (case hg => rfl); (case hr => exact hr_); (case hp => exact au4_10); intro v564 w139 ho140 hb hg_ hnew_; clear hg_ hnew_; (first | rw [← Ny563.out] at ho140 | (simp only [Int.reduceToNat] at ho140; rw [← Ny563.out] at ho140)); have HO565 := am_ (Kd.R_lower ho140 (below_size bl_)); replace BK561 := bb_ BK561 hb; replace BK562 := bb_ BK562 hb; replace HB := hs_ w hb; clear hb ho140; obtain ⟨Ao141, co141, eo141⟩ := Kd.R_slice HO565.out; subst eo141) | (go_at_call 51; (with_reducible refine (F51.calls k _ _ y563 false _ ?s1 ?s2 A3.out).mono ?_); (case s1 => exact au4_3); (case s2 => exact au4_21); rintro e w' ⟨rfl, ⟨nd, rfl⟩⟩; (try clear A3); (try (rw [drewN_self w139]; generalize hq_ : World.drewN w139 _ = w139; have n0_ : Aside0 (Kd.R Kd.string 9 w139 w.heap.size (fun _ => True) (.slice Ao141 y563.length co141) y563) := ⟨by rw [← hq_]; exact (rk_ HO565)⟩; have n1_ : Aside0 (w139.heap[gb561]? = some (.cells #[.int .i64 a0_0, .int .i64 a0_1, .int .i64 a0_2, .int .i64 a0_3] 45 (0, 0))) := ⟨by rw [← hq_]; exact (bk_ BK561)⟩; have n2_ : Aside0 (w139.heap[gb562]? = some (.cells #[.string (⟨#[]⟩ : ByteArray), .slice none 0 0, .int .i64 0, .int .i64 0, .int .i64 0] 94 (0, 0))) := ⟨by rw [← hq_]; exact (bk_ BK562)⟩; have n3_ : Aside0 (Below w.heap.size w w139) := ⟨by rw [← hq_]; exact bl_⟩; clear HO565 BK561 BK562 HB hq_; have HO565 := n0_; have BK561 := n1_; have BK562 := n2_; have HB := n3_; clear n0_ n1_ n2_ n3_)); have hnb142 := NB561_562.out; have hnc142 := NB562_561.out; obtain ⟨hcz143_0, hcz143_1, hcz143_2, hcz143_3, hfz143_0, hfz143_1, hfz143_2, hfz143_3⟩ := cellsF4 BK561.out) | (go_at_call 46; (with_reducible refine (F46.calls k a0_0 a0_1 a0_2 a0_3 true _ A12.out).mono ?_); rintro e w144 ⟨rfl, hb⟩; (try clear A12); replace HO565 := am_ (Kd.R_below (rk_ HO565) hb); replace BK561 := bb_ BK561 hb; replace BK562 := bb_ BK562 hb; replace HB := hs_ w hb; (try clear hb); obtain ⟨hcz145_0, hcz145_1, hcz145_2, hcz145_3, hfz145_0, hfz145_1, hfz145_2, hfz145_3⟩ := cellsF4 BK561.out) | (go_at_call 93; (with_reducible refine (F93.calls k a0_0 a0_1 a0_2 a0_3 a1 a0_0 t568 _ A24.out).mono ?_); rintro e w146 ⟨v569, rfl, ho0, hb⟩; (try clear A24); have HO570 := am_ (Kd.R_lower (Kd.R_new' ho0 (Kd.R_lt (rk_ HO565))) (below_size bl_)); replace HO565 := am_ (Kd.R_elder' (rk_ HO565) (Kd.R_base ho0) hb); replace BK561 := bb_ BK561 hb; replace BK562 := bb_ BK562 hb; replace HB := hs_ w hb; (try clear hb); (try clear ho0); obtain ⟨Ao147, co147, eo147⟩ := Kd.R_slice HO570.out; subst eo147))
  replace HO565 := am_ (Kd.R_drew HO565.out)
  replace HO570 := am_ (Kd.R_drew HO570.out)
  replace BK561 := bd_ BK561
  replace BK562 := bd_ BK562
  replace HB := am_ (below_drew1 HB.out)
  have p571 : 0 ≤ (0 : Int) := (by omega)
  have q571 : 0 < (t568.length : Int) := od_
  obtain ⟨ad571, e571, hx571_0⟩ := Kd.at_string (Kd.R_reads' HO570.out).2.2 0 p571 q571
  cases e571
  have qi571 : (0 < t568.length) = True := eq_true (by omega)
  (try rw [show ((0 : Int)).toNat = 0 from rfl] at hx571_0)
  (try rw [Addr.add_zero'] at hx571_0)
  replace p571 := eq_true p571
  replace q571 := eq_true q571
  refine start_ (n := 8) (S := fun w' => w'.cell? ⟨gb561, 0, none⟩ = some (.int .i64 a0_0) ∧ w'.cell? ⟨gb561, 1, none⟩ = some (.int .i64 a0_1) ∧ w'.cell? ⟨gb561, 2, none⟩ = some (.int .i64 a0_2) ∧ w'.cell? ⟨gb561, 3, none⟩ = some (.int .i64 a0_3) ∧ w'.cell? ad571 = some (.string (rdOf ByteArray.empty t568 0))) (ds := []) (bs 8 0) (by kernel_rfl) rfl rfl ⟨(blk_cell BK561.out 0).trans rfl, (blk_cell BK561.out 1).trans rfl, (blk_cell BK561.out 2).trans rfl, (blk_cell BK561.out 3).trans rfl, hx571_0⟩ (fun hHeld => ?_); refine with_tabW F52.tab10 F52.bits10 (fun HT_ HW_ => ?_)
  generalize w146.drew = w148 at HO565 HO570 BK561 BK562 HB hx571_0 hHeld ⊢
  refine pu_ 1 37 (bs 8 2) HT_ ?_ rfl rfl
  refine pu_ 2 38 (bs 8 6) HT_ ?_ rfl rfl
  refine pu_ 4 40 (bs 8 22) HT_ ?_ rfl rfl
  refine tk_ 0 36 (bs 8 23) HT_ HW_ hHeld au4_11 ?_ rfl rfl
  refine tk_ 3 39 (bs 8 31) HT_ HW_ hHeld au4_11 ?_ rfl rfl
  refine tk_ 5 41 (bs 8 63) HT_ HW_ hHeld au4_11 ?_ rfl rfl
  refine one_ (i := 6) (N := some 42) (bs 8 127) rfl rfl (one_of HT_.out (by kernel_rfl)) (by decide) (fun K hK => ?_)
  refine gr_ Try.func93 #[.agg #[.int .i64 a0_0, .int .i64 a0_1, .int .i64 a0_2, .int .i64 a0_3], .string (rdOf ByteArray.empty t568 0), .int .i64 a0_1] (by rfl) ?_ rfl rfl rfl
  with_reducible refine (F93.calls k a0_0 a0_1 a0_2 a0_3 (rdOf ByteArray.empty t568 0) a0_1 t572 _ A39.out).mono ?_
  rintro e w149 ⟨v573, rfl, ho0, hb⟩
  have HS4_ := (hb.cell (World.block_lt_of_cell? _ _ (hHeld.2.2.2.2))).trans (hHeld.2.2.2.2)
  refine ⟨_, rfl, ?_⟩
  have HO574 := am_ (Kd.R_lower (Kd.R_new' (Kd.R_new' ho0 (Kd.R_lt (rk_ HO565))) (Kd.R_lt (rk_ HO570))) (below_size bl_))
  replace HO565 := am_ (Kd.R_elder' (rk_ HO565) (Kd.R_base ho0) hb)
  replace HO570 := am_ (Kd.R_elder' (rk_ HO570) (Kd.R_base ho0) hb)
  replace BK561 := bb_ BK561 hb
  replace BK562 := bb_ BK562 hb
  replace HB := hs_ w hb
  (try clear hb)
  (try clear hb2)
  (try clear hk)
  (try clear hi)
  (try clear ho0)
  refine hK.out _ _ ⟨(blk_cell BK561.out 0).trans rfl, (blk_cell BK561.out 1).trans rfl, (blk_cell BK561.out 2).trans rfl, (blk_cell BK561.out 3).trans rfl, HS4_⟩ (fun hHeld => ?_)
  clear hK K
  refine no_ 42 ?_
  refine pu_ 7 6 (bs 8 255) HT_ ?_ rfl rfl
  refine done_ (done_of HT_.out (by kernel_rfl)) ?_
  obtain ⟨Ao150, co150, eo150⟩ := Kd.R_slice HO574.out
  subst eo150
  have p575 : 0 ≤ (0 : Int) := (by omega)
  have q575 : 0 < (t572.length : Int) := od_
  obtain ⟨ad575, e575, hx575_0⟩ := Kd.at_string (Kd.R_reads' HO574.out).2.2 0 p575 q575
  cases e575
  have qi575 : (0 < t572.length) = True := eq_true (by omega)
  (try rw [show ((0 : Int)).toNat = 0 from rfl] at hx575_0)
  (try rw [Addr.add_zero'] at hx575_0)
  replace p575 := eq_true p575
  replace q575 := eq_true q575
  try go_wp2_with (first | ((with_reducible refine gate_dst (N := 7) rfl ?_); (try (refine gate_guard (by rfl) ?_; dsimp only)); refine be_ 7 #[.string (⟨#[]⟩ : ByteArray), .slice none 0 0] 88 ?_; intro gb576 hg w151 hbox hb; replace HO565 := am_ (Kd.R_below (rk_ HO565) hb); replace HO570 := am_ (Kd.R_below (rk_ HO570) hb); replace HO574 := am_ (Kd.R_below (rk_ HO574) hb); have BK576 := am_ (hbox); have GW576 := am_ (gw_ hg bl_); have GE576 := GW576; replace HB := hs_ w hb; have NB561_576 := am_ (gn_ hg (blkl_ BK561)); have NB576_561 := am_ (gm_ hg (blkl_ BK561)); replace BK561 := bb_ BK561 hb; have NB562_576 := am_ (gn_ hg (blkl_ BK562)); have NB576_562 := am_ (gm_ hg (blkl_ BK562)); replace BK562 := bb_ BK562 hb; clear hb hbox hg; have hnb152 := NB576_561.out; have hnc152 := NB561_576.out; have hnb153 := NB576_562.out; have hnc153 := NB562_576.out; obtain ⟨hcz154_0, hcz154_1, hfz154_0, hfz154_1⟩ := cellsF2 BK576.out) | (go_at_call 89; (with_reducible refine (F89.calls (rdOf ByteArray.empty t572 0) false _ A41.out).mono ?_); rintro e w' ⟨rfl, ⟨nd, rfl⟩⟩; (try clear A41); obtain ⟨hcz155_0, hcz155_1, hcz155_2, hcz155_3, hcz155_4, hfz155_0, hfz155_1, hfz155_2, hfz155_3, hfz155_4⟩ := cellsF5 BK562.out))
  refine bodyPost_ret (results_cell_row rfl _ _ gb562 94 #[.string (⟨#[]⟩ : ByteArray), .slice none 0 0, .int .i64 0, .int .i64 0, .int .i64 3] (0, 0) _ rfl (bq_ BK562) Try.underlying94 rfl (by kernel_rfl)) rfl ?_
  exact ⟨_, au4_0, au4_2, bl_⟩
 by_cases c43 : 1 ≤ (t572.length : Int)
 rotate_left
 ·rw [if_neg c43] at H
  exact absurd H (by simp)
 rw [if_pos c43] at H
 have c43b0 := eq_true c43
 have c43b1 : decide (1 ≤ (t572.length : Int)) = true := decide_eq_true c43
 clear c43
 obtain ⟨y578, hy578⟩ : ∃ y_ : List ByteArray, y_ = (t572.drop 1) := ⟨_, rfl⟩
 replace H : (F52.l0 k t568 t572 (wrap64 (((rdOf ByteArray.empty t572 0).size : Int) + 1)) y578 (y578.length : Int) 0 a0_0 a0_1 a0_2 a0_3 (rdOf ByteArray.empty t572 0) ([] : List (S122))) = some (r1, r2, r3, r4, r5) := by first | (rw [hy578]; exact H) | exact H
 have Ny578 := am_ hy578
 clear hy578
 have H' := am_ H
 clear H
 go_enter Try.func52, Try.ntmps52
 try go_wp2_with (first | ((with_reducible refine gate_dst (N := 2) rfl ?_); (try (refine gate_guard (by rfl) ?_; dsimp only)); refine be_ 2 #[.int .i64 a0_0, .int .i64 a0_1, .int .i64 a0_2, .int .i64 a0_3] 45 ?_; intro gb561 hg w44 hbox hb; have BK561 := am_ (hbox); have GW561 := am_ (gw_ hg bl_); have GE561 := GW561; replace HB := hs_ w hb; clear hb hbox hg) | ((with_reducible refine gate_dst (N := 4) rfl ?_); (try (refine gate_guard (by rfl) ?_; dsimp only)); refine be_ 4 #[.string (⟨#[]⟩ : ByteArray), .slice none 0 0, .int .i64 0, .int .i64 0, .int .i64 0] 94 ?_; intro gb562 hg w45 hbox hb; have BK562 := am_ (hbox); have GW562 := am_ (gw_ hg bl_); have GE562 := GW562; replace HB := hs_ w hb; have NB561_562 := am_ (gn_ hg (blkl_ BK561)); have NB562_561 := am_ (gm_ hg (blkl_ BK561)); replace BK561 := bb_ BK561 hb; clear hb hbox hg) | ((with_reducible refine gate_dst (N := 15) rfl ?_); (try (refine gate_guard (by rfl) ?_; dsimp only)); refine Kd.R_lit Kd.string _ 9 ?hg (N := 15) ?hd (xs := ([a1] : List ByteArray)) (inner := [.string a1]) (ok := fun _ => True) (okp := fun _ => True) ?hr ?hp (fun _ hk => hk) trivial (Below.refl _ _) (Nat.le_refl _) (by simp) ?_; (case hd => rfl); (case hg => rfl); (case hr => exact hr_); (case hp => exact au4_10); intro v564 w46 ho47 hb hg_ hnew_; clear hg_ hnew_; (first | rw [← Ny563.out] at ho47 | (simp only [Int.reduceToNat] at ho47; rw [← Ny563.out] at ho47)); have HO565 := am_ (Kd.R_lower ho47 (below_size bl_)); replace BK561 := bb_ BK561 hb; replace BK562 := bb_ BK562 hb; replace HB := hs_ w hb; clear hb ho47; obtain ⟨Ao48, co48, eo48⟩ := Kd.R_slice HO565.out; subst eo48) | (go_at_call 51; (with_reducible refine (F51.calls k _ _ y563 false _ ?s1 ?s2 A3.out).mono ?_); (case s1 => exact au4_3); (case s2 => exact au4_21); rintro e w' ⟨rfl, ⟨nd, rfl⟩⟩; (try clear A3); (try (rw [drewN_self w46]; generalize hq_ : World.drewN w46 _ = w46; have n0_ : Aside0 (Kd.R Kd.string 9 w46 w.heap.size (fun _ => True) (.slice Ao48 y563.length co48) y563) := ⟨by rw [← hq_]; exact (rk_ HO565)⟩; have n1_ : Aside0 (w46.heap[gb561]? = some (.cells #[.int .i64 a0_0, .int .i64 a0_1, .int .i64 a0_2, .int .i64 a0_3] 45 (0, 0))) := ⟨by rw [← hq_]; exact (bk_ BK561)⟩; have n2_ : Aside0 (w46.heap[gb562]? = some (.cells #[.string (⟨#[]⟩ : ByteArray), .slice none 0 0, .int .i64 0, .int .i64 0, .int .i64 0] 94 (0, 0))) := ⟨by rw [← hq_]; exact (bk_ BK562)⟩; have n3_ : Aside0 (Below w.heap.size w w46) := ⟨by rw [← hq_]; exact bl_⟩; clear HO565 BK561 BK562 HB hq_; have HO565 := n0_; have BK561 := n1_; have BK562 := n2_; have HB := n3_; clear n0_ n1_ n2_ n3_)); have hnb49 := NB561_562.out; have hnc49 := NB562_561.out; obtain ⟨hcz50_0, hcz50_1, hcz50_2, hcz50_3, hfz50_0, hfz50_1, hfz50_2, hfz50_3⟩ := cellsF4 BK561.out) | (go_at_call 46; (with_reducible refine (F46.calls k a0_0 a0_1 a0_2 a0_3 true _ A12.out).mono ?_); rintro e w51 ⟨rfl, hb⟩; (try clear A12); replace HO565 := am_ (Kd.R_below (rk_ HO565) hb); replace BK561 := bb_ BK561 hb; replace BK562 := bb_ BK562 hb; replace HB := hs_ w hb; (try clear hb); obtain ⟨hcz52_0, hcz52_1, hcz52_2, hcz52_3, hfz52_0, hfz52_1, hfz52_2, hfz52_3⟩ := cellsF4 BK561.out) | (go_at_call 93; (with_reducible refine (F93.calls k a0_0 a0_1 a0_2 a0_3 a1 a0_0 t568 _ A24.out).mono ?_); rintro e w53 ⟨v569, rfl, ho0, hb⟩; (try clear A24); have HO570 := am_ (Kd.R_lower (Kd.R_new' ho0 (Kd.R_lt (rk_ HO565))) (below_size bl_)); replace HO565 := am_ (Kd.R_elder' (rk_ HO565) (Kd.R_base ho0) hb); replace BK561 := bb_ BK561 hb; replace BK562 := bb_ BK562 hb; replace HB := hs_ w hb; (try clear hb); (try clear ho0); obtain ⟨Ao54, co54, eo54⟩ := Kd.R_slice HO570.out; subst eo54))
 replace HO565 := am_ (Kd.R_drew HO565.out)
 replace HO570 := am_ (Kd.R_drew HO570.out)
 replace BK561 := bd_ BK561
 replace BK562 := bd_ BK562
 replace HB := am_ (below_drew1 HB.out)
 have p571 : 0 ≤ (0 : Int) := (by omega)
 have q571 : 0 < (t568.length : Int) := od_
 obtain ⟨ad571, e571, hx571_0⟩ := Kd.at_string (Kd.R_reads' HO570.out).2.2 0 p571 q571
 cases e571
 have qi571 : (0 < t568.length) = True := eq_true (by omega)
 (try rw [show ((0 : Int)).toNat = 0 from rfl] at hx571_0)
 (try rw [Addr.add_zero'] at hx571_0)
 replace p571 := eq_true p571
 replace q571 := eq_true q571
 refine start_ (n := 8) (S := fun w' => w'.cell? ⟨gb561, 0, none⟩ = some (.int .i64 a0_0) ∧ w'.cell? ⟨gb561, 1, none⟩ = some (.int .i64 a0_1) ∧ w'.cell? ⟨gb561, 2, none⟩ = some (.int .i64 a0_2) ∧ w'.cell? ⟨gb561, 3, none⟩ = some (.int .i64 a0_3) ∧ w'.cell? ad571 = some (.string (rdOf ByteArray.empty t568 0))) (ds := []) (bs 8 0) (by kernel_rfl) rfl rfl ⟨(blk_cell BK561.out 0).trans rfl, (blk_cell BK561.out 1).trans rfl, (blk_cell BK561.out 2).trans rfl, (blk_cell BK561.out 3).trans rfl, hx571_0⟩ (fun hHeld => ?_); refine with_tabW F52.tab10 F52.bits10 (fun HT_ HW_ => ?_)
 generalize w53.drew = w55 at HO565 HO570 BK561 BK562 HB hx571_0 hHeld ⊢
 refine pu_ 1 37 (bs 8 2) HT_ ?_ rfl rfl
 refine pu_ 2 38 (bs 8 6) HT_ ?_ rfl rfl
 refine pu_ 4 40 (bs 8 22) HT_ ?_ rfl rfl
 refine tk_ 0 36 (bs 8 23) HT_ HW_ hHeld au4_11 ?_ rfl rfl
 refine tk_ 3 39 (bs 8 31) HT_ HW_ hHeld au4_11 ?_ rfl rfl
 refine tk_ 5 41 (bs 8 63) HT_ HW_ hHeld au4_11 ?_ rfl rfl
 refine one_ (i := 6) (N := some 42) (bs 8 127) rfl rfl (one_of HT_.out (by kernel_rfl)) (by decide) (fun K hK => ?_)
 refine gr_ Try.func93 #[.agg #[.int .i64 a0_0, .int .i64 a0_1, .int .i64 a0_2, .int .i64 a0_3], .string (rdOf ByteArray.empty t568 0), .int .i64 a0_1] (by rfl) ?_ rfl rfl rfl
 with_reducible refine (F93.calls k a0_0 a0_1 a0_2 a0_3 (rdOf ByteArray.empty t568 0) a0_1 t572 _ A39.out).mono ?_
 rintro e w56 ⟨v573, rfl, ho0, hb⟩
 have HS4_ := (hb.cell (World.block_lt_of_cell? _ _ (hHeld.2.2.2.2))).trans (hHeld.2.2.2.2)
 refine ⟨_, rfl, ?_⟩
 have HO574 := am_ (Kd.R_lower (Kd.R_new' (Kd.R_new' ho0 (Kd.R_lt (rk_ HO565))) (Kd.R_lt (rk_ HO570))) (below_size bl_))
 replace HO565 := am_ (Kd.R_elder' (rk_ HO565) (Kd.R_base ho0) hb)
 replace HO570 := am_ (Kd.R_elder' (rk_ HO570) (Kd.R_base ho0) hb)
 replace BK561 := bb_ BK561 hb
 replace BK562 := bb_ BK562 hb
 replace HB := hs_ w hb
 (try clear hb)
 (try clear hb2)
 (try clear hk)
 (try clear hi)
 (try clear ho0)
 refine hK.out _ _ ⟨(blk_cell BK561.out 0).trans rfl, (blk_cell BK561.out 1).trans rfl, (blk_cell BK561.out 2).trans rfl, (blk_cell BK561.out 3).trans rfl, HS4_⟩ (fun hHeld => ?_)
 clear hK K
 refine no_ 42 ?_
 refine pu_ 7 6 (bs 8 255) HT_ ?_ rfl rfl
 refine done_ (done_of HT_.out (by kernel_rfl)) ?_
 obtain ⟨Ao57, co57, eo57⟩ := Kd.R_slice HO574.out
 subst eo57
 have p575 : 0 ≤ (0 : Int) := (by omega)
 have q575 : 0 < (t572.length : Int) := od_
 obtain ⟨ad575, e575, hx575_0⟩ := Kd.at_string (Kd.R_reads' HO574.out).2.2 0 p575 q575
 cases e575
 have qi575 : (0 < t572.length) = True := eq_true (by omega)
 (try rw [show ((0 : Int)).toNat = 0 from rfl] at hx575_0)
 (try rw [Addr.add_zero'] at hx575_0)
 replace p575 := eq_true p575
 replace q575 := eq_true q575
 try go_wp2_with (first | ((with_reducible refine gate_dst (N := 7) rfl ?_); (try (refine gate_guard (by rfl) ?_; dsimp only)); refine be_ 7 #[.string (⟨#[]⟩ : ByteArray), .slice none 0 0] 88 ?_; intro gb576 hg w58 hbox hb; replace HO565 := am_ (Kd.R_below (rk_ HO565) hb); replace HO570 := am_ (Kd.R_below (rk_ HO570) hb); replace HO574 := am_ (Kd.R_below (rk_ HO574) hb); have BK576 := am_ (hbox); have GW576 := am_ (gw_ hg bl_); have GE576 := GW576; replace HB := hs_ w hb; have NB561_576 := am_ (gn_ hg (blkl_ BK561)); have NB576_561 := am_ (gm_ hg (blkl_ BK561)); replace BK561 := bb_ BK561 hb; have NB562_576 := am_ (gn_ hg (blkl_ BK562)); have NB576_562 := am_ (gm_ hg (blkl_ BK562)); replace BK562 := bb_ BK562 hb; clear hb hbox hg; have hnb59 := NB576_561.out; have hnc59 := NB561_576.out; have hnb60 := NB576_562.out; have hnc60 := NB562_576.out; obtain ⟨hcz61_0, hcz61_1, hfz61_0, hfz61_1⟩ := cellsF2 BK576.out) | ((with_reducible refine gate_store (t := 88) (p := 7) rfl ?_); refine store_event (t := 88) (p := 7) (v := ?vo_w62) (w1 := ((w58.setCell ⟨gb576, 0, none⟩ (.string (rdOf ByteArray.empty t572 0))).setCell ⟨gb576, 1, none⟩ (.slice none 0 0))) ?hg ?ho ?hn ?hr ?_; (case ho => rfl); (case hg => rfl); (case hn => rfl); (case hr => exact hr_); intro w62 hw; have n0_ : Aside0 (Kd.R Kd.string 9 w62 w.heap.size (fun k_ => some k_ ≠ (.slice (some ad571) t568.length co54 : Value).ownBlock ∧ some k_ ≠ (.slice (some ad575) t572.length co57 : Value).ownBlock) (.slice Ao48 y563.length co48) y563) := ⟨(by rw [hw]; exact (by (with_reducible repeat (first | apply Kd.R_alloc | apply Kd.R_drewN | apply Kd.R_drew)); exact Kd.R_mono (Kd.R_far (p := ⟨gb576, 1, none⟩) (Kd.R_far (p := ⟨gb576, 0, none⟩) (Kd.R_types HO565.out BK576.out (by decide)) (fun _ hk => hk.2) (.string (rdOf ByteArray.empty t572 0))) (fun _ hk => hk.2) (.slice none 0 0)) (fun _ hk => ⟨hk.1.1.2, hk.1.2⟩)))⟩; have n1_ : Aside0 (Kd.R Kd.string 9 w62 w.heap.size (fun k_ => some k_ ≠ (.slice Ao48 y563.length co48 : Value).ownBlock ∧ some k_ ≠ (.slice (some ad575) t572.length co57 : Value).ownBlock) (.slice (some ad571) t568.length co54) t568) := ⟨(by rw [hw]; exact (by (with_reducible repeat (first | apply Kd.R_alloc | apply Kd.R_drewN | apply Kd.R_drew)); exact Kd.R_mono (Kd.R_far (p := ⟨gb576, 1, none⟩) (Kd.R_far (p := ⟨gb576, 0, none⟩) (Kd.R_types HO570.out BK576.out (by decide)) (fun _ hk => hk.2) (.string (rdOf ByteArray.empty t572 0))) (fun _ hk => hk.2) (.slice none 0 0)) (fun _ hk => ⟨hk.1.1.2, hk.1.2⟩)))⟩; have n2_ : Aside0 (Kd.R Kd.string 9 w62 w.heap.size (fun k_ => some k_ ≠ (.slice Ao48 y563.length co48 : Value).ownBlock ∧ some k_ ≠ (.slice (some ad571) t568.length co54 : Value).ownBlock) (.slice (some ad575) t572.length co57) t572) := ⟨(by rw [hw]; exact (by (with_reducible repeat (first | apply Kd.R_alloc | apply Kd.R_drewN | apply Kd.R_drew)); exact Kd.R_mono (Kd.R_far (p := ⟨gb576, 1, none⟩) (Kd.R_far (p := ⟨gb576, 0, none⟩) (Kd.R_types HO574.out BK576.out (by decide)) (fun _ hk => hk.2) (.string (rdOf ByteArray.empty t572 0))) (fun _ hk => hk.2) (.slice none 0 0)) (fun _ hk => ⟨hk.1.1.2, hk.1.2⟩)))⟩; have n3_ : Aside0 (w62.heap[gb561]? = some (.cells #[.int .i64 a0_0, .int .i64 a0_1, .int .i64 a0_2, .int .i64 a0_3] 45 (0, 0))) := ⟨(by rw [hw]; exact (bf_ BK561))⟩; have n4_ : Aside0 (w62.heap[gb562]? = some (.cells #[.string (⟨#[]⟩ : ByteArray), .slice none 0 0, .int .i64 0, .int .i64 0, .int .i64 0] 94 (0, 0))) := ⟨(by rw [hw]; exact (bf_ BK562))⟩; have n5_ : Aside0 (w62.heap[gb576]? = some (.cells #[.string (rdOf ByteArray.empty t572 0), .slice none 0 0] 88 (0, 0))) := ⟨(by rw [hw]; exact (bq_ BK576))⟩; have n6_ : Aside0 (Below w.heap.size w w62) := ⟨(by rw [hw]; exact bl_)⟩; clear hw; clear HO565; clear HO570; clear HO574; clear BK561; clear BK562; clear BK576; clear HB; have HO565 := n0_; have HO570 := n1_; have HO574 := n2_; have BK561 := n3_; have BK562 := n4_; have BK576 := n5_; have HB := n6_; clear n0_ n1_ n2_ n3_ n4_ n5_ n6_; obtain ⟨hcz63_0, hcz63_1, hfz63_0, hfz63_1⟩ := cellsF2 BK576.out) | (go_at_call 89; (with_reducible refine (F89.calls (rdOf ByteArray.empty t572 0) true _ A41.out).mono ?_); rintro e w' ⟨rfl, ⟨nd, rfl⟩⟩; (try clear A41); have q64 : (1 : Int) ≤ ((t572.length : Int) : Int) := od_; obtain ⟨i064, hi064, _, hsz64, _⟩ := info_parts info9; have hroom64 : t572.length ≤ co57 := (Kd.R_reads' HO574.out).2.1; have hC64 : Kd.C Kd.string _ (some ad575) t572.length t572 := (Kd.R_reads' HO574.out).2.2; have hcut64 := cut_from (P := Try.prog) 22 9 .i64 Try.underlying22 hi064 1 hsz64 (some ad575) t572.length co57 1 (by omega) q64; have hr64 := Kd.C_drop (m := (1 : Int).toNat) (c := co57) hC64 (by omega) hroom64; obtain ⟨A64, hA64⟩ : ∃ A1, A1 = (if co57 = (1 : Int).toNat then (some ad575) else ((some ad575) : Option Addr).map (·.add ((1 : Int).toNat * 1))) := ⟨_, rfl⟩; obtain ⟨c64, hc64⟩ : ∃ c1, c1 = co57 - (1 : Int).toNat := ⟨_, rfl⟩; have hy64 : y578.length = t572.length - (1 : Int).toNat := (by rw [Ny578.out, List.length_drop] <;> omega); rw [show (t572).drop (1 : Int).toNat = y578 from Ny578.out.symm] at hr64; replace hr64 : Kd.C Kd.string _ A64 y578.length y578 := (by rw [hA64]; exact hr64); rw [← hy64, ← hA64, ← hc64] at hcut64; have HR581 := am_ hr64; have HC581 := am_ (show y578.length ≤ c64 from by rw [hy64, hc64]; exact Nat.sub_le_sub_right hroom64 _); clear hr64 hC64 hroom64 hi064 hsz64 hc64; have KY64 := am_ hy64; have KA64 := am_ hA64; clear hy64 hA64; have KL64 := am_ (show 1 ≤ t572.length from by omega); replace q64 := eq_true q64))
 go_loopg [8, 59] k (fun kq v8 v59 w' => ∃ (x8_1 : Int) (x59_1 : Int) (x563000_1 : ByteArray) (x563002_1 : Int) (x563003_1 : Int) (x563004_1 : Int) (x577001_1 : List (S122)) (u577001 : Value), v8 = .int .i64 x8_1 ∧ v59 = .int .i64 x59_1 ∧ Aside0 (F52.l0 kq t568 t572 x8_1 y578 (y578.length : Int) x59_1 a0_0 a0_1 a0_2 a0_3 (rdOf ByteArray.empty t572 0) x577001_1 = some (r1, r2, r3, r4, r5)) ∧ Aside0 (kq ≤ k) ∧ Aside0 (Kd.R Kd.string 9 w' w.heap.size (fun k_ => some k_ ≠ ((.slice (some ad575) t572.length co57) : Value).ownBlock) (.slice (some ad571) t568.length co54) t568) ∧ Aside0 (Kd.R Kd.string 9 w' w.heap.size (fun k_ => some k_ ≠ ((.slice (some ad571) t568.length co54) : Value).ownBlock) (.slice (some ad575) t572.length co57) t572) ∧ Aside0 (Kd.S k122 122 w' w.heap.size (fun k_ => some k_ ≠ ((.slice (some ad571) t568.length co54) : Value).ownBlock ∧ some k_ ≠ ((.slice (some ad575) t572.length co57) : Value).ownBlock) u577001 x577001_1) ∧ Aside0 (w'.heap[gb561]? = some (.cells #[.int .i64 a0_0, .int .i64 a0_1, .int .i64 a0_2, .int .i64 a0_3] 45 (0, 0))) ∧ Aside0 (w'.heap[gb562]? = some (.cells #[.string x563000_1, (.slice none 0 0), .int .i64 x563002_1, .int .i64 x563003_1, .int .i64 x563004_1] 94 (0, 0))) ∧ Aside0 (w'.heap[gb576]? = some (.cells #[.string (rdOf ByteArray.empty t572 0), u577001] 88 (0, 0))) ∧ Aside0 (Below w.heap.size w w'))
 case atStart => exact ⟨(wrap64 (((rdOf ByteArray.empty t572 0).size : Int) + 1)), (0), ((⟨#[]⟩ : ByteArray)), (0), (0), (0), (([] : List (S122))), (.slice none 0 0), er_, er_, H', ⟨Nat.le_refl _⟩, ⟨by (with_reducible repeat (first | apply Kd.R_alloc | apply Kd.R_drewN | apply Kd.R_drew)); exact Kd.R_mono HO570.out (fun _ hk => hk.2)⟩, ⟨by (with_reducible repeat (first | apply Kd.R_alloc | apply Kd.R_drewN | apply Kd.R_drew)); exact Kd.R_mono HO574.out (fun _ hk => hk.2)⟩, ⟨au4_2⟩, ⟨bk_ BK561⟩, ⟨bk_ BK562⟩, ⟨bk_ BK576⟩, ⟨bl_⟩⟩
 case round =>
  clear H'
  try clear c1
  try clear c14
  try clear c14b0
  try clear c14b1
  try clear c25b0
  try clear c25b1
  try clear c38b0
  try clear c38b1
  try clear c40b0
  try clear c40b1
  try clear c43
  try clear c43b0
  try clear c43b1
  try clear c64
  try clear q64
  try clear hcz11_0 hcz11_1 hcz11_2 hcz11_3 hcz11_4
  try clear hcz21_0 hcz21_1 hcz21_2 hcz21_3
  try clear hcz23_0 hcz23_1 hcz23_2 hcz23_3 hcz23_4
  try clear hcz32_0 hcz32_1 hcz32_2 hcz32_3
  try clear hcz34_0 hcz34_1 hcz34_2 hcz34_3
  try clear hcz37_0 hcz37_1 hcz37_2 hcz37_3 hcz37_4
  try clear hcz50_0 hcz50_1 hcz50_2 hcz50_3
  try clear hcz52_0 hcz52_1 hcz52_2 hcz52_3
  try clear hcz61_0 hcz61_1
  try clear hcz63_0 hcz63_1
  try clear hfz11_0 hfz11_1 hfz11_2 hfz11_3 hfz11_4
  try clear hfz21_0 hfz21_1 hfz21_2 hfz21_3
  try clear hfz23_0 hfz23_1 hfz23_2 hfz23_3 hfz23_4
  try clear hfz32_0 hfz32_1 hfz32_2 hfz32_3
  try clear hfz34_0 hfz34_1 hfz34_2 hfz34_3
  try clear hfz37_0 hfz37_1 hfz37_2 hfz37_3 hfz37_4
  try clear hfz50_0 hfz50_1 hfz50_2 hfz50_3
  try clear hfz52_0 hfz52_1 hfz52_2 hfz52_3
  try clear hfz61_0 hfz61_1
  try clear hfz63_0 hfz63_1
  try clear hx571_0
  try clear hx575_0
  try clear p571
  try clear p575
  try clear q571
  try clear q575
  try clear q64
  obtain ⟨x8_1, x59_1, x563000_1, x563002_1, x563003_1, x563004_1, x577001_1, u577001, rfl, rfl, HA, HK1, HO_5, HO_6, HO_577001, BK561, BK562, BK576, HB⟩ := hrel
  cases gk with
  | zero => exact absurd HA.out (by simp [F52.l0])
  | succ k1 =>
   have H := HA.out
   clear HA
   simp only [F52.l0] at H
   replace H := it_ H; rcases H with ⟨c65b0, H⟩ | ⟨c65b0, H⟩
   rotate_left
   ·replace H := itn_ H; rcases H with ⟨c129b0, H⟩
    have c129b1 : decide (0 < t568.length) = true := n2_ c129b0
    simp only [Option.some.injEq, Prod.mk.injEq] at H
    obtain ⟨rfl, rfl, rfl, rfl, rfl⟩ := H
    try go_wp2
    replace HO_5 := am_ (Kd.R_drew HO_5.out)
    replace HO_6 := am_ (Kd.R_drew HO_6.out)
    replace HO_577001 := am_ (Kd.S_drew HO_577001.out)
    replace BK561 := bd_ BK561
    replace BK562 := bd_ BK562
    replace BK576 := bd_ BK576
    replace HB := am_ (below_drew1 HB.out)
    have p582 : 0 ≤ (0 : Int) := (by omega)
    have q582 : 0 < (t568.length : Int) := od_
    obtain ⟨ad582, e582, hx582_0⟩ := Kd.at_string (Kd.R_reads' HO_5.out).2.2 0 p582 q582
    obtain rfl : ad571 = ad582 := (by injection e582)
    have qi582 : (0 < t568.length) = True := eq_true (by omega)
    (try rw [show ((0 : Int)).toNat = 0 from rfl] at hx582_0)
    (try rw [Addr.add_zero'] at hx582_0)
    replace p582 := eq_true p582
    replace q582 := eq_true q582
    obtain ⟨Ao131, co131, eo131⟩ := Kd.S_slice HO_577001.out
    (first | subst eo131 | (injection eo131 with f1_ f2_ f3_; have f4_ := f1_.symm; have f5_ := f3_.symm; clear f1_ f2_ f3_; subst f4_; subst f5_))
    refine start_ (n := 8) (S := fun w' => w'.cell? ⟨gb576, 0, none⟩ = some (.string (rdOf ByteArray.empty t572 0)) ∧ w'.cell? ⟨gb576, 1, none⟩ = some (.slice Ao131 x577001_1.length co131) ∧ w'.cell? ad571 = some (.string (rdOf ByteArray.empty t568 0))) (ds := []) (bs 8 0) (by kernel_rfl) rfl rfl ⟨(blk_cell BK576.out 0).trans rfl, (blk_cell BK576.out 1).trans rfl, hx582_0⟩ (fun hHeld => ?_); refine with_tabW F52.tab28 F52.bits28 (fun HT_ HW_ => ?_)
    generalize wr.drew = w130 at HO_5 HO_6 HO_577001 BK561 BK562 BK576 HB hx582_0 hHeld ⊢
    refine pu_ 1 115 (bs 8 2) HT_ ?_ rfl rfl
    refine pu_ 2 116 (bs 8 6) HT_ ?_ rfl rfl
    refine tk_ 0 114 (bs 8 7) HT_ HW_ hHeld (by rintro w' ⟨s0, s1, s2⟩; go_simp; with_reducible rfl) ?_ rfl rfl
    refine tk_ 3 117 (bs 8 15) HT_ HW_ hHeld (by rintro w' ⟨s0, s1, s2⟩; go_simp; with_reducible rfl) ?_ rfl rfl
    refine pu_ 4 118 (bs 8 31) HT_ ?_ rfl rfl
    refine pu_ 5 119 (bs 8 63) HT_ ?_ rfl rfl
    refine pu_ 6 120 (bs 8 127) HT_ ?_ rfl rfl
    refine one_ (i := 7) (N := none) (bs 8 255) rfl rfl (one_of HT_.out (by kernel_rfl)) (by decide) (fun K hK => ?_)
    have hs132 : w130.cell? ⟨gb562, 0, none⟩ = some (.string x563000_1) := (blk_cell BK562.out 0).trans rfl
    have hfs132 := blk_frozen BK562.out 0
    have hns132_0 := NB561_562.out
    have hns132_2 := NB576_562.out
    have hms132_0 := NB562_561.out
    have hms132_2 := NB562_576.out
    have hs133 : w130.cell? ⟨gb562, 1, none⟩ = some (.slice none 0 0) := (blk_cell BK562.out 1).trans rfl
    have hfs133 := blk_frozen BK562.out 1
    have hns133_0 := NB561_562.out
    have hns133_2 := NB576_562.out
    have hms133_0 := NB562_561.out
    have hms133_2 := NB562_576.out
    have hs134 : w130.cell? ⟨gb562, 2, none⟩ = some (.int .i64 x563002_1) := (blk_cell BK562.out 2).trans rfl
    have hfs134 := blk_frozen BK562.out 2
    have hns134_0 := NB561_562.out
    have hns134_2 := NB576_562.out
    have hms134_0 := NB562_561.out
    have hms134_2 := NB562_576.out
    have hs135 : w130.cell? ⟨gb562, 3, none⟩ = some (.int .i64 x563003_1) := (blk_cell BK562.out 3).trans rfl
    have hfs135 := blk_frozen BK562.out 3
    have hns135_0 := NB561_562.out
    have hns135_2 := NB576_562.out
    have hms135_0 := NB562_561.out
    have hms135_2 := NB562_576.out
    have hs136 : w130.cell? ⟨gb562, 4, none⟩ = some (.int .i64 x563004_1) := (blk_cell BK562.out 4).trans rfl
    have hfs136 := blk_frozen BK562.out 4
    have hns136_0 := NB561_562.out
    have hns136_2 := NB576_562.out
    have hms136_0 := NB562_561.out
    have hms136_2 := NB562_576.out
    refine skip_ (w1 := ?_) (by rfl) rfl ?_ ?_
    rotate_left
    ·go_simp
     rfl
    refine hK.out _ _ ⟨((cell_far (p := ⟨gb562, _, none⟩) NB576_562.out _).trans (((cell_far (p := ⟨gb562, _, none⟩) NB576_562.out _).trans (((cell_far (p := ⟨gb562, _, none⟩) NB576_562.out _).trans (((cell_far (p := ⟨gb562, _, none⟩) NB576_562.out _).trans (((cell_far (p := ⟨gb562, _, none⟩) NB576_562.out _).trans (hHeld.1)))))))))), ((cell_far (p := ⟨gb562, _, none⟩) NB576_562.out _).trans (((cell_far (p := ⟨gb562, _, none⟩) NB576_562.out _).trans (((cell_far (p := ⟨gb562, _, none⟩) NB576_562.out _).trans (((cell_far (p := ⟨gb562, _, none⟩) NB576_562.out _).trans (((cell_far (p := ⟨gb562, _, none⟩) NB576_562.out _).trans (hHeld.2.1)))))))))), ((cell_far (p := ⟨gb562, _, none⟩) au4_1 _).trans (((cell_far (p := ⟨gb562, _, none⟩) au4_1 _).trans (((cell_far (p := ⟨gb562, _, none⟩) au4_1 _).trans (((cell_far (p := ⟨gb562, _, none⟩) au4_1 _).trans (((cell_far (p := ⟨gb562, _, none⟩) au4_1 _).trans (hHeld.2.2))))))))))⟩ (fun hHeld => ?_)
    clear hK K
    refine done_ (done_of HT_.out (by kernel_rfl)) ?_
    try go_wp2
    refine bodyPost_ret (results_cell_row rfl _ _ gb562 94 #[.string (rdOf ByteArray.empty t572 0), .slice Ao131 x577001_1.length co131, .int .i64 (wrap64 (((rdOf ByteArray.empty t568 0).size : Int) + 1)), .int .i64 0, .int .i64 0] (0, 0) _ rfl (bq_ BK562) Try.underlying94 rfl (by kernel_rfl)) rfl ?_
    exact ⟨_, au4_0, by (with_reducible repeat (first | apply Kd.S_alloc | apply Kd.S_drewN | apply Kd.S_drew)); exact Kd.S_mono (Kd.S_far (p := ⟨gb562, 4, none⟩) (Kd.S_far (p := ⟨gb562, 3, none⟩) (Kd.S_far (p := ⟨gb562, 2, none⟩) (Kd.S_far (p := ⟨gb562, 1, none⟩) (Kd.S_far (p := ⟨gb562, 0, none⟩) (Kd.S_types HO_577001.out BK562.out (by decide)) (fun _ hk => hk.2) (.string (rdOf ByteArray.empty t572 0))) (fun _ hk => hk.2) (.slice Ao131 x577001_1.length co131)) (fun _ hk => hk.2) (.int .i64 (wrap64 (((rdOf ByteArray.empty t568 0).size : Int) + 1)))) (fun _ hk => hk.2) (.int .i64 0)) (fun _ hk => hk.2) (.int .i64 0)) (fun _ hk => trivial), bl_⟩
   replace H := itn_ H; rcases H with ⟨c66b0, H⟩
   replace H := itn_ H; rcases H with ⟨c67b0, H⟩
   replace HR581 := am_ (show Kd.C Kd.string wr A64 y578.length y578 from by rw [Ny578.out, KA64.out]; exact Kd.C_drop (m := 1) (c := co57) ((Kd.R_reads' HO_6.out).2.2) KL64.out ((Kd.R_reads' HO_6.out).2.1))
   by_cases c68 : x59_1 = 10
   ·rw [if_pos c68] at H
    have c68b0 : (x59_1 == 10) = true := beq_iff_eq.mpr c68
    have c68b1 : (x59_1 != 10) = false := bne_eq_false_iff_eq.mpr c68
    clear c68
    simp only [Option.some.injEq, Prod.mk.injEq] at H
    obtain ⟨rfl, rfl, rfl, rfl, rfl⟩ := H
    have p583 : 0 ≤ (x59_1 : Int) := od_
    have q583 : x59_1 < (y578.length : Int) := od_
    obtain ⟨ad583, e583, hx583_0⟩ := Kd.at_string HR581.out x59_1 p583 q583
    cases e583
    try replace hx583_0 := (HB.out.cell (World.block_lt_of_cell? _ _ hx583_0)).trans hx583_0
    replace p583 := eq_true p583
    replace q583 := eq_true q583
    have hnb69 := NB562_561.out
    have hnc69 := NB561_562.out
    have hnb70 := NB562_576.out
    have hnc70 := NB576_562.out
    obtain ⟨hcz71_0, hcz71_1, hcz71_2, hcz71_3, hcz71_4, hfz71_0, hfz71_1, hfz71_2, hfz71_3, hfz71_4⟩ := cellsF5 BK562.out
    go_wp2
    refine bodyPost_ret (results_cell_row rfl _ _ gb562 94 #[.string (⟨#[]⟩ : ByteArray), .slice none 0 0, .int .i64 0, .int .i64 x8_1, .int .i64 3] (0, 0) _ rfl (bq_ BK562) Try.underlying94 rfl (by kernel_rfl)) rfl ?_
    exact ⟨_, au4_0, au4_2, bl_⟩
   rw [if_neg c68] at H
   have c68b0 : (x59_1 == 10) = false := beq_eq_false_iff_ne.mpr c68
   have c68b1 : (x59_1 != 10) = true := bne_iff_ne.mpr c68
   replace H := bi_ H; rcases H with ⟨⟨t584, t587⟩, A72, H⟩
   have HC73 := am_ H
   clear H
   have p583 : 0 ≤ (x59_1 : Int) := od_
   have q583 : x59_1 < (y578.length : Int) := od_
   obtain ⟨ad583, e583, hx583_0⟩ := Kd.at_string HR581.out x59_1 p583 q583
   cases e583
   try replace hx583_0 := (HB.out.cell (World.block_lt_of_cell? _ _ hx583_0)).trans hx583_0
   replace p583 := eq_true p583
   replace q583 := eq_true q583
   have hnb74 := NB561_562.out
   have hnc74 := NB562_561.out
   have hnb75 := NB561_576.out
   have hnc75 := NB576_561.out
   obtain ⟨hcz76_0, hcz76_1, hcz76_2, hcz76_3, hfz76_0, hfz76_1, hfz76_2, hfz76_3⟩ := cellsF4 BK561.out
   go_upto_region 21 with (first | (go_at_call 94; (with_reducible refine (F94.calls k1 a0_0 a0_1 a0_2 a0_3 (rdOf ByteArray.empty y578 x59_1) x8_1 t584 t587 _ A72.out).mono ?_); rintro e w77 ⟨v585, rfl, ho0, hb⟩; (try clear A72); replace HO_577001 := am_ (Kd.S_elder' au4_8 (Kd.R_base ho0) hb); have HO586 := am_ (Kd.R_lower (Kd.R_new' (Kd.R_new' ho0 (Kd.R_lt (rk_ HO_5))) (Kd.R_lt (rk_ HO_6))) (below_size bl_)); replace HO_5 := am_ (Kd.R_elder' (rk_ HO_5) (Kd.R_base ho0) hb); replace HO_6 := am_ (Kd.R_elder' (rk_ HO_6) (Kd.R_base ho0) hb); replace BK561 := bb_ BK561 hb; replace BK562 := bb_ BK562 hb; replace BK576 := bb_ BK576 hb; replace HB := hs_ w hb; (try clear hb); (try clear hb2); (try clear hk); (try clear hi); (try clear ho0)) | ((with_reducible refine gate_dst (N := 11) rfl ?_); (try (refine gate_guard (by rfl) ?_; dsimp only)); refine be_ 11 #[.slice none 0 0] 122 ?_; intro gb588 hg w78 hbox hb; replace HO_5 := am_ (Kd.R_below (rk_ HO_5) hb); replace HO_6 := am_ (Kd.R_below (rk_ HO_6) hb); replace HO_577001 := am_ (Kd.S_below (Kd.S_elderB au4_8 gb588 (Nat.le_of_eq hg.symm)) hb); replace HO586 := am_ (Kd.R_below (rk_ HO586) hb); have BK588 := am_ (hbox); have GW588 := am_ (gw_ hg bl_); have GE588 := GW588; replace HB := hs_ w hb; have NB561_588 := am_ (gn_ hg (blkl_ BK561)); have NB588_561 := am_ (gm_ hg (blkl_ BK561)); replace BK561 := bb_ BK561 hb; have NB562_588 := am_ (gn_ hg (blkl_ BK562)); have NB588_562 := am_ (gm_ hg (blkl_ BK562)); replace BK562 := bb_ BK562 hb; have NB576_588 := am_ (gn_ hg (blkl_ BK576)); have NB588_576 := am_ (gm_ hg (blkl_ BK576)); replace BK576 := bb_ BK576 hb; clear hb hbox hg; obtain ⟨Ao79, co79, eo79⟩ := Kd.R_slice HO586.out; subst eo79; have hnb80 := NB588_561.out; have hnc80 := NB561_588.out; have hnb81 := NB588_562.out; have hnc81 := NB562_588.out; have hnb82 := NB588_576.out; have hnc82 := NB576_588.out; have hcz83_0 : w78.cell? ⟨gb588, 0, none⟩ = some (.slice none 0 0) := (blk_cell BK588.out 0).trans rfl; have hfz83_0 := blk_frozen BK588.out 0))
   (try simp only [Act.put, List.setIfInBounds_toArray, List.set_cons_zero, List.set_cons_succ])
   go_cut [96] (fun v96 wc => ∃ (kq : Nat) (x96_72 : Bool), v96 = .bool x96_72 ∧ Aside0 (F52.j1 kq t568 t572 x8_1 (rdOf ByteArray.empty y578 x59_1) t587 y578 (y578.length : Int) x59_1 x96_72 a0_0 a0_1 a0_2 a0_3 (rdOf ByteArray.empty t572 0) x577001_1 t584 = some (r1, r2, r3, r4, r5)) ∧ Aside0 (kq ≤ k1) ∧ Aside0 (Kd.R Kd.string 9 wc w.heap.size (fun k_ => some k_ ≠ ((.slice (some ad575) t572.length co57) : Value).ownBlock ∧ some k_ ≠ ((.slice Ao79 t584.length co79) : Value).ownBlock) (.slice (some ad571) t568.length co54) t568) ∧ Aside0 (Kd.R Kd.string 9 wc w.heap.size (fun k_ => some k_ ≠ ((.slice (some ad571) t568.length co54) : Value).ownBlock ∧ some k_ ≠ ((.slice Ao79 t584.length co79) : Value).ownBlock) (.slice (some ad575) t572.length co57) t572) ∧ Aside0 (Kd.S k122 122 wc w.heap.size (fun k_ => some k_ ≠ ((.slice (some ad571) t568.length co54) : Value).ownBlock ∧ some k_ ≠ ((.slice (some ad575) t572.length co57) : Value).ownBlock ∧ some k_ ≠ ((.slice Ao79 t584.length co79) : Value).ownBlock ∧ k_ ≠ gb588) u577001 x577001_1) ∧ Aside0 (Kd.R Kd.string 9 wc w.heap.size (fun k_ => some k_ ≠ ((.slice (some ad571) t568.length co54) : Value).ownBlock ∧ some k_ ≠ ((.slice (some ad575) t572.length co57) : Value).ownBlock) (.slice Ao79 t584.length co79) t584) ∧ Aside0 (wc.heap[gb561]? = some (.cells #[.int .i64 a0_0, .int .i64 a0_1, .int .i64 a0_2, .int .i64 a0_3] 45 (0, 0))) ∧ Aside0 (wc.heap[gb562]? = some (.cells #[.string x563000_1, (.slice none 0 0), .int .i64 x563002_1, .int .i64 x563003_1, .int .i64 x563004_1] 94 (0, 0))) ∧ Aside0 (wc.heap[gb576]? = some (.cells #[.string (rdOf ByteArray.empty t572 0), u577001] 88 (0, 0))) ∧ Aside0 (wc.heap[gb588]? = some (.cells #[(.slice Ao79 t584.length co79)] 122 (0, 0))) ∧ Aside0 (Below w.heap.size w wc))
   case first =>
    have H := HC73.out
    clear HC73
    replace H := it_ H; rcases H with ⟨c84b0, H⟩ | ⟨c84b0, H⟩
    rotate_left
    ·(first | rw [c84b0] | (simp only [i64_w, i32_w]; rw [c84b0]) | skip)
     have H' := am_ H
     clear H
     go_wp2
     go_meet
     case rel => exact ⟨_, (false), er_, H', ⟨au4_19⟩, ⟨au4_6⟩, ⟨au4_7⟩, ⟨au4_4⟩, ⟨au4_5⟩, ⟨bf_ BK561⟩, ⟨bf_ BK562⟩, ⟨bf_ BK576⟩, ⟨bq_ BK588⟩, ⟨bl_⟩⟩
    (first | rw [c84b0] | (simp only [i64_w, i32_w]; rw [c84b0]) | skip)
    by_cases c85 : x59_1 = (wrap64 ((t572.length : Int) - 2))
    rotate_left
    ·rw [if_neg c85] at H
     have c85b0 : (x59_1 == (wrap64 ((t572.length : Int) - 2))) = false := beq_eq_false_iff_ne.mpr c85
     have c85b1 : (x59_1 != (wrap64 ((t572.length : Int) - 2))) = true := bne_iff_ne.mpr c85
     have H' := am_ H
     clear H
     go_wp2
     go_meet
     case rel => exact ⟨_, (false), er_, H', ⟨au4_19⟩, ⟨au4_6⟩, ⟨au4_7⟩, ⟨au4_4⟩, ⟨au4_5⟩, ⟨bf_ BK561⟩, ⟨bf_ BK562⟩, ⟨bf_ BK576⟩, ⟨bq_ BK588⟩, ⟨bl_⟩⟩
    rw [if_pos c85] at H
    have c85b0 : (x59_1 == (wrap64 ((t572.length : Int) - 2))) = true := beq_iff_eq.mpr c85
    have c85b1 : (x59_1 != (wrap64 ((t572.length : Int) - 2))) = false := bne_eq_false_iff_eq.mpr c85
    clear c85
    by_cases c86 : (t584.length : Int) = 1
    rotate_left
    ·rw [if_neg c86] at H
     have c86b0 : ((t584.length : Int) == 1) = false := beq_eq_false_iff_ne.mpr c86
     have c86b1 : ((t584.length : Int) != 1) = true := bne_iff_ne.mpr c86
     have H' := am_ H
     clear H
     have hnb92 := NB588_561.out
     have hnc92 := NB561_588.out
     have hnb93 := NB588_562.out
     have hnc93 := NB562_588.out
     have hnb94 := NB588_576.out
     have hnc94 := NB576_588.out
     have hcz95_0 : w78.cell? ⟨gb588, 0, none⟩ = some (.slice none 0 0) := (blk_cell BK588.out 0).trans rfl
     have hfz95_0 := blk_frozen BK588.out 0
     go_wp2
     go_meet
     case rel => exact ⟨_, (false), er_, H', ⟨au4_19⟩, ⟨au4_6⟩, ⟨au4_7⟩, ⟨au4_4⟩, ⟨au4_5⟩, ⟨bf_ BK561⟩, ⟨bf_ BK562⟩, ⟨bf_ BK576⟩, ⟨bq_ BK588⟩, ⟨bl_⟩⟩
    rw [if_pos c86] at H
    have c86b0 : ((t584.length : Int) == 1) = true := beq_iff_eq.mpr c86
    have c86b1 : ((t584.length : Int) != 1) = false := bne_eq_false_iff_eq.mpr c86
    clear c86
    replace H := itn_ H; rcases H with ⟨c87b0, H⟩
    have c87b1 : decide (0 < t584.length) = true := n2_ c87b0
    have H' := am_ H
    clear H
    have hnb88 := NB588_561.out
    have hnc88 := NB561_588.out
    have hnb89 := NB588_562.out
    have hnc89 := NB562_588.out
    have hnb90 := NB588_576.out
    have hnc90 := NB576_588.out
    have hcz91_0 : w78.cell? ⟨gb588, 0, none⟩ = some (.slice none 0 0) := (blk_cell BK588.out 0).trans rfl
    have hfz91_0 := blk_frozen BK588.out 0
    have p589 : 0 ≤ (0 : Int) := (by omega)
    have q589 : 0 < (t584.length : Int) := od_
    obtain ⟨ad589, e589, hx589_0⟩ := Kd.at_string (Kd.R_reads' HO586.out).2.2 0 p589 q589
    cases e589
    have qi589 : (0 < t584.length) = True := eq_true (by omega)
    (try rw [show ((0 : Int)).toNat = 0 from rfl] at hx589_0)
    (try rw [Addr.add_zero'] at hx589_0)
    have hn589_0 : ad589.block ≠ gb588 := Kd.own_blk (Kd.R_ne HO586.out BK588.out (by decide))
    replace hx589_0 := (cell_far (p := ⟨gb588, 0, none⟩) (by first | (rw [add_block]; exact hn589_0) | (show (Addr.add _ _).block ≠ _; rw [add_block]; exact hn589_0) | exact hn589_0) (.slice (some ad589) t584.length co79)).trans hx589_0
    clear hn589_0
    replace p589 := eq_true p589
    replace q589 := eq_true q589
    go_wp2
    go_meet
    case rel => exact ⟨_, (((rdOf ByteArray.empty t584 0).toList == ([] : List UInt8))), er_, H', ⟨au4_19⟩, ⟨by (with_reducible repeat (first | apply Kd.R_alloc | apply Kd.R_drewN | apply Kd.R_drew)); exact Kd.R_mono (Kd.R_far (p := ⟨gb588, 0, none⟩) (Kd.R_types HO_5.out BK588.out (by decide)) (fun _ hk => hk.2) (.slice (some ad589) t584.length co79)) (fun _ hk => ⟨hk.1.1, hk.1.2⟩)⟩, ⟨by (with_reducible repeat (first | apply Kd.R_alloc | apply Kd.R_drewN | apply Kd.R_drew)); exact Kd.R_mono (Kd.R_far (p := ⟨gb588, 0, none⟩) (Kd.R_types HO_6.out BK588.out (by decide)) (fun _ hk => hk.2) (.slice (some ad589) t584.length co79)) (fun _ hk => ⟨hk.1.1, hk.1.2⟩)⟩, ⟨by (with_reducible repeat (first | apply Kd.S_alloc | apply Kd.S_drewN | apply Kd.S_drew)); exact Kd.S_mono (Kd.S_far (p := ⟨gb588, 0, none⟩) (Kd.S_mono HO_577001.out (fun k_ hk => (⟨hk, hk.2⟩ : _ ∧ k_ ≠ gb588))) (fun _ hk => hk.2) (.slice (some ad589) t584.length co79)) (fun _ hk => ⟨hk.1.1.1.1, ⟨hk.1.1.1.2, ⟨hk.1.1.2, hk.1.2⟩⟩⟩)⟩, ⟨by (with_reducible repeat (first | apply Kd.R_alloc | apply Kd.R_drewN | apply Kd.R_drew)); exact Kd.R_mono (Kd.R_far (p := ⟨gb588, 0, none⟩) (Kd.R_types HO586.out BK588.out (by decide)) (fun _ hk => hk.2) (.slice (some ad589) t584.length co79)) (fun _ hk => ⟨hk.1.1.2, hk.1.2⟩)⟩, ⟨bf_ BK561⟩, ⟨bf_ BK562⟩, ⟨bf_ BK576⟩, ⟨bq_ BK588⟩, ⟨bl_⟩⟩
   case rest =>
    clear HC73
    try clear c1
    try clear c14
    try clear c14b0
    try clear c14b1
    try clear c25b0
    try clear c25b1
    try clear c38b0
    try clear c38b1
    try clear c40b0
    try clear c40b1
    try clear c43
    try clear c43b0
    try clear c43b1
    try clear c64
    try clear q64
    try clear c65b0
    try clear c66b0
    try clear c67b0
    try clear c68
    try clear c68b0
    try clear c68b1
    try clear c84b0
    try clear c85
    try clear c85b0
    try clear c85b1
    try clear c86
    try clear c86b0
    try clear c86b1
    try clear c87b0
    try clear c87b1
    try clear hcz11_0 hcz11_1 hcz11_2 hcz11_3 hcz11_4
    try clear hcz21_0 hcz21_1 hcz21_2 hcz21_3
    try clear hcz23_0 hcz23_1 hcz23_2 hcz23_3 hcz23_4
    try clear hcz32_0 hcz32_1 hcz32_2 hcz32_3
    try clear hcz34_0 hcz34_1 hcz34_2 hcz34_3
    try clear hcz37_0 hcz37_1 hcz37_2 hcz37_3 hcz37_4
    try clear hcz50_0 hcz50_1 hcz50_2 hcz50_3
    try clear hcz52_0 hcz52_1 hcz52_2 hcz52_3
    try clear hcz61_0 hcz61_1
    try clear hcz63_0 hcz63_1
    try clear hcz71_0 hcz71_1 hcz71_2 hcz71_3 hcz71_4
    try clear hcz76_0 hcz76_1 hcz76_2 hcz76_3
    try clear hcz83_0
    try clear hcz91_0
    try clear hcz95_0
    try clear hfz11_0 hfz11_1 hfz11_2 hfz11_3 hfz11_4
    try clear hfz21_0 hfz21_1 hfz21_2 hfz21_3
    try clear hfz23_0 hfz23_1 hfz23_2 hfz23_3 hfz23_4
    try clear hfz32_0 hfz32_1 hfz32_2 hfz32_3
    try clear hfz34_0 hfz34_1 hfz34_2 hfz34_3
    try clear hfz37_0 hfz37_1 hfz37_2 hfz37_3 hfz37_4
    try clear hfz50_0 hfz50_1 hfz50_2 hfz50_3
    try clear hfz52_0 hfz52_1 hfz52_2 hfz52_3
    try clear hfz61_0 hfz61_1
    try clear hfz63_0 hfz63_1
    try clear hfz71_0 hfz71_1 hfz71_2 hfz71_3 hfz71_4
    try clear hfz76_0 hfz76_1 hfz76_2 hfz76_3
    try clear hfz83_0
    try clear hfz91_0
    try clear hfz95_0
    try clear hx571_0
    try clear hx575_0
    try clear hx583_0
    try clear hx589_0
    try clear p571
    try clear p575
    try clear p583
    try clear p589
    try clear q571
    try clear q575
    try clear q583
    try clear q589
    try clear q64
    obtain ⟨kq, x96_72, rfl, HA, HJ72, HO_5, HO_6, HO_577001, HO_589000, BK561, BK562, BK576, BK588, HB⟩ := hcut
    cases kq with
    | zero => exact absurd HA.out (by simp [F52.j1])
    | succ kj72 =>
     have H := HA.out
     clear HA
     simp only [F52.j1] at H
     replace H := ib_ H; rcases H with ⟨rfl, H⟩ | ⟨rfl, H⟩
     rotate_left
     ·replace H := it_ H; rcases H with ⟨(c113b0 : decide (0 ≤ t587) = true), H⟩ | ⟨(c113b0 : decide (0 ≤ t587) = false), H⟩
      ·simp only [Option.some.injEq, Prod.mk.injEq] at H
       obtain ⟨rfl, rfl, rfl, rfl, rfl⟩ := H
       have hnb114 := NB562_561.out
       have hnc114 := NB561_562.out
       have hnb115 := NB562_576.out
       have hnc115 := NB576_562.out
       have hnb116 := NB562_588.out
       have hnc116 := NB588_562.out
       obtain ⟨hcz117_0, hcz117_1, hcz117_2, hcz117_3, hcz117_4, hfz117_0, hfz117_1, hfz117_2, hfz117_3, hfz117_4⟩ := cellsF5 BK562.out
       go_wp2
       refine bodyPost_ret (results_cell_row rfl _ _ gb562 94 #[.string (⟨#[]⟩ : ByteArray), .slice none 0 0, .int .i64 0, .int .i64 t587, .int .i64 3] (0, 0) _ rfl (bq_ BK562) Try.underlying94 rfl (by kernel_rfl)) rfl ?_
       exact ⟨_, au4_0, au4_2, bl_⟩
      replace H := iln_ H; rcases H with ⟨LMc118, H⟩
      obtain ⟨y593, hy593⟩ : ∃ y_ : List (S122), y_ = (x577001_1 ++ [(⟨t584⟩ : S122)]) := ⟨_, rfl⟩
      replace H : (F52.l0 kj72 t568 t572 (wrap64 (x8_1 + (wrap64 (((rdOf ByteArray.empty y578 x59_1).size : Int) + 1)))) y578 (y578.length : Int) (wrap64 (x59_1 + 1)) a0_0 a0_1 a0_2 a0_3 (rdOf ByteArray.empty t572 0) y593) = some (r1, r2, r3, r4, r5) := by first | (rw [hy593]; exact H) | exact H
      have Ny593 := am_ hy593
      clear hy593
      have H' := am_ H
      clear H
      have hnb119 := NB576_561.out
      have hnc119 := NB561_576.out
      have hnb120 := NB576_562.out
      have hnc120 := NB562_576.out
      have hnb121 := NB576_588.out
      have hnc121 := NB588_576.out
      obtain ⟨hcz122_0, hcz122_1, hfz122_0, hfz122_1⟩ := cellsF2 BK576.out
      have hnb123 := NB588_561.out
      have hnc123 := NB561_588.out
      have hnb124 := NB588_562.out
      have hnc124 := NB562_588.out
      have hcz125_0 : wc.cell? ⟨gb588, 0, none⟩ = some (.slice Ao79 t584.length co79) := (blk_cell BK588.out 0).trans rfl
      have hfz125_0 := blk_frozen BK588.out 0
      go_wp2_with (first | ((with_reducible refine gate_builtin (b := .append) (xs := #[.tmp 103, .tmp 105]) rfl ?_); (try (refine gate_guard (by rfl) ?_; dsimp only)); at_builtin; refine Kd.S_append k122 (w0 := w) w.heap.size rfl (.tmp 103) (.tmp 105) 86 122 (.agg #[(.slice none 0 0)]) 24 rfl Try.underlying86 info122 rfl (by decide) (by omega) u577001 x577001_1 (⟨t584⟩ : S122) [.slice Ao79 t584.length co79] (fun k_ => some k_ ≠ (.slice (some ad571) t568.length co54 : Value).ownBlock ∧ some k_ ≠ (.slice (some ad575) t572.length co57 : Value).ownBlock ∧ k_ ≠ gb588) (fun k_ => some k_ = (.slice Ao79 t584.length co79 : Value).ownBlock) rfl rfl ?aP (fun k_ hk_ => ((Kd.R_mono (ok' := fun k_ => ((fun k_ => some k_ ≠ (.slice (some ad571) t568.length co54 : Value).ownBlock ∧ some k_ ≠ (.slice (some ad575) t572.length co57 : Value).ownBlock ∧ k_ ≠ gb588)) k_ ∧ some k_ ≠ (u577001 : Value).ownBlock) (Kd.R_types (Kd.R_apart' (HO_589000.out) (Kd.S_typed HO_577001.out) (by decide)) BK588.out (by decide)) (fun k_ hk => ⟨⟨hk.1.1.1, ⟨hk.1.1.2, hk.2⟩⟩, hk.1.2⟩))).1 k_ hk_.symm) ?aF ?aO ?aB ?aS ?aL ?_; (case aP => exact au4_9); (case aB => exact bl_); (case aF => exact au4_13); (case aO => exact au4_14); (case aS => exact (below_size bl_)); (case aL => have := LMc118.out; omega); intro v594 w126 ho hb hg hat; rw [← Ny593.out] at ho; have n0_ := am_ (Kd.R_over' (rk_ HO_5) (Kd.S_typed au4_8) (by decide) hg); have n1_ := am_ (Kd.R_over' (rk_ HO_6) (Kd.S_typed au4_8) (by decide) hg); have n2_ := am_ (bg_ BK561 hg (Kd.S_ne HO_577001.out BK561.out (by decide))); have n3_ := am_ (bg_ BK562 hg (Kd.S_ne HO_577001.out BK562.out (by decide))); have n4_ := am_ (bg_ BK576 hg (Kd.S_ne HO_577001.out BK576.out (by decide))); have n5_ := am_ (bg_ BK588 hg (Kd.S_away HO_577001.out (fun _ hk => hk.2.2.2))); have n6_ := am_ (hb); have n7_ := am_ (ho); clear HO_5; clear HO_6; clear BK561; clear BK562; clear BK576; clear BK588; clear HB; clear HO_577001; clear HO_589000; have HO_5 := n0_; have HO_6 := n1_; have BK561 := n2_; have BK562 := n3_; have BK576 := n4_; have BK588 := n5_; have HB := n6_; have HO595 := n7_; clear n0_ n1_ n2_ n3_ n4_ n5_ n6_ n7_; clear ho hb hg hat; obtain ⟨Ao127, co127, eo127⟩ := Kd.S_slice HO595.out; subst eo127; obtain ⟨hcz128_0, hcz128_1, hfz128_0, hfz128_1⟩ := cellsF2 BK576.out))
      go_roundg kj72
      case measure => have := HK1.out; have := HJ72.out; omega
      case rel => exact ⟨(wrap64 (x8_1 + (wrap64 (((rdOf ByteArray.empty y578 x59_1).size : Int) + 1)))), (wrap64 (x59_1 + 1)), (x563000_1), (x563002_1), (x563003_1), (x563004_1), (y593), (.slice Ao127 y593.length co127), er_, er_, H', ⟨by have := HK1.out; have := HJ72.out; omega⟩, ⟨by (with_reducible repeat (first | apply Kd.R_alloc | apply Kd.R_drewN | apply Kd.R_drew)); exact Kd.R_mono (Kd.R_far (p := ⟨gb576, 1, none⟩) (Kd.R_types HO_5.out BK576.out (by decide)) (fun _ hk => hk.2) (.slice Ao127 y593.length co127)) (fun _ hk => hk.1.1)⟩, ⟨by (with_reducible repeat (first | apply Kd.R_alloc | apply Kd.R_drewN | apply Kd.R_drew)); exact Kd.R_mono (Kd.R_far (p := ⟨gb576, 1, none⟩) (Kd.R_types HO_6.out BK576.out (by decide)) (fun _ hk => hk.2) (.slice Ao127 y593.length co127)) (fun _ hk => hk.1.1)⟩, ⟨by (with_reducible repeat (first | apply Kd.S_alloc | apply Kd.S_drewN | apply Kd.S_drew)); exact Kd.S_mono (Kd.S_far (p := ⟨gb576, 1, none⟩) (Kd.S_types HO595.out BK576.out (by decide)) (fun _ hk => hk.2) (.slice Ao127 y593.length co127)) (fun _ hk => ⟨hk.1.1, hk.1.2.1⟩)⟩, ⟨bf_ BK561⟩, ⟨bf_ BK562⟩, ⟨bq_ BK576⟩, ⟨bl_⟩⟩
     replace H := it_ H; rcases H with ⟨(c97b0 : decide (0 ≤ x8_1) = true), H⟩ | ⟨(c97b0 : decide (0 ≤ x8_1) = false), H⟩
     ·simp only [Option.some.injEq, Prod.mk.injEq] at H
      obtain ⟨rfl, rfl, rfl, rfl, rfl⟩ := H
      have hnb98 := NB562_561.out
      have hnc98 := NB561_562.out
      have hnb99 := NB562_576.out
      have hnc99 := NB576_562.out
      have hnb100 := NB562_588.out
      have hnc100 := NB588_562.out
      obtain ⟨hcz101_0, hcz101_1, hcz101_2, hcz101_3, hcz101_4, hfz101_0, hfz101_1, hfz101_2, hfz101_3, hfz101_4⟩ := cellsF5 BK562.out
      go_wp2
      refine bodyPost_ret (results_cell_row rfl _ _ gb562 94 #[.string (⟨#[]⟩ : ByteArray), .slice none 0 0, .int .i64 0, .int .i64 x8_1, .int .i64 3] (0, 0) _ rfl (bq_ BK562) Try.underlying94 rfl (by kernel_rfl)) rfl ?_
      exact ⟨_, au4_0, au4_2, bl_⟩
     replace H := iln_ H; rcases H with ⟨LMc102, H⟩
     obtain ⟨y590, hy590⟩ : ∃ y_ : List (S122), y_ = (x577001_1 ++ [(⟨t584⟩ : S122)]) := ⟨_, rfl⟩
     replace H : (F52.l0 kj72 t568 t572 (wrap64 (x8_1 + (wrap64 (((rdOf ByteArray.empty y578 x59_1).size : Int) + 1)))) y578 (y578.length : Int) (wrap64 (x59_1 + 1)) a0_0 a0_1 a0_2 a0_3 (rdOf ByteArray.empty t572 0) y590) = some (r1, r2, r3, r4, r5) := by first | (rw [hy590]; exact H) | exact H
     have Ny590 := am_ hy590
     clear hy590
     have H' := am_ H
     clear H
     have hnb103 := NB576_561.out
     have hnc103 := NB561_576.out
     have hnb104 := NB576_562.out
     have hnc104 := NB562_576.out
     have hnb105 := NB576_588.out
     have hnc105 := NB588_576.out
     obtain ⟨hcz106_0, hcz106_1, hfz106_0, hfz106_1⟩ := cellsF2 BK576.out
     have hnb107 := NB588_561.out
     have hnc107 := NB561_588.out
     have hnb108 := NB588_562.out
     have hnc108 := NB562_588.out
     have hcz109_0 : wc.cell? ⟨gb588, 0, none⟩ = some (.slice Ao79 t584.length co79) := (blk_cell BK588.out 0).trans rfl
     have hfz109_0 := blk_frozen BK588.out 0
     go_wp2_with (first | ((with_reducible refine gate_builtin (b := .append) (xs := #[.tmp 103, .tmp 105]) rfl ?_); (try (refine gate_guard (by rfl) ?_; dsimp only)); at_builtin; refine Kd.S_append k122 (w0 := w) w.heap.size rfl (.tmp 103) (.tmp 105) 86 122 (.agg #[(.slice none 0 0)]) 24 rfl Try.underlying86 info122 rfl (by decide) (by omega) u577001 x577001_1 (⟨t584⟩ : S122) [.slice Ao79 t584.length co79] (fun k_ => some k_ ≠ (.slice (some ad571) t568.length co54 : Value).ownBlock ∧ some k_ ≠ (.slice (some ad575) t572.length co57 : Value).ownBlock ∧ k_ ≠ gb588) (fun k_ => some k_ = (.slice Ao79 t584.length co79 : Value).ownBlock) rfl rfl ?aP (fun k_ hk_ => ((Kd.R_mono (ok' := fun k_ => ((fun k_ => some k_ ≠ (.slice (some ad571) t568.length co54 : Value).ownBlock ∧ some k_ ≠ (.slice (some ad575) t572.length co57 : Value).ownBlock ∧ k_ ≠ gb588)) k_ ∧ some k_ ≠ (u577001 : Value).ownBlock) (Kd.R_types (Kd.R_apart' (HO_589000.out) (Kd.S_typed HO_577001.out) (by decide)) BK588.out (by decide)) (fun k_ hk => ⟨⟨hk.1.1.1, ⟨hk.1.1.2, hk.2⟩⟩, hk.1.2⟩))).1 k_ hk_.symm) ?aF ?aO ?aB ?aS ?aL ?_; (case aP => exact au4_9); (case aB => exact bl_); (case aF => exact au4_13); (case aO => exact au4_14); (case aS => exact (below_size bl_)); (case aL => have := LMc102.out; omega); intro v591 w110 ho hb hg hat; rw [← Ny590.out] at ho; have n0_ := am_ (Kd.R_over' (rk_ HO_5) (Kd.S_typed au4_8) (by decide) hg); have n1_ := am_ (Kd.R_over' (rk_ HO_6) (Kd.S_typed au4_8) (by decide) hg); have n2_ := am_ (bg_ BK561 hg (Kd.S_ne HO_577001.out BK561.out (by decide))); have n3_ := am_ (bg_ BK562 hg (Kd.S_ne HO_577001.out BK562.out (by decide))); have n4_ := am_ (bg_ BK576 hg (Kd.S_ne HO_577001.out BK576.out (by decide))); have n5_ := am_ (bg_ BK588 hg (Kd.S_away HO_577001.out (fun _ hk => hk.2.2.2))); have n6_ := am_ (hb); have n7_ := am_ (ho); clear HO_5; clear HO_6; clear BK561; clear BK562; clear BK576; clear BK588; clear HB; clear HO_577001; clear HO_589000; have HO_5 := n0_; have HO_6 := n1_; have BK561 := n2_; have BK562 := n3_; have BK576 := n4_; have BK588 := n5_; have HB := n6_; have HO592 := n7_; clear n0_ n1_ n2_ n3_ n4_ n5_ n6_ n7_; clear ho hb hg hat; obtain ⟨Ao111, co111, eo111⟩ := Kd.S_slice HO592.out; subst eo111; obtain ⟨hcz112_0, hcz112_1, hfz112_0, hfz112_1⟩ := cellsF2 BK576.out))
     go_roundg kj72
     case measure => have := HK1.out; have := HJ72.out; omega
     case rel => exact ⟨(wrap64 (x8_1 + (wrap64 (((rdOf ByteArray.empty y578 x59_1).size : Int) + 1)))), (wrap64 (x59_1 + 1)), (x563000_1), (x563002_1), (x563003_1), (x563004_1), (y590), (.slice Ao111 y590.length co111), er_, er_, H', ⟨by have := HK1.out; have := HJ72.out; omega⟩, ⟨by (with_reducible repeat (first | apply Kd.R_alloc | apply Kd.R_drewN | apply Kd.R_drew)); exact Kd.R_mono (Kd.R_far (p := ⟨gb576, 1, none⟩) (Kd.R_types HO_5.out BK576.out (by decide)) (fun _ hk => hk.2) (.slice Ao111 y590.length co111)) (fun _ hk => hk.1.1)⟩, ⟨by (with_reducible repeat (first | apply Kd.R_alloc | apply Kd.R_drewN | apply Kd.R_drew)); exact Kd.R_mono (Kd.R_far (p := ⟨gb576, 1, none⟩) (Kd.R_types HO_6.out BK576.out (by decide)) (fun _ hk => hk.2) (.slice Ao111 y590.length co111)) (fun _ hk => hk.1.1)⟩, ⟨by (with_reducible repeat (first | apply Kd.S_alloc | apply Kd.S_drewN | apply Kd.S_drew)); exact Kd.S_mono (Kd.S_far (p := ⟨gb576, 1, none⟩) (Kd.S_types HO592.out BK576.out (by decide)) (fun _ hk => hk.2) (.slice Ao111 y590.length co111)) (fun _ hk => ⟨hk.1.1, hk.1.2.1⟩)⟩, ⟨bf_ BK561⟩, ⟨bf_ BK562⟩, ⟨bq_ BK576⟩, ⟨bl_⟩⟩
end Go.Proofs.Ytlghcbmkhdibdaa.PFnFirstSegments
