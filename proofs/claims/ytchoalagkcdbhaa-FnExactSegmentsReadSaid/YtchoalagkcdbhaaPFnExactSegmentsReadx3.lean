-- printed by a program of this session (wip/xp/xprint.py) out of the translation; Lean checks it
import Derived.Test.YtchoalagkcdbhaaPFnExactSegmentsReadx0
import Derived.Test.YtchoalagkcdbhaaPFnExactSegmentsReadx1
import Derived.Test.YtchoalagkcdbhaaPFnExactSegmentsReadx2
namespace Go.Proofs.Ytchoalagkcdbhaa.PFnExactSegmentsRead
open Go.RowKit Go.Proofs.YtchoalagkcdbhaaW.PrintWords Go.Proofs.YtchoalagkcdbhaaW.PrintLast Go.Proofs.YtchoalagkcdbhaaW.PrintMore
attribute [local go_sem] max2_int min2_int max_two min_two max_three min_three max_four min_four   -- for this text's walks alone
set_option linter.unusedVariables false
set_option linter.unusedSimpArgs false
set_option maxHeartbeats 8000000
set_option maxRecDepth 100000

theorem au3_0 {p : Prop} (h : p := by first | rfl | (simp [errW_none, errW_some] <;> rfl) | (simp [*, errW_none, errW_some] <;> rfl)) : p := h
theorem au3_1 {p : Prop} (h : p := by (with_reducible repeat (first | apply Kd.S_alloc | apply Kd.S_drewN | apply Kd.S_drew)); exact HO_236000.out) : p := h
theorem au3_2 {p : Prop} (h : p := by first | exact Kd.S_nil _ _ _ _ _ | exact Kd.N_nil _ _ _ _ _ | exact Kd.V_nil _ _ _ _ _ | exact Kd.Q_nil _ _ _ _ _ | exact Kd.R_nil _ _ _ _ _) : p := h
theorem au3_3 {p : Prop} (h : p := by (with_reducible repeat (first | apply Kd.S_alloc | apply Kd.S_drewN | apply Kd.S_drew)); exact HO239.out) : p := h
theorem au3_4 {p : Prop} (h : p := by repeat (first | exact HR0.out | (with_reducible refine Kd.C_alloc ?_ _) | (with_reducible refine Kd.C_drewN ?_ _) | (with_reducible refine Kd.C_drew ?_))) : p := h
theorem au3_5 {p : Prop} (h : p := by simp only [putAll, Act.put, List.setIfInBounds_toArray, List.set_cons_zero, List.set_cons_succ]) : p := h
theorem au3_6 {p : Prop} (h : p := by (with_reducible repeat (first | apply Kd.R_alloc | apply Kd.R_drewN | apply Kd.R_drew)); exact Kd.R_mono (Kd.R_far (p := ⟨gb316, 0, none⟩) (Kd.R_types HO315.out BK316.out (by decide)) (fun _ hk => hk.2) (.slice none 0 0)) (fun _ hk => (by simp [Value.ownBlock]))) : p := h
theorem au3_7 {p : Prop} (h : p := by first | rfl | (simp [errW_none, errW_some] <;> rfl) | (simp only [← hji61]; first | rfl | (simp [errW_none, errW_some] <;> rfl)) | (simp [*, errW_none, errW_some] <;> rfl)) : p := h
theorem au3_8 {p : Prop} (h : p := by rw [← hq_]; exact (by (with_reducible repeat (first | apply Kd.R_alloc | apply Kd.R_drewN | apply Kd.R_drew)); exact Kd.R_mono HO_317000.out (fun _ hk => ⟨hk.2, hk.1⟩))) : p := h
theorem au3_9 {p : Prop} (h : p := by (try simp only [List.map_toArray, List.map_cons, List.map_nil]); first | done | (simp only [hji13]; rfl) | rfl | (simp only [List.length_drop, List.length_take]; rfl)) : p := h
theorem au3_10 {p : Prop} (h : p := by rintro w' ⟨s0, s1, s2, s3⟩; go_simp; with_reducible rfl) : p := h
theorem au3_11 {p : Prop} (h : p := by first | exact Kd.R_nil _ _ _ _ _ | exact Kd.N_nil _ _ _ _ _ | exact Kd.V_nil _ _ _ _ _ | exact Kd.Q_nil _ _ _ _ _ | exact Kd.S_nil _ _ _ _ _) : p := h
theorem au3_12 {p : Prop} (h : p := by (with_reducible repeat (first | apply Kd.S_alloc | apply Kd.S_drewN | apply Kd.S_drew)); exact Kd.S_mono HO_236000.out (fun _ hk => hk.2)) : p := h
theorem au3_13 {p : Prop} (h : p := by (with_reducible repeat (first | apply Kd.S_alloc | apply Kd.S_drewN | apply Kd.S_drew)); exact Kd.S_mono HO_236000.out (fun _ hk => hk)) : p := h

/-! ### F94: function 94 -/
def F94.l0 : Nat → ByteArray → Int → Int → Int → Int → Int → List (S59) → Int → Int → Int → Option ((List (S59)) × Int × Int × Int)
  | 0, _, _, _, _, _, _, _, _, _, _ => none
  | k + 1, x1, x6, x234000, x234001, x234002, x234003, x236000, x236001, x236002, x236003 => if x6 < (x1.size : Int) then (if (x236000.length : Int) ≥ 200 then (some (([] : List (S59)), x6, (x236000.length : Int), 7)) else (if 0 ≤ x6 then (if x6 ≤ (x1.size : Int) then ((F87.f k x234000 x234001 x234002 x234003 (x1.extract (x6 : Int).toNat x1.size)).bind fun bt236 => (if bt236.2.2.2.2 = 0 then (if x236000.length < 3518437208883 then (F94.l0 k x1 (wrap64 (x6 + bt236.2.2.1)) x234000 x234001 x234002 x234003 (x236000 ++ [(⟨bt236.1, bt236.2.1⟩ : S59)]) x236001 x236002 x236003) else (none)) else (some (([] : List (S59)), wrap64 (x6 + bt236.2.2.2.1), (x236000.length : Int), bt236.2.2.2.2)))) else (none)) else (none))) else (some (x236000, x236001, x236002, x236003))
def F94.f (k : Nat) (a0_0 : Int) (a0_1 : Int) (a0_2 : Int) (a0_3 : Int) (a1 : ByteArray) : Option ((List (S59)) × Int × Int × Int) := F94.l0 k a1 0 a0_0 a0_1 a0_2 a0_3 ([] : List (S59)) 0 0 0
theorem F94.mono_l : ∀ k, (∀ y0 y1 y2 y3 y4 y5 y6 y7 y8 y9, LeO (F94.l0 k y0 y1 y2 y3 y4 y5 y6 y7 y8 y9) (F94.l0 (k + 1) y0 y1 y2 y3 y4 y5 y6 y7 y8 y9))
 | 0 => fun _ _ _ _ _ _ _ _ _ _ r h => by simp [F94.l0] at h
 | k + 1 => by
  have ih0 := F94.mono_l k
  intro y0 y1 y2 y3 y4 y5 y6 y7 y8 y9
  unfold F94.l0
  repeat' with_reducible first | exact ih0 _ _ _ _ _ _ _ _ _ _ | exact F87.mono _ _ _ _ _ _ | exact LeO.refl _ | exact LeO.none _ | refine LeO.ite ?_ ?_ | refine LeO.bind ?_ (fun _ => ?_)
theorem F94.mono : ∀ a0 a1 a2 a3 a4 k, LeO (F94.f k a0 a1 a2 a3 a4) (F94.f (k + 1) a0 a1 a2 a3 a4) := by
 intro a0 a1 a2 a3 a4 k
 have ih0 := F94.mono_l k
 unfold F94.f
 repeat' with_reducible first | exact ih0 _ _ _ _ _ _ _ _ _ _ | exact F87.mono _ _ _ _ _ _ | exact LeO.refl _ | exact LeO.none _ | refine LeO.ite ?_ ?_ | refine LeO.bind ?_ (fun _ => ?_)
theorem F94.calls (k : Nat) (a0_0 : Int) (a0_1 : Int) (a0_2 : Int) (a0_3 : Int) (a1 : ByteArray) (r1 : List (S59)) (r2 : Int) (r3 : Int) (r4 : Int) (w : World) (h : F94.f k a0_0 a0_1 a0_2 a0_3 a1 = some (r1, r2, r3, r4)) :
  Calls Try.prog 94 #[.agg #[.int .i64 a0_0, .int .i64 a0_1, .int .i64 a0_2, .int .i64 a0_3], .string a1] w fun e w' => ∃ v0_ : Value, e = .returned (.agg #[v0_, .int .i64 r2, .int .i64 r3, .int .i64 r4]) ∧ Kd.S k59 59 w' w.heap.size (fun _ => True) v0_ r1 ∧ Below w.heap.size w w' := by
 have hu23 := Try.underlying23
 have hu78 := Try.underlying78
 have hu66 := Try.underlying66
 have hu59 := Try.underlying59
 have HB := am_ (Below.refl w.heap.size w)
 have H : (F94.l0 k a1 0 a0_0 a0_1 a0_2 a0_3 ([] : List (S59)) 0 0 0) = some (r1, r2, r3, r4) := h
 clear h
 have H' := am_ H
 clear H
 go_enter Try.func94, Try.ntmps94
 go_wp2_with (first | ((with_reducible refine gate_dst (N := 2) rfl ?_); refine be_ 2 #[.int .i64 a0_0, .int .i64 a0_1, .int .i64 a0_2, .int .i64 a0_3] 23 ?_; intro gb233 hg w3 hbox hb; have BK233 := am_ (hbox); have GW233 := am_ (gw_ hg bl_); have GE233 := GW233; replace HB := hs_ w hb; clear hb hbox hg) | ((with_reducible refine gate_dst (N := 4) rfl ?_); refine be_ 4 #[.slice none 0 0, .int .i64 0, .int .i64 0, .int .i64 0] 78 ?_; intro gb234 hg w4 hbox hb; have BK234 := am_ (hbox); have GW234 := am_ (gw_ hg bl_); have GE234 := GW234; replace HB := hs_ w hb; have NB233_234 := am_ (gn_ hg (blkl_ BK233)); have NB234_233 := am_ (gm_ hg (blkl_ BK233)); replace BK233 := bb_ BK233 hb; clear hb hbox hg) | ((with_reducible refine gate_dst (N := 5) rfl ?_); refine be_ 5 #[.slice none 0 0, .int .i64 0, .int .i64 0, .int .i64 0] 78 ?_; intro gb235 hg w5 hbox hb; have BK235 := am_ (hbox); have GW235 := am_ (gw_ hg bl_); have GE235 := GW235; replace HB := hs_ w hb; have NB233_235 := am_ (gn_ hg (blkl_ BK233)); have NB235_233 := am_ (gm_ hg (blkl_ BK233)); replace BK233 := bb_ BK233 hb; have NB234_235 := am_ (gn_ hg (blkl_ BK234)); have NB235_234 := am_ (gm_ hg (blkl_ BK234)); replace BK234 := bb_ BK234 hb; clear hb hbox hg; have hnb6 := NB235_233.out; have hnc6 := NB233_235.out; have hnb7 := NB235_234.out; have hnc7 := NB234_235.out; obtain ⟨hcz8_0, hcz8_1, hcz8_2, hcz8_3, hfz8_0, hfz8_1, hfz8_2, hfz8_3⟩ := cellsF4 BK235.out))
 go_loopg [6] k (fun kq v6 w' => ∃ (x6_1 : Int) (x235001_1 : Int) (x235002_1 : Int) (x235003_1 : Int) (x236000_1 : List (S59)) (u236000 : Value), v6 = .int .i64 x6_1 ∧ Aside0 (F94.l0 kq a1 x6_1 a0_0 a0_1 a0_2 a0_3 x236000_1 0 0 0 = some (r1, r2, r3, r4)) ∧ Aside0 (kq ≤ k) ∧ Aside0 (Kd.S k59 59 w' w.heap.size (fun _ => True) u236000 x236000_1) ∧ Aside0 (w'.heap[gb233]? = some (.cells #[.int .i64 a0_0, .int .i64 a0_1, .int .i64 a0_2, .int .i64 a0_3] 23 (0, 0))) ∧ Aside0 (w'.heap[gb234]? = some (.cells #[(.slice none 0 0), .int .i64 x235001_1, .int .i64 x235002_1, .int .i64 x235003_1] 78 (0, 0))) ∧ Aside0 (w'.heap[gb235]? = some (.cells #[u236000, .int .i64 0, .int .i64 0, .int .i64 0] 78 (0, 0))) ∧ Aside0 (Below w.heap.size w w'))
 case atStart => exact ⟨(0), (0), (0), (0), (([] : List (S59))), (.slice none 0 0), er_, H', ⟨Nat.le_refl _⟩, ⟨au3_2⟩, ⟨bf_ BK233⟩, ⟨bf_ BK234⟩, ⟨bq_ BK235⟩, ⟨bl_⟩⟩
 case round =>
  clear H'
  try clear hcz8_0 hcz8_1 hcz8_2 hcz8_3
  try clear hfz8_0 hfz8_1 hfz8_2 hfz8_3
  obtain ⟨x6_1, x235001_1, x235002_1, x235003_1, x236000_1, u236000, rfl, HA, HK1, HO_236000, BK233, BK234, BK235, HB⟩ := hrel
  cases gk with
  | zero => exact absurd HA.out (by simp [F94.l0])
  | succ k1 =>
   have H := HA.out
   clear HA
   simp only [F94.l0] at H
   replace H := it_ H; rcases H with ⟨c9b0, H⟩ | ⟨c9b0, H⟩
   rotate_left
   ·simp only [Option.some.injEq, Prod.mk.injEq] at H
    obtain ⟨rfl, rfl, rfl, rfl⟩ := H
    have hnb66 := NB235_233.out
    have hnc66 := NB233_235.out
    have hnb67 := NB235_234.out
    have hnc67 := NB234_235.out
    obtain ⟨hcz68_0, hcz68_1, hcz68_2, hcz68_3, hfz68_0, hfz68_1, hfz68_2, hfz68_3⟩ := cellsF4 BK235.out
    obtain ⟨Ao69, co69, eo69⟩ := Kd.S_slice HO_236000.out
    subst eo69
    have hnb70 := NB234_233.out
    have hnc70 := NB233_234.out
    obtain ⟨hcz71_0, hcz71_1, hcz71_2, hcz71_3, hfz71_0, hfz71_1, hfz71_2, hfz71_3⟩ := cellsF4 BK234.out
    go_wp2
    refine bodyPost_ret (results_cell_row rfl _ _ gb234 78 #[.slice Ao69 x236000_1.length co69, .int .i64 0, .int .i64 0, .int .i64 0] (0, 0) _ rfl (bq_ BK234) Try.underlying78 rfl (by kernel_rfl)) rfl ?_
    exact ⟨_, au3_0, by (with_reducible repeat (first | apply Kd.S_alloc | apply Kd.S_drewN | apply Kd.S_drew)); exact Kd.S_mono (Kd.S_far (p := ⟨gb234, 3, none⟩) (Kd.S_far (p := ⟨gb234, 2, none⟩) (Kd.S_far (p := ⟨gb234, 1, none⟩) (Kd.S_far (p := ⟨gb234, 0, none⟩) (Kd.S_types HO_236000.out BK234.out (by decide)) (fun _ hk => hk.2) (.slice Ao69 x236000_1.length co69)) (fun _ hk => hk.2) (.int .i64 0)) (fun _ hk => hk.2) (.int .i64 0)) (fun _ hk => hk.2) (.int .i64 0)) (fun _ hk => trivial), bl_⟩

   replace H := it_ H; rcases H with ⟨(c10b0 : decide (200 ≤ (x236000_1.length : Int)) = true), H⟩ | ⟨(c10b0 : decide (200 ≤ (x236000_1.length : Int)) = false), H⟩
   ·have c10b1 : decide (200 ≤ x236000_1.length) = true := n2_ c10b0
    simp only [Option.some.injEq, Prod.mk.injEq] at H
    obtain ⟨rfl, rfl, rfl, rfl⟩ := H
    have hnb11 := NB235_233.out
    have hnc11 := NB233_235.out
    have hnb12 := NB235_234.out
    have hnc12 := NB234_235.out
    obtain ⟨hcz13_0, hcz13_1, hcz13_2, hcz13_3, hfz13_0, hfz13_1, hfz13_2, hfz13_3⟩ := cellsF4 BK235.out
    obtain ⟨Ao14, co14, eo14⟩ := Kd.S_slice HO_236000.out
    subst eo14
    have hnb15 := NB234_233.out
    have hnc15 := NB233_234.out
    obtain ⟨hcz16_0, hcz16_1, hcz16_2, hcz16_3, hfz16_0, hfz16_1, hfz16_2, hfz16_3⟩ := cellsF4 BK234.out
    go_wp2
    refine bodyPost_ret (results_cell_row rfl _ _ gb234 78 #[.slice none 0 0, .int .i64 x6_1, .int .i64 (x236000_1.length : Int), .int .i64 7] (0, 0) _ rfl (bq_ BK234) Try.underlying78 rfl (by kernel_rfl)) rfl ?_
    exact ⟨_, au3_0, au3_2, bl_⟩
   have c10b1 : decide (200 ≤ x236000_1.length) = false := n2_ c10b0
   by_cases c17 : 0 ≤ x6_1
   rotate_left
   ·rw [if_neg c17] at H
    exact absurd H (by simp)
   rw [if_pos c17] at H
   have c17b0 := eq_true c17
   have c17b1 : decide (0 ≤ x6_1) = true := decide_eq_true c17
   clear c17
   by_cases c18 : x6_1 ≤ (a1.size : Int)
   rotate_left
   ·rw [if_neg c18] at H
    exact absurd H (by simp)
   rw [if_pos c18] at H
   have c18b0 := eq_true c18
   have c18b1 : decide (x6_1 ≤ (a1.size : Int)) = true := decide_eq_true c18
   clear c18
   replace H := bi_ H; rcases H with ⟨⟨t236, t237, t240, t241, t242⟩, A19, H⟩
   by_cases c20 : t242 = 0
   rotate_left
   ·rw [if_neg c20] at H
    have c20b0 : (t242 == 0) = false := beq_eq_false_iff_ne.mpr c20
    have c20b1 : (t242 != 0) = true := bne_iff_ne.mpr c20
    simp only [Option.some.injEq, Prod.mk.injEq] at H
    obtain ⟨rfl, rfl, rfl, rfl⟩ := H
    have hnb46 := NB235_233.out
    have hnc46 := NB233_235.out
    have hnb47 := NB235_234.out
    have hnc47 := NB234_235.out
    obtain ⟨hcz48_0, hcz48_1, hcz48_2, hcz48_3, hfz48_0, hfz48_1, hfz48_2, hfz48_3⟩ := cellsF4 BK235.out
    obtain ⟨Ao49, co49, eo49⟩ := Kd.S_slice HO_236000.out
    subst eo49
    try go_wp2
    replace HO_236000 := am_ (Kd.S_drew HO_236000.out)
    replace BK233 := bd_ BK233
    replace BK234 := bd_ BK234
    replace BK235 := bd_ BK235
    replace HB := am_ (below_drew1 HB.out)
    refine start_ (n := 7) (S := fun w' => w'.cell? ⟨gb233, 0, none⟩ = some (.int .i64 a0_0) ∧ w'.cell? ⟨gb233, 1, none⟩ = some (.int .i64 a0_1) ∧ w'.cell? ⟨gb233, 2, none⟩ = some (.int .i64 a0_2) ∧ w'.cell? ⟨gb233, 3, none⟩ = some (.int .i64 a0_3)) (ds := []) (bs 7 0) (by kernel_rfl) rfl rfl ⟨(blk_cell BK233.out 0).trans rfl, (blk_cell BK233.out 1).trans rfl, (blk_cell BK233.out 2).trans rfl, (blk_cell BK233.out 3).trans rfl⟩ (fun hHeld => ?_)
    generalize wr.drew = w50 at HO_236000 BK233 BK234 BK235 HB hHeld ⊢
    refine pk_ 1 23 (bs 7 2) ?_ rfl rfl
    refine pk_ 2 24 (bs 7 6) ?_ rfl rfl
    refine pk_ 3 25 (bs 7 14) ?_ rfl rfl
    refine take_ (i := 0) (N := some 22) (v := ?_) (a' := ?_) (bs 7 15) rfl rfl (by kernel_rfl) (fun _ _ _ h => h) (Or.inl ⟨by rfl, ?_⟩) hHeld ?_ ?_
    rotate_left
    ·rintro w' ⟨s0, s1, s2, s3⟩
     go_simp
     with_reducible rfl
    rotate_left
    ·simp only [Act.put, List.setIfInBounds_toArray, List.set_cons_zero, List.set_cons_succ, i64_w, i32_w]
     rfl
    refine join_ (σ := Value × Nat) 1 (bs 7 63) (fun s_ => [(26, .agg #[.string t236, s_.1, .int .i64 t240, .int .i64 t241, .int .i64 t242]), (8, .pointer (some ⟨s_.2, 0, none⟩))]) (fun s_ w' => (w'.cell? ⟨gb233, 0, none⟩ = some (.int .i64 a0_0) ∧ w'.cell? ⟨gb233, 1, none⟩ = some (.int .i64 a0_1) ∧ w'.cell? ⟨gb233, 2, none⟩ = some (.int .i64 a0_2) ∧ w'.cell? ⟨gb233, 3, none⟩ = some (.int .i64 a0_3)) ∧ (Kd.S k102 102 w' w.heap.size (fun _ => True) s_.1 t237) ∧ (Kd.S k59 59 w' w.heap.size (fun k_ => some k_ ≠ (s_.1 : Value).ownBlock) (.slice Ao49 x236000_1.length co49) x236000_1) ∧ (w'.heap[gb233]? = some (.cells #[.int .i64 a0_0, .int .i64 a0_1, .int .i64 a0_2, .int .i64 a0_3] 23 (0, 0))) ∧ (w'.heap[gb234]? = some (.cells #[.slice none 0 0, .int .i64 x235001_1, .int .i64 x235002_1, .int .i64 x235003_1] 78 (0, 0))) ∧ (w'.heap[gb235]? = some (.cells #[.slice Ao49 x236000_1.length co49, .int .i64 0, .int .i64 0, .int .i64 0] 78 (0, 0))) ∧ (w'.heap[s_.2]? = some (.cells #[.string (⟨#[]⟩ : ByteArray), .slice none 0 0, .int .i64 0, .int .i64 0, .int .i64 0] 66 (0, 0))) ∧ (w.heap.size ≤ s_.2) ∧ (w.heap.size ≤ s_.2) ∧ (gb233 ≠ s_.2) ∧ (s_.2 ≠ gb233) ∧ (gb234 ≠ s_.2) ∧ (s_.2 ≠ gb234) ∧ (gb235 ≠ s_.2) ∧ (s_.2 ≠ gb235) ∧ (Below w.heap.size w w')) ?_ ?_
    rotate_left
    ·intro hCont
     refine two_ (i := 4) (j := 5) (Ni := some 26) (Nj := some 8) (bs 7 31) (bs 7 47) rfl rfl rfl rfl (by kernel_rfl) (by decide) (by decide) (fun K hK => ?_) (fun K hK => ?_)
     rotate_left
     ·skip
      refine box_step ?hg (N := 8) ?hd (cs := #[.string (⟨#[]⟩ : ByteArray), .slice none 0 0, .int .i64 0, .int .i64 0, .int .i64 0]) (t := 66) ?hr ?_; (case hd => rfl); (case hg => rfl); (case hr => exact hr_)
      intro gb243 hg w51 hbox hb
      replace HO_236000 := am_ (Kd.S_below au3_1 hb)
      have BK243 := am_ (hbox)
      have GW243 := am_ (gw_ hg bl_)
      have GE243 := am_ (gw_ hg bl_)
      replace HB := hs_ w hb
      have NB233_243 := am_ (gn_ hg (blkl_ BK233))
      have NB243_233 := am_ (gm_ hg (blkl_ BK233))
      replace BK233 := bb_ BK233 hb
      have NB234_243 := am_ (gn_ hg (blkl_ BK234))
      have NB243_234 := am_ (gm_ hg (blkl_ BK234))
      replace BK234 := bb_ BK234 hb
      have NB235_243 := am_ (gn_ hg (blkl_ BK235))
      have NB243_235 := am_ (gm_ hg (blkl_ BK235))
      replace BK235 := bb_ BK235 hb
      clear hb hbox hg
      refine hK.out _ _ ⟨(blk_cell BK233.out 0).trans rfl, (blk_cell BK233.out 1).trans rfl, (blk_cell BK233.out 2).trans rfl, (blk_cell BK233.out 3).trans rfl⟩ (fun hHeld => ?_)
      clear hK K
      refine no_ 8 ?_
      refine one_ (i := 4) (N := some 26) (bs 7 63) rfl rfl (by kernel_rfl) (by decide) (fun K hK => ?_)
      refine gr_ Try.func87 #[.agg #[.int .i64 a0_0, .int .i64 a0_1, .int .i64 a0_2, .int .i64 a0_3], .string (a1.extract (x6_1 : Int).toNat a1.size)] (by rfl) ?_ rfl rfl rfl
      with_reducible refine (F87.calls k1 a0_0 a0_1 a0_2 a0_3 (a1.extract (x6_1 : Int).toNat a1.size) t236 t237 t240 t241 t242 _ A19.out).mono ?_
      rintro e w52 ⟨v238, rfl, ho0, hb⟩
      refine ⟨_, rfl, ?_⟩
      replace HO_236000 := am_ (Kd.S_elder' au3_1 (Kd.S_base ho0) hb)
      have HO239 := am_ (Kd.S_lower ho0 (below_size bl_))
      replace BK233 := bb_ BK233 hb
      replace BK234 := bb_ BK234 hb
      replace BK235 := bb_ BK235 hb
      replace BK243 := bb_ BK243 hb
      replace HB := hs_ w hb
      (try clear hb)
      (try clear hb2)
      (try clear hk)
      (try clear hi)
      (try clear ho0)
      refine hK.out _ _ ⟨(blk_cell BK233.out 0).trans rfl, (blk_cell BK233.out 1).trans rfl, (blk_cell BK233.out 2).trans rfl, (blk_cell BK233.out 3).trans rfl⟩ (fun hHeld => ?_)
      clear hK K
      refine no_ 26 ?_
      exact norm_ au3_5 (hCont (v238, gb243) _ ⟨hHeld, au3_3, au3_12, (bk_ BK233), (bk_ BK234), (bk_ BK235), (bk_ BK243), GW243.out, GE243.out, NB233_243.out, NB243_233.out, NB234_243.out, NB243_234.out, NB235_243.out, NB243_235.out, bl_⟩)
     skip
     refine gr_ Try.func87 #[.agg #[.int .i64 a0_0, .int .i64 a0_1, .int .i64 a0_2, .int .i64 a0_3], .string (a1.extract (x6_1 : Int).toNat a1.size)] (by rfl) ?_ rfl rfl rfl
     with_reducible refine (F87.calls k1 a0_0 a0_1 a0_2 a0_3 (a1.extract (x6_1 : Int).toNat a1.size) t236 t237 t240 t241 t242 _ A19.out).mono ?_
     rintro e w51 ⟨v238, rfl, ho0, hb⟩
     refine ⟨_, rfl, ?_⟩
     replace HO_236000 := am_ (Kd.S_elder' au3_1 (Kd.S_base ho0) hb)
     have HO239 := am_ (Kd.S_lower ho0 (below_size bl_))
     replace BK233 := bb_ BK233 hb
     replace BK234 := bb_ BK234 hb
     replace BK235 := bb_ BK235 hb
     replace HB := hs_ w hb
     (try clear hb)
     (try clear hb2)
     (try clear hk)
     (try clear hi)
     (try clear ho0)
     refine hK.out _ _ ⟨(blk_cell BK233.out 0).trans rfl, (blk_cell BK233.out 1).trans rfl, (blk_cell BK233.out 2).trans rfl, (blk_cell BK233.out 3).trans rfl⟩ (fun hHeld => ?_)
     clear hK K
     refine no_ 26 ?_
     refine one_ (i := 5) (N := some 8) (bs 7 63) rfl rfl (by kernel_rfl) (by decide) (fun K hK => ?_)
     refine box_step ?hg (N := 8) ?hd (cs := #[.string (⟨#[]⟩ : ByteArray), .slice none 0 0, .int .i64 0, .int .i64 0, .int .i64 0]) (t := 66) ?hr ?_; (case hd => rfl); (case hg => rfl); (case hr => exact hr_)
     intro gb243 hg w52 hbox hb
     replace HO_236000 := am_ (Kd.S_below au3_1 hb)
     replace HO239 := am_ (Kd.S_below au3_3 hb)
     have BK243 := am_ (hbox)
     have GW243 := am_ (gw_ hg bl_)
     have GE243 := am_ (gw_ hg bl_)
     replace HB := hs_ w hb
     have NB233_243 := am_ (gn_ hg (blkl_ BK233))
     have NB243_233 := am_ (gm_ hg (blkl_ BK233))
     replace BK233 := bb_ BK233 hb
     have NB234_243 := am_ (gn_ hg (blkl_ BK234))
     have NB243_234 := am_ (gm_ hg (blkl_ BK234))
     replace BK234 := bb_ BK234 hb
     have NB235_243 := am_ (gn_ hg (blkl_ BK235))
     have NB243_235 := am_ (gm_ hg (blkl_ BK235))
     replace BK235 := bb_ BK235 hb
     clear hb hbox hg
     refine hK.out _ _ ⟨(blk_cell BK233.out 0).trans rfl, (blk_cell BK233.out 1).trans rfl, (blk_cell BK233.out 2).trans rfl, (blk_cell BK233.out 3).trans rfl⟩ (fun hHeld => ?_)
     clear hK K
     refine no_ 8 ?_
     exact norm_ au3_5 (hCont (v238, gb243) _ ⟨hHeld, au3_3, au3_12, (bk_ BK233), (bk_ BK234), (bk_ BK235), (bk_ BK243), GW243.out, GE243.out, NB233_243.out, NB243_233.out, NB234_243.out, NB243_234.out, NB235_243.out, NB243_235.out, bl_⟩)
    rintro ⟨v238, gb243⟩ w53 ⟨hS_, h0_, h1_, h2_, h3_, h4_, h5_, h6_, h7_, h8_, h9_, h10_, h11_, h12_, h13_, h14_⟩
    have n0_ : Aside0 (Kd.S k102 102 w53 w.heap.size (fun _ => True) v238 t237) := ⟨h0_⟩
    have n1_ : Aside0 (Kd.S k59 59 w53 w.heap.size (fun k_ => some k_ ≠ (v238 : Value).ownBlock) (.slice Ao49 x236000_1.length co49) x236000_1) := ⟨h1_⟩
    have n2_ : Aside0 (w53.heap[gb233]? = some (.cells #[.int .i64 a0_0, .int .i64 a0_1, .int .i64 a0_2, .int .i64 a0_3] 23 (0, 0))) := ⟨h2_⟩
    have n3_ : Aside0 (w53.heap[gb234]? = some (.cells #[.slice none 0 0, .int .i64 x235001_1, .int .i64 x235002_1, .int .i64 x235003_1] 78 (0, 0))) := ⟨h3_⟩
    have n4_ : Aside0 (w53.heap[gb235]? = some (.cells #[.slice Ao49 x236000_1.length co49, .int .i64 0, .int .i64 0, .int .i64 0] 78 (0, 0))) := ⟨h4_⟩
    have n5_ : Aside0 (w53.heap[gb243]? = some (.cells #[.string (⟨#[]⟩ : ByteArray), .slice none 0 0, .int .i64 0, .int .i64 0, .int .i64 0] 66 (0, 0))) := ⟨h5_⟩
    have n6_ : Aside0 (w.heap.size ≤ gb243) := ⟨h6_⟩
    have n7_ : Aside0 (w.heap.size ≤ gb243) := ⟨h7_⟩
    have n8_ : Aside0 (gb233 ≠ gb243) := ⟨h8_⟩
    have n9_ : Aside0 (gb243 ≠ gb233) := ⟨h9_⟩
    have n10_ : Aside0 (gb234 ≠ gb243) := ⟨h10_⟩
    have n11_ : Aside0 (gb243 ≠ gb234) := ⟨h11_⟩
    have n12_ : Aside0 (gb235 ≠ gb243) := ⟨h12_⟩
    have n13_ : Aside0 (gb243 ≠ gb235) := ⟨h13_⟩
    have n14_ : Aside0 (Below w.heap.size w w53) := ⟨h14_⟩
    clear HO_236000
    clear BK233
    clear BK234
    clear BK235
    clear HB
    clear h0_ h1_ h2_ h3_ h4_ h5_ h6_ h7_ h8_ h9_ h10_ h11_ h12_ h13_ h14_
    have HO239 := n0_
    have HO_236000 := n1_
    have BK233 := n2_
    have BK234 := n3_
    have BK235 := n4_
    have BK243 := n5_
    have GW243 := n6_
    have GE243 := n7_
    have NB233_243 := n8_
    have NB243_233 := n9_
    have NB234_243 := n10_
    have NB243_234 := n11_
    have NB235_243 := n12_
    have NB243_235 := n13_
    have HB := n14_
    clear n0_ n1_ n2_ n3_ n4_ n5_ n6_ n7_ n8_ n9_ n10_ n11_ n12_ n13_ n14_
    have hHeld : w53.cell? ⟨gb233, 0, none⟩ = some (.int .i64 a0_0) ∧ w53.cell? ⟨gb233, 1, none⟩ = some (.int .i64 a0_1) ∧ w53.cell? ⟨gb233, 2, none⟩ = some (.int .i64 a0_2) ∧ w53.cell? ⟨gb233, 3, none⟩ = some (.int .i64 a0_3) := hS_
    obtain ⟨Ao55, co55, eo55⟩ := Kd.S_slice HO239.out
    (first | subst eo55 | (injection eo55 with f1_ f2_ f3_; have f4_ := f1_.symm; have f5_ := f3_.symm; clear f1_ f2_ f3_; subst f4_; subst f5_))
    refine norm_ (a' := ?_) ?_ ?_
    rotate_left
    ·simp only [putAll, Act.put, List.setIfInBounds_toArray, List.set_cons_zero, List.set_cons_succ]
     rfl
    refine one_ (i := 6) (N := none) (bs 7 127) rfl rfl (by kernel_rfl) (by decide) (fun K hK => ?_)
    have hs54 : w53.cell? ⟨gb243, 0, none⟩ = some (.string (⟨#[]⟩ : ByteArray)) := (blk_cell BK243.out 0).trans rfl
    have hfs54 := blk_frozen BK243.out 0
    have hns54_0 := NB233_243.out
    have hns54_1 := NB234_243.out
    have hns54_2 := NB235_243.out
    have hms54_0 := NB243_233.out
    have hms54_1 := NB243_234.out
    have hms54_2 := NB243_235.out
    have hs56 : w53.cell? ⟨gb243, 1, none⟩ = some (.slice none 0 0) := (blk_cell BK243.out 1).trans rfl
    have hfs56 := blk_frozen BK243.out 1
    have hns56_0 := NB233_243.out
    have hns56_1 := NB234_243.out
    have hns56_2 := NB235_243.out
    have hms56_0 := NB243_233.out
    have hms56_1 := NB243_234.out
    have hms56_2 := NB243_235.out
    have hs57 : w53.cell? ⟨gb243, 2, none⟩ = some (.int .i64 0) := (blk_cell BK243.out 2).trans rfl
    have hfs57 := blk_frozen BK243.out 2
    have hns57_0 := NB233_243.out
    have hns57_1 := NB234_243.out
    have hns57_2 := NB235_243.out
    have hms57_0 := NB243_233.out
    have hms57_1 := NB243_234.out
    have hms57_2 := NB243_235.out
    have hs58 : w53.cell? ⟨gb243, 3, none⟩ = some (.int .i64 0) := (blk_cell BK243.out 3).trans rfl
    have hfs58 := blk_frozen BK243.out 3
    have hns58_0 := NB233_243.out
    have hns58_1 := NB234_243.out
    have hns58_2 := NB235_243.out
    have hms58_0 := NB243_233.out
    have hms58_1 := NB243_234.out
    have hms58_2 := NB243_235.out
    have hs59 : w53.cell? ⟨gb243, 4, none⟩ = some (.int .i64 0) := (blk_cell BK243.out 4).trans rfl
    have hfs59 := blk_frozen BK243.out 4
    have hns59_0 := NB233_243.out
    have hns59_1 := NB234_243.out
    have hns59_2 := NB235_243.out
    have hms59_0 := NB243_233.out
    have hms59_1 := NB243_234.out
    have hms59_2 := NB243_235.out
    refine skip_ (w1 := ?_) (by rfl) rfl ?_ ?_
    rotate_left
    ·go_simp
     rfl
    refine hK.out _ _ ⟨((cell_far (p := ⟨gb243, _, none⟩) NB233_243.out _).trans (((cell_far (p := ⟨gb243, _, none⟩) NB233_243.out _).trans (((cell_far (p := ⟨gb243, _, none⟩) NB233_243.out _).trans (((cell_far (p := ⟨gb243, _, none⟩) NB233_243.out _).trans (((cell_far (p := ⟨gb243, _, none⟩) NB233_243.out _).trans (hHeld.1)))))))))), ((cell_far (p := ⟨gb243, _, none⟩) NB233_243.out _).trans (((cell_far (p := ⟨gb243, _, none⟩) NB233_243.out _).trans (((cell_far (p := ⟨gb243, _, none⟩) NB233_243.out _).trans (((cell_far (p := ⟨gb243, _, none⟩) NB233_243.out _).trans (((cell_far (p := ⟨gb243, _, none⟩) NB233_243.out _).trans (hHeld.2.1)))))))))), ((cell_far (p := ⟨gb243, _, none⟩) NB233_243.out _).trans (((cell_far (p := ⟨gb243, _, none⟩) NB233_243.out _).trans (((cell_far (p := ⟨gb243, _, none⟩) NB233_243.out _).trans (((cell_far (p := ⟨gb243, _, none⟩) NB233_243.out _).trans (((cell_far (p := ⟨gb243, _, none⟩) NB233_243.out _).trans (hHeld.2.2.1)))))))))), ((cell_far (p := ⟨gb243, _, none⟩) NB233_243.out _).trans (((cell_far (p := ⟨gb243, _, none⟩) NB233_243.out _).trans (((cell_far (p := ⟨gb243, _, none⟩) NB233_243.out _).trans (((cell_far (p := ⟨gb243, _, none⟩) NB233_243.out _).trans (((cell_far (p := ⟨gb243, _, none⟩) NB233_243.out _).trans (hHeld.2.2.2))))))))))⟩ (fun hHeld => ?_)
    clear hK K
    refine done_ (by kernel_rfl) ?_
    have hnb60 := NB243_233.out
    have hnc60 := NB233_243.out
    have hnb61 := NB243_234.out
    have hnc61 := NB234_243.out
    have hnb62 := NB243_235.out
    have hnc62 := NB235_243.out
    obtain ⟨hcz63_0, hcz63_1, hcz63_2, hcz63_3, hcz63_4, hfz63_0, hfz63_1, hfz63_2, hfz63_3, hfz63_4⟩ := cellsF5 BK243.out
    have hnb64 := NB234_233.out
    have hnc64 := NB233_234.out
    obtain ⟨hcz65_0, hcz65_1, hcz65_2, hcz65_3, hfz65_0, hfz65_1, hfz65_2, hfz65_3⟩ := cellsF4 BK234.out
    try go_wp2
    refine bodyPost_ret (results_cell_row rfl _ _ gb234 78 #[.slice none 0 0, .int .i64 (wrap64 (x6_1 + t241)), .int .i64 (x236000_1.length : Int), .int .i64 t242] (0, 0) _ rfl (bq_ BK234) Try.underlying78 rfl (by kernel_rfl)) rfl ?_
    exact ⟨_, au3_0, au3_2, bl_⟩
   rw [if_pos c20] at H
   have c20b0 : (t242 == 0) = true := beq_iff_eq.mpr c20
   have c20b1 : (t242 != 0) = false := bne_eq_false_iff_eq.mpr c20
   clear c20
   replace H := iln_ H; rcases H with ⟨LMc21, H⟩
   obtain ⟨y244, hy244⟩ : ∃ y_ : List (S59), y_ = (x236000_1 ++ [(⟨t236, t237⟩ : S59)]) := ⟨_, rfl⟩
   replace H : (F94.l0 k1 a1 (wrap64 (x6_1 + t240)) a0_0 a0_1 a0_2 a0_3 y244 0 0 0) = some (r1, r2, r3, r4) := by first | (rw [hy244]; exact H) | exact H
   have Ny244 := am_ hy244
   clear hy244
   have H' := am_ H
   clear H
   have hnb22 := NB235_233.out
   have hnc22 := NB233_235.out
   have hnb23 := NB235_234.out
   have hnc23 := NB234_235.out
   obtain ⟨hcz24_0, hcz24_1, hcz24_2, hcz24_3, hfz24_0, hfz24_1, hfz24_2, hfz24_3⟩ := cellsF4 BK235.out
   obtain ⟨Ao25, co25, eo25⟩ := Kd.S_slice HO_236000.out
   subst eo25
   try go_wp2
   replace HO_236000 := am_ (Kd.S_drew HO_236000.out)
   replace BK233 := bd_ BK233
   replace BK234 := bd_ BK234
   replace BK235 := bd_ BK235
   replace HB := am_ (below_drew1 HB.out)
   refine start_ (n := 7) (S := fun w' => w'.cell? ⟨gb233, 0, none⟩ = some (.int .i64 a0_0) ∧ w'.cell? ⟨gb233, 1, none⟩ = some (.int .i64 a0_1) ∧ w'.cell? ⟨gb233, 2, none⟩ = some (.int .i64 a0_2) ∧ w'.cell? ⟨gb233, 3, none⟩ = some (.int .i64 a0_3)) (ds := []) (bs 7 0) (by kernel_rfl) rfl rfl ⟨(blk_cell BK233.out 0).trans rfl, (blk_cell BK233.out 1).trans rfl, (blk_cell BK233.out 2).trans rfl, (blk_cell BK233.out 3).trans rfl⟩ (fun hHeld => ?_)
   generalize wr.drew = w26 at HO_236000 BK233 BK234 BK235 HB hHeld ⊢
   replace HO_236000 := am_ (Kd.S_mono (ok' := fun k_ => k_ < w26.heap.size) (Kd.S_bound HO_236000.out) (fun k_ hk_ => hk_.2.2.1))
   have HWB := am_ (Nat.le_refl w26.heap.size)
   refine pk_ 1 23 (bs 7 2) ?_ rfl rfl
   refine pk_ 2 24 (bs 7 6) ?_ rfl rfl
   refine pk_ 3 25 (bs 7 14) ?_ rfl rfl
   refine take_ (i := 0) (N := some 22) (v := ?_) (a' := ?_) (bs 7 15) rfl rfl (by kernel_rfl) (fun _ _ _ h => h) (Or.inl ⟨by rfl, ?_⟩) hHeld ?_ ?_
   rotate_left
   ·rintro w' ⟨s0, s1, s2, s3⟩
    go_simp
    with_reducible rfl
   rotate_left
   ·simp only [Act.put, List.setIfInBounds_toArray, List.set_cons_zero, List.set_cons_succ, i64_w, i32_w]
    rfl
   refine join_ (σ := Value × Nat) 1 (bs 7 63) (fun s_ => [(26, .agg #[.string t236, s_.1, .int .i64 t240, .int .i64 t241, .int .i64 t242]), (8, .pointer (some ⟨s_.2, 0, none⟩))]) (fun s_ w' => (w'.cell? ⟨gb233, 0, none⟩ = some (.int .i64 a0_0) ∧ w'.cell? ⟨gb233, 1, none⟩ = some (.int .i64 a0_1) ∧ w'.cell? ⟨gb233, 2, none⟩ = some (.int .i64 a0_2) ∧ w'.cell? ⟨gb233, 3, none⟩ = some (.int .i64 a0_3)) ∧ (Kd.S k102 102 w' w.heap.size (fun k_ => w26.heap.size ≤ k_) s_.1 t237) ∧ (Kd.S k59 59 w' w.heap.size (fun k_ => k_ < w26.heap.size ∧ some k_ ≠ (s_.1 : Value).ownBlock) (.slice Ao25 x236000_1.length co25) x236000_1) ∧ (w'.heap[gb233]? = some (.cells #[.int .i64 a0_0, .int .i64 a0_1, .int .i64 a0_2, .int .i64 a0_3] 23 (0, 0))) ∧ (w'.heap[gb234]? = some (.cells #[.slice none 0 0, .int .i64 x235001_1, .int .i64 x235002_1, .int .i64 x235003_1] 78 (0, 0))) ∧ (w'.heap[gb235]? = some (.cells #[.slice Ao25 x236000_1.length co25, .int .i64 0, .int .i64 0, .int .i64 0] 78 (0, 0))) ∧ (w'.heap[s_.2]? = some (.cells #[.string (⟨#[]⟩ : ByteArray), .slice none 0 0, .int .i64 0, .int .i64 0, .int .i64 0] 66 (0, 0))) ∧ (w.heap.size ≤ s_.2) ∧ (w.heap.size ≤ s_.2) ∧ (gb233 ≠ s_.2) ∧ (s_.2 ≠ gb233) ∧ (gb234 ≠ s_.2) ∧ (s_.2 ≠ gb234) ∧ (gb235 ≠ s_.2) ∧ (s_.2 ≠ gb235) ∧ (Below w.heap.size w w')) ?_ ?_
   rotate_left
   ·intro hCont
    refine two_ (i := 4) (j := 5) (Ni := some 26) (Nj := some 8) (bs 7 31) (bs 7 47) rfl rfl rfl rfl (by kernel_rfl) (by decide) (by decide) (fun K hK => ?_) (fun K hK => ?_)
    rotate_left
    ·skip
     refine box_step ?hg (N := 8) ?hd (cs := #[.string (⟨#[]⟩ : ByteArray), .slice none 0 0, .int .i64 0, .int .i64 0, .int .i64 0]) (t := 66) ?hr ?_; (case hd => rfl); (case hg => rfl); (case hr => exact hr_)
     intro gb243 hg w27 hbox hb
     (try replace HWB := am_ (Nat.le_trans HWB.out hb.size))
     replace HO_236000 := am_ (Kd.S_below au3_1 hb)
     have BK243 := am_ (hbox)
     have GW243 := am_ (gw_ hg bl_)
     have GE243 := am_ (gw_ hg bl_)
     replace HB := hs_ w hb
     have NB233_243 := am_ (gn_ hg (blkl_ BK233))
     have NB243_233 := am_ (gm_ hg (blkl_ BK233))
     replace BK233 := bb_ BK233 hb
     have NB234_243 := am_ (gn_ hg (blkl_ BK234))
     have NB243_234 := am_ (gm_ hg (blkl_ BK234))
     replace BK234 := bb_ BK234 hb
     have NB235_243 := am_ (gn_ hg (blkl_ BK235))
     have NB243_235 := am_ (gm_ hg (blkl_ BK235))
     replace BK235 := bb_ BK235 hb
     clear hb hbox hg
     refine hK.out _ _ ⟨(blk_cell BK233.out 0).trans rfl, (blk_cell BK233.out 1).trans rfl, (blk_cell BK233.out 2).trans rfl, (blk_cell BK233.out 3).trans rfl⟩ (fun hHeld => ?_)
     clear hK K
     refine no_ 8 ?_
     refine one_ (i := 4) (N := some 26) (bs 7 63) rfl rfl (by kernel_rfl) (by decide) (fun K hK => ?_)
     refine gr_ Try.func87 #[.agg #[.int .i64 a0_0, .int .i64 a0_1, .int .i64 a0_2, .int .i64 a0_3], .string (a1.extract (x6_1 : Int).toNat a1.size)] (by rfl) ?_ rfl rfl rfl
     with_reducible refine (F87.calls k1 a0_0 a0_1 a0_2 a0_3 (a1.extract (x6_1 : Int).toNat a1.size) t236 t237 t240 t241 t242 _ A19.out).mono ?_
     rintro e w28 ⟨v238, rfl, ho0, hb⟩
     refine ⟨_, rfl, ?_⟩
     replace HO_236000 := am_ (Kd.S_elder' au3_1 (Kd.S_base ho0) hb)
     have HO239 := am_ (Kd.S_lower (Kd.S_mono (ok' := (fun k_ => w26.heap.size ≤ k_)) (Kd.S_bound ho0) (fun k_ hk_ => Nat.le_trans HWB.out hk_.2.1)) (below_size bl_))
     replace BK233 := bb_ BK233 hb
     replace BK234 := bb_ BK234 hb
     replace BK235 := bb_ BK235 hb
     replace BK243 := bb_ BK243 hb
     replace HB := hs_ w hb
     (try clear hb)
     (try clear hb2)
     (try clear hk)
     (try clear hi)
     (try clear ho0)
     refine hK.out _ _ ⟨(blk_cell BK233.out 0).trans rfl, (blk_cell BK233.out 1).trans rfl, (blk_cell BK233.out 2).trans rfl, (blk_cell BK233.out 3).trans rfl⟩ (fun hHeld => ?_)
     clear hK K
     refine no_ 26 ?_
     exact norm_ au3_5 (hCont (v238, gb243) _ ⟨hHeld, au3_3, au3_13, (bk_ BK233), (bk_ BK234), (bk_ BK235), (bk_ BK243), GW243.out, GE243.out, NB233_243.out, NB243_233.out, NB234_243.out, NB243_234.out, NB235_243.out, NB243_235.out, bl_⟩)
    skip
    refine gr_ Try.func87 #[.agg #[.int .i64 a0_0, .int .i64 a0_1, .int .i64 a0_2, .int .i64 a0_3], .string (a1.extract (x6_1 : Int).toNat a1.size)] (by rfl) ?_ rfl rfl rfl
    with_reducible refine (F87.calls k1 a0_0 a0_1 a0_2 a0_3 (a1.extract (x6_1 : Int).toNat a1.size) t236 t237 t240 t241 t242 _ A19.out).mono ?_
    rintro e w27 ⟨v238, rfl, ho0, hb⟩
    refine ⟨_, rfl, ?_⟩
    replace HO_236000 := am_ (Kd.S_elder' au3_1 (Kd.S_base ho0) hb)
    have HO239 := am_ (Kd.S_lower (Kd.S_mono (ok' := (fun k_ => w26.heap.size ≤ k_)) (Kd.S_bound ho0) (fun k_ hk_ => Nat.le_trans HWB.out hk_.2.1)) (below_size bl_))
    replace BK233 := bb_ BK233 hb
    replace BK234 := bb_ BK234 hb
    replace BK235 := bb_ BK235 hb
    replace HB := hs_ w hb
    (try clear hb)
    (try clear hb2)
    (try clear hk)
    (try clear hi)
    (try clear ho0)
    refine hK.out _ _ ⟨(blk_cell BK233.out 0).trans rfl, (blk_cell BK233.out 1).trans rfl, (blk_cell BK233.out 2).trans rfl, (blk_cell BK233.out 3).trans rfl⟩ (fun hHeld => ?_)
    clear hK K
    refine no_ 26 ?_
    refine one_ (i := 5) (N := some 8) (bs 7 63) rfl rfl (by kernel_rfl) (by decide) (fun K hK => ?_)
    refine box_step ?hg (N := 8) ?hd (cs := #[.string (⟨#[]⟩ : ByteArray), .slice none 0 0, .int .i64 0, .int .i64 0, .int .i64 0]) (t := 66) ?hr ?_; (case hd => rfl); (case hg => rfl); (case hr => exact hr_)
    intro gb243 hg w28 hbox hb
    (try replace HWB := am_ (Nat.le_trans HWB.out hb.size))
    replace HO_236000 := am_ (Kd.S_below au3_1 hb)
    replace HO239 := am_ (Kd.S_below au3_3 hb)
    have BK243 := am_ (hbox)
    have GW243 := am_ (gw_ hg bl_)
    have GE243 := am_ (gw_ hg bl_)
    replace HB := hs_ w hb
    have NB233_243 := am_ (gn_ hg (blkl_ BK233))
    have NB243_233 := am_ (gm_ hg (blkl_ BK233))
    replace BK233 := bb_ BK233 hb
    have NB234_243 := am_ (gn_ hg (blkl_ BK234))
    have NB243_234 := am_ (gm_ hg (blkl_ BK234))
    replace BK234 := bb_ BK234 hb
    have NB235_243 := am_ (gn_ hg (blkl_ BK235))
    have NB243_235 := am_ (gm_ hg (blkl_ BK235))
    replace BK235 := bb_ BK235 hb
    clear hb hbox hg
    refine hK.out _ _ ⟨(blk_cell BK233.out 0).trans rfl, (blk_cell BK233.out 1).trans rfl, (blk_cell BK233.out 2).trans rfl, (blk_cell BK233.out 3).trans rfl⟩ (fun hHeld => ?_)
    clear hK K
    refine no_ 8 ?_
    exact norm_ au3_5 (hCont (v238, gb243) _ ⟨hHeld, au3_3, au3_13, (bk_ BK233), (bk_ BK234), (bk_ BK235), (bk_ BK243), GW243.out, GE243.out, NB233_243.out, NB243_233.out, NB234_243.out, NB243_234.out, NB235_243.out, NB243_235.out, bl_⟩)
   rintro ⟨v238, gb243⟩ w29 ⟨hS_, h0_, h1_, h2_, h3_, h4_, h5_, h6_, h7_, h8_, h9_, h10_, h11_, h12_, h13_, h14_⟩
   have n0_ : Aside0 (Kd.S k102 102 w29 w.heap.size (fun k_ => w26.heap.size ≤ k_) v238 t237) := ⟨h0_⟩
   have n1_ : Aside0 (Kd.S k59 59 w29 w.heap.size (fun k_ => k_ < w26.heap.size ∧ some k_ ≠ (v238 : Value).ownBlock) (.slice Ao25 x236000_1.length co25) x236000_1) := ⟨h1_⟩
   have n2_ : Aside0 (w29.heap[gb233]? = some (.cells #[.int .i64 a0_0, .int .i64 a0_1, .int .i64 a0_2, .int .i64 a0_3] 23 (0, 0))) := ⟨h2_⟩
   have n3_ : Aside0 (w29.heap[gb234]? = some (.cells #[.slice none 0 0, .int .i64 x235001_1, .int .i64 x235002_1, .int .i64 x235003_1] 78 (0, 0))) := ⟨h3_⟩
   have n4_ : Aside0 (w29.heap[gb235]? = some (.cells #[.slice Ao25 x236000_1.length co25, .int .i64 0, .int .i64 0, .int .i64 0] 78 (0, 0))) := ⟨h4_⟩
   have n5_ : Aside0 (w29.heap[gb243]? = some (.cells #[.string (⟨#[]⟩ : ByteArray), .slice none 0 0, .int .i64 0, .int .i64 0, .int .i64 0] 66 (0, 0))) := ⟨h5_⟩
   have n6_ : Aside0 (w.heap.size ≤ gb243) := ⟨h6_⟩
   have n7_ : Aside0 (w.heap.size ≤ gb243) := ⟨h7_⟩
   have n8_ : Aside0 (gb233 ≠ gb243) := ⟨h8_⟩
   have n9_ : Aside0 (gb243 ≠ gb233) := ⟨h9_⟩
   have n10_ : Aside0 (gb234 ≠ gb243) := ⟨h10_⟩
   have n11_ : Aside0 (gb243 ≠ gb234) := ⟨h11_⟩
   have n12_ : Aside0 (gb235 ≠ gb243) := ⟨h12_⟩
   have n13_ : Aside0 (gb243 ≠ gb235) := ⟨h13_⟩
   have n14_ : Aside0 (Below w.heap.size w w29) := ⟨h14_⟩
   clear HO_236000
   clear BK233
   clear BK234
   clear BK235
   clear HB
   clear h0_ h1_ h2_ h3_ h4_ h5_ h6_ h7_ h8_ h9_ h10_ h11_ h12_ h13_ h14_
   have HO239 := n0_
   have HO_236000 := n1_
   have BK233 := n2_
   have BK234 := n3_
   have BK235 := n4_
   have BK243 := n5_
   have GW243 := n6_
   have GE243 := n7_
   have NB233_243 := n8_
   have NB243_233 := n9_
   have NB234_243 := n10_
   have NB243_234 := n11_
   have NB235_243 := n12_
   have NB243_235 := n13_
   have HB := n14_
   clear n0_ n1_ n2_ n3_ n4_ n5_ n6_ n7_ n8_ n9_ n10_ n11_ n12_ n13_ n14_
   have hHeld : w29.cell? ⟨gb233, 0, none⟩ = some (.int .i64 a0_0) ∧ w29.cell? ⟨gb233, 1, none⟩ = some (.int .i64 a0_1) ∧ w29.cell? ⟨gb233, 2, none⟩ = some (.int .i64 a0_2) ∧ w29.cell? ⟨gb233, 3, none⟩ = some (.int .i64 a0_3) := hS_
   obtain ⟨Ao31, co31, eo31⟩ := Kd.S_slice HO239.out
   (first | subst eo31 | (injection eo31 with f1_ f2_ f3_; have f4_ := f1_.symm; have f5_ := f3_.symm; clear f1_ f2_ f3_; subst f4_; subst f5_))
   refine norm_ (a' := ?_) ?_ ?_
   rotate_left
   ·simp only [putAll, Act.put, List.setIfInBounds_toArray, List.set_cons_zero, List.set_cons_succ]
    rfl
   refine one_ (i := 6) (N := none) (bs 7 127) rfl rfl (by kernel_rfl) (by decide) (fun K hK => ?_)
   have hs30 : w29.cell? ⟨gb243, 0, none⟩ = some (.string (⟨#[]⟩ : ByteArray)) := (blk_cell BK243.out 0).trans rfl
   have hfs30 := blk_frozen BK243.out 0
   have hns30_0 := NB233_243.out
   have hns30_1 := NB234_243.out
   have hns30_2 := NB235_243.out
   have hms30_0 := NB243_233.out
   have hms30_1 := NB243_234.out
   have hms30_2 := NB243_235.out
   have hs32 : w29.cell? ⟨gb243, 1, none⟩ = some (.slice none 0 0) := (blk_cell BK243.out 1).trans rfl
   have hfs32 := blk_frozen BK243.out 1
   have hns32_0 := NB233_243.out
   have hns32_1 := NB234_243.out
   have hns32_2 := NB235_243.out
   have hms32_0 := NB243_233.out
   have hms32_1 := NB243_234.out
   have hms32_2 := NB243_235.out
   have hs33 : w29.cell? ⟨gb243, 2, none⟩ = some (.int .i64 0) := (blk_cell BK243.out 2).trans rfl
   have hfs33 := blk_frozen BK243.out 2
   have hns33_0 := NB233_243.out
   have hns33_1 := NB234_243.out
   have hns33_2 := NB235_243.out
   have hms33_0 := NB243_233.out
   have hms33_1 := NB243_234.out
   have hms33_2 := NB243_235.out
   have hs34 : w29.cell? ⟨gb243, 3, none⟩ = some (.int .i64 0) := (blk_cell BK243.out 3).trans rfl
   have hfs34 := blk_frozen BK243.out 3
   have hns34_0 := NB233_243.out
   have hns34_1 := NB234_243.out
   have hns34_2 := NB235_243.out
   have hms34_0 := NB243_233.out
   have hms34_1 := NB243_234.out
   have hms34_2 := NB243_235.out
   have hs35 : w29.cell? ⟨gb243, 4, none⟩ = some (.int .i64 0) := (blk_cell BK243.out 4).trans rfl
   have hfs35 := blk_frozen BK243.out 4
   have hns35_0 := NB233_243.out
   have hns35_1 := NB234_243.out
   have hns35_2 := NB235_243.out
   have hms35_0 := NB243_233.out
   have hms35_1 := NB243_234.out
   have hms35_2 := NB243_235.out
   refine skip_ (w1 := ?_) (by rfl) rfl ?_ ?_
   rotate_left
   ·go_simp
    rfl
   refine hK.out _ _ ⟨((cell_far (p := ⟨gb243, _, none⟩) NB233_243.out _).trans (((cell_far (p := ⟨gb243, _, none⟩) NB233_243.out _).trans (((cell_far (p := ⟨gb243, _, none⟩) NB233_243.out _).trans (((cell_far (p := ⟨gb243, _, none⟩) NB233_243.out _).trans (((cell_far (p := ⟨gb243, _, none⟩) NB233_243.out _).trans (hHeld.1)))))))))), ((cell_far (p := ⟨gb243, _, none⟩) NB233_243.out _).trans (((cell_far (p := ⟨gb243, _, none⟩) NB233_243.out _).trans (((cell_far (p := ⟨gb243, _, none⟩) NB233_243.out _).trans (((cell_far (p := ⟨gb243, _, none⟩) NB233_243.out _).trans (((cell_far (p := ⟨gb243, _, none⟩) NB233_243.out _).trans (hHeld.2.1)))))))))), ((cell_far (p := ⟨gb243, _, none⟩) NB233_243.out _).trans (((cell_far (p := ⟨gb243, _, none⟩) NB233_243.out _).trans (((cell_far (p := ⟨gb243, _, none⟩) NB233_243.out _).trans (((cell_far (p := ⟨gb243, _, none⟩) NB233_243.out _).trans (((cell_far (p := ⟨gb243, _, none⟩) NB233_243.out _).trans (hHeld.2.2.1)))))))))), ((cell_far (p := ⟨gb243, _, none⟩) NB233_243.out _).trans (((cell_far (p := ⟨gb243, _, none⟩) NB233_243.out _).trans (((cell_far (p := ⟨gb243, _, none⟩) NB233_243.out _).trans (((cell_far (p := ⟨gb243, _, none⟩) NB233_243.out _).trans (((cell_far (p := ⟨gb243, _, none⟩) NB233_243.out _).trans (hHeld.2.2.2))))))))))⟩ (fun hHeld => ?_)
   clear hK K
   refine done_ (by kernel_rfl) ?_
   have n0_ : Aside0 (Kd.S k59 59 (((((w29.setCell ⟨gb243, 0, none⟩ (.string t236)).setCell ⟨gb243, 1, none⟩ (.slice Ao31 t237.length co31)).setCell ⟨gb243, 2, none⟩ (.int .i64 t240)).setCell ⟨gb243, 3, none⟩ (.int .i64 t241)).setCell ⟨gb243, 4, none⟩ (.int .i64 t242)) w.heap.size (fun k_ => k_ < w26.heap.size ∧ some k_ ≠ (.slice Ao31 t237.length co31 : Value).ownBlock) (.slice Ao25 x236000_1.length co25) x236000_1) := ⟨by (with_reducible repeat (first | apply Kd.S_alloc | apply Kd.S_drewN | apply Kd.S_drew)); exact Kd.S_mono (Kd.S_far (p := ⟨gb243, 4, none⟩) (Kd.S_far (p := ⟨gb243, 3, none⟩) (Kd.S_far (p := ⟨gb243, 2, none⟩) (Kd.S_far (p := ⟨gb243, 1, none⟩) (Kd.S_far (p := ⟨gb243, 0, none⟩) (Kd.S_types HO_236000.out BK243.out (by decide)) (fun _ hk => hk.2) (.string t236)) (fun _ hk => hk.2) (.slice Ao31 t237.length co31)) (fun _ hk => hk.2) (.int .i64 t240)) (fun _ hk => hk.2) (.int .i64 t241)) (fun _ hk => hk.2) (.int .i64 t242)) (fun _ hk => hk.1)⟩
   have n1_ : Aside0 (Kd.S k102 102 (((((w29.setCell ⟨gb243, 0, none⟩ (.string t236)).setCell ⟨gb243, 1, none⟩ (.slice Ao31 t237.length co31)).setCell ⟨gb243, 2, none⟩ (.int .i64 t240)).setCell ⟨gb243, 3, none⟩ (.int .i64 t241)).setCell ⟨gb243, 4, none⟩ (.int .i64 t242)) w.heap.size (fun k_ => w26.heap.size ≤ k_) (.slice Ao31 t237.length co31) t237) := ⟨by (with_reducible repeat (first | apply Kd.S_alloc | apply Kd.S_drewN | apply Kd.S_drew)); exact Kd.S_mono (Kd.S_far (p := ⟨gb243, 4, none⟩) (Kd.S_far (p := ⟨gb243, 3, none⟩) (Kd.S_far (p := ⟨gb243, 2, none⟩) (Kd.S_far (p := ⟨gb243, 1, none⟩) (Kd.S_far (p := ⟨gb243, 0, none⟩) (Kd.S_types HO239.out BK243.out (by decide)) (fun _ hk => hk.2) (.string t236)) (fun _ hk => hk.2) (.slice Ao31 t237.length co31)) (fun _ hk => hk.2) (.int .i64 t240)) (fun _ hk => hk.2) (.int .i64 t241)) (fun _ hk => hk.2) (.int .i64 t242)) (fun _ hk => hk.1)⟩
   have n2_ : Aside0 ((((((w29.setCell ⟨gb243, 0, none⟩ (.string t236)).setCell ⟨gb243, 1, none⟩ (.slice Ao31 t237.length co31)).setCell ⟨gb243, 2, none⟩ (.int .i64 t240)).setCell ⟨gb243, 3, none⟩ (.int .i64 t241)).setCell ⟨gb243, 4, none⟩ (.int .i64 t242)).heap[gb233]? = some (.cells #[.int .i64 a0_0, .int .i64 a0_1, .int .i64 a0_2, .int .i64 a0_3] 23 (0, 0))) := ⟨bf_ BK233⟩
   have n3_ : Aside0 ((((((w29.setCell ⟨gb243, 0, none⟩ (.string t236)).setCell ⟨gb243, 1, none⟩ (.slice Ao31 t237.length co31)).setCell ⟨gb243, 2, none⟩ (.int .i64 t240)).setCell ⟨gb243, 3, none⟩ (.int .i64 t241)).setCell ⟨gb243, 4, none⟩ (.int .i64 t242)).heap[gb234]? = some (.cells #[.slice none 0 0, .int .i64 x235001_1, .int .i64 x235002_1, .int .i64 x235003_1] 78 (0, 0))) := ⟨bf_ BK234⟩
   have n4_ : Aside0 ((((((w29.setCell ⟨gb243, 0, none⟩ (.string t236)).setCell ⟨gb243, 1, none⟩ (.slice Ao31 t237.length co31)).setCell ⟨gb243, 2, none⟩ (.int .i64 t240)).setCell ⟨gb243, 3, none⟩ (.int .i64 t241)).setCell ⟨gb243, 4, none⟩ (.int .i64 t242)).heap[gb235]? = some (.cells #[.slice Ao25 x236000_1.length co25, .int .i64 0, .int .i64 0, .int .i64 0] 78 (0, 0))) := ⟨bf_ BK235⟩
   have n5_ : Aside0 ((((((w29.setCell ⟨gb243, 0, none⟩ (.string t236)).setCell ⟨gb243, 1, none⟩ (.slice Ao31 t237.length co31)).setCell ⟨gb243, 2, none⟩ (.int .i64 t240)).setCell ⟨gb243, 3, none⟩ (.int .i64 t241)).setCell ⟨gb243, 4, none⟩ (.int .i64 t242)).heap[gb243]? = some (.cells #[.string t236, .slice Ao31 t237.length co31, .int .i64 t240, .int .i64 t241, .int .i64 t242] 66 (0, 0))) := ⟨bq_ BK243⟩
   have n6_ : Aside0 (Below w.heap.size w (((((w29.setCell ⟨gb243, 0, none⟩ (.string t236)).setCell ⟨gb243, 1, none⟩ (.slice Ao31 t237.length co31)).setCell ⟨gb243, 2, none⟩ (.int .i64 t240)).setCell ⟨gb243, 3, none⟩ (.int .i64 t241)).setCell ⟨gb243, 4, none⟩ (.int .i64 t242))) := ⟨bl_⟩
   (try clear HO_236000)
   (try clear HO239)
   (try clear BK233)
   (try clear BK234)
   (try clear BK235)
   (try clear BK243)
   (try clear HB)
   generalize (((((w29.setCell ⟨gb243, 0, none⟩ (.string t236)).setCell ⟨gb243, 1, none⟩ (.slice Ao31 t237.length co31)).setCell ⟨gb243, 2, none⟩ (.int .i64 t240)).setCell ⟨gb243, 3, none⟩ (.int .i64 t241)).setCell ⟨gb243, 4, none⟩ (.int .i64 t242)) = w36 at n0_ n1_ n2_ n3_ n4_ n5_ n6_ ⊢
   have HO_236000 := n0_
   have HO239 := n1_
   have BK233 := n2_
   have BK234 := n3_
   have BK235 := n4_
   have BK243 := n5_
   have HB := n6_
   clear n0_ n1_ n2_ n3_ n4_ n5_ n6_
   have hnb37 := NB243_233.out
   have hnc37 := NB233_243.out
   have hnb38 := NB243_234.out
   have hnc38 := NB234_243.out
   have hnb39 := NB243_235.out
   have hnc39 := NB235_243.out
   obtain ⟨hcz40_0, hcz40_1, hcz40_2, hcz40_3, hcz40_4, hfz40_0, hfz40_1, hfz40_2, hfz40_3, hfz40_4⟩ := cellsF5 BK243.out
   obtain ⟨hcz41_0, hcz41_1, hcz41_2, hcz41_3, hfz41_0, hfz41_1, hfz41_2, hfz41_3⟩ := cellsF4 BK235.out
   try go_wp2_with (first | ((with_reducible refine gate_builtin (b := .append) (xs := #[.tmp 39, .tmp 42]) rfl ?_); at_builtin; refine Kd.S_append k59 (w0 := w) w.heap.size rfl (.tmp 39) (.tmp 42) 73 59 (.agg #[(.string ⟨#[]⟩), (.slice none 0 0)]) 40 rfl Try.underlying73 info59 rfl (by decide) (by omega) (.slice Ao25 x236000_1.length co25) x236000_1 (⟨t236, t237⟩ : S59) [.string t236, .slice Ao31 t237.length co31] (fun _ => True) (fun k_ => w26.heap.size ≤ k_) rfl rfl ?aP (fun k_ hk_ => ⟨trivial, fun e_ => Nat.not_le.2 ((Kd.S_R HO_236000.out).1 k_ e_.symm).1 hk_⟩) ?aF ?aO ?aB ?aS ?aL ?_; (case aP => exact k59_mkM _ _ _ (⟨t236, t237⟩ : S59) (Kd.S_mono HO239.out (fun k_ hk => hk))); (case aB => exact bl_); (case aF => exact (fun _ _ => trivial)); (case aO => exact (by (with_reducible repeat (first | apply Kd.S_alloc | apply Kd.S_drewN | apply Kd.S_drew)); exact Kd.S_mono HO_236000.out (fun k_ hk => ⟨trivial, Nat.not_le.2 hk.1⟩))); (case aS => exact (below_size bl_)); (case aL => have := LMc21.out; omega); intro v245 w42 ho hb hg hat; rw [← Ny244.out] at ho; have n0_ := am_ (bg_ BK233 hg (Kd.S_ne HO_236000.out BK233.out (by decide))); have n1_ := am_ (bg_ BK234 hg (Kd.S_ne HO_236000.out BK234.out (by decide))); have n2_ := am_ (bg_ BK235 hg (Kd.S_ne HO_236000.out BK235.out (by decide))); have n3_ := am_ (bg_ BK243 hg (Kd.S_ne HO_236000.out BK243.out (by decide))); have n4_ := am_ (hb); have n5_ := am_ (ho); clear BK233; clear BK234; clear BK235; clear BK243; clear HB; clear HO_236000; clear HO239; have BK233 := n0_; have BK234 := n1_; have BK235 := n2_; have BK243 := n3_; have HB := n4_; have HO246 := n5_; clear n0_ n1_ n2_ n3_ n4_ n5_; clear ho hb hg hat; obtain ⟨Ao43, co43, eo43⟩ := Kd.S_slice HO246.out; subst eo43; obtain ⟨hcz44_0, hcz44_1, hcz44_2, hcz44_3, hfz44_0, hfz44_1, hfz44_2, hfz44_3⟩ := cellsF4 BK235.out; obtain ⟨hcz45_0, hcz45_1, hcz45_2, hcz45_3, hcz45_4, hfz45_0, hfz45_1, hfz45_2, hfz45_3, hfz45_4⟩ := cellsF5 BK243.out))
   go_roundg k1
   case measure => have := HK1.out; omega
   case rel => exact ⟨(wrap64 (x6_1 + t240)), (x235001_1), (x235002_1), (x235003_1), (y244), (.slice Ao43 y244.length co43), er_, H', ⟨by have := HK1.out; omega⟩, ⟨by (with_reducible repeat (first | apply Kd.S_alloc | apply Kd.S_drewN | apply Kd.S_drew)); exact Kd.S_mono (Kd.S_far (p := ⟨gb235, 0, none⟩) (Kd.S_types HO246.out BK235.out (by decide)) (fun _ hk => hk.2) (.slice Ao43 y244.length co43)) (fun _ hk => trivial)⟩, ⟨bf_ BK233⟩, ⟨bf_ BK234⟩, ⟨bq_ BK235⟩, ⟨bl_⟩⟩
/-! ### F50: function 50 -/
def F50.f (k : Nat) (a0_0 : Int) (a0_1 : Int) (a0_2 : Int) (a0_3 : Int) (a1 : ByteArray) : Option ((List (S59)) × Int × Int × Int) := if (a1.size : Int) > 20000 then (some (([] : List (S59)), 0, 0, 2)) else ((F23.f k a0_0 a0_1 a0_2 a0_3).bind fun t249 => (if t249 = true then ((F94.f k a0_0 a0_1 a0_2 a0_3 a1).bind fun bt250 => (some (bt250.1, bt250.2.1, bt250.2.2.1, bt250.2.2.2))) else (some (([] : List (S59)), 0, 0, 1))))
theorem F50.mono : ∀ a0 a1 a2 a3 a4 k, LeO (F50.f k a0 a1 a2 a3 a4) (F50.f (k + 1) a0 a1 a2 a3 a4) := by
 intro a0 a1 a2 a3 a4 k
 unfold F50.f
 repeat' with_reducible first | exact F23.mono _ _ _ _ _ | exact F94.mono _ _ _ _ _ _ | exact LeO.refl _ | exact LeO.none _ | refine LeO.ite ?_ ?_ | refine LeO.bind ?_ (fun _ => ?_)
theorem F50.calls (k : Nat) (a0_0 : Int) (a0_1 : Int) (a0_2 : Int) (a0_3 : Int) (a1 : ByteArray) (r1 : List (S59)) (r2 : Int) (r3 : Int) (r4 : Int) (w : World) (h : F50.f k a0_0 a0_1 a0_2 a0_3 a1 = some (r1, r2, r3, r4)) :
  Calls Try.prog 50 #[.agg #[.int .i64 a0_0, .int .i64 a0_1, .int .i64 a0_2, .int .i64 a0_3], .string a1] w fun e w' => ∃ v0_ : Value, e = .returned (.agg #[v0_, .int .i64 r2, .int .i64 r3, .int .i64 r4]) ∧ Kd.S k59 59 w' w.heap.size (fun _ => True) v0_ r1 ∧ Below w.heap.size w w' := by
 have hu23 := Try.underlying23
 have hu78 := Try.underlying78
 have HB := am_ (Below.refl w.heap.size w)
 have H : (if (a1.size : Int) > 20000 then (some (([] : List (S59)), 0, 0, 2)) else ((F23.f k a0_0 a0_1 a0_2 a0_3).bind fun t249 => (if t249 = true then ((F94.f k a0_0 a0_1 a0_2 a0_3 a1).bind fun bt250 => (some (bt250.1, bt250.2.1, bt250.2.2.1, bt250.2.2.2))) else (some (([] : List (S59)), 0, 0, 1))))) = some (r1, r2, r3, r4) := h
 clear h
 replace H := it_ H; rcases H with ⟨(c3b0 : decide (20000 < (a1.size : Int)) = true), H⟩ | ⟨(c3b0 : decide (20000 < (a1.size : Int)) = false), H⟩
 ·have c3b1 : decide (20000 < a1.size) = true := n2_ c3b0
  simp only [Option.some.injEq, Prod.mk.injEq] at H
  obtain ⟨rfl, rfl, rfl, rfl⟩ := H
  go_enter Try.func50, Try.ntmps50
  go_wp2_with (first | ((with_reducible refine gate_dst (N := 2) rfl ?_); refine be_ 2 #[.int .i64 a0_0, .int .i64 a0_1, .int .i64 a0_2, .int .i64 a0_3] 23 ?_; intro gb247 hg w4 hbox hb; have BK247 := am_ (hbox); have GW247 := am_ (gw_ hg bl_); have GE247 := GW247; replace HB := hs_ w hb; clear hb hbox hg) | ((with_reducible refine gate_dst (N := 4) rfl ?_); refine be_ 4 #[.slice none 0 0, .int .i64 0, .int .i64 0, .int .i64 0] 78 ?_; intro gb248 hg w5 hbox hb; have BK248 := am_ (hbox); have GW248 := am_ (gw_ hg bl_); have GE248 := GW248; replace HB := hs_ w hb; have NB247_248 := am_ (gn_ hg (blkl_ BK247)); have NB248_247 := am_ (gm_ hg (blkl_ BK247)); replace BK247 := bb_ BK247 hb; clear hb hbox hg; have hnb6 := NB248_247.out; have hnc6 := NB247_248.out; obtain ⟨hcz7_0, hcz7_1, hcz7_2, hcz7_3, hfz7_0, hfz7_1, hfz7_2, hfz7_3⟩ := cellsF4 BK248.out))
  refine bodyPost_ret (results_cell_row rfl _ _ gb248 78 #[.slice none 0 0, .int .i64 0, .int .i64 0, .int .i64 2] (0, 0) _ rfl (bq_ BK248) Try.underlying78 rfl (by kernel_rfl)) rfl ?_
  exact ⟨_, au3_0, au3_2, bl_⟩
 have c3b1 : decide (20000 < a1.size) = false := n2_ c3b0
 replace H := bi_ H; rcases H with ⟨t249, A8, H⟩
 replace H := ib_ H; rcases H with ⟨rfl, H⟩ | ⟨rfl, H⟩
 rotate_left
 ·simp only [Option.some.injEq, Prod.mk.injEq] at H
  obtain ⟨rfl, rfl, rfl, rfl⟩ := H
  go_enter Try.func50, Try.ntmps50
  go_wp2_with (first | ((with_reducible refine gate_dst (N := 2) rfl ?_); refine be_ 2 #[.int .i64 a0_0, .int .i64 a0_1, .int .i64 a0_2, .int .i64 a0_3] 23 ?_; intro gb247 hg w20 hbox hb; have BK247 := am_ (hbox); have GW247 := am_ (gw_ hg bl_); have GE247 := GW247; replace HB := hs_ w hb; clear hb hbox hg) | ((with_reducible refine gate_dst (N := 4) rfl ?_); refine be_ 4 #[.slice none 0 0, .int .i64 0, .int .i64 0, .int .i64 0] 78 ?_; intro gb248 hg w21 hbox hb; have BK248 := am_ (hbox); have GW248 := am_ (gw_ hg bl_); have GE248 := GW248; replace HB := hs_ w hb; have NB247_248 := am_ (gn_ hg (blkl_ BK247)); have NB248_247 := am_ (gm_ hg (blkl_ BK247)); replace BK247 := bb_ BK247 hb; clear hb hbox hg; have hnb22 := NB247_248.out; have hnc22 := NB248_247.out; obtain ⟨hcz23_0, hcz23_1, hcz23_2, hcz23_3, hfz23_0, hfz23_1, hfz23_2, hfz23_3⟩ := cellsF4 BK247.out) | ((with_reducible refine gate_callee (f := 23) rfl ?_); refine gl_ 10 Try.func23 #[.agg #[.int .i64 a0_0, .int .i64 a0_1, .int .i64 a0_2, .int .i64 a0_3]] ?_ rfl rfl rfl rfl; (with_reducible refine (F23.calls k a0_0 a0_1 a0_2 a0_3 false _ A8.out).mono ?_); rintro e w24 ⟨rfl, hb⟩; refine ⟨_, rfl, ?_⟩; replace BK247 := bb_ BK247 hb; replace BK248 := bb_ BK248 hb; replace HB := hs_ w hb; (try clear hb); obtain ⟨hcz25_0, hcz25_1, hcz25_2, hcz25_3, hfz25_0, hfz25_1, hfz25_2, hfz25_3⟩ := cellsF4 BK248.out))
  refine bodyPost_ret (results_cell_row rfl _ _ gb248 78 #[.slice none 0 0, .int .i64 0, .int .i64 0, .int .i64 1] (0, 0) _ rfl (bq_ BK248) Try.underlying78 rfl (by kernel_rfl)) rfl ?_
  exact ⟨_, au3_0, au3_2, bl_⟩

 replace H := bi_ H; rcases H with ⟨⟨t250, t253, t254, t255⟩, A10, H⟩
 simp only [Option.some.injEq, Prod.mk.injEq] at H
 obtain ⟨rfl, rfl, rfl, rfl⟩ := H
 go_enter Try.func50, Try.ntmps50
 go_wp2_with (first | ((with_reducible refine gate_dst (N := 2) rfl ?_); refine be_ 2 #[.int .i64 a0_0, .int .i64 a0_1, .int .i64 a0_2, .int .i64 a0_3] 23 ?_; intro gb247 hg w11 hbox hb; have BK247 := am_ (hbox); have GW247 := am_ (gw_ hg bl_); have GE247 := GW247; replace HB := hs_ w hb; clear hb hbox hg) | ((with_reducible refine gate_dst (N := 4) rfl ?_); refine be_ 4 #[.slice none 0 0, .int .i64 0, .int .i64 0, .int .i64 0] 78 ?_; intro gb248 hg w12 hbox hb; have BK248 := am_ (hbox); have GW248 := am_ (gw_ hg bl_); have GE248 := GW248; replace HB := hs_ w hb; have NB247_248 := am_ (gn_ hg (blkl_ BK247)); have NB248_247 := am_ (gm_ hg (blkl_ BK247)); replace BK247 := bb_ BK247 hb; clear hb hbox hg; have hnb13 := NB247_248.out; have hnc13 := NB248_247.out; obtain ⟨hcz14_0, hcz14_1, hcz14_2, hcz14_3, hfz14_0, hfz14_1, hfz14_2, hfz14_3⟩ := cellsF4 BK247.out) | ((with_reducible refine gate_callee (f := 23) rfl ?_); refine gl_ 10 Try.func23 #[.agg #[.int .i64 a0_0, .int .i64 a0_1, .int .i64 a0_2, .int .i64 a0_3]] ?_ rfl rfl rfl rfl; (with_reducible refine (F23.calls k a0_0 a0_1 a0_2 a0_3 true _ A8.out).mono ?_); rintro e w15 ⟨rfl, hb⟩; refine ⟨_, rfl, ?_⟩; replace BK247 := bb_ BK247 hb; replace BK248 := bb_ BK248 hb; replace HB := hs_ w hb; (try clear hb); obtain ⟨hcz16_0, hcz16_1, hcz16_2, hcz16_3, hfz16_0, hfz16_1, hfz16_2, hfz16_3⟩ := cellsF4 BK247.out) | ((with_reducible refine gate_callee (f := 94) rfl ?_); refine gl_ 15 Try.func94 #[.agg #[.int .i64 a0_0, .int .i64 a0_1, .int .i64 a0_2, .int .i64 a0_3], .string a1] ?_ rfl rfl rfl rfl; (with_reducible refine (F94.calls k a0_0 a0_1 a0_2 a0_3 a1 t250 t253 t254 t255 _ A10.out).mono ?_); rintro e w17 ⟨v251, rfl, ho0, hb⟩; refine ⟨_, rfl, ?_⟩; have HO252 := am_ (Kd.S_lower ho0 (below_size bl_)); replace BK247 := bb_ BK247 hb; replace BK248 := bb_ BK248 hb; replace HB := hs_ w hb; (try clear hb); (try clear ho0); obtain ⟨Ao18, co18, eo18⟩ := Kd.S_slice HO252.out; subst eo18; obtain ⟨hcz19_0, hcz19_1, hcz19_2, hcz19_3, hfz19_0, hfz19_1, hfz19_2, hfz19_3⟩ := cellsF4 BK248.out))
 refine bodyPost_ret (results_cell_row rfl _ _ gb248 78 #[.slice Ao18 t250.length co18, .int .i64 t253, .int .i64 t254, .int .i64 t255] (0, 0) _ rfl (bq_ BK248) Try.underlying78 rfl (by kernel_rfl)) rfl ?_
 exact ⟨_, au3_0, by (with_reducible repeat (first | apply Kd.S_alloc | apply Kd.S_drewN | apply Kd.S_drew)); exact Kd.S_mono (Kd.S_far (p := ⟨gb248, 3, none⟩) (Kd.S_far (p := ⟨gb248, 2, none⟩) (Kd.S_far (p := ⟨gb248, 1, none⟩) (Kd.S_far (p := ⟨gb248, 0, none⟩) (Kd.S_types HO252.out BK248.out (by decide)) (fun _ hk => hk.2) (.slice Ao18 t250.length co18)) (fun _ hk => hk.2) (.int .i64 t253)) (fun _ hk => hk.2) (.int .i64 t254)) (fun _ hk => hk.2) (.int .i64 t255)) (fun _ hk => trivial), bl_⟩
/-! ### F100: function 100 -/
def F100.f (a0 : ByteArray) : Option (Bool) := some (decide ((a0.size : Int) > 20000))
theorem F100.calls (a0 : ByteArray) (r : Bool) (w : World) (h : F100.f a0 = some r) :
  Calls Try.prog 100 #[.string a0] w fun e w' => e = .returned (.bool r) ∧ Drawn0 w w' := by
 have H : (some (decide ((a0.size : Int) > 20000))) = some r := h
 clear h
 obtain rfl := Option.some.inj H
 go_enter Try.func100, Try.ntmps100
 go_wp2
 go_ret
 exact ⟨er_, dn_⟩

/-! ### F111: function 111 -/
def F111.l0 : Nat → List ByteArray → Int → Int → Option (Int)
  | 0, _, _, _ => none
  | k + 1, x0, x7, x8 => if x8 < x7 then (if 0 ≤ x8 then (if x8 < (x0.length : Int) then ((F100.f (rdOf ByteArray.empty x0 x8)).bind fun t257 => (if t257 = true then (some x8) else (F111.l0 k x0 x7 (wrap64 (x8 + 1))))) else (none)) else (none)) else (some (-1))
def F111.f (k : Nat) (l0 : List ByteArray)  : Option (Int) := F111.l0 k l0 (l0.length : Int) 0
theorem F111.mono_l : ∀ k, (∀ y0 y1 y2, LeO (F111.l0 k y0 y1 y2) (F111.l0 (k + 1) y0 y1 y2))
 | 0 => fun _ _ _ r h => by simp [F111.l0] at h
 | k + 1 => by
  have ih0 := F111.mono_l k
  intro y0 y1 y2
  unfold F111.l0
  repeat' with_reducible first | exact ih0 _ _ _ | exact LeO.refl _ | exact LeO.none _ | refine LeO.ite ?_ ?_ | refine LeO.bind ?_ (fun _ => ?_)
theorem F111.mono : ∀ a0 k, LeO (F111.f k a0) (F111.f (k + 1) a0) := by
 intro a0 k
 have ih0 := F111.mono_l k
 unfold F111.f
 repeat' with_reducible first | exact ih0 _ _ _ | exact LeO.refl _ | exact LeO.none _ | refine LeO.ite ?_ ?_ | refine LeO.bind ?_ (fun _ => ?_)
theorem F111.calls (k : Nat) (A0 : Option Addr) (c0 : Nat) (l0 : List ByteArray)  (r : Int) (w : World) (hr0 : Kd.C Kd.string w A0 l0.length l0) (hc0 : l0.length ≤ c0) (h : F111.f k l0 = some r) :
  Calls Try.prog 111 #[.slice A0 l0.length c0, .func (.func 100) #[] #[]] w fun e w' => e = .returned (.int .i64 r) ∧ Drawn0 w w' := by
 have HR0 := am_ hr0
 have HC0 := am_ hc0
 clear hr0 hc0
 have H : (F111.l0 k l0 (l0.length : Int) 0) = some r := h
 clear h
 have H' := am_ H
 clear H
 go_enter Try.func111, Try.ntmps111
 go_wp2
 go_loopg [8] k (fun kq v8 w' => ∃ (x8_1 : Int), v8 = .int .i64 x8_1 ∧ Aside0 (F111.l0 kq l0 (l0.length : Int) x8_1 = some r) ∧ Aside0 (kq ≤ k) ∧ Drawn0 w w')
 case atStart => exact ⟨(0), er_, H', ⟨Nat.le_refl _⟩, dn_⟩
 case round =>
  clear H'
  obtain ⟨x8_1, rfl, HA, HK1, ⟨m1, rfl⟩⟩ := hrel
  cases gk with
  | zero => exact absurd HA.out (by simp [F111.l0])
  | succ k1 =>
   have H := HA.out
   clear HA
   simp only [F111.l0] at H
   replace H := it_ H; rcases H with ⟨c3b0, H⟩ | ⟨c3b0, H⟩
   rotate_left
   ·obtain rfl := Option.some.inj H
    go_wp2
    go_ret
    exact ⟨er_, dn_⟩

   replace H := itn_ H; rcases H with ⟨c4b0, H⟩
   replace H := itn_ H; rcases H with ⟨c5b0, H⟩
   replace H := bi_ H; rcases H with ⟨t257, A6, H⟩
   replace H := ib_ H; rcases H with ⟨rfl, H⟩ | ⟨rfl, H⟩
   ·obtain rfl := Option.some.inj H
    have p256 : 0 ≤ (x8_1 : Int) := od_
    have q256 : x8_1 < (l0.length : Int) := od_
    obtain ⟨ad256, e256, hx256_0⟩ := Kd.at_string HR0.out x8_1 p256 q256
    cases e256
    replace p256 := eq_true p256
    replace q256 := eq_true q256
    go_wp2_with (first | (go_at_call 100; (with_reducible refine (F100.calls (rdOf ByteArray.empty l0 x8_1) true _ A6.out).mono ?_); rintro e w' ⟨rfl, ⟨nd, rfl⟩⟩))
    go_ret
    exact ⟨er_, dn_⟩
   have H' := am_ H
   clear H
   have p256 : 0 ≤ (x8_1 : Int) := od_
   have q256 : x8_1 < (l0.length : Int) := od_
   obtain ⟨ad256, e256, hx256_0⟩ := Kd.at_string HR0.out x8_1 p256 q256
   cases e256
   replace p256 := eq_true p256
   replace q256 := eq_true q256
   go_wp2_with (first | (go_at_call 100; (with_reducible refine (F100.calls (rdOf ByteArray.empty l0 x8_1) false _ A6.out).mono ?_); rintro e w' ⟨rfl, ⟨nd, rfl⟩⟩))
   go_roundg k1
   case measure => have := HK1.out; omega
   case rel => exact ⟨(wrap64 (x8_1 + 1)), er_, H', ⟨by have := HK1.out; omega⟩, dn_⟩
/-! ### F80: function 80 -/
def F80.f (k : Nat) (l0 : List ByteArray)  : Option (Bool) := (F111.f k l0).bind fun t258 => (some (decide (t258 ≥ 0)))
theorem F80.mono : ∀ a0 k, LeO (F80.f k a0) (F80.f (k + 1) a0) := by
 intro a0 k
 unfold F80.f
 repeat' with_reducible first | exact F111.mono _ _ | exact LeO.refl _ | exact LeO.none _ | refine LeO.ite ?_ ?_ | refine LeO.bind ?_ (fun _ => ?_)
theorem F80.calls (k : Nat) (A0 : Option Addr) (c0 : Nat) (l0 : List ByteArray)  (r : Bool) (w : World) (hr0 : Kd.C Kd.string w A0 l0.length l0) (hc0 : l0.length ≤ c0) (h : F80.f k l0 = some r) :
  Calls Try.prog 80 #[.slice A0 l0.length c0, .func (.func 100) #[] #[]] w fun e w' => e = .returned (.bool r) ∧ Drawn0 w w' := by
 have HR0 := am_ hr0
 have HC0 := am_ hc0
 clear hr0 hc0
 have H : ((F111.f k l0).bind fun t258 => (some (decide (t258 ≥ 0)))) = some r := h
 clear h
 replace H := bi_ H; rcases H with ⟨t258, A3, H⟩
 obtain rfl := Option.some.inj H
 go_enter Try.func80, Try.ntmps80
 go_wp2_with (first | ((with_reducible refine gate_callee (f := 111) rfl ?_); refine gl_ 7 Try.func111 #[.slice A0 l0.length c0, .func (.func 100) #[] #[]] ?_ rfl rfl rfl rfl; (with_reducible refine (F111.calls k _ _ l0  t258 _ ?s1 ?s2 A3.out).mono ?_); (case s1 => exact au3_4); (case s2 => exact HC0.out); rintro e w' ⟨rfl, ⟨nd, rfl⟩⟩; refine ⟨_, rfl, ?_⟩))
 go_ret
 exact ⟨er_, dn_⟩

/-! ### F58: function 58 -/
def F58.f (k : Nat) (l0 : List ByteArray) : Option (Bool) := (F80.f k l0).bind fun t259 => (some t259)
theorem F58.mono : ∀ a0 k, LeO (F58.f k a0) (F58.f (k + 1) a0) := by
 intro a0 k
 unfold F58.f
 repeat' with_reducible first | exact F80.mono _ _ | exact LeO.refl _ | exact LeO.none _ | refine LeO.ite ?_ ?_ | refine LeO.bind ?_ (fun _ => ?_)
theorem F58.calls (k : Nat) (A0 : Option Addr) (c0 : Nat) (l0 : List ByteArray) (r : Bool) (w : World) (hr0 : Kd.C Kd.string w A0 l0.length l0) (hc0 : l0.length ≤ c0) (h : F58.f k l0 = some r) :
  Calls Try.prog 58 #[.slice A0 l0.length c0] w fun e w' => e = .returned (.bool r) ∧ Drawn0 w w' := by
 have HR0 := am_ hr0
 have HC0 := am_ hc0
 clear hr0 hc0
 have H : ((F80.f k l0).bind fun t259 => (some t259)) = some r := h
 clear h
 replace H := bi_ H; rcases H with ⟨t259, A2, H⟩
 obtain rfl := Option.some.inj H
 go_enter Try.func58, Try.ntmps58
 go_wp2_with (first | ((with_reducible refine gate_callee (f := 80) rfl ?_); refine gl_ 4 Try.func80 #[.slice A0 l0.length c0, .func (.func 100) #[] #[]] ?_ rfl rfl rfl rfl; (with_reducible refine (F80.calls k _ _ l0  t259 _ ?s1 ?s2 A2.out).mono ?_); (case s1 => exact au3_4); (case s2 => exact HC0.out); rintro e w' ⟨rfl, ⟨nd, rfl⟩⟩; refine ⟨_, rfl, ?_⟩))
 go_ret
 exact ⟨er_, dn_⟩

/-! ### F79: function 79 -/
def F79.f (a0 : Int) (a1 : Int) (a2 : Int) : Option (Bool) := if a1 ≤ a0 then (some (decide (a0 ≤ a2))) else (some false)
theorem F79.calls (a0 : Int) (a1 : Int) (a2 : Int) (r : Bool) (w : World) (h : F79.f a0 a1 a2 = some r) :
  Calls Try.prog 79 #[.int .i64 a0, .int .i64 a1, .int .i64 a2] w fun e w' => e = .returned (.bool r) ∧ Drawn0 w w' := by
 have H : (if a1 ≤ a0 then (some (decide (a0 ≤ a2))) else (some false)) = some r := h
 clear h
 replace H := it_ H; rcases H with ⟨c4b0, H⟩ | ⟨c4b0, H⟩
 ·obtain rfl := Option.some.inj H
  go_enter Try.func79, Try.ntmps79
  go_wp2
  go_ret
  exact ⟨er_, dn_⟩
 obtain rfl := Option.some.inj H
 go_enter Try.func79, Try.ntmps79
 go_wp2
 go_ret
 exact ⟨er_, dn_⟩

/-! ### F102: function 102 -/
def F102.f (a0_0 : Int) (a0_1 : Int) (a0_2 : Int) (a0_3 : Int) : Option (List Int) := some (([a0_0, a0_1, a0_2, a0_3] : List Int))
theorem F102.calls (a0_0 : Int) (a0_1 : Int) (a0_2 : Int) (a0_3 : Int) (r : List Int) (w : World) (h : F102.f a0_0 a0_1 a0_2 a0_3 = some r) :
  Calls Try.prog 102 #[.agg #[.int .i64 a0_0, .int .i64 a0_1, .int .i64 a0_2, .int .i64 a0_3]] w fun e w' => ∃ v0_ : Value, e = .returned (v0_) ∧ Kd.R (Kd.int .i64) 2 w' w.heap.size (fun _ => True) v0_ r ∧ Below w.heap.size w w' := by
 have hu23 := Try.underlying23
 have HB := am_ (Below.refl w.heap.size w)
 have H : (some (([a0_0, a0_1, a0_2, a0_3] : List Int))) = some r := h
 clear h
 obtain ⟨y261, hy261⟩ : ∃ y_ : List Int, y_ = (([a0_0, a0_1, a0_2, a0_3] : List Int)) := ⟨_, rfl⟩
 replace H : (some y261) = some r := by first | (rw [hy261]; exact H) | exact H
 have Ny261 := am_ hy261
 clear hy261
 obtain rfl := Option.some.inj H
 go_enter Try.func102, Try.ntmps102
 go_wp2_with (first | ((with_reducible refine gate_dst (N := 1) rfl ?_); refine be_ 1 #[.int .i64 a0_0, .int .i64 a0_1, .int .i64 a0_2, .int .i64 a0_3] 23 ?_; intro gb260 hg w2 hbox hb; have BK260 := am_ (hbox); have GW260 := am_ (gw_ hg bl_); have GE260 := GW260; replace HB := hs_ w hb; clear hb hbox hg; obtain ⟨hcz3_0, hcz3_1, hcz3_2, hcz3_3, hfz3_0, hfz3_1, hfz3_2, hfz3_3⟩ := cellsF4 BK260.out) | ((with_reducible refine gate_dst (N := 11) rfl ?_); refine Kd.R_lit (Kd.int .i64) _ 2 ?hg (N := 11) ?hd (xs := ([a0_0, a0_1, a0_2, a0_3] : List Int)) (inner := [.int .i64 a0_0, .int .i64 a0_1, .int .i64 a0_2, .int .i64 a0_3]) (ok := fun _ => True) (okp := fun _ => True) ?hr ?hp (fun _ hk => hk) trivial (Below.refl _ _) (Nat.le_refl _) (by simp) ?_; (case hd => rfl); (case hg => rfl); (case hr => exact hr_); (case hp => exact (Reps.one (show Kd.M (Kd.int .i64) _ _ _ a0_0 [.int .i64 a0_0] from rfl) (Reps.one (show Kd.M (Kd.int .i64) _ _ _ a0_1 [.int .i64 a0_1] from rfl) (Reps.one (show Kd.M (Kd.int .i64) _ _ _ a0_2 [.int .i64 a0_2] from rfl) (Reps.one (show Kd.M (Kd.int .i64) _ _ _ a0_3 [.int .i64 a0_3] from rfl) (Reps.none _ _)))))); intro v262 w4 ho5 hb hg_ hnew_; clear hg_ hnew_; (first | rw [← Ny261.out] at ho5 | (simp only [Int.reduceToNat] at ho5; rw [← Ny261.out] at ho5)); have HO263 := am_ (Kd.R_lower ho5 (below_size bl_)); replace BK260 := bb_ BK260 hb; replace HB := hs_ w hb; clear hb ho5))
 go_ret
 exact ⟨_, au3_0, rk_ HO263, bl_⟩

/-! ### F120: function 120 -/
def F120.l0 : Nat → List Int → Int → Int → Int → Option (Int)
  | 0, _, _, _, _ => none
  | k + 1, x0, x1, x7, x8 => if x8 < x7 then (if 0 ≤ x8 then (if x8 < (x0.length : Int) then (if x1 = (rd x0 x8) then (some x8) else (F120.l0 k x0 x1 x7 (wrap64 (x8 + 1)))) else (none)) else (none)) else (some (-1))
def F120.f (k : Nat) (l0 : List Int) (a1 : Int) : Option (Int) := F120.l0 k l0 a1 (l0.length : Int) 0
theorem F120.mono_l : ∀ k, (∀ y0 y1 y2 y3, LeO (F120.l0 k y0 y1 y2 y3) (F120.l0 (k + 1) y0 y1 y2 y3))
 | 0 => fun _ _ _ _ r h => by simp [F120.l0] at h
 | k + 1 => by
  have ih0 := F120.mono_l k
  intro y0 y1 y2 y3
  unfold F120.l0
  repeat' with_reducible first | exact ih0 _ _ _ _ | exact LeO.refl _ | exact LeO.none _ | refine LeO.ite ?_ ?_ | refine LeO.bind ?_ (fun _ => ?_)
theorem F120.mono : ∀ a0 a1 k, LeO (F120.f k a0 a1) (F120.f (k + 1) a0 a1) := by
 intro a0 a1 k
 have ih0 := F120.mono_l k
 unfold F120.f
 repeat' with_reducible first | exact ih0 _ _ _ _ | exact LeO.refl _ | exact LeO.none _ | refine LeO.ite ?_ ?_ | refine LeO.bind ?_ (fun _ => ?_)
theorem F120.calls (k : Nat) (A0 : Option Addr) (c0 : Nat) (l0 : List Int) (a1 : Int) (r : Int) (w : World) (hr0 : Kd.C (Kd.int .i64) w A0 l0.length l0) (hc0 : l0.length ≤ c0) (h : F120.f k l0 a1 = some r) :
  Calls Try.prog 120 #[.slice A0 l0.length c0, .int .i64 a1] w fun e w' => e = .returned (.int .i64 r) ∧ Drawn0 w w' := by
 have HR0 := am_ hr0
 have HC0 := am_ hc0
 clear hr0 hc0
 have H : (F120.l0 k l0 a1 (l0.length : Int) 0) = some r := h
 clear h
 have H' := am_ H
 clear H
 go_enter Try.func120, Try.ntmps120
 go_wp2
 go_loopg [8] k (fun kq v8 w' => ∃ (x8_1 : Int), v8 = .int .i64 x8_1 ∧ Aside0 (F120.l0 kq l0 a1 (l0.length : Int) x8_1 = some r) ∧ Aside0 (kq ≤ k) ∧ Drawn0 w w')
 case atStart => exact ⟨(0), er_, H', ⟨Nat.le_refl _⟩, dn_⟩
 case round =>
  clear H'
  obtain ⟨x8_1, rfl, HA, HK1, ⟨m1, rfl⟩⟩ := hrel
  cases gk with
  | zero => exact absurd HA.out (by simp [F120.l0])
  | succ k1 =>
   have H := HA.out
   clear HA
   simp only [F120.l0] at H
   replace H := it_ H; rcases H with ⟨c3b0, H⟩ | ⟨c3b0, H⟩
   rotate_left
   ·obtain rfl := Option.some.inj H
    go_wp2
    go_ret
    exact ⟨er_, dn_⟩

   replace H := itn_ H; rcases H with ⟨c4b0, H⟩
   replace H := itn_ H; rcases H with ⟨c5b0, H⟩
   by_cases c6 : a1 = (rd l0 x8_1)
   ·rw [if_pos c6] at H
    have c6b0 : (a1 == (rd l0 x8_1)) = true := beq_iff_eq.mpr c6
    have c6b1 : (a1 != (rd l0 x8_1)) = false := bne_eq_false_iff_eq.mpr c6
    clear c6
    obtain rfl := Option.some.inj H
    have p264 : 0 ≤ (x8_1 : Int) := od_
    have q264 : x8_1 < (l0.length : Int) := od_
    obtain ⟨ad264, e264, hx264_0⟩ := Kd.at_int HR0.out x8_1 p264 q264
    cases e264
    replace p264 := eq_true p264
    replace q264 := eq_true q264
    go_wp2
    go_ret
    exact ⟨er_, dn_⟩
   rw [if_neg c6] at H
   have c6b0 : (a1 == (rd l0 x8_1)) = false := beq_eq_false_iff_ne.mpr c6
   have c6b1 : (a1 != (rd l0 x8_1)) = true := bne_iff_ne.mpr c6
   have H' := am_ H
   clear H
   have p264 : 0 ≤ (x8_1 : Int) := od_
   have q264 : x8_1 < (l0.length : Int) := od_
   obtain ⟨ad264, e264, hx264_0⟩ := Kd.at_int HR0.out x8_1 p264 q264
   cases e264
   replace p264 := eq_true p264
   replace q264 := eq_true q264
   go_wp2
   go_roundg k1
   case measure => have := HK1.out; omega
   case rel => exact ⟨(wrap64 (x8_1 + 1)), er_, H', ⟨by have := HK1.out; omega⟩, dn_⟩
/-! ### F103: function 103 -/
def F103.f (k : Nat) (l0 : List Int) (a1 : Int) : Option (Bool) := (F120.f k l0 a1).bind fun t265 => (some (decide (t265 ≥ 0)))
theorem F103.mono : ∀ a0 a1 k, LeO (F103.f k a0 a1) (F103.f (k + 1) a0 a1) := by
 intro a0 a1 k
 unfold F103.f
 repeat' with_reducible first | exact F120.mono _ _ _ | exact LeO.refl _ | exact LeO.none _ | refine LeO.ite ?_ ?_ | refine LeO.bind ?_ (fun _ => ?_)
theorem F103.calls (k : Nat) (A0 : Option Addr) (c0 : Nat) (l0 : List Int) (a1 : Int) (r : Bool) (w : World) (hr0 : Kd.C (Kd.int .i64) w A0 l0.length l0) (hc0 : l0.length ≤ c0) (h : F103.f k l0 a1 = some r) :
  Calls Try.prog 103 #[.slice A0 l0.length c0, .int .i64 a1] w fun e w' => e = .returned (.bool r) ∧ Drawn0 w w' := by
 have HR0 := am_ hr0
 have HC0 := am_ hc0
 clear hr0 hc0
 have H : ((F120.f k l0 a1).bind fun t265 => (some (decide (t265 ≥ 0)))) = some r := h
 clear h
 replace H := bi_ H; rcases H with ⟨t265, A3, H⟩
 obtain rfl := Option.some.inj H
 go_enter Try.func103, Try.ntmps103
 go_wp2_with (first | ((with_reducible refine gate_callee (f := 120) rfl ?_); refine gl_ 7 Try.func120 #[.slice A0 l0.length c0, .int .i64 a1] ?_ rfl rfl rfl rfl; (with_reducible refine (F120.calls k _ _ l0 a1 t265 _ ?s1 ?s2 A3.out).mono ?_); (case s1 => exact au3_4); (case s2 => exact HC0.out); rintro e w' ⟨rfl, ⟨nd, rfl⟩⟩; refine ⟨_, rfl, ?_⟩))
 go_ret
 exact ⟨er_, dn_⟩

/-! ### F104: function 104 -/
def F104.f (a0 : Int) : Option (Bool) := if a0 ≥ 65 then (some (decide (a0 ≤ 90))) else (some false)
theorem F104.calls (a0 : Int) (r : Bool) (w : World) (h : F104.f a0 = some r) :
  Calls Try.prog 104 #[.int .u8 a0] w fun e w' => e = .returned (.bool r) ∧ Drawn0 w w' := by
 have H : (if a0 ≥ 65 then (some (decide (a0 ≤ 90))) else (some false)) = some r := h
 clear h
 replace H := it_ H; rcases H with ⟨(c2b0 : decide (65 ≤ a0) = true), H⟩ | ⟨(c2b0 : decide (65 ≤ a0) = false), H⟩
 ·obtain rfl := Option.some.inj H
  go_enter Try.func104, Try.ntmps104
  go_wp2
  go_ret
  exact ⟨er_, dn_⟩
 obtain rfl := Option.some.inj H
 go_enter Try.func104, Try.ntmps104
 go_wp2
 go_ret
 exact ⟨er_, dn_⟩

/-! ### F105: function 105 -/
def F105.f (a0 : Int) : Option (Bool) := if a0 ≥ 48 then (some (decide (a0 ≤ 57))) else (some false)
theorem F105.calls (a0 : Int) (r : Bool) (w : World) (h : F105.f a0 = some r) :
  Calls Try.prog 105 #[.int .u8 a0] w fun e w' => e = .returned (.bool r) ∧ Drawn0 w w' := by
 have H : (if a0 ≥ 48 then (some (decide (a0 ≤ 57))) else (some false)) = some r := h
 clear h
 replace H := it_ H; rcases H with ⟨(c2b0 : decide (48 ≤ a0) = true), H⟩ | ⟨(c2b0 : decide (48 ≤ a0) = false), H⟩
 ·obtain rfl := Option.some.inj H
  go_enter Try.func105, Try.ntmps105
  go_wp2
  go_ret
  exact ⟨er_, dn_⟩
 obtain rfl := Option.some.inj H
 go_enter Try.func105, Try.ntmps105
 go_wp2
 go_ret
 exact ⟨er_, dn_⟩

/-! ### F60: function 60 -/
mutual
def F60.l0 : Nat → List Int → List Int → Int → Int → Option (Bool)
  | 0, _, _, _, _ => none
  | k + 1, x3, x9, x10, x11 => if x11 < x10 then (if 0 ≤ x11 then (if x11 < (x9.length : Int) then ((F79.f (rd x9 x11) 33 126).bind fun t271 => (if t271 = true then (if x11 ≤ (x3.length : Int) then ((F103.f k (x3.take (x11 : Int).toNat) (rd x9 x11)).bind fun t276 => (F60.j1 k x3 (rd x9 x11) x9 x10 x11 t276)) else (none)) else (F60.j1 k x3 (rd x9 x11) x9 x10 x11 true))) else (none)) else (none)) else (some true)
def F60.j1 : Nat → List Int → Int → List Int → Int → Int → Bool → Option (Bool)
  | 0, _, _, _, _, _, _ => none
  | k + 1, x3, x5, x9, x10, x11, x25 => if x25 = true then (some false) else ((F104.f ((x5) % 256)).bind fun t277 => (if t277 = true then (some false) else (if ((x5) % 256) ≥ 97 then (if ((x5) % 256) ≤ 122 then (some false) else ((F105.f ((x5) % 256)).bind fun t278 => (if t278 = true then (some false) else (if ((x5) % 256) = 45 then (some false) else (F60.l0 k x3 x9 x10 (wrap64 (x11 + 1))))))) else ((F105.f ((x5) % 256)).bind fun t279 => (if t279 = true then (some false) else (if ((x5) % 256) = 45 then (some false) else (F60.l0 k x3 x9 x10 (wrap64 (x11 + 1)))))))))
end
def F60.f (k : Nat) (a0_0 : Int) (a0_1 : Int) (a0_2 : Int) (a0_3 : Int) : Option (Bool) := (F102.f a0_0 a0_1 a0_2 a0_3).bind fun t267 => (F60.l0 k t267 t267 (t267.length : Int) 0)
theorem F60.mono_l : ∀ k, (∀ y0 y1 y2 y3, LeO (F60.l0 k y0 y1 y2 y3) (F60.l0 (k + 1) y0 y1 y2 y3)) ∧ (∀ y0 y1 y2 y3 y4 y5, LeO (F60.j1 k y0 y1 y2 y3 y4 y5) (F60.j1 (k + 1) y0 y1 y2 y3 y4 y5))
 | 0 => ⟨fun _ _ _ _ r h => by simp [F60.l0] at h, fun _ _ _ _ _ _ r h => by simp [F60.j1] at h⟩
 | k + 1 => by
  obtain ⟨ih0, ih1⟩ := F60.mono_l k
  refine ⟨?_, ?_⟩
  rotate_left
  ·intro y0 y1 y2 y3 y4 y5
   unfold F60.j1
   repeat' with_reducible first | exact ih0 _ _ _ _ | exact ih1 _ _ _ _ _ _ | exact F103.mono _ _ _ | exact LeO.refl _ | exact LeO.none _ | refine LeO.ite ?_ ?_ | refine LeO.bind ?_ (fun _ => ?_)
  intro y0 y1 y2 y3
  unfold F60.l0
  repeat' with_reducible first | exact ih0 _ _ _ _ | exact ih1 _ _ _ _ _ _ | exact F103.mono _ _ _ | exact LeO.refl _ | exact LeO.none _ | refine LeO.ite ?_ ?_ | refine LeO.bind ?_ (fun _ => ?_)
theorem F60.mono : ∀ a0 a1 a2 a3 k, LeO (F60.f k a0 a1 a2 a3) (F60.f (k + 1) a0 a1 a2 a3) := by
 intro a0 a1 a2 a3 k
 obtain ⟨ih0, ih1⟩ := F60.mono_l k
 unfold F60.f
 repeat' with_reducible first | exact ih0 _ _ _ _ | exact ih1 _ _ _ _ _ _ | exact F103.mono _ _ _ | exact LeO.refl _ | exact LeO.none _ | refine LeO.ite ?_ ?_ | refine LeO.bind ?_ (fun _ => ?_)
theorem F60.calls (k : Nat) (a0_0 : Int) (a0_1 : Int) (a0_2 : Int) (a0_3 : Int) (r : Bool) (w : World) (h : F60.f k a0_0 a0_1 a0_2 a0_3 = some r) :
  Calls Try.prog 60 #[.agg #[.int .i64 a0_0, .int .i64 a0_1, .int .i64 a0_2, .int .i64 a0_3]] w fun e w' => e = .returned (.bool r) ∧ Below w.heap.size w w' := by
 have hu23 := Try.underlying23
 have HB := am_ (Below.refl w.heap.size w)
 have H : ((F102.f a0_0 a0_1 a0_2 a0_3).bind fun t267 => (F60.l0 k t267 t267 (t267.length : Int) 0)) = some r := h
 clear h
 replace H := bi_ H; rcases H with ⟨t267, A2, H⟩
 have H' := am_ H
 clear H
 go_enter Try.func60, Try.ntmps60
 go_wp2_with (first | ((with_reducible refine gate_dst (N := 1) rfl ?_); refine be_ 1 #[.int .i64 a0_0, .int .i64 a0_1, .int .i64 a0_2, .int .i64 a0_3] 23 ?_; intro gb266 hg w3 hbox hb; have BK266 := am_ (hbox); have GW266 := am_ (gw_ hg bl_); have GE266 := GW266; replace HB := hs_ w hb; clear hb hbox hg; obtain ⟨hcz4_0, hcz4_1, hcz4_2, hcz4_3, hfz4_0, hfz4_1, hfz4_2, hfz4_3⟩ := cellsF4 BK266.out) | ((with_reducible refine gate_callee (f := 102) rfl ?_); refine gl_ 8 Try.func102 #[.agg #[.int .i64 a0_0, .int .i64 a0_1, .int .i64 a0_2, .int .i64 a0_3]] ?_ rfl rfl rfl rfl; (with_reducible refine (F102.calls a0_0 a0_1 a0_2 a0_3 t267 _ A2.out).mono ?_); rintro e w5 ⟨v268, rfl, ho0, hb⟩; refine ⟨_, rfl, ?_⟩; have HO269 := am_ (Kd.R_lower ho0 (below_size bl_)); replace BK266 := bb_ BK266 hb; replace HB := hs_ w hb; (try clear hb); (try clear ho0); obtain ⟨Ao6, co6, eo6⟩ := Kd.R_slice HO269.out; subst eo6))
 go_loopg [11] k (fun kq v11 w' => ∃ (x11_1 : Int), v11 = .int .i64 x11_1 ∧ Aside0 (F60.l0 kq t267 t267 (t267.length : Int) x11_1 = some r) ∧ Aside0 (kq ≤ k) ∧ Aside0 (Kd.R (Kd.int .i64) 2 w' w.heap.size (fun _ => True) (.slice Ao6 t267.length co6) t267) ∧ Aside0 (Kd.R (Kd.int .i64) 2 w' w.heap.size (fun _ => True) (.slice Ao6 t267.length co6) t267) ∧ Aside0 (w'.heap[gb266]? = some (.cells #[.int .i64 a0_0, .int .i64 a0_1, .int .i64 a0_2, .int .i64 a0_3] 23 (0, 0))) ∧ Aside0 (Below w.heap.size w w'))
 case atStart => exact ⟨(0), er_, H', ⟨Nat.le_refl _⟩, ⟨rk_ HO269⟩, ⟨rk_ HO269⟩, ⟨bk_ BK266⟩, ⟨bl_⟩⟩
 case round =>
  clear H'
  try clear hcz4_0 hcz4_1 hcz4_2 hcz4_3
  try clear hfz4_0 hfz4_1 hfz4_2 hfz4_3
  obtain ⟨x11_1, rfl, HA, HK1, HO_3, HO_9, BK266, HB⟩ := hrel
  cases gk with
  | zero => exact absurd HA.out (by simp [F60.l0])
  | succ k1 =>
   have H := HA.out
   clear HA
   simp only [F60.l0] at H
   replace H := it_ H; rcases H with ⟨c7b0, H⟩ | ⟨c7b0, H⟩
   rotate_left
   ·obtain rfl := Option.some.inj H
    go_wp2
    go_ret
    exact ⟨au3_0, bl_⟩

   replace H := itn_ H; rcases H with ⟨c8b0, H⟩
   replace H := itn_ H; rcases H with ⟨c9b0, H⟩
   have HC10 := am_ H
   clear H
   have p270 : 0 ≤ (x11_1 : Int) := od_
   have q270 : x11_1 < (t267.length : Int) := od_
   obtain ⟨ad270, e270, hx270_0⟩ := Kd.at_int (Kd.R_reads' HO_9.out).2.2 x11_1 p270 q270
   cases e270
   replace p270 := eq_true p270
   replace q270 := eq_true q270
   go_upto_region 5 with (fail)
   go_cut [25] (fun v25 wc => ∃ (kq : Nat) (x25_9 : Bool), v25 = .bool x25_9 ∧ Aside0 (F60.j1 kq t267 (rd t267 x11_1) t267 (t267.length : Int) x11_1 x25_9 = some r) ∧ Aside0 (kq ≤ k1) ∧ Aside0 (Kd.R (Kd.int .i64) 2 wc w.heap.size (fun _ => True) (.slice (some ad270) t267.length co6) t267) ∧ Aside0 (Kd.R (Kd.int .i64) 2 wc w.heap.size (fun _ => True) (.slice (some ad270) t267.length co6) t267) ∧ Aside0 (wc.heap[gb266]? = some (.cells #[.int .i64 a0_0, .int .i64 a0_1, .int .i64 a0_2, .int .i64 a0_3] 23 (0, 0))) ∧ Aside0 (Below w.heap.size w wc))
   case first =>
    have H := HC10.out
    clear HC10
    replace H := bi_ H; rcases H with ⟨t271, A11, H⟩
    replace H := ib_ H; rcases H with ⟨rfl, H⟩ | ⟨rfl, H⟩
    rotate_left
    ·have H' := am_ H
     clear H
     go_wp2_with (first | ((with_reducible refine gate_callee (f := 79) rfl ?_); refine gl_ 17 Try.func79 #[.int .i64 (rd t267 x11_1), .int .i64 33, .int .i64 126] ?_ rfl rfl rfl rfl; (with_reducible refine (F79.calls (rd t267 x11_1) 33 126 false _ A11.out).mono ?_); rintro e w' ⟨rfl, ⟨nd, rfl⟩⟩; refine ⟨_, rfl, ?_⟩))
     go_meet
     case rel => exact ⟨_, (true), er_, H', ⟨by have := HK1.out; first | omega | exact Nat.le_refl _⟩, ⟨rk_ HO_3⟩, ⟨rk_ HO_9⟩, ⟨bk_ BK266⟩, ⟨bl_⟩⟩
    have c13b0 := eq_true (of_decide_eq_true as_ : 0 ≤ x11_1)
    by_cases c14 : x11_1 ≤ (t267.length : Int)
    rotate_left
    ·rw [if_neg c14] at H
     exact absurd H (by simp)
    rw [if_pos c14] at H
    have c14b0 := eq_true c14
    have c14b1 : decide (x11_1 ≤ (t267.length : Int)) = true := decide_eq_true c14
    clear c14
    obtain ⟨y272, hy272⟩ : ∃ y_ : List Int, y_ = (t267.take (x11_1 : Int).toNat) := ⟨_, rfl⟩
    replace H : ((F103.f k1 y272 (rd t267 x11_1)).bind fun t276 => (F60.j1 k1 t267 (rd t267 x11_1) t267 (t267.length : Int) x11_1 t276)) = some r := by first | (rw [hy272]; exact H) | exact H
    have Ny272 := am_ hy272
    clear hy272
    replace H := bi_ H; rcases H with ⟨t276, A15, H⟩
    have H' := am_ H
    clear H
    go_wp2_with (first | ((with_reducible refine gate_callee (f := 79) rfl ?_); refine gl_ 17 Try.func79 #[.int .i64 (rd t267 x11_1), .int .i64 33, .int .i64 126] ?_ rfl rfl rfl rfl; (with_reducible refine (F79.calls (rd t267 x11_1) 33 126 true _ A11.out).mono ?_); rintro e w' ⟨rfl, ⟨nd, rfl⟩⟩; refine ⟨_, rfl, ?_⟩; have q16 : (x11_1 : Int) ≤ ((t267.length : Int) : Int) := od_; obtain ⟨i016, hi016, _, hsz16, _⟩ := info_parts info2; have hroom16 : t267.length ≤ co6 := (Kd.R_reads' HO_3.out).2.1; have hC16 : Kd.C (Kd.int .i64) _ (some ad270) t267.length t267 := (Kd.R_reads' HO_3.out).2.2; have hcut16 := cut_to (P := Try.prog) 93 2 .i64 Try.underlying93 hi016 (some ad270) t267.length co6 x11_1 (of_decide_eq_true as_) q16 hroom16; have hr16 := Kd.C_take (m := (x11_1 : Int).toNat) hC16 (by omega); have hy16 : y272.length = (x11_1 : Int).toNat := (by rw [Ny272.out, List.length_take]; omega); rw [← Ny272.out] at hr16; rw [← hy16] at hcut16; have HR275 := am_ hr16; have HC275 := am_ (show y272.length ≤ co6 from by omega); clear hr16 hC16 hroom16 hi016 hsz16; have KY16 := am_ hy16; clear hy16; have KL16 := am_ (show (x11_1 : Int).toNat ≤ t267.length from by omega); replace q16 := eq_true q16) | (go_at_call 103; (with_reducible refine (F103.calls k1 _ _ y272 (rd t267 x11_1) t276 _ ?s1 ?s2 A15.out).mono ?_); (case s1 => repeat (first | exact (by repeat (first | (with_reducible exact HR275.out) | (with_reducible refine Kd.C_alloc ?_ _) | (with_reducible refine Kd.C_drewN ?_ _) | (with_reducible refine Kd.C_drew ?_) | exact HR275.out)) | (with_reducible refine Kd.C_alloc ?_ _) | (with_reducible refine Kd.C_drewN ?_ _) | (with_reducible refine Kd.C_drew ?_))); (case s2 => exact HC275.out); rintro e w' ⟨rfl, ⟨nd, rfl⟩⟩))
    go_meet
    case rel => exact ⟨_, (t276), er_, H', ⟨by have := HK1.out; first | omega | exact Nat.le_refl _⟩, ⟨rk_ HO_3⟩, ⟨rk_ HO_9⟩, ⟨bk_ BK266⟩, ⟨bl_⟩⟩
   case rest =>
    clear HC10
    try clear c7b0
    try clear c8b0
    try clear c9b0
    try clear c13b0
    try clear c14
    try clear c14b0
    try clear c14b1
    try clear q16
    try clear hcz4_0 hcz4_1 hcz4_2 hcz4_3
    try clear hfz4_0 hfz4_1 hfz4_2 hfz4_3
    try clear hx270_0
    try clear p270
    try clear q16
    try clear q270
    obtain ⟨kq, x25_9, rfl, HA, HJ9, HO_3, HO_9, BK266, HB⟩ := hcut
    cases kq with
    | zero => exact absurd HA.out (by simp [F60.j1])
    | succ kj9 =>
     have H := HA.out
     clear HA
     simp only [F60.j1] at H
     replace H := ib_ H; rcases H with ⟨rfl, H⟩ | ⟨rfl, H⟩
     ·obtain rfl := Option.some.inj H
      go_wp2
      go_ret
      exact ⟨au3_0, bl_⟩
     replace H := bi_ H; rcases H with ⟨t277, A18, H⟩
     replace H := ib_ H; rcases H with ⟨rfl, H⟩ | ⟨rfl, H⟩
     ·obtain rfl := Option.some.inj H
      go_wp2_with (first | ((with_reducible refine gate_callee (f := 104) rfl ?_); refine gl_ 29 Try.func104 #[.int .u8 (((rd t267 x11_1)) % 256)] ?_ rfl rfl rfl rfl; (with_reducible refine (F104.calls (((rd t267 x11_1)) % 256) true _ A18.out).mono ?_); rintro e w' ⟨rfl, ⟨nd, rfl⟩⟩; refine ⟨_, rfl, ?_⟩))
      go_ret
      exact ⟨au3_0, bl_⟩
     replace H := it_ H; rcases H with ⟨(c20b0 : decide (97 ≤ (((rd t267 x11_1)) % 256)) = true), H⟩ | ⟨(c20b0 : decide (97 ≤ (((rd t267 x11_1)) % 256)) = false), H⟩
     rotate_left
     ·replace H := bi_ H; rcases H with ⟨t279, A25, H⟩
      replace H := ib_ H; rcases H with ⟨rfl, H⟩ | ⟨rfl, H⟩
      ·obtain rfl := Option.some.inj H
       go_wp2_with (first | ((with_reducible refine gate_callee (f := 104) rfl ?_); refine gl_ 29 Try.func104 #[.int .u8 (((rd t267 x11_1)) % 256)] ?_ rfl rfl rfl rfl; (with_reducible refine (F104.calls (((rd t267 x11_1)) % 256) false _ A18.out).mono ?_); rintro e w' ⟨rfl, ⟨nd, rfl⟩⟩; refine ⟨_, rfl, ?_⟩) | (go_at_call 105; (with_reducible refine (F105.calls (((rd t267 x11_1)) % 256) true _ A25.out).mono ?_); rintro e w' ⟨rfl, ⟨nd, rfl⟩⟩))
       go_ret
       exact ⟨au3_0, bl_⟩
      by_cases c27 : (((rd t267 x11_1)) % 256) = 45
      ·rw [if_pos c27] at H
       have c27b0 : ((((rd t267 x11_1)) % 256) == 45) = true := beq_iff_eq.mpr c27
       have c27b1 : ((((rd t267 x11_1)) % 256) != 45) = false := bne_eq_false_iff_eq.mpr c27
       clear c27
       obtain rfl := Option.some.inj H
       go_wp2_with (first | ((with_reducible refine gate_callee (f := 104) rfl ?_); refine gl_ 29 Try.func104 #[.int .u8 (((rd t267 x11_1)) % 256)] ?_ rfl rfl rfl rfl; (with_reducible refine (F104.calls (((rd t267 x11_1)) % 256) false _ A18.out).mono ?_); rintro e w' ⟨rfl, ⟨nd, rfl⟩⟩; refine ⟨_, rfl, ?_⟩) | (go_at_call 105; (with_reducible refine (F105.calls (((rd t267 x11_1)) % 256) false _ A25.out).mono ?_); rintro e w' ⟨rfl, ⟨nd, rfl⟩⟩))
       go_ret
       exact ⟨au3_0, bl_⟩
      rw [if_neg c27] at H
      have c27b0 : ((((rd t267 x11_1)) % 256) == 45) = false := beq_eq_false_iff_ne.mpr c27
      have c27b1 : ((((rd t267 x11_1)) % 256) != 45) = true := bne_iff_ne.mpr c27
      have H' := am_ H
      clear H
      go_wp2_with (first | ((with_reducible refine gate_callee (f := 104) rfl ?_); refine gl_ 29 Try.func104 #[.int .u8 (((rd t267 x11_1)) % 256)] ?_ rfl rfl rfl rfl; (with_reducible refine (F104.calls (((rd t267 x11_1)) % 256) false _ A18.out).mono ?_); rintro e w' ⟨rfl, ⟨nd, rfl⟩⟩; refine ⟨_, rfl, ?_⟩) | (go_at_call 105; (with_reducible refine (F105.calls (((rd t267 x11_1)) % 256) false _ A25.out).mono ?_); rintro e w' ⟨rfl, ⟨nd, rfl⟩⟩))
      go_roundg kj9
      case measure => have := HK1.out; have := HJ9.out; omega
      case rel => exact ⟨(wrap64 (x11_1 + 1)), er_, H', ⟨by have := HK1.out; have := HJ9.out; omega⟩, ⟨rk_ HO_3⟩, ⟨rk_ HO_9⟩, ⟨bk_ BK266⟩, ⟨bl_⟩⟩
     replace H := it_ H; rcases H with ⟨c21b0, H⟩ | ⟨c21b0, H⟩
     ·obtain rfl := Option.some.inj H
      go_wp2_with (first | ((with_reducible refine gate_callee (f := 104) rfl ?_); refine gl_ 29 Try.func104 #[.int .u8 (((rd t267 x11_1)) % 256)] ?_ rfl rfl rfl rfl; (with_reducible refine (F104.calls (((rd t267 x11_1)) % 256) false _ A18.out).mono ?_); rintro e w' ⟨rfl, ⟨nd, rfl⟩⟩; refine ⟨_, rfl, ?_⟩))
      go_ret
      exact ⟨au3_0, bl_⟩
     replace H := bi_ H; rcases H with ⟨t278, A22, H⟩
     replace H := ib_ H; rcases H with ⟨rfl, H⟩ | ⟨rfl, H⟩
     ·obtain rfl := Option.some.inj H
      go_wp2_with (first | ((with_reducible refine gate_callee (f := 104) rfl ?_); refine gl_ 29 Try.func104 #[.int .u8 (((rd t267 x11_1)) % 256)] ?_ rfl rfl rfl rfl; (with_reducible refine (F104.calls (((rd t267 x11_1)) % 256) false _ A18.out).mono ?_); rintro e w' ⟨rfl, ⟨nd, rfl⟩⟩; refine ⟨_, rfl, ?_⟩) | (go_at_call 105; (with_reducible refine (F105.calls (((rd t267 x11_1)) % 256) true _ A22.out).mono ?_); rintro e w' ⟨rfl, ⟨nd, rfl⟩⟩))
      go_ret
      exact ⟨au3_0, bl_⟩
     by_cases c24 : (((rd t267 x11_1)) % 256) = 45
     ·rw [if_pos c24] at H
      have c24b0 : ((((rd t267 x11_1)) % 256) == 45) = true := beq_iff_eq.mpr c24
      have c24b1 : ((((rd t267 x11_1)) % 256) != 45) = false := bne_eq_false_iff_eq.mpr c24
      clear c24
      obtain rfl := Option.some.inj H
      go_wp2_with (first | ((with_reducible refine gate_callee (f := 104) rfl ?_); refine gl_ 29 Try.func104 #[.int .u8 (((rd t267 x11_1)) % 256)] ?_ rfl rfl rfl rfl; (with_reducible refine (F104.calls (((rd t267 x11_1)) % 256) false _ A18.out).mono ?_); rintro e w' ⟨rfl, ⟨nd, rfl⟩⟩; refine ⟨_, rfl, ?_⟩) | (go_at_call 105; (with_reducible refine (F105.calls (((rd t267 x11_1)) % 256) false _ A22.out).mono ?_); rintro e w' ⟨rfl, ⟨nd, rfl⟩⟩))
      go_ret
      exact ⟨au3_0, bl_⟩
     rw [if_neg c24] at H
     have c24b0 : ((((rd t267 x11_1)) % 256) == 45) = false := beq_eq_false_iff_ne.mpr c24
     have c24b1 : ((((rd t267 x11_1)) % 256) != 45) = true := bne_iff_ne.mpr c24
     have H' := am_ H
     clear H
     go_wp2_with (first | ((with_reducible refine gate_callee (f := 104) rfl ?_); refine gl_ 29 Try.func104 #[.int .u8 (((rd t267 x11_1)) % 256)] ?_ rfl rfl rfl rfl; (with_reducible refine (F104.calls (((rd t267 x11_1)) % 256) false _ A18.out).mono ?_); rintro e w' ⟨rfl, ⟨nd, rfl⟩⟩; refine ⟨_, rfl, ?_⟩) | (go_at_call 105; (with_reducible refine (F105.calls (((rd t267 x11_1)) % 256) false _ A22.out).mono ?_); rintro e w' ⟨rfl, ⟨nd, rfl⟩⟩))
     go_roundg kj9
     case measure => have := HK1.out; have := HJ9.out; omega
     case rel => exact ⟨(wrap64 (x11_1 + 1)), er_, H', ⟨by have := HK1.out; have := HJ9.out; omega⟩, ⟨rk_ HO_3⟩, ⟨rk_ HO_9⟩, ⟨bk_ BK266⟩, ⟨bl_⟩⟩
/-! ### F69: function 69 -/
def F69.l0 : Nat → ByteArray → Int → List ByteArray → Int → Int → Int → Int → Int → Int → Option (List ByteArray)
  | 0, _, _, _, _, _, _, _, _, _ => none
  | k + 1, x1, x2, x7, x8, x9, x281000, x281001, x281002, x281003 => if x9 < (x1.size : Int) then (if 0 ≤ x9 then (if (wrap64 (bt x1 x9)) = x281003 then (F69.l0 k x1 x2 x7 x8 (wrap64 ((wrap64 (x9 + 1)) + 1)) x281000 x281001 x281002 x281003) else (if (wrap64 (bt x1 x9)) = x2 then (if 0 ≤ x8 then (if x8 ≤ x9 then (if x9 ≤ (x1.size : Int) then (if x7.length < 8796093022208 then (F69.l0 k x1 x2 (x7 ++ [x1.extract (x8 : Int).toNat (x9 : Int).toNat]) (wrap64 (x9 + 1)) (wrap64 (x9 + 1)) x281000 x281001 x281002 x281003) else (none)) else (none)) else (none)) else (none)) else (F69.l0 k x1 x2 x7 x8 (wrap64 (x9 + 1)) x281000 x281001 x281002 x281003))) else (none)) else (if 0 ≤ x8 then (if x8 ≤ (x1.size : Int) then (if x7.length < 8796093022208 then (some (x7 ++ [x1.extract (x8 : Int).toNat x1.size])) else (none)) else (none)) else (none))
def F69.f (k : Nat) (a0_0 : Int) (a0_1 : Int) (a0_2 : Int) (a0_3 : Int) (a1 : ByteArray) (a2 : Int) : Option (List ByteArray) := F69.l0 k a1 a2 (([] : List ByteArray)) 0 0 a0_0 a0_1 a0_2 a0_3
theorem F69.mono_l : ∀ k, (∀ y0 y1 y2 y3 y4 y5 y6 y7 y8, LeO (F69.l0 k y0 y1 y2 y3 y4 y5 y6 y7 y8) (F69.l0 (k + 1) y0 y1 y2 y3 y4 y5 y6 y7 y8))
 | 0 => fun _ _ _ _ _ _ _ _ _ r h => by simp [F69.l0] at h
 | k + 1 => by
  have ih0 := F69.mono_l k
  intro y0 y1 y2 y3 y4 y5 y6 y7 y8
  unfold F69.l0
  repeat' with_reducible first | exact ih0 _ _ _ _ _ _ _ _ _ | exact LeO.refl _ | exact LeO.none _ | refine LeO.ite ?_ ?_ | refine LeO.bind ?_ (fun _ => ?_)
theorem F69.mono : ∀ a0 a1 a2 a3 a4 a5 k, LeO (F69.f k a0 a1 a2 a3 a4 a5) (F69.f (k + 1) a0 a1 a2 a3 a4 a5) := by
 intro a0 a1 a2 a3 a4 a5 k
 have ih0 := F69.mono_l k
 unfold F69.f
 repeat' with_reducible first | exact ih0 _ _ _ _ _ _ _ _ _ | exact LeO.refl _ | exact LeO.none _ | refine LeO.ite ?_ ?_ | refine LeO.bind ?_ (fun _ => ?_)
theorem F69.calls (k : Nat) (a0_0 : Int) (a0_1 : Int) (a0_2 : Int) (a0_3 : Int) (a1 : ByteArray) (a2 : Int) (r : List ByteArray) (w : World) (h : F69.f k a0_0 a0_1 a0_2 a0_3 a1 a2 = some r) :
  Calls Try.prog 69 #[.agg #[.int .i64 a0_0, .int .i64 a0_1, .int .i64 a0_2, .int .i64 a0_3], .string a1, .int .i64 a2] w fun e w' => ∃ v0_ : Value, e = .returned (v0_) ∧ Kd.R Kd.string 9 w' w.heap.size (fun _ => True) v0_ r ∧ Below w.heap.size w w' := by
 have hu23 := Try.underlying23
 have HB := am_ (Below.refl w.heap.size w)
 have H : (F69.l0 k a1 a2 (([] : List ByteArray)) 0 0 a0_0 a0_1 a0_2 a0_3) = some r := h
 clear h
 obtain ⟨y281, hy281⟩ : ∃ y_ : List ByteArray, y_ = (([] : List ByteArray)) := ⟨_, rfl⟩
 replace H : (F69.l0 k a1 a2 y281 0 0 a0_0 a0_1 a0_2 a0_3) = some r := by first | (rw [hy281]; exact H) | exact H
 have Ny281 := am_ hy281
 clear hy281
 have H' := am_ H
 clear H
 go_enter Try.func69, Try.ntmps69
 go_wp2_with (first | ((with_reducible refine gate_dst (N := 3) rfl ?_); refine be_ 3 #[.int .i64 a0_0, .int .i64 a0_1, .int .i64 a0_2, .int .i64 a0_3] 23 ?_; intro gb280 hg w4 hbox hb; have BK280 := am_ (hbox); have GW280 := am_ (gw_ hg bl_); have GE280 := GW280; replace HB := hs_ w hb; clear hb hbox hg) | ((with_reducible refine gate_dst (N := 10) rfl ?_); refine Kd.R_lit Kd.string _ 9 ?hg (N := 10) ?hd (xs := ([] : List ByteArray)) (inner := []) (ok := fun _ => True) (okp := fun _ => True) ?hr ?hp (fun _ hk => hk) trivial (Below.refl _ _) (Nat.le_refl _) (by simp) ?_; (case hd => rfl); (case hg => rfl); (case hr => exact hr_); (case hp => exact (Reps.none _ _)); intro v282 w5 ho6 hb hg_ hnew_; clear hg_ hnew_; (first | rw [← Ny281.out] at ho6 | (simp only [Int.reduceToNat] at ho6; rw [← Ny281.out] at ho6)); have HO283 := am_ (Kd.R_lower ho6 (below_size bl_)); replace BK280 := bb_ BK280 hb; replace HB := hs_ w hb; clear hb ho6))
 go_loopg [7, 8, 9] k (fun kq v7 v8 v9 w' => ∃ (x7_1 : List ByteArray) (x8_1 : Int) (x9_1 : Int), v8 = .int .i64 x8_1 ∧ v9 = .int .i64 x9_1 ∧ Aside0 (F69.l0 kq a1 a2 x7_1 x8_1 x9_1 a0_0 a0_1 a0_2 a0_3 = some r) ∧ Aside0 (kq ≤ k) ∧ Aside0 (Kd.R Kd.string 9 w' w.heap.size (fun _ => True) v7 x7_1) ∧ Aside0 (w'.heap[gb280]? = some (.cells #[.int .i64 a0_0, .int .i64 a0_1, .int .i64 a0_2, .int .i64 a0_3] 23 (0, 0))) ∧ Aside0 (Below w.heap.size w w'))
 case atStart => exact ⟨(y281), (0), (0), er_, er_, H', ⟨Nat.le_refl _⟩, ⟨rk_ HO283⟩, ⟨bk_ BK280⟩, ⟨bl_⟩⟩
 case round =>
  clear H'
  obtain ⟨x7_1, x8_1, x9_1, rfl, rfl, HA, HK1, HO_7, BK280, HB⟩ := hrel
  cases gk with
  | zero => exact absurd HA.out (by simp [F69.l0])
  | succ k1 =>
   have H := HA.out
   clear HA
   simp only [F69.l0] at H
   replace H := it_ H; rcases H with ⟨c7b0, H⟩ | ⟨c7b0, H⟩
   rotate_left
   ·by_cases c20 : 0 ≤ x8_1
    rotate_left
    ·rw [if_neg c20] at H
     exact absurd H (by simp)

    rw [if_pos c20] at H
    have c20b0 := eq_true c20
    have c20b1 : decide (0 ≤ x8_1) = true := decide_eq_true c20
    clear c20
    by_cases c21 : x8_1 ≤ (a1.size : Int)
    rotate_left
    ·rw [if_neg c21] at H
     exact absurd H (by simp)
    rw [if_pos c21] at H
    have c21b0 := eq_true c21
    have c21b1 : decide (x8_1 ≤ (a1.size : Int)) = true := decide_eq_true c21
    clear c21
    replace H := iln_ H; rcases H with ⟨LMc22, H⟩
    obtain ⟨y284, hy284⟩ : ∃ y_ : List ByteArray, y_ = (x7_1 ++ [a1.extract (x8_1 : Int).toNat a1.size]) := ⟨_, rfl⟩
    replace H : (some y284) = some r := by first | (rw [hy284]; exact H) | exact H
    have Ny284 := am_ hy284
    clear hy284
    obtain rfl := Option.some.inj H
    go_wp2_with (first | ((with_reducible refine gate_builtin (b := .append) (xs := #[.tmp 39, .tmp 43]) rfl ?_); at_builtin; refine Kd.R_append Kd.string (w0 := w) w.heap.size rfl (.tmp 39) (.tmp 43) 41 9 (.string ⟨#[]⟩) 16 rfl Try.underlying41 info9 rfl (by decide) (by omega) u7 x7_1 (a1.extract (x8_1 : Int).toNat a1.size) [.string (a1.extract (x8_1 : Int).toNat a1.size)] (fun _ => True) (fun _ => False) rfl rfl ?aP (fun _ hk => hk.elim) ?aF ?aO ?aB ?aS ?aL ?_; (case aP => exact rfl); (case aB => exact bl_); (case aF => exact (fun _ _ => trivial)); (case aO => exact (rk_ HO_7)); (case aS => exact (below_size bl_)); (case aL => have := LMc22.out; omega); intro v285 w23 ho hb hg hat; rw [← Ny284.out] at ho; have n0_ := am_ (bg_ BK280 hg (Kd.R_ne HO_7.out BK280.out (by decide))); have n1_ := am_ (hb); have n2_ := am_ (ho); clear BK280; clear HB; clear HO_7; have BK280 := n0_; have HB := n1_; have HO286 := n2_; clear n0_ n1_ n2_; clear ho hb hg hat))
    go_ret
    exact ⟨_, au3_0, rk_ HO286, bl_⟩
   replace H := itn_ H; rcases H with ⟨c8b0, H⟩
   by_cases c10 : (wrap64 (bt a1 x9_1)) = a0_3
   ·rw [if_pos c10] at H
    have c10b0 : ((wrap64 (bt a1 x9_1)) == a0_3) = true := beq_iff_eq.mpr c10
    have c10b1 : ((wrap64 (bt a1 x9_1)) != a0_3) = false := bne_eq_false_iff_eq.mpr c10
    clear c10
    have H' := am_ H
    clear H
    have p9 : 0 ≤ (x9_1 : Int) := od_
    have q9 : x9_1 < (a1.size : Int) := od_
    have hx9 := bt_at a1 x9_1
    replace p9 := eq_true p9
    replace q9 := eq_true q9
    obtain ⟨hcz11_0, hcz11_1, hcz11_2, hcz11_3, hfz11_0, hfz11_1, hfz11_2, hfz11_3⟩ := cellsF4 BK280.out
    go_wp2
    go_roundg k1
    case measure => have := HK1.out; omega
    case rel => exact ⟨(x7_1), (x8_1), (wrap64 ((wrap64 (x9_1 + 1)) + 1)), er_, er_, H', ⟨by have := HK1.out; omega⟩, ⟨rk_ HO_7⟩, ⟨bk_ BK280⟩, ⟨bl_⟩⟩
   rw [if_neg c10] at H
   have c10b0 : ((wrap64 (bt a1 x9_1)) == a0_3) = false := beq_eq_false_iff_ne.mpr c10
   have c10b1 : ((wrap64 (bt a1 x9_1)) != a0_3) = true := bne_iff_ne.mpr c10
   by_cases c12 : (wrap64 (bt a1 x9_1)) = a2
   rotate_left
   ·rw [if_neg c12] at H
    have c12b0 : ((wrap64 (bt a1 x9_1)) == a2) = false := beq_eq_false_iff_ne.mpr c12
    have c12b1 : ((wrap64 (bt a1 x9_1)) != a2) = true := bne_iff_ne.mpr c12
    have H' := am_ H
    clear H
    have p9 : 0 ≤ (x9_1 : Int) := od_
    have q9 : x9_1 < (a1.size : Int) := od_
    have hx9 := bt_at a1 x9_1
    replace p9 := eq_true p9
    replace q9 := eq_true q9
    obtain ⟨hcz19_0, hcz19_1, hcz19_2, hcz19_3, hfz19_0, hfz19_1, hfz19_2, hfz19_3⟩ := cellsF4 BK280.out
    go_wp2
    go_roundg k1
    case measure => have := HK1.out; omega
    case rel => exact ⟨(x7_1), (x8_1), (wrap64 (x9_1 + 1)), er_, er_, H', ⟨by have := HK1.out; omega⟩, ⟨rk_ HO_7⟩, ⟨bk_ BK280⟩, ⟨bl_⟩⟩
   rw [if_pos c12] at H
   have c12b0 : ((wrap64 (bt a1 x9_1)) == a2) = true := beq_iff_eq.mpr c12
   have c12b1 : ((wrap64 (bt a1 x9_1)) != a2) = false := bne_eq_false_iff_eq.mpr c12
   clear c12
   by_cases c13 : 0 ≤ x8_1
   rotate_left
   ·rw [if_neg c13] at H
    exact absurd H (by simp)
   rw [if_pos c13] at H
   have c13b0 := eq_true c13
   have c13b1 : decide (0 ≤ x8_1) = true := decide_eq_true c13
   clear c13
   by_cases c14 : x8_1 ≤ x9_1
   rotate_left
   ·rw [if_neg c14] at H
    exact absurd H (by simp)
   rw [if_pos c14] at H
   have c14b0 := eq_true c14
   have c14b1 : decide (x8_1 ≤ x9_1) = true := decide_eq_true c14
   clear c14
   by_cases c15 : x9_1 ≤ (a1.size : Int)
   rotate_left
   ·rw [if_neg c15] at H
    exact absurd H (by simp)
   rw [if_pos c15] at H
   have c15b0 := eq_true c15
   have c15b1 : decide (x9_1 ≤ (a1.size : Int)) = true := decide_eq_true c15
   clear c15
   replace H := iln_ H; rcases H with ⟨LMc16, H⟩
   obtain ⟨y287, hy287⟩ : ∃ y_ : List ByteArray, y_ = (x7_1 ++ [a1.extract (x8_1 : Int).toNat (x9_1 : Int).toNat]) := ⟨_, rfl⟩
   replace H : (F69.l0 k1 a1 a2 y287 (wrap64 (x9_1 + 1)) (wrap64 (x9_1 + 1)) a0_0 a0_1 a0_2 a0_3) = some r := by first | (rw [hy287]; exact H) | exact H
   have Ny287 := am_ hy287
   clear hy287
   have H' := am_ H
   clear H
   have p9 : 0 ≤ (x9_1 : Int) := od_
   have q9 : x9_1 < (a1.size : Int) := od_
   have hx9 := bt_at a1 x9_1
   replace p9 := eq_true p9
   replace q9 := eq_true q9
   obtain ⟨hcz17_0, hcz17_1, hcz17_2, hcz17_3, hfz17_0, hfz17_1, hfz17_2, hfz17_3⟩ := cellsF4 BK280.out
   go_wp2_with (first | ((with_reducible refine gate_builtin (b := .append) (xs := #[.tmp 30, .tmp 35]) rfl ?_); at_builtin; refine Kd.R_append Kd.string (w0 := w) w.heap.size rfl (.tmp 30) (.tmp 35) 41 9 (.string ⟨#[]⟩) 16 rfl Try.underlying41 info9 rfl (by decide) (by omega) u7 x7_1 (a1.extract (x8_1 : Int).toNat (x9_1 : Int).toNat) [.string (a1.extract (x8_1 : Int).toNat (x9_1 : Int).toNat)] (fun _ => True) (fun _ => False) rfl rfl ?aP (fun _ hk => hk.elim) ?aF ?aO ?aB ?aS ?aL ?_; (case aP => exact rfl); (case aB => exact bl_); (case aF => exact (fun _ _ => trivial)); (case aO => exact (rk_ HO_7)); (case aS => exact (below_size bl_)); (case aL => have := LMc16.out; omega); intro v288 w18 ho hb hg hat; rw [← Ny287.out] at ho; have n0_ := am_ (bg_ BK280 hg (Kd.R_ne HO_7.out BK280.out (by decide))); have n1_ := am_ (hb); have n2_ := am_ (ho); clear BK280; clear HB; clear HO_7; have BK280 := n0_; have HB := n1_; have HO289 := n2_; clear n0_ n1_ n2_; clear ho hb hg hat))
   go_roundg k1
   case measure => have := HK1.out; omega
   case rel => exact ⟨(y287), (wrap64 (x9_1 + 1)), (wrap64 (x9_1 + 1)), er_, er_, H', ⟨by have := HK1.out; omega⟩, ⟨rk_ HO289⟩, ⟨bk_ BK280⟩, ⟨bl_⟩⟩
/-! ### F83: function 83 -/
def F83.f (a0 : ByteArray) : Option (Bool) := if (a0.size : Int) = 3 then (if 0 < (a0.size : Int) then ((F104.f (bt a0 0)).bind fun t290 => (if t290 = true then (if 1 < (a0.size : Int) then ((F104.f (bt a0 1)).bind fun t291 => (if t291 = true then (if 2 < (a0.size : Int) then ((F104.f (bt a0 2)).bind fun t292 => (some t292)) else (none)) else (some false))) else (none)) else (some false))) else (none)) else (some false)
theorem F83.calls (a0 : ByteArray) (r : Bool) (w : World) (h : F83.f a0 = some r) :
  Calls Try.prog 83 #[.string a0] w fun e w' => e = .returned (.bool r) ∧ Drawn0 w w' := by
 have H : (if (a0.size : Int) = 3 then (if 0 < (a0.size : Int) then ((F104.f (bt a0 0)).bind fun t290 => (if t290 = true then (if 1 < (a0.size : Int) then ((F104.f (bt a0 1)).bind fun t291 => (if t291 = true then (if 2 < (a0.size : Int) then ((F104.f (bt a0 2)).bind fun t292 => (some t292)) else (none)) else (some false))) else (none)) else (some false))) else (none)) else (some false)) = some r := h
 clear h
 by_cases c2 : (a0.size : Int) = 3
 rotate_left
 ·rw [if_neg c2] at H
  have c2b0 : ((a0.size : Int) == 3) = false := beq_eq_false_iff_ne.mpr c2
  have c2b1 : ((a0.size : Int) != 3) = true := bne_iff_ne.mpr c2
  obtain rfl := Option.some.inj H
  go_enter Try.func83, Try.ntmps83
  go_wp2
  go_ret
  exact ⟨er_, dn_⟩

 rw [if_pos c2] at H
 have c2b0 : ((a0.size : Int) == 3) = true := beq_iff_eq.mpr c2
 have c2b1 : ((a0.size : Int) != 3) = false := bne_eq_false_iff_eq.mpr c2
 clear c2
 replace H := itn_ H; rcases H with ⟨c3b0, H⟩
 have c3b1 : decide (0 < a0.size) = true := n2_ c3b0
 replace H := bi_ H; rcases H with ⟨t290, A5, H⟩
 replace H := ib_ H; rcases H with ⟨rfl, H⟩ | ⟨rfl, H⟩
 rotate_left
 ·obtain rfl := Option.some.inj H
  have p4 : 0 ≤ (0 : Int) := (by omega)
  have q4 : 0 < a0.size := (by have : (0 : Int) < (a0.size : Int) := od_; omega)
  have hx4 : ∀ h : 0 < a0.size, ((a0[0]'h).toNat : Int) = bt a0 0 := bt_at a0 0
  clear p4
  have qi4 : (0 < (a0.size : Int)) = True := eq_true (of_decide_eq_true as_)
  replace q4 := eq_true q4
  go_enter Try.func83, Try.ntmps83
  go_wp2_with (first | (go_at_call 104; (with_reducible refine (F104.calls (bt a0 0) false _ A5.out).mono ?_); rintro e w' ⟨rfl, ⟨nd, rfl⟩⟩))
  go_ret
  exact ⟨er_, dn_⟩
 replace H := itn_ H; rcases H with ⟨c7b0, H⟩
 have c7b1 : decide (1 < a0.size) = true := n2_ c7b0
 replace H := bi_ H; rcases H with ⟨t291, A9, H⟩
 replace H := ib_ H; rcases H with ⟨rfl, H⟩ | ⟨rfl, H⟩
 rotate_left
 ·obtain rfl := Option.some.inj H
  have p4 : 0 ≤ (0 : Int) := (by omega)
  have q4 : 0 < a0.size := (by have : (0 : Int) < (a0.size : Int) := od_; omega)
  have hx4 : ∀ h : 0 < a0.size, ((a0[0]'h).toNat : Int) = bt a0 0 := bt_at a0 0
  clear p4
  have qi4 : (0 < (a0.size : Int)) = True := eq_true (of_decide_eq_true as_)
  replace q4 := eq_true q4
  go_enter Try.func83, Try.ntmps83
  go_wp2_with (first | (go_at_call 104; (with_reducible refine (F104.calls (bt a0 0) true _ A5.out).mono ?_); rintro e w' ⟨rfl, ⟨nd, rfl⟩⟩; have p8 : 0 ≤ (1 : Int) := (by omega); have q8 : 1 < a0.size := (by have : (1 : Int) < (a0.size : Int) := od_; omega); have hx8 : ∀ h : 1 < a0.size, ((a0[1]'h).toNat : Int) = bt a0 1 := bt_at a0 1; clear p8; have qi8 : (1 < (a0.size : Int)) = True := eq_true (of_decide_eq_true as_); replace q8 := eq_true q8) | (go_at_call 104; (with_reducible refine (F104.calls (bt a0 1) false _ A9.out).mono ?_); rintro e w' ⟨rfl, ⟨nd, rfl⟩⟩))
  go_ret
  exact ⟨er_, dn_⟩
 replace H := itn_ H; rcases H with ⟨c11b0, H⟩
 have c11b1 : decide (2 < a0.size) = true := n2_ c11b0
 replace H := bi_ H; rcases H with ⟨t292, A13, H⟩
 obtain rfl := Option.some.inj H
 have p4 : 0 ≤ (0 : Int) := (by omega)
 have q4 : 0 < a0.size := (by have : (0 : Int) < (a0.size : Int) := od_; omega)
 have hx4 : ∀ h : 0 < a0.size, ((a0[0]'h).toNat : Int) = bt a0 0 := bt_at a0 0
 clear p4
 have qi4 : (0 < (a0.size : Int)) = True := eq_true (of_decide_eq_true as_)
 replace q4 := eq_true q4
 go_enter Try.func83, Try.ntmps83
 go_wp2_with (first | (go_at_call 104; (with_reducible refine (F104.calls (bt a0 0) true _ A5.out).mono ?_); rintro e w' ⟨rfl, ⟨nd, rfl⟩⟩; have p8 : 0 ≤ (1 : Int) := (by omega); have q8 : 1 < a0.size := (by have : (1 : Int) < (a0.size : Int) := od_; omega); have hx8 : ∀ h : 1 < a0.size, ((a0[1]'h).toNat : Int) = bt a0 1 := bt_at a0 1; clear p8; have qi8 : (1 < (a0.size : Int)) = True := eq_true (of_decide_eq_true as_); replace q8 := eq_true q8) | (go_at_call 104; (with_reducible refine (F104.calls (bt a0 1) true _ A9.out).mono ?_); rintro e w' ⟨rfl, ⟨nd, rfl⟩⟩; have p12 : 0 ≤ (2 : Int) := (by omega); have q12 : 2 < a0.size := (by have : (2 : Int) < (a0.size : Int) := od_; omega); have hx12 : ∀ h : 2 < a0.size, ((a0[2]'h).toNat : Int) = bt a0 2 := bt_at a0 2; clear p12; have qi12 : (2 < (a0.size : Int)) = True := eq_true (of_decide_eq_true as_); replace q12 := eq_true q12) | (go_at_call 104; (with_reducible refine (F104.calls (bt a0 2) t292 _ A13.out).mono ?_); rintro e w' ⟨rfl, ⟨nd, rfl⟩⟩))
 go_ret
 exact ⟨er_, dn_⟩
/-! ### F106: function 106 -/
def F106.f (k : Nat) (a0_0 : Int) (a0_1 : Int) (a0_2 : Int) (a0_3 : Int) (a1 : Int) : Option (Bool) := (F102.f a0_0 a0_1 a0_2 a0_3).bind fun t294 => ((F103.f k t294 (wrap64 (a1))).bind fun t297 => (some t297))
theorem F106.mono : ∀ a0 a1 a2 a3 a4 k, LeO (F106.f k a0 a1 a2 a3 a4) (F106.f (k + 1) a0 a1 a2 a3 a4) := by
 intro a0 a1 a2 a3 a4 k
 unfold F106.f
 repeat' with_reducible first | exact F103.mono _ _ _ | exact LeO.refl _ | exact LeO.none _ | refine LeO.ite ?_ ?_ | refine LeO.bind ?_ (fun _ => ?_)
theorem F106.calls (k : Nat) (a0_0 : Int) (a0_1 : Int) (a0_2 : Int) (a0_3 : Int) (a1 : Int) (r : Bool) (w : World) (h : F106.f k a0_0 a0_1 a0_2 a0_3 a1 = some r) :
  Calls Try.prog 106 #[.agg #[.int .i64 a0_0, .int .i64 a0_1, .int .i64 a0_2, .int .i64 a0_3], .int .u8 a1] w fun e w' => e = .returned (.bool r) ∧ Below w.heap.size w w' := by
 have hu23 := Try.underlying23
 have HB := am_ (Below.refl w.heap.size w)
 have H : ((F102.f a0_0 a0_1 a0_2 a0_3).bind fun t294 => ((F103.f k t294 (wrap64 (a1))).bind fun t297 => (some t297))) = some r := h
 clear h
 replace H := bi_ H; rcases H with ⟨t294, A3, H⟩
 replace H := bi_ H; rcases H with ⟨t297, A4, H⟩
 obtain rfl := Option.some.inj H
 go_enter Try.func106, Try.ntmps106
 go_wp2_with (first | ((with_reducible refine gate_dst (N := 2) rfl ?_); refine be_ 2 #[.int .i64 a0_0, .int .i64 a0_1, .int .i64 a0_2, .int .i64 a0_3] 23 ?_; intro gb293 hg w5 hbox hb; have BK293 := am_ (hbox); have GW293 := am_ (gw_ hg bl_); have GE293 := GW293; replace HB := hs_ w hb; clear hb hbox hg; obtain ⟨hcz6_0, hcz6_1, hcz6_2, hcz6_3, hfz6_0, hfz6_1, hfz6_2, hfz6_3⟩ := cellsF4 BK293.out) | ((with_reducible refine gate_callee (f := 102) rfl ?_); refine gl_ 6 Try.func102 #[.agg #[.int .i64 a0_0, .int .i64 a0_1, .int .i64 a0_2, .int .i64 a0_3]] ?_ rfl rfl rfl rfl; (with_reducible refine (F102.calls a0_0 a0_1 a0_2 a0_3 t294 _ A3.out).mono ?_); rintro e w7 ⟨v295, rfl, ho0, hb⟩; refine ⟨_, rfl, ?_⟩; have HO296 := am_ (Kd.R_lower ho0 (below_size bl_)); replace BK293 := bb_ BK293 hb; replace HB := hs_ w hb; (try clear hb); (try clear ho0); obtain ⟨Ao8, co8, eo8⟩ := Kd.R_slice HO296.out; subst eo8) | ((with_reducible refine gate_callee (f := 103) rfl ?_); refine gl_ 9 Try.func103 #[.slice Ao8 t294.length co8, .int .i64 (wrap64 (a1))] ?_ rfl rfl rfl rfl; (with_reducible refine (F103.calls k _ _ t294 (wrap64 (a1)) t297 _ ?s1 ?s2 A4.out).mono ?_); (case s1 => repeat (first | exact (Kd.R_reads' HO296.out).2.2 | (with_reducible refine Kd.C_alloc ?_ _) | (with_reducible refine Kd.C_drewN ?_ _) | (with_reducible refine Kd.C_drew ?_))); (case s2 => exact (Kd.R_reads' HO296.out).2.1); rintro e w' ⟨rfl, ⟨nd, rfl⟩⟩; refine ⟨_, rfl, ?_⟩))
 go_ret
 exact ⟨au3_0, bl_⟩

/-! ### F63: function 63 -/
def F63.l0 : Nat → ByteArray → List Int → Int → Int → Int → Int → Int → Option (ByteArray × Int)
  | 0, _, _, _, _, _, _, _ => none
  | k + 1, x1, x6, x7, x299000, x299001, x299002, x299003 => if x7 < (x1.size : Int) then (if 0 ≤ x7 then (if (wrap64 (bt x1 x7)) = x299003 then (if (wrap64 (x7 + 1)) = (x1.size : Int) then (some ((⟨#[]⟩ : ByteArray), wrap64 ((wrap64 (x7 + 1)) - 1))) else (if 0 ≤ (wrap64 (x7 + 1)) then (if (wrap64 (x7 + 1)) < (x1.size : Int) then ((F106.f k x299000 x299001 x299002 x299003 (bt x1 (wrap64 (x7 + 1)))).bind fun t302 => (if t302 = true then (if x6.length < 140737488355328 then (F63.l0 k x1 (x6 ++ [bt x1 (wrap64 (x7 + 1))]) (wrap64 ((wrap64 (x7 + 1)) + 1)) x299000 x299001 x299002 x299003) else (none)) else (some ((⟨#[]⟩ : ByteArray), wrap64 ((wrap64 (x7 + 1)) - 1))))) else (none)) else (none))) else ((F106.f k x299000 x299001 x299002 x299003 (bt x1 x7)).bind fun t306 => (if t306 = true then (some ((⟨#[]⟩ : ByteArray), x7)) else (if x6.length < 140737488355328 then (F63.l0 k x1 (x6 ++ [bt x1 x7]) (wrap64 (x7 + 1)) x299000 x299001 x299002 x299003) else (none))))) else (none)) else (some (strOfNums x6, (-1)))
def F63.f (k : Nat) (a0_0 : Int) (a0_1 : Int) (a0_2 : Int) (a0_3 : Int) (a1 : ByteArray) : Option (ByteArray × Int) := F63.l0 k a1 (([] : List Int)) 0 a0_0 a0_1 a0_2 a0_3
theorem F63.mono_l : ∀ k, (∀ y0 y1 y2 y3 y4 y5 y6, LeO (F63.l0 k y0 y1 y2 y3 y4 y5 y6) (F63.l0 (k + 1) y0 y1 y2 y3 y4 y5 y6))
 | 0 => fun _ _ _ _ _ _ _ r h => by simp [F63.l0] at h
 | k + 1 => by
  have ih0 := F63.mono_l k
  intro y0 y1 y2 y3 y4 y5 y6
  unfold F63.l0
  repeat' with_reducible first | exact ih0 _ _ _ _ _ _ _ | exact F106.mono _ _ _ _ _ _ | exact LeO.refl _ | exact LeO.none _ | refine LeO.ite ?_ ?_ | refine LeO.bind ?_ (fun _ => ?_)
theorem F63.mono : ∀ a0 a1 a2 a3 a4 k, LeO (F63.f k a0 a1 a2 a3 a4) (F63.f (k + 1) a0 a1 a2 a3 a4) := by
 intro a0 a1 a2 a3 a4 k
 have ih0 := F63.mono_l k
 unfold F63.f
 repeat' with_reducible first | exact ih0 _ _ _ _ _ _ _ | exact F106.mono _ _ _ _ _ _ | exact LeO.refl _ | exact LeO.none _ | refine LeO.ite ?_ ?_ | refine LeO.bind ?_ (fun _ => ?_)
def F63.T8 : Bool × List (List Nat × List Nat) := (true, [([], []), ([], []), ([1], [1]), ([0, 2], [0, 2]), ([3], [3]), ([4], [4]), ([4], [4]), ([4], [4]), ([6, 7, 4], [4, 6, 7]), ([5, 8, 4, 4], [4, 5, 8]), ([9, 4], [4, 9]), ([4, 10], [4, 10])])
def F63.B8 : List Nat := [0, 0, 2, 7, 15, 31, 31, 31, 223, 511, 1023, 2047]
theorem F63.tab8 : rtab .any (opsOf Try.f63 8) = F63.T8 := by kernel_rfl
theorem F63.bits8 : waitsOk F63.T8.2 F63.B8 = true := by kernel_rfl
theorem F63.calls (k : Nat) (a0_0 : Int) (a0_1 : Int) (a0_2 : Int) (a0_3 : Int) (a1 : ByteArray) (r1 : ByteArray) (r2 : Int) (w : World) (h : F63.f k a0_0 a0_1 a0_2 a0_3 a1 = some (r1, r2)) :
  Calls Try.prog 63 #[.agg #[.int .i64 a0_0, .int .i64 a0_1, .int .i64 a0_2, .int .i64 a0_3], .string a1] w fun e w' => e = .returned (.tuple #[.string r1, .int .i64 r2]) ∧ Below w.heap.size w w' := by
 have hu23 := Try.underlying23
 have HB := am_ (Below.refl w.heap.size w)
 have H : (F63.l0 k a1 (([] : List Int)) 0 a0_0 a0_1 a0_2 a0_3) = some (r1, r2) := h
 clear h
 obtain ⟨y299, hy299⟩ : ∃ y_ : List Int, y_ = (([] : List Int)) := ⟨_, rfl⟩
 replace H : (F63.l0 k a1 y299 0 a0_0 a0_1 a0_2 a0_3) = some (r1, r2) := by first | (rw [hy299]; exact H) | exact H
 have Ny299 := am_ hy299
 clear hy299
 have H' := am_ H
 clear H
 go_enter Try.func63, Try.ntmps63
 go_wp2_with (first | ((with_reducible refine gate_dst (N := 2) rfl ?_); refine be_ 2 #[.int .i64 a0_0, .int .i64 a0_1, .int .i64 a0_2, .int .i64 a0_3] 23 ?_; intro gb298 hg w3 hbox hb; have BK298 := am_ (hbox); have GW298 := am_ (gw_ hg bl_); have GE298 := GW298; replace HB := hs_ w hb; clear hb hbox hg) | ((with_reducible refine gate_dst (N := 9) rfl ?_); refine Kd.R_lit (Kd.int .u8) _ 5 ?hg (N := 9) ?hd (xs := ([] : List Int)) (inner := []) (ok := fun _ => True) (okp := fun _ => True) ?hr ?hp (fun _ hk => hk) trivial (Below.refl _ _) (Nat.le_refl _) (by simp) ?_; (case hd => rfl); (case hg => rfl); (case hr => exact hr_); (case hp => exact (Reps.none _ _)); intro v300 w4 ho5 hb hg_ hnew_; clear hg_ hnew_; (first | rw [← Ny299.out] at ho5 | (simp only [Int.reduceToNat] at ho5; rw [← Ny299.out] at ho5)); have HO301 := am_ (Kd.R_lower ho5 (below_size bl_)); replace BK298 := bb_ BK298 hb; replace HB := hs_ w hb; clear hb ho5))
 go_loopg [6, 7] k (fun kq v6 v7 w' => ∃ (x6_1 : List Int) (x7_1 : Int), v7 = .int .i64 x7_1 ∧ Aside0 (F63.l0 kq a1 x6_1 x7_1 a0_0 a0_1 a0_2 a0_3 = some (r1, r2)) ∧ Aside0 (kq ≤ k) ∧ Aside0 (Kd.R (Kd.int .u8) 5 w' w.heap.size (fun _ => True) v6 x6_1) ∧ Aside0 (w'.heap[gb298]? = some (.cells #[.int .i64 a0_0, .int .i64 a0_1, .int .i64 a0_2, .int .i64 a0_3] 23 (0, 0))) ∧ Aside0 (Below w.heap.size w w'))
 case atStart => exact ⟨(y299), (0), er_, H', ⟨Nat.le_refl _⟩, ⟨rk_ HO301⟩, ⟨bk_ BK298⟩, ⟨bl_⟩⟩
 case round =>
  clear H'
  obtain ⟨x6_1, x7_1, rfl, HA, HK1, HO_6, BK298, HB⟩ := hrel
  cases gk with
  | zero => exact absurd HA.out (by simp [F63.l0])
  | succ k1 =>
   have H := HA.out
   clear HA
   simp only [F63.l0] at H
   replace H := it_ H; rcases H with ⟨c6b0, H⟩ | ⟨c6b0, H⟩
   rotate_left
   ·simp only [Option.some.injEq, Prod.mk.injEq] at H
    obtain ⟨rfl, rfl⟩ := H
    have hcv36 := own_string (P := Try.prog) Try.underlying36 Try.underlying5 Try.underlying9 (Kd.own_of_R HO_6.out)
    go_wp2
    go_ret2
    exact ⟨au3_0, bl_⟩

   replace H := itn_ H; rcases H with ⟨c7b0, H⟩
   by_cases c9 : (wrap64 (bt a1 x7_1)) = a0_3
   rotate_left
   ·rw [if_neg c9] at H
    have c9b0 : ((wrap64 (bt a1 x7_1)) == a0_3) = false := beq_eq_false_iff_ne.mpr c9
    have c9b1 : ((wrap64 (bt a1 x7_1)) != a0_3) = true := bne_iff_ne.mpr c9
    replace H := bi_ H; rcases H with ⟨t306, A28, H⟩
    replace H := ib_ H; rcases H with ⟨rfl, H⟩ | ⟨rfl, H⟩
    ·simp only [Option.some.injEq, Prod.mk.injEq] at H
     obtain ⟨rfl, rfl⟩ := H
     have p8 : 0 ≤ (x7_1 : Int) := od_
     have q8 : x7_1 < (a1.size : Int) := od_
     have hx8 := bt_at a1 x7_1
     replace p8 := eq_true p8
     replace q8 := eq_true q8
     obtain ⟨hcz30_0, hcz30_1, hcz30_2, hcz30_3, hfz30_0, hfz30_1, hfz30_2, hfz30_3⟩ := cellsF4 BK298.out
     go_wp2_with (first | ((with_reducible refine gate_callee (f := 106) rfl ?_); refine gl_ 45 Try.func106 #[.agg #[.int .i64 a0_0, .int .i64 a0_1, .int .i64 a0_2, .int .i64 a0_3], .int .u8 (bt a1 x7_1)] ?_ rfl rfl rfl rfl; (with_reducible refine (F106.calls k1 a0_0 a0_1 a0_2 a0_3 (bt a1 x7_1) true _ A28.out).mono ?_); rintro e w31 ⟨rfl, hb⟩; refine ⟨_, rfl, ?_⟩; replace HO_6 := am_ (Kd.R_below (rk_ HO_6) hb); replace BK298 := bb_ BK298 hb; replace HB := hs_ w hb; (try clear hb)))
     go_ret2
     exact ⟨au3_0, bl_⟩
    replace H := iln_ H; rcases H with ⟨LMc32, H⟩
    obtain ⟨y307, hy307⟩ : ∃ y_ : List Int, y_ = (x6_1 ++ [bt a1 x7_1]) := ⟨_, rfl⟩
    replace H : (F63.l0 k1 a1 y307 (wrap64 (x7_1 + 1)) a0_0 a0_1 a0_2 a0_3) = some (r1, r2) := by first | (rw [hy307]; exact H) | exact H
    have Ny307 := am_ hy307
    clear hy307
    have H' := am_ H
    clear H
    have p8 : 0 ≤ (x7_1 : Int) := od_
    have q8 : x7_1 < (a1.size : Int) := od_
    have hx8 := bt_at a1 x7_1
    replace p8 := eq_true p8
    replace q8 := eq_true q8
    obtain ⟨hcz33_0, hcz33_1, hcz33_2, hcz33_3, hfz33_0, hfz33_1, hfz33_2, hfz33_3⟩ := cellsF4 BK298.out
    go_wp2_with (first | ((with_reducible refine gate_callee (f := 106) rfl ?_); refine gl_ 45 Try.func106 #[.agg #[.int .i64 a0_0, .int .i64 a0_1, .int .i64 a0_2, .int .i64 a0_3], .int .u8 (bt a1 x7_1)] ?_ rfl rfl rfl rfl; (with_reducible refine (F106.calls k1 a0_0 a0_1 a0_2 a0_3 (bt a1 x7_1) false _ A28.out).mono ?_); rintro e w34 ⟨rfl, hb⟩; refine ⟨_, rfl, ?_⟩; replace HO_6 := am_ (Kd.R_below (rk_ HO_6) hb); replace BK298 := bb_ BK298 hb; replace HB := hs_ w hb; (try clear hb)) | ((with_reducible refine gate_builtin (b := .append) (xs := #[.tmp 47, .tmp 49]) rfl ?_); at_builtin; refine Kd.R_append (Kd.int .u8) (w0 := w) w.heap.size rfl (.tmp 47) (.tmp 49) 36 5 (.int .u8 0) 1 rfl Try.underlying36 info5 rfl (by decide) (by omega) u6 x6_1 (bt a1 x7_1) [.int .u8 (bt a1 x7_1)] (fun _ => True) (fun _ => False) rfl rfl ?aP (fun _ hk => hk.elim) ?aF ?aO ?aB ?aS ?aL ?_; (case aP => exact rfl); (case aB => exact bl_); (case aF => exact (fun _ _ => trivial)); (case aO => exact (rk_ HO_6)); (case aS => exact (below_size bl_)); (case aL => have := LMc32.out; omega); intro v308 w35 ho hb hg hat; rw [← Ny307.out] at ho; have n0_ := am_ (bg_ BK298 hg (Kd.R_ne HO_6.out BK298.out (by decide))); have n1_ := am_ (hb); have n2_ := am_ (ho); clear BK298; clear HB; clear HO_6; have BK298 := n0_; have HB := n1_; have HO309 := n2_; clear n0_ n1_ n2_; clear ho hb hg hat))
    go_roundg k1
    case measure => have := HK1.out; omega
    case rel => exact ⟨(y307), (wrap64 (x7_1 + 1)), er_, H', ⟨by have := HK1.out; omega⟩, ⟨rk_ HO309⟩, ⟨bk_ BK298⟩, ⟨bl_⟩⟩
   rw [if_pos c9] at H
   have c9b0 : ((wrap64 (bt a1 x7_1)) == a0_3) = true := beq_iff_eq.mpr c9
   have c9b1 : ((wrap64 (bt a1 x7_1)) != a0_3) = false := bne_eq_false_iff_eq.mpr c9
   clear c9
   by_cases c10 : (wrap64 (x7_1 + 1)) = (a1.size : Int)
   ·rw [if_pos c10] at H
    have c10b0 : ((wrap64 (x7_1 + 1)) == (a1.size : Int)) = true := beq_iff_eq.mpr c10
    have c10b1 : ((wrap64 (x7_1 + 1)) != (a1.size : Int)) = false := bne_eq_false_iff_eq.mpr c10
    clear c10
    simp only [Option.some.injEq, Prod.mk.injEq] at H
    obtain ⟨rfl, rfl⟩ := H
    have p8 : 0 ≤ (x7_1 : Int) := od_
    have q8 : x7_1 < (a1.size : Int) := od_
    have hx8 := bt_at a1 x7_1
    replace p8 := eq_true p8
    replace q8 := eq_true q8
    obtain ⟨hcz11_0, hcz11_1, hcz11_2, hcz11_3, hfz11_0, hfz11_1, hfz11_2, hfz11_3⟩ := cellsF4 BK298.out
    try go_wp2
    replace HO_6 := am_ (Kd.R_drew HO_6.out)
    replace BK298 := bd_ BK298
    replace HB := am_ (below_drew1 HB.out)
    refine start_ (n := 12) (S := fun w' => True) (ds := []) (bs 12 0) (by kernel_rfl) rfl rfl trivial (fun hHeld => ?_); refine with_tabW F63.tab8 F63.bits8 (fun HT_ HW_ => ?_)
    generalize wr.drew = w12 at HO_6 BK298 HB hHeld ⊢
    refine pu_ 0 26 (bs 12 1) HT_ ?_ rfl rfl
    refine pu_ 1 27 (bs 12 3) HT_ ?_ rfl rfl
    refine pu_ 2 28 (bs 12 7) HT_ ?_ rfl rfl
    refine pu_ 3 29 (bs 12 15) HT_ ?_ rfl rfl
    refine pu_ 4 30 (bs 12 31) HT_ ?_ rfl rfl
    refine pv_ 5 31 (bs 12 63) HT_ ?_ rfl rfl
    refine pv_ 6 32 (bs 12 127) HT_ ?_ rfl rfl
    refine pv_ 7 33 (bs 12 255) HT_ ?_ rfl rfl
    refine pv_ 8 34 (bs 12 511) HT_ ?_ rfl rfl
    refine pv_ 9 35 (bs 12 1023) HT_ ?_ rfl rfl
    refine pv_ 10 36 (bs 12 2047) HT_ ?_ rfl rfl
    refine pu_ 11 37 (bs 12 4095) HT_ ?_ rfl rfl
    refine done_ (done_of HT_.out (by kernel_rfl)) ?_
    try go_wp2
    go_ret2
    exact ⟨au3_0, bl_⟩
   rw [if_neg c10] at H
   have c10b0 : ((wrap64 (x7_1 + 1)) == (a1.size : Int)) = false := beq_eq_false_iff_ne.mpr c10
   have c10b1 : ((wrap64 (x7_1 + 1)) != (a1.size : Int)) = true := bne_iff_ne.mpr c10
   obtain ⟨ji13, hji13⟩ : ∃ j_ : Int, (wrap64 (x7_1 + 1)) = j_ := ⟨_, rfl⟩
   replace H : (if 0 ≤ (ji13) then (if (ji13) < (a1.size : Int) then ((F106.f k1 a0_0 a0_1 a0_2 a0_3 (bt a1 (ji13))).bind fun t302 => (if t302 = true then (if x6_1.length < 140737488355328 then (F63.l0 k1 a1 (x6_1 ++ [bt a1 (ji13)]) (wrap64 ((ji13) + 1)) a0_0 a0_1 a0_2 a0_3) else (none)) else (some ((⟨#[]⟩ : ByteArray), wrap64 ((ji13) - 1))))) else (none)) else (none)) = some (r1, r2) := by first | (rw [hji13] at H; exact H) | (simp only [hji13] at H ⊢; exact H)
   (try rw [hji13] at c10b0)
   (try rw [hji13] at c10b1)
   have hji13w : (IntKind.i64.wrap (x7_1 + 1)) = ji13 := (i64_w _).trans hji13
   replace H := itn_ H; rcases H with ⟨c14b0, H⟩
   replace H := itn_ H; rcases H with ⟨c15b0, H⟩
   replace H := bi_ H; rcases H with ⟨t302, A17, H⟩
   replace H := ib_ H; rcases H with ⟨rfl, H⟩ | ⟨rfl, H⟩
   rotate_left
   ·simp only [Option.some.injEq, Prod.mk.injEq] at H
    obtain ⟨rfl, rfl⟩ := H
    have p8 : 0 ≤ (x7_1 : Int) := od_
    have q8 : x7_1 < (a1.size : Int) := od_
    have hx8 := bt_at a1 x7_1
    replace p8 := eq_true p8
    replace q8 := eq_true q8
    obtain ⟨hcz25_0, hcz25_1, hcz25_2, hcz25_3, hfz25_0, hfz25_1, hfz25_2, hfz25_3⟩ := cellsF4 BK298.out
    try go_wp2
    replace HO_6 := am_ (Kd.R_drew HO_6.out)
    replace BK298 := bd_ BK298
    replace HB := am_ (below_drew1 HB.out)
    have p16 : 0 ≤ ((ji13) : Int) := od_
    have q16 : (ji13) < (a1.size : Int) := od_
    have hx16 := bt_at a1 (ji13)
    replace p16 := eq_true p16
    replace q16 := eq_true q16
    refine start_ (n := 12) (S := fun w' => w'.cell? ⟨gb298, 0, none⟩ = some (.int .i64 a0_0) ∧ w'.cell? ⟨gb298, 1, none⟩ = some (.int .i64 a0_1) ∧ w'.cell? ⟨gb298, 2, none⟩ = some (.int .i64 a0_2) ∧ w'.cell? ⟨gb298, 3, none⟩ = some (.int .i64 a0_3)) (ds := []) (bs 12 0) (by kernel_rfl) rfl rfl ⟨(blk_cell BK298.out 0).trans rfl, (blk_cell BK298.out 1).trans rfl, (blk_cell BK298.out 2).trans rfl, (blk_cell BK298.out 3).trans rfl⟩ (fun hHeld => ?_); refine with_tabW F63.tab8 F63.bits8 (fun HT_ HW_ => ?_)
    generalize wr.drew = w26 at HO_6 BK298 HB hHeld ⊢
    refine pu_ 0 26 (bs 12 1) HT_ ?_ rfl rfl
    refine pu_ 1 27 (bs 12 3) HT_ ?_ rfl rfl
    refine pu_ 2 28 (bs 12 7) HT_ ?_ rfl rfl
    refine pu_ 3 29 (bs 12 15) HT_ ?_ rfl rfl
    refine pu_ 4 30 (bs 12 31) HT_ ?_ rfl rfl
    refine pu_ 6 32 (bs 12 95) HT_ ?_ rfl rfl
    refine pu_ 7 33 (bs 12 223) HT_ ?_ rfl rfl
    refine tk_ 5 31 (bs 12 255) HT_ HW_ hHeld au3_10 ?_ rfl rfl
    refine tk_ 8 34 (bs 12 511) HT_ HW_ hHeld au3_10 ?_ rfl rfl
    refine one_ (i := 9) (N := some 35) (bs 12 1023) rfl rfl (one_of HT_.out (by kernel_rfl)) (by decide) (fun K hK => ?_)
    refine goes_ Try.func106 (by kernel_rfl) rfl #[.agg #[.int .i64 a0_0, .int .i64 a0_1, .int .i64 a0_2, .int .i64 a0_3], .int .u8 (bt a1 (ji13))] (by rfl) rfl rfl au3_9 ?_
    with_reducible refine (F106.calls k1 a0_0 a0_1 a0_2 a0_3 (bt a1 (ji13)) false _ A17.out).mono ?_
    rintro e w27 ⟨rfl, hb⟩
    refine ⟨_, rfl, ?_⟩
    replace HO_6 := am_ (Kd.R_below (rk_ HO_6) hb)
    replace BK298 := bb_ BK298 hb
    replace HB := hs_ w hb
    (try clear hb)
    (try clear hb2)
    (try clear hk)
    (try clear hi)
    refine hK.out _ _ ⟨(blk_cell BK298.out 0).trans rfl, (blk_cell BK298.out 1).trans rfl, (blk_cell BK298.out 2).trans rfl, (blk_cell BK298.out 3).trans rfl⟩ (fun hHeld => ?_)
    clear hK K
    refine no_ 35 ?_
    refine pu_ 10 36 (bs 12 2047) HT_ ?_ rfl rfl
    refine pu_ 11 37 (bs 12 4095) HT_ ?_ rfl rfl
    refine done_ (done_of HT_.out (by kernel_rfl)) ?_
    try go_wp2
    go_ret2
    exact ⟨by first | rfl | (simp [errW_none, errW_some] <;> rfl) | (simp only [← hji13]; first | rfl | (simp [errW_none, errW_some] <;> rfl)) | (simp [*, errW_none, errW_some] <;> rfl), bl_⟩
   replace H := iln_ H; rcases H with ⟨LMc20, H⟩
   obtain ⟨y303, hy303⟩ : ∃ y_ : List Int, y_ = (x6_1 ++ [bt a1 (ji13)]) := ⟨_, rfl⟩
   replace H : (F63.l0 k1 a1 y303 (wrap64 ((ji13) + 1)) a0_0 a0_1 a0_2 a0_3) = some (r1, r2) := by first | (rw [hy303]; exact H) | exact H
   have Ny303 := am_ hy303
   clear hy303
   have H' := am_ H
   clear H
   have p8 : 0 ≤ (x7_1 : Int) := od_
   have q8 : x7_1 < (a1.size : Int) := od_
   have hx8 := bt_at a1 x7_1
   replace p8 := eq_true p8
   replace q8 := eq_true q8
   obtain ⟨hcz21_0, hcz21_1, hcz21_2, hcz21_3, hfz21_0, hfz21_1, hfz21_2, hfz21_3⟩ := cellsF4 BK298.out
   try go_wp2
   replace HO_6 := am_ (Kd.R_drew HO_6.out)
   replace BK298 := bd_ BK298
   replace HB := am_ (below_drew1 HB.out)
   have p16 : 0 ≤ ((ji13) : Int) := od_
   have q16 : (ji13) < (a1.size : Int) := od_
   have hx16 := bt_at a1 (ji13)
   replace p16 := eq_true p16
   replace q16 := eq_true q16
   refine start_ (n := 12) (S := fun w' => w'.cell? ⟨gb298, 0, none⟩ = some (.int .i64 a0_0) ∧ w'.cell? ⟨gb298, 1, none⟩ = some (.int .i64 a0_1) ∧ w'.cell? ⟨gb298, 2, none⟩ = some (.int .i64 a0_2) ∧ w'.cell? ⟨gb298, 3, none⟩ = some (.int .i64 a0_3)) (ds := []) (bs 12 0) (by kernel_rfl) rfl rfl ⟨(blk_cell BK298.out 0).trans rfl, (blk_cell BK298.out 1).trans rfl, (blk_cell BK298.out 2).trans rfl, (blk_cell BK298.out 3).trans rfl⟩ (fun hHeld => ?_); refine with_tabW F63.tab8 F63.bits8 (fun HT_ HW_ => ?_)
   generalize wr.drew = w22 at HO_6 BK298 HB hHeld ⊢
   refine pu_ 0 26 (bs 12 1) HT_ ?_ rfl rfl
   refine pu_ 1 27 (bs 12 3) HT_ ?_ rfl rfl
   refine pu_ 2 28 (bs 12 7) HT_ ?_ rfl rfl
   refine pu_ 3 29 (bs 12 15) HT_ ?_ rfl rfl
   refine pu_ 4 30 (bs 12 31) HT_ ?_ rfl rfl
   refine pu_ 6 32 (bs 12 95) HT_ ?_ rfl rfl
   refine pu_ 7 33 (bs 12 223) HT_ ?_ rfl rfl
   refine tk_ 5 31 (bs 12 255) HT_ HW_ hHeld au3_10 ?_ rfl rfl
   refine tk_ 8 34 (bs 12 511) HT_ HW_ hHeld au3_10 ?_ rfl rfl
   refine one_ (i := 9) (N := some 35) (bs 12 1023) rfl rfl (one_of HT_.out (by kernel_rfl)) (by decide) (fun K hK => ?_)
   refine goes_ Try.func106 (by kernel_rfl) rfl #[.agg #[.int .i64 a0_0, .int .i64 a0_1, .int .i64 a0_2, .int .i64 a0_3], .int .u8 (bt a1 (ji13))] (by rfl) rfl rfl au3_9 ?_
   with_reducible refine (F106.calls k1 a0_0 a0_1 a0_2 a0_3 (bt a1 (ji13)) true _ A17.out).mono ?_
   rintro e w23 ⟨rfl, hb⟩
   refine ⟨_, rfl, ?_⟩
   replace HO_6 := am_ (Kd.R_below (rk_ HO_6) hb)
   replace BK298 := bb_ BK298 hb
   replace HB := hs_ w hb
   (try clear hb)
   (try clear hb2)
   (try clear hk)
   (try clear hi)
   refine hK.out _ _ ⟨(blk_cell BK298.out 0).trans rfl, (blk_cell BK298.out 1).trans rfl, (blk_cell BK298.out 2).trans rfl, (blk_cell BK298.out 3).trans rfl⟩ (fun hHeld => ?_)
   clear hK K
   refine no_ 35 ?_
   refine pu_ 10 36 (bs 12 2047) HT_ ?_ rfl rfl
   refine pu_ 11 37 (bs 12 4095) HT_ ?_ rfl rfl
   refine done_ (done_of HT_.out (by kernel_rfl)) ?_
   have p19 : 0 ≤ ((ji13) : Int) := od_
   have q19 : (ji13) < (a1.size : Int) := od_
   have hx19 := bt_at a1 (ji13)
   replace p19 := eq_true p19
   replace q19 := eq_true q19
   try go_wp2_with (first | ((with_reducible refine gate_builtin (b := .append) (xs := #[.tmp 47, .tmp 49]) rfl ?_); at_builtin; refine Kd.R_append (Kd.int .u8) (w0 := w) w.heap.size rfl (.tmp 47) (.tmp 49) 36 5 (.int .u8 0) 1 rfl Try.underlying36 info5 rfl (by decide) (by omega) u6 x6_1 (bt a1 (ji13)) [.int .u8 (bt a1 (ji13))] (fun _ => True) (fun _ => False) rfl rfl ?aP (fun _ hk => hk.elim) ?aF ?aO ?aB ?aS ?aL ?_; (case aP => exact rfl); (case aB => exact bl_); (case aF => exact (fun _ _ => trivial)); (case aO => exact (rk_ HO_6)); (case aS => exact (below_size bl_)); (case aL => have := LMc20.out; omega); intro v304 w24 ho hb hg hat; rw [← Ny303.out] at ho; have n0_ := am_ (bg_ BK298 hg (Kd.R_ne HO_6.out BK298.out (by decide))); have n1_ := am_ (hb); have n2_ := am_ (ho); clear BK298; clear HB; clear HO_6; have BK298 := n0_; have HB := n1_; have HO305 := n2_; clear n0_ n1_ n2_; clear ho hb hg hat))
   go_roundg k1
   case measure => have := HK1.out; omega
   case rel => exact ⟨(y303), (wrap64 ((ji13) + 1)), (by first | rfl | (simp; done) | (simp only [← hji13] <;> (first | rfl | simp)) | (simp [*]; done)), H', ⟨by have := HK1.out; omega⟩, ⟨rk_ HO305⟩, ⟨bk_ BK298⟩, ⟨bl_⟩⟩
/-! ### F112: function 112 -/
def F112.l0 : Nat → ByteArray → Int → Int → Option (Bool)
  | 0, _, _, _ => none
  | k + 1, x0, x5, x6 => if x6 < x5 then (if 0 ≤ x6 then (if x6 < (x0.size : Int) then (if (bt x0 x6) < 32 then (some false) else (if (bt x0 x6) > 126 then (some false) else (F112.l0 k x0 x5 (wrap64 (x6 + 1))))) else (none)) else (none)) else (some true)
def F112.f (k : Nat) (a0 : ByteArray) : Option (Bool) := F112.l0 k a0 (a0.size : Int) 0
theorem F112.mono_l : ∀ k, (∀ y0 y1 y2, LeO (F112.l0 k y0 y1 y2) (F112.l0 (k + 1) y0 y1 y2))
 | 0 => fun _ _ _ r h => by simp [F112.l0] at h
 | k + 1 => by
  have ih0 := F112.mono_l k
  intro y0 y1 y2
  unfold F112.l0
  repeat' with_reducible first | exact ih0 _ _ _ | exact LeO.refl _ | exact LeO.none _ | refine LeO.ite ?_ ?_ | refine LeO.bind ?_ (fun _ => ?_)
theorem F112.mono : ∀ a0 k, LeO (F112.f k a0) (F112.f (k + 1) a0) := by
 intro a0 k
 have ih0 := F112.mono_l k
 unfold F112.f
 repeat' with_reducible first | exact ih0 _ _ _ | exact LeO.refl _ | exact LeO.none _ | refine LeO.ite ?_ ?_ | refine LeO.bind ?_ (fun _ => ?_)
theorem F112.calls (k : Nat) (a0 : ByteArray) (r : Bool) (w : World) (h : F112.f k a0 = some r) :
  Calls Try.prog 112 #[.string a0] w fun e w' => e = .returned (.bool r) ∧ Drawn0 w w' := by
 have H : (F112.l0 k a0 (a0.size : Int) 0) = some r := h
 clear h
 have H' := am_ H
 clear H
 go_enter Try.func112, Try.ntmps112
 go_wp2
 go_loopg [6] k (fun kq v6 w' => ∃ (x6_1 : Int), v6 = .int .i64 x6_1 ∧ Aside0 (F112.l0 kq a0 (a0.size : Int) x6_1 = some r) ∧ Aside0 (kq ≤ k) ∧ Drawn0 w w')
 case atStart => exact ⟨(0), er_, H', ⟨Nat.le_refl _⟩, dn_⟩
 case round =>
  clear H'
  obtain ⟨x6_1, rfl, HA, HK1, ⟨m1, rfl⟩⟩ := hrel
  cases gk with
  | zero => exact absurd HA.out (by simp [F112.l0])
  | succ k1 =>
   have H := HA.out
   clear HA
   simp only [F112.l0] at H
   replace H := it_ H; rcases H with ⟨c2b0, H⟩ | ⟨c2b0, H⟩
   rotate_left
   ·obtain rfl := Option.some.inj H
    go_wp2
    go_ret
    exact ⟨er_, dn_⟩

   replace H := itn_ H; rcases H with ⟨c3b0, H⟩
   replace H := itn_ H; rcases H with ⟨c4b0, H⟩
   replace H := it_ H; rcases H with ⟨c6b0, H⟩ | ⟨c6b0, H⟩
   ·obtain rfl := Option.some.inj H
    have p5 : 0 ≤ (x6_1 : Int) := od_
    have q5 : x6_1 < (a0.size : Int) := od_
    have hx5 := bt_at a0 x6_1
    replace p5 := eq_true p5
    replace q5 := eq_true q5
    go_wp2
    go_ret
    exact ⟨er_, dn_⟩
   replace H := it_ H; rcases H with ⟨(c8b0 : decide (126 < (bt a0 x6_1)) = true), H⟩ | ⟨(c8b0 : decide (126 < (bt a0 x6_1)) = false), H⟩
   ·obtain rfl := Option.some.inj H
    have p5 : 0 ≤ (x6_1 : Int) := od_
    have q5 : x6_1 < (a0.size : Int) := od_
    have hx5 := bt_at a0 x6_1
    replace p5 := eq_true p5
    replace q5 := eq_true q5
    have p7 : 0 ≤ (x6_1 : Int) := od_
    have q7 : x6_1 < (a0.size : Int) := od_
    have hx7 := bt_at a0 x6_1
    replace p7 := eq_true p7
    replace q7 := eq_true q7
    go_wp2
    go_ret
    exact ⟨er_, dn_⟩
   have H' := am_ H
   clear H
   have p5 : 0 ≤ (x6_1 : Int) := od_
   have q5 : x6_1 < (a0.size : Int) := od_
   have hx5 := bt_at a0 x6_1
   replace p5 := eq_true p5
   replace q5 := eq_true q5
   have p7 : 0 ≤ (x6_1 : Int) := od_
   have q7 : x6_1 < (a0.size : Int) := od_
   have hx7 := bt_at a0 x6_1
   replace p7 := eq_true p7
   replace q7 := eq_true q7
   go_wp2
   go_roundg k1
   case measure => have := HK1.out; omega
   case rel => exact ⟨(wrap64 (x6_1 + 1)), er_, H', ⟨by have := HK1.out; omega⟩, dn_⟩
/-! ### F82: function 82 -/
def F82.f (k : Nat) (a0 : ByteArray) : Option (Bool) := if (a0.size : Int) ≤ 40 then ((F112.f k a0).bind fun t310 => (some t310)) else (some false)
theorem F82.mono : ∀ a0 k, LeO (F82.f k a0) (F82.f (k + 1) a0) := by
 intro a0 k
 unfold F82.f
 repeat' with_reducible first | exact F112.mono _ _ | exact LeO.refl _ | exact LeO.none _ | refine LeO.ite ?_ ?_ | refine LeO.bind ?_ (fun _ => ?_)
theorem F82.calls (k : Nat) (a0 : ByteArray) (r : Bool) (w : World) (h : F82.f k a0 = some r) :
  Calls Try.prog 82 #[.string a0] w fun e w' => e = .returned (.bool r) ∧ Drawn0 w w' := by
 have H : (if (a0.size : Int) ≤ 40 then ((F112.f k a0).bind fun t310 => (some t310)) else (some false)) = some r := h
 clear h
 replace H := it_ H; rcases H with ⟨c2b0, H⟩ | ⟨c2b0, H⟩
 rotate_left
 ·have c2b1 : decide (a0.size ≤ 40) = false := n2_ c2b0
  obtain rfl := Option.some.inj H
  go_enter Try.func82, Try.ntmps82
  go_wp2
  go_ret
  exact ⟨er_, dn_⟩

 have c2b1 : decide (a0.size ≤ 40) = true := n2_ c2b0
 replace H := bi_ H; rcases H with ⟨t310, A3, H⟩
 obtain rfl := Option.some.inj H
 go_enter Try.func82, Try.ntmps82
 go_wp2_with (first | (go_at_call 112; (with_reducible refine (F112.calls k a0 t310 _ A3.out).mono ?_); rintro e w' ⟨rfl, ⟨nd, rfl⟩⟩))
 go_ret
 exact ⟨er_, dn_⟩
/-! ### F88: function 88 -/
def F88.l0 : Nat → Int → List ByteArray → Int → List ByteArray → Int → Int → Int → Int → Int → Int → List ByteArray → Option (List ByteArray × Int)
  | 0, _, _, _, _, _, _, _, _, _, _, _ => none
  | k + 1, x2, x8, x10, x27, x28, x29, x312000, x312001, x312002, x312003, x317000 => if x29 < x28 then (if 0 ≤ x29 then (if x29 < (x27.length : Int) then ((F63.f k x312000 x312001 x312002 x312003 (rdOf ByteArray.empty x27 x29)).bind fun bt319 => (if bt319.2 ≥ 0 then (some (x317000, wrap64 (x10 + bt319.2))) else ((F82.f k bt319.1).bind fun t321 => (if t321 = true then (if x317000.length < 8796093022208 then (F88.l0 k x2 x8 (wrap64 (x10 + (wrap64 (((rdOf ByteArray.empty x27 x29).size : Int) + 1)))) x27 x28 (wrap64 (x29 + 1)) x312000 x312001 x312002 x312003 (x317000 ++ [bt319.1])) else (none)) else (some (x317000, x10)))))) else (none)) else (none)) else (if (x8.length : Int) > 1 then (if 0 ≤ (wrap64 ((x8.length : Int) - 1)) then (if (wrap64 ((x8.length : Int) - 1)) < (x317000.length : Int) then (if (rdOf ByteArray.empty x317000 (wrap64 ((x8.length : Int) - 1))).toList = ([] : List UInt8) then (some (x317000, x2)) else (some (x317000, (-1)))) else (none)) else (none)) else (some (x317000, (-1))))
def F88.f (k : Nat) (a0_0 : Int) (a0_1 : Int) (a0_2 : Int) (a0_3 : Int) (a1 : ByteArray) (a2 : Int) : Option (List ByteArray × Int) := (F69.f k a0_0 a0_1 a0_2 a0_3 a1 a0_2).bind fun t313 => (if (t313.length : Int) > 4 then (some (([] : List ByteArray), a2)) else (F88.l0 k a2 t313 a2 t313 (t313.length : Int) 0 a0_0 a0_1 a0_2 a0_3 ([] : List ByteArray)))
theorem F88.mono_l : ∀ k, (∀ y0 y1 y2 y3 y4 y5 y6 y7 y8 y9 y10, LeO (F88.l0 k y0 y1 y2 y3 y4 y5 y6 y7 y8 y9 y10) (F88.l0 (k + 1) y0 y1 y2 y3 y4 y5 y6 y7 y8 y9 y10))
 | 0 => fun _ _ _ _ _ _ _ _ _ _ _ r h => by simp [F88.l0] at h
 | k + 1 => by
  have ih0 := F88.mono_l k
  intro y0 y1 y2 y3 y4 y5 y6 y7 y8 y9 y10
  unfold F88.l0
  repeat' with_reducible first | exact ih0 _ _ _ _ _ _ _ _ _ _ _ | exact F69.mono _ _ _ _ _ _ _ | exact F63.mono _ _ _ _ _ _ | exact F82.mono _ _ | exact LeO.refl _ | exact LeO.none _ | refine LeO.ite ?_ ?_ | refine LeO.bind ?_ (fun _ => ?_)
theorem F88.mono : ∀ a0 a1 a2 a3 a4 a5 k, LeO (F88.f k a0 a1 a2 a3 a4 a5) (F88.f (k + 1) a0 a1 a2 a3 a4 a5) := by
 intro a0 a1 a2 a3 a4 a5 k
 have ih0 := F88.mono_l k
 unfold F88.f
 repeat' with_reducible first | exact ih0 _ _ _ _ _ _ _ _ _ _ _ | exact F69.mono _ _ _ _ _ _ _ | exact F63.mono _ _ _ _ _ _ | exact F82.mono _ _ | exact LeO.refl _ | exact LeO.none _ | refine LeO.ite ?_ ?_ | refine LeO.bind ?_ (fun _ => ?_)
theorem F88.calls (k : Nat) (a0_0 : Int) (a0_1 : Int) (a0_2 : Int) (a0_3 : Int) (a1 : ByteArray) (a2 : Int) (r1 : List ByteArray) (r2 : Int) (w : World) (h : F88.f k a0_0 a0_1 a0_2 a0_3 a1 a2 = some (r1, r2)) :
  Calls Try.prog 88 #[.agg #[.int .i64 a0_0, .int .i64 a0_1, .int .i64 a0_2, .int .i64 a0_3], .string a1, .int .i64 a2] w fun e w' => ∃ v0_ : Value, e = .returned (.tuple #[.agg #[v0_], .int .i64 r2]) ∧ Kd.R Kd.string 9 w' w.heap.size (fun _ => True) v0_ r1 ∧ Below w.heap.size w w' := by
 have hu23 := Try.underlying23
 have hu102 := Try.underlying102
 have HB := am_ (Below.refl w.heap.size w)
 have H : ((F69.f k a0_0 a0_1 a0_2 a0_3 a1 a0_2).bind fun t313 => (if (t313.length : Int) > 4 then (some (([] : List ByteArray), a2)) else (F88.l0 k a2 t313 a2 t313 (t313.length : Int) 0 a0_0 a0_1 a0_2 a0_3 ([] : List ByteArray)))) = some (r1, r2) := h
 clear h
 replace H := bi_ H; rcases H with ⟨t313, A4, H⟩
 replace H := it_ H; rcases H with ⟨(c5b0 : decide (4 < (t313.length : Int)) = true), H⟩ | ⟨(c5b0 : decide (4 < (t313.length : Int)) = false), H⟩
 ·have c5b1 : decide (4 < t313.length) = true := n2_ c5b0
  simp only [Option.some.injEq, Prod.mk.injEq] at H
  obtain ⟨rfl, rfl⟩ := H
  go_enter Try.func88, Try.ntmps88
  go_wp2_with (first | ((with_reducible refine gate_dst (N := 3) rfl ?_); (try (refine gate_guard (by rfl) ?_; dsimp only)); refine be_ 3 #[.int .i64 a0_0, .int .i64 a0_1, .int .i64 a0_2, .int .i64 a0_3] 23 ?_; intro gb311 hg w6 hbox hb; have BK311 := am_ (hbox); have GW311 := am_ (gw_ hg bl_); have GE311 := GW311; replace HB := hs_ w hb; clear hb hbox hg) | ((with_reducible refine gate_dst (N := 6) rfl ?_); (try (refine gate_guard (by rfl) ?_; dsimp only)); refine be_ 6 #[.slice none 0 0] 102 ?_; intro gb312 hg w7 hbox hb; have BK312 := am_ (hbox); have GW312 := am_ (gw_ hg bl_); have GE312 := GW312; replace HB := hs_ w hb; have NB311_312 := am_ (gn_ hg (blkl_ BK311)); have NB312_311 := am_ (gm_ hg (blkl_ BK311)); replace BK311 := bb_ BK311 hb; clear hb hbox hg; have hnb8 := NB311_312.out; have hnc8 := NB312_311.out; obtain ⟨hcz9_0, hcz9_1, hcz9_2, hcz9_3, hfz9_0, hfz9_1, hfz9_2, hfz9_3⟩ := cellsF4 BK311.out) | (go_at_call 69; (with_reducible refine (F69.calls k a0_0 a0_1 a0_2 a0_3 a1 a0_2 t313 _ A4.out).mono ?_); rintro e w10 ⟨v314, rfl, ho0, hb⟩; (try clear A4); have HO315 := am_ (Kd.R_lower ho0 (below_size bl_)); replace BK311 := bb_ BK311 hb; replace BK312 := bb_ BK312 hb; replace HB := hs_ w hb; (try clear hb); (try clear ho0)) | ((with_reducible refine gate_dst (N := 9) rfl ?_); (try (refine gate_guard (by rfl) ?_; dsimp only)); refine be_ 9 #[.slice none 0 0] 102 ?_; intro gb316 hg w11 hbox hb; replace HO315 := am_ (Kd.R_below (rk_ HO315) hb); have BK316 := am_ (hbox); have GW316 := am_ (gw_ hg bl_); have GE316 := GW316; replace HB := hs_ w hb; have NB311_316 := am_ (gn_ hg (blkl_ BK311)); have NB316_311 := am_ (gm_ hg (blkl_ BK311)); replace BK311 := bb_ BK311 hb; have NB312_316 := am_ (gn_ hg (blkl_ BK312)); have NB316_312 := am_ (gm_ hg (blkl_ BK312)); replace BK312 := bb_ BK312 hb; clear hb hbox hg; have hnb12 := NB316_311.out; have hnc12 := NB311_316.out; have hnb13 := NB316_312.out; have hnc13 := NB312_316.out; have hcz14_0 : w11.cell? ⟨gb316, 0, none⟩ = some (.slice none 0 0) := (blk_cell BK316.out 0).trans rfl; have hfz14_0 := blk_frozen BK316.out 0; obtain ⟨Ao15, co15, eo15⟩ := Kd.R_slice HO315.out; subst eo15; have hcz16_0 : w11.cell? ⟨gb312, 0, none⟩ = some (.slice none 0 0) := (blk_cell BK312.out 0).trans rfl; have hfz16_0 := blk_frozen BK312.out 0))
  refine bodyPost_ret (results_ct rfl _ _ gb312 102 #[.slice none 0 0] (0, 0) _ rfl (bq_ BK312) Try.underlying102 rfl (by kernel_rfl)) rfl ?_
  exact ⟨_, au3_0, au3_11, bl_⟩
 have c5b1 : decide (4 < t313.length) = false := n2_ c5b0
 have H' := am_ H
 clear H
 go_enter Try.func88, Try.ntmps88
 go_wp2_with (first | ((with_reducible refine gate_dst (N := 3) rfl ?_); (try (refine gate_guard (by rfl) ?_; dsimp only)); refine be_ 3 #[.int .i64 a0_0, .int .i64 a0_1, .int .i64 a0_2, .int .i64 a0_3] 23 ?_; intro gb311 hg w17 hbox hb; have BK311 := am_ (hbox); have GW311 := am_ (gw_ hg bl_); have GE311 := GW311; replace HB := hs_ w hb; clear hb hbox hg) | ((with_reducible refine gate_dst (N := 6) rfl ?_); (try (refine gate_guard (by rfl) ?_; dsimp only)); refine be_ 6 #[.slice none 0 0] 102 ?_; intro gb312 hg w18 hbox hb; have BK312 := am_ (hbox); have GW312 := am_ (gw_ hg bl_); have GE312 := GW312; replace HB := hs_ w hb; have NB311_312 := am_ (gn_ hg (blkl_ BK311)); have NB312_311 := am_ (gm_ hg (blkl_ BK311)); replace BK311 := bb_ BK311 hb; clear hb hbox hg; have hnb19 := NB311_312.out; have hnc19 := NB312_311.out; obtain ⟨hcz20_0, hcz20_1, hcz20_2, hcz20_3, hfz20_0, hfz20_1, hfz20_2, hfz20_3⟩ := cellsF4 BK311.out) | (go_at_call 69; (with_reducible refine (F69.calls k a0_0 a0_1 a0_2 a0_3 a1 a0_2 t313 _ A4.out).mono ?_); rintro e w21 ⟨v314, rfl, ho0, hb⟩; (try clear A4); have HO315 := am_ (Kd.R_lower ho0 (below_size bl_)); replace BK311 := bb_ BK311 hb; replace BK312 := bb_ BK312 hb; replace HB := hs_ w hb; (try clear hb); (try clear ho0)) | ((with_reducible refine gate_dst (N := 9) rfl ?_); (try (refine gate_guard (by rfl) ?_; dsimp only)); refine be_ 9 #[.slice none 0 0] 102 ?_; intro gb316 hg w22 hbox hb; replace HO315 := am_ (Kd.R_below (rk_ HO315) hb); have BK316 := am_ (hbox); have GW316 := am_ (gw_ hg bl_); have GE316 := GW316; replace HB := hs_ w hb; have NB311_316 := am_ (gn_ hg (blkl_ BK311)); have NB316_311 := am_ (gm_ hg (blkl_ BK311)); replace BK311 := bb_ BK311 hb; have NB312_316 := am_ (gn_ hg (blkl_ BK312)); have NB316_312 := am_ (gm_ hg (blkl_ BK312)); replace BK312 := bb_ BK312 hb; clear hb hbox hg; have hnb23 := NB316_311.out; have hnc23 := NB311_316.out; have hnb24 := NB316_312.out; have hnc24 := NB312_316.out; have hcz25_0 : w22.cell? ⟨gb316, 0, none⟩ = some (.slice none 0 0) := (blk_cell BK316.out 0).trans rfl; have hfz25_0 := blk_frozen BK316.out 0; obtain ⟨Ao26, co26, eo26⟩ := Kd.R_slice HO315.out; subst eo26))
 go_loopg [10, 29] k (fun kq v10 v29 w' => ∃ (x10_1 : Int) (x29_1 : Int) (x317000_1 : List ByteArray) (u317000 : Value), v10 = .int .i64 x10_1 ∧ v29 = .int .i64 x29_1 ∧ Aside0 (F88.l0 kq a2 t313 x10_1 t313 (t313.length : Int) x29_1 a0_0 a0_1 a0_2 a0_3 x317000_1 = some (r1, r2)) ∧ Aside0 (kq ≤ k) ∧ Aside0 (Kd.R Kd.string 9 w' w.heap.size (fun k_ => some k_ ≠ (u317000 : Value).ownBlock) (.slice Ao26 t313.length co26) t313) ∧ Aside0 (Kd.R Kd.string 9 w' w.heap.size (fun k_ => some k_ ≠ (u317000 : Value).ownBlock) (.slice Ao26 t313.length co26) t313) ∧ Aside0 (Kd.R Kd.string 9 w' w.heap.size (fun k_ => some k_ ≠ ((.slice Ao26 t313.length co26) : Value).ownBlock ∧ some k_ ≠ ((.slice Ao26 t313.length co26) : Value).ownBlock) u317000 x317000_1) ∧ Aside0 (w'.heap[gb311]? = some (.cells #[.int .i64 a0_0, .int .i64 a0_1, .int .i64 a0_2, .int .i64 a0_3] 23 (0, 0))) ∧ Aside0 (w'.heap[gb312]? = some (.cells #[(.slice none 0 0)] 102 (0, 0))) ∧ Aside0 (w'.heap[gb316]? = some (.cells #[u317000] 102 (0, 0))) ∧ Aside0 (Below w.heap.size w w'))
 case atStart => exact ⟨(a2), (0), (([] : List ByteArray)), (.slice none 0 0), er_, er_, H', ⟨Nat.le_refl _⟩, ⟨au3_6⟩, ⟨au3_6⟩, ⟨au3_11⟩, ⟨bf_ BK311⟩, ⟨bf_ BK312⟩, ⟨bq_ BK316⟩, ⟨bl_⟩⟩
 case round =>
  clear H'
  try clear c5b0
  try clear c5b1
  try clear hcz14_0
  try clear hcz16_0
  try clear hcz20_0 hcz20_1 hcz20_2 hcz20_3
  try clear hcz25_0
  try clear hcz9_0 hcz9_1 hcz9_2 hcz9_3
  try clear hfz14_0
  try clear hfz16_0
  try clear hfz20_0 hfz20_1 hfz20_2 hfz20_3
  try clear hfz25_0
  try clear hfz9_0 hfz9_1 hfz9_2 hfz9_3
  obtain ⟨x10_1, x29_1, x317000_1, u317000, rfl, rfl, HA, HK1, HO_8, HO_27, HO_317000, BK311, BK312, BK316, HB⟩ := hrel
  cases gk with
  | zero => exact absurd HA.out (by simp [F88.l0])
  | succ k1 =>
   have H := HA.out
   clear HA
   simp only [F88.l0] at H
   replace H := it_ H; rcases H with ⟨c27b0, H⟩ | ⟨c27b0, H⟩
   ·replace H := itn_ H; rcases H with ⟨c28b0, H⟩
    replace H := itn_ H; rcases H with ⟨c29b0, H⟩
    replace H := bi_ H; rcases H with ⟨⟨t319, t320⟩, A30, H⟩
    replace H := it_ H; rcases H with ⟨(c31b0 : decide (0 ≤ t320) = true), H⟩ | ⟨(c31b0 : decide (0 ≤ t320) = false), H⟩
    ·simp only [Option.some.injEq, Prod.mk.injEq] at H
     obtain ⟨rfl, rfl⟩ := H
     have p318 : 0 ≤ (x29_1 : Int) := od_
     have q318 : x29_1 < (t313.length : Int) := od_
     obtain ⟨ad318, e318, hx318_0⟩ := Kd.at_string (Kd.R_reads' HO_27.out).2.2 x29_1 p318 q318
     cases e318
     replace p318 := eq_true p318
     replace q318 := eq_true q318
     have hnb32 := NB311_312.out
     have hnc32 := NB312_311.out
     have hnb33 := NB311_316.out
     have hnc33 := NB316_311.out
     obtain ⟨hcz34_0, hcz34_1, hcz34_2, hcz34_3, hfz34_0, hfz34_1, hfz34_2, hfz34_3⟩ := cellsF4 BK311.out
     go_wp2_with (first | (go_at_call 63; (with_reducible refine (F63.calls k1 a0_0 a0_1 a0_2 a0_3 (rdOf ByteArray.empty t313 x29_1) t319 t320 _ A30.out).mono ?_); rintro e w35 ⟨rfl, hb⟩; (try clear A30); replace HO_8 := am_ (Kd.R_below (rk_ HO_8) hb); replace HO_27 := am_ (Kd.R_below (rk_ HO_27) hb); replace HO_317000 := am_ (Kd.R_below (rk_ HO_317000) hb); replace BK311 := bb_ BK311 hb; replace BK312 := bb_ BK312 hb; replace BK316 := bb_ BK316 hb; replace HB := hs_ w hb; (try clear hb); have hnb36 := NB316_312.out; have hnc36 := NB312_316.out; have hcz37_0 : w35.cell? ⟨gb316, 0, none⟩ = some (u317000) := (blk_cell BK316.out 0).trans rfl; have hfz37_0 := blk_frozen BK316.out 0; obtain ⟨Ao38, co38, eo38⟩ := Kd.R_slice HO_317000.out; subst eo38; have hcz39_0 : w35.cell? ⟨gb312, 0, none⟩ = some (.slice none 0 0) := (blk_cell BK312.out 0).trans rfl; have hfz39_0 := blk_frozen BK312.out 0))
     refine bodyPost_ret (results_ct rfl _ _ gb312 102 #[.slice Ao38 x317000_1.length co38] (0, 0) _ rfl (bq_ BK312) Try.underlying102 rfl (by kernel_rfl)) rfl ?_
     exact ⟨_, au3_0, by (with_reducible repeat (first | apply Kd.R_alloc | apply Kd.R_drewN | apply Kd.R_drew)); exact Kd.R_mono (Kd.R_far (p := ⟨gb312, 0, none⟩) (Kd.R_types HO_317000.out BK312.out (by decide)) (fun _ hk => hk.2) (.slice Ao38 x317000_1.length co38)) (fun _ hk => trivial), bl_⟩
    replace H := bi_ H; rcases H with ⟨t321, A40, H⟩
    replace H := ib_ H; rcases H with ⟨rfl, H⟩ | ⟨rfl, H⟩
    rotate_left
    ·simp only [Option.some.injEq, Prod.mk.injEq] at H
     obtain ⟨rfl, rfl⟩ := H
     have p318 : 0 ≤ (x29_1 : Int) := od_
     have q318 : x29_1 < (t313.length : Int) := od_
     obtain ⟨ad318, e318, hx318_0⟩ := Kd.at_string (Kd.R_reads' HO_27.out).2.2 x29_1 p318 q318
     cases e318
     replace p318 := eq_true p318
     replace q318 := eq_true q318
     have hnb52 := NB311_312.out
     have hnc52 := NB312_311.out
     have hnb53 := NB311_316.out
     have hnc53 := NB316_311.out
     obtain ⟨hcz54_0, hcz54_1, hcz54_2, hcz54_3, hfz54_0, hfz54_1, hfz54_2, hfz54_3⟩ := cellsF4 BK311.out
     go_wp2_with (first | (go_at_call 63; (with_reducible refine (F63.calls k1 a0_0 a0_1 a0_2 a0_3 (rdOf ByteArray.empty t313 x29_1) t319 t320 _ A30.out).mono ?_); rintro e w55 ⟨rfl, hb⟩; (try clear A30); replace HO_8 := am_ (Kd.R_below (rk_ HO_8) hb); replace HO_27 := am_ (Kd.R_below (rk_ HO_27) hb); replace HO_317000 := am_ (Kd.R_below (rk_ HO_317000) hb); replace BK311 := bb_ BK311 hb; replace BK312 := bb_ BK312 hb; replace BK316 := bb_ BK316 hb; replace HB := hs_ w hb; (try clear hb)) | (go_at_call 82; (with_reducible refine (F82.calls k1 t319 false _ A40.out).mono ?_); rintro e w' ⟨rfl, ⟨nd, rfl⟩⟩; (try clear A40); (try (rw [drewN_self w55]; generalize hq_ : World.drewN w55 _ = w55; have n0_ : Aside0 (Kd.R Kd.string 9 w55 w.heap.size (fun k_ => some k_ ≠ (u317000 : Value).ownBlock) (.slice (some ad318) t313.length co26) t313) := ⟨by rw [← hq_]; exact (rk_ HO_27)⟩; have n1_ : Aside0 (Kd.R Kd.string 9 w55 w.heap.size (fun k_ => some k_ ≠ (.slice (some ad318) t313.length co26 : Value).ownBlock ∧ some k_ ≠ (.slice (some ad318) t313.length co26 : Value).ownBlock) u317000 x317000_1) := ⟨au3_8⟩; have n2_ : Aside0 (Kd.R Kd.string 9 w55 w.heap.size (fun k_ => some k_ ≠ (u317000 : Value).ownBlock) (.slice (some ad318) t313.length co26) t313) := ⟨by rw [← hq_]; exact (rk_ HO_8)⟩; have n3_ : Aside0 (w55.heap[gb311]? = some (.cells #[.int .i64 a0_0, .int .i64 a0_1, .int .i64 a0_2, .int .i64 a0_3] 23 (0, 0))) := ⟨by rw [← hq_]; exact (bk_ BK311)⟩; have n4_ : Aside0 (w55.heap[gb312]? = some (.cells #[.slice none 0 0] 102 (0, 0))) := ⟨by rw [← hq_]; exact (bk_ BK312)⟩; have n5_ : Aside0 (w55.heap[gb316]? = some (.cells #[u317000] 102 (0, 0))) := ⟨by rw [← hq_]; exact (bk_ BK316)⟩; have n6_ : Aside0 (Below w.heap.size w w55) := ⟨by rw [← hq_]; exact bl_⟩; clear HO_27 HO_317000 HO_8 BK311 BK312 BK316 HB hq_; have HO_27 := n0_; have HO_317000 := n1_; have HO_8 := n2_; have BK311 := n3_; have BK312 := n4_; have BK316 := n5_; have HB := n6_; clear n0_ n1_ n2_ n3_ n4_ n5_ n6_)); have hnb56 := NB316_312.out; have hnc56 := NB312_316.out; have hcz57_0 : w55.cell? ⟨gb316, 0, none⟩ = some (u317000) := (blk_cell BK316.out 0).trans rfl; have hfz57_0 := blk_frozen BK316.out 0; obtain ⟨Ao58, co58, eo58⟩ := Kd.R_slice HO_317000.out; subst eo58; have hcz59_0 : w55.cell? ⟨gb312, 0, none⟩ = some (.slice none 0 0) := (blk_cell BK312.out 0).trans rfl; have hfz59_0 := blk_frozen BK312.out 0))
     refine bodyPost_ret (results_ct rfl _ _ gb312 102 #[.slice Ao58 x317000_1.length co58] (0, 0) _ rfl (bq_ BK312) Try.underlying102 rfl (by kernel_rfl)) rfl ?_
     exact ⟨_, au3_0, by (with_reducible repeat (first | apply Kd.R_alloc | apply Kd.R_drewN | apply Kd.R_drew)); exact Kd.R_mono (Kd.R_far (p := ⟨gb312, 0, none⟩) (Kd.R_types HO_317000.out BK312.out (by decide)) (fun _ hk => hk.2) (.slice Ao58 x317000_1.length co58)) (fun _ hk => trivial), bl_⟩
    replace H := iln_ H; rcases H with ⟨LMc42, H⟩
    obtain ⟨y322, hy322⟩ : ∃ y_ : List ByteArray, y_ = (x317000_1 ++ [t319]) := ⟨_, rfl⟩
    replace H : (F88.l0 k1 a2 t313 (wrap64 (x10_1 + (wrap64 (((rdOf ByteArray.empty t313 x29_1).size : Int) + 1)))) t313 (t313.length : Int) (wrap64 (x29_1 + 1)) a0_0 a0_1 a0_2 a0_3 y322) = some (r1, r2) := by first | (rw [hy322]; exact H) | exact H
    have Ny322 := am_ hy322
    clear hy322
    have H' := am_ H
    clear H
    have p318 : 0 ≤ (x29_1 : Int) := od_
    have q318 : x29_1 < (t313.length : Int) := od_
    obtain ⟨ad318, e318, hx318_0⟩ := Kd.at_string (Kd.R_reads' HO_27.out).2.2 x29_1 p318 q318
    cases e318
    replace p318 := eq_true p318
    replace q318 := eq_true q318
    have hnb43 := NB311_312.out
    have hnc43 := NB312_311.out
    have hnb44 := NB311_316.out
    have hnc44 := NB316_311.out
    obtain ⟨hcz45_0, hcz45_1, hcz45_2, hcz45_3, hfz45_0, hfz45_1, hfz45_2, hfz45_3⟩ := cellsF4 BK311.out
    go_wp2_with (first | (go_at_call 63; (with_reducible refine (F63.calls k1 a0_0 a0_1 a0_2 a0_3 (rdOf ByteArray.empty t313 x29_1) t319 t320 _ A30.out).mono ?_); rintro e w46 ⟨rfl, hb⟩; (try clear A30); replace HO_8 := am_ (Kd.R_below (rk_ HO_8) hb); replace HO_27 := am_ (Kd.R_below (rk_ HO_27) hb); replace HO_317000 := am_ (Kd.R_below (rk_ HO_317000) hb); replace BK311 := bb_ BK311 hb; replace BK312 := bb_ BK312 hb; replace BK316 := bb_ BK316 hb; replace HB := hs_ w hb; (try clear hb)) | (go_at_call 82; (with_reducible refine (F82.calls k1 t319 true _ A40.out).mono ?_); rintro e w' ⟨rfl, ⟨nd, rfl⟩⟩; (try clear A40); (try (rw [drewN_self w46]; generalize hq_ : World.drewN w46 _ = w46; have n0_ : Aside0 (Kd.R Kd.string 9 w46 w.heap.size (fun k_ => some k_ ≠ (u317000 : Value).ownBlock) (.slice (some ad318) t313.length co26) t313) := ⟨by rw [← hq_]; exact (rk_ HO_27)⟩; have n1_ : Aside0 (Kd.R Kd.string 9 w46 w.heap.size (fun k_ => some k_ ≠ (.slice (some ad318) t313.length co26 : Value).ownBlock ∧ some k_ ≠ (.slice (some ad318) t313.length co26 : Value).ownBlock) u317000 x317000_1) := ⟨au3_8⟩; have n2_ : Aside0 (Kd.R Kd.string 9 w46 w.heap.size (fun k_ => some k_ ≠ (u317000 : Value).ownBlock) (.slice (some ad318) t313.length co26) t313) := ⟨by rw [← hq_]; exact (rk_ HO_8)⟩; have n3_ : Aside0 (w46.heap[gb311]? = some (.cells #[.int .i64 a0_0, .int .i64 a0_1, .int .i64 a0_2, .int .i64 a0_3] 23 (0, 0))) := ⟨by rw [← hq_]; exact (bk_ BK311)⟩; have n4_ : Aside0 (w46.heap[gb312]? = some (.cells #[.slice none 0 0] 102 (0, 0))) := ⟨by rw [← hq_]; exact (bk_ BK312)⟩; have n5_ : Aside0 (w46.heap[gb316]? = some (.cells #[u317000] 102 (0, 0))) := ⟨by rw [← hq_]; exact (bk_ BK316)⟩; have n6_ : Aside0 (Below w.heap.size w w46) := ⟨by rw [← hq_]; exact bl_⟩; clear HO_27 HO_317000 HO_8 BK311 BK312 BK316 HB hq_; have HO_27 := n0_; have HO_317000 := n1_; have HO_8 := n2_; have BK311 := n3_; have BK312 := n4_; have BK316 := n5_; have HB := n6_; clear n0_ n1_ n2_ n3_ n4_ n5_ n6_)); have hnb47 := NB316_312.out; have hnc47 := NB312_316.out; have hcz48_0 : w46.cell? ⟨gb316, 0, none⟩ = some (u317000) := (blk_cell BK316.out 0).trans rfl; have hfz48_0 := blk_frozen BK316.out 0) | ((with_reducible refine gate_builtin (b := .append) (xs := #[.tmp 51, .tmp 53]) rfl ?_); (try (refine gate_guard (by rfl) ?_; dsimp only)); at_builtin; refine Kd.R_append Kd.string (w0 := w) w.heap.size rfl (.tmp 51) (.tmp 53) 41 9 (.string ⟨#[]⟩) 16 rfl Try.underlying41 info9 rfl (by decide) (by omega) u317000 x317000_1 t319 [.string t319] (fun k_ => some k_ ≠ (.slice (some ad318) t313.length co26 : Value).ownBlock ∧ some k_ ≠ (.slice (some ad318) t313.length co26 : Value).ownBlock) (fun _ => False) rfl rfl ?aP (fun _ hk => hk.elim) ?aF ?aO ?aB ?aS ?aL ?_; (case aP => exact rfl); (case aB => exact bl_); (case aF => exact (fun k_ hk => ⟨Kd.fresh' (Kd.R_lt (rk_ HO_8)) k_ hk, Kd.fresh' (Kd.R_lt (rk_ HO_27)) k_ hk⟩)); (case aO => exact (rk_ HO_317000)); (case aS => exact (below_size bl_)); (case aL => have := LMc42.out; omega); intro v323 w49 ho hb hg hat; rw [← Ny322.out] at ho; have n0_ := am_ (Kd.R_after (ok := (fun _ => True)) (by (with_reducible repeat (first | apply Kd.R_alloc | apply Kd.R_drewN | apply Kd.R_drew)); exact Kd.R_mono HO_8.out (fun _ hk => ⟨trivial, hk⟩)) hg hat); have n1_ := am_ (Kd.R_after (ok := (fun _ => True)) (by (with_reducible repeat (first | apply Kd.R_alloc | apply Kd.R_drewN | apply Kd.R_drew)); exact Kd.R_mono HO_27.out (fun _ hk => ⟨trivial, hk⟩)) hg hat); have n2_ := am_ (bg_ BK311 hg (Kd.R_ne HO_317000.out BK311.out (by decide))); have n3_ := am_ (bg_ BK312 hg (Kd.R_ne HO_317000.out BK312.out (by decide))); have n4_ := am_ (bg_ BK316 hg (Kd.R_ne HO_317000.out BK316.out (by decide))); have n5_ := am_ (hb); have n6_ := am_ (ho); clear HO_8; clear HO_27; clear BK311; clear BK312; clear BK316; clear HB; clear HO_317000; have HO_8 := n0_; have HO_27 := n1_; have BK311 := n2_; have BK312 := n3_; have BK316 := n4_; have HB := n5_; have HO324 := n6_; clear n0_ n1_ n2_ n3_ n4_ n5_ n6_; clear ho hb hg hat; obtain ⟨Ao50, co50, eo50⟩ := Kd.R_slice HO324.out; subst eo50; have hcz51_0 : w49.cell? ⟨gb316, 0, none⟩ = some (u317000) := (blk_cell BK316.out 0).trans rfl; have hfz51_0 := blk_frozen BK316.out 0))
    go_roundg k1
    case measure => have := HK1.out; omega
    case rel => exact ⟨(wrap64 (x10_1 + (wrap64 (((rdOf ByteArray.empty t313 x29_1).size : Int) + 1)))), (wrap64 (x29_1 + 1)), (y322), (.slice Ao50 y322.length co50), er_, er_, H', ⟨by have := HK1.out; omega⟩, ⟨by (with_reducible repeat (first | apply Kd.R_alloc | apply Kd.R_drewN | apply Kd.R_drew)); exact Kd.R_mono (Kd.R_far (p := ⟨gb316, 0, none⟩) (Kd.R_types HO_8.out BK316.out (by decide)) (fun _ hk => hk.2) (.slice Ao50 y322.length co50)) (fun _ hk => hk.1.2)⟩, ⟨by (with_reducible repeat (first | apply Kd.R_alloc | apply Kd.R_drewN | apply Kd.R_drew)); exact Kd.R_mono (Kd.R_far (p := ⟨gb316, 0, none⟩) (Kd.R_types HO_27.out BK316.out (by decide)) (fun _ hk => hk.2) (.slice Ao50 y322.length co50)) (fun _ hk => hk.1.2)⟩, ⟨by (with_reducible repeat (first | apply Kd.R_alloc | apply Kd.R_drewN | apply Kd.R_drew)); exact Kd.R_mono (Kd.R_far (p := ⟨gb316, 0, none⟩) (Kd.R_types HO324.out BK316.out (by decide)) (fun _ hk => hk.2) (.slice Ao50 y322.length co50)) (fun _ hk => ⟨hk.1.1, hk.1.2⟩)⟩, ⟨bf_ BK311⟩, ⟨bf_ BK312⟩, ⟨bq_ BK316⟩, ⟨bl_⟩⟩
   replace H := it_ H; rcases H with ⟨(c60b0 : decide (1 < (t313.length : Int)) = true), H⟩ | ⟨(c60b0 : decide (1 < (t313.length : Int)) = false), H⟩
   rotate_left
   ·have c60b1 : decide (1 < t313.length) = false := n2_ c60b0
    simp only [Option.some.injEq, Prod.mk.injEq] at H
    obtain ⟨rfl, rfl⟩ := H
    have hnb77 := NB316_311.out
    have hnc77 := NB311_316.out
    have hnb78 := NB316_312.out
    have hnc78 := NB312_316.out
    have hcz79_0 : wr.cell? ⟨gb316, 0, none⟩ = some (u317000) := (blk_cell BK316.out 0).trans rfl
    have hfz79_0 := blk_frozen BK316.out 0
    obtain ⟨Ao80, co80, eo80⟩ := Kd.R_slice HO_317000.out
    subst eo80
    have hnb81 := NB312_311.out
    have hnc81 := NB311_312.out
    have hcz82_0 : wr.cell? ⟨gb312, 0, none⟩ = some (.slice none 0 0) := (blk_cell BK312.out 0).trans rfl
    have hfz82_0 := blk_frozen BK312.out 0
    go_wp2
    refine bodyPost_ret (results_ct rfl _ _ gb312 102 #[.slice Ao80 x317000_1.length co80] (0, 0) _ rfl (bq_ BK312) Try.underlying102 rfl (by kernel_rfl)) rfl ?_
    exact ⟨_, au3_0, by (with_reducible repeat (first | apply Kd.R_alloc | apply Kd.R_drewN | apply Kd.R_drew)); exact Kd.R_mono (Kd.R_far (p := ⟨gb312, 0, none⟩) (Kd.R_types HO_317000.out BK312.out (by decide)) (fun _ hk => hk.2) (.slice Ao80 x317000_1.length co80)) (fun _ hk => trivial), bl_⟩
   have c60b1 : decide (1 < t313.length) = true := n2_ c60b0
   obtain ⟨ji61, hji61⟩ : ∃ j_ : Int, (wrap64 ((t313.length : Int) - 1)) = j_ := ⟨_, rfl⟩
   replace H : (if 0 ≤ (ji61) then (if (ji61) < (x317000_1.length : Int) then (if (rdOf ByteArray.empty x317000_1 (ji61)).toList = ([] : List UInt8) then (some (x317000_1, a2)) else (some (x317000_1, (-1)))) else (none)) else (none)) = some (r1, r2) := by first | (rw [hji61] at H; exact H) | (simp only [hji61] at H ⊢; exact H)
   have hji61w : (IntKind.i64.wrap ((t313.length : Int) - 1)) = ji61 := (i64_w _).trans hji61
   replace H := itn_ H; rcases H with ⟨c62b0, H⟩
   replace H := itn_ H; rcases H with ⟨c63b0, H⟩
   by_cases c64 : (rdOf ByteArray.empty x317000_1 (ji61)).toList = ([] : List UInt8)
   rotate_left
   ·rw [if_neg c64] at H
    have c64b0 : ((rdOf ByteArray.empty x317000_1 (ji61)).toList == ([] : List UInt8)) = false := beq_eq_false_iff_ne.mpr c64
    have c64b1 : ((rdOf ByteArray.empty x317000_1 (ji61)).toList != ([] : List UInt8)) = true := bne_iff_ne.mpr c64
    simp only [Option.some.injEq, Prod.mk.injEq] at H
    obtain ⟨rfl, rfl⟩ := H
    have hnb71 := NB316_311.out
    have hnc71 := NB311_316.out
    have hnb72 := NB316_312.out
    have hnc72 := NB312_316.out
    have hcz73_0 : wr.cell? ⟨gb316, 0, none⟩ = some (u317000) := (blk_cell BK316.out 0).trans rfl
    have hfz73_0 := blk_frozen BK316.out 0
    obtain ⟨Ao74, co74, eo74⟩ := Kd.R_slice HO_317000.out
    subst eo74
    have p317 : 0 ≤ ((ji61) : Int) := od_
    have q317 : (ji61) < (x317000_1.length : Int) := od_
    obtain ⟨ad317, e317, hx317_0⟩ := Kd.at_string (Kd.R_reads' HO_317000.out).2.2 (ji61) p317 q317
    cases e317
    replace p317 := eq_true p317
    replace q317 := eq_true q317
    have hnb75 := NB312_311.out
    have hnc75 := NB311_312.out
    have hcz76_0 : wr.cell? ⟨gb312, 0, none⟩ = some (.slice none 0 0) := (blk_cell BK312.out 0).trans rfl
    have hfz76_0 := blk_frozen BK312.out 0
    go_wp2
    refine bodyPost_ret (results_ct rfl _ _ gb312 102 #[.slice (some ad317) x317000_1.length co74] (0, 0) _ rfl (bq_ BK312) Try.underlying102 rfl (by kernel_rfl)) rfl ?_
    exact ⟨_, au3_7, by (with_reducible repeat (first | apply Kd.R_alloc | apply Kd.R_drewN | apply Kd.R_drew)); exact Kd.R_mono (Kd.R_far (p := ⟨gb312, 0, none⟩) (Kd.R_types HO_317000.out BK312.out (by decide)) (fun _ hk => hk.2) (.slice (some ad317) x317000_1.length co74)) (fun _ hk => trivial), bl_⟩
   rw [if_pos c64] at H
   have c64b0 : ((rdOf ByteArray.empty x317000_1 (ji61)).toList == ([] : List UInt8)) = true := beq_iff_eq.mpr c64
   have c64b1 : ((rdOf ByteArray.empty x317000_1 (ji61)).toList != ([] : List UInt8)) = false := bne_eq_false_iff_eq.mpr c64
   clear c64
   simp only [Option.some.injEq, Prod.mk.injEq] at H
   obtain ⟨rfl, rfl⟩ := H
   have hnb65 := NB316_311.out
   have hnc65 := NB311_316.out
   have hnb66 := NB316_312.out
   have hnc66 := NB312_316.out
   have hcz67_0 : wr.cell? ⟨gb316, 0, none⟩ = some (u317000) := (blk_cell BK316.out 0).trans rfl
   have hfz67_0 := blk_frozen BK316.out 0
   obtain ⟨Ao68, co68, eo68⟩ := Kd.R_slice HO_317000.out
   subst eo68
   have p317 : 0 ≤ ((ji61) : Int) := od_
   have q317 : (ji61) < (x317000_1.length : Int) := od_
   obtain ⟨ad317, e317, hx317_0⟩ := Kd.at_string (Kd.R_reads' HO_317000.out).2.2 (ji61) p317 q317
   cases e317
   replace p317 := eq_true p317
   replace q317 := eq_true q317
   have hnb69 := NB312_311.out
   have hnc69 := NB311_312.out
   have hcz70_0 : wr.cell? ⟨gb312, 0, none⟩ = some (.slice none 0 0) := (blk_cell BK312.out 0).trans rfl
   have hfz70_0 := blk_frozen BK312.out 0
   go_wp2
   refine bodyPost_ret (results_ct rfl _ _ gb312 102 #[.slice (some ad317) x317000_1.length co68] (0, 0) _ rfl (bq_ BK312) Try.underlying102 rfl (by kernel_rfl)) rfl ?_
   exact ⟨_, au3_7, by (with_reducible repeat (first | apply Kd.R_alloc | apply Kd.R_drewN | apply Kd.R_drew)); exact Kd.R_mono (Kd.R_far (p := ⟨gb312, 0, none⟩) (Kd.R_types HO_317000.out BK312.out (by decide)) (fun _ hk => hk.2) (.slice (some ad317) x317000_1.length co68)) (fun _ hk => trivial), bl_⟩
end Go.Proofs.Ytchoalagkcdbhaa.PFnExactSegmentsRead
