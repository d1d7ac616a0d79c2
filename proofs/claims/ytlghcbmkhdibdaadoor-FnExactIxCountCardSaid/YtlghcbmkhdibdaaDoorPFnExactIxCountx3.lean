-- printed by a program of this session (wip/xp/xprint.py) out of the translation; Lean checks it
import Derived.Test.YtlghcbmkhdibdaaDoorPFnExactIxCountx0
import Derived.Test.YtlghcbmkhdibdaaDoorPFnExactIxCountx2
namespace Go.Proofs.YtlghcbmkhdibdaaDoor.PFnExactIxCount
open Go.RowKit Go.Proofs.YtlghcbmkhdibdaaDoorW.PrintWords Go.Proofs.YtlghcbmkhdibdaaDoorW.PrintLast Go.Proofs.YtlghcbmkhdibdaaDoorW.PrintMore
attribute [local go_sem] max2_int min2_int max_two min_two max_three min_three max_four min_four   -- for this text's walks alone
set_option linter.unusedVariables false
set_option linter.unusedSimpArgs false
set_option maxHeartbeats 8000000
set_option maxRecDepth 100000

theorem au3_0 {p : Prop} (h : p := by (with_reducible repeat (first | apply Kd.N_alloc | apply Kd.N_drewN | apply Kd.N_drew)); exact HO_3.out) : p := h
theorem au3_1 {p : Prop} (h : p := by first | rfl | (simp [errW_none, errW_some] <;> rfl) | (simp [*, errW_none, errW_some] <;> rfl)) : p := h
theorem au3_2 {p : Prop} (h : p := by first | (with_reducible exact HZT.out) | exact HZT.out.below bl_) : p := h
theorem au3_3 {p : Prop} (h : p := by exact (fun k_ hk => ⟨(Nat.le_trans (below_size bl_) hk), Kd.fresh' (Kd.R_lt (rk_ HO477)) k_ hk, Kd.freshB (g := gb422) (o := .cells #[.string a0_0, .string a0_1, .int .i64 a0_2, .slice (some ad446) l0_3.length c0_3] 29 (0, 0)) (bk_ BK422) k_ hk, Kd.freshB (g := gb447) (o := .cells #[.int .i64 ((rd_T83 l0_3 x21_1).f0), .int .i64 ((rd_T83 l0_3 x21_1).f1), .slice (some ad472) ((rd_T83 l0_3 x21_1).f2).length c446_2] 83 (0, 0)) (bk_ BK447) k_ hk, Kd.freshB (g := gb473) (o := .cells #[.int .i64 ((rd_T85 ((rd_T83 l0_3 x21_1).f2) x39_2).f0), .slice A472_1 ((rd_T85 ((rd_T83 l0_3 x21_1).f2) x39_2).f1).length c472_1] 85 (0, 0)) (bk_ BK473) k_ hk⟩)) : p := h
theorem au3_4 {p : Prop} (h : p := by (with_reducible repeat (first | apply Kd.N_alloc | apply Kd.N_drewN | apply Kd.N_drew)); exact HO490.out) : p := h
theorem au3_5 {p : Prop} (h : p := by rintro w' ⟨s0, s1, s2, s3⟩; go_simp; with_reducible rfl) : p := h
theorem au3_6 {p : Prop} (h : p := by repeat (first | exact (Kd.C_below HR0_3.out HB.out) | (with_reducible refine Kd.C_alloc ?_ _) | (with_reducible refine Kd.C_drewN ?_ _) | (with_reducible refine Kd.C_drew ?_))) : p := h
theorem au3_7 {p : Prop} (h : p := by repeat (first | exact (Kd.C_below HR0_1.out HB.out) | (with_reducible refine Kd.C_alloc ?_ _) | (with_reducible refine Kd.C_drewN ?_ _) | (with_reducible refine Kd.C_drew ?_))) : p := h
theorem au3_8 {p : Prop} (h : p := by repeat (first | exact (Kd.C_below HR1_1.out HB.out) | (with_reducible refine Kd.C_alloc ?_ _) | (with_reducible refine Kd.C_drewN ?_ _) | (with_reducible refine Kd.C_drew ?_))) : p := h
theorem au3_9 {p : Prop} (h : p := by (with_reducible repeat (first | apply Kd.N_alloc | apply Kd.N_drewN | apply Kd.N_drew)); exact HO487.out) : p := h
theorem au3_10 {p : Prop} (h : p := by rintro w' ⟨s0, s1, s2⟩; go_simp; with_reducible rfl) : p := h
theorem au3_11 {p : Prop} (h : p := by rintro w' ⟨s0, s1⟩; go_simp; with_reducible rfl) : p := h
theorem au3_12 {p : Prop} (h : p := by (with_reducible repeat (first | apply Kd.N_alloc | apply Kd.N_drewN | apply Kd.N_drew)); exact HO484.out) : p := h
theorem au3_13 {p : Prop} (h : p := by exact (by (with_reducible repeat (first | apply Kd.N_alloc | apply Kd.N_drewN | apply Kd.N_drew)); exact Kd.N_mono HO_3.out (fun _ hk => ⟨hk.1.1.1, ⟨hk.1.2, ⟨hk.1.1.2.1, hk.1.1.2.2⟩⟩⟩))) : p := h
theorem au3_14 {p : Prop} (h : p := by repeat (first | exact (Kd.C_below HR517_0.out HB.out) | (with_reducible refine Kd.C_alloc ?_ _) | (with_reducible refine Kd.C_drewN ?_ _) | (with_reducible refine Kd.C_drew ?_))) : p := h
theorem au3_15 {p : Prop} (h : p := by repeat (first | exact (Kd.C_below HR518_0.out HB.out) | (with_reducible refine Kd.C_alloc ?_ _) | (with_reducible refine Kd.C_drewN ?_ _) | (with_reducible refine Kd.C_drew ?_))) : p := h
theorem au3_16 {p : Prop} (h : p := by repeat (first | exact (Kd.C_below HR523_1.out HB.out) | (with_reducible refine Kd.C_alloc ?_ _) | (with_reducible refine Kd.C_drewN ?_ _) | (with_reducible refine Kd.C_drew ?_))) : p := h
theorem au3_17 {p : Prop} (h : p := by repeat (first | exact (Kd.C_below HR524_1.out HB.out) | (with_reducible refine Kd.C_alloc ?_ _) | (with_reducible refine Kd.C_drewN ?_ _) | (with_reducible refine Kd.C_drew ?_))) : p := h
theorem au3_18 {p : Prop} (h : p := by repeat (first | exact (Kd.C_below HR529_1.out HB.out) | (with_reducible refine Kd.C_alloc ?_ _) | (with_reducible refine Kd.C_drewN ?_ _) | (with_reducible refine Kd.C_drew ?_))) : p := h
theorem au3_19 {p : Prop} (h : p := by repeat (first | exact (Kd.C_below HR530_1.out HB.out) | (with_reducible refine Kd.C_alloc ?_ _) | (with_reducible refine Kd.C_drewN ?_ _) | (with_reducible refine Kd.C_drew ?_))) : p := h
theorem au3_20 {p : Prop} (h : p := by repeat (first | exact (Kd.C_below HR0_0.out HB.out) | (with_reducible refine Kd.C_alloc ?_ _) | (with_reducible refine Kd.C_drewN ?_ _) | (with_reducible refine Kd.C_drew ?_))) : p := h
theorem au3_21 {p : Prop} (h : p := by repeat (first | exact (Kd.C_below HR1_0.out HB.out) | (with_reducible refine Kd.C_alloc ?_ _) | (with_reducible refine Kd.C_drewN ?_ _) | (with_reducible refine Kd.C_drew ?_))) : p := h
theorem au3_22 {p : Prop} (h : p := by first | exact Kd.S_nil _ _ _ _ _ | exact Kd.N_nil _ _ _ _ _ | exact Kd.V_nil _ _ _ _ _ | exact Kd.Q_nil _ _ _ _ _ | exact Kd.R_nil _ _ _ _ _) : p := h
theorem au3_23 {p : Prop} (h : p := by repeat (first | (with_reducible first | exact HB2.out | apply below_alloc | apply pw_below_drewN | apply below_drew1) | exact HB2.out)) : p := h
theorem au3_24 {p : Prop} (h : p := by (with_reducible repeat (first | apply Kd.S_alloc | apply Kd.S_drewN | apply Kd.S_drew)); exact HO_402001.out) : p := h

/-! ### F87: function 87 -/
def F87.l0 : Nat → List ByteArray → Int → Int → ByteArray → List (S55) → Option (ByteArray × (List (S55)))
  | 0, _, _, _, _, _ => none
  | k + 1, x10, x11, x12, x391000, x391001 => if x12 < x11 then (if 0 ≤ x12 then (if x12 < (x10.length : Int) then (if x391001.length < 5864062014805 then (F87.l0 k x10 x11 (wrap64 (x12 + 1)) x391000 (x391001 ++ [(⟨(([rdOf ByteArray.empty x10 x12] : List ByteArray))⟩ : S55)])) else (none)) else (none)) else (none)) else (some (x391000, x391001))
def F87.f (k : Nat) (a0 : ByteArray) (l1 : List ByteArray) : Option (ByteArray × (List (S55))) := F87.l0 k l1 (l1.length : Int) 0 a0 ([] : List (S55))
theorem F87.mono_l : ∀ k, (∀ y0 y1 y2 y3 y4, LeO (F87.l0 k y0 y1 y2 y3 y4) (F87.l0 (k + 1) y0 y1 y2 y3 y4))
 | 0 => fun _ _ _ _ _ r h => by simp [F87.l0] at h
 | k + 1 => by
  have ih0 := F87.mono_l k
  intro y0 y1 y2 y3 y4
  unfold F87.l0
  repeat' with_reducible first | exact ih0 _ _ _ _ _ | exact LeO.refl _ | exact LeO.none _ | refine LeO.ite ?_ ?_ | refine LeO.bind ?_ (fun _ => ?_)
theorem F87.mono : ∀ a0 a1 k, LeO (F87.f k a0 a1) (F87.f (k + 1) a0 a1) := by
 intro a0 a1 k
 have ih0 := F87.mono_l k
 unfold F87.f
 repeat' with_reducible first | exact ih0 _ _ _ _ _ | exact LeO.refl _ | exact LeO.none _ | refine LeO.ite ?_ ?_ | refine LeO.bind ?_ (fun _ => ?_)
theorem F87.calls (k : Nat) (a0 : ByteArray) (A1 : Option Addr) (c1 : Nat) (l1 : List ByteArray) (r1 : ByteArray) (r2 : List (S55)) (w : World) (hr1 : Kd.C Kd.string w A1 l1.length l1) (hc1 : l1.length ≤ c1) (h : F87.f k a0 l1 = some (r1, r2)) :
  Calls Tryd.prog 87 #[.string a0, .slice A1 l1.length c1] w fun e w' => ∃ v1_ : Value, e = .returned (.agg #[.string r1, v1_]) ∧ Kd.S k55 55 w' w.heap.size (fun _ => True) v1_ r2 ∧ Below w.heap.size w w' := by
 have hu52 := Tryd.underlying52
 have hu55 := Tryd.underlying55
 have HR1 := am_ hr1
 have HC1 := am_ hc1
 clear hr1 hc1
 have HB := am_ (Below.refl w.heap.size w)
 have H : (F87.l0 k l1 (l1.length : Int) 0 a0 ([] : List (S55))) = some (r1, r2) := h
 clear h
 have H' := am_ H
 clear H
 go_enter Tryd.func87, Tryd.ntmps87
 go_wp2_with (first | ((with_reducible refine gate_dst (N := 4) rfl ?_); refine be_ 4 #[.string (⟨#[]⟩ : ByteArray), .slice none 0 0] 52 ?_; intro gb389 hg w3 hbox hb; have BK389 := am_ (hbox); have GW389 := am_ (gw_ hg bl_); have GE389 := GW389; replace HB := hs_ w hb; clear hb hbox hg) | ((with_reducible refine gate_dst (N := 5) rfl ?_); refine be_ 5 #[.string (⟨#[]⟩ : ByteArray), .slice none 0 0] 52 ?_; intro gb390 hg w4 hbox hb; have BK390 := am_ (hbox); have GW390 := am_ (gw_ hg bl_); have GE390 := GW390; replace HB := hs_ w hb; have NB389_390 := am_ (gn_ hg (blkl_ BK389)); have NB390_389 := am_ (gm_ hg (blkl_ BK389)); replace BK389 := bb_ BK389 hb; clear hb hbox hg; have hnb5 := NB390_389.out; have hnc5 := NB389_390.out; obtain ⟨hcz6_0, hcz6_1, hfz6_0, hfz6_1⟩ := cellsF2 BK390.out))
 go_loopg [12] k (fun kq v12 w' => ∃ (x12_1 : Int) (x391001_1 : List (S55)) (u391001 : Value), v12 = .int .i64 x12_1 ∧ Aside0 (F87.l0 kq l1 (l1.length : Int) x12_1 a0 x391001_1 = some (r1, r2)) ∧ Aside0 (kq ≤ k) ∧ Aside0 (Kd.S k55 55 w' w.heap.size (fun _ => True) u391001 x391001_1) ∧ Aside0 (w'.heap[gb389]? = some (.cells #[.string (⟨#[]⟩ : ByteArray), (.slice none 0 0)] 52 (0, 0))) ∧ Aside0 (w'.heap[gb390]? = some (.cells #[.string a0, u391001] 52 (0, 0))) ∧ Aside0 (Below w.heap.size w w'))
 case atStart => exact ⟨(0), (([] : List (S55))), (.slice none 0 0), er_, H', ⟨Nat.le_refl _⟩, ⟨au3_22⟩, ⟨bf_ BK389⟩, ⟨bq_ BK390⟩, ⟨bl_⟩⟩
 case round =>
  clear H'
  try clear c1
  try clear hcz6_0 hcz6_1
  try clear hfz6_0 hfz6_1
  obtain ⟨x12_1, x391001_1, u391001, rfl, HA, HK1, HO_391001, BK389, BK390, HB⟩ := hrel
  cases gk with
  | zero => exact absurd HA.out (by simp [F87.l0])
  | succ k1 =>
   have H := HA.out
   clear HA
   simp only [F87.l0] at H
   replace H := it_ H; rcases H with ⟨c7b0, H⟩ | ⟨c7b0, H⟩
   rotate_left
   ·simp only [Option.some.injEq, Prod.mk.injEq] at H
    obtain ⟨rfl, rfl⟩ := H
    have hnb19 := NB390_389.out
    have hnc19 := NB389_390.out
    obtain ⟨hcz20_0, hcz20_1, hfz20_0, hfz20_1⟩ := cellsF2 BK390.out
    obtain ⟨hcz21_0, hcz21_1, hfz21_0, hfz21_1⟩ := cellsF2 BK389.out
    obtain ⟨Ao22, co22, eo22⟩ := Kd.S_slice HO_391001.out
    subst eo22
    go_wp2
    refine bodyPost_ret (results_cell_row rfl _ _ gb389 52 #[.string a0, .slice Ao22 x391001_1.length co22] (0, 0) _ rfl (bq_ BK389) Tryd.underlying52 rfl (by kernel_rfl)) rfl ?_
    exact ⟨_, au3_1, by (with_reducible repeat (first | apply Kd.S_alloc | apply Kd.S_drewN | apply Kd.S_drew)); exact Kd.S_mono (Kd.S_far (p := ⟨gb389, 1, none⟩) (Kd.S_far (p := ⟨gb389, 0, none⟩) (Kd.S_types HO_391001.out BK389.out (by decide)) (fun _ hk => hk.2) (.string a0)) (fun _ hk => hk.2) (.slice Ao22 x391001_1.length co22)) (fun _ hk => trivial), bl_⟩

   replace H := itn_ H; rcases H with ⟨c8b0, H⟩
   replace H := itn_ H; rcases H with ⟨c9b0, H⟩
   obtain ⟨y392, hy392⟩ : ∃ y_ : List ByteArray, y_ = (([rdOf ByteArray.empty l1 x12_1] : List ByteArray)) := ⟨_, rfl⟩
   replace H : (if x391001_1.length < 5864062014805 then (F87.l0 k1 l1 (l1.length : Int) (wrap64 (x12_1 + 1)) a0 (x391001_1 ++ [(⟨y392⟩ : S55)])) else (none)) = some (r1, r2) := by first | (rw [hy392]; exact H) | exact H
   have Ny392 := am_ hy392
   clear hy392
   replace H := iln_ H; rcases H with ⟨LMc10, H⟩
   obtain ⟨y395, hy395⟩ : ∃ y_ : List (S55), y_ = (x391001_1 ++ [(⟨y392⟩ : S55)]) := ⟨_, rfl⟩
   replace H : (F87.l0 k1 l1 (l1.length : Int) (wrap64 (x12_1 + 1)) a0 y395) = some (r1, r2) := by first | (rw [hy395]; exact H) | exact H
   have Ny395 := am_ hy395
   clear hy395
   have H' := am_ H
   clear H
   have p391 : 0 ≤ (x12_1 : Int) := od_
   have q391 : x12_1 < (l1.length : Int) := od_
   obtain ⟨ad391, e391, hx391_0⟩ := Kd.at_string HR1.out x12_1 p391 q391
   cases e391
   replace hx391_0 := (HB.out.cell (World.block_lt_of_cell? _ _ hx391_0)).trans hx391_0
   replace p391 := eq_true p391
   replace q391 := eq_true q391
   have hnb11 := NB390_389.out
   have hnc11 := NB389_390.out
   obtain ⟨hcz12_0, hcz12_1, hfz12_0, hfz12_1⟩ := cellsF2 BK390.out
   go_wp2_with (first | ((with_reducible refine gate_dst (N := 19) rfl ?_); refine Kd.R_lit Kd.string _ 9 ?hg (N := 19) ?hd (xs := ([rdOf ByteArray.empty l1 x12_1] : List ByteArray)) (inner := [.string (rdOf ByteArray.empty l1 x12_1)]) (ok := fun _ => True) (okp := fun _ => True) ?hr ?hp (fun _ hk => hk) trivial (Below.refl _ _) (Nat.le_refl _) (by simp) ?_; (case hd => rfl); (case hg => rfl); (case hr => exact hr_); (case hp => exact (Reps.one (show Kd.M Kd.string _ _ _ (rdOf ByteArray.empty l1 x12_1) [.string (rdOf ByteArray.empty l1 x12_1)] from rfl) (Reps.none _ _))); intro v393 w13 ho14 hb hg_ hnew_; clear hg_ hnew_; (first | rw [← Ny392.out] at ho14 | (simp only [Int.reduceToNat] at ho14; rw [← Ny392.out] at ho14)); replace HO_391001 := am_ (Kd.S_elder' (by (with_reducible repeat (first | apply Kd.S_alloc | apply Kd.S_drewN | apply Kd.S_drew)); exact HO_391001.out) (Kd.R_base ho14) hb); have HO394 := am_ (Kd.R_lower ho14 (below_size bl_)); replace BK389 := bb_ BK389 hb; replace BK390 := bb_ BK390 hb; replace HB := hs_ w hb; clear hb ho14; obtain ⟨Ao15, co15, eo15⟩ := Kd.R_slice HO394.out; subst eo15) | ((with_reducible refine gate_builtin (b := .append) (xs := #[.tmp 17, .tmp 21]) rfl ?_); at_builtin; refine Kd.S_append k55 (w0 := w) w.heap.size rfl (.tmp 17) (.tmp 21) 50 55 (.agg #[(.slice none 0 0)]) 24 rfl Tryd.underlying50 info55 rfl (by decide) (by omega) u391001 x391001_1 (⟨y392⟩ : S55) [.slice Ao15 y392.length co15] (fun _ => True) (fun k_ => some k_ = (.slice Ao15 y392.length co15 : Value).ownBlock) rfl rfl ?aP (fun k_ hk_ => ((Kd.R_mono (ok' := fun k_ => ((fun _ => True)) k_ ∧ some k_ ≠ (u391001 : Value).ownBlock) (Kd.R_apart' (HO394.out) (Kd.S_typed HO_391001.out) (by decide)) (fun k_ hk => ⟨trivial, hk.2⟩))).1 k_ hk_.symm) ?aF ?aO ?aB ?aS ?aL ?_; (case aP => exact k55_mkM _ _ _ (⟨y392⟩ : S55) (Kd.R_mono (Kd.R_tight rfl (Kd.R_mono (ok' := fun k_ => ((fun _ => True)) k_ ∧ some k_ ≠ (u391001 : Value).ownBlock) (Kd.R_apart' (HO394.out) (Kd.S_typed HO_391001.out) (by decide)) (fun k_ hk => ⟨trivial, hk.2⟩))) (fun _ h_ => h_))); (case aB => exact bl_); (case aF => exact (fun _ _ => trivial)); (case aO => exact (by (with_reducible repeat (first | apply Kd.S_alloc | apply Kd.S_drewN | apply Kd.S_drew)); exact Kd.S_mono HO_391001.out (fun k_ hk => ⟨trivial, fun e_ => hk.2 e_⟩))); (case aS => exact (below_size bl_)); (case aL => have := LMc10.out; omega); intro v396 w16 ho hb hg hat; rw [← Ny395.out] at ho; have n0_ := am_ (bg_ BK389 hg (Kd.S_ne HO_391001.out BK389.out (by decide))); have n1_ := am_ (bg_ BK390 hg (Kd.S_ne HO_391001.out BK390.out (by decide))); have n2_ := am_ (hb); have n3_ := am_ (ho); clear BK389; clear BK390; clear HB; clear HO_391001; clear HO394; have BK389 := n0_; have BK390 := n1_; have HB := n2_; have HO397 := n3_; clear n0_ n1_ n2_ n3_; clear ho hb hg hat; obtain ⟨Ao17, co17, eo17⟩ := Kd.S_slice HO397.out; subst eo17; obtain ⟨hcz18_0, hcz18_1, hfz18_0, hfz18_1⟩ := cellsF2 BK390.out))
   go_roundg k1
   case measure => have := HK1.out; omega
   case rel => exact ⟨(wrap64 (x12_1 + 1)), (y395), (.slice Ao17 y395.length co17), er_, H', ⟨by have := HK1.out; omega⟩, ⟨by (with_reducible repeat (first | apply Kd.S_alloc | apply Kd.S_drewN | apply Kd.S_drew)); exact Kd.S_mono (Kd.S_far (p := ⟨gb390, 1, none⟩) (Kd.S_types HO397.out BK390.out (by decide)) (fun _ hk => hk.2) (.slice Ao17 y395.length co17)) (fun _ hk => trivial)⟩, ⟨bf_ BK389⟩, ⟨bq_ BK390⟩, ⟨bl_⟩⟩
/-! ### F113: function 113 -/
open Go.Shelf
def F113.ren : Go.Shelf.Ren := ⟨fun x => match x with | 173 => 113 | 246 => 129 | 283 => 139 | 284 => 140 | 285 => 141 | 286 => 142 | 129 => 150 | 317 => 149 | 318 => 151 | 319 => 152 | 320 => 153 | 337 => 155 | 338 => 156 | n => n, fun x => match x with | 2 => 2 | 3 => 3 | 9 => 9 | 4 => 4 | 171 => 171 | 0 => 0 | 53 => 109 | 37 => 45 | 5 => 5 | 173 => 174 | 212 => 183 | 51 => 184 | 20 => 20 | 213 => 185 | 46 => 138 | 232 => 193 | 233 => 194 | n => n, fun x => match x with | 17 => 2 | 18 => 3 | 19 => 4 | n => n⟩
theorem F113.lays : LaysM.n173 Tryd.prog F113.ren where
 mixed := by kernel_rfl
 f129 := Tryd.func150.trans (congrArg some (by kernel_rfl))
 f173 := Tryd.func113.trans (congrArg some (by kernel_rfl))
 f246 := Tryd.func129.trans (congrArg some (by kernel_rfl))
 f283 := Tryd.func139.trans (congrArg some (by kernel_rfl))
 f284 := Tryd.func140.trans (congrArg some (by kernel_rfl))
 f285 := Tryd.func141.trans (congrArg some (by kernel_rfl))
 f286 := Tryd.func142.trans (congrArg some (by kernel_rfl))
 f317 := Tryd.func149.trans (congrArg some (by kernel_rfl))
 f318 := Tryd.func151.trans (congrArg some (by kernel_rfl))
 f319 := Tryd.func152.trans (congrArg some (by kernel_rfl))
 f320 := Tryd.func153.trans (congrArg some (by kernel_rfl))
 f337 := Tryd.func155.trans (congrArg some (by kernel_rfl))
 f338 := Tryd.func156.trans (congrArg some (by kernel_rfl))
 t0 := Tryd.underlying0
 a0 := Tryd.isAgg0
 z0 := Tryd.sizeOf0
 v0 := Tryd.zeroValue0
 t2 := Tryd.underlying2
 a2 := Tryd.isAgg2
 z2 := Tryd.sizeOf2
 v2 := Tryd.zeroValue2
 t3 := Tryd.underlying3
 a3 := Tryd.isAgg3
 z3 := Tryd.sizeOf3
 v3 := Tryd.zeroValue3
 t4 := Tryd.underlying4
 a4 := Tryd.isAgg4
 z4 := Tryd.sizeOf4
 v4 := Tryd.zeroValue4
 t5 := Tryd.underlying5
 a5 := Tryd.isAgg5
 z5 := Tryd.sizeOf5
 v5 := Tryd.zeroValue5
 t9 := Tryd.underlying9
 a9 := Tryd.isAgg9
 z9 := Tryd.sizeOf9
 v9 := Tryd.zeroValue9
 t20 := Tryd.underlying20
 a20 := Tryd.isAgg20
 z20 := Tryd.sizeOf20
 v20 := Tryd.zeroValue20
 t37 := Tryd.underlying45
 a37 := Tryd.isAgg45
 z37 := Tryd.sizeOf45
 v37 := Tryd.zeroValue45
 t46 := Tryd.underlying138
 a46 := Tryd.isAgg138
 z46 := Tryd.sizeOf138
 v46 := Tryd.zeroValue138
 t51 := Tryd.underlying184
 a51 := Tryd.isAgg184
 z51 := Tryd.sizeOf184
 v51 := Tryd.zeroValue184
 t53 := Tryd.underlying109
 a53 := Tryd.isAgg109
 z53 := Tryd.sizeOf109
 v53 := Tryd.zeroValue109
 t171 := Tryd.underlying171
 a171 := Tryd.isAgg171
 z171 := Tryd.sizeOf171
 v171 := Tryd.zeroValue171
 t173 := Tryd.underlying174
 a173 := Tryd.isAgg174
 z173 := Tryd.sizeOf174
 v173 := Tryd.zeroValue174
 t212 := Tryd.underlying183
 a212 := Tryd.isAgg183
 z212 := Tryd.sizeOf183
 v212 := Tryd.zeroValue183
 t213 := Tryd.underlying185
 a213 := Tryd.isAgg185
 z213 := Tryd.sizeOf185
 t232 := Tryd.underlying193
 a232 := Tryd.isAgg193
 z232 := Tryd.sizeOf193
 v232 := Tryd.zeroValue193
 t233 := Tryd.underlying194
 a233 := Tryd.isAgg194
 z233 := Tryd.sizeOf194
 v233 := Tryd.zeroValue194
 g17 := by kernel_rfl
 g18 := by kernel_rfl
 g19 := by kernel_rfl
 i0 := by kernel_rfl
 i2 := by kernel_rfl
 i3 := by kernel_rfl
 i4 := by kernel_rfl
 i5 := by kernel_rfl
 i9 := by kernel_rfl
 i20 := by kernel_rfl
 i37 := by kernel_rfl
 i46 := by kernel_rfl
 i51 := by kernel_rfl
 i53 := by kernel_rfl
 i171 := by kernel_rfl
 i173 := by kernel_rfl
 i212 := by kernel_rfl
 i232 := by kernel_rfl
 i233 := by kernel_rfl
 m17 := by kernel_rfl
 m18 := by kernel_rfl
 m19 := by kernel_rfl
def F113.f (a0 : Int) (a1 : Int) : Option ByteArray := if a1 = 10 then (if -9223372036854775808 ≤ a0 ∧ a0 ≤ 9223372036854775807 then (some ⟨(Lib.itoa a0).toArray⟩) else (none)) else (none)
theorem F113.calls (a0 : Int) (a1 : Int) (r : ByteArray) (w : World) (hT : LaidT false Tryd.prog w) (h : F113.f a0 a1 = some r) :
  Calls Tryd.prog 113 #[.int .i64 a0, .int .i64 a1] w fun e w' => e = .returned (.string r) ∧ Below w.heap.size w w' := by
 unfold F113.f at h
 by_cases h1 : a1 = 10
 rotate_left
 ·rw [if_neg h1] at h
  cases h

 rw [if_pos h1] at h
 by_cases h2 : -9223372036854775808 ≤ a0 ∧ a0 ≤ 9223372036854775807
 rotate_left
 ·rw [if_neg h2] at h
  cases h
 rw [if_pos h2] at h
 subst h1
 obtain rfl := Option.some.inj h
 refine (Any.strconv_FormatInt_10 F113.lays a0 h2.1 h2.2 w hT.pow).mono ?_
 rintro e w' ⟨rfl, k, os, rfl⟩
 refine ⟨rfl, rfl, rfl, rfl, ?_, fun j hj => Array.getElem?_append_left hj⟩
 show w.heap.size ≤ (w.heap ++ os).size
 rw [Array.size_append]
 omega
/-! ### F88: function 88 -/
def F88.f (a0 : Int) : Option (ByteArray) := (F113.f a0 10).bind fun t398 => (some t398)
theorem F88.calls (a0 : Int) (r : ByteArray) (w : World) (hT : LaidT false Tryd.prog w) (h : F88.f a0 = some r) :
  Calls Tryd.prog 88 #[.int .i64 a0] w fun e w' => e = .returned (.string r) ∧ Below w.heap.size w w' := by
 have HZT := am_ hT
 clear hT
 have HB := am_ (Below.refl w.heap.size w)
 have H : ((F113.f a0 10).bind fun t398 => (some t398)) = some r := h
 clear h
 replace H := bi_ H; rcases H with ⟨t398, A2, H⟩
 obtain rfl := Option.some.inj H
 go_enter Tryd.func88, Tryd.ntmps88
 go_wp2_with (first | ((with_reducible refine gate_callee (f := 113) rfl ?_); refine gl_ 4 Tryd.func113 #[.int .i64 a0, .int .i64 10] ?_ rfl rfl rfl rfl; (with_reducible refine (F113.calls a0 10 t398 _ ?s1 A2.out).mono ?_); (case s1 => exact au3_2); rintro e w3 ⟨rfl, hb⟩; refine ⟨_, rfl, ?_⟩; replace HB := hs_ w hb; (try clear hb)))
 go_ret
 exact ⟨au3_1, bl_⟩

/-! ### F106: function 106 -/
def F106.f (l0 : List (ByteArray)) : Option (List (ByteArray)) := if l0.length < 8796093022208 then (some l0) else (none)
theorem F106.calls (A0 : Option Addr) (c0 : Nat) (l0 : List (ByteArray)) (r : List (ByteArray)) (w : World) (hr0 : Kd.C Kd.string w A0 l0.length l0) (hc0 : l0.length ≤ c0) (h : F106.f l0 = some r) :
  Calls Tryd.prog 106 #[.slice A0 l0.length c0] w fun e w' => ∃ v0_ : Value, e = .returned (v0_) ∧ Kd.R Kd.string 9 w' w.heap.size (fun _ => True) v0_ r ∧ Below w.heap.size w w' := by
 have hu := Tryd.underlying53
 have HR := am_ hr0
 clear hr0
 have HB := am_ (Below.refl w.heap.size w)
 by_cases hl : l0.length < 8796093022208
 rotate_left
 ·have H := h
  unfold F106.f at H
  rw [if_neg hl] at H
  cases H

 have H := h
 unfold F106.f at H
 rw [if_pos hl] at H
 obtain rfl := Option.some.inj H
 clear H h
 have HL := am_ hl
 clear hl
 cases A0 with
 | none =>
  have h0 : l0 = [] := by
   rcases l0 with _ | ⟨x, xs⟩
   ·rfl
   obtain ⟨ad, h1, _⟩ := HR.out.2.2 (by simp)
   cases h1
  subst h0
  have hq := fun (w : World) => Go.Lib.run_eql_slice_nil (P := Tryd.prog) w 53 9 none 0 c0 0 0 hu
  go_enter Tryd.func106, Tryd.ntmps106
  go_wp2
  go_ret
  exact ⟨_, rfl, Kd.R_nil _ _ _ _ _, HB.out⟩
 | some ad =>
  have hq := fun (w : World) => Go.Lib.run_eql_slice_nil (P := Tryd.prog) w 53 9 (some ad) l0.length c0 0 0 hu
  go_enter Tryd.func106, Tryd.ntmps106
  go_wp2_with (first
   | ((with_reducible refine gate_dst (N := 5) rfl ?_); refine Kd.R_lit Kd.string _ 9 ?hg (N := 5) ?hd (xs := ([] : List (ByteArray))) (inner := []) (ok := fun _ => True) (okp := fun _ => True) ?hr ?hp (fun _ hk => hk) trivial (Below.refl _ _) (Nat.le_refl _) (by simp) ?_; (case hd => rfl); (case hg => rfl); (case hr => exact hr_); (case hp => exact (Reps.none _ _)); intro v1 w1 ho hb hg_ hnew_; clear hg_ hnew_; have HO := am_ (Kd.R_lower ho (below_size HB.out)); have HB2 := am_ (below_step HB.out hb); clear ho hb)
   | ((with_reducible refine gate_builtin (b := .append) (xs := #[.tmp 5, .tmp 6]) rfl ?_); at_builtin; refine Kd.R_append_rows Kd.string (w0 := w) w.heap.size rfl (.tmp 5) (.tmp 6) 53 9 (.string ⟨#[]⟩) 16 rfl Tryd.underlying53 info9 rfl (by decide) (by omega) v1 ([] : List (ByteArray)) l0 _ _ _ (fun _ => True) (fun _ => False) rfl rfl ?aO ?aR (fun _ _ h => h) (fun _ h => h.elim) ?aF ?aB ?aS ?aL ?_; (case aR => repeat (first | exact (Kd.C_below HR.out HB2.out) | (with_reducible refine Kd.C_alloc ?_ _) | (with_reducible refine Kd.C_drewN ?_ _) | (with_reducible refine Kd.C_drew ?_))); (case aB => exact au3_23); (case aF => exact (fun _ _ => trivial)); (case aO => exact (by (with_reducible repeat (first | apply Kd.R_alloc | apply Kd.R_drewN | apply Kd.R_drew)); exact HO.out)); (case aS => exact (below_size au3_23)); (case aL => have := HL.out; simp only [List.length_nil]; omega); intro v2 w2 ho hb hg hat))
  go_ret
  exact ⟨_, rfl, by (with_reducible repeat (first | apply Kd.R_alloc | apply Kd.R_drewN | apply Kd.R_drew)); exact ho, by repeat (first | (with_reducible first | exact hb | apply below_alloc | apply pw_below_drewN | apply below_drew1) | exact hb)⟩
/-! ### F79: function 79 -/
def F79.l0 : Nat → List (S55) → Int → Int → ByteArray → List (S55) → Option (ByteArray × (List (S55)))
  | 0, _, _, _, _, _ => none
  | k + 1, x10, x11, x12, x402000, x402001 => if x12 < x11 then (if 0 ≤ x12 then (if x12 < (x10.length : Int) then ((F106.f ((rd_T55 x10 x12).f0)).bind fun t404 => (if x402001.length < 5864062014805 then (F79.l0 k x10 x11 (wrap64 (x12 + 1)) x402000 (x402001 ++ [(⟨t404⟩ : S55)])) else (none))) else (none)) else (none)) else (some (x402000, x402001))
def F79.f (k : Nat) (a0_0 : ByteArray) (l0_1 : List (S55)) : Option (ByteArray × (List (S55))) := F79.l0 k l0_1 (l0_1.length : Int) 0 a0_0 ([] : List (S55))
theorem F79.mono_l : ∀ k, (∀ y0 y1 y2 y3 y4, LeO (F79.l0 k y0 y1 y2 y3 y4) (F79.l0 (k + 1) y0 y1 y2 y3 y4))
 | 0 => fun _ _ _ _ _ r h => by simp [F79.l0] at h
 | k + 1 => by
  have ih0 := F79.mono_l k
  intro y0 y1 y2 y3 y4
  unfold F79.l0
  repeat' with_reducible first | exact ih0 _ _ _ _ _ | exact LeO.refl _ | exact LeO.none _ | refine LeO.ite ?_ ?_ | refine LeO.bind ?_ (fun _ => ?_)
theorem F79.mono : ∀ a0 a1 k, LeO (F79.f k a0 a1) (F79.f (k + 1) a0 a1) := by
 intro a0 a1 k
 have ih0 := F79.mono_l k
 unfold F79.f
 repeat' with_reducible first | exact ih0 _ _ _ _ _ | exact LeO.refl _ | exact LeO.none _ | refine LeO.ite ?_ ?_ | refine LeO.bind ?_ (fun _ => ?_)
def F79.T5 : Bool × List (List Nat × List Nat) := (true, [([], []), ([0], [0]), ([], []), ([2], [2]), ([3], [3]), ([4], [4]), ([5], [5]), ([1, 6, 4], [1, 6]), ([0, 1, 2, 3, 4, 5, 6, 7], []), ([8, 7, 7, 0, 1, 2, 3, 4, 5, 6, 7], [7, 8])])
def F79.B5 : List Nat := [0, 1, 0, 4, 12, 28, 60, 127, 255, 511]
theorem F79.tab5 : rtab .any (opsOf Tryd.f79 5) = F79.T5 := by kernel_rfl
theorem F79.bits5 : waitsOk F79.T5.2 F79.B5 = true := by kernel_rfl
theorem F79.calls (k : Nat) (a0_0 : ByteArray) (A0_1 : Option Addr) (c0_1 : Nat) (l0_1 : List (S55)) (r1 : ByteArray) (r2 : List (S55)) (w : World) (hr0_1 : Kd.C k55 w A0_1 l0_1.length l0_1) (hc0_1 : l0_1.length ≤ c0_1) (h : F79.f k a0_0 l0_1 = some (r1, r2)) :
  Calls Tryd.prog 79 #[.agg #[.string a0_0, .slice A0_1 l0_1.length c0_1]] w fun e w' => ∃ v1_ : Value, e = .returned (.agg #[.string r1, v1_]) ∧ Kd.S k55 55 w' w.heap.size (fun _ => True) v1_ r2 ∧ Below w.heap.size w w' := by
 have hu52 := Tryd.underlying52
 have hu55 := Tryd.underlying55
 have HR0_1 := am_ hr0_1
 have HC0_1 := am_ hc0_1
 clear hr0_1 hc0_1
 have HB := am_ (Below.refl w.heap.size w)
 have H : (F79.l0 k l0_1 (l0_1.length : Int) 0 a0_0 ([] : List (S55))) = some (r1, r2) := h
 clear h
 have H' := am_ H
 clear H
 go_enter Tryd.func79, Tryd.ntmps79
 go_wp2_with (first | ((with_reducible refine gate_dst (N := 1) rfl ?_); refine be_ 1 #[.string a0_0, .slice A0_1 l0_1.length c0_1] 52 ?_; intro gb399 hg w2 hbox hb; have BK399 := am_ (hbox); have GW399 := am_ (gw_ hg bl_); have GE399 := GW399; replace HB := hs_ w hb; clear hb hbox hg) | ((with_reducible refine gate_dst (N := 2) rfl ?_); refine be_ 2 #[.string (⟨#[]⟩ : ByteArray), .slice none 0 0] 52 ?_; intro gb400 hg w3 hbox hb; have BK400 := am_ (hbox); have GW400 := am_ (gw_ hg bl_); have GE400 := GW400; replace HB := hs_ w hb; have NB399_400 := am_ (gn_ hg (blkl_ BK399)); have NB400_399 := am_ (gm_ hg (blkl_ BK399)); replace BK399 := bb_ BK399 hb; clear hb hbox hg; have hnb4 := NB399_400.out; have hnc4 := NB400_399.out; obtain ⟨hcz5_0, hcz5_1, hfz5_0, hfz5_1⟩ := cellsF2 BK399.out) | ((with_reducible refine gate_dst (N := 3) rfl ?_); refine be_ 3 #[.string (⟨#[]⟩ : ByteArray), .slice none 0 0] 52 ?_; intro gb401 hg w6 hbox hb; have BK401 := am_ (hbox); have GW401 := am_ (gw_ hg bl_); have GE401 := GW401; replace HB := hs_ w hb; have NB399_401 := am_ (gn_ hg (blkl_ BK399)); have NB401_399 := am_ (gm_ hg (blkl_ BK399)); replace BK399 := bb_ BK399 hb; have NB400_401 := am_ (gn_ hg (blkl_ BK400)); have NB401_400 := am_ (gm_ hg (blkl_ BK400)); replace BK400 := bb_ BK400 hb; clear hb hbox hg; have hnb7 := NB401_399.out; have hnc7 := NB399_401.out; have hnb8 := NB401_400.out; have hnc8 := NB400_401.out; obtain ⟨hcz9_0, hcz9_1, hfz9_0, hfz9_1⟩ := cellsF2 BK401.out; obtain ⟨hcz10_0, hcz10_1, hfz10_0, hfz10_1⟩ := cellsF2 BK399.out))
 go_loopg [12] k (fun kq v12 w' => ∃ (x12_1 : Int) (x402001_1 : List (S55)) (u402001 : Value), v12 = .int .i64 x12_1 ∧ Aside0 (F79.l0 kq l0_1 (l0_1.length : Int) x12_1 a0_0 x402001_1 = some (r1, r2)) ∧ Aside0 (kq ≤ k) ∧ Aside0 (Kd.S k55 55 w' w.heap.size (fun _ => True) u402001 x402001_1) ∧ Aside0 (w'.heap[gb399]? = some (.cells #[.string a0_0, (.slice A0_1 l0_1.length c0_1)] 52 (0, 0))) ∧ Aside0 (w'.heap[gb400]? = some (.cells #[.string (⟨#[]⟩ : ByteArray), (.slice none 0 0)] 52 (0, 0))) ∧ Aside0 (w'.heap[gb401]? = some (.cells #[.string a0_0, u402001] 52 (0, 0))) ∧ Aside0 (Below w.heap.size w w'))
 case atStart => exact ⟨(0), (([] : List (S55))), (.slice none 0 0), er_, H', ⟨Nat.le_refl _⟩, ⟨au3_22⟩, ⟨bf_ BK399⟩, ⟨bf_ BK400⟩, ⟨bq_ BK401⟩, ⟨bl_⟩⟩
 case round =>
  clear H'
  try clear hcz10_0 hcz10_1
  try clear hcz5_0 hcz5_1
  try clear hcz9_0 hcz9_1
  try clear hfz10_0 hfz10_1
  try clear hfz5_0 hfz5_1
  try clear hfz9_0 hfz9_1
  obtain ⟨x12_1, x402001_1, u402001, rfl, HA, HK1, HO_402001, BK399, BK400, BK401, HB⟩ := hrel
  cases gk with
  | zero => exact absurd HA.out (by simp [F79.l0])
  | succ k1 =>
   have H := HA.out
   clear HA
   simp only [F79.l0] at H
   replace H := it_ H; rcases H with ⟨c11b0, H⟩ | ⟨c11b0, H⟩
   rotate_left
   ·simp only [Option.some.injEq, Prod.mk.injEq] at H
    obtain ⟨rfl, rfl⟩ := H
    have hnb28 := NB401_399.out
    have hnc28 := NB399_401.out
    have hnb29 := NB401_400.out
    have hnc29 := NB400_401.out
    obtain ⟨hcz30_0, hcz30_1, hfz30_0, hfz30_1⟩ := cellsF2 BK401.out
    have hnb31 := NB400_399.out
    have hnc31 := NB399_400.out
    obtain ⟨hcz32_0, hcz32_1, hfz32_0, hfz32_1⟩ := cellsF2 BK400.out
    obtain ⟨Ao33, co33, eo33⟩ := Kd.S_slice HO_402001.out
    subst eo33
    go_wp2
    refine bodyPost_ret (results_cell_row rfl _ _ gb400 52 #[.string a0_0, .slice Ao33 x402001_1.length co33] (0, 0) _ rfl (bq_ BK400) Tryd.underlying52 rfl (by kernel_rfl)) rfl ?_
    exact ⟨_, au3_1, by (with_reducible repeat (first | apply Kd.S_alloc | apply Kd.S_drewN | apply Kd.S_drew)); exact Kd.S_mono (Kd.S_far (p := ⟨gb400, 1, none⟩) (Kd.S_far (p := ⟨gb400, 0, none⟩) (Kd.S_types HO_402001.out BK400.out (by decide)) (fun _ hk => hk.2) (.string a0_0)) (fun _ hk => hk.2) (.slice Ao33 x402001_1.length co33)) (fun _ hk => trivial), bl_⟩

   replace H := itn_ H; rcases H with ⟨c12b0, H⟩
   replace H := itn_ H; rcases H with ⟨c13b0, H⟩
   replace H := bi_ H; rcases H with ⟨t404, A14, H⟩
   replace H := iln_ H; rcases H with ⟨LMc15, H⟩
   obtain ⟨y407, hy407⟩ : ∃ y_ : List (S55), y_ = (x402001_1 ++ [(⟨t404⟩ : S55)]) := ⟨_, rfl⟩
   replace H : (F79.l0 k1 l0_1 (l0_1.length : Int) (wrap64 (x12_1 + 1)) a0_0 y407) = some (r1, r2) := by first | (rw [hy407]; exact H) | exact H
   have Ny407 := am_ hy407
   clear hy407
   have H' := am_ H
   clear H
   have p402 : 0 ≤ (x12_1 : Int) := od_
   have q402 : x12_1 < (l0_1.length : Int) := od_
   obtain ⟨ad402, A402_0, c402_0, e402, hx402_0, hl402_0, hi402_0⟩ := at_T55 HR0_1.out x12_1 p402 q402
   cases e402
   replace hx402_0 := (HB.out.cell (World.block_lt_of_cell? _ _ hx402_0)).trans hx402_0
   have HR402_0 := am_ hi402_0
   have HC402_0 := am_ hl402_0
   clear hi402_0 hl402_0
   replace p402 := eq_true p402
   replace q402 := eq_true q402
   try go_wp2_with (first | ((with_reducible refine gate_dst (N := 5) rfl ?_); refine be_ 5 #[.slice none 0 0] 55 ?_; intro gb403 hg w16 hbox hb; replace HO_402001 := am_ (Kd.S_below (Kd.S_elderB au3_24 gb403 (Nat.le_of_eq hg.symm)) hb); have BK403 := am_ (hbox); have GW403 := am_ (gw_ hg bl_); have GE403 := GW403; replace HB := hs_ w hb; have NB399_403 := am_ (gn_ hg (blkl_ BK399)); have NB403_399 := am_ (gm_ hg (blkl_ BK399)); replace BK399 := bb_ BK399 hb; have NB400_403 := am_ (gn_ hg (blkl_ BK400)); have NB403_400 := am_ (gm_ hg (blkl_ BK400)); replace BK400 := bb_ BK400 hb; have NB401_403 := am_ (gn_ hg (blkl_ BK401)); have NB403_401 := am_ (gm_ hg (blkl_ BK401)); replace BK401 := bb_ BK401 hb; clear hb hbox hg; have hnb17 := NB403_399.out; have hnc17 := NB399_403.out; have hnb18 := NB403_400.out; have hnc18 := NB400_403.out; have hnb19 := NB403_401.out; have hnc19 := NB401_403.out; have hcz20_0 : w16.cell? ⟨gb403, 0, none⟩ = some (.slice none 0 0) := (blk_cell BK403.out 0).trans rfl; have hfz20_0 := blk_frozen BK403.out 0))
   have n0_ : Aside0 (Kd.S k55 55 (w16.setCell ⟨gb403, 0, none⟩ (.slice A402_0 ((rd_T55 l0_1 x12_1).f0).length c402_0)) w.heap.size (fun k_ => k_ ≠ gb403) u402001 x402001_1) := ⟨by (with_reducible repeat (first | apply Kd.S_alloc | apply Kd.S_drewN | apply Kd.S_drew)); exact Kd.S_mono (Kd.S_far (p := ⟨gb403, 0, none⟩) (Kd.S_mono HO_402001.out (fun k_ hk => (⟨hk, hk.2⟩ : _ ∧ k_ ≠ gb403))) (fun _ hk => hk.2) (.slice A402_0 ((rd_T55 l0_1 x12_1).f0).length c402_0)) (fun _ hk => hk.1.2)⟩
   have n1_ : Aside0 ((w16.setCell ⟨gb403, 0, none⟩ (.slice A402_0 ((rd_T55 l0_1 x12_1).f0).length c402_0)).heap[gb399]? = some (.cells #[.string a0_0, .slice (some ad402) l0_1.length c0_1] 52 (0, 0))) := ⟨bf_ BK399⟩
   have n2_ : Aside0 ((w16.setCell ⟨gb403, 0, none⟩ (.slice A402_0 ((rd_T55 l0_1 x12_1).f0).length c402_0)).heap[gb400]? = some (.cells #[.string (⟨#[]⟩ : ByteArray), .slice none 0 0] 52 (0, 0))) := ⟨bf_ BK400⟩
   have n3_ : Aside0 ((w16.setCell ⟨gb403, 0, none⟩ (.slice A402_0 ((rd_T55 l0_1 x12_1).f0).length c402_0)).heap[gb401]? = some (.cells #[.string a0_0, u402001] 52 (0, 0))) := ⟨bf_ BK401⟩
   have n4_ : Aside0 ((w16.setCell ⟨gb403, 0, none⟩ (.slice A402_0 ((rd_T55 l0_1 x12_1).f0).length c402_0)).heap[gb403]? = some (.cells #[.slice A402_0 ((rd_T55 l0_1 x12_1).f0).length c402_0] 55 (0, 0))) := ⟨bq_ BK403⟩
   have n5_ : Aside0 (Below w.heap.size w (w16.setCell ⟨gb403, 0, none⟩ (.slice A402_0 ((rd_T55 l0_1 x12_1).f0).length c402_0))) := ⟨bl_⟩
   (try clear HO_402001)
   (try clear BK399)
   (try clear BK400)
   (try clear BK401)
   (try clear BK403)
   (try clear HB)
   generalize (w16.setCell ⟨gb403, 0, none⟩ (.slice A402_0 ((rd_T55 l0_1 x12_1).f0).length c402_0)) = w21 at n0_ n1_ n2_ n3_ n4_ n5_ ⊢
   have HO_402001 := n0_
   have BK399 := n1_
   have BK400 := n2_
   have BK401 := n3_
   have BK403 := n4_
   have HB := n5_
   clear n0_ n1_ n2_ n3_ n4_ n5_
   replace HO_402001 := am_ (Kd.S_drew HO_402001.out)
   replace BK399 := bd_ BK399
   replace BK400 := bd_ BK400
   replace BK401 := bd_ BK401
   replace BK403 := bd_ BK403
   replace HB := am_ (below_drew1 HB.out)
   refine start_ (n := 10) (S := fun w' => w'.cell? ⟨gb401, 0, none⟩ = some (.string a0_0) ∧ w'.cell? ⟨gb401, 1, none⟩ = some (u402001) ∧ w'.cell? ⟨gb403, 0, none⟩ = some (.slice A402_0 ((rd_T55 l0_1 x12_1).f0).length c402_0)) (ds := [9]) (bs 10 0) (by kernel_rfl) rfl rfl ⟨(blk_cell BK401.out 0).trans rfl, (blk_cell BK401.out 1).trans rfl, (blk_cell BK403.out 0).trans rfl⟩ (fun hHeld => ?_); refine with_tabW F79.tab5 F79.bits5 (fun HT_ HW_ => ?_)
   generalize w21.drew = w22 at HO_402001 BK399 BK400 BK401 BK403 HB hHeld ⊢
   refine pu_ 0 16 (bs 10 1) HT_ ?_ rfl rfl
   refine pu_ 2 18 (bs 10 5) HT_ ?_ rfl rfl
   refine tk_ 1 17 (bs 10 7) HT_ HW_ hHeld au3_10 ?_ rfl rfl
   refine tk_ 3 19 (bs 10 15) HT_ HW_ hHeld au3_10 ?_ rfl rfl
   refine one_ (i := 4) (N := some 20) (bs 10 31) rfl rfl (one_of HT_.out (by kernel_rfl)) (by decide) (fun K hK => ?_)
   refine gr_ Tryd.func106 #[.slice A402_0 ((rd_T55 l0_1 x12_1).f0).length c402_0] (by rfl) ?_ rfl rfl rfl
   with_reducible refine (F106.calls _ _ ((rd_T55 l0_1 x12_1).f0) t404 _ ?s1 ?s2 A14.out).mono ?_
   (case s1 => repeat (first | exact (Kd.C_below HR402_0.out HB.out) | (with_reducible refine Kd.C_alloc ?_ _) | (with_reducible refine Kd.C_drewN ?_ _) | (with_reducible refine Kd.C_drew ?_)))
   (case s2 => exact HC402_0.out)
   rintro e w23 ⟨v405, rfl, ho0, hb⟩
   refine ⟨_, rfl, ?_⟩
   replace HO_402001 := am_ (Kd.S_elder' au3_24 (Kd.R_base ho0) hb)
   have HO406 := am_ (Kd.R_lower ho0 (below_size bl_))
   replace BK399 := bb_ BK399 hb
   replace BK400 := bb_ BK400 hb
   replace BK401 := bb_ BK401 hb
   replace BK403 := bb_ BK403 hb
   replace HB := hs_ w hb
   (try clear hb)
   (try clear hb2)
   (try clear hk)
   (try clear hi)
   (try clear ho0)
   obtain ⟨Ao24, co24, eo24⟩ := Kd.R_slice HO406.out
   (first | subst eo24 | (injection eo24 with f1_ f2_ f3_; have f4_ := f1_.symm; have f5_ := f3_.symm; clear f1_ f2_ f3_; subst f4_; subst f5_))
   refine hK.out _ _ ⟨(blk_cell BK401.out 0).trans rfl, (blk_cell BK401.out 1).trans rfl, (blk_cell BK403.out 0).trans rfl⟩ (fun hHeld => ?_)
   clear hK K
   refine no_ 20 ?_
   refine pu_ 5 21 (bs 10 63) HT_ ?_ rfl rfl
   refine one_ (i := 6) (N := some 22) (bs 10 127) rfl rfl (one_of HT_.out (by kernel_rfl)) (by decide) (fun K hK => ?_)
   refine value_ (w1 := ?_) (v := ?_) (by rfl) rfl ?_ ?_
   rotate_left 2
   ·go_simp
    constructor
    ·rfl
    ·rfl
   refine hK.out _ _ ⟨(blk_cell (blk_alloc BK401.out _) 0).trans rfl, (blk_cell (blk_alloc BK401.out _) 1).trans rfl, (blk_cell (blk_alloc BK403.out _) 0).trans rfl⟩ (fun hHeld => ?_)
   clear hK K
   refine no_ 22 ?_
   refine one_ (i := 7) (N := some 23) (bs 10 255) rfl rfl (one_of HT_.out (by kernel_rfl)) (by decide) (fun K hK => ?_)
   refine Kd.S_append_step k55 (w0 := w) w.heap.size (by rfl) (.tmp 17) (.tmp 22) 50 55 (.agg #[(.slice none 0 0)]) 24 rfl Tryd.underlying50 info55 rfl (by decide) (by omega) u402001 x402001_1 (⟨t404⟩ : S55) [.slice Ao24 t404.length co24] (fun k_ => k_ ≠ gb403) (fun k_ => some k_ = (.slice Ao24 t404.length co24 : Value).ownBlock) rfl rfl ?aP (fun k_ hk_ => ((Kd.R_mono (ok' := fun k_ => ((fun k_ => k_ ≠ gb403)) k_ ∧ some k_ ≠ (u402001 : Value).ownBlock) (Kd.R_types (Kd.R_apart' (HO406.out) (Kd.S_typed HO_402001.out) (by decide)) BK403.out (by decide)) (fun k_ hk => ⟨hk.2, hk.1.2⟩))).1 k_ hk_.symm) ?aF ?aO ?aB ?aS ?aL ?_
   (case aP => exact k55_mkM _ _ _ (⟨t404⟩ : S55) (Kd.R_mono (Kd.R_tight rfl (Kd.R_mono (ok' := fun k_ => ((fun k_ => k_ ≠ gb403)) k_ ∧ some k_ ≠ (u402001 : Value).ownBlock) (Kd.R_types (Kd.R_apart' (HO406.out) (Kd.S_typed HO_402001.out) (by decide)) BK403.out (by decide)) (fun k_ hk => ⟨hk.2, hk.1.2⟩))) (fun _ h_ => h_)))
   (case aB => exact bl_)
   (case aF => exact (fun k_ hk => Kd.freshB (g := gb403) (o := .cells #[.slice A402_0 ((rd_T55 l0_1 x12_1).f0).length c402_0] 55 (0, 0)) (bk_ BK403) k_ hk))
   (case aO => exact (by (with_reducible repeat (first | apply Kd.S_alloc | apply Kd.S_drewN | apply Kd.S_drew)); exact Kd.S_mono HO_402001.out (fun k_ hk => ⟨hk.1, fun e_ => hk.2 e_⟩)))
   (case aS => exact (below_size bl_))
   (case aL => have := LMc15.out; omega)
   intro v408 w25 ho hb hg hat
   rw [← Ny407.out] at ho
   have n0_ := am_ (bg_ BK399 hg (Kd.S_ne HO_402001.out BK399.out (by decide)))
   have n1_ := am_ (bg_ BK400 hg (Kd.S_ne HO_402001.out BK400.out (by decide)))
   have n2_ := am_ (bg_ BK401 hg (Kd.S_ne HO_402001.out BK401.out (by decide)))
   have n3_ := am_ (bg_ BK403 hg (Kd.S_away HO_402001.out (fun _ hk => hk.1)))
   have n4_ := am_ (hb)
   have n5_ := am_ (ho)
   clear BK399
   clear BK400
   clear BK401
   clear BK403
   clear HB
   clear HO_402001
   clear HO406
   have BK399 := n0_
   have BK400 := n1_
   have BK401 := n2_
   have BK403 := n3_
   have HB := n4_
   have HO409 := n5_
   clear n0_ n1_ n2_ n3_ n4_ n5_
   clear ho hb hg hat
   obtain ⟨Ao26, co26, eo26⟩ := Kd.S_slice HO409.out
   (first | subst eo26 | (injection eo26 with f1_ f2_ f3_; have f4_ := f1_.symm; have f5_ := f3_.symm; clear f1_ f2_ f3_; subst f4_; subst f5_))
   refine hK.out _ _ ⟨(blk_cell BK401.out 0).trans rfl, (blk_cell BK401.out 1).trans rfl, (blk_cell BK403.out 0).trans rfl⟩ (fun hHeld => ?_)
   clear hK K
   refine no_ 23 ?_
   refine pu_ 8 24 (bs 10 511) HT_ ?_ rfl rfl
   refine last_ (i := 9) (N := none) (bs 10 1023) rfl rfl (one_of HT_.out (by kernel_rfl)) (by decide) (fun K hK => ?_)
   have hs27 : w25.cell? ⟨gb401, 1, none⟩ = some (u402001) := (blk_cell BK401.out 1).trans rfl
   have hfs27 := blk_frozen BK401.out 1
   have hns27_0 := NB399_401.out
   have hns27_1 := NB400_401.out
   have hns27_3 := NB403_401.out
   have hms27_0 := NB401_399.out
   have hms27_1 := NB401_400.out
   have hms27_3 := NB401_403.out
   refine skip_ (w1 := ?_) (by rfl) rfl ?_ ?_
   rotate_left
   ·go_simp
    rfl
   refine hK.out _ _ ?_
   clear hK K
   refine done_ (done_of HT_.out (by kernel_rfl)) ?_
   try go_wp2
   go_roundg k1
   case measure => have := HK1.out; omega
   case rel => exact ⟨(wrap64 (x12_1 + 1)), (y407), (.slice Ao26 y407.length co26), er_, H', ⟨by have := HK1.out; omega⟩, ⟨by (with_reducible repeat (first | apply Kd.S_alloc | apply Kd.S_drewN | apply Kd.S_drew)); exact Kd.S_mono (Kd.S_far (p := ⟨gb401, 1, none⟩) (Kd.S_types HO409.out BK401.out (by decide)) (fun _ hk => hk.2) (.slice Ao26 y407.length co26)) (fun _ hk => trivial)⟩, ⟨bf_ BK399⟩, ⟨bf_ BK400⟩, ⟨bq_ BK401⟩, ⟨bl_⟩⟩
/-! ### F89: function 89 -/
def F89.l0 : Nat → List (S52) → List (S52) → Int → Int → Option ((List (S52)))
  | 0, _, _, _, _ => none
  | k + 1, x3, x7, x8, x9 => if x9 < x8 then (if 0 ≤ x9 then (if x9 < (x7.length : Int) then ((F79.f k ((rd_T52 x7 x9).f0) ((rd_T52 x7 x9).f1)).bind fun bt415 => (if x3.length < 3518437208883 then (F89.l0 k (x3 ++ [(⟨bt415.1, bt415.2⟩ : S52)]) x7 x8 (wrap64 (x9 + 1))) else (none))) else (none)) else (none)) else (some x3)
def F89.f (k : Nat) (l0 : List (S52)) : Option ((List (S52))) := F89.l0 k (([] : List (S52))) l0 (l0.length : Int) 0
theorem F89.mono_l : ∀ k, (∀ y0 y1 y2 y3, LeO (F89.l0 k y0 y1 y2 y3) (F89.l0 (k + 1) y0 y1 y2 y3))
 | 0 => fun _ _ _ _ r h => by simp [F89.l0] at h
 | k + 1 => by
  have ih0 := F89.mono_l k
  intro y0 y1 y2 y3
  unfold F89.l0
  repeat' with_reducible first | exact ih0 _ _ _ _ | exact F79.mono _ _ _ | exact LeO.refl _ | exact LeO.none _ | refine LeO.ite ?_ ?_ | refine LeO.bind ?_ (fun _ => ?_)
theorem F89.mono : ∀ a0 k, LeO (F89.f k a0) (F89.f (k + 1) a0) := by
 intro a0 k
 have ih0 := F89.mono_l k
 unfold F89.f
 repeat' with_reducible first | exact ih0 _ _ _ _ | exact F79.mono _ _ _ | exact LeO.refl _ | exact LeO.none _ | refine LeO.ite ?_ ?_ | refine LeO.bind ?_ (fun _ => ?_)
theorem F89.calls (k : Nat) (A0 : Option Addr) (c0 : Nat) (l0 : List (S52)) (r : List (S52)) (w : World) (hr0 : Kd.C k52 w A0 l0.length l0) (hc0 : l0.length ≤ c0) (h : F89.f k l0 = some r) :
  Calls Tryd.prog 89 #[.slice A0 l0.length c0] w fun e w' => ∃ v0_ : Value, e = .returned (v0_) ∧ Kd.R k52 52 w' w.heap.size (fun _ => True) v0_ r ∧ Below w.heap.size w w' := by
 have hu52 := Tryd.underlying52
 have HR0 := am_ hr0
 have HC0 := am_ hc0
 clear hr0 hc0
 have HB := am_ (Below.refl w.heap.size w)
 have H : (F89.l0 k (([] : List (S52))) l0 (l0.length : Int) 0) = some r := h
 clear h
 obtain ⟨y410, hy410⟩ : ∃ y_ : List (S52), y_ = (([] : List (S52))) := ⟨_, rfl⟩
 replace H : (F89.l0 k y410 l0 (l0.length : Int) 0) = some r := by first | (rw [hy410]; exact H) | exact H
 have Ny410 := am_ hy410
 clear hy410
 have H' := am_ H
 clear H
 go_enter Tryd.func89, Tryd.ntmps89
 go_wp2_with (first | ((with_reducible refine gate_dst (N := 6) rfl ?_); refine Kd.R_lit k52 _ 52 ?hg (N := 6) ?hd (xs := ([] : List (S52))) (inner := []) (ok := fun _ => True) (okp := fun _ => True) ?hr ?hp (fun _ hk => hk) trivial (Below.refl _ _) (Nat.le_refl _) (by simp) ?_; (case hd => rfl); (case hg => rfl); (case hr => exact hr_); (case hp => exact (Reps.none _ _)); intro v411 w2 ho3 hb hg_ hnew_; clear hg_ hnew_; (first | rw [← Ny410.out] at ho3 | (simp only [Int.reduceToNat] at ho3; rw [← Ny410.out] at ho3)); have HO412 := am_ (Kd.R_lower ho3 (below_size bl_)); replace HB := hs_ w hb; clear hb ho3))
 go_loopg [3, 9] k (fun kq v3 v9 w' => ∃ (x3_1 : List (S52)) (x9_1 : Int), v9 = .int .i64 x9_1 ∧ Aside0 (F89.l0 kq x3_1 l0 (l0.length : Int) x9_1 = some r) ∧ Aside0 (kq ≤ k) ∧ Aside0 (Kd.R k52 52 w' w.heap.size (fun _ => True) v3 x3_1) ∧ Aside0 (Below w.heap.size w w'))
 case atStart => exact ⟨(y410), (0), er_, H', ⟨Nat.le_refl _⟩, ⟨rk_ HO412⟩, ⟨bl_⟩⟩
 case round =>
  clear H'
  obtain ⟨x3_1, x9_1, rfl, HA, HK1, HO_3, HB⟩ := hrel
  cases gk with
  | zero => exact absurd HA.out (by simp [F89.l0])
  | succ k1 =>
   have H := HA.out
   clear HA
   simp only [F89.l0] at H
   replace H := it_ H; rcases H with ⟨c4b0, H⟩ | ⟨c4b0, H⟩
   rotate_left
   ·obtain rfl := Option.some.inj H
    go_wp2
    go_ret
    exact ⟨_, au3_1, rk_ HO_3, bl_⟩

   replace H := itn_ H; rcases H with ⟨c5b0, H⟩
   replace H := itn_ H; rcases H with ⟨c6b0, H⟩
   replace H := bi_ H; rcases H with ⟨⟨t415, t416⟩, A7, H⟩
   replace H := iln_ H; rcases H with ⟨LMc8, H⟩
   obtain ⟨y419, hy419⟩ : ∃ y_ : List (S52), y_ = (x3_1 ++ [(⟨t415, t416⟩ : S52)]) := ⟨_, rfl⟩
   replace H : (F89.l0 k1 y419 l0 (l0.length : Int) (wrap64 (x9_1 + 1))) = some r := by first | (rw [hy419]; exact H) | exact H
   have Ny419 := am_ hy419
   clear hy419
   have H' := am_ H
   clear H
   have p413 : 0 ≤ (x9_1 : Int) := od_
   have q413 : x9_1 < (l0.length : Int) := od_
   obtain ⟨ad413, A413_1, c413_1, e413, hx413_0, hx413_1, hl413_1, hi413_1⟩ := at_T52 HR0.out x9_1 p413 q413
   cases e413
   replace hx413_0 := (HB.out.cell (World.block_lt_of_cell? _ _ hx413_0)).trans hx413_0
   replace hx413_1 := (HB.out.cell (World.block_lt_of_cell? _ _ hx413_1)).trans hx413_1
   have HR413_1 := am_ hi413_1
   have HC413_1 := am_ hl413_1
   clear hi413_1 hl413_1
   replace p413 := eq_true p413
   replace q413 := eq_true q413
   go_wp2_with (first | ((with_reducible refine gate_dst (N := 5) rfl ?_); refine be_ 5 #[.string (⟨#[]⟩ : ByteArray), .slice none 0 0] 52 ?_; intro gb414 hg w9 hbox hb; replace HO_3 := am_ (Kd.R_below (Kd.R_elderB (rk_ HO_3) gb414 (Nat.le_of_eq hg.symm)) hb); have BK414 := am_ (hbox); have GW414 := am_ (gw_ hg bl_); have GE414 := GW414; replace HB := hs_ w hb; clear hb hbox hg; obtain ⟨hcz10_0, hcz10_1, hfz10_0, hfz10_1⟩ := cellsF2 BK414.out) | ((with_reducible refine gate_callee (f := 79) rfl ?_); refine gl_ 15 Tryd.func79 #[.agg #[.string ((rd_T52 l0 x9_1).f0), .slice A413_1 ((rd_T52 l0 x9_1).f1).length c413_1]] ?_ rfl rfl rfl rfl; (with_reducible refine (F79.calls k1 ((rd_T52 l0 x9_1).f0) _ _ ((rd_T52 l0 x9_1).f1) t415 t416 _ ?s1 ?s2 A7.out).mono ?_); (case s1 => exact Kd.C_below HR413_1.out bl_); (case s2 => exact HC413_1.out); rintro e w11 ⟨v417, rfl, ho0, hb⟩; refine ⟨_, rfl, ?_⟩; replace HO_3 := am_ (Kd.R_elder' (by (with_reducible repeat (first | apply Kd.R_alloc | apply Kd.R_drewN | apply Kd.R_drew)); exact (Kd.R_mono (Kd.R_far (p := ⟨gb414, 1, none⟩) (Kd.R_far (p := ⟨gb414, 0, none⟩) (Kd.R_mono HO_3.out (fun k_ hk => (⟨hk, hk.2⟩ : _ ∧ k_ ≠ gb414))) (fun _ hk => hk.2) (.string ((rd_T52 l0 x9_1).f0))) (fun _ hk => hk.2) (.slice A413_1 ((rd_T52 l0 x9_1).f1).length c413_1)) (fun _ h_ => h_.1))) (Kd.S_base ho0) hb); have HO418 := am_ (Kd.S_lower ho0 (below_size bl_)); replace BK414 := am_ (blk_below (g := gb414) (o := .cells #[.string ((rd_T52 l0 x9_1).f0), .slice A413_1 ((rd_T52 l0 x9_1).f1).length c413_1] 52 (0, 0)) (bq_ BK414) hb); replace HB := hs_ w hb; (try clear hb); (try clear hb2); (try clear hk); (try clear hi); (try clear ho0); obtain ⟨Ao13, co13, eo13⟩ := Kd.S_slice HO418.out; subst eo13) | ((with_reducible refine gate_builtin (b := .append) (xs := #[.tmp 13, .tmp 16]) rfl ?_); at_builtin; refine Kd.R_append k52 (w0 := w) w.heap.size rfl (.tmp 13) (.tmp 16) 38 52 (.agg #[(.string ⟨#[]⟩), (.slice none 0 0)]) 40 rfl Tryd.underlying38 info52 rfl (by decide) (by omega) u3 x3_1 (⟨t415, t416⟩ : S52) [.string t415, .slice Ao13 t416.length co13] (fun k_ => k_ ≠ gb414) (fun k_ => ((fun k_ => k_ ≠ gb414)) k_ ∧ some k_ ≠ (u3 : Value).ownBlock) rfl rfl ?aP (fun _ hk => hk) ?aF ?aO ?aB ?aS ?aL ?_; (case aP => exact k52_mkM _ _ _ (⟨t415, t416⟩ : S52) (Kd.R_mono (Kd.R_types (Kd.R_apart' ((Kd.S_R HO418.out)) (Kd.R_typed HO_3.out) (by decide)) BK414.out (by decide)) (fun k_ hk => ⟨hk.2, hk.1.2⟩))); (case aB => exact bl_); (case aF => exact (fun k_ hk => Kd.freshB (g := gb414) (o := .cells #[.string ((rd_T52 l0 x9_1).f0), .slice A413_1 ((rd_T52 l0 x9_1).f1).length c413_1] 52 (0, 0)) (bk_ BK414) k_ hk)); (case aO => exact (by (with_reducible repeat (first | apply Kd.R_alloc | apply Kd.R_drewN | apply Kd.R_drew)); exact Kd.R_mono HO_3.out (fun _ hk => hk.1.2))); (case aS => exact (below_size bl_)); (case aL => have := LMc8.out; omega); intro v420 w12 ho hb hg hat; rw [← Ny419.out] at ho; have n0_ := am_ (bg_ BK414 hg (Kd.R_away HO_3.out (fun _ hk => hk.1.2))); have n1_ := am_ (hb); have n2_ := am_ (ho); clear BK414; clear HB; clear HO_3; clear HO418; have BK414 := n0_; have HB := n1_; have HO421 := n2_; clear n0_ n1_ n2_; clear ho hb hg hat))
   go_roundg k1
   case measure => have := HK1.out; omega
   case rel => exact ⟨(y419), (wrap64 (x9_1 + 1)), er_, H', ⟨by have := HK1.out; omega⟩, ⟨by (with_reducible repeat (first | apply Kd.R_alloc | apply Kd.R_drewN | apply Kd.R_drew)); exact Kd.R_mono HO421.out (fun _ hk => trivial)⟩, ⟨bl_⟩⟩
/-! ### F56: function 56 -/
mutual
def F56.l0 : Nat → List (S52) → List (S83) → Int → Int → ByteArray → ByteArray → Int → List (S83) → Option ((List (S52)))
  | 0, _, _, _, _, _, _, _, _ => none
  | k + 1, x3, x19, x20, x21, x423000, x423001, x423002, x423003 => if x21 < x20 then (if 0 ≤ x21 then (if x21 < (x19.length : Int) then ((F88.f ((rd_T83 x19 x21).f0)).bind fun t448 => ((F88.f ((rd_T83 x19 x21).f1)).bind fun t449 => ((F87.f k (⟨#[71, 82, 72]⟩ : ByteArray) (([t448, t449] : List ByteArray))).bind fun bt453 => (if x3.length < 3518437208883 then (F56.l1 k (x3 ++ [(⟨bt453.1, bt453.2⟩ : S52)]) x19 x20 x21 ((rd_T83 x19 x21).f2) (((rd_T83 x19 x21).f2).length : Int) 0 x423000 x423001 x423002 x423003 ((rd_T83 x19 x21).f0) ((rd_T83 x19 x21).f1) ((rd_T83 x19 x21).f2)) else (none))))) else (none)) else (none)) else ((F88.f (x423003.length : Int)).bind fun t434 => ((F88.f x423002).bind fun t435 => ((F87.f k (⟨#[73, 88, 84]⟩ : ByteArray) (([t434, t435] : List ByteArray))).bind fun bt439 => (if x3.length < 3518437208883 then (some (x3 ++ [(⟨bt439.1, bt439.2⟩ : S52)])) else (none)))))
def F56.l1 : Nat → List (S52) → List (S83) → Int → Int → List (S85) → Int → Int → ByteArray → ByteArray → Int → List (S83) → Int → Int → List (S85) → Option ((List (S52)))
  | 0, _, _, _, _, _, _, _, _, _, _, _, _, _, _ => none
  | k + 1, x3, x19, x20, x21, x37, x38, x39, x423000, x423001, x423002, x423003, x448000, x448001, x448002 => if x39 < x38 then (if 0 ≤ x39 then (if x39 < (x37.length : Int) then ((F88.f ((rd_T85 x37 x39).f0)).bind fun t474 => ((F87.f k (⟨#[77, 83, 72]⟩ : ByteArray) (([t474] : List ByteArray))).bind fun bt478 => (if x3.length < 3518437208883 then ((some (x3 ++ [(⟨bt478.1, bt478.2⟩ : S52)] : List (S52))).bind fun y482 => ((F89.f k ((rd_T85 x37 x39).f1)).bind fun t485 => (if y482.length + t485.length < 3518437208883 then ((some (y482 ++ t485 : List (S52))).bind fun y488 => ((F88.f (((rd_T85 x37 x39).f1).length : Int)).bind fun t491 => ((F88.f ((rd_T85 x37 x39).f0)).bind fun t492 => ((F87.f k (⟨#[77, 83, 84]⟩ : ByteArray) (([t491, t492] : List ByteArray))).bind fun bt496 => (if y488.length < 3518437208883 then (F56.l1 k (y488 ++ [(⟨bt496.1, bt496.2⟩ : S52)]) x19 x20 x21 x37 x38 (wrap64 (x39 + 1)) x423000 x423001 x423002 x423003 x448000 x448001 x448002) else (none)))))) else (none)))) else (none)))) else (none)) else (none)) else ((F88.f (x448002.length : Int)).bind fun t460 => ((F88.f x448001).bind fun t461 => ((F87.f k (⟨#[71, 82, 84]⟩ : ByteArray) (([t460, t461] : List ByteArray))).bind fun bt465 => (if x3.length < 3518437208883 then (F56.l0 k (x3 ++ [(⟨bt465.1, bt465.2⟩ : S52)]) x19 x20 (wrap64 (x21 + 1)) x423000 x423001 x423002 x423003) else (none)))))
end
def F56.f (k : Nat) (a0_0 : ByteArray) (a0_1 : ByteArray) (a0_2 : Int) (l0_3 : List (S83)) : Option ((List (S52))) := (F88.f a0_2).bind fun t423 => ((F87.f k (⟨#[73, 88, 72]⟩ : ByteArray) (([a0_0, a0_1, t423] : List ByteArray))).bind fun bt427 => (F56.l0 k (([(⟨bt427.1, bt427.2⟩ : S52)] : List (S52))) l0_3 (l0_3.length : Int) 0 a0_0 a0_1 a0_2 l0_3))
theorem F56.mono_l : ∀ k, (∀ y0 y1 y2 y3 y4 y5 y6 y7, LeO (F56.l0 k y0 y1 y2 y3 y4 y5 y6 y7) (F56.l0 (k + 1) y0 y1 y2 y3 y4 y5 y6 y7)) ∧ (∀ y0 y1 y2 y3 y4 y5 y6 y7 y8 y9 y10 y11 y12 y13, LeO (F56.l1 k y0 y1 y2 y3 y4 y5 y6 y7 y8 y9 y10 y11 y12 y13) (F56.l1 (k + 1) y0 y1 y2 y3 y4 y5 y6 y7 y8 y9 y10 y11 y12 y13))
 | 0 => ⟨fun _ _ _ _ _ _ _ _ r h => by simp [F56.l0] at h, fun _ _ _ _ _ _ _ _ _ _ _ _ _ _ r h => by simp [F56.l1] at h⟩
 | k + 1 => by
  obtain ⟨ih0, ih1⟩ := F56.mono_l k
  refine ⟨?_, ?_⟩
  rotate_left
  ·intro y0 y1 y2 y3 y4 y5 y6 y7 y8 y9 y10 y11 y12 y13
   unfold F56.l1
   repeat' with_reducible first | exact ih0 _ _ _ _ _ _ _ _ | exact ih1 _ _ _ _ _ _ _ _ _ _ _ _ _ _ | exact F89.mono _ _ | exact F87.mono _ _ _ | exact LeO.refl _ | exact LeO.none _ | refine LeO.ite ?_ ?_ | refine LeO.bind ?_ (fun _ => ?_)
  intro y0 y1 y2 y3 y4 y5 y6 y7
  unfold F56.l0
  repeat' with_reducible first | exact ih0 _ _ _ _ _ _ _ _ | exact ih1 _ _ _ _ _ _ _ _ _ _ _ _ _ _ | exact F89.mono _ _ | exact F87.mono _ _ _ | exact LeO.refl _ | exact LeO.none _ | refine LeO.ite ?_ ?_ | refine LeO.bind ?_ (fun _ => ?_)
theorem F56.mono : ∀ a0 a1 a2 a3 k, LeO (F56.f k a0 a1 a2 a3) (F56.f (k + 1) a0 a1 a2 a3) := by
 intro a0 a1 a2 a3 k
 obtain ⟨ih0, ih1⟩ := F56.mono_l k
 unfold F56.f
 repeat' with_reducible first | exact ih0 _ _ _ _ _ _ _ _ | exact ih1 _ _ _ _ _ _ _ _ _ _ _ _ _ _ | exact F89.mono _ _ | exact F87.mono _ _ _ | exact LeO.refl _ | exact LeO.none _ | refine LeO.ite ?_ ?_ | refine LeO.bind ?_ (fun _ => ?_)
def F56.T1 : Bool × List (List Nat × List Nat) := (true, [([], []), ([0], [0]), ([], []), ([2], [2]), ([], []), ([4], [4]), ([5], [5]), ([1, 3, 6], [1, 3, 6]), ([7, 6], [7]), ([8], [8]), ([9, 8, 0, 1, 2, 3, 4, 5, 6, 7, 8, 9], [9])])
def F56.B1 : List Nat := [0, 1, 0, 4, 0, 16, 48, 127, 255, 511, 1023]
theorem F56.tab1 : rtab .any (opsOf Tryd.f56 1) = F56.T1 := by kernel_rfl
theorem F56.bits1 : waitsOk F56.T1.2 F56.B1 = true := by kernel_rfl
def F56.T5 : Bool × List (List Nat × List Nat) := (true, [([], []), ([], []), ([1], [1]), ([2], [2]), ([], []), ([4], [4]), ([5, 3], [5]), ([3, 6], [3, 6]), ([7, 6], [7]), ([8], [8]), ([0, 9, 8], [0, 9]), ([10, 10, 0, 1, 2, 3, 4, 5, 6, 7, 8, 9, 10], [0, 10])])
def F56.B5 : List Nat := [0, 0, 2, 6, 0, 16, 62, 126, 254, 510, 1023, 2047]
theorem F56.tab5 : rtab .any (opsOf Tryd.f56 5) = F56.T5 := by kernel_rfl
theorem F56.bits5 : waitsOk F56.T5.2 F56.B5 = true := by kernel_rfl
def F56.T11 : Bool × List (List Nat × List Nat) := (true, [([], []), ([], []), ([1], [1]), ([2], [2]), ([3], [3]), ([], []), ([5], [5]), ([6, 4], [6]), ([4, 7], [4, 7]), ([8, 7], [8]), ([9], [9]), ([0, 10, 9], [0, 10]), ([11, 11, 0, 1, 2, 3, 4, 5, 6, 7, 8, 9, 10, 11], [0, 11])])
def F56.B11 : List Nat := [0, 0, 2, 6, 14, 0, 32, 126, 254, 510, 1022, 2047, 4095]
theorem F56.tab11 : rtab .any (opsOf Tryd.f56 11) = F56.T11 := by kernel_rfl
theorem F56.bits11 : waitsOk F56.T11.2 F56.B11 = true := by kernel_rfl
def F56.T13 : Bool × List (List Nat × List Nat) := (true, [([], []), ([], []), ([1], [1]), ([2], [2]), ([3], [3]), ([], []), ([5], [5]), ([6, 4], [6]), ([4, 7], [4, 7]), ([8, 7], [8]), ([9], [9]), ([0, 10, 9], [0, 10]), ([11, 11, 0, 1, 2, 3, 4, 5, 6, 7, 8, 9, 10, 11], [0, 11])])
def F56.B13 : List Nat := [0, 0, 2, 6, 14, 0, 32, 126, 254, 510, 1022, 2047, 4095]
theorem F56.tab13 : rtab .any (opsOf Tryd.f56 13) = F56.T13 := by kernel_rfl
theorem F56.bits13 : waitsOk F56.T13.2 F56.B13 = true := by kernel_rfl
def F56.T15 : Bool × List (List Nat × List Nat) := (true, [([], []), ([], []), ([1], [1]), ([2], [2]), ([3], [3]), ([], []), ([5], [5]), ([6, 4], [6]), ([4, 7], [4, 7]), ([8, 7], [8]), ([9], [9]), ([0, 10, 9], [0, 10]), ([11, 11, 0, 1, 2, 3, 4, 5, 6, 7, 8, 9, 10, 11], [11])])
def F56.B15 : List Nat := [0, 0, 2, 6, 14, 0, 32, 126, 254, 510, 1022, 2047, 4095]
theorem F56.tab15 : rtab .any (opsOf Tryd.f56 15) = F56.T15 := by kernel_rfl
theorem F56.bits15 : waitsOk F56.T15.2 F56.B15 = true := by kernel_rfl
theorem F56.calls (k : Nat) (a0_0 : ByteArray) (a0_1 : ByteArray) (a0_2 : Int) (A0_3 : Option Addr) (c0_3 : Nat) (l0_3 : List (S83)) (r : List (S52)) (w : World) (hr0_3 : Kd.C k83 w A0_3 l0_3.length l0_3) (hc0_3 : l0_3.length ≤ c0_3) (hT : LaidT false Tryd.prog w) (h : F56.f k a0_0 a0_1 a0_2 l0_3 = some r) :
  Calls Tryd.prog 56 #[.agg #[.string a0_0, .string a0_1, .int .i64 a0_2, .slice A0_3 l0_3.length c0_3]] w fun e w' => ∃ v0_ : Value, e = .returned (v0_) ∧ Kd.N k52 52 w' w.heap.size (fun k_ => (w.heap.size ≤ k_)) v0_ r ∧ Below w.heap.size w w' := by
 have hu29 := Tryd.underlying29
 have hu83 := Tryd.underlying83
 have hu85 := Tryd.underlying85
 have HR0_3 := am_ hr0_3
 have HC0_3 := am_ hc0_3
 clear hr0_3 hc0_3
 have HZT := am_ hT
 clear hT
 have HB := am_ (Below.refl w.heap.size w)
 have H : ((F88.f a0_2).bind fun t423 => ((F87.f k (⟨#[73, 88, 72]⟩ : ByteArray) (([a0_0, a0_1, t423] : List ByteArray))).bind fun bt427 => (F56.l0 k (([(⟨bt427.1, bt427.2⟩ : S52)] : List (S52))) l0_3 (l0_3.length : Int) 0 a0_0 a0_1 a0_2 l0_3))) = some r := h
 clear h
 replace H := bi_ H; rcases H with ⟨t423, A2, H⟩
 obtain ⟨y424, hy424⟩ : ∃ y_ : List ByteArray, y_ = (([a0_0, a0_1, t423] : List ByteArray)) := ⟨_, rfl⟩
 replace H : ((F87.f k (⟨#[73, 88, 72]⟩ : ByteArray) y424).bind fun bt427 => (F56.l0 k (([(⟨bt427.1, bt427.2⟩ : S52)] : List (S52))) l0_3 (l0_3.length : Int) 0 a0_0 a0_1 a0_2 l0_3)) = some r := by first | (rw [hy424]; exact H) | exact H
 have Ny424 := am_ hy424
 clear hy424
 replace H := bi_ H; rcases H with ⟨⟨t427, t428⟩, A3, H⟩
 obtain ⟨y431, hy431⟩ : ∃ y_ : List (S52), y_ = (([(⟨t427, t428⟩ : S52)] : List (S52))) := ⟨_, rfl⟩
 replace H : (F56.l0 k y431 l0_3 (l0_3.length : Int) 0 a0_0 a0_1 a0_2 l0_3) = some r := by first | (rw [hy431]; exact H) | exact H
 have Ny431 := am_ hy431
 clear hy431
 have H' := am_ H
 clear H
 go_enter Tryd.func56, Tryd.ntmps56
 try go_wp2_with (first | ((with_reducible refine gate_dst (N := 1) rfl ?_); refine be_ 1 #[.string a0_0, .string a0_1, .int .i64 a0_2, .slice A0_3 l0_3.length c0_3] 29 ?_; intro gb422 hg w4 hbox hb; have BK422 := am_ (hbox); have GW422 := am_ (gw_ hg bl_); have GE422 := GW422; replace HB := hs_ w hb; clear hb hbox hg))
 replace BK422 := bd_ BK422
 replace HB := am_ (below_drew1 HB.out)
 refine start_ (n := 11) (S := fun w' => w'.cell? ⟨gb422, 0, none⟩ = some (.string a0_0) ∧ w'.cell? ⟨gb422, 1, none⟩ = some (.string a0_1) ∧ w'.cell? ⟨gb422, 2, none⟩ = some (.int .i64 a0_2) ∧ w'.cell? ⟨gb422, 3, none⟩ = some (.slice A0_3 l0_3.length c0_3)) (ds := []) (bs 11 0) (by kernel_rfl) rfl rfl ⟨(blk_cell BK422.out 0).trans rfl, (blk_cell BK422.out 1).trans rfl, (blk_cell BK422.out 2).trans rfl, (blk_cell BK422.out 3).trans rfl⟩ (fun hHeld => ?_); refine with_tabW F56.tab1 F56.bits1 (fun HT_ HW_ => ?_)
 generalize w4.drew = w5 at BK422 HB hHeld ⊢
 refine pu_ 0 8 (bs 11 1) HT_ ?_ rfl rfl
 refine pu_ 2 10 (bs 11 5) HT_ ?_ rfl rfl
 refine pu_ 4 12 (bs 11 21) HT_ ?_ rfl rfl
 refine tk_ 1 9 (bs 11 23) HT_ HW_ hHeld au3_5 ?_ rfl rfl
 refine tk_ 3 11 (bs 11 31) HT_ HW_ hHeld au3_5 ?_ rfl rfl
 refine tk_ 5 13 (bs 11 63) HT_ HW_ hHeld au3_5 ?_ rfl rfl
 refine one_ (i := 6) (N := some 14) (bs 11 127) rfl rfl (one_of HT_.out (by kernel_rfl)) (by decide) (fun K hK => ?_)
 refine gr_ Tryd.func88 #[.int .i64 a0_2] (by rfl) ?_ rfl rfl rfl
 with_reducible refine (F88.calls a0_2 t423 _ ?s1 A2.out).mono ?_
 (case s1 => exact au3_2)
 rintro e w6 ⟨rfl, hb⟩
 refine ⟨_, rfl, ?_⟩
 replace BK422 := bb_ BK422 hb
 replace HB := hs_ w hb
 (try clear hb)
 (try clear hb2)
 (try clear hk)
 (try clear hi)
 refine hK.out _ _ ⟨(blk_cell BK422.out 0).trans rfl, (blk_cell BK422.out 1).trans rfl, (blk_cell BK422.out 2).trans rfl, (blk_cell BK422.out 3).trans rfl⟩ (fun hHeld => ?_)
 clear hK K
 refine no_ 14 ?_
 refine one_ (i := 7) (N := some 15) (bs 11 255) rfl rfl (one_of HT_.out (by kernel_rfl)) (by decide) (fun K hK => ?_)
 refine Kd.R_lit_step Kd.string _ 9 ?hg (N := 15) ?hd (xs := ([a0_0, a0_1, t423] : List ByteArray)) (inner := [.string a0_0, .string a0_1, .string t423]) (ok := fun _ => True) (okp := fun _ => True) ?hr ?hp (fun _ hk => hk) trivial (Below.refl _ _) (Nat.le_refl _) (by simp) ?_; (case hd => rfl); (case hg => rfl); (case hr => exact hr_); (case hp => exact (Reps.one (show Kd.M Kd.string _ _ _ a0_0 [.string a0_0] from rfl) (Reps.one (show Kd.M Kd.string _ _ _ a0_1 [.string a0_1] from rfl) (Reps.one (show Kd.M Kd.string _ _ _ t423 [.string t423] from rfl) (Reps.none _ _)))))
 intro v425 w7 ho8 hb hg_ hnew_
 clear hg_ hnew_
 (first | rw [← Ny424.out] at ho8 | (simp only [Int.reduceToNat] at ho8; rw [← Ny424.out] at ho8))
 have HO426 := am_ (Kd.R_lower (Kd.R_newM (M := fun k_ => (w.heap.size ≤ k_)) ho8 (below_size bl_) (fun k_ h_ => h_)) (below_size bl_))
 replace BK422 := bb_ BK422 hb
 replace HB := hs_ w hb
 clear hb ho8
 obtain ⟨Ao9, co9, eo9⟩ := Kd.R_slice HO426.out
 (first | subst eo9 | (injection eo9 with f1_ f2_ f3_; have f4_ := f1_.symm; have f5_ := f3_.symm; clear f1_ f2_ f3_; subst f4_; subst f5_))
 refine hK.out _ _ ⟨(blk_cell BK422.out 0).trans rfl, (blk_cell BK422.out 1).trans rfl, (blk_cell BK422.out 2).trans rfl, (blk_cell BK422.out 3).trans rfl⟩ (fun hHeld => ?_)
 clear hK K
 refine no_ 15 ?_
 refine one_ (i := 8) (N := some 16) (bs 11 511) rfl rfl (one_of HT_.out (by kernel_rfl)) (by decide) (fun K hK => ?_)
 refine gr_ Tryd.func87 #[.string (⟨#[73, 88, 72]⟩ : ByteArray), .slice Ao9 y424.length co9] (by rfl) ?_ rfl rfl rfl
 with_reducible refine (F87.calls k (⟨#[73, 88, 72]⟩ : ByteArray) _ _ y424 t427 t428 _ ?s1 ?s2 A3.out).mono ?_
 (case s1 => repeat (first | exact (Kd.R_reads' HO426.out).2.2 | (with_reducible refine Kd.C_alloc ?_ _) | (with_reducible refine Kd.C_drewN ?_ _) | (with_reducible refine Kd.C_drew ?_)))
 (case s2 => exact (Kd.R_reads' HO426.out).2.1)
 rintro e w10 ⟨v429, rfl, ho0, hb⟩
 refine ⟨_, rfl, ?_⟩
 have HO430 := am_ (Kd.N_lower (Kd.N_mono (ok' := fun k_ => (w.heap.size ≤ k_) ∧ some k_ ≠ (.slice Ao9 y424.length co9 : Value).ownBlock ∧ k_ ≠ gb422) (Kd.S_N (Kd.S_bound ho0)) (fun k_ hk_ => ⟨(Nat.le_trans (below_size bl_) hk_.2.1), (Kd.fresh' (Kd.R_lt (rk_ HO426)) k_ hk_.2.1), (Kd.freshB (g := gb422) (o := .cells #[.string a0_0, .string a0_1, .int .i64 a0_2, .slice A0_3 l0_3.length c0_3] 29 (0, 0)) (bk_ BK422) k_ hk_.2.1)⟩)) (below_size bl_))
 replace HO426 := am_ (Kd.R_below (rk_ HO426) hb)
 replace BK422 := bb_ BK422 hb
 replace HB := hs_ w hb
 (try clear hb)
 (try clear hb2)
 (try clear hk)
 (try clear hi)
 (try clear ho0)
 obtain ⟨Ao11, co11, eo11⟩ := Kd.N_slice HO430.out
 (first | subst eo11 | (injection eo11 with f1_ f2_ f3_; have f4_ := f1_.symm; have f5_ := f3_.symm; clear f1_ f2_ f3_; subst f4_; subst f5_))
 refine hK.out _ _ ⟨(blk_cell BK422.out 0).trans rfl, (blk_cell BK422.out 1).trans rfl, (blk_cell BK422.out 2).trans rfl, (blk_cell BK422.out 3).trans rfl⟩ (fun hHeld => ?_)
 clear hK K
 refine no_ 16 ?_
 refine one_ (i := 9) (N := some 17) (bs 11 1023) rfl rfl (one_of HT_.out (by kernel_rfl)) (by decide) (fun K hK => ?_)
 refine Kd.N_lit_step k52 _ 52 ?hg (N' := 17) ?hd (xs := ([(⟨t427, t428⟩ : S52)] : List (S52))) (inner := [.string t427, .slice Ao11 t428.length co11]) (ok := (fun k_ => (w.heap.size ≤ k_) ∧ some k_ ≠ (.slice Ao9 y424.length co9 : Value).ownBlock ∧ k_ ≠ gb422)) (okp := (fun k_ => (w.heap.size ≤ k_) ∧ some k_ ≠ (.slice Ao9 y424.length co9 : Value).ownBlock ∧ k_ ≠ gb422)) ?hr ?hp (fun _ hk => hk) ((show ∀ k_, w10.heap.size ≤ k_ → (fun k_ => (w.heap.size ≤ k_) ∧ some k_ ≠ (.slice Ao9 y424.length co9 : Value).ownBlock ∧ k_ ≠ gb422) k_ from fun k_ hk => ⟨(Nat.le_trans (below_size bl_) hk), Kd.fresh' (Kd.R_lt (rk_ HO426)) k_ hk, Kd.freshB (g := gb422) (o := .cells #[.string a0_0, .string a0_1, .int .i64 a0_2, .slice A0_3 l0_3.length c0_3] 29 (0, 0)) (bk_ BK422) k_ hk⟩) _ (Nat.le_refl _)) (Below.refl _ _) (Nat.le_refl _) (by simp) ?_; (case hd => rfl); (case hg => rfl); (case hr => exact hr_); (case hp => exact (Reps.c2 (show Kd.FK k52 _ _ (⟨t427, t428⟩ : S52) [.string t427, .slice Ao11 t428.length co11] from (k52_mkF _ _ (⟨t427, t428⟩ : S52) (Kd.N_reads' (Kd.N_mono (ok' := (fun k_ => (w.heap.size ≤ k_) ∧ some k_ ≠ (.slice Ao9 y424.length co9 : Value).ownBlock ∧ k_ ≠ gb422)) (HO430.out) (fun k_ hk => ⟨hk.1, ⟨hk.2.1, hk.2.2⟩⟩))).2.1 (Kd.N_F (Kd.N_mono (ok' := (fun k_ => (w.heap.size ≤ k_) ∧ some k_ ≠ (.slice Ao9 y424.length co9 : Value).ownBlock ∧ k_ ≠ gb422)) (HO430.out) (fun k_ hk => ⟨hk.1, ⟨hk.2.1, hk.2.2⟩⟩))))) (Reps.none _ _)))
 intro v432 w12 ho13 hb hg_ hnew_
 clear hg_ hnew_
 (first | rw [← Ny431.out] at ho13 | (simp only [Int.reduceToNat] at ho13; rw [← Ny431.out] at ho13))
 have n0_ := am_ (Kd.R_below (rk_ HO426) hb)
 have n1_ := am_ (Kd.N_lower ho13 (below_size bl_))
 have n2_ := bb_ BK422 hb
 have n3_ := am_ (below_step bl_ hb)
 clear HO426
 clear BK422
 clear HB
 clear HO430
 have HO426 := n0_
 have HO433 := n1_
 have BK422 := n2_
 have HB := n3_
 clear n0_ n1_ n2_ n3_
 clear hb ho13
 refine hK.out _ _ ⟨(blk_cell BK422.out 0).trans rfl, (blk_cell BK422.out 1).trans rfl, (blk_cell BK422.out 2).trans rfl, (blk_cell BK422.out 3).trans rfl⟩ (fun hHeld => ?_)
 clear hK K
 refine no_ 17 ?_
 refine pu_ 10 3 (bs 11 2047) HT_ ?_ rfl rfl
 refine done_ (done_of HT_.out (by kernel_rfl)) ?_
 obtain ⟨hcz14_0, hcz14_1, hcz14_2, hcz14_3, hfz14_0, hfz14_1, hfz14_2, hfz14_3⟩ := cellsF4 BK422.out
 try go_wp2
 go_loopg [3, 21] k (fun kq v3 v21 w' => ∃ (x3_1 : List (S52)) (x21_1 : Int), v21 = .int .i64 x21_1 ∧ Aside0 (F56.l0 kq x3_1 l0_3 (l0_3.length : Int) x21_1 a0_0 a0_1 a0_2 l0_3 = some r) ∧ Aside0 (kq ≤ k) ∧ Aside0 (Kd.N k52 52 w' w.heap.size (fun k_ => (w.heap.size ≤ k_) ∧ k_ ≠ gb422) v3 x3_1) ∧ Aside0 (w'.heap[gb422]? = some (.cells #[.string a0_0, .string a0_1, .int .i64 a0_2, (.slice A0_3 l0_3.length c0_3)] 29 (0, 0))) ∧ Aside0 (Below w.heap.size w w'))
 case atStart => exact ⟨(y431), (0), er_, H', ⟨Nat.le_refl _⟩, ⟨by (with_reducible repeat (first | apply Kd.N_alloc | apply Kd.N_drewN | apply Kd.N_drew)); exact Kd.N_mono HO433.out (fun _ hk => ⟨hk.1, hk.2.2⟩)⟩, ⟨bk_ BK422⟩, ⟨bl_⟩⟩
 case round =>
  clear H'
  try clear c2
  try clear hcz14_0 hcz14_1 hcz14_2 hcz14_3
  try clear hfz14_0 hfz14_1 hfz14_2 hfz14_3
  obtain ⟨x3_1, x21_1, rfl, HA, HK1, HO_3, BK422, HB⟩ := hrel
  cases gk with
  | zero => exact absurd HA.out (by simp [F56.l0])
  | succ k1 =>
   have H := HA.out
   clear HA
   simp only [F56.l0] at H
   replace H := it_ H; rcases H with ⟨c15b0, H⟩ | ⟨c15b0, H⟩
   rotate_left
   ·replace H := bi_ H; rcases H with ⟨t434, A85, H⟩
    replace H := bi_ H; rcases H with ⟨t435, A86, H⟩
    obtain ⟨y436, hy436⟩ : ∃ y_ : List ByteArray, y_ = (([t434, t435] : List ByteArray)) := ⟨_, rfl⟩
    replace H : ((F87.f k1 (⟨#[73, 88, 84]⟩ : ByteArray) y436).bind fun bt439 => (if x3_1.length < 3518437208883 then (some (x3_1 ++ [(⟨bt439.1, bt439.2⟩ : S52)])) else (none))) = some r := by first | (rw [hy436]; exact H) | exact H
    have Ny436 := am_ hy436
    clear hy436
    replace H := bi_ H; rcases H with ⟨⟨t439, t440⟩, A87, H⟩
    by_cases c88 : x3_1.length < 3518437208883
    rotate_left
    ·rw [if_neg c88] at H
     exact absurd H (by simp)

    rw [if_pos c88] at H
    have LMc88 := am_ c88
    clear c88
    obtain ⟨y443, hy443⟩ : ∃ y_ : List (S52), y_ = (x3_1 ++ [(⟨t439, t440⟩ : S52)]) := ⟨_, rfl⟩
    replace H : (some y443) = some r := by first | (rw [hy443]; exact H) | exact H
    have Ny443 := am_ hy443
    clear hy443
    obtain rfl := Option.some.inj H
    try go_wp2
    replace HO_3 := am_ (Kd.N_drew HO_3.out)
    replace BK422 := bd_ BK422
    replace HB := am_ (below_drew1 HB.out)
    refine start_ (n := 13) (S := fun w' => w'.cell? ⟨gb422, 0, none⟩ = some (.string a0_0) ∧ w'.cell? ⟨gb422, 1, none⟩ = some (.string a0_1) ∧ w'.cell? ⟨gb422, 2, none⟩ = some (.int .i64 a0_2) ∧ w'.cell? ⟨gb422, 3, none⟩ = some (.slice A0_3 l0_3.length c0_3)) (ds := []) (bs 13 0) (by kernel_rfl) rfl rfl ⟨(blk_cell BK422.out 0).trans rfl, (blk_cell BK422.out 1).trans rfl, (blk_cell BK422.out 2).trans rfl, (blk_cell BK422.out 3).trans rfl⟩ (fun hHeld => ?_); refine with_tabW F56.tab15 F56.bits15 (fun HT_ HW_ => ?_)
    generalize wr.drew = w89 at HO_3 BK422 HB hHeld ⊢
    refine pu_ 0 82 (bs 13 1) HT_ ?_ rfl rfl
    refine pu_ 1 83 (bs 13 3) HT_ ?_ rfl rfl
    refine pu_ 5 87 (bs 13 35) HT_ ?_ rfl rfl
    refine tk_ 2 84 (bs 13 39) HT_ HW_ hHeld au3_5 ?_ rfl rfl
    refine pu_ 3 85 (bs 13 47) HT_ ?_ rfl rfl
    refine tk_ 6 88 (bs 13 111) HT_ HW_ hHeld au3_5 ?_ rfl rfl
    refine one_ (i := 4) (N := some 86) (bs 13 127) rfl rfl (one_of HT_.out (by kernel_rfl)) (by decide) (fun K hK => ?_)
    refine gr_ Tryd.func88 #[.int .i64 (l0_3.length : Int)] (by rfl) ?_ rfl rfl rfl
    with_reducible refine (F88.calls (l0_3.length : Int) t434 _ ?s1 A85.out).mono ?_
    (case s1 => exact au3_2)
    rintro e w90 ⟨rfl, hb⟩
    refine ⟨_, rfl, ?_⟩
    replace HO_3 := am_ (Kd.N_below au3_0 hb)
    replace BK422 := bb_ BK422 hb
    replace HB := hs_ w hb
    (try clear hb)
    (try clear hb2)
    (try clear hk)
    (try clear hi)
    refine hK.out _ _ ⟨(blk_cell BK422.out 0).trans rfl, (blk_cell BK422.out 1).trans rfl, (blk_cell BK422.out 2).trans rfl, (blk_cell BK422.out 3).trans rfl⟩ (fun hHeld => ?_)
    clear hK K
    refine no_ 86 ?_
    refine one_ (i := 7) (N := some 89) (bs 13 255) rfl rfl (one_of HT_.out (by kernel_rfl)) (by decide) (fun K hK => ?_)
    refine gr_ Tryd.func88 #[.int .i64 a0_2] (by rfl) ?_ rfl rfl rfl
    with_reducible refine (F88.calls a0_2 t435 _ ?s1 A86.out).mono ?_
    (case s1 => exact au3_2)
    rintro e w91 ⟨rfl, hb⟩
    refine ⟨_, rfl, ?_⟩
    replace HO_3 := am_ (Kd.N_below au3_0 hb)
    replace BK422 := bb_ BK422 hb
    replace HB := hs_ w hb
    (try clear hb)
    (try clear hb2)
    (try clear hk)
    (try clear hi)
    refine hK.out _ _ ⟨(blk_cell BK422.out 0).trans rfl, (blk_cell BK422.out 1).trans rfl, (blk_cell BK422.out 2).trans rfl, (blk_cell BK422.out 3).trans rfl⟩ (fun hHeld => ?_)
    clear hK K
    refine no_ 89 ?_
    refine one_ (i := 8) (N := some 90) (bs 13 511) rfl rfl (one_of HT_.out (by kernel_rfl)) (by decide) (fun K hK => ?_)
    refine Kd.R_lit_step Kd.string _ 9 ?hg (N := 90) ?hd (xs := ([t434, t435] : List ByteArray)) (inner := [.string t434, .string t435]) (ok := fun _ => True) (okp := fun _ => True) ?hr ?hp (fun _ hk => hk) trivial (Below.refl _ _) (Nat.le_refl _) (by simp) ?_; (case hd => rfl); (case hg => rfl); (case hr => exact hr_); (case hp => exact (Reps.one (show Kd.M Kd.string _ _ _ t434 [.string t434] from rfl) (Reps.one (show Kd.M Kd.string _ _ _ t435 [.string t435] from rfl) (Reps.none _ _))))
    intro v437 w92 ho93 hb hg_ hnew_
    clear hg_ hnew_
    (first | rw [← Ny436.out] at ho93 | (simp only [Int.reduceToNat] at ho93; rw [← Ny436.out] at ho93))
    replace HO_3 := am_ (Kd.N_elder' au3_0 (Kd.R_base ho93) hb)
    have HO438 := am_ (Kd.R_lower (Kd.R_newM (M := fun k_ => (w.heap.size ≤ k_)) ho93 (below_size bl_) (fun k_ h_ => h_)) (below_size bl_))
    replace BK422 := bb_ BK422 hb
    replace HB := hs_ w hb
    clear hb ho93
    obtain ⟨Ao94, co94, eo94⟩ := Kd.R_slice HO438.out
    (first | subst eo94 | (injection eo94 with f1_ f2_ f3_; have f4_ := f1_.symm; have f5_ := f3_.symm; clear f1_ f2_ f3_; subst f4_; subst f5_))
    refine hK.out _ _ ⟨(blk_cell BK422.out 0).trans rfl, (blk_cell BK422.out 1).trans rfl, (blk_cell BK422.out 2).trans rfl, (blk_cell BK422.out 3).trans rfl⟩ (fun hHeld => ?_)
    clear hK K
    refine no_ 90 ?_
    refine one_ (i := 9) (N := some 91) (bs 13 1023) rfl rfl (one_of HT_.out (by kernel_rfl)) (by decide) (fun K hK => ?_)
    refine gr_ Tryd.func87 #[.string (⟨#[73, 88, 84]⟩ : ByteArray), .slice Ao94 y436.length co94] (by rfl) ?_ rfl rfl rfl
    with_reducible refine (F87.calls k1 (⟨#[73, 88, 84]⟩ : ByteArray) _ _ y436 t439 t440 _ ?s1 ?s2 A87.out).mono ?_
    (case s1 => repeat (first | exact (Kd.R_reads' HO438.out).2.2 | (with_reducible refine Kd.C_alloc ?_ _) | (with_reducible refine Kd.C_drewN ?_ _) | (with_reducible refine Kd.C_drew ?_)))
    (case s2 => exact (Kd.R_reads' HO438.out).2.1)
    rintro e w95 ⟨v441, rfl, ho0, hb⟩
    refine ⟨_, rfl, ?_⟩
    have HO442 := am_ (Kd.N_lower (Kd.N_mono (ok' := fun k_ => (w.heap.size ≤ k_) ∧ some k_ ≠ (u3 : Value).ownBlock ∧ some k_ ≠ (.slice Ao94 y436.length co94 : Value).ownBlock ∧ k_ ≠ gb422) (Kd.S_N (Kd.S_bound ho0)) (fun k_ hk_ => ⟨(Nat.le_trans (below_size bl_) hk_.2.1), (Kd.fresh' (Kd.N_lt au3_0) k_ hk_.2.1), (Kd.fresh' (Kd.R_lt (rk_ HO438)) k_ hk_.2.1), (Kd.freshB (g := gb422) (o := .cells #[.string a0_0, .string a0_1, .int .i64 a0_2, .slice A0_3 l0_3.length c0_3] 29 (0, 0)) (bk_ BK422) k_ hk_.2.1)⟩)) (below_size bl_))
    replace HO_3 := am_ (Kd.N_elder' au3_0 (Kd.S_base ho0) hb)
    replace HO438 := am_ (Kd.R_below (rk_ HO438) hb)
    replace BK422 := bb_ BK422 hb
    replace HB := hs_ w hb
    (try clear hb)
    (try clear hb2)
    (try clear hk)
    (try clear hi)
    (try clear ho0)
    obtain ⟨Ao97, co97, eo97⟩ := Kd.N_slice HO442.out
    (first | subst eo97 | (injection eo97 with f1_ f2_ f3_; have f4_ := f1_.symm; have f5_ := f3_.symm; clear f1_ f2_ f3_; subst f4_; subst f5_))
    refine hK.out _ _ ⟨(blk_cell BK422.out 0).trans rfl, (blk_cell BK422.out 1).trans rfl, (blk_cell BK422.out 2).trans rfl, (blk_cell BK422.out 3).trans rfl⟩ (fun hHeld => ?_)
    clear hK K
    refine no_ 91 ?_
    refine one_ (i := 10) (N := some 92) (bs 13 2047) rfl rfl (one_of HT_.out (by kernel_rfl)) (by decide) (fun K hK => ?_)
    refine value_ (w1 := ?_) (v := ?_) (by rfl) rfl ?_ ?_
    rotate_left 2
    ·go_simp
     constructor
     ·rfl
     ·rfl
    refine hK.out _ _ ⟨(blk_cell (blk_alloc BK422.out _) 0).trans rfl, (blk_cell (blk_alloc BK422.out _) 1).trans rfl, (blk_cell (blk_alloc BK422.out _) 2).trans rfl, (blk_cell (blk_alloc BK422.out _) 3).trans rfl⟩ (fun hHeld => ?_)
    clear hK K
    refine no_ 92 ?_
    refine one_ (i := 11) (N := some 93) (bs 13 4095) rfl rfl (one_of HT_.out (by kernel_rfl)) (by decide) (fun K hK => ?_)
    refine Kd.N_append_step k52 (w0 := w) w.heap.size (by rfl) (.tmp 82) (.tmp 92) 38 52 (.agg #[(.string ⟨#[]⟩), (.slice none 0 0)]) 40 rfl Tryd.underlying38 info52 rfl (by decide) (by omega) u3 x3_1 (⟨t439, t440⟩ : S52) [.string t439, .slice Ao97 t440.length co97] (fun k_ => (w.heap.size ≤ k_) ∧ some k_ ≠ (.slice Ao94 y436.length co94 : Value).ownBlock ∧ k_ ≠ gb422) (fun k_ => ((fun k_ => (w.heap.size ≤ k_) ∧ some k_ ≠ (.slice Ao94 y436.length co94 : Value).ownBlock ∧ k_ ≠ gb422)) k_ ∧ some k_ ≠ (u3 : Value).ownBlock) rfl rfl ?aP (fun _ hk => hk) ?aF ?aO ?aB ?aS ?aL ?_
    (case aP => exact (k52_mkF _ _ (⟨t439, t440⟩ : S52) (Kd.N_reads' (Kd.N_mono (ok' := (fun k_ => ((fun k_ => (w.heap.size ≤ k_) ∧ some k_ ≠ (.slice Ao94 y436.length co94 : Value).ownBlock ∧ k_ ≠ gb422)) k_ ∧ some k_ ≠ (u3 : Value).ownBlock)) (HO442.out) (fun k_ hk => ⟨⟨hk.1, ⟨hk.2.2.1, hk.2.2.2⟩⟩, hk.2.1⟩))).2.1 (Kd.N_F (Kd.N_mono (ok' := (fun k_ => ((fun k_ => (w.heap.size ≤ k_) ∧ some k_ ≠ (.slice Ao94 y436.length co94 : Value).ownBlock ∧ k_ ≠ gb422)) k_ ∧ some k_ ≠ (u3 : Value).ownBlock)) (HO442.out) (fun k_ hk => ⟨⟨hk.1, ⟨hk.2.2.1, hk.2.2.2⟩⟩, hk.2.1⟩)))))
    (case aB => exact bl_)
    (case aF => exact (fun k_ hk => ⟨(Nat.le_trans (below_size bl_) hk), Kd.fresh' (Kd.R_lt (rk_ HO438)) k_ hk, Kd.freshB (g := gb422) (o := .cells #[.string a0_0, .string a0_1, .int .i64 a0_2, .slice A0_3 l0_3.length c0_3] 29 (0, 0)) (bk_ BK422) k_ hk⟩))
    (case aO => exact (by (with_reducible repeat (first | apply Kd.N_alloc | apply Kd.N_drewN | apply Kd.N_drew)); exact Kd.N_mono HO_3.out (fun _ hk => ⟨hk.1.1.1, ⟨hk.1.2, hk.1.1.2⟩⟩)))
    (case aS => exact (below_size bl_))
    (case aL => have := LMc88.out; omega)
    intro v444 w96 ho hb hg hat
    rw [← Ny443.out] at ho
    have n0_ := am_ (bg_ BK422 hg (Kd.N_ne HO_3.out BK422.out (by decide)))
    have n1_ := am_ (Kd.R_over' (rk_ HO438) (Kd.N_typed au3_0) (by decide) hg)
    have n2_ := am_ (hb)
    have n3_ := am_ (ho)
    clear BK422
    clear HO438
    clear HB
    clear HO_3
    clear HO442
    have BK422 := n0_
    have HO438 := n1_
    have HB := n2_
    have HO445 := n3_
    clear n0_ n1_ n2_ n3_
    clear ho hb hg hat
    refine hK.out _ _ ⟨(blk_cell BK422.out 0).trans rfl, (blk_cell BK422.out 1).trans rfl, (blk_cell BK422.out 2).trans rfl, (blk_cell BK422.out 3).trans rfl⟩ (fun hHeld => ?_)
    clear hK K
    refine no_ 93 ?_
    refine pu_ 12 2 (bs 13 8191) HT_ ?_ rfl rfl
    refine done_ (done_of HT_.out (by kernel_rfl)) ?_
    try go_wp2
    go_ret
    exact ⟨_, au3_1, by (with_reducible repeat (first | apply Kd.N_alloc | apply Kd.N_drewN | apply Kd.N_drew)); exact Kd.N_mono HO445.out (fun _ hk => hk.1), bl_⟩
   replace H := itn_ H; rcases H with ⟨c16b0, H⟩
   replace H := itn_ H; rcases H with ⟨c17b0, H⟩
   replace H := bi_ H; rcases H with ⟨t448, A18, H⟩
   replace H := bi_ H; rcases H with ⟨t449, A19, H⟩
   obtain ⟨y450, hy450⟩ : ∃ y_ : List ByteArray, y_ = (([t448, t449] : List ByteArray)) := ⟨_, rfl⟩
   replace H : ((F87.f k1 (⟨#[71, 82, 72]⟩ : ByteArray) y450).bind fun bt453 => (if x3_1.length < 3518437208883 then (F56.l1 k1 (x3_1 ++ [(⟨bt453.1, bt453.2⟩ : S52)]) l0_3 (l0_3.length : Int) x21_1 ((rd_T83 l0_3 x21_1).f2) (((rd_T83 l0_3 x21_1).f2).length : Int) 0 a0_0 a0_1 a0_2 l0_3 ((rd_T83 l0_3 x21_1).f0) ((rd_T83 l0_3 x21_1).f1) ((rd_T83 l0_3 x21_1).f2)) else (none))) = some r := by first | (rw [hy450]; exact H) | exact H
   have Ny450 := am_ hy450
   clear hy450
   replace H := bi_ H; rcases H with ⟨⟨t453, t454⟩, A20, H⟩
   replace H := iln_ H; rcases H with ⟨LMc21, H⟩
   obtain ⟨y457, hy457⟩ : ∃ y_ : List (S52), y_ = (x3_1 ++ [(⟨t453, t454⟩ : S52)]) := ⟨_, rfl⟩
   replace H : (F56.l1 k1 y457 l0_3 (l0_3.length : Int) x21_1 ((rd_T83 l0_3 x21_1).f2) (((rd_T83 l0_3 x21_1).f2).length : Int) 0 a0_0 a0_1 a0_2 l0_3 ((rd_T83 l0_3 x21_1).f0) ((rd_T83 l0_3 x21_1).f1) ((rd_T83 l0_3 x21_1).f2)) = some r := by first | (rw [hy457]; exact H) | exact H
   have Ny457 := am_ hy457
   clear hy457
   have H' := am_ H
   clear H
   have p446 : 0 ≤ (x21_1 : Int) := od_
   have q446 : x21_1 < (l0_3.length : Int) := od_
   obtain ⟨ad446, A446_2, c446_2, e446, hx446_0, hx446_1, hx446_2, hl446_2, hi446_2⟩ := at_T83 HR0_3.out x21_1 p446 q446
   cases e446
   replace hx446_0 := (HB.out.cell (World.block_lt_of_cell? _ _ hx446_0)).trans hx446_0
   replace hx446_1 := (HB.out.cell (World.block_lt_of_cell? _ _ hx446_1)).trans hx446_1
   replace hx446_2 := (HB.out.cell (World.block_lt_of_cell? _ _ hx446_2)).trans hx446_2
   have HR446_2 := am_ hi446_2
   have HC446_2 := am_ hl446_2
   clear hi446_2 hl446_2
   replace p446 := eq_true p446
   replace q446 := eq_true q446
   try go_wp2_with (first | ((with_reducible refine gate_dst (N := 5) rfl ?_); refine be_ 5 #[.int .i64 0, .int .i64 0, .slice none 0 0] 83 ?_; intro gb447 hg w22 hbox hb; replace HO_3 := am_ (Kd.N_below (Kd.N_elderB au3_0 gb447 (Nat.le_of_eq hg.symm)) hb); have BK447 := am_ (hbox); have GW447 := am_ (gw_ hg bl_); have GE447 := GW447; replace HB := hs_ w hb; have NB422_447 := am_ (gn_ hg (blkl_ BK422)); have NB447_422 := am_ (gm_ hg (blkl_ BK422)); replace BK422 := bb_ BK422 hb; clear hb hbox hg; have hnb23 := NB447_422.out; have hnc23 := NB422_447.out; obtain ⟨hcz24_0, hcz24_1, hcz24_2, hfz24_0, hfz24_1, hfz24_2⟩ := cellsF3 BK447.out))
   have n0_ : Aside0 (Kd.N k52 52 (((w22.setCell ⟨gb447, 0, none⟩ (.int .i64 ((rd_T83 l0_3 x21_1).f0))).setCell ⟨gb447, 1, none⟩ (.int .i64 ((rd_T83 l0_3 x21_1).f1))).setCell ⟨gb447, 2, none⟩ (.slice A446_2 ((rd_T83 l0_3 x21_1).f2).length c446_2)) w.heap.size (fun k_ => (w.heap.size ≤ k_) ∧ k_ ≠ gb422 ∧ k_ ≠ gb447) u3 x3_1) := ⟨by (with_reducible repeat (first | apply Kd.N_alloc | apply Kd.N_drewN | apply Kd.N_drew)); exact Kd.N_mono (Kd.N_far (p := ⟨gb447, 2, none⟩) (Kd.N_far (p := ⟨gb447, 1, none⟩) (Kd.N_far (p := ⟨gb447, 0, none⟩) (Kd.N_mono HO_3.out (fun k_ hk => (⟨hk, hk.2⟩ : _ ∧ k_ ≠ gb447))) (fun _ hk => hk.2) (.int .i64 ((rd_T83 l0_3 x21_1).f0))) (fun _ hk => hk.2) (.int .i64 ((rd_T83 l0_3 x21_1).f1))) (fun _ hk => hk.2) (.slice A446_2 ((rd_T83 l0_3 x21_1).f2).length c446_2)) (fun _ hk => ⟨hk.1.1.1, ⟨hk.1.1.2, hk.1.2⟩⟩)⟩
   have n1_ : Aside0 ((((w22.setCell ⟨gb447, 0, none⟩ (.int .i64 ((rd_T83 l0_3 x21_1).f0))).setCell ⟨gb447, 1, none⟩ (.int .i64 ((rd_T83 l0_3 x21_1).f1))).setCell ⟨gb447, 2, none⟩ (.slice A446_2 ((rd_T83 l0_3 x21_1).f2).length c446_2)).heap[gb422]? = some (.cells #[.string a0_0, .string a0_1, .int .i64 a0_2, .slice (some ad446) l0_3.length c0_3] 29 (0, 0))) := ⟨bf_ BK422⟩
   have n2_ : Aside0 ((((w22.setCell ⟨gb447, 0, none⟩ (.int .i64 ((rd_T83 l0_3 x21_1).f0))).setCell ⟨gb447, 1, none⟩ (.int .i64 ((rd_T83 l0_3 x21_1).f1))).setCell ⟨gb447, 2, none⟩ (.slice A446_2 ((rd_T83 l0_3 x21_1).f2).length c446_2)).heap[gb447]? = some (.cells #[.int .i64 ((rd_T83 l0_3 x21_1).f0), .int .i64 ((rd_T83 l0_3 x21_1).f1), .slice A446_2 ((rd_T83 l0_3 x21_1).f2).length c446_2] 83 (0, 0))) := ⟨bq_ BK447⟩
   have n3_ : Aside0 (Below w.heap.size w (((w22.setCell ⟨gb447, 0, none⟩ (.int .i64 ((rd_T83 l0_3 x21_1).f0))).setCell ⟨gb447, 1, none⟩ (.int .i64 ((rd_T83 l0_3 x21_1).f1))).setCell ⟨gb447, 2, none⟩ (.slice A446_2 ((rd_T83 l0_3 x21_1).f2).length c446_2))) := ⟨bl_⟩
   (try clear HO_3)
   (try clear BK422)
   (try clear BK447)
   (try clear HB)
   generalize (((w22.setCell ⟨gb447, 0, none⟩ (.int .i64 ((rd_T83 l0_3 x21_1).f0))).setCell ⟨gb447, 1, none⟩ (.int .i64 ((rd_T83 l0_3 x21_1).f1))).setCell ⟨gb447, 2, none⟩ (.slice A446_2 ((rd_T83 l0_3 x21_1).f2).length c446_2)) = w25 at n0_ n1_ n2_ n3_ ⊢
   have HO_3 := n0_
   have BK422 := n1_
   have BK447 := n2_
   have HB := n3_
   clear n0_ n1_ n2_ n3_
   replace HO_3 := am_ (Kd.N_drew HO_3.out)
   replace BK422 := bd_ BK422
   replace BK447 := bd_ BK447
   replace HB := am_ (below_drew1 HB.out)
   refine start_ (n := 12) (S := fun w' => w'.cell? ⟨gb447, 0, none⟩ = some (.int .i64 ((rd_T83 l0_3 x21_1).f0)) ∧ w'.cell? ⟨gb447, 1, none⟩ = some (.int .i64 ((rd_T83 l0_3 x21_1).f1)) ∧ w'.cell? ⟨gb447, 2, none⟩ = some (.slice A446_2 ((rd_T83 l0_3 x21_1).f2).length c446_2)) (ds := []) (bs 12 0) (by kernel_rfl) rfl rfl ⟨(blk_cell BK447.out 0).trans rfl, (blk_cell BK447.out 1).trans rfl, (blk_cell BK447.out 2).trans rfl⟩ (fun hHeld => ?_); refine with_tabW F56.tab5 F56.bits5 (fun HT_ HW_ => ?_)
   generalize w25.drew = w26 at HO_3 BK422 BK447 HB hHeld ⊢
   refine pu_ 0 25 (bs 12 1) HT_ ?_ rfl rfl
   refine pu_ 1 26 (bs 12 3) HT_ ?_ rfl rfl
   refine pu_ 4 29 (bs 12 19) HT_ ?_ rfl rfl
   refine tk_ 2 27 (bs 12 23) HT_ HW_ hHeld au3_10 ?_ rfl rfl
   refine tk_ 5 30 (bs 12 55) HT_ HW_ hHeld au3_10 ?_ rfl rfl
   refine one_ (i := 3) (N := some 28) (bs 12 63) rfl rfl (one_of HT_.out (by kernel_rfl)) (by decide) (fun K hK => ?_)
   refine gr_ Tryd.func88 #[.int .i64 ((rd_T83 l0_3 x21_1).f0)] (by rfl) ?_ rfl rfl rfl
   with_reducible refine (F88.calls ((rd_T83 l0_3 x21_1).f0) t448 _ ?s1 A18.out).mono ?_
   (case s1 => exact au3_2)
   rintro e w27 ⟨rfl, hb⟩
   refine ⟨_, rfl, ?_⟩
   replace HO_3 := am_ (Kd.N_below au3_0 hb)
   replace BK422 := bb_ BK422 hb
   replace BK447 := bb_ BK447 hb
   replace HB := hs_ w hb
   (try clear hb)
   (try clear hb2)
   (try clear hk)
   (try clear hi)
   refine hK.out _ _ ⟨(blk_cell BK447.out 0).trans rfl, (blk_cell BK447.out 1).trans rfl, (blk_cell BK447.out 2).trans rfl⟩ (fun hHeld => ?_)
   clear hK K
   refine no_ 28 ?_
   refine one_ (i := 6) (N := some 31) (bs 12 127) rfl rfl (one_of HT_.out (by kernel_rfl)) (by decide) (fun K hK => ?_)
   refine gr_ Tryd.func88 #[.int .i64 ((rd_T83 l0_3 x21_1).f1)] (by rfl) ?_ rfl rfl rfl
   with_reducible refine (F88.calls ((rd_T83 l0_3 x21_1).f1) t449 _ ?s1 A19.out).mono ?_
   (case s1 => exact au3_2)
   rintro e w28 ⟨rfl, hb⟩
   refine ⟨_, rfl, ?_⟩
   replace HO_3 := am_ (Kd.N_below au3_0 hb)
   replace BK422 := bb_ BK422 hb
   replace BK447 := bb_ BK447 hb
   replace HB := hs_ w hb
   (try clear hb)
   (try clear hb2)
   (try clear hk)
   (try clear hi)
   refine hK.out _ _ ⟨(blk_cell BK447.out 0).trans rfl, (blk_cell BK447.out 1).trans rfl, (blk_cell BK447.out 2).trans rfl⟩ (fun hHeld => ?_)
   clear hK K
   refine no_ 31 ?_
   refine one_ (i := 7) (N := some 32) (bs 12 255) rfl rfl (one_of HT_.out (by kernel_rfl)) (by decide) (fun K hK => ?_)
   refine Kd.R_lit_step Kd.string _ 9 ?hg (N := 32) ?hd (xs := ([t448, t449] : List ByteArray)) (inner := [.string t448, .string t449]) (ok := fun _ => True) (okp := fun _ => True) ?hr ?hp (fun _ hk => hk) trivial (Below.refl _ _) (Nat.le_refl _) (by simp) ?_; (case hd => rfl); (case hg => rfl); (case hr => exact hr_); (case hp => exact (Reps.one (show Kd.M Kd.string _ _ _ t448 [.string t448] from rfl) (Reps.one (show Kd.M Kd.string _ _ _ t449 [.string t449] from rfl) (Reps.none _ _))))
   intro v451 w29 ho30 hb hg_ hnew_
   clear hg_ hnew_
   (first | rw [← Ny450.out] at ho30 | (simp only [Int.reduceToNat] at ho30; rw [← Ny450.out] at ho30))
   replace HO_3 := am_ (Kd.N_elder' au3_0 (Kd.R_base ho30) hb)
   have HO452 := am_ (Kd.R_lower (Kd.R_newM (M := fun k_ => (w.heap.size ≤ k_)) ho30 (below_size bl_) (fun k_ h_ => h_)) (below_size bl_))
   replace BK422 := bb_ BK422 hb
   replace BK447 := bb_ BK447 hb
   replace HB := hs_ w hb
   clear hb ho30
   obtain ⟨Ao31, co31, eo31⟩ := Kd.R_slice HO452.out
   (first | subst eo31 | (injection eo31 with f1_ f2_ f3_; have f4_ := f1_.symm; have f5_ := f3_.symm; clear f1_ f2_ f3_; subst f4_; subst f5_))
   refine hK.out _ _ ⟨(blk_cell BK447.out 0).trans rfl, (blk_cell BK447.out 1).trans rfl, (blk_cell BK447.out 2).trans rfl⟩ (fun hHeld => ?_)
   clear hK K
   refine no_ 32 ?_
   refine one_ (i := 8) (N := some 33) (bs 12 511) rfl rfl (one_of HT_.out (by kernel_rfl)) (by decide) (fun K hK => ?_)
   refine gr_ Tryd.func87 #[.string (⟨#[71, 82, 72]⟩ : ByteArray), .slice Ao31 y450.length co31] (by rfl) ?_ rfl rfl rfl
   with_reducible refine (F87.calls k1 (⟨#[71, 82, 72]⟩ : ByteArray) _ _ y450 t453 t454 _ ?s1 ?s2 A20.out).mono ?_
   (case s1 => repeat (first | exact (Kd.R_reads' HO452.out).2.2 | (with_reducible refine Kd.C_alloc ?_ _) | (with_reducible refine Kd.C_drewN ?_ _) | (with_reducible refine Kd.C_drew ?_)))
   (case s2 => exact (Kd.R_reads' HO452.out).2.1)
   rintro e w32 ⟨v455, rfl, ho0, hb⟩
   refine ⟨_, rfl, ?_⟩
   have HO456 := am_ (Kd.N_lower (Kd.N_mono (ok' := fun k_ => (w.heap.size ≤ k_) ∧ some k_ ≠ (u3 : Value).ownBlock ∧ some k_ ≠ (.slice Ao31 y450.length co31 : Value).ownBlock ∧ k_ ≠ gb422 ∧ k_ ≠ gb447) (Kd.S_N (Kd.S_bound ho0)) (fun k_ hk_ => ⟨(Nat.le_trans (below_size bl_) hk_.2.1), (Kd.fresh' (Kd.N_lt au3_0) k_ hk_.2.1), (Kd.fresh' (Kd.R_lt (rk_ HO452)) k_ hk_.2.1), (Kd.freshB (g := gb422) (o := .cells #[.string a0_0, .string a0_1, .int .i64 a0_2, .slice (some ad446) l0_3.length c0_3] 29 (0, 0)) (bk_ BK422) k_ hk_.2.1), (Kd.freshB (g := gb447) (o := .cells #[.int .i64 ((rd_T83 l0_3 x21_1).f0), .int .i64 ((rd_T83 l0_3 x21_1).f1), .slice A446_2 ((rd_T83 l0_3 x21_1).f2).length c446_2] 83 (0, 0)) (bk_ BK447) k_ hk_.2.1)⟩)) (below_size bl_))
   replace HO_3 := am_ (Kd.N_elder' au3_0 (Kd.S_base ho0) hb)
   replace HO452 := am_ (Kd.R_below (rk_ HO452) hb)
   replace BK422 := bb_ BK422 hb
   replace BK447 := bb_ BK447 hb
   replace HB := hs_ w hb
   (try clear hb)
   (try clear hb2)
   (try clear hk)
   (try clear hi)
   (try clear ho0)
   obtain ⟨Ao34, co34, eo34⟩ := Kd.N_slice HO456.out
   (first | subst eo34 | (injection eo34 with f1_ f2_ f3_; have f4_ := f1_.symm; have f5_ := f3_.symm; clear f1_ f2_ f3_; subst f4_; subst f5_))
   refine hK.out _ _ ⟨(blk_cell BK447.out 0).trans rfl, (blk_cell BK447.out 1).trans rfl, (blk_cell BK447.out 2).trans rfl⟩ (fun hHeld => ?_)
   clear hK K
   refine no_ 33 ?_
   refine one_ (i := 9) (N := some 34) (bs 12 1023) rfl rfl (one_of HT_.out (by kernel_rfl)) (by decide) (fun K hK => ?_)
   refine value_ (w1 := ?_) (v := ?_) (by rfl) rfl ?_ ?_
   rotate_left 2
   ·go_simp
    constructor
    ·rfl
    ·rfl
   refine hK.out _ _ ⟨(blk_cell (blk_alloc BK447.out _) 0).trans rfl, (blk_cell (blk_alloc BK447.out _) 1).trans rfl, (blk_cell (blk_alloc BK447.out _) 2).trans rfl⟩ (fun hHeld => ?_)
   clear hK K
   refine no_ 34 ?_
   refine one_ (i := 10) (N := some 35) (bs 12 2047) rfl rfl (one_of HT_.out (by kernel_rfl)) (by decide) (fun K hK => ?_)
   refine Kd.N_append_step k52 (w0 := w) w.heap.size (by rfl) (.tmp 25) (.tmp 34) 38 52 (.agg #[(.string ⟨#[]⟩), (.slice none 0 0)]) 40 rfl Tryd.underlying38 info52 rfl (by decide) (by omega) u3 x3_1 (⟨t453, t454⟩ : S52) [.string t453, .slice Ao34 t454.length co34] (fun k_ => (w.heap.size ≤ k_) ∧ some k_ ≠ (.slice Ao31 y450.length co31 : Value).ownBlock ∧ k_ ≠ gb422 ∧ k_ ≠ gb447) (fun k_ => ((fun k_ => (w.heap.size ≤ k_) ∧ some k_ ≠ (.slice Ao31 y450.length co31 : Value).ownBlock ∧ k_ ≠ gb422 ∧ k_ ≠ gb447)) k_ ∧ some k_ ≠ (u3 : Value).ownBlock) rfl rfl ?aP (fun _ hk => hk) ?aF ?aO ?aB ?aS ?aL ?_
   (case aP => exact (k52_mkF _ _ (⟨t453, t454⟩ : S52) (Kd.N_reads' (Kd.N_mono (ok' := (fun k_ => ((fun k_ => (w.heap.size ≤ k_) ∧ some k_ ≠ (.slice Ao31 y450.length co31 : Value).ownBlock ∧ k_ ≠ gb422 ∧ k_ ≠ gb447)) k_ ∧ some k_ ≠ (u3 : Value).ownBlock)) (HO456.out) (fun k_ hk => ⟨⟨hk.1, ⟨hk.2.2.1, ⟨hk.2.2.2.1, hk.2.2.2.2⟩⟩⟩, hk.2.1⟩))).2.1 (Kd.N_F (Kd.N_mono (ok' := (fun k_ => ((fun k_ => (w.heap.size ≤ k_) ∧ some k_ ≠ (.slice Ao31 y450.length co31 : Value).ownBlock ∧ k_ ≠ gb422 ∧ k_ ≠ gb447)) k_ ∧ some k_ ≠ (u3 : Value).ownBlock)) (HO456.out) (fun k_ hk => ⟨⟨hk.1, ⟨hk.2.2.1, ⟨hk.2.2.2.1, hk.2.2.2.2⟩⟩⟩, hk.2.1⟩)))))
   (case aB => exact bl_)
   (case aF => exact (fun k_ hk => ⟨(Nat.le_trans (below_size bl_) hk), Kd.fresh' (Kd.R_lt (rk_ HO452)) k_ hk, Kd.freshB (g := gb422) (o := .cells #[.string a0_0, .string a0_1, .int .i64 a0_2, .slice (some ad446) l0_3.length c0_3] 29 (0, 0)) (bk_ BK422) k_ hk, Kd.freshB (g := gb447) (o := .cells #[.int .i64 ((rd_T83 l0_3 x21_1).f0), .int .i64 ((rd_T83 l0_3 x21_1).f1), .slice A446_2 ((rd_T83 l0_3 x21_1).f2).length c446_2] 83 (0, 0)) (bk_ BK447) k_ hk⟩))
   (case aO => exact au3_13)
   (case aS => exact (below_size bl_))
   (case aL => have := LMc21.out; omega)
   intro v458 w33 ho hb hg hat
   rw [← Ny457.out] at ho
   have n0_ := am_ (bg_ BK422 hg (Kd.N_ne HO_3.out BK422.out (by decide)))
   have n1_ := am_ (bg_ BK447 hg (Kd.N_ne HO_3.out BK447.out (by decide)))
   have n2_ := am_ (Kd.R_over' (rk_ HO452) (Kd.N_typed au3_0) (by decide) hg)
   have n3_ := am_ (hb)
   have n4_ := am_ (ho)
   clear BK422
   clear BK447
   clear HO452
   clear HB
   clear HO_3
   clear HO456
   have BK422 := n0_
   have BK447 := n1_
   have HO452 := n2_
   have HB := n3_
   have HO459 := n4_
   clear n0_ n1_ n2_ n3_ n4_
   clear ho hb hg hat
   refine hK.out _ _ ⟨(blk_cell BK447.out 0).trans rfl, (blk_cell BK447.out 1).trans rfl, (blk_cell BK447.out 2).trans rfl⟩ (fun hHeld => ?_)
   clear hK K
   refine no_ 35 ?_
   refine pu_ 11 3 (bs 12 4095) HT_ ?_ rfl rfl
   refine done_ (done_of HT_.out (by kernel_rfl)) ?_
   obtain ⟨hcz35_0, hcz35_1, hcz35_2, hfz35_0, hfz35_1, hfz35_2⟩ := cellsF3 BK447.out
   try go_wp2
   go_loopg [3, 39] k1 (fun kq v3 v39 w' => ∃ (x3_2 : List (S52)) (x39_2 : Int), v39 = .int .i64 x39_2 ∧ Aside0 (F56.l1 kq x3_2 l0_3 (l0_3.length : Int) x21_1 ((rd_T83 l0_3 x21_1).f2) (((rd_T83 l0_3 x21_1).f2).length : Int) x39_2 a0_0 a0_1 a0_2 l0_3 ((rd_T83 l0_3 x21_1).f0) ((rd_T83 l0_3 x21_1).f1) ((rd_T83 l0_3 x21_1).f2) = some r) ∧ Aside0 (kq ≤ k1) ∧ Aside0 (Kd.N k52 52 w' w.heap.size (fun k_ => (w.heap.size ≤ k_) ∧ k_ ≠ gb422 ∧ k_ ≠ gb447) v3 x3_2) ∧ Aside0 (w'.heap[gb422]? = some (.cells #[.string a0_0, .string a0_1, .int .i64 a0_2, (.slice (some ad446) l0_3.length c0_3)] 29 (0, 0))) ∧ Aside0 (w'.heap[gb447]? = some (.cells #[.int .i64 ((rd_T83 l0_3 x21_1).f0), .int .i64 ((rd_T83 l0_3 x21_1).f1), (.slice A446_2 ((rd_T83 l0_3 x21_1).f2).length c446_2)] 83 (0, 0))) ∧ Aside0 (Below w.heap.size w w'))
   case atStart => exact ⟨(y457), (0), er_, H', ⟨Nat.le_refl _⟩, ⟨by (with_reducible repeat (first | apply Kd.N_alloc | apply Kd.N_drewN | apply Kd.N_drew)); exact Kd.N_mono HO459.out (fun _ hk => ⟨hk.1, ⟨hk.2.2.1, hk.2.2.2⟩⟩)⟩, ⟨bk_ BK422⟩, ⟨bk_ BK447⟩, ⟨bl_⟩⟩
   case round =>
    clear H'
    try clear c2
    try clear c15b0
    try clear c16b0
    try clear c17b0
    try clear hcz14_0 hcz14_1 hcz14_2 hcz14_3
    try clear hcz24_0 hcz24_1 hcz24_2
    try clear hcz35_0 hcz35_1 hcz35_2
    try clear hfz14_0 hfz14_1 hfz14_2 hfz14_3
    try clear hfz24_0 hfz24_1 hfz24_2
    try clear hfz35_0 hfz35_1 hfz35_2
    try clear hx446_0
    try clear hx446_1
    try clear hx446_2
    try clear p446
    try clear q446
    obtain ⟨x3_2, x39_2, rfl, HA, HK2, HO_3, BK422, BK447, HB⟩ := hrel
    cases gk with
    | zero => exact absurd HA.out (by simp [F56.l1])
    | succ k2 =>
     have H := HA.out
     clear HA
     simp only [F56.l1] at H
     replace H := it_ H; rcases H with ⟨c36b0, H⟩ | ⟨c36b0, H⟩
     rotate_left
     ·replace H := bi_ H; rcases H with ⟨t460, A72, H⟩
      replace H := bi_ H; rcases H with ⟨t461, A73, H⟩
      obtain ⟨y462, hy462⟩ : ∃ y_ : List ByteArray, y_ = (([t460, t461] : List ByteArray)) := ⟨_, rfl⟩
      replace H : ((F87.f k2 (⟨#[71, 82, 84]⟩ : ByteArray) y462).bind fun bt465 => (if x3_2.length < 3518437208883 then (F56.l0 k2 (x3_2 ++ [(⟨bt465.1, bt465.2⟩ : S52)]) l0_3 (l0_3.length : Int) (wrap64 (x21_1 + 1)) a0_0 a0_1 a0_2 l0_3) else (none))) = some r := by first | (rw [hy462]; exact H) | exact H
      have Ny462 := am_ hy462
      clear hy462
      replace H := bi_ H; rcases H with ⟨⟨t465, t466⟩, A74, H⟩
      replace H := iln_ H; rcases H with ⟨LMc75, H⟩
      obtain ⟨y469, hy469⟩ : ∃ y_ : List (S52), y_ = (x3_2 ++ [(⟨t465, t466⟩ : S52)]) := ⟨_, rfl⟩
      replace H : (F56.l0 k2 y469 l0_3 (l0_3.length : Int) (wrap64 (x21_1 + 1)) a0_0 a0_1 a0_2 l0_3) = some r := by first | (rw [hy469]; exact H) | exact H
      have Ny469 := am_ hy469
      clear hy469
      have H' := am_ H
      clear H
      try go_wp2
      replace HO_3 := am_ (Kd.N_drew HO_3.out)
      replace BK422 := bd_ BK422
      replace BK447 := bd_ BK447
      replace HB := am_ (below_drew1 HB.out)
      refine start_ (n := 13) (S := fun w' => w'.cell? ⟨gb447, 0, none⟩ = some (.int .i64 ((rd_T83 l0_3 x21_1).f0)) ∧ w'.cell? ⟨gb447, 1, none⟩ = some (.int .i64 ((rd_T83 l0_3 x21_1).f1)) ∧ w'.cell? ⟨gb447, 2, none⟩ = some (.slice A446_2 ((rd_T83 l0_3 x21_1).f2).length c446_2)) (ds := []) (bs 13 0) (by kernel_rfl) rfl rfl ⟨(blk_cell BK447.out 0).trans rfl, (blk_cell BK447.out 1).trans rfl, (blk_cell BK447.out 2).trans rfl⟩ (fun hHeld => ?_); refine with_tabW F56.tab13 F56.bits13 (fun HT_ HW_ => ?_)
      generalize wr.drew = w76 at HO_3 BK422 BK447 HB hHeld ⊢
      refine pu_ 0 69 (bs 13 1) HT_ ?_ rfl rfl
      refine pu_ 1 70 (bs 13 3) HT_ ?_ rfl rfl
      refine pu_ 5 74 (bs 13 35) HT_ ?_ rfl rfl
      refine tk_ 2 71 (bs 13 39) HT_ HW_ hHeld au3_10 ?_ rfl rfl
      refine pu_ 3 72 (bs 13 47) HT_ ?_ rfl rfl
      refine tk_ 6 75 (bs 13 111) HT_ HW_ hHeld au3_10 ?_ rfl rfl
      refine one_ (i := 4) (N := some 73) (bs 13 127) rfl rfl (one_of HT_.out (by kernel_rfl)) (by decide) (fun K hK => ?_)
      refine gr_ Tryd.func88 #[.int .i64 (((rd_T83 l0_3 x21_1).f2).length : Int)] (by rfl) ?_ rfl rfl rfl
      with_reducible refine (F88.calls (((rd_T83 l0_3 x21_1).f2).length : Int) t460 _ ?s1 A72.out).mono ?_
      (case s1 => exact au3_2)
      rintro e w77 ⟨rfl, hb⟩
      refine ⟨_, rfl, ?_⟩
      replace HO_3 := am_ (Kd.N_below au3_0 hb)
      replace BK422 := bb_ BK422 hb
      replace BK447 := bb_ BK447 hb
      replace HB := hs_ w hb
      (try clear hb)
      (try clear hb2)
      (try clear hk)
      (try clear hi)
      refine hK.out _ _ ⟨(blk_cell BK447.out 0).trans rfl, (blk_cell BK447.out 1).trans rfl, (blk_cell BK447.out 2).trans rfl⟩ (fun hHeld => ?_)
      clear hK K
      refine no_ 73 ?_
      refine one_ (i := 7) (N := some 76) (bs 13 255) rfl rfl (one_of HT_.out (by kernel_rfl)) (by decide) (fun K hK => ?_)
      refine gr_ Tryd.func88 #[.int .i64 ((rd_T83 l0_3 x21_1).f1)] (by rfl) ?_ rfl rfl rfl
      with_reducible refine (F88.calls ((rd_T83 l0_3 x21_1).f1) t461 _ ?s1 A73.out).mono ?_
      (case s1 => exact au3_2)
      rintro e w78 ⟨rfl, hb⟩
      refine ⟨_, rfl, ?_⟩
      replace HO_3 := am_ (Kd.N_below au3_0 hb)
      replace BK422 := bb_ BK422 hb
      replace BK447 := bb_ BK447 hb
      replace HB := hs_ w hb
      (try clear hb)
      (try clear hb2)
      (try clear hk)
      (try clear hi)
      refine hK.out _ _ ⟨(blk_cell BK447.out 0).trans rfl, (blk_cell BK447.out 1).trans rfl, (blk_cell BK447.out 2).trans rfl⟩ (fun hHeld => ?_)
      clear hK K
      refine no_ 76 ?_
      refine one_ (i := 8) (N := some 77) (bs 13 511) rfl rfl (one_of HT_.out (by kernel_rfl)) (by decide) (fun K hK => ?_)
      refine Kd.R_lit_step Kd.string _ 9 ?hg (N := 77) ?hd (xs := ([t460, t461] : List ByteArray)) (inner := [.string t460, .string t461]) (ok := fun _ => True) (okp := fun _ => True) ?hr ?hp (fun _ hk => hk) trivial (Below.refl _ _) (Nat.le_refl _) (by simp) ?_; (case hd => rfl); (case hg => rfl); (case hr => exact hr_); (case hp => exact (Reps.one (show Kd.M Kd.string _ _ _ t460 [.string t460] from rfl) (Reps.one (show Kd.M Kd.string _ _ _ t461 [.string t461] from rfl) (Reps.none _ _))))
      intro v463 w79 ho80 hb hg_ hnew_
      clear hg_ hnew_
      (first | rw [← Ny462.out] at ho80 | (simp only [Int.reduceToNat] at ho80; rw [← Ny462.out] at ho80))
      replace HO_3 := am_ (Kd.N_elder' au3_0 (Kd.R_base ho80) hb)
      have HO464 := am_ (Kd.R_lower (Kd.R_newM (M := fun k_ => (w.heap.size ≤ k_)) ho80 (below_size bl_) (fun k_ h_ => h_)) (below_size bl_))
      replace BK422 := bb_ BK422 hb
      replace BK447 := bb_ BK447 hb
      replace HB := hs_ w hb
      clear hb ho80
      obtain ⟨Ao81, co81, eo81⟩ := Kd.R_slice HO464.out
      (first | subst eo81 | (injection eo81 with f1_ f2_ f3_; have f4_ := f1_.symm; have f5_ := f3_.symm; clear f1_ f2_ f3_; subst f4_; subst f5_))
      refine hK.out _ _ ⟨(blk_cell BK447.out 0).trans rfl, (blk_cell BK447.out 1).trans rfl, (blk_cell BK447.out 2).trans rfl⟩ (fun hHeld => ?_)
      clear hK K
      refine no_ 77 ?_
      refine one_ (i := 9) (N := some 78) (bs 13 1023) rfl rfl (one_of HT_.out (by kernel_rfl)) (by decide) (fun K hK => ?_)
      refine gr_ Tryd.func87 #[.string (⟨#[71, 82, 84]⟩ : ByteArray), .slice Ao81 y462.length co81] (by rfl) ?_ rfl rfl rfl
      with_reducible refine (F87.calls k2 (⟨#[71, 82, 84]⟩ : ByteArray) _ _ y462 t465 t466 _ ?s1 ?s2 A74.out).mono ?_
      (case s1 => repeat (first | exact (Kd.R_reads' HO464.out).2.2 | (with_reducible refine Kd.C_alloc ?_ _) | (with_reducible refine Kd.C_drewN ?_ _) | (with_reducible refine Kd.C_drew ?_)))
      (case s2 => exact (Kd.R_reads' HO464.out).2.1)
      rintro e w82 ⟨v467, rfl, ho0, hb⟩
      refine ⟨_, rfl, ?_⟩
      have HO468 := am_ (Kd.N_lower (Kd.N_mono (ok' := fun k_ => (w.heap.size ≤ k_) ∧ some k_ ≠ (u3 : Value).ownBlock ∧ some k_ ≠ (.slice Ao81 y462.length co81 : Value).ownBlock ∧ k_ ≠ gb422 ∧ k_ ≠ gb447) (Kd.S_N (Kd.S_bound ho0)) (fun k_ hk_ => ⟨(Nat.le_trans (below_size bl_) hk_.2.1), (Kd.fresh' (Kd.N_lt au3_0) k_ hk_.2.1), (Kd.fresh' (Kd.R_lt (rk_ HO464)) k_ hk_.2.1), (Kd.freshB (g := gb422) (o := .cells #[.string a0_0, .string a0_1, .int .i64 a0_2, .slice (some ad446) l0_3.length c0_3] 29 (0, 0)) (bk_ BK422) k_ hk_.2.1), (Kd.freshB (g := gb447) (o := .cells #[.int .i64 ((rd_T83 l0_3 x21_1).f0), .int .i64 ((rd_T83 l0_3 x21_1).f1), .slice A446_2 ((rd_T83 l0_3 x21_1).f2).length c446_2] 83 (0, 0)) (bk_ BK447) k_ hk_.2.1)⟩)) (below_size bl_))
      replace HO_3 := am_ (Kd.N_elder' au3_0 (Kd.S_base ho0) hb)
      replace HO464 := am_ (Kd.R_below (rk_ HO464) hb)
      replace BK422 := bb_ BK422 hb
      replace BK447 := bb_ BK447 hb
      replace HB := hs_ w hb
      (try clear hb)
      (try clear hb2)
      (try clear hk)
      (try clear hi)
      (try clear ho0)
      obtain ⟨Ao84, co84, eo84⟩ := Kd.N_slice HO468.out
      (first | subst eo84 | (injection eo84 with f1_ f2_ f3_; have f4_ := f1_.symm; have f5_ := f3_.symm; clear f1_ f2_ f3_; subst f4_; subst f5_))
      refine hK.out _ _ ⟨(blk_cell BK447.out 0).trans rfl, (blk_cell BK447.out 1).trans rfl, (blk_cell BK447.out 2).trans rfl⟩ (fun hHeld => ?_)
      clear hK K
      refine no_ 78 ?_
      refine one_ (i := 10) (N := some 79) (bs 13 2047) rfl rfl (one_of HT_.out (by kernel_rfl)) (by decide) (fun K hK => ?_)
      refine value_ (w1 := ?_) (v := ?_) (by rfl) rfl ?_ ?_
      rotate_left 2
      ·go_simp
       constructor
       ·rfl
       ·rfl
      refine hK.out _ _ ⟨(blk_cell (blk_alloc BK447.out _) 0).trans rfl, (blk_cell (blk_alloc BK447.out _) 1).trans rfl, (blk_cell (blk_alloc BK447.out _) 2).trans rfl⟩ (fun hHeld => ?_)
      clear hK K
      refine no_ 79 ?_
      refine one_ (i := 11) (N := some 80) (bs 13 4095) rfl rfl (one_of HT_.out (by kernel_rfl)) (by decide) (fun K hK => ?_)
      refine Kd.N_append_step k52 (w0 := w) w.heap.size (by rfl) (.tmp 69) (.tmp 79) 38 52 (.agg #[(.string ⟨#[]⟩), (.slice none 0 0)]) 40 rfl Tryd.underlying38 info52 rfl (by decide) (by omega) u3 x3_2 (⟨t465, t466⟩ : S52) [.string t465, .slice Ao84 t466.length co84] (fun k_ => (w.heap.size ≤ k_) ∧ some k_ ≠ (.slice Ao81 y462.length co81 : Value).ownBlock ∧ k_ ≠ gb422 ∧ k_ ≠ gb447) (fun k_ => ((fun k_ => (w.heap.size ≤ k_) ∧ some k_ ≠ (.slice Ao81 y462.length co81 : Value).ownBlock ∧ k_ ≠ gb422 ∧ k_ ≠ gb447)) k_ ∧ some k_ ≠ (u3 : Value).ownBlock) rfl rfl ?aP (fun _ hk => hk) ?aF ?aO ?aB ?aS ?aL ?_
      (case aP => exact (k52_mkF _ _ (⟨t465, t466⟩ : S52) (Kd.N_reads' (Kd.N_mono (ok' := (fun k_ => ((fun k_ => (w.heap.size ≤ k_) ∧ some k_ ≠ (.slice Ao81 y462.length co81 : Value).ownBlock ∧ k_ ≠ gb422 ∧ k_ ≠ gb447)) k_ ∧ some k_ ≠ (u3 : Value).ownBlock)) (HO468.out) (fun k_ hk => ⟨⟨hk.1, ⟨hk.2.2.1, ⟨hk.2.2.2.1, hk.2.2.2.2⟩⟩⟩, hk.2.1⟩))).2.1 (Kd.N_F (Kd.N_mono (ok' := (fun k_ => ((fun k_ => (w.heap.size ≤ k_) ∧ some k_ ≠ (.slice Ao81 y462.length co81 : Value).ownBlock ∧ k_ ≠ gb422 ∧ k_ ≠ gb447)) k_ ∧ some k_ ≠ (u3 : Value).ownBlock)) (HO468.out) (fun k_ hk => ⟨⟨hk.1, ⟨hk.2.2.1, ⟨hk.2.2.2.1, hk.2.2.2.2⟩⟩⟩, hk.2.1⟩)))))
      (case aB => exact bl_)
      (case aF => exact (fun k_ hk => ⟨(Nat.le_trans (below_size bl_) hk), Kd.fresh' (Kd.R_lt (rk_ HO464)) k_ hk, Kd.freshB (g := gb422) (o := .cells #[.string a0_0, .string a0_1, .int .i64 a0_2, .slice (some ad446) l0_3.length c0_3] 29 (0, 0)) (bk_ BK422) k_ hk, Kd.freshB (g := gb447) (o := .cells #[.int .i64 ((rd_T83 l0_3 x21_1).f0), .int .i64 ((rd_T83 l0_3 x21_1).f1), .slice A446_2 ((rd_T83 l0_3 x21_1).f2).length c446_2] 83 (0, 0)) (bk_ BK447) k_ hk⟩))
      (case aO => exact au3_13)
      (case aS => exact (below_size bl_))
      (case aL => have := LMc75.out; omega)
      intro v470 w83 ho hb hg hat
      rw [← Ny469.out] at ho
      have n0_ := am_ (bg_ BK422 hg (Kd.N_ne HO_3.out BK422.out (by decide)))
      have n1_ := am_ (bg_ BK447 hg (Kd.N_ne HO_3.out BK447.out (by decide)))
      have n2_ := am_ (Kd.R_over' (rk_ HO464) (Kd.N_typed au3_0) (by decide) hg)
      have n3_ := am_ (hb)
      have n4_ := am_ (ho)
      clear BK422
      clear BK447
      clear HO464
      clear HB
      clear HO_3
      clear HO468
      have BK422 := n0_
      have BK447 := n1_
      have HO464 := n2_
      have HB := n3_
      have HO471 := n4_
      clear n0_ n1_ n2_ n3_ n4_
      clear ho hb hg hat
      refine hK.out _ _ ⟨(blk_cell BK447.out 0).trans rfl, (blk_cell BK447.out 1).trans rfl, (blk_cell BK447.out 2).trans rfl⟩ (fun hHeld => ?_)
      clear hK K
      refine no_ 80 ?_
      refine pu_ 12 3 (bs 13 8191) HT_ ?_ rfl rfl
      refine done_ (done_of HT_.out (by kernel_rfl)) ?_
      try go_wp2
      go_roundg k2
      case measure => have := HK1.out; have := HK2.out; omega
      case rel => exact ⟨(y469), (wrap64 (x21_1 + 1)), er_, H', ⟨by have := HK1.out; have := HK2.out; omega⟩, ⟨by (with_reducible repeat (first | apply Kd.N_alloc | apply Kd.N_drewN | apply Kd.N_drew)); exact Kd.N_mono HO471.out (fun _ hk => ⟨hk.1, hk.2.2.1⟩)⟩, ⟨bk_ BK422⟩, ⟨bl_⟩⟩
     replace H := itn_ H; rcases H with ⟨c37b0, H⟩
     replace H := itn_ H; rcases H with ⟨c38b0, H⟩
     replace H := bi_ H; rcases H with ⟨t474, A39, H⟩
     obtain ⟨y475, hy475⟩ : ∃ y_ : List ByteArray, y_ = (([t474] : List ByteArray)) := ⟨_, rfl⟩
     replace H : ((F87.f k2 (⟨#[77, 83, 72]⟩ : ByteArray) y475).bind fun bt478 => (if x3_2.length < 3518437208883 then ((some (x3_2 ++ [(⟨bt478.1, bt478.2⟩ : S52)] : List (S52))).bind fun y482 => ((F89.f k2 ((rd_T85 ((rd_T83 l0_3 x21_1).f2) x39_2).f1)).bind fun t485 => (if y482.length + t485.length < 3518437208883 then ((some (y482 ++ t485 : List (S52))).bind fun y488 => ((F88.f (((rd_T85 ((rd_T83 l0_3 x21_1).f2) x39_2).f1).length : Int)).bind fun t491 => ((F88.f ((rd_T85 ((rd_T83 l0_3 x21_1).f2) x39_2).f0)).bind fun t492 => ((F87.f k2 (⟨#[77, 83, 84]⟩ : ByteArray) (([t491, t492] : List ByteArray))).bind fun bt496 => (if y488.length < 3518437208883 then (F56.l1 k2 (y488 ++ [(⟨bt496.1, bt496.2⟩ : S52)]) l0_3 (l0_3.length : Int) x21_1 ((rd_T83 l0_3 x21_1).f2) (((rd_T83 l0_3 x21_1).f2).length : Int) (wrap64 (x39_2 + 1)) a0_0 a0_1 a0_2 l0_3 ((rd_T83 l0_3 x21_1).f0) ((rd_T83 l0_3 x21_1).f1) ((rd_T83 l0_3 x21_1).f2)) else (none)))))) else (none)))) else (none))) = some r := by first | (rw [hy475]; exact H) | exact H
     have Ny475 := am_ hy475
     clear hy475
     replace H := bi_ H; rcases H with ⟨⟨t478, t479⟩, A40, H⟩
     replace H := iln_ H; rcases H with ⟨LMc41, H⟩
     obtain ⟨y482, hy482⟩ : ∃ y_ : List (S52), y_ = (x3_2 ++ [(⟨t478, t479⟩ : S52)]) := ⟨_, rfl⟩
     replace H : ((F89.f k2 ((rd_T85 ((rd_T83 l0_3 x21_1).f2) x39_2).f1)).bind fun t485 => (if y482.length + t485.length < 3518437208883 then ((some (y482 ++ t485 : List (S52))).bind fun y488 => ((F88.f (((rd_T85 ((rd_T83 l0_3 x21_1).f2) x39_2).f1).length : Int)).bind fun t491 => ((F88.f ((rd_T85 ((rd_T83 l0_3 x21_1).f2) x39_2).f0)).bind fun t492 => ((F87.f k2 (⟨#[77, 83, 84]⟩ : ByteArray) (([t491, t492] : List ByteArray))).bind fun bt496 => (if y488.length < 3518437208883 then (F56.l1 k2 (y488 ++ [(⟨bt496.1, bt496.2⟩ : S52)]) l0_3 (l0_3.length : Int) x21_1 ((rd_T83 l0_3 x21_1).f2) (((rd_T83 l0_3 x21_1).f2).length : Int) (wrap64 (x39_2 + 1)) a0_0 a0_1 a0_2 l0_3 ((rd_T83 l0_3 x21_1).f0) ((rd_T83 l0_3 x21_1).f1) ((rd_T83 l0_3 x21_1).f2)) else (none)))))) else (none))) = some r := by first | (rw [hy482]; exact H) | exact H
     have Ny482 := am_ hy482
     clear hy482
     replace H := bi_ H; rcases H with ⟨t485, A42, H⟩
     replace H := iln_ H; rcases H with ⟨LMc43, H⟩
     obtain ⟨y488, hy488⟩ : ∃ y_ : List (S52), y_ = (y482 ++ t485) := ⟨_, rfl⟩
     replace H : ((F88.f (((rd_T85 ((rd_T83 l0_3 x21_1).f2) x39_2).f1).length : Int)).bind fun t491 => ((F88.f ((rd_T85 ((rd_T83 l0_3 x21_1).f2) x39_2).f0)).bind fun t492 => ((F87.f k2 (⟨#[77, 83, 84]⟩ : ByteArray) (([t491, t492] : List ByteArray))).bind fun bt496 => (if y488.length < 3518437208883 then (F56.l1 k2 (y488 ++ [(⟨bt496.1, bt496.2⟩ : S52)]) l0_3 (l0_3.length : Int) x21_1 ((rd_T83 l0_3 x21_1).f2) (((rd_T83 l0_3 x21_1).f2).length : Int) (wrap64 (x39_2 + 1)) a0_0 a0_1 a0_2 l0_3 ((rd_T83 l0_3 x21_1).f0) ((rd_T83 l0_3 x21_1).f1) ((rd_T83 l0_3 x21_1).f2)) else (none))))) = some r := by first | (rw [hy488]; exact H) | exact H
     have Ny488 := am_ hy488
     clear hy488
     replace H := bi_ H; rcases H with ⟨t491, A44, H⟩
     replace H := bi_ H; rcases H with ⟨t492, A45, H⟩
     obtain ⟨y493, hy493⟩ : ∃ y_ : List ByteArray, y_ = (([t491, t492] : List ByteArray)) := ⟨_, rfl⟩
     replace H : ((F87.f k2 (⟨#[77, 83, 84]⟩ : ByteArray) y493).bind fun bt496 => (if y488.length < 3518437208883 then (F56.l1 k2 (y488 ++ [(⟨bt496.1, bt496.2⟩ : S52)]) l0_3 (l0_3.length : Int) x21_1 ((rd_T83 l0_3 x21_1).f2) (((rd_T83 l0_3 x21_1).f2).length : Int) (wrap64 (x39_2 + 1)) a0_0 a0_1 a0_2 l0_3 ((rd_T83 l0_3 x21_1).f0) ((rd_T83 l0_3 x21_1).f1) ((rd_T83 l0_3 x21_1).f2)) else (none))) = some r := by first | (rw [hy493]; exact H) | exact H
     have Ny493 := am_ hy493
     clear hy493
     replace H := bi_ H; rcases H with ⟨⟨t496, t497⟩, A46, H⟩
     replace H := iln_ H; rcases H with ⟨LMc47, H⟩
     obtain ⟨y500, hy500⟩ : ∃ y_ : List (S52), y_ = (y488 ++ [(⟨t496, t497⟩ : S52)]) := ⟨_, rfl⟩
     replace H : (F56.l1 k2 y500 l0_3 (l0_3.length : Int) x21_1 ((rd_T83 l0_3 x21_1).f2) (((rd_T83 l0_3 x21_1).f2).length : Int) (wrap64 (x39_2 + 1)) a0_0 a0_1 a0_2 l0_3 ((rd_T83 l0_3 x21_1).f0) ((rd_T83 l0_3 x21_1).f1) ((rd_T83 l0_3 x21_1).f2)) = some r := by first | (rw [hy500]; exact H) | exact H
     have Ny500 := am_ hy500
     clear hy500
     have H' := am_ H
     clear H
     have p472 : 0 ≤ (x39_2 : Int) := od_
     have q472 : x39_2 < (((rd_T83 l0_3 x21_1).f2).length : Int) := od_
     obtain ⟨ad472, A472_1, c472_1, e472, hx472_0, hx472_1, hl472_1, hi472_1⟩ := at_T85 HR446_2.out x39_2 p472 q472
     cases e472
     replace hx472_0 := (HB.out.cell (World.block_lt_of_cell? _ _ hx472_0)).trans hx472_0
     replace hx472_1 := (HB.out.cell (World.block_lt_of_cell? _ _ hx472_1)).trans hx472_1
     have HR472_1 := am_ hi472_1
     have HC472_1 := am_ hl472_1
     clear hi472_1 hl472_1
     replace p472 := eq_true p472
     replace q472 := eq_true q472
     try go_wp2_with (first | ((with_reducible refine gate_dst (N := 7) rfl ?_); refine be_ 7 #[.int .i64 0, .slice none 0 0] 85 ?_; intro gb473 hg w48 hbox hb; replace HO_3 := am_ (Kd.N_below (Kd.N_elderB au3_0 gb473 (Nat.le_of_eq hg.symm)) hb); have BK473 := am_ (hbox); have GW473 := am_ (gw_ hg bl_); have GE473 := GW473; replace HB := hs_ w hb; have NB422_473 := am_ (gn_ hg (blkl_ BK422)); have NB473_422 := am_ (gm_ hg (blkl_ BK422)); replace BK422 := bb_ BK422 hb; have NB447_473 := am_ (gn_ hg (blkl_ BK447)); have NB473_447 := am_ (gm_ hg (blkl_ BK447)); replace BK447 := bb_ BK447 hb; clear hb hbox hg; have hnb49 := NB473_422.out; have hnc49 := NB422_473.out; have hnb50 := NB473_447.out; have hnc50 := NB447_473.out; obtain ⟨hcz51_0, hcz51_1, hfz51_0, hfz51_1⟩ := cellsF2 BK473.out) | (go_at_call 88; (with_reducible refine (F88.calls ((rd_T85 ((rd_T83 l0_3 x21_1).f2) x39_2).f0) t474 _ ?s1 A39.out).mono ?_); (case s1 => exact au3_2); rintro e w52 ⟨rfl, hb⟩; (try clear A39); replace HO_3 := am_ (Kd.N_below (by (with_reducible repeat (first | apply Kd.N_alloc | apply Kd.N_drewN | apply Kd.N_drew)); exact (Kd.N_mono (Kd.N_far (p := ⟨gb473, 1, none⟩) (Kd.N_far (p := ⟨gb473, 0, none⟩) (Kd.N_mono HO_3.out (fun k_ hk => (⟨hk, hk.2⟩ : _ ∧ k_ ≠ gb473))) (fun _ hk => hk.2) (.int .i64 ((rd_T85 ((rd_T83 l0_3 x21_1).f2) x39_2).f0))) (fun _ hk => hk.2) (.slice A472_1 ((rd_T85 ((rd_T83 l0_3 x21_1).f2) x39_2).f1).length c472_1)) (fun _ h_ => h_.1))) hb); replace BK422 := am_ (blk_below (g := gb422) (o := .cells #[.string a0_0, .string a0_1, .int .i64 a0_2, .slice (some ad446) l0_3.length c0_3] 29 (0, 0)) (bf_ BK422) hb); replace BK447 := am_ (blk_below (g := gb447) (o := .cells #[.int .i64 ((rd_T83 l0_3 x21_1).f0), .int .i64 ((rd_T83 l0_3 x21_1).f1), .slice (some ad472) ((rd_T83 l0_3 x21_1).f2).length c446_2] 83 (0, 0)) (bf_ BK447) hb); replace BK473 := am_ (blk_below (g := gb473) (o := .cells #[.int .i64 ((rd_T85 ((rd_T83 l0_3 x21_1).f2) x39_2).f0), .slice A472_1 ((rd_T85 ((rd_T83 l0_3 x21_1).f2) x39_2).f1).length c472_1] 85 (0, 0)) (bq_ BK473) hb); replace HB := hs_ w hb; (try clear hb); (try clear hb2); (try clear hk); (try clear hi)) | ((with_reducible refine gate_dst (N := 47) rfl ?_); refine Kd.R_lit Kd.string _ 9 ?hg (N := 47) ?hd (xs := ([t474] : List ByteArray)) (inner := [.string t474]) (ok := fun _ => True) (okp := fun _ => True) ?hr ?hp (fun _ hk => hk) trivial (Below.refl _ _) (Nat.le_refl _) (by simp) ?_; (case hd => rfl); (case hg => rfl); (case hr => exact hr_); (case hp => exact (Reps.one (show Kd.M Kd.string _ _ _ t474 [.string t474] from rfl) (Reps.none _ _))); intro v476 w53 ho54 hb hg_ hnew_; clear hg_ hnew_; (first | rw [← Ny475.out] at ho54 | (simp only [Int.reduceToNat] at ho54; rw [← Ny475.out] at ho54)); replace HO_3 := am_ (Kd.N_elder' au3_0 (Kd.R_base ho54) hb); have HO477 := am_ (Kd.R_lower (Kd.R_newM (M := fun k_ => (w.heap.size ≤ k_)) ho54 (below_size bl_) (fun k_ h_ => h_)) (below_size bl_)); replace BK422 := bb_ BK422 hb; replace BK447 := bb_ BK447 hb; replace BK473 := bb_ BK473 hb; replace HB := hs_ w hb; clear hb ho54; obtain ⟨Ao55, co55, eo55⟩ := Kd.R_slice HO477.out; subst eo55) | (go_at_call 87; (with_reducible refine (F87.calls k2 (⟨#[77, 83, 72]⟩ : ByteArray) _ _ y475 t478 t479 _ ?s1 ?s2 A40.out).mono ?_); (case s1 => repeat (first | exact (Kd.R_reads' HO477.out).2.2 | (with_reducible refine Kd.C_alloc ?_ _) | (with_reducible refine Kd.C_drewN ?_ _) | (with_reducible refine Kd.C_drew ?_))); (case s2 => exact (Kd.R_reads' HO477.out).2.1); rintro e w56 ⟨v480, rfl, ho0, hb⟩; (try clear A40); have HO481 := am_ (Kd.N_lower (Kd.N_mono (ok' := fun k_ => (w.heap.size ≤ k_) ∧ some k_ ≠ (u3 : Value).ownBlock ∧ some k_ ≠ (.slice Ao55 y475.length co55 : Value).ownBlock ∧ k_ ≠ gb422 ∧ k_ ≠ gb447 ∧ k_ ≠ gb473) (Kd.S_N (Kd.S_bound ho0)) (fun k_ hk_ => ⟨(Nat.le_trans (below_size bl_) hk_.2.1), (Kd.fresh' (Kd.N_lt au3_0) k_ hk_.2.1), (Kd.fresh' (Kd.R_lt (rk_ HO477)) k_ hk_.2.1), (Kd.freshB (g := gb422) (o := .cells #[.string a0_0, .string a0_1, .int .i64 a0_2, .slice (some ad446) l0_3.length c0_3] 29 (0, 0)) (bk_ BK422) k_ hk_.2.1), (Kd.freshB (g := gb447) (o := .cells #[.int .i64 ((rd_T83 l0_3 x21_1).f0), .int .i64 ((rd_T83 l0_3 x21_1).f1), .slice (some ad472) ((rd_T83 l0_3 x21_1).f2).length c446_2] 83 (0, 0)) (bk_ BK447) k_ hk_.2.1), (Kd.freshB (g := gb473) (o := .cells #[.int .i64 ((rd_T85 ((rd_T83 l0_3 x21_1).f2) x39_2).f0), .slice A472_1 ((rd_T85 ((rd_T83 l0_3 x21_1).f2) x39_2).f1).length c472_1] 85 (0, 0)) (bk_ BK473) k_ hk_.2.1)⟩)) (below_size bl_)); replace HO_3 := am_ (Kd.N_elder' au3_0 (Kd.S_base ho0) hb); replace HO477 := am_ (Kd.R_below (rk_ HO477) hb); replace BK422 := bb_ BK422 hb; replace BK447 := bb_ BK447 hb; replace BK473 := bb_ BK473 hb; replace HB := hs_ w hb; (try clear hb); (try clear hb2); (try clear hk); (try clear hi); (try clear ho0); obtain ⟨Ao58, co58, eo58⟩ := Kd.N_slice HO481.out; subst eo58) | ((with_reducible refine gate_builtin (b := .append) (xs := #[.tmp 43, .tmp 49]) rfl ?_); at_builtin; refine Kd.N_append k52 (w0 := w) w.heap.size rfl (.tmp 43) (.tmp 49) 38 52 (.agg #[(.string ⟨#[]⟩), (.slice none 0 0)]) 40 rfl Tryd.underlying38 info52 rfl (by decide) (by omega) u3 x3_2 (⟨t478, t479⟩ : S52) [.string t478, .slice Ao58 t479.length co58] (fun k_ => (w.heap.size ≤ k_) ∧ some k_ ≠ (.slice Ao55 y475.length co55 : Value).ownBlock ∧ k_ ≠ gb422 ∧ k_ ≠ gb447 ∧ k_ ≠ gb473) (fun k_ => ((fun k_ => (w.heap.size ≤ k_) ∧ some k_ ≠ (.slice Ao55 y475.length co55 : Value).ownBlock ∧ k_ ≠ gb422 ∧ k_ ≠ gb447 ∧ k_ ≠ gb473)) k_ ∧ some k_ ≠ (u3 : Value).ownBlock) rfl rfl ?aP (fun _ hk => hk) ?aF ?aO ?aB ?aS ?aL ?_; (case aP => exact (k52_mkF _ _ (⟨t478, t479⟩ : S52) (Kd.N_reads' (Kd.N_mono (ok' := (fun k_ => ((fun k_ => (w.heap.size ≤ k_) ∧ some k_ ≠ (.slice Ao55 y475.length co55 : Value).ownBlock ∧ k_ ≠ gb422 ∧ k_ ≠ gb447 ∧ k_ ≠ gb473)) k_ ∧ some k_ ≠ (u3 : Value).ownBlock)) (HO481.out) (fun k_ hk => ⟨⟨hk.1, ⟨hk.2.2.1, ⟨hk.2.2.2.1, ⟨hk.2.2.2.2.1, hk.2.2.2.2.2⟩⟩⟩⟩, hk.2.1⟩))).2.1 (Kd.N_F (Kd.N_mono (ok' := (fun k_ => ((fun k_ => (w.heap.size ≤ k_) ∧ some k_ ≠ (.slice Ao55 y475.length co55 : Value).ownBlock ∧ k_ ≠ gb422 ∧ k_ ≠ gb447 ∧ k_ ≠ gb473)) k_ ∧ some k_ ≠ (u3 : Value).ownBlock)) (HO481.out) (fun k_ hk => ⟨⟨hk.1, ⟨hk.2.2.1, ⟨hk.2.2.2.1, ⟨hk.2.2.2.2.1, hk.2.2.2.2.2⟩⟩⟩⟩, hk.2.1⟩))))); (case aB => exact bl_); (case aF => exact au3_3); (case aO => exact (by (with_reducible repeat (first | apply Kd.N_alloc | apply Kd.N_drewN | apply Kd.N_drew)); exact Kd.N_mono HO_3.out (fun _ hk => ⟨hk.1.1.1.1, ⟨hk.1.2, ⟨hk.1.1.1.2.1, ⟨hk.1.1.1.2.2, hk.1.1.2⟩⟩⟩⟩))); (case aS => exact (below_size bl_)); (case aL => have := LMc41.out; omega); intro v483 w57 ho hb hg hat; rw [← Ny482.out] at ho; have n0_ := am_ (bg_ BK422 hg (Kd.N_ne HO_3.out BK422.out (by decide))); have n1_ := am_ (bg_ BK447 hg (Kd.N_ne HO_3.out BK447.out (by decide))); have n2_ := am_ (bg_ BK473 hg (Kd.N_ne HO_3.out BK473.out (by decide))); have n3_ := am_ (Kd.R_over' (rk_ HO477) (Kd.N_typed au3_0) (by decide) hg); have n4_ := am_ (hb); have n5_ := am_ (ho); clear BK422; clear BK447; clear BK473; clear HO477; clear HB; clear HO_3; clear HO481; have BK422 := n0_; have BK447 := n1_; have BK473 := n2_; have HO477 := n3_; have HB := n4_; have HO484 := n5_; clear n0_ n1_ n2_ n3_ n4_ n5_; clear ho hb hg hat; obtain ⟨hcz59_0, hcz59_1, hfz59_0, hfz59_1⟩ := cellsF2 BK473.out) | (go_at_call 89; (with_reducible refine (F89.calls k2 _ _ ((rd_T85 ((rd_T83 l0_3 x21_1).f2) x39_2).f1) t485 _ ?s1 ?s2 A42.out).mono ?_); (case s1 => repeat (first | exact (Kd.C_below HR472_1.out HB.out) | (with_reducible refine Kd.C_alloc ?_ _) | (with_reducible refine Kd.C_drewN ?_ _) | (with_reducible refine Kd.C_drew ?_))); (case s2 => exact HC472_1.out); rintro e w60 ⟨v486, rfl, ho0, hb⟩; (try clear A42); have HO487 := am_ (Kd.N_lower (Kd.N_mono (ok' := fun k_ => (w.heap.size ≤ k_) ∧ some k_ ≠ (.slice Ao55 y475.length co55 : Value).ownBlock ∧ some k_ ≠ (v483 : Value).ownBlock ∧ k_ ≠ gb422 ∧ k_ ≠ gb447 ∧ k_ ≠ gb473) (Kd.R_N (Kd.R_bound ho0)) (fun k_ hk_ => ⟨(Nat.le_trans (below_size bl_) hk_.2.1), (Kd.fresh' (Kd.R_lt (rk_ HO477)) k_ hk_.2.1), (Kd.fresh' (Kd.N_lt au3_12) k_ hk_.2.1), (Kd.freshB (g := gb422) (o := .cells #[.string a0_0, .string a0_1, .int .i64 a0_2, .slice (some ad446) l0_3.length c0_3] 29 (0, 0)) (bk_ BK422) k_ hk_.2.1), (Kd.freshB (g := gb447) (o := .cells #[.int .i64 ((rd_T83 l0_3 x21_1).f0), .int .i64 ((rd_T83 l0_3 x21_1).f1), .slice (some ad472) ((rd_T83 l0_3 x21_1).f2).length c446_2] 83 (0, 0)) (bk_ BK447) k_ hk_.2.1), (Kd.freshB (g := gb473) (o := .cells #[.int .i64 ((rd_T85 ((rd_T83 l0_3 x21_1).f2) x39_2).f0), .slice A472_1 ((rd_T85 ((rd_T83 l0_3 x21_1).f2) x39_2).f1).length c472_1] 85 (0, 0)) (bk_ BK473) k_ hk_.2.1)⟩)) (below_size bl_)); replace HO477 := am_ (Kd.R_below (rk_ HO477) hb); replace HO484 := am_ (Kd.N_elder' au3_12 (Kd.N_base (Kd.R_N ho0)) hb); replace BK422 := bb_ BK422 hb; replace BK447 := bb_ BK447 hb; replace BK473 := bb_ BK473 hb; replace HB := hs_ w hb; (try clear hb); (try clear hb2); (try clear hk); (try clear hi); (try clear ho0); obtain ⟨Ao62, co62, eo62⟩ := Kd.N_slice HO487.out; subst eo62) | ((with_reducible refine gate_builtin (b := .append) (xs := #[.tmp 51, .tmp 54]) rfl ?_); at_builtin; refine Kd.N_append_rows k52 (w0 := w) w.heap.size rfl (.tmp 51) (.tmp 54) 38 52 (.agg #[(.string ⟨#[]⟩), (.slice none 0 0)]) 40 rfl Tryd.underlying38 info52 rfl (by decide) (by omega) v483 y482 t485 _ _ _ (fun k_ => (w.heap.size ≤ k_) ∧ some k_ ≠ (.slice Ao55 y475.length co55 : Value).ownBlock ∧ k_ ≠ gb422 ∧ k_ ≠ gb447 ∧ k_ ≠ gb473) (fun k_ => ((fun k_ => (w.heap.size ≤ k_) ∧ some k_ ≠ (.slice Ao55 y475.length co55 : Value).ownBlock ∧ k_ ≠ gb422 ∧ k_ ≠ gb447 ∧ k_ ≠ gb473)) k_ ∧ some k_ ≠ (v483 : Value).ownBlock) rfl rfl ?aO ?aR (fun _ hk => hk) ?aF ?aB ?aS ?aL ?_; (case aR => exact (by skip; exact Kd.N_F (Kd.N_mono (ok' := (fun k_ => ((fun k_ => (w.heap.size ≤ k_) ∧ some k_ ≠ (.slice Ao55 y475.length co55 : Value).ownBlock ∧ k_ ≠ gb422 ∧ k_ ≠ gb447 ∧ k_ ≠ gb473)) k_ ∧ some k_ ≠ (v483 : Value).ownBlock)) (HO487.out) (fun k_ hk => ⟨⟨hk.1, ⟨hk.2.1, ⟨hk.2.2.2.1, ⟨hk.2.2.2.2.1, hk.2.2.2.2.2⟩⟩⟩⟩, hk.2.2.1⟩)))); (case aB => exact bl_); (case aF => exact au3_3); (case aO => exact (by (with_reducible repeat (first | apply Kd.N_alloc | apply Kd.N_drewN | apply Kd.N_drew)); exact Kd.N_mono HO484.out (fun _ hk => ⟨hk.1.1, ⟨hk.1.2.1, ⟨hk.1.2.2.1, ⟨hk.1.2.2.2.1, hk.1.2.2.2.2⟩⟩⟩⟩))); (case aS => exact (below_size bl_)); (case aL => have := LMc43.out; omega); intro v489 w61 ho hb hg hat; rw [← Ny488.out] at ho; have n0_ := am_ (bg_ BK422 hg (Kd.N_ne HO484.out BK422.out (by decide))); have n1_ := am_ (bg_ BK447 hg (Kd.N_ne HO484.out BK447.out (by decide))); have n2_ := am_ (bg_ BK473 hg (Kd.N_ne HO484.out BK473.out (by decide))); have n3_ := am_ (Kd.R_over' (rk_ HO477) (Kd.N_typed au3_12) (by decide) hg); have n4_ := am_ (Kd.N_afterv (ok := (fun k_ => (w.heap.size ≤ k_) ∧ some k_ ≠ (.slice Ao55 y475.length co55 : Value).ownBlock ∧ k_ ≠ gb422 ∧ k_ ≠ gb447 ∧ k_ ≠ gb473)) (by (with_reducible repeat (first | apply Kd.N_alloc | apply Kd.N_drewN | apply Kd.N_drew)); exact Kd.N_mono HO487.out (fun _ hk => ⟨⟨hk.1, ⟨hk.2.1, ⟨hk.2.2.2.1, ⟨hk.2.2.2.2.1, hk.2.2.2.2.2⟩⟩⟩⟩, hk.2.2.1⟩)) hg hat); have n5_ := am_ (hb); have n6_ := am_ (ho); clear BK422; clear BK447; clear BK473; clear HO477; clear HO487; clear HB; clear HO484; have BK422 := n0_; have BK447 := n1_; have BK473 := n2_; have HO477 := n3_; have HO487 := n4_; have HB := n5_; have HO490 := n6_; clear n0_ n1_ n2_ n3_ n4_ n5_ n6_; clear ho hb hg hat))
     replace HO477 := am_ (Kd.R_drew HO477.out)
     replace HO487 := am_ (Kd.N_drew HO487.out)
     replace HO490 := am_ (Kd.N_drew HO490.out)
     replace BK422 := bd_ BK422
     replace BK447 := bd_ BK447
     replace BK473 := bd_ BK473
     replace HB := am_ (below_drew1 HB.out)
     refine start_ (n := 13) (S := fun w' => w'.cell? ⟨gb473, 0, none⟩ = some (.int .i64 ((rd_T85 ((rd_T83 l0_3 x21_1).f2) x39_2).f0)) ∧ w'.cell? ⟨gb473, 1, none⟩ = some (.slice A472_1 ((rd_T85 ((rd_T83 l0_3 x21_1).f2) x39_2).f1).length c472_1)) (ds := []) (bs 13 0) (by kernel_rfl) rfl rfl ⟨(blk_cell BK473.out 0).trans rfl, (blk_cell BK473.out 1).trans rfl⟩ (fun hHeld => ?_); refine with_tabW F56.tab11 F56.bits11 (fun HT_ HW_ => ?_)
     generalize w61.drew = w63 at HO477 HO487 HO490 BK422 BK447 BK473 HB hHeld ⊢
     refine pu_ 0 56 (bs 13 1) HT_ ?_ rfl rfl
     refine pu_ 1 57 (bs 13 3) HT_ ?_ rfl rfl
     refine pu_ 5 61 (bs 13 35) HT_ ?_ rfl rfl
     refine tk_ 2 58 (bs 13 39) HT_ HW_ hHeld au3_11 ?_ rfl rfl
     refine pu_ 3 59 (bs 13 47) HT_ ?_ rfl rfl
     refine tk_ 6 62 (bs 13 111) HT_ HW_ hHeld au3_11 ?_ rfl rfl
     refine one_ (i := 4) (N := some 60) (bs 13 127) rfl rfl (one_of HT_.out (by kernel_rfl)) (by decide) (fun K hK => ?_)
     refine gr_ Tryd.func88 #[.int .i64 (((rd_T85 ((rd_T83 l0_3 x21_1).f2) x39_2).f1).length : Int)] (by rfl) ?_ rfl rfl rfl
     with_reducible refine (F88.calls (((rd_T85 ((rd_T83 l0_3 x21_1).f2) x39_2).f1).length : Int) t491 _ ?s1 A44.out).mono ?_
     (case s1 => exact au3_2)
     rintro e w64 ⟨rfl, hb⟩
     refine ⟨_, rfl, ?_⟩
     replace HO477 := am_ (Kd.R_below (rk_ HO477) hb)
     replace HO487 := am_ (Kd.N_below au3_9 hb)
     replace HO490 := am_ (Kd.N_below au3_4 hb)
     replace BK422 := bb_ BK422 hb
     replace BK447 := bb_ BK447 hb
     replace BK473 := bb_ BK473 hb
     replace HB := hs_ w hb
     (try clear hb)
     (try clear hb2)
     (try clear hk)
     (try clear hi)
     refine hK.out _ _ ⟨(blk_cell BK473.out 0).trans rfl, (blk_cell BK473.out 1).trans rfl⟩ (fun hHeld => ?_)
     clear hK K
     refine no_ 60 ?_
     refine one_ (i := 7) (N := some 63) (bs 13 255) rfl rfl (one_of HT_.out (by kernel_rfl)) (by decide) (fun K hK => ?_)
     refine gr_ Tryd.func88 #[.int .i64 ((rd_T85 ((rd_T83 l0_3 x21_1).f2) x39_2).f0)] (by rfl) ?_ rfl rfl rfl
     with_reducible refine (F88.calls ((rd_T85 ((rd_T83 l0_3 x21_1).f2) x39_2).f0) t492 _ ?s1 A45.out).mono ?_
     (case s1 => exact au3_2)
     rintro e w65 ⟨rfl, hb⟩
     refine ⟨_, rfl, ?_⟩
     replace HO477 := am_ (Kd.R_below (rk_ HO477) hb)
     replace HO487 := am_ (Kd.N_below au3_9 hb)
     replace HO490 := am_ (Kd.N_below au3_4 hb)
     replace BK422 := bb_ BK422 hb
     replace BK447 := bb_ BK447 hb
     replace BK473 := bb_ BK473 hb
     replace HB := hs_ w hb
     (try clear hb)
     (try clear hb2)
     (try clear hk)
     (try clear hi)
     refine hK.out _ _ ⟨(blk_cell BK473.out 0).trans rfl, (blk_cell BK473.out 1).trans rfl⟩ (fun hHeld => ?_)
     clear hK K
     refine no_ 63 ?_
     refine one_ (i := 8) (N := some 64) (bs 13 511) rfl rfl (one_of HT_.out (by kernel_rfl)) (by decide) (fun K hK => ?_)
     refine Kd.R_lit_step Kd.string _ 9 ?hg (N := 64) ?hd (xs := ([t491, t492] : List ByteArray)) (inner := [.string t491, .string t492]) (ok := fun _ => True) (okp := fun _ => True) ?hr ?hp (fun _ hk => hk) trivial (Below.refl _ _) (Nat.le_refl _) (by simp) ?_; (case hd => rfl); (case hg => rfl); (case hr => exact hr_); (case hp => exact (Reps.one (show Kd.M Kd.string _ _ _ t491 [.string t491] from rfl) (Reps.one (show Kd.M Kd.string _ _ _ t492 [.string t492] from rfl) (Reps.none _ _))))
     intro v494 w66 ho67 hb hg_ hnew_
     clear hg_ hnew_
     (first | rw [← Ny493.out] at ho67 | (simp only [Int.reduceToNat] at ho67; rw [← Ny493.out] at ho67))
     replace HO487 := am_ (Kd.N_elder' au3_9 (Kd.R_base ho67) hb)
     replace HO490 := am_ (Kd.N_elder' au3_4 (Kd.R_base ho67) hb)
     have HO495 := am_ (Kd.R_lower (Kd.R_new' (Kd.R_newM (M := fun k_ => (w.heap.size ≤ k_)) ho67 (below_size bl_) (fun k_ h_ => h_)) (Kd.R_lt (rk_ HO477))) (below_size bl_))
     replace HO477 := am_ (Kd.R_elder' (rk_ HO477) (Kd.R_base ho67) hb)
     replace BK422 := bb_ BK422 hb
     replace BK447 := bb_ BK447 hb
     replace BK473 := bb_ BK473 hb
     replace HB := hs_ w hb
     clear hb ho67
     obtain ⟨Ao68, co68, eo68⟩ := Kd.R_slice HO495.out
     (first | subst eo68 | (injection eo68 with f1_ f2_ f3_; have f4_ := f1_.symm; have f5_ := f3_.symm; clear f1_ f2_ f3_; subst f4_; subst f5_))
     refine hK.out _ _ ⟨(blk_cell BK473.out 0).trans rfl, (blk_cell BK473.out 1).trans rfl⟩ (fun hHeld => ?_)
     clear hK K
     refine no_ 64 ?_
     refine one_ (i := 9) (N := some 65) (bs 13 1023) rfl rfl (one_of HT_.out (by kernel_rfl)) (by decide) (fun K hK => ?_)
     refine gr_ Tryd.func87 #[.string (⟨#[77, 83, 84]⟩ : ByteArray), .slice Ao68 y493.length co68] (by rfl) ?_ rfl rfl rfl
     with_reducible refine (F87.calls k2 (⟨#[77, 83, 84]⟩ : ByteArray) _ _ y493 t496 t497 _ ?s1 ?s2 A46.out).mono ?_
     (case s1 => repeat (first | exact (Kd.R_reads' HO495.out).2.2 | (with_reducible refine Kd.C_alloc ?_ _) | (with_reducible refine Kd.C_drewN ?_ _) | (with_reducible refine Kd.C_drew ?_)))
     (case s2 => exact (Kd.R_reads' HO495.out).2.1)
     rintro e w69 ⟨v498, rfl, ho0, hb⟩
     refine ⟨_, rfl, ?_⟩
     have HO499 := am_ (Kd.N_lower (Kd.N_mono (ok' := fun k_ => (w.heap.size ≤ k_) ∧ some k_ ≠ (.slice Ao55 y475.length co55 : Value).ownBlock ∧ some k_ ≠ (.slice Ao62 t485.length co62 : Value).ownBlock ∧ some k_ ≠ (v489 : Value).ownBlock ∧ some k_ ≠ (.slice Ao68 y493.length co68 : Value).ownBlock ∧ k_ ≠ gb422 ∧ k_ ≠ gb447 ∧ k_ ≠ gb473) (Kd.S_N (Kd.S_bound ho0)) (fun k_ hk_ => ⟨(Nat.le_trans (below_size bl_) hk_.2.1), (Kd.fresh' (Kd.R_lt (rk_ HO477)) k_ hk_.2.1), (Kd.fresh' (Kd.N_lt au3_9) k_ hk_.2.1), (Kd.fresh' (Kd.N_lt au3_4) k_ hk_.2.1), (Kd.fresh' (Kd.R_lt (rk_ HO495)) k_ hk_.2.1), (Kd.freshB (g := gb422) (o := .cells #[.string a0_0, .string a0_1, .int .i64 a0_2, .slice (some ad446) l0_3.length c0_3] 29 (0, 0)) (bk_ BK422) k_ hk_.2.1), (Kd.freshB (g := gb447) (o := .cells #[.int .i64 ((rd_T83 l0_3 x21_1).f0), .int .i64 ((rd_T83 l0_3 x21_1).f1), .slice (some ad472) ((rd_T83 l0_3 x21_1).f2).length c446_2] 83 (0, 0)) (bk_ BK447) k_ hk_.2.1), (Kd.freshB (g := gb473) (o := .cells #[.int .i64 ((rd_T85 ((rd_T83 l0_3 x21_1).f2) x39_2).f0), .slice A472_1 ((rd_T85 ((rd_T83 l0_3 x21_1).f2) x39_2).f1).length c472_1] 85 (0, 0)) (bk_ BK473) k_ hk_.2.1)⟩)) (below_size bl_))
     replace HO477 := am_ (Kd.R_below (rk_ HO477) hb)
     replace HO487 := am_ (Kd.N_elder' au3_9 (Kd.S_base ho0) hb)
     replace HO490 := am_ (Kd.N_elder' au3_4 (Kd.S_base ho0) hb)
     replace HO495 := am_ (Kd.R_below (rk_ HO495) hb)
     replace BK422 := bb_ BK422 hb
     replace BK447 := bb_ BK447 hb
     replace BK473 := bb_ BK473 hb
     replace HB := hs_ w hb
     (try clear hb)
     (try clear hb2)
     (try clear hk)
     (try clear hi)
     (try clear ho0)
     obtain ⟨Ao71, co71, eo71⟩ := Kd.N_slice HO499.out
     (first | subst eo71 | (injection eo71 with f1_ f2_ f3_; have f4_ := f1_.symm; have f5_ := f3_.symm; clear f1_ f2_ f3_; subst f4_; subst f5_))
     refine hK.out _ _ ⟨(blk_cell BK473.out 0).trans rfl, (blk_cell BK473.out 1).trans rfl⟩ (fun hHeld => ?_)
     clear hK K
     refine no_ 65 ?_
     refine one_ (i := 10) (N := some 66) (bs 13 2047) rfl rfl (one_of HT_.out (by kernel_rfl)) (by decide) (fun K hK => ?_)
     refine value_ (w1 := ?_) (v := ?_) (by rfl) rfl ?_ ?_
     rotate_left 2
     ·go_simp
      constructor
      ·rfl
      ·rfl
     refine hK.out _ _ ⟨(blk_cell (blk_alloc BK473.out _) 0).trans rfl, (blk_cell (blk_alloc BK473.out _) 1).trans rfl⟩ (fun hHeld => ?_)
     clear hK K
     refine no_ 66 ?_
     refine one_ (i := 11) (N := some 67) (bs 13 4095) rfl rfl (one_of HT_.out (by kernel_rfl)) (by decide) (fun K hK => ?_)
     refine Kd.N_append_step k52 (w0 := w) w.heap.size (by rfl) (.tmp 56) (.tmp 66) 38 52 (.agg #[(.string ⟨#[]⟩), (.slice none 0 0)]) 40 rfl Tryd.underlying38 info52 rfl (by decide) (by omega) v489 y488 (⟨t496, t497⟩ : S52) [.string t496, .slice Ao71 t497.length co71] (fun k_ => (w.heap.size ≤ k_) ∧ some k_ ≠ (.slice Ao55 y475.length co55 : Value).ownBlock ∧ some k_ ≠ (.slice Ao68 y493.length co68 : Value).ownBlock ∧ k_ ≠ gb422 ∧ k_ ≠ gb447 ∧ k_ ≠ gb473) (fun k_ => ((fun k_ => (w.heap.size ≤ k_) ∧ some k_ ≠ (.slice Ao55 y475.length co55 : Value).ownBlock ∧ some k_ ≠ (.slice Ao68 y493.length co68 : Value).ownBlock ∧ k_ ≠ gb422 ∧ k_ ≠ gb447 ∧ k_ ≠ gb473)) k_ ∧ some k_ ≠ (v489 : Value).ownBlock) rfl rfl ?aP (fun _ hk => hk) ?aF ?aO ?aB ?aS ?aL ?_
     (case aP => exact (k52_mkF _ _ (⟨t496, t497⟩ : S52) (Kd.N_reads' (Kd.N_mono (ok' := (fun k_ => ((fun k_ => (w.heap.size ≤ k_) ∧ some k_ ≠ (.slice Ao55 y475.length co55 : Value).ownBlock ∧ some k_ ≠ (.slice Ao68 y493.length co68 : Value).ownBlock ∧ k_ ≠ gb422 ∧ k_ ≠ gb447 ∧ k_ ≠ gb473)) k_ ∧ some k_ ≠ (v489 : Value).ownBlock)) (HO499.out) (fun k_ hk => ⟨⟨hk.1, ⟨hk.2.1, ⟨hk.2.2.2.2.1, ⟨hk.2.2.2.2.2.1, ⟨hk.2.2.2.2.2.2.1, hk.2.2.2.2.2.2.2⟩⟩⟩⟩⟩, hk.2.2.2.1⟩))).2.1 (Kd.N_F (Kd.N_mono (ok' := (fun k_ => ((fun k_ => (w.heap.size ≤ k_) ∧ some k_ ≠ (.slice Ao55 y475.length co55 : Value).ownBlock ∧ some k_ ≠ (.slice Ao68 y493.length co68 : Value).ownBlock ∧ k_ ≠ gb422 ∧ k_ ≠ gb447 ∧ k_ ≠ gb473)) k_ ∧ some k_ ≠ (v489 : Value).ownBlock)) (HO499.out) (fun k_ hk => ⟨⟨hk.1, ⟨hk.2.1, ⟨hk.2.2.2.2.1, ⟨hk.2.2.2.2.2.1, ⟨hk.2.2.2.2.2.2.1, hk.2.2.2.2.2.2.2⟩⟩⟩⟩⟩, hk.2.2.2.1⟩)))))
     (case aB => exact bl_)
     (case aF => exact (fun k_ hk => ⟨(Nat.le_trans (below_size bl_) hk), Kd.fresh' (Kd.R_lt (rk_ HO477)) k_ hk, Kd.fresh' (Kd.R_lt (rk_ HO495)) k_ hk, Kd.freshB (g := gb422) (o := .cells #[.string a0_0, .string a0_1, .int .i64 a0_2, .slice (some ad446) l0_3.length c0_3] 29 (0, 0)) (bk_ BK422) k_ hk, Kd.freshB (g := gb447) (o := .cells #[.int .i64 ((rd_T83 l0_3 x21_1).f0), .int .i64 ((rd_T83 l0_3 x21_1).f1), .slice (some ad472) ((rd_T83 l0_3 x21_1).f2).length c446_2] 83 (0, 0)) (bk_ BK447) k_ hk, Kd.freshB (g := gb473) (o := .cells #[.int .i64 ((rd_T85 ((rd_T83 l0_3 x21_1).f2) x39_2).f0), .slice A472_1 ((rd_T85 ((rd_T83 l0_3 x21_1).f2) x39_2).f1).length c472_1] 85 (0, 0)) (bk_ BK473) k_ hk⟩))
     (case aO => exact (by (with_reducible repeat (first | apply Kd.N_alloc | apply Kd.N_drewN | apply Kd.N_drew)); exact Kd.N_mono HO490.out (fun _ hk => ⟨hk.1.1.1, ⟨hk.1.1.2.1, ⟨hk.1.2, ⟨hk.1.1.2.2.1, ⟨hk.1.1.2.2.2.1, hk.1.1.2.2.2.2⟩⟩⟩⟩⟩)))
     (case aS => exact (below_size bl_))
     (case aL => have := LMc47.out; omega)
     intro v501 w70 ho hb hg hat
     rw [← Ny500.out] at ho
     have n0_ := am_ (bg_ BK422 hg (Kd.N_ne HO490.out BK422.out (by decide)))
     have n1_ := am_ (bg_ BK447 hg (Kd.N_ne HO490.out BK447.out (by decide)))
     have n2_ := am_ (bg_ BK473 hg (Kd.N_ne HO490.out BK473.out (by decide)))
     have n3_ := am_ (Kd.R_over' (rk_ HO477) (Kd.N_typed au3_4) (by decide) hg)
     have n4_ := am_ (Kd.N_afterv (ok := (fun k_ => (w.heap.size ≤ k_) ∧ some k_ ≠ (.slice Ao55 y475.length co55 : Value).ownBlock ∧ some k_ ≠ (.slice Ao68 y493.length co68 : Value).ownBlock ∧ some k_ ≠ (.slice Ao71 t497.length co71 : Value).ownBlock ∧ k_ ≠ gb422 ∧ k_ ≠ gb447 ∧ k_ ≠ gb473)) (by (with_reducible repeat (first | apply Kd.N_alloc | apply Kd.N_drewN | apply Kd.N_drew)); exact Kd.N_mono HO487.out (fun _ hk => ⟨⟨hk.1.1.1.1, ⟨hk.1.1.1.2.1, ⟨hk.1.2, ⟨hk.2, ⟨hk.1.1.1.2.2.1, ⟨hk.1.1.1.2.2.2.1, hk.1.1.1.2.2.2.2⟩⟩⟩⟩⟩⟩, hk.1.1.2⟩)) hg hat)
     have n5_ := am_ (Kd.R_over' (rk_ HO495) (Kd.N_typed au3_4) (by decide) hg)
     have n6_ := am_ (hb)
     have n7_ := am_ (ho)
     clear BK422
     clear BK447
     clear BK473
     clear HO477
     clear HO487
     clear HO495
     clear HB
     clear HO490
     clear HO499
     have BK422 := n0_
     have BK447 := n1_
     have BK473 := n2_
     have HO477 := n3_
     have HO487 := n4_
     have HO495 := n5_
     have HB := n6_
     have HO502 := n7_
     clear n0_ n1_ n2_ n3_ n4_ n5_ n6_ n7_
     clear ho hb hg hat
     refine hK.out _ _ ⟨(blk_cell BK473.out 0).trans rfl, (blk_cell BK473.out 1).trans rfl⟩ (fun hHeld => ?_)
     clear hK K
     refine no_ 67 ?_
     refine pu_ 12 3 (bs 13 8191) HT_ ?_ rfl rfl
     refine done_ (done_of HT_.out (by kernel_rfl)) ?_
     try go_wp2
     go_roundg k2
     case measure => have := HK1.out; have := HK2.out; omega
     case rel => exact ⟨(y500), (wrap64 (x39_2 + 1)), er_, H', ⟨by have := HK1.out; have := HK2.out; omega⟩, ⟨by (with_reducible repeat (first | apply Kd.N_alloc | apply Kd.N_drewN | apply Kd.N_drew)); exact Kd.N_mono HO502.out (fun _ hk => ⟨hk.1, ⟨hk.2.2.2.1, hk.2.2.2.2.1⟩⟩)⟩, ⟨bk_ BK422⟩, ⟨bk_ BK447⟩, ⟨bl_⟩⟩
/-! ### F27: function 27 -/
def F27.f (k : Nat) (a0_0 : ByteArray) (a0_1 : ByteArray) (a0_2 : Int) (l0_3 : List (S83)) : Option ((List (S52))) := (F55.f k a0_0 a0_1 a0_2 l0_3).bind fun t504 => (if t504 = true then ((F56.f k a0_0 a0_1 a0_2 l0_3).bind fun t505 => (some t505)) else (some ([] : List (S52))))
theorem F27.mono : ∀ a0 a1 a2 a3 k, LeO (F27.f k a0 a1 a2 a3) (F27.f (k + 1) a0 a1 a2 a3) := by
 intro a0 a1 a2 a3 k
 unfold F27.f
 repeat' with_reducible first | exact F55.mono _ _ _ _ _ | exact F56.mono _ _ _ _ _ | exact LeO.refl _ | exact LeO.none _ | refine LeO.ite ?_ ?_ | refine LeO.bind ?_ (fun _ => ?_)
theorem F27.calls (k : Nat) (a0_0 : ByteArray) (a0_1 : ByteArray) (a0_2 : Int) (A0_3 : Option Addr) (c0_3 : Nat) (l0_3 : List (S83)) (r : List (S52)) (w : World) (hr0_3 : Kd.C k83 w A0_3 l0_3.length l0_3) (hc0_3 : l0_3.length ≤ c0_3) (hT : LaidT false Tryd.prog w) (h : F27.f k a0_0 a0_1 a0_2 l0_3 = some r) :
  Calls Tryd.prog 27 #[.agg #[.string a0_0, .string a0_1, .int .i64 a0_2, .slice A0_3 l0_3.length c0_3]] w fun e w' => ∃ v0_ : Value, e = .returned (v0_) ∧ Kd.N k52 52 w' w.heap.size (fun k_ => (w.heap.size ≤ k_)) v0_ r ∧ Below w.heap.size w w' := by
 have hu29 := Tryd.underlying29
 have HR0_3 := am_ hr0_3
 have HC0_3 := am_ hc0_3
 clear hr0_3 hc0_3
 have HZT := am_ hT
 clear hT
 have HB := am_ (Below.refl w.heap.size w)
 have H : ((F55.f k a0_0 a0_1 a0_2 l0_3).bind fun t504 => (if t504 = true then ((F56.f k a0_0 a0_1 a0_2 l0_3).bind fun t505 => (some t505)) else (some ([] : List (S52))))) = some r := h
 clear h
 replace H := bi_ H; rcases H with ⟨t504, A2, H⟩
 replace H := ib_ H; rcases H with ⟨rfl, H⟩ | ⟨rfl, H⟩
 rotate_left
 ·obtain rfl := Option.some.inj H
  go_enter Tryd.func27, Tryd.ntmps27
  go_wp2_with (first | ((with_reducible refine gate_dst (N := 1) rfl ?_); refine be_ 1 #[.string a0_0, .string a0_1, .int .i64 a0_2, .slice A0_3 l0_3.length c0_3] 29 ?_; intro gb503 hg w10 hbox hb; have BK503 := am_ (hbox); have GW503 := am_ (gw_ hg bl_); have GE503 := GW503; replace HB := hs_ w hb; clear hb hbox hg; obtain ⟨hcz11_0, hcz11_1, hcz11_2, hcz11_3, hfz11_0, hfz11_1, hfz11_2, hfz11_3⟩ := cellsF4 BK503.out) | ((with_reducible refine gate_callee (f := 55) rfl ?_); refine gl_ 4 Tryd.func55 #[.agg #[.string a0_0, .string a0_1, .int .i64 a0_2, .slice A0_3 l0_3.length c0_3]] ?_ rfl rfl rfl rfl; (with_reducible refine (F55.calls k a0_0 a0_1 a0_2 _ _ l0_3 false _ ?s1 ?s2 A2.out).mono ?_); (case s1 => exact au3_6); (case s2 => exact HC0_3.out); rintro e w12 ⟨rfl, hb⟩; refine ⟨_, rfl, ?_⟩; replace BK503 := bb_ BK503 hb; replace HB := hs_ w hb; (try clear hb)))
  go_ret
  exact ⟨_, au3_1, by first | exact Kd.R_nil _ _ _ _ _ | exact Kd.N_nil _ _ _ _ _ | exact Kd.V_nil _ _ _ _ _ | exact Kd.Q_nil _ _ _ _ _ | exact Kd.S_nil _ _ _ _ _, bl_⟩

 replace H := bi_ H; rcases H with ⟨t505, A4, H⟩
 obtain rfl := Option.some.inj H
 go_enter Tryd.func27, Tryd.ntmps27
 go_wp2_with (first | ((with_reducible refine gate_dst (N := 1) rfl ?_); refine be_ 1 #[.string a0_0, .string a0_1, .int .i64 a0_2, .slice A0_3 l0_3.length c0_3] 29 ?_; intro gb503 hg w5 hbox hb; have BK503 := am_ (hbox); have GW503 := am_ (gw_ hg bl_); have GE503 := GW503; replace HB := hs_ w hb; clear hb hbox hg; obtain ⟨hcz6_0, hcz6_1, hcz6_2, hcz6_3, hfz6_0, hfz6_1, hfz6_2, hfz6_3⟩ := cellsF4 BK503.out) | ((with_reducible refine gate_callee (f := 55) rfl ?_); refine gl_ 4 Tryd.func55 #[.agg #[.string a0_0, .string a0_1, .int .i64 a0_2, .slice A0_3 l0_3.length c0_3]] ?_ rfl rfl rfl rfl; (with_reducible refine (F55.calls k a0_0 a0_1 a0_2 _ _ l0_3 true _ ?s1 ?s2 A2.out).mono ?_); (case s1 => exact au3_6); (case s2 => exact HC0_3.out); rintro e w7 ⟨rfl, hb⟩; refine ⟨_, rfl, ?_⟩; replace BK503 := bb_ BK503 hb; replace HB := hs_ w hb; (try clear hb); obtain ⟨hcz8_0, hcz8_1, hcz8_2, hcz8_3, hfz8_0, hfz8_1, hfz8_2, hfz8_3⟩ := cellsF4 BK503.out) | ((with_reducible refine gate_callee (f := 56) rfl ?_); refine gl_ 7 Tryd.func56 #[.agg #[.string a0_0, .string a0_1, .int .i64 a0_2, .slice A0_3 l0_3.length c0_3]] ?_ rfl rfl rfl rfl; (with_reducible refine (F56.calls k a0_0 a0_1 a0_2 _ _ l0_3 t505 _ ?s1 ?s2 ?s3 A4.out).mono ?_); (case s1 => exact au3_6); (case s2 => exact HC0_3.out); (case s3 => exact au3_2); rintro e w9 ⟨v506, rfl, ho0, hb⟩; refine ⟨_, rfl, ?_⟩; have HO507 := am_ (Kd.N_lower (Kd.N_mono (ok' := fun k_ => (w.heap.size ≤ k_) ∧ k_ ≠ gb503) ho0 (fun k_ hk_ => ⟨(Nat.le_trans (below_size bl_) hk_), (Kd.freshB (g := gb503) (o := .cells #[.string a0_0, .string a0_1, .int .i64 a0_2, .slice A0_3 l0_3.length c0_3] 29 (0, 0)) (bk_ BK503) k_ hk_)⟩)) (below_size bl_)); replace BK503 := bb_ BK503 hb; replace HB := hs_ w hb; (try clear hb); (try clear ho0)))
 go_ret
 exact ⟨_, au3_1, by (with_reducible repeat (first | apply Kd.N_alloc | apply Kd.N_drewN | apply Kd.N_drew)); exact Kd.N_mono HO507.out (fun _ hk => hk.1), bl_⟩
/-! ### F9: function 9 -/
def F9.f (k : Nat) (a0_0 : ByteArray) (a0_1 : ByteArray) (a0_2 : Int) (l0_3 : List (S83)) : Option (Int) := (F27.f k a0_0 a0_1 a0_2 l0_3).bind fun t509 => (some (t509.length : Int))
theorem F9.mono : ∀ a0 a1 a2 a3 k, LeO (F9.f k a0 a1 a2 a3) (F9.f (k + 1) a0 a1 a2 a3) := by
 intro a0 a1 a2 a3 k
 unfold F9.f
 repeat' with_reducible first | exact F27.mono _ _ _ _ _ | exact LeO.refl _ | exact LeO.none _ | refine LeO.ite ?_ ?_ | refine LeO.bind ?_ (fun _ => ?_)
theorem F9.calls (k : Nat) (a0_0 : ByteArray) (a0_1 : ByteArray) (a0_2 : Int) (A0_3 : Option Addr) (c0_3 : Nat) (l0_3 : List (S83)) (r : Int) (w : World) (hr0_3 : Kd.C k83 w A0_3 l0_3.length l0_3) (hc0_3 : l0_3.length ≤ c0_3) (hT : LaidT false Tryd.prog w) (h : F9.f k a0_0 a0_1 a0_2 l0_3 = some r) :
  Calls Tryd.prog 9 #[.agg #[.string a0_0, .string a0_1, .int .i64 a0_2, .slice A0_3 l0_3.length c0_3]] w fun e w' => e = .returned (.int .i64 r) ∧ Below w.heap.size w w' := by
 have hu29 := Tryd.underlying29
 have HR0_3 := am_ hr0_3
 have HC0_3 := am_ hc0_3
 clear hr0_3 hc0_3
 have HZT := am_ hT
 clear hT
 have HB := am_ (Below.refl w.heap.size w)
 have H : ((F27.f k a0_0 a0_1 a0_2 l0_3).bind fun t509 => (some (t509.length : Int))) = some r := h
 clear h
 replace H := bi_ H; rcases H with ⟨t509, A2, H⟩
 obtain rfl := Option.some.inj H
 go_enter Tryd.func9, Tryd.ntmps9
 go_wp2_with (first | ((with_reducible refine gate_dst (N := 1) rfl ?_); refine be_ 1 #[.string a0_0, .string a0_1, .int .i64 a0_2, .slice A0_3 l0_3.length c0_3] 29 ?_; intro gb508 hg w3 hbox hb; have BK508 := am_ (hbox); have GW508 := am_ (gw_ hg bl_); have GE508 := GW508; replace HB := hs_ w hb; clear hb hbox hg; obtain ⟨hcz4_0, hcz4_1, hcz4_2, hcz4_3, hfz4_0, hfz4_1, hfz4_2, hfz4_3⟩ := cellsF4 BK508.out) | ((with_reducible refine gate_callee (f := 27) rfl ?_); refine gl_ 4 Tryd.func27 #[.agg #[.string a0_0, .string a0_1, .int .i64 a0_2, .slice A0_3 l0_3.length c0_3]] ?_ rfl rfl rfl rfl; (with_reducible refine (F27.calls k a0_0 a0_1 a0_2 _ _ l0_3 t509 _ ?s1 ?s2 ?s3 A2.out).mono ?_); (case s1 => exact au3_6); (case s2 => exact HC0_3.out); (case s3 => exact au3_2); rintro e w5 ⟨v510, rfl, ho0, hb⟩; refine ⟨_, rfl, ?_⟩; have HO511 := am_ (Kd.N_lower (Kd.N_mono (ok' := fun k_ => k_ ≠ gb508) ho0 (fun k_ hk_ => (Kd.freshB (g := gb508) (o := .cells #[.string a0_0, .string a0_1, .int .i64 a0_2, .slice A0_3 l0_3.length c0_3] 29 (0, 0)) (bk_ BK508) k_ hk_))) (below_size bl_)); replace BK508 := bb_ BK508 hb; replace HB := hs_ w hb; (try clear hb); (try clear ho0); obtain ⟨Ao6, co6, eo6⟩ := Kd.N_slice HO511.out; subst eo6))
 go_ret
 exact ⟨au3_1, bl_⟩

/-! ### F119: function 119 -/
def F119.l0 : Nat → List ByteArray → List ByteArray → Int → Option (Bool)
  | 0, _, _, _ => none
  | k + 1, x0, x1, x5 => if x5 < (x0.length : Int) then (if 0 ≤ x5 then (if x5 < (x1.length : Int) then (if (rdOf ByteArray.empty x0 x5).toList = (rdOf ByteArray.empty x1 x5).toList then (F119.l0 k x0 x1 (wrap64 (x5 + 1))) else (some false)) else (none)) else (none)) else (some true)
def F119.f (k : Nat) (l0 : List ByteArray) (l1 : List ByteArray) : Option (Bool) := if (l0.length : Int) = (l1.length : Int) then (F119.l0 k l0 l1 0) else (some false)
theorem F119.mono_l : ∀ k, (∀ y0 y1 y2, LeO (F119.l0 k y0 y1 y2) (F119.l0 (k + 1) y0 y1 y2))
 | 0 => fun _ _ _ r h => by simp [F119.l0] at h
 | k + 1 => by
  have ih0 := F119.mono_l k
  intro y0 y1 y2
  unfold F119.l0
  repeat' with_reducible first | exact ih0 _ _ _ | exact LeO.refl _ | exact LeO.none _ | refine LeO.ite ?_ ?_ | refine LeO.bind ?_ (fun _ => ?_)
theorem F119.mono : ∀ a0 a1 k, LeO (F119.f k a0 a1) (F119.f (k + 1) a0 a1) := by
 intro a0 a1 k
 have ih0 := F119.mono_l k
 unfold F119.f
 repeat' with_reducible first | exact ih0 _ _ _ | exact LeO.refl _ | exact LeO.none _ | refine LeO.ite ?_ ?_ | refine LeO.bind ?_ (fun _ => ?_)
theorem F119.calls (k : Nat) (A0 : Option Addr) (c0 : Nat) (l0 : List ByteArray) (A1 : Option Addr) (c1 : Nat) (l1 : List ByteArray) (r : Bool) (w : World) (hr0 : Kd.C Kd.string w A0 l0.length l0) (hc0 : l0.length ≤ c0) (hr1 : Kd.C Kd.string w A1 l1.length l1) (hc1 : l1.length ≤ c1) (h : F119.f k l0 l1 = some r) :
  Calls Tryd.prog 119 #[.slice A0 l0.length c0, .slice A1 l1.length c1] w fun e w' => e = .returned (.bool r) ∧ Drawn0 w w' := by
 have HR0 := am_ hr0
 have HC0 := am_ hc0
 clear hr0 hc0
 have HR1 := am_ hr1
 have HC1 := am_ hc1
 clear hr1 hc1
 have H : (if (l0.length : Int) = (l1.length : Int) then (F119.l0 k l0 l1 0) else (some false)) = some r := h
 clear h
 by_cases c3 : (l0.length : Int) = (l1.length : Int)
 rotate_left
 ·rw [if_neg c3] at H
  have c3b0 : ((l0.length : Int) == (l1.length : Int)) = false := beq_eq_false_iff_ne.mpr c3
  have c3b1 : ((l0.length : Int) != (l1.length : Int)) = true := bne_iff_ne.mpr c3
  have c3b2 : (l0.length == l1.length) = false := by first | simpa using c3 | (simp at c3 ⊢; omega)
  obtain rfl := Option.some.inj H
  go_enter Tryd.func119, Tryd.ntmps119
  go_wp2
  repeat (go_quiet (fail); try go_wp2)
  go_ret
  exact ⟨er_, dn_⟩

 rw [if_pos c3] at H
 have c3b0 : ((l0.length : Int) == (l1.length : Int)) = true := beq_iff_eq.mpr c3
 have c3b1 : ((l0.length : Int) != (l1.length : Int)) = false := bne_eq_false_iff_eq.mpr c3
 have c3b2 : (l0.length == l1.length) = true := by first | simpa using c3 | (simp at c3 ⊢; omega)
 clear c3
 have H' := am_ H
 clear H
 go_enter Tryd.func119, Tryd.ntmps119
 go_wp2
 repeat (go_quiet (fail); try go_wp2)
 go_loopg [5] k (fun kq v5 w' => ∃ (x5_1 : Int), v5 = .int .i64 x5_1 ∧ Aside0 (F119.l0 kq l0 l1 x5_1 = some r) ∧ Aside0 (kq ≤ k) ∧ Drawn0 w w')
 case atStart => exact ⟨(0), er_, H', ⟨Nat.le_refl _⟩, dn_⟩
 case round =>
  clear H'
  try clear c1
  try clear c3
  try clear c3b0
  try clear c3b1
  try clear c3b2
  obtain ⟨x5_1, rfl, HA, HK1, ⟨m1, rfl⟩⟩ := hrel
  cases gk with
  | zero => exact absurd HA.out (by simp [F119.l0])
  | succ k1 =>
   have H := HA.out
   clear HA
   simp only [F119.l0] at H
   replace H := it_ H; rcases H with ⟨c4b0, H⟩ | ⟨c4b0, H⟩
   rotate_left
   ·obtain rfl := Option.some.inj H
    go_wp2
    repeat (go_quiet (fail); try go_wp2)
    go_ret
    exact ⟨er_, dn_⟩
   replace H := itn_ H; rcases H with ⟨c5b0, H⟩
   replace H := itn_ H; rcases H with ⟨c6b0, H⟩
   by_cases c7 : (rdOf ByteArray.empty l0 x5_1).toList = (rdOf ByteArray.empty l1 x5_1).toList
   rotate_left
   ·rw [if_neg c7] at H
    have c7b0 : ((rdOf ByteArray.empty l0 x5_1).toList == (rdOf ByteArray.empty l1 x5_1).toList) = false := beq_eq_false_iff_ne.mpr c7
    have c7b1 : ((rdOf ByteArray.empty l0 x5_1).toList != (rdOf ByteArray.empty l1 x5_1).toList) = true := bne_iff_ne.mpr c7
    obtain rfl := Option.some.inj H
    have p512 : 0 ≤ (x5_1 : Int) := od_
    have q512 : x5_1 < (l0.length : Int) := od_
    obtain ⟨ad512, e512, hx512_0⟩ := Kd.at_string HR0.out x5_1 p512 q512
    cases e512
    replace p512 := eq_true p512
    replace q512 := eq_true q512
    have p513 : 0 ≤ (x5_1 : Int) := od_
    have q513 : x5_1 < (l1.length : Int) := od_
    obtain ⟨ad513, e513, hx513_0⟩ := Kd.at_string HR1.out x5_1 p513 q513
    cases e513
    replace p513 := eq_true p513
    replace q513 := eq_true q513
    go_wp2
    repeat (go_quiet (fail); try go_wp2)
    go_ret
    exact ⟨er_, dn_⟩
   rw [if_pos c7] at H
   have c7b0 : ((rdOf ByteArray.empty l0 x5_1).toList == (rdOf ByteArray.empty l1 x5_1).toList) = true := beq_iff_eq.mpr c7
   have c7b1 : ((rdOf ByteArray.empty l0 x5_1).toList != (rdOf ByteArray.empty l1 x5_1).toList) = false := bne_eq_false_iff_eq.mpr c7
   clear c7
   have H' := am_ H
   clear H
   have p512 : 0 ≤ (x5_1 : Int) := od_
   have q512 : x5_1 < (l0.length : Int) := od_
   obtain ⟨ad512, e512, hx512_0⟩ := Kd.at_string HR0.out x5_1 p512 q512
   cases e512
   replace p512 := eq_true p512
   replace q512 := eq_true q512
   have p513 : 0 ≤ (x5_1 : Int) := od_
   have q513 : x5_1 < (l1.length : Int) := od_
   obtain ⟨ad513, e513, hx513_0⟩ := Kd.at_string HR1.out x5_1 p513 q513
   cases e513
   replace p513 := eq_true p513
   replace q513 := eq_true q513
   go_wp2
   repeat (go_quiet (fail); try go_wp2)
   go_roundg k1
   case measure => have := HK1.out; omega
   case rel => exact ⟨(wrap64 (x5_1 + 1)), er_, H', ⟨by have := HK1.out; omega⟩, dn_⟩
/-! ### F97: function 97 -/
def F97.f (k : Nat) (l0_0 : List ByteArray) (l1_0 : List ByteArray) : Option (Bool) := (F119.f k l0_0 l1_0).bind fun t516 => (if t516 = true then (some true) else (some false))
theorem F97.mono : ∀ a0 a1 k, LeO (F97.f k a0 a1) (F97.f (k + 1) a0 a1) := by
 intro a0 a1 k
 unfold F97.f
 repeat' with_reducible first | exact F119.mono _ _ _ | exact LeO.refl _ | exact LeO.none _ | refine LeO.ite ?_ ?_ | refine LeO.bind ?_ (fun _ => ?_)
theorem F97.calls (k : Nat) (A0_0 : Option Addr) (c0_0 : Nat) (l0_0 : List ByteArray) (A1_0 : Option Addr) (c1_0 : Nat) (l1_0 : List ByteArray) (r : Bool) (w : World) (hr0_0 : Kd.C Kd.string w A0_0 l0_0.length l0_0) (hc0_0 : l0_0.length ≤ c0_0) (hr1_0 : Kd.C Kd.string w A1_0 l1_0.length l1_0) (hc1_0 : l1_0.length ≤ c1_0) (h : F97.f k l0_0 l1_0 = some r) :
  Calls Tryd.prog 97 #[.agg #[.slice A0_0 l0_0.length c0_0], .agg #[.slice A1_0 l1_0.length c1_0]] w fun e w' => e = .returned (.bool r) ∧ Below w.heap.size w w' := by
 have hu55 := Tryd.underlying55
 have HR0_0 := am_ hr0_0
 have HC0_0 := am_ hc0_0
 clear hr0_0 hc0_0
 have HR1_0 := am_ hr1_0
 have HC1_0 := am_ hc1_0
 clear hr1_0 hc1_0
 have HB := am_ (Below.refl w.heap.size w)
 have H : ((F119.f k l0_0 l1_0).bind fun t516 => (if t516 = true then (some true) else (some false))) = some r := h
 clear h
 replace H := bi_ H; rcases H with ⟨t516, A3, H⟩
 replace H := ib_ H; rcases H with ⟨rfl, H⟩ | ⟨rfl, H⟩
 ·obtain rfl := Option.some.inj H
  go_enter Tryd.func97, Tryd.ntmps97
  go_wp2_with (first | ((with_reducible refine gate_dst (N := 2) rfl ?_); refine be_ 2 #[.slice A0_0 l0_0.length c0_0] 55 ?_; intro gb514 hg w5 hbox hb; have BK514 := am_ (hbox); have GW514 := am_ (gw_ hg bl_); have GE514 := GW514; replace HB := hs_ w hb; clear hb hbox hg) | ((with_reducible refine gate_dst (N := 3) rfl ?_); refine be_ 3 #[.slice A1_0 l1_0.length c1_0] 55 ?_; intro gb515 hg w6 hbox hb; have BK515 := am_ (hbox); have GW515 := am_ (gw_ hg bl_); have GE515 := GW515; replace HB := hs_ w hb; have NB514_515 := am_ (gn_ hg (blkl_ BK514)); have NB515_514 := am_ (gm_ hg (blkl_ BK514)); replace BK514 := bb_ BK514 hb; clear hb hbox hg; have hnb7 := NB514_515.out; have hnc7 := NB515_514.out; have hcz8_0 : w6.cell? ⟨gb514, 0, none⟩ = some (.slice A0_0 l0_0.length c0_0) := (blk_cell BK514.out 0).trans rfl; have hfz8_0 := blk_frozen BK514.out 0; have hcz9_0 : w6.cell? ⟨gb515, 0, none⟩ = some (.slice A1_0 l1_0.length c1_0) := (blk_cell BK515.out 0).trans rfl; have hfz9_0 := blk_frozen BK515.out 0) | ((with_reducible refine gate_callee (f := 119) rfl ?_); refine gl_ 9 Tryd.func119 #[.slice A0_0 l0_0.length c0_0, .slice A1_0 l1_0.length c1_0] ?_ rfl rfl rfl rfl; (with_reducible refine (F119.calls k _ _ l0_0 _ _ l1_0 true _ ?s1 ?s2 ?s3 ?s4 A3.out).mono ?_); (case s1 => exact au3_20); (case s2 => exact HC0_0.out); (case s3 => exact au3_21); (case s4 => exact HC1_0.out); rintro e w' ⟨rfl, ⟨nd, rfl⟩⟩; refine ⟨_, rfl, ?_⟩))
  go_ret
  exact ⟨au3_1, bl_⟩
 obtain rfl := Option.some.inj H
 go_enter Tryd.func97, Tryd.ntmps97
 go_wp2_with (first | ((with_reducible refine gate_dst (N := 2) rfl ?_); refine be_ 2 #[.slice A0_0 l0_0.length c0_0] 55 ?_; intro gb514 hg w10 hbox hb; have BK514 := am_ (hbox); have GW514 := am_ (gw_ hg bl_); have GE514 := GW514; replace HB := hs_ w hb; clear hb hbox hg) | ((with_reducible refine gate_dst (N := 3) rfl ?_); refine be_ 3 #[.slice A1_0 l1_0.length c1_0] 55 ?_; intro gb515 hg w11 hbox hb; have BK515 := am_ (hbox); have GW515 := am_ (gw_ hg bl_); have GE515 := GW515; replace HB := hs_ w hb; have NB514_515 := am_ (gn_ hg (blkl_ BK514)); have NB515_514 := am_ (gm_ hg (blkl_ BK514)); replace BK514 := bb_ BK514 hb; clear hb hbox hg; have hnb12 := NB514_515.out; have hnc12 := NB515_514.out; have hcz13_0 : w11.cell? ⟨gb514, 0, none⟩ = some (.slice A0_0 l0_0.length c0_0) := (blk_cell BK514.out 0).trans rfl; have hfz13_0 := blk_frozen BK514.out 0; have hcz14_0 : w11.cell? ⟨gb515, 0, none⟩ = some (.slice A1_0 l1_0.length c1_0) := (blk_cell BK515.out 0).trans rfl; have hfz14_0 := blk_frozen BK515.out 0) | ((with_reducible refine gate_callee (f := 119) rfl ?_); refine gl_ 9 Tryd.func119 #[.slice A0_0 l0_0.length c0_0, .slice A1_0 l1_0.length c1_0] ?_ rfl rfl rfl rfl; (with_reducible refine (F119.calls k _ _ l0_0 _ _ l1_0 false _ ?s1 ?s2 ?s3 ?s4 A3.out).mono ?_); (case s1 => exact au3_20); (case s2 => exact HC0_0.out); (case s3 => exact au3_21); (case s4 => exact HC1_0.out); rintro e w' ⟨rfl, ⟨nd, rfl⟩⟩; refine ⟨_, rfl, ?_⟩))
 go_ret
 exact ⟨au3_1, bl_⟩

/-! ### F63: function 63 -/
def F63.l0 : Nat → List (S55) → List (S55) → Int → Option (Bool)
  | 0, _, _, _ => none
  | k + 1, x0, x1, x5 => if x5 < (x0.length : Int) then (if 0 ≤ x5 then (if x5 < (x1.length : Int) then ((F97.f k ((rd_T55 x0 x5).f0) ((rd_T55 x1 x5).f0)).bind fun t519 => (if t519 = true then (F63.l0 k x0 x1 (wrap64 (x5 + 1))) else (some false))) else (none)) else (none)) else (some true)
def F63.f (k : Nat) (l0 : List (S55)) (l1 : List (S55)) : Option (Bool) := if (l0.length : Int) = (l1.length : Int) then (F63.l0 k l0 l1 0) else (some false)
theorem F63.mono_l : ∀ k, (∀ y0 y1 y2, LeO (F63.l0 k y0 y1 y2) (F63.l0 (k + 1) y0 y1 y2))
 | 0 => fun _ _ _ r h => by simp [F63.l0] at h
 | k + 1 => by
  have ih0 := F63.mono_l k
  intro y0 y1 y2
  unfold F63.l0
  repeat' with_reducible first | exact ih0 _ _ _ | exact F97.mono _ _ _ | exact LeO.refl _ | exact LeO.none _ | refine LeO.ite ?_ ?_ | refine LeO.bind ?_ (fun _ => ?_)
theorem F63.mono : ∀ a0 a1 k, LeO (F63.f k a0 a1) (F63.f (k + 1) a0 a1) := by
 intro a0 a1 k
 have ih0 := F63.mono_l k
 unfold F63.f
 repeat' with_reducible first | exact ih0 _ _ _ | exact F97.mono _ _ _ | exact LeO.refl _ | exact LeO.none _ | refine LeO.ite ?_ ?_ | refine LeO.bind ?_ (fun _ => ?_)
def F63.T6 : Bool × List (List Nat × List Nat) := (true, [([], []), ([], []), ([0, 1], [0, 1]), ([2], [2]), ([], []), ([], []), ([4, 5], [4, 5]), ([6], [6]), ([3, 7], [3, 7]), ([8], [8])])
def F63.B6 : List Nat := [0, 0, 3, 7, 0, 0, 48, 112, 255, 511]
theorem F63.tab6 : rtab .any (opsOf Tryd.f63 6) = F63.T6 := by kernel_rfl
theorem F63.bits6 : waitsOk F63.T6.2 F63.B6 = true := by kernel_rfl
theorem F63.calls (k : Nat) (A0 : Option Addr) (c0 : Nat) (l0 : List (S55)) (A1 : Option Addr) (c1 : Nat) (l1 : List (S55)) (r : Bool) (w : World) (hr0 : Kd.C k55 w A0 l0.length l0) (hc0 : l0.length ≤ c0) (hr1 : Kd.C k55 w A1 l1.length l1) (hc1 : l1.length ≤ c1) (h : F63.f k l0 l1 = some r) :
  Calls Tryd.prog 63 #[.slice A0 l0.length c0, .slice A1 l1.length c1] w fun e w' => e = .returned (.bool r) ∧ Below w.heap.size w w' := by
 have hu55 := Tryd.underlying55
 have HR0 := am_ hr0
 have HC0 := am_ hc0
 clear hr0 hc0
 have HR1 := am_ hr1
 have HC1 := am_ hc1
 clear hr1 hc1
 have HB := am_ (Below.refl w.heap.size w)
 have H : (if (l0.length : Int) = (l1.length : Int) then (F63.l0 k l0 l1 0) else (some false)) = some r := h
 clear h
 by_cases c3 : (l0.length : Int) = (l1.length : Int)
 rotate_left
 ·rw [if_neg c3] at H
  have c3b0 : ((l0.length : Int) == (l1.length : Int)) = false := beq_eq_false_iff_ne.mpr c3
  have c3b1 : ((l0.length : Int) != (l1.length : Int)) = true := bne_iff_ne.mpr c3
  have c3b2 : (l0.length == l1.length) = false := by first | simpa using c3 | (simp at c3 ⊢; omega)
  obtain rfl := Option.some.inj H
  go_enter Tryd.func63, Tryd.ntmps63
  go_wp2
  go_ret
  exact ⟨au3_1, bl_⟩

 rw [if_pos c3] at H
 have c3b0 : ((l0.length : Int) == (l1.length : Int)) = true := beq_iff_eq.mpr c3
 have c3b1 : ((l0.length : Int) != (l1.length : Int)) = false := bne_eq_false_iff_eq.mpr c3
 have c3b2 : (l0.length == l1.length) = true := by first | simpa using c3 | (simp at c3 ⊢; omega)
 clear c3
 have H' := am_ H
 clear H
 go_enter Tryd.func63, Tryd.ntmps63
 go_wp2
 go_loopg [5] k (fun kq v5 w' => ∃ (x5_1 : Int), v5 = .int .i64 x5_1 ∧ Aside0 (F63.l0 kq l0 l1 x5_1 = some r) ∧ Aside0 (kq ≤ k) ∧ Aside0 (Below w.heap.size w w'))
 case atStart => exact ⟨(0), er_, H', ⟨Nat.le_refl _⟩, ⟨bl_⟩⟩
 case round =>
  clear H'
  try clear c1
  try clear c3
  try clear c3b0
  try clear c3b1
  try clear c3b2
  obtain ⟨x5_1, rfl, HA, HK1, HB⟩ := hrel
  cases gk with
  | zero => exact absurd HA.out (by simp [F63.l0])
  | succ k1 =>
   have H := HA.out
   clear HA
   simp only [F63.l0] at H
   replace H := it_ H; rcases H with ⟨c4b0, H⟩ | ⟨c4b0, H⟩
   rotate_left
   ·obtain rfl := Option.some.inj H
    go_wp2
    go_ret
    exact ⟨au3_1, bl_⟩
   replace H := itn_ H; rcases H with ⟨c5b0, H⟩
   replace H := itn_ H; rcases H with ⟨c6b0, H⟩
   replace H := bi_ H; rcases H with ⟨t519, A7, H⟩
   replace H := ib_ H; rcases H with ⟨rfl, H⟩ | ⟨rfl, H⟩
   rotate_left
   ·obtain rfl := Option.some.inj H
    try go_wp2
    replace HB := am_ (below_drew1 HB.out)
    have p517 : 0 ≤ (x5_1 : Int) := od_
    have q517 : x5_1 < (l0.length : Int) := od_
    obtain ⟨ad517, A517_0, c517_0, e517, hx517_0, hl517_0, hi517_0⟩ := at_T55 HR0.out x5_1 p517 q517
    have hw517_0 := hx517_0
    cases e517
    replace hx517_0 := (HB.out.cell (World.block_lt_of_cell? _ _ hx517_0)).trans hx517_0
    have HR517_0 := am_ hi517_0
    have HC517_0 := am_ hl517_0
    clear hi517_0 hl517_0
    replace p517 := eq_true p517
    replace q517 := eq_true q517
    have p518 : 0 ≤ (x5_1 : Int) := od_
    have q518 : x5_1 < (l1.length : Int) := od_
    obtain ⟨ad518, A518_0, c518_0, e518, hx518_0, hl518_0, hi518_0⟩ := at_T55 HR1.out x5_1 p518 q518
    have hw518_0 := hx518_0
    cases e518
    replace hx518_0 := (HB.out.cell (World.block_lt_of_cell? _ _ hx518_0)).trans hx518_0
    have HR518_0 := am_ hi518_0
    have HC518_0 := am_ hl518_0
    clear hi518_0 hl518_0
    replace p518 := eq_true p518
    replace q518 := eq_true q518
    refine start_ (n := 10) (S := fun w' => w'.cell? (ad517.add (x5_1).toNat) = some (.slice A517_0 ((rd_T55 l0 x5_1).f0).length c517_0) ∧ w'.cell? (ad518.add (x5_1).toNat) = some (.slice A518_0 ((rd_T55 l1 x5_1).f0).length c518_0)) (ds := []) (bs 10 0) (by kernel_rfl) rfl rfl ⟨((HB.out.cell (World.block_lt_of_cell? _ _ hw517_0)).trans hw517_0), ((HB.out.cell (World.block_lt_of_cell? _ _ hw518_0)).trans hw518_0)⟩ (fun hHeld => ?_); refine with_tabW F63.tab6 F63.bits6 (fun HT_ HW_ => ?_)
    generalize wr.drew = w11 at HB HR517_0 HR518_0 hx517_0 hx518_0 hHeld ⊢
    refine pu_ 0 17 (bs 10 1) HT_ ?_ rfl rfl
    refine pu_ 1 18 (bs 10 3) HT_ ?_ rfl rfl
    refine pu_ 2 19 (bs 10 7) HT_ ?_ rfl rfl
    refine pu_ 4 21 (bs 10 23) HT_ ?_ rfl rfl
    refine pu_ 5 22 (bs 10 55) HT_ ?_ rfl rfl
    refine pu_ 6 23 (bs 10 119) HT_ ?_ rfl rfl
    refine tk_ 3 20 (bs 10 127) HT_ HW_ hHeld au3_11 ?_ rfl rfl
    refine tk_ 7 24 (bs 10 255) HT_ HW_ hHeld au3_11 ?_ rfl rfl
    refine one_ (i := 8) (N := some 25) (bs 10 511) rfl rfl (one_of HT_.out (by kernel_rfl)) (by decide) (fun K hK => ?_)
    refine gr_ Tryd.func97 #[.agg #[.slice A517_0 ((rd_T55 l0 x5_1).f0).length c517_0], .agg #[.slice A518_0 ((rd_T55 l1 x5_1).f0).length c518_0]] (by rfl) ?_ rfl rfl rfl
    with_reducible refine (F97.calls k1 _ _ ((rd_T55 l0 x5_1).f0) _ _ ((rd_T55 l1 x5_1).f0) false _ ?s1 ?s2 ?s3 ?s4 A7.out).mono ?_
    (case s1 => exact au3_14)
    (case s2 => exact HC517_0.out)
    (case s3 => exact au3_15)
    (case s4 => exact HC518_0.out)
    rintro e w12 ⟨rfl, hb⟩
    refine ⟨_, rfl, ?_⟩
    replace HB := hs_ w hb
    (try clear hb)
    (try clear hb2)
    (try clear hk)
    (try clear hi)
    refine hK.out _ _ ⟨((HB.out.cell (World.block_lt_of_cell? _ _ hw517_0)).trans hw517_0), ((HB.out.cell (World.block_lt_of_cell? _ _ hw518_0)).trans hw518_0)⟩ (fun hHeld => ?_)
    clear hK K
    refine no_ 25 ?_
    refine pu_ 9 26 (bs 10 1023) HT_ ?_ rfl rfl
    refine done_ (done_of HT_.out (by kernel_rfl)) ?_
    try go_wp2
    go_ret
    exact ⟨au3_1, bl_⟩
   have H' := am_ H
   clear H
   try go_wp2
   replace HB := am_ (below_drew1 HB.out)
   have p517 : 0 ≤ (x5_1 : Int) := od_
   have q517 : x5_1 < (l0.length : Int) := od_
   obtain ⟨ad517, A517_0, c517_0, e517, hx517_0, hl517_0, hi517_0⟩ := at_T55 HR0.out x5_1 p517 q517
   have hw517_0 := hx517_0
   cases e517
   replace hx517_0 := (HB.out.cell (World.block_lt_of_cell? _ _ hx517_0)).trans hx517_0
   have HR517_0 := am_ hi517_0
   have HC517_0 := am_ hl517_0
   clear hi517_0 hl517_0
   replace p517 := eq_true p517
   replace q517 := eq_true q517
   have p518 : 0 ≤ (x5_1 : Int) := od_
   have q518 : x5_1 < (l1.length : Int) := od_
   obtain ⟨ad518, A518_0, c518_0, e518, hx518_0, hl518_0, hi518_0⟩ := at_T55 HR1.out x5_1 p518 q518
   have hw518_0 := hx518_0
   cases e518
   replace hx518_0 := (HB.out.cell (World.block_lt_of_cell? _ _ hx518_0)).trans hx518_0
   have HR518_0 := am_ hi518_0
   have HC518_0 := am_ hl518_0
   clear hi518_0 hl518_0
   replace p518 := eq_true p518
   replace q518 := eq_true q518
   refine start_ (n := 10) (S := fun w' => w'.cell? (ad517.add (x5_1).toNat) = some (.slice A517_0 ((rd_T55 l0 x5_1).f0).length c517_0) ∧ w'.cell? (ad518.add (x5_1).toNat) = some (.slice A518_0 ((rd_T55 l1 x5_1).f0).length c518_0)) (ds := []) (bs 10 0) (by kernel_rfl) rfl rfl ⟨((HB.out.cell (World.block_lt_of_cell? _ _ hw517_0)).trans hw517_0), ((HB.out.cell (World.block_lt_of_cell? _ _ hw518_0)).trans hw518_0)⟩ (fun hHeld => ?_); refine with_tabW F63.tab6 F63.bits6 (fun HT_ HW_ => ?_)
   generalize wr.drew = w9 at HB HR517_0 HR518_0 hx517_0 hx518_0 hHeld ⊢
   refine pu_ 0 17 (bs 10 1) HT_ ?_ rfl rfl
   refine pu_ 1 18 (bs 10 3) HT_ ?_ rfl rfl
   refine pu_ 2 19 (bs 10 7) HT_ ?_ rfl rfl
   refine pu_ 4 21 (bs 10 23) HT_ ?_ rfl rfl
   refine pu_ 5 22 (bs 10 55) HT_ ?_ rfl rfl
   refine pu_ 6 23 (bs 10 119) HT_ ?_ rfl rfl
   refine tk_ 3 20 (bs 10 127) HT_ HW_ hHeld au3_11 ?_ rfl rfl
   refine tk_ 7 24 (bs 10 255) HT_ HW_ hHeld au3_11 ?_ rfl rfl
   refine one_ (i := 8) (N := some 25) (bs 10 511) rfl rfl (one_of HT_.out (by kernel_rfl)) (by decide) (fun K hK => ?_)
   refine gr_ Tryd.func97 #[.agg #[.slice A517_0 ((rd_T55 l0 x5_1).f0).length c517_0], .agg #[.slice A518_0 ((rd_T55 l1 x5_1).f0).length c518_0]] (by rfl) ?_ rfl rfl rfl
   with_reducible refine (F97.calls k1 _ _ ((rd_T55 l0 x5_1).f0) _ _ ((rd_T55 l1 x5_1).f0) true _ ?s1 ?s2 ?s3 ?s4 A7.out).mono ?_
   (case s1 => exact au3_14)
   (case s2 => exact HC517_0.out)
   (case s3 => exact au3_15)
   (case s4 => exact HC518_0.out)
   rintro e w10 ⟨rfl, hb⟩
   refine ⟨_, rfl, ?_⟩
   replace HB := hs_ w hb
   (try clear hb)
   (try clear hb2)
   (try clear hk)
   (try clear hi)
   refine hK.out _ _ ⟨((HB.out.cell (World.block_lt_of_cell? _ _ hw517_0)).trans hw517_0), ((HB.out.cell (World.block_lt_of_cell? _ _ hw518_0)).trans hw518_0)⟩ (fun hHeld => ?_)
   clear hK K
   refine no_ 25 ?_
   refine pu_ 9 26 (bs 10 1023) HT_ ?_ rfl rfl
   refine done_ (done_of HT_.out (by kernel_rfl)) ?_
   try go_wp2
   go_roundg k1
   case measure => have := HK1.out; omega
   case rel => exact ⟨(wrap64 (x5_1 + 1)), er_, H', ⟨by have := HK1.out; omega⟩, ⟨bl_⟩⟩
/-! ### F39: function 39 -/
def F39.f (k : Nat) (a0_0 : ByteArray) (l0_1 : List (S55)) (a1_0 : ByteArray) (l1_1 : List (S55)) : Option (Bool) := if a0_0.toList = a1_0.toList then ((F63.f k l0_1 l1_1).bind fun t522 => (if t522 = true then (some true) else (some false))) else (some false)
theorem F39.mono : ∀ a0 a1 a2 a3 k, LeO (F39.f k a0 a1 a2 a3) (F39.f (k + 1) a0 a1 a2 a3) := by
 intro a0 a1 a2 a3 k
 unfold F39.f
 repeat' with_reducible first | exact F63.mono _ _ _ | exact LeO.refl _ | exact LeO.none _ | refine LeO.ite ?_ ?_ | refine LeO.bind ?_ (fun _ => ?_)
theorem F39.calls (k : Nat) (a0_0 : ByteArray) (A0_1 : Option Addr) (c0_1 : Nat) (l0_1 : List (S55)) (a1_0 : ByteArray) (A1_1 : Option Addr) (c1_1 : Nat) (l1_1 : List (S55)) (r : Bool) (w : World) (hr0_1 : Kd.C k55 w A0_1 l0_1.length l0_1) (hc0_1 : l0_1.length ≤ c0_1) (hr1_1 : Kd.C k55 w A1_1 l1_1.length l1_1) (hc1_1 : l1_1.length ≤ c1_1) (h : F39.f k a0_0 l0_1 a1_0 l1_1 = some r) :
  Calls Tryd.prog 39 #[.agg #[.string a0_0, .slice A0_1 l0_1.length c0_1], .agg #[.string a1_0, .slice A1_1 l1_1.length c1_1]] w fun e w' => e = .returned (.bool r) ∧ Below w.heap.size w w' := by
 have hu52 := Tryd.underlying52
 have HR0_1 := am_ hr0_1
 have HC0_1 := am_ hc0_1
 clear hr0_1 hc0_1
 have HR1_1 := am_ hr1_1
 have HC1_1 := am_ hc1_1
 clear hr1_1 hc1_1
 have HB := am_ (Below.refl w.heap.size w)
 have H : (if a0_0.toList = a1_0.toList then ((F63.f k l0_1 l1_1).bind fun t522 => (if t522 = true then (some true) else (some false))) else (some false)) = some r := h
 clear h
 by_cases c3 : a0_0.toList = a1_0.toList
 rotate_left
 ·rw [if_neg c3] at H
  have c3b0 : (a0_0.toList == a1_0.toList) = false := beq_eq_false_iff_ne.mpr c3
  have c3b1 : (a0_0.toList != a1_0.toList) = true := bne_iff_ne.mpr c3
  obtain rfl := Option.some.inj H
  go_enter Tryd.func39, Tryd.ntmps39
  go_wp2_with (first | ((with_reducible refine gate_dst (N := 2) rfl ?_); refine be_ 2 #[.string a0_0, .slice A0_1 l0_1.length c0_1] 52 ?_; intro gb520 hg w18 hbox hb; have BK520 := am_ (hbox); have GW520 := am_ (gw_ hg bl_); have GE520 := GW520; replace HB := hs_ w hb; clear hb hbox hg) | ((with_reducible refine gate_dst (N := 3) rfl ?_); refine be_ 3 #[.string a1_0, .slice A1_1 l1_1.length c1_1] 52 ?_; intro gb521 hg w19 hbox hb; have BK521 := am_ (hbox); have GW521 := am_ (gw_ hg bl_); have GE521 := GW521; replace HB := hs_ w hb; have NB520_521 := am_ (gn_ hg (blkl_ BK520)); have NB521_520 := am_ (gm_ hg (blkl_ BK520)); replace BK520 := bb_ BK520 hb; clear hb hbox hg; have hnb20 := NB520_521.out; have hnc20 := NB521_520.out; obtain ⟨hcz21_0, hcz21_1, hfz21_0, hfz21_1⟩ := cellsF2 BK520.out; obtain ⟨hcz22_0, hcz22_1, hfz22_0, hfz22_1⟩ := cellsF2 BK521.out))
  go_ret
  exact ⟨au3_1, bl_⟩

 rw [if_pos c3] at H
 have c3b0 : (a0_0.toList == a1_0.toList) = true := beq_iff_eq.mpr c3
 have c3b1 : (a0_0.toList != a1_0.toList) = false := bne_eq_false_iff_eq.mpr c3
 clear c3
 replace H := bi_ H; rcases H with ⟨t522, A4, H⟩
 replace H := ib_ H; rcases H with ⟨rfl, H⟩ | ⟨rfl, H⟩
 rotate_left
 ·obtain rfl := Option.some.inj H
  go_enter Tryd.func39, Tryd.ntmps39
  go_wp2_with (first | ((with_reducible refine gate_dst (N := 2) rfl ?_); refine be_ 2 #[.string a0_0, .slice A0_1 l0_1.length c0_1] 52 ?_; intro gb520 hg w12 hbox hb; have BK520 := am_ (hbox); have GW520 := am_ (gw_ hg bl_); have GE520 := GW520; replace HB := hs_ w hb; clear hb hbox hg) | ((with_reducible refine gate_dst (N := 3) rfl ?_); refine be_ 3 #[.string a1_0, .slice A1_1 l1_1.length c1_1] 52 ?_; intro gb521 hg w13 hbox hb; have BK521 := am_ (hbox); have GW521 := am_ (gw_ hg bl_); have GE521 := GW521; replace HB := hs_ w hb; have NB520_521 := am_ (gn_ hg (blkl_ BK520)); have NB521_520 := am_ (gm_ hg (blkl_ BK520)); replace BK520 := bb_ BK520 hb; clear hb hbox hg; have hnb14 := NB520_521.out; have hnc14 := NB521_520.out; obtain ⟨hcz15_0, hcz15_1, hfz15_0, hfz15_1⟩ := cellsF2 BK520.out; obtain ⟨hcz16_0, hcz16_1, hfz16_0, hfz16_1⟩ := cellsF2 BK521.out) | ((with_reducible refine gate_callee (f := 63) rfl ?_); refine gl_ 14 Tryd.func63 #[.slice A0_1 l0_1.length c0_1, .slice A1_1 l1_1.length c1_1] ?_ rfl rfl rfl rfl; (with_reducible refine (F63.calls k _ _ l0_1 _ _ l1_1 false _ ?s1 ?s2 ?s3 ?s4 A4.out).mono ?_); (case s1 => exact au3_7); (case s2 => exact HC0_1.out); (case s3 => exact au3_8); (case s4 => exact HC1_1.out); rintro e w17 ⟨rfl, hb⟩; refine ⟨_, rfl, ?_⟩; replace BK520 := bb_ BK520 hb; replace BK521 := bb_ BK521 hb; replace HB := hs_ w hb; (try clear hb)))
  go_ret
  exact ⟨au3_1, bl_⟩
 obtain rfl := Option.some.inj H
 go_enter Tryd.func39, Tryd.ntmps39
 go_wp2_with (first | ((with_reducible refine gate_dst (N := 2) rfl ?_); refine be_ 2 #[.string a0_0, .slice A0_1 l0_1.length c0_1] 52 ?_; intro gb520 hg w6 hbox hb; have BK520 := am_ (hbox); have GW520 := am_ (gw_ hg bl_); have GE520 := GW520; replace HB := hs_ w hb; clear hb hbox hg) | ((with_reducible refine gate_dst (N := 3) rfl ?_); refine be_ 3 #[.string a1_0, .slice A1_1 l1_1.length c1_1] 52 ?_; intro gb521 hg w7 hbox hb; have BK521 := am_ (hbox); have GW521 := am_ (gw_ hg bl_); have GE521 := GW521; replace HB := hs_ w hb; have NB520_521 := am_ (gn_ hg (blkl_ BK520)); have NB521_520 := am_ (gm_ hg (blkl_ BK520)); replace BK520 := bb_ BK520 hb; clear hb hbox hg; have hnb8 := NB520_521.out; have hnc8 := NB521_520.out; obtain ⟨hcz9_0, hcz9_1, hfz9_0, hfz9_1⟩ := cellsF2 BK520.out; obtain ⟨hcz10_0, hcz10_1, hfz10_0, hfz10_1⟩ := cellsF2 BK521.out) | ((with_reducible refine gate_callee (f := 63) rfl ?_); refine gl_ 14 Tryd.func63 #[.slice A0_1 l0_1.length c0_1, .slice A1_1 l1_1.length c1_1] ?_ rfl rfl rfl rfl; (with_reducible refine (F63.calls k _ _ l0_1 _ _ l1_1 true _ ?s1 ?s2 ?s3 ?s4 A4.out).mono ?_); (case s1 => exact au3_7); (case s2 => exact HC0_1.out); (case s3 => exact au3_8); (case s4 => exact HC1_1.out); rintro e w11 ⟨rfl, hb⟩; refine ⟨_, rfl, ?_⟩; replace BK520 := bb_ BK520 hb; replace BK521 := bb_ BK521 hb; replace HB := hs_ w hb; (try clear hb)))
 go_ret
 exact ⟨au3_1, bl_⟩
/-! ### F16: function 16 -/
def F16.l0 : Nat → List (S52) → List (S52) → Int → Option (Bool)
  | 0, _, _, _ => none
  | k + 1, x0, x1, x5 => if x5 < (x0.length : Int) then (if 0 ≤ x5 then (if x5 < (x1.length : Int) then ((F39.f k ((rd_T52 x0 x5).f0) ((rd_T52 x0 x5).f1) ((rd_T52 x1 x5).f0) ((rd_T52 x1 x5).f1)).bind fun t525 => (if t525 = true then (F16.l0 k x0 x1 (wrap64 (x5 + 1))) else (some false))) else (none)) else (none)) else (some true)
def F16.f (k : Nat) (l0 : List (S52)) (l1 : List (S52)) : Option (Bool) := if (l0.length : Int) = (l1.length : Int) then (F16.l0 k l0 l1 0) else (some false)
theorem F16.mono_l : ∀ k, (∀ y0 y1 y2, LeO (F16.l0 k y0 y1 y2) (F16.l0 (k + 1) y0 y1 y2))
 | 0 => fun _ _ _ r h => by simp [F16.l0] at h
 | k + 1 => by
  have ih0 := F16.mono_l k
  intro y0 y1 y2
  unfold F16.l0
  repeat' with_reducible first | exact ih0 _ _ _ | exact F39.mono _ _ _ _ _ | exact LeO.refl _ | exact LeO.none _ | refine LeO.ite ?_ ?_ | refine LeO.bind ?_ (fun _ => ?_)
theorem F16.mono : ∀ a0 a1 k, LeO (F16.f k a0 a1) (F16.f (k + 1) a0 a1) := by
 intro a0 a1 k
 have ih0 := F16.mono_l k
 unfold F16.f
 repeat' with_reducible first | exact ih0 _ _ _ | exact F39.mono _ _ _ _ _ | exact LeO.refl _ | exact LeO.none _ | refine LeO.ite ?_ ?_ | refine LeO.bind ?_ (fun _ => ?_)
def F16.T6 : Bool × List (List Nat × List Nat) := (true, [([], []), ([], []), ([0, 1], [0, 1]), ([2], [2]), ([], []), ([], []), ([4, 5], [4, 5]), ([6], [6]), ([3, 7], [3, 7]), ([8], [8])])
def F16.B6 : List Nat := [0, 0, 3, 7, 0, 0, 48, 112, 255, 511]
theorem F16.tab6 : rtab .any (opsOf Tryd.f16 6) = F16.T6 := by kernel_rfl
theorem F16.bits6 : waitsOk F16.T6.2 F16.B6 = true := by kernel_rfl
theorem F16.calls (k : Nat) (A0 : Option Addr) (c0 : Nat) (l0 : List (S52)) (A1 : Option Addr) (c1 : Nat) (l1 : List (S52)) (r : Bool) (w : World) (hr0 : Kd.C k52 w A0 l0.length l0) (hc0 : l0.length ≤ c0) (hr1 : Kd.C k52 w A1 l1.length l1) (hc1 : l1.length ≤ c1) (h : F16.f k l0 l1 = some r) :
  Calls Tryd.prog 16 #[.slice A0 l0.length c0, .slice A1 l1.length c1] w fun e w' => e = .returned (.bool r) ∧ Below w.heap.size w w' := by
 have hu52 := Tryd.underlying52
 have HR0 := am_ hr0
 have HC0 := am_ hc0
 clear hr0 hc0
 have HR1 := am_ hr1
 have HC1 := am_ hc1
 clear hr1 hc1
 have HB := am_ (Below.refl w.heap.size w)
 have H : (if (l0.length : Int) = (l1.length : Int) then (F16.l0 k l0 l1 0) else (some false)) = some r := h
 clear h
 by_cases c3 : (l0.length : Int) = (l1.length : Int)
 rotate_left
 ·rw [if_neg c3] at H
  have c3b0 : ((l0.length : Int) == (l1.length : Int)) = false := beq_eq_false_iff_ne.mpr c3
  have c3b1 : ((l0.length : Int) != (l1.length : Int)) = true := bne_iff_ne.mpr c3
  have c3b2 : (l0.length == l1.length) = false := by first | simpa using c3 | (simp at c3 ⊢; omega)
  obtain rfl := Option.some.inj H
  go_enter Tryd.func16, Tryd.ntmps16
  go_wp2
  go_ret
  exact ⟨au3_1, bl_⟩

 rw [if_pos c3] at H
 have c3b0 : ((l0.length : Int) == (l1.length : Int)) = true := beq_iff_eq.mpr c3
 have c3b1 : ((l0.length : Int) != (l1.length : Int)) = false := bne_eq_false_iff_eq.mpr c3
 have c3b2 : (l0.length == l1.length) = true := by first | simpa using c3 | (simp at c3 ⊢; omega)
 clear c3
 have H' := am_ H
 clear H
 go_enter Tryd.func16, Tryd.ntmps16
 go_wp2
 go_loopg [5] k (fun kq v5 w' => ∃ (x5_1 : Int), v5 = .int .i64 x5_1 ∧ Aside0 (F16.l0 kq l0 l1 x5_1 = some r) ∧ Aside0 (kq ≤ k) ∧ Aside0 (Below w.heap.size w w'))
 case atStart => exact ⟨(0), er_, H', ⟨Nat.le_refl _⟩, ⟨bl_⟩⟩
 case round =>
  clear H'
  try clear c1
  try clear c3
  try clear c3b0
  try clear c3b1
  try clear c3b2
  obtain ⟨x5_1, rfl, HA, HK1, HB⟩ := hrel
  cases gk with
  | zero => exact absurd HA.out (by simp [F16.l0])
  | succ k1 =>
   have H := HA.out
   clear HA
   simp only [F16.l0] at H
   replace H := it_ H; rcases H with ⟨c4b0, H⟩ | ⟨c4b0, H⟩
   rotate_left
   ·obtain rfl := Option.some.inj H
    go_wp2
    go_ret
    exact ⟨au3_1, bl_⟩
   replace H := itn_ H; rcases H with ⟨c5b0, H⟩
   replace H := itn_ H; rcases H with ⟨c6b0, H⟩
   replace H := bi_ H; rcases H with ⟨t525, A7, H⟩
   replace H := ib_ H; rcases H with ⟨rfl, H⟩ | ⟨rfl, H⟩
   rotate_left
   ·obtain rfl := Option.some.inj H
    try go_wp2
    replace HB := am_ (below_drew1 HB.out)
    have p523 : 0 ≤ (x5_1 : Int) := od_
    have q523 : x5_1 < (l0.length : Int) := od_
    obtain ⟨ad523, A523_1, c523_1, e523, hx523_0, hx523_1, hl523_1, hi523_1⟩ := at_T52 HR0.out x5_1 p523 q523
    have hw523_1 := hx523_1
    have hw523_0 := hx523_0
    cases e523
    replace hx523_0 := (HB.out.cell (World.block_lt_of_cell? _ _ hx523_0)).trans hx523_0
    replace hx523_1 := (HB.out.cell (World.block_lt_of_cell? _ _ hx523_1)).trans hx523_1
    have HR523_1 := am_ hi523_1
    have HC523_1 := am_ hl523_1
    clear hi523_1 hl523_1
    replace p523 := eq_true p523
    replace q523 := eq_true q523
    have p524 : 0 ≤ (x5_1 : Int) := od_
    have q524 : x5_1 < (l1.length : Int) := od_
    obtain ⟨ad524, A524_1, c524_1, e524, hx524_0, hx524_1, hl524_1, hi524_1⟩ := at_T52 HR1.out x5_1 p524 q524
    have hw524_1 := hx524_1
    have hw524_0 := hx524_0
    cases e524
    replace hx524_0 := (HB.out.cell (World.block_lt_of_cell? _ _ hx524_0)).trans hx524_0
    replace hx524_1 := (HB.out.cell (World.block_lt_of_cell? _ _ hx524_1)).trans hx524_1
    have HR524_1 := am_ hi524_1
    have HC524_1 := am_ hl524_1
    clear hi524_1 hl524_1
    replace p524 := eq_true p524
    replace q524 := eq_true q524
    refine start_ (n := 10) (S := fun w' => w'.cell? (ad523.add ((x5_1).toNat * 2)) = some (.string ((rd_T52 l0 x5_1).f0)) ∧ w'.cell? ⟨(ad523.add ((x5_1).toNat * 2)).block, (ad523.add ((x5_1).toNat * 2)).off + 1, none⟩ = some (.slice A523_1 ((rd_T52 l0 x5_1).f1).length c523_1) ∧ w'.cell? (ad524.add ((x5_1).toNat * 2)) = some (.string ((rd_T52 l1 x5_1).f0)) ∧ w'.cell? ⟨(ad524.add ((x5_1).toNat * 2)).block, (ad524.add ((x5_1).toNat * 2)).off + 1, none⟩ = some (.slice A524_1 ((rd_T52 l1 x5_1).f1).length c524_1)) (ds := []) (bs 10 0) (by kernel_rfl) rfl rfl ⟨((HB.out.cell (World.block_lt_of_cell? _ _ hw523_0)).trans hw523_0), ((HB.out.cell (World.block_lt_of_cell? _ _ hw523_1)).trans hw523_1), ((HB.out.cell (World.block_lt_of_cell? _ _ hw524_0)).trans hw524_0), ((HB.out.cell (World.block_lt_of_cell? _ _ hw524_1)).trans hw524_1)⟩ (fun hHeld => ?_); refine with_tabW F16.tab6 F16.bits6 (fun HT_ HW_ => ?_)
    generalize wr.drew = w11 at HB HR523_1 HR524_1 hx523_0 hx523_1 hx524_0 hx524_1 hHeld ⊢
    refine pu_ 0 17 (bs 10 1) HT_ ?_ rfl rfl
    refine pu_ 1 18 (bs 10 3) HT_ ?_ rfl rfl
    refine pu_ 2 19 (bs 10 7) HT_ ?_ rfl rfl
    refine pu_ 4 21 (bs 10 23) HT_ ?_ rfl rfl
    refine pu_ 5 22 (bs 10 55) HT_ ?_ rfl rfl
    refine pu_ 6 23 (bs 10 119) HT_ ?_ rfl rfl
    refine tk_ 3 20 (bs 10 127) HT_ HW_ hHeld au3_5 ?_ rfl rfl
    refine tk_ 7 24 (bs 10 255) HT_ HW_ hHeld au3_5 ?_ rfl rfl
    refine one_ (i := 8) (N := some 25) (bs 10 511) rfl rfl (one_of HT_.out (by kernel_rfl)) (by decide) (fun K hK => ?_)
    refine gr_ Tryd.func39 #[.agg #[.string ((rd_T52 l0 x5_1).f0), .slice A523_1 ((rd_T52 l0 x5_1).f1).length c523_1], .agg #[.string ((rd_T52 l1 x5_1).f0), .slice A524_1 ((rd_T52 l1 x5_1).f1).length c524_1]] (by rfl) ?_ rfl rfl rfl
    with_reducible refine (F39.calls k1 ((rd_T52 l0 x5_1).f0) _ _ ((rd_T52 l0 x5_1).f1) ((rd_T52 l1 x5_1).f0) _ _ ((rd_T52 l1 x5_1).f1) false _ ?s1 ?s2 ?s3 ?s4 A7.out).mono ?_
    (case s1 => exact au3_16)
    (case s2 => exact HC523_1.out)
    (case s3 => exact au3_17)
    (case s4 => exact HC524_1.out)
    rintro e w12 ⟨rfl, hb⟩
    refine ⟨_, rfl, ?_⟩
    replace HB := hs_ w hb
    (try clear hb)
    (try clear hb2)
    (try clear hk)
    (try clear hi)
    refine hK.out _ _ ⟨((HB.out.cell (World.block_lt_of_cell? _ _ hw523_0)).trans hw523_0), ((HB.out.cell (World.block_lt_of_cell? _ _ hw523_1)).trans hw523_1), ((HB.out.cell (World.block_lt_of_cell? _ _ hw524_0)).trans hw524_0), ((HB.out.cell (World.block_lt_of_cell? _ _ hw524_1)).trans hw524_1)⟩ (fun hHeld => ?_)
    clear hK K
    refine no_ 25 ?_
    refine pu_ 9 26 (bs 10 1023) HT_ ?_ rfl rfl
    refine done_ (done_of HT_.out (by kernel_rfl)) ?_
    try go_wp2
    go_ret
    exact ⟨au3_1, bl_⟩
   have H' := am_ H
   clear H
   try go_wp2
   replace HB := am_ (below_drew1 HB.out)
   have p523 : 0 ≤ (x5_1 : Int) := od_
   have q523 : x5_1 < (l0.length : Int) := od_
   obtain ⟨ad523, A523_1, c523_1, e523, hx523_0, hx523_1, hl523_1, hi523_1⟩ := at_T52 HR0.out x5_1 p523 q523
   have hw523_1 := hx523_1
   have hw523_0 := hx523_0
   cases e523
   replace hx523_0 := (HB.out.cell (World.block_lt_of_cell? _ _ hx523_0)).trans hx523_0
   replace hx523_1 := (HB.out.cell (World.block_lt_of_cell? _ _ hx523_1)).trans hx523_1
   have HR523_1 := am_ hi523_1
   have HC523_1 := am_ hl523_1
   clear hi523_1 hl523_1
   replace p523 := eq_true p523
   replace q523 := eq_true q523
   have p524 : 0 ≤ (x5_1 : Int) := od_
   have q524 : x5_1 < (l1.length : Int) := od_
   obtain ⟨ad524, A524_1, c524_1, e524, hx524_0, hx524_1, hl524_1, hi524_1⟩ := at_T52 HR1.out x5_1 p524 q524
   have hw524_1 := hx524_1
   have hw524_0 := hx524_0
   cases e524
   replace hx524_0 := (HB.out.cell (World.block_lt_of_cell? _ _ hx524_0)).trans hx524_0
   replace hx524_1 := (HB.out.cell (World.block_lt_of_cell? _ _ hx524_1)).trans hx524_1
   have HR524_1 := am_ hi524_1
   have HC524_1 := am_ hl524_1
   clear hi524_1 hl524_1
   replace p524 := eq_true p524
   replace q524 := eq_true q524
   refine start_ (n := 10) (S := fun w' => w'.cell? (ad523.add ((x5_1).toNat * 2)) = some (.string ((rd_T52 l0 x5_1).f0)) ∧ w'.cell? ⟨(ad523.add ((x5_1).toNat * 2)).block, (ad523.add ((x5_1).toNat * 2)).off + 1, none⟩ = some (.slice A523_1 ((rd_T52 l0 x5_1).f1).length c523_1) ∧ w'.cell? (ad524.add ((x5_1).toNat * 2)) = some (.string ((rd_T52 l1 x5_1).f0)) ∧ w'.cell? ⟨(ad524.add ((x5_1).toNat * 2)).block, (ad524.add ((x5_1).toNat * 2)).off + 1, none⟩ = some (.slice A524_1 ((rd_T52 l1 x5_1).f1).length c524_1)) (ds := []) (bs 10 0) (by kernel_rfl) rfl rfl ⟨((HB.out.cell (World.block_lt_of_cell? _ _ hw523_0)).trans hw523_0), ((HB.out.cell (World.block_lt_of_cell? _ _ hw523_1)).trans hw523_1), ((HB.out.cell (World.block_lt_of_cell? _ _ hw524_0)).trans hw524_0), ((HB.out.cell (World.block_lt_of_cell? _ _ hw524_1)).trans hw524_1)⟩ (fun hHeld => ?_); refine with_tabW F16.tab6 F16.bits6 (fun HT_ HW_ => ?_)
   generalize wr.drew = w9 at HB HR523_1 HR524_1 hx523_0 hx523_1 hx524_0 hx524_1 hHeld ⊢
   refine pu_ 0 17 (bs 10 1) HT_ ?_ rfl rfl
   refine pu_ 1 18 (bs 10 3) HT_ ?_ rfl rfl
   refine pu_ 2 19 (bs 10 7) HT_ ?_ rfl rfl
   refine pu_ 4 21 (bs 10 23) HT_ ?_ rfl rfl
   refine pu_ 5 22 (bs 10 55) HT_ ?_ rfl rfl
   refine pu_ 6 23 (bs 10 119) HT_ ?_ rfl rfl
   refine tk_ 3 20 (bs 10 127) HT_ HW_ hHeld au3_5 ?_ rfl rfl
   refine tk_ 7 24 (bs 10 255) HT_ HW_ hHeld au3_5 ?_ rfl rfl
   refine one_ (i := 8) (N := some 25) (bs 10 511) rfl rfl (one_of HT_.out (by kernel_rfl)) (by decide) (fun K hK => ?_)
   refine gr_ Tryd.func39 #[.agg #[.string ((rd_T52 l0 x5_1).f0), .slice A523_1 ((rd_T52 l0 x5_1).f1).length c523_1], .agg #[.string ((rd_T52 l1 x5_1).f0), .slice A524_1 ((rd_T52 l1 x5_1).f1).length c524_1]] (by rfl) ?_ rfl rfl rfl
   with_reducible refine (F39.calls k1 ((rd_T52 l0 x5_1).f0) _ _ ((rd_T52 l0 x5_1).f1) ((rd_T52 l1 x5_1).f0) _ _ ((rd_T52 l1 x5_1).f1) true _ ?s1 ?s2 ?s3 ?s4 A7.out).mono ?_
   (case s1 => exact au3_16)
   (case s2 => exact HC523_1.out)
   (case s3 => exact au3_17)
   (case s4 => exact HC524_1.out)
   rintro e w10 ⟨rfl, hb⟩
   refine ⟨_, rfl, ?_⟩
   replace HB := hs_ w hb
   (try clear hb)
   (try clear hb2)
   (try clear hk)
   (try clear hi)
   refine hK.out _ _ ⟨((HB.out.cell (World.block_lt_of_cell? _ _ hw523_0)).trans hw523_0), ((HB.out.cell (World.block_lt_of_cell? _ _ hw523_1)).trans hw523_1), ((HB.out.cell (World.block_lt_of_cell? _ _ hw524_0)).trans hw524_0), ((HB.out.cell (World.block_lt_of_cell? _ _ hw524_1)).trans hw524_1)⟩ (fun hHeld => ?_)
   clear hK K
   refine no_ 25 ?_
   refine pu_ 9 26 (bs 10 1023) HT_ ?_ rfl rfl
   refine done_ (done_of HT_.out (by kernel_rfl)) ?_
   try go_wp2
   go_roundg k1
   case measure => have := HK1.out; omega
   case rel => exact ⟨(wrap64 (x5_1 + 1)), er_, H', ⟨by have := HK1.out; omega⟩, ⟨bl_⟩⟩
/-! ### F114: function 114 -/
def F114.f (k : Nat) (a0_0 : Int) (l0_1 : List (S52)) (a1_0 : Int) (l1_1 : List (S52)) : Option (Bool) := if a0_0 = a1_0 then ((F16.f k l0_1 l1_1).bind fun t528 => (if t528 = true then (some true) else (some false))) else (some false)
theorem F114.mono : ∀ a0 a1 a2 a3 k, LeO (F114.f k a0 a1 a2 a3) (F114.f (k + 1) a0 a1 a2 a3) := by
 intro a0 a1 a2 a3 k
 unfold F114.f
 repeat' with_reducible first | exact F16.mono _ _ _ | exact LeO.refl _ | exact LeO.none _ | refine LeO.ite ?_ ?_ | refine LeO.bind ?_ (fun _ => ?_)
theorem F114.calls (k : Nat) (a0_0 : Int) (A0_1 : Option Addr) (c0_1 : Nat) (l0_1 : List (S52)) (a1_0 : Int) (A1_1 : Option Addr) (c1_1 : Nat) (l1_1 : List (S52)) (r : Bool) (w : World) (hr0_1 : Kd.C k52 w A0_1 l0_1.length l0_1) (hc0_1 : l0_1.length ≤ c0_1) (hr1_1 : Kd.C k52 w A1_1 l1_1.length l1_1) (hc1_1 : l1_1.length ≤ c1_1) (h : F114.f k a0_0 l0_1 a1_0 l1_1 = some r) :
  Calls Tryd.prog 114 #[.agg #[.int .i64 a0_0, .slice A0_1 l0_1.length c0_1], .agg #[.int .i64 a1_0, .slice A1_1 l1_1.length c1_1]] w fun e w' => e = .returned (.bool r) ∧ Below w.heap.size w w' := by
 have hu85 := Tryd.underlying85
 have HR0_1 := am_ hr0_1
 have HC0_1 := am_ hc0_1
 clear hr0_1 hc0_1
 have HR1_1 := am_ hr1_1
 have HC1_1 := am_ hc1_1
 clear hr1_1 hc1_1
 have HB := am_ (Below.refl w.heap.size w)
 have H : (if a0_0 = a1_0 then ((F16.f k l0_1 l1_1).bind fun t528 => (if t528 = true then (some true) else (some false))) else (some false)) = some r := h
 clear h
 by_cases c3 : a0_0 = a1_0
 rotate_left
 ·rw [if_neg c3] at H
  have c3b0 : (a0_0 == a1_0) = false := beq_eq_false_iff_ne.mpr c3
  have c3b1 : (a0_0 != a1_0) = true := bne_iff_ne.mpr c3
  obtain rfl := Option.some.inj H
  go_enter Tryd.func114, Tryd.ntmps114
  go_wp2_with (first | ((with_reducible refine gate_dst (N := 2) rfl ?_); refine be_ 2 #[.int .i64 a0_0, .slice A0_1 l0_1.length c0_1] 85 ?_; intro gb526 hg w18 hbox hb; have BK526 := am_ (hbox); have GW526 := am_ (gw_ hg bl_); have GE526 := GW526; replace HB := hs_ w hb; clear hb hbox hg) | ((with_reducible refine gate_dst (N := 3) rfl ?_); refine be_ 3 #[.int .i64 a1_0, .slice A1_1 l1_1.length c1_1] 85 ?_; intro gb527 hg w19 hbox hb; have BK527 := am_ (hbox); have GW527 := am_ (gw_ hg bl_); have GE527 := GW527; replace HB := hs_ w hb; have NB526_527 := am_ (gn_ hg (blkl_ BK526)); have NB527_526 := am_ (gm_ hg (blkl_ BK526)); replace BK526 := bb_ BK526 hb; clear hb hbox hg; have hnb20 := NB526_527.out; have hnc20 := NB527_526.out; obtain ⟨hcz21_0, hcz21_1, hfz21_0, hfz21_1⟩ := cellsF2 BK526.out; obtain ⟨hcz22_0, hcz22_1, hfz22_0, hfz22_1⟩ := cellsF2 BK527.out))
  go_ret
  exact ⟨au3_1, bl_⟩

 rw [if_pos c3] at H
 have c3b0 : (a0_0 == a1_0) = true := beq_iff_eq.mpr c3
 have c3b1 : (a0_0 != a1_0) = false := bne_eq_false_iff_eq.mpr c3
 clear c3
 replace H := bi_ H; rcases H with ⟨t528, A4, H⟩
 replace H := ib_ H; rcases H with ⟨rfl, H⟩ | ⟨rfl, H⟩
 rotate_left
 ·obtain rfl := Option.some.inj H
  go_enter Tryd.func114, Tryd.ntmps114
  go_wp2_with (first | ((with_reducible refine gate_dst (N := 2) rfl ?_); refine be_ 2 #[.int .i64 a0_0, .slice A0_1 l0_1.length c0_1] 85 ?_; intro gb526 hg w12 hbox hb; have BK526 := am_ (hbox); have GW526 := am_ (gw_ hg bl_); have GE526 := GW526; replace HB := hs_ w hb; clear hb hbox hg) | ((with_reducible refine gate_dst (N := 3) rfl ?_); refine be_ 3 #[.int .i64 a1_0, .slice A1_1 l1_1.length c1_1] 85 ?_; intro gb527 hg w13 hbox hb; have BK527 := am_ (hbox); have GW527 := am_ (gw_ hg bl_); have GE527 := GW527; replace HB := hs_ w hb; have NB526_527 := am_ (gn_ hg (blkl_ BK526)); have NB527_526 := am_ (gm_ hg (blkl_ BK526)); replace BK526 := bb_ BK526 hb; clear hb hbox hg; have hnb14 := NB526_527.out; have hnc14 := NB527_526.out; obtain ⟨hcz15_0, hcz15_1, hfz15_0, hfz15_1⟩ := cellsF2 BK526.out; obtain ⟨hcz16_0, hcz16_1, hfz16_0, hfz16_1⟩ := cellsF2 BK527.out) | ((with_reducible refine gate_callee (f := 16) rfl ?_); refine gl_ 14 Tryd.func16 #[.slice A0_1 l0_1.length c0_1, .slice A1_1 l1_1.length c1_1] ?_ rfl rfl rfl rfl; (with_reducible refine (F16.calls k _ _ l0_1 _ _ l1_1 false _ ?s1 ?s2 ?s3 ?s4 A4.out).mono ?_); (case s1 => exact au3_7); (case s2 => exact HC0_1.out); (case s3 => exact au3_8); (case s4 => exact HC1_1.out); rintro e w17 ⟨rfl, hb⟩; refine ⟨_, rfl, ?_⟩; replace BK526 := bb_ BK526 hb; replace BK527 := bb_ BK527 hb; replace HB := hs_ w hb; (try clear hb)))
  go_ret
  exact ⟨au3_1, bl_⟩
 obtain rfl := Option.some.inj H
 go_enter Tryd.func114, Tryd.ntmps114
 go_wp2_with (first | ((with_reducible refine gate_dst (N := 2) rfl ?_); refine be_ 2 #[.int .i64 a0_0, .slice A0_1 l0_1.length c0_1] 85 ?_; intro gb526 hg w6 hbox hb; have BK526 := am_ (hbox); have GW526 := am_ (gw_ hg bl_); have GE526 := GW526; replace HB := hs_ w hb; clear hb hbox hg) | ((with_reducible refine gate_dst (N := 3) rfl ?_); refine be_ 3 #[.int .i64 a1_0, .slice A1_1 l1_1.length c1_1] 85 ?_; intro gb527 hg w7 hbox hb; have BK527 := am_ (hbox); have GW527 := am_ (gw_ hg bl_); have GE527 := GW527; replace HB := hs_ w hb; have NB526_527 := am_ (gn_ hg (blkl_ BK526)); have NB527_526 := am_ (gm_ hg (blkl_ BK526)); replace BK526 := bb_ BK526 hb; clear hb hbox hg; have hnb8 := NB526_527.out; have hnc8 := NB527_526.out; obtain ⟨hcz9_0, hcz9_1, hfz9_0, hfz9_1⟩ := cellsF2 BK526.out; obtain ⟨hcz10_0, hcz10_1, hfz10_0, hfz10_1⟩ := cellsF2 BK527.out) | ((with_reducible refine gate_callee (f := 16) rfl ?_); refine gl_ 14 Tryd.func16 #[.slice A0_1 l0_1.length c0_1, .slice A1_1 l1_1.length c1_1] ?_ rfl rfl rfl rfl; (with_reducible refine (F16.calls k _ _ l0_1 _ _ l1_1 true _ ?s1 ?s2 ?s3 ?s4 A4.out).mono ?_); (case s1 => exact au3_7); (case s2 => exact HC0_1.out); (case s3 => exact au3_8); (case s4 => exact HC1_1.out); rintro e w11 ⟨rfl, hb⟩; refine ⟨_, rfl, ?_⟩; replace BK526 := bb_ BK526 hb; replace BK527 := bb_ BK527 hb; replace HB := hs_ w hb; (try clear hb)))
 go_ret
 exact ⟨au3_1, bl_⟩
/-! ### F90: function 90 -/
def F90.l0 : Nat → List (S85) → List (S85) → Int → Option (Bool)
  | 0, _, _, _ => none
  | k + 1, x0, x1, x5 => if x5 < (x0.length : Int) then (if 0 ≤ x5 then (if x5 < (x1.length : Int) then ((F114.f k ((rd_T85 x0 x5).f0) ((rd_T85 x0 x5).f1) ((rd_T85 x1 x5).f0) ((rd_T85 x1 x5).f1)).bind fun t531 => (if t531 = true then (F90.l0 k x0 x1 (wrap64 (x5 + 1))) else (some false))) else (none)) else (none)) else (some true)
def F90.f (k : Nat) (l0 : List (S85)) (l1 : List (S85)) : Option (Bool) := if (l0.length : Int) = (l1.length : Int) then (F90.l0 k l0 l1 0) else (some false)
theorem F90.mono_l : ∀ k, (∀ y0 y1 y2, LeO (F90.l0 k y0 y1 y2) (F90.l0 (k + 1) y0 y1 y2))
 | 0 => fun _ _ _ r h => by simp [F90.l0] at h
 | k + 1 => by
  have ih0 := F90.mono_l k
  intro y0 y1 y2
  unfold F90.l0
  repeat' with_reducible first | exact ih0 _ _ _ | exact F114.mono _ _ _ _ _ | exact LeO.refl _ | exact LeO.none _ | refine LeO.ite ?_ ?_ | refine LeO.bind ?_ (fun _ => ?_)
theorem F90.mono : ∀ a0 a1 k, LeO (F90.f k a0 a1) (F90.f (k + 1) a0 a1) := by
 intro a0 a1 k
 have ih0 := F90.mono_l k
 unfold F90.f
 repeat' with_reducible first | exact ih0 _ _ _ | exact F114.mono _ _ _ _ _ | exact LeO.refl _ | exact LeO.none _ | refine LeO.ite ?_ ?_ | refine LeO.bind ?_ (fun _ => ?_)
def F90.T6 : Bool × List (List Nat × List Nat) := (true, [([], []), ([], []), ([0, 1], [0, 1]), ([2], [2]), ([], []), ([], []), ([4, 5], [4, 5]), ([6], [6]), ([3, 7], [3, 7]), ([8], [8])])
def F90.B6 : List Nat := [0, 0, 3, 7, 0, 0, 48, 112, 255, 511]
theorem F90.tab6 : rtab .any (opsOf Tryd.f90 6) = F90.T6 := by kernel_rfl
theorem F90.bits6 : waitsOk F90.T6.2 F90.B6 = true := by kernel_rfl
theorem F90.calls (k : Nat) (A0 : Option Addr) (c0 : Nat) (l0 : List (S85)) (A1 : Option Addr) (c1 : Nat) (l1 : List (S85)) (r : Bool) (w : World) (hr0 : Kd.C k85 w A0 l0.length l0) (hc0 : l0.length ≤ c0) (hr1 : Kd.C k85 w A1 l1.length l1) (hc1 : l1.length ≤ c1) (h : F90.f k l0 l1 = some r) :
  Calls Tryd.prog 90 #[.slice A0 l0.length c0, .slice A1 l1.length c1] w fun e w' => e = .returned (.bool r) ∧ Below w.heap.size w w' := by
 have hu85 := Tryd.underlying85
 have HR0 := am_ hr0
 have HC0 := am_ hc0
 clear hr0 hc0
 have HR1 := am_ hr1
 have HC1 := am_ hc1
 clear hr1 hc1
 have HB := am_ (Below.refl w.heap.size w)
 have H : (if (l0.length : Int) = (l1.length : Int) then (F90.l0 k l0 l1 0) else (some false)) = some r := h
 clear h
 by_cases c3 : (l0.length : Int) = (l1.length : Int)
 rotate_left
 ·rw [if_neg c3] at H
  have c3b0 : ((l0.length : Int) == (l1.length : Int)) = false := beq_eq_false_iff_ne.mpr c3
  have c3b1 : ((l0.length : Int) != (l1.length : Int)) = true := bne_iff_ne.mpr c3
  have c3b2 : (l0.length == l1.length) = false := by first | simpa using c3 | (simp at c3 ⊢; omega)
  obtain rfl := Option.some.inj H
  go_enter Tryd.func90, Tryd.ntmps90
  go_wp2
  go_ret
  exact ⟨au3_1, bl_⟩
 rw [if_pos c3] at H
 have c3b0 : ((l0.length : Int) == (l1.length : Int)) = true := beq_iff_eq.mpr c3
 have c3b1 : ((l0.length : Int) != (l1.length : Int)) = false := bne_eq_false_iff_eq.mpr c3
 have c3b2 : (l0.length == l1.length) = true := by first | simpa using c3 | (simp at c3 ⊢; omega)
 clear c3
 have H' := am_ H
 clear H
 go_enter Tryd.func90, Tryd.ntmps90
 go_wp2
 go_loopg [5] k (fun kq v5 w' => ∃ (x5_1 : Int), v5 = .int .i64 x5_1 ∧ Aside0 (F90.l0 kq l0 l1 x5_1 = some r) ∧ Aside0 (kq ≤ k) ∧ Aside0 (Below w.heap.size w w'))
 case atStart => exact ⟨(0), er_, H', ⟨Nat.le_refl _⟩, ⟨bl_⟩⟩
 case round =>
  clear H'
  try clear c1
  try clear c3
  try clear c3b0
  try clear c3b1
  try clear c3b2
  obtain ⟨x5_1, rfl, HA, HK1, HB⟩ := hrel
  cases gk with
  | zero => exact absurd HA.out (by simp [F90.l0])
  | succ k1 =>
   have H := HA.out
   clear HA
   simp only [F90.l0] at H
   replace H := it_ H; rcases H with ⟨c4b0, H⟩ | ⟨c4b0, H⟩
   rotate_left
   ·obtain rfl := Option.some.inj H
    go_wp2
    go_ret
    exact ⟨au3_1, bl_⟩
   replace H := itn_ H; rcases H with ⟨c5b0, H⟩
   replace H := itn_ H; rcases H with ⟨c6b0, H⟩
   replace H := bi_ H; rcases H with ⟨t531, A7, H⟩
   replace H := ib_ H; rcases H with ⟨rfl, H⟩ | ⟨rfl, H⟩
   rotate_left
   ·obtain rfl := Option.some.inj H
    try go_wp2
    replace HB := am_ (below_drew1 HB.out)
    have p529 : 0 ≤ (x5_1 : Int) := od_
    have q529 : x5_1 < (l0.length : Int) := od_
    obtain ⟨ad529, A529_1, c529_1, e529, hx529_0, hx529_1, hl529_1, hi529_1⟩ := at_T85 HR0.out x5_1 p529 q529
    have hw529_1 := hx529_1
    have hw529_0 := hx529_0
    cases e529
    replace hx529_0 := (HB.out.cell (World.block_lt_of_cell? _ _ hx529_0)).trans hx529_0
    replace hx529_1 := (HB.out.cell (World.block_lt_of_cell? _ _ hx529_1)).trans hx529_1
    have HR529_1 := am_ hi529_1
    have HC529_1 := am_ hl529_1
    clear hi529_1 hl529_1
    replace p529 := eq_true p529
    replace q529 := eq_true q529
    have p530 : 0 ≤ (x5_1 : Int) := od_
    have q530 : x5_1 < (l1.length : Int) := od_
    obtain ⟨ad530, A530_1, c530_1, e530, hx530_0, hx530_1, hl530_1, hi530_1⟩ := at_T85 HR1.out x5_1 p530 q530
    have hw530_1 := hx530_1
    have hw530_0 := hx530_0
    cases e530
    replace hx530_0 := (HB.out.cell (World.block_lt_of_cell? _ _ hx530_0)).trans hx530_0
    replace hx530_1 := (HB.out.cell (World.block_lt_of_cell? _ _ hx530_1)).trans hx530_1
    have HR530_1 := am_ hi530_1
    have HC530_1 := am_ hl530_1
    clear hi530_1 hl530_1
    replace p530 := eq_true p530
    replace q530 := eq_true q530
    refine start_ (n := 10) (S := fun w' => w'.cell? (ad529.add ((x5_1).toNat * 2)) = some (.int .i64 ((rd_T85 l0 x5_1).f0)) ∧ w'.cell? ⟨(ad529.add ((x5_1).toNat * 2)).block, (ad529.add ((x5_1).toNat * 2)).off + 1, none⟩ = some (.slice A529_1 ((rd_T85 l0 x5_1).f1).length c529_1) ∧ w'.cell? (ad530.add ((x5_1).toNat * 2)) = some (.int .i64 ((rd_T85 l1 x5_1).f0)) ∧ w'.cell? ⟨(ad530.add ((x5_1).toNat * 2)).block, (ad530.add ((x5_1).toNat * 2)).off + 1, none⟩ = some (.slice A530_1 ((rd_T85 l1 x5_1).f1).length c530_1)) (ds := []) (bs 10 0) (by kernel_rfl) rfl rfl ⟨((HB.out.cell (World.block_lt_of_cell? _ _ hw529_0)).trans hw529_0), ((HB.out.cell (World.block_lt_of_cell? _ _ hw529_1)).trans hw529_1), ((HB.out.cell (World.block_lt_of_cell? _ _ hw530_0)).trans hw530_0), ((HB.out.cell (World.block_lt_of_cell? _ _ hw530_1)).trans hw530_1)⟩ (fun hHeld => ?_); refine with_tabW F90.tab6 F90.bits6 (fun HT_ HW_ => ?_)
    generalize wr.drew = w11 at HB HR529_1 HR530_1 hx529_0 hx529_1 hx530_0 hx530_1 hHeld ⊢
    refine pu_ 0 17 (bs 10 1) HT_ ?_ rfl rfl
    refine pu_ 1 18 (bs 10 3) HT_ ?_ rfl rfl
    refine pu_ 2 19 (bs 10 7) HT_ ?_ rfl rfl
    refine pu_ 4 21 (bs 10 23) HT_ ?_ rfl rfl
    refine pu_ 5 22 (bs 10 55) HT_ ?_ rfl rfl
    refine pu_ 6 23 (bs 10 119) HT_ ?_ rfl rfl
    refine tk_ 3 20 (bs 10 127) HT_ HW_ hHeld au3_5 ?_ rfl rfl
    refine tk_ 7 24 (bs 10 255) HT_ HW_ hHeld au3_5 ?_ rfl rfl
    refine one_ (i := 8) (N := some 25) (bs 10 511) rfl rfl (one_of HT_.out (by kernel_rfl)) (by decide) (fun K hK => ?_)
    refine gr_ Tryd.func114 #[.agg #[.int .i64 ((rd_T85 l0 x5_1).f0), .slice A529_1 ((rd_T85 l0 x5_1).f1).length c529_1], .agg #[.int .i64 ((rd_T85 l1 x5_1).f0), .slice A530_1 ((rd_T85 l1 x5_1).f1).length c530_1]] (by rfl) ?_ rfl rfl rfl
    with_reducible refine (F114.calls k1 ((rd_T85 l0 x5_1).f0) _ _ ((rd_T85 l0 x5_1).f1) ((rd_T85 l1 x5_1).f0) _ _ ((rd_T85 l1 x5_1).f1) false _ ?s1 ?s2 ?s3 ?s4 A7.out).mono ?_
    (case s1 => exact au3_18)
    (case s2 => exact HC529_1.out)
    (case s3 => exact au3_19)
    (case s4 => exact HC530_1.out)
    rintro e w12 ⟨rfl, hb⟩
    refine ⟨_, rfl, ?_⟩
    replace HB := hs_ w hb
    (try clear hb)
    (try clear hb2)
    (try clear hk)
    (try clear hi)
    refine hK.out _ _ ⟨((HB.out.cell (World.block_lt_of_cell? _ _ hw529_0)).trans hw529_0), ((HB.out.cell (World.block_lt_of_cell? _ _ hw529_1)).trans hw529_1), ((HB.out.cell (World.block_lt_of_cell? _ _ hw530_0)).trans hw530_0), ((HB.out.cell (World.block_lt_of_cell? _ _ hw530_1)).trans hw530_1)⟩ (fun hHeld => ?_)
    clear hK K
    refine no_ 25 ?_
    refine pu_ 9 26 (bs 10 1023) HT_ ?_ rfl rfl
    refine done_ (done_of HT_.out (by kernel_rfl)) ?_
    try go_wp2
    go_ret
    exact ⟨au3_1, bl_⟩
   have H' := am_ H
   clear H
   try go_wp2
   replace HB := am_ (below_drew1 HB.out)
   have p529 : 0 ≤ (x5_1 : Int) := od_
   have q529 : x5_1 < (l0.length : Int) := od_
   obtain ⟨ad529, A529_1, c529_1, e529, hx529_0, hx529_1, hl529_1, hi529_1⟩ := at_T85 HR0.out x5_1 p529 q529
   have hw529_1 := hx529_1
   have hw529_0 := hx529_0
   cases e529
   replace hx529_0 := (HB.out.cell (World.block_lt_of_cell? _ _ hx529_0)).trans hx529_0
   replace hx529_1 := (HB.out.cell (World.block_lt_of_cell? _ _ hx529_1)).trans hx529_1
   have HR529_1 := am_ hi529_1
   have HC529_1 := am_ hl529_1
   clear hi529_1 hl529_1
   replace p529 := eq_true p529
   replace q529 := eq_true q529
   have p530 : 0 ≤ (x5_1 : Int) := od_
   have q530 : x5_1 < (l1.length : Int) := od_
   obtain ⟨ad530, A530_1, c530_1, e530, hx530_0, hx530_1, hl530_1, hi530_1⟩ := at_T85 HR1.out x5_1 p530 q530
   have hw530_1 := hx530_1
   have hw530_0 := hx530_0
   cases e530
   replace hx530_0 := (HB.out.cell (World.block_lt_of_cell? _ _ hx530_0)).trans hx530_0
   replace hx530_1 := (HB.out.cell (World.block_lt_of_cell? _ _ hx530_1)).trans hx530_1
   have HR530_1 := am_ hi530_1
   have HC530_1 := am_ hl530_1
   clear hi530_1 hl530_1
   replace p530 := eq_true p530
   replace q530 := eq_true q530
   refine start_ (n := 10) (S := fun w' => w'.cell? (ad529.add ((x5_1).toNat * 2)) = some (.int .i64 ((rd_T85 l0 x5_1).f0)) ∧ w'.cell? ⟨(ad529.add ((x5_1).toNat * 2)).block, (ad529.add ((x5_1).toNat * 2)).off + 1, none⟩ = some (.slice A529_1 ((rd_T85 l0 x5_1).f1).length c529_1) ∧ w'.cell? (ad530.add ((x5_1).toNat * 2)) = some (.int .i64 ((rd_T85 l1 x5_1).f0)) ∧ w'.cell? ⟨(ad530.add ((x5_1).toNat * 2)).block, (ad530.add ((x5_1).toNat * 2)).off + 1, none⟩ = some (.slice A530_1 ((rd_T85 l1 x5_1).f1).length c530_1)) (ds := []) (bs 10 0) (by kernel_rfl) rfl rfl ⟨((HB.out.cell (World.block_lt_of_cell? _ _ hw529_0)).trans hw529_0), ((HB.out.cell (World.block_lt_of_cell? _ _ hw529_1)).trans hw529_1), ((HB.out.cell (World.block_lt_of_cell? _ _ hw530_0)).trans hw530_0), ((HB.out.cell (World.block_lt_of_cell? _ _ hw530_1)).trans hw530_1)⟩ (fun hHeld => ?_); refine with_tabW F90.tab6 F90.bits6 (fun HT_ HW_ => ?_)
   generalize wr.drew = w9 at HB HR529_1 HR530_1 hx529_0 hx529_1 hx530_0 hx530_1 hHeld ⊢
   refine pu_ 0 17 (bs 10 1) HT_ ?_ rfl rfl
   refine pu_ 1 18 (bs 10 3) HT_ ?_ rfl rfl
   refine pu_ 2 19 (bs 10 7) HT_ ?_ rfl rfl
   refine pu_ 4 21 (bs 10 23) HT_ ?_ rfl rfl
   refine pu_ 5 22 (bs 10 55) HT_ ?_ rfl rfl
   refine pu_ 6 23 (bs 10 119) HT_ ?_ rfl rfl
   refine tk_ 3 20 (bs 10 127) HT_ HW_ hHeld au3_5 ?_ rfl rfl
   refine tk_ 7 24 (bs 10 255) HT_ HW_ hHeld au3_5 ?_ rfl rfl
   refine one_ (i := 8) (N := some 25) (bs 10 511) rfl rfl (one_of HT_.out (by kernel_rfl)) (by decide) (fun K hK => ?_)
   refine gr_ Tryd.func114 #[.agg #[.int .i64 ((rd_T85 l0 x5_1).f0), .slice A529_1 ((rd_T85 l0 x5_1).f1).length c529_1], .agg #[.int .i64 ((rd_T85 l1 x5_1).f0), .slice A530_1 ((rd_T85 l1 x5_1).f1).length c530_1]] (by rfl) ?_ rfl rfl rfl
   with_reducible refine (F114.calls k1 ((rd_T85 l0 x5_1).f0) _ _ ((rd_T85 l0 x5_1).f1) ((rd_T85 l1 x5_1).f0) _ _ ((rd_T85 l1 x5_1).f1) true _ ?s1 ?s2 ?s3 ?s4 A7.out).mono ?_
   (case s1 => exact au3_18)
   (case s2 => exact HC529_1.out)
   (case s3 => exact au3_19)
   (case s4 => exact HC530_1.out)
   rintro e w10 ⟨rfl, hb⟩
   refine ⟨_, rfl, ?_⟩
   replace HB := hs_ w hb
   (try clear hb)
   (try clear hb2)
   (try clear hk)
   (try clear hi)
   refine hK.out _ _ ⟨((HB.out.cell (World.block_lt_of_cell? _ _ hw529_0)).trans hw529_0), ((HB.out.cell (World.block_lt_of_cell? _ _ hw529_1)).trans hw529_1), ((HB.out.cell (World.block_lt_of_cell? _ _ hw530_0)).trans hw530_0), ((HB.out.cell (World.block_lt_of_cell? _ _ hw530_1)).trans hw530_1)⟩ (fun hHeld => ?_)
   clear hK K
   refine no_ 25 ?_
   refine pu_ 9 26 (bs 10 1023) HT_ ?_ rfl rfl
   refine done_ (done_of HT_.out (by kernel_rfl)) ?_
   try go_wp2
   go_roundg k1
   case measure => have := HK1.out; omega
   case rel => exact ⟨(wrap64 (x5_1 + 1)), er_, H', ⟨by have := HK1.out; omega⟩, ⟨bl_⟩⟩
end Go.Proofs.YtlghcbmkhdibdaaDoor.PFnExactIxCount
