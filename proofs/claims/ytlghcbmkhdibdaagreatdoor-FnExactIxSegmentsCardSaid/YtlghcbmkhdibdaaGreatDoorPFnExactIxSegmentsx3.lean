-- printed by a program of this session (wip/xp/xprint.py) out of the translation; Lean checks it
import Derived.Test.YtlghcbmkhdibdaaGreatDoorPFnExactIxSegmentsx0
import Derived.Test.YtlghcbmkhdibdaaGreatDoorPFnExactIxSegmentsx2
namespace Go.Proofs.YtlghcbmkhdibdaaGreatDoor.PFnExactIxSegments
open Go.RowKit Go.Proofs.YtlghcbmkhdibdaaGreatDoorW.PrintWords Go.Proofs.YtlghcbmkhdibdaaGreatDoorW.PrintLast Go.Proofs.YtlghcbmkhdibdaaGreatDoorW.PrintMore
attribute [local go_sem] max2_int min2_int max_two min_two max_three min_three max_four min_four   -- for this text's walks alone
set_option linter.unusedVariables false
set_option linter.unusedSimpArgs false
set_option maxHeartbeats 8000000
set_option maxRecDepth 100000

theorem au3_0 {p : Prop} (h : p := by first | rfl | (simp [errW_none, errW_some] <;> rfl) | (simp [*, errW_none, errW_some] <;> rfl)) : p := h
theorem au3_1 {p : Prop} (h : p := by (with_reducible repeat (first | apply Kd.S_alloc | apply Kd.S_drewN | apply Kd.S_drew)); exact HO_3.out) : p := h
theorem au3_3 {p : Prop} (h : p := by first | (with_reducible exact HZT.out) | exact HZT.out.below bl_) : p := h
theorem au3_4 {p : Prop} (h : p := by rintro w' ⟨s0, s1, s2, s3⟩; go_simp; with_reducible rfl) : p := h
theorem au3_5 {p : Prop} (h : p := by repeat (first | exact (Kd.C_below HR0_1.out HB.out) | (with_reducible refine Kd.C_alloc ?_ _) | (with_reducible refine Kd.C_drewN ?_ _) | (with_reducible refine Kd.C_drew ?_))) : p := h
theorem au3_6 {p : Prop} (h : p := by repeat (first | exact (Kd.C_below HR1_1.out HB.out) | (with_reducible refine Kd.C_alloc ?_ _) | (with_reducible refine Kd.C_drewN ?_ _) | (with_reducible refine Kd.C_drew ?_))) : p := h
theorem au3_7 {p : Prop} (h : p := by (with_reducible repeat (first | apply Kd.S_alloc | apply Kd.S_drewN | apply Kd.S_drew)); exact HO486.out) : p := h
theorem au3_8 {p : Prop} (h : p := by have g_ := (Kd.S_R HO_3.out).1 k_ e_.symm; first | exact g_.1.1 | exact g_.1 | exact g_.1.1.1) : p := h
theorem au3_9 {p : Prop} (h : p := by first | exact hk.1.1 | exact hk.1 | exact hk.1.1.1) : p := h
theorem au3_10 {p : Prop} (h : p := by repeat (first | exact (Kd.C_below HR0_3.out HB.out) | (with_reducible refine Kd.C_alloc ?_ _) | (with_reducible refine Kd.C_drewN ?_ _) | (with_reducible refine Kd.C_drew ?_))) : p := h
theorem au3_11 {p : Prop} (h : p := by first | exact Kd.S_nil _ _ _ _ _ | exact Kd.N_nil _ _ _ _ _ | exact Kd.V_nil _ _ _ _ _ | exact Kd.Q_nil _ _ _ _ _ | exact Kd.R_nil _ _ _ _ _) : p := h
theorem au3_12 {p : Prop} (h : p := by rintro w' ⟨s0, s1, s2⟩; go_simp; with_reducible rfl) : p := h
theorem au3_13 {p : Prop} (h : p := by rintro w' ⟨s0, s1⟩; go_simp; with_reducible rfl) : p := h
theorem au3_14 {p : Prop} (h : p := by (with_reducible repeat (first | apply Kd.S_alloc | apply Kd.S_drewN | apply Kd.S_drew)); exact HO480.out) : p := h
theorem au3_15 {p : Prop} (h : p := by repeat (first | exact (Kd.C_below HR509_0.out HB.out) | (with_reducible refine Kd.C_alloc ?_ _) | (with_reducible refine Kd.C_drewN ?_ _) | (with_reducible refine Kd.C_drew ?_))) : p := h
theorem au3_16 {p : Prop} (h : p := by repeat (first | exact (Kd.C_below HR510_0.out HB.out) | (with_reducible refine Kd.C_alloc ?_ _) | (with_reducible refine Kd.C_drewN ?_ _) | (with_reducible refine Kd.C_drew ?_))) : p := h
theorem au3_17 {p : Prop} (h : p := by repeat (first | exact (Kd.C_below HR515_1.out HB.out) | (with_reducible refine Kd.C_alloc ?_ _) | (with_reducible refine Kd.C_drewN ?_ _) | (with_reducible refine Kd.C_drew ?_))) : p := h
theorem au3_18 {p : Prop} (h : p := by repeat (first | exact (Kd.C_below HR516_1.out HB.out) | (with_reducible refine Kd.C_alloc ?_ _) | (with_reducible refine Kd.C_drewN ?_ _) | (with_reducible refine Kd.C_drew ?_))) : p := h
theorem au3_19 {p : Prop} (h : p := by repeat (first | exact (Kd.C_below HR521_1.out HB.out) | (with_reducible refine Kd.C_alloc ?_ _) | (with_reducible refine Kd.C_drewN ?_ _) | (with_reducible refine Kd.C_drew ?_))) : p := h
theorem au3_20 {p : Prop} (h : p := by repeat (first | exact (Kd.C_below HR522_1.out HB.out) | (with_reducible refine Kd.C_alloc ?_ _) | (with_reducible refine Kd.C_drewN ?_ _) | (with_reducible refine Kd.C_drew ?_))) : p := h
theorem au3_21 {p : Prop} (h : p := by repeat (first | exact (Kd.C_below HR0_0.out HB.out) | (with_reducible refine Kd.C_alloc ?_ _) | (with_reducible refine Kd.C_drewN ?_ _) | (with_reducible refine Kd.C_drew ?_))) : p := h
theorem au3_22 {p : Prop} (h : p := by repeat (first | exact (Kd.C_below HR1_0.out HB.out) | (with_reducible refine Kd.C_alloc ?_ _) | (with_reducible refine Kd.C_drewN ?_ _) | (with_reducible refine Kd.C_drew ?_))) : p := h
theorem au3_23 {p : Prop} (h : p := by repeat (first | (with_reducible first | exact HB2.out | apply below_alloc | apply pw_below_drewN | apply below_drew1) | exact HB2.out)) : p := h
theorem au3_24 {p : Prop} (h : p := by (with_reducible repeat (first | apply Kd.S_alloc | apply Kd.S_drewN | apply Kd.S_drew)); exact HO_398001.out) : p := h
theorem au3_2 {p : Prop} (h : p := by exact (by (with_reducible repeat (first | apply Kd.S_alloc | apply Kd.S_drewN | apply Kd.S_drew)); exact Kd.S_mono HO_3.out (fun k_ hk => ⟨hk.1.2.2, fun h9_ => Nat.not_le.2 au3_9 h9_.1⟩))) : p := h

/-! ### F60: function 60 -/
def F60.l0 : Nat → List ByteArray → Int → Int → ByteArray → List (S91) → Option (ByteArray × (List (S91)))
  | 0, _, _, _, _, _ => none
  | k + 1, x10, x11, x12, x387000, x387001 => if x12 < x11 then (if 0 ≤ x12 then (if x12 < (x10.length : Int) then (if x387001.length < 5864062014805 then (F60.l0 k x10 x11 (wrap64 (x12 + 1)) x387000 (x387001 ++ [(⟨(([rdOf ByteArray.empty x10 x12] : List ByteArray))⟩ : S91)])) else (none)) else (none)) else (none)) else (some (x387000, x387001))
def F60.f (k : Nat) (a0 : ByteArray) (l1 : List ByteArray) : Option (ByteArray × (List (S91))) := F60.l0 k l1 (l1.length : Int) 0 a0 ([] : List (S91))
theorem F60.mono_l : ∀ k, (∀ y0 y1 y2 y3 y4, LeO (F60.l0 k y0 y1 y2 y3 y4) (F60.l0 (k + 1) y0 y1 y2 y3 y4))
 | 0 => fun _ _ _ _ _ r h => by simp [F60.l0] at h
 | k + 1 => by
  have ih0 := F60.mono_l k
  intro y0 y1 y2 y3 y4
  unfold F60.l0
  repeat' with_reducible first | exact ih0 _ _ _ _ _ | exact LeO.refl _ | exact LeO.none _ | refine LeO.ite ?_ ?_ | refine LeO.bind ?_ (fun _ => ?_)
theorem F60.mono : ∀ a0 a1 k, LeO (F60.f k a0 a1) (F60.f (k + 1) a0 a1) := by
 intro a0 a1 k
 have ih0 := F60.mono_l k
 unfold F60.f
 repeat' with_reducible first | exact ih0 _ _ _ _ _ | exact LeO.refl _ | exact LeO.none _ | refine LeO.ite ?_ ?_ | refine LeO.bind ?_ (fun _ => ?_)
theorem F60.calls (k : Nat) (a0 : ByteArray) (A1 : Option Addr) (c1 : Nat) (l1 : List ByteArray) (r1 : ByteArray) (r2 : List (S91)) (w : World) (hr1 : Kd.C Kd.string w A1 l1.length l1) (hc1 : l1.length ≤ c1) (h : F60.f k a0 l1 = some (r1, r2)) :
  Calls Tryz.prog 60 #[.string a0, .slice A1 l1.length c1] w fun e w' => ∃ v1_ : Value, e = .returned (.agg #[.string r1, v1_]) ∧ Kd.S k91 91 w' w.heap.size (fun _ => True) v1_ r2 ∧ Below w.heap.size w w' := by
 have hu49 := Tryz.underlying49
 have hu91 := Tryz.underlying91
 have HR1 := am_ hr1
 have HC1 := am_ hc1
 clear hr1 hc1
 have HB := am_ (Below.refl w.heap.size w)
 have H : (F60.l0 k l1 (l1.length : Int) 0 a0 ([] : List (S91))) = some (r1, r2) := h
 clear h
 have H' := am_ H
 clear H
 go_enter Tryz.func60, Tryz.ntmps60
 go_wp2_with (first | ((with_reducible refine gate_dst (N := 4) rfl ?_); refine be_ 4 #[.string (⟨#[]⟩ : ByteArray), .slice none 0 0] 49 ?_; intro gb385 hg w3 hbox hb; have BK385 := am_ (hbox); have GW385 := am_ (gw_ hg bl_); have GE385 := GW385; replace HB := hs_ w hb; clear hb hbox hg) | ((with_reducible refine gate_dst (N := 5) rfl ?_); refine be_ 5 #[.string (⟨#[]⟩ : ByteArray), .slice none 0 0] 49 ?_; intro gb386 hg w4 hbox hb; have BK386 := am_ (hbox); have GW386 := am_ (gw_ hg bl_); have GE386 := GW386; replace HB := hs_ w hb; have NB385_386 := am_ (gn_ hg (blkl_ BK385)); have NB386_385 := am_ (gm_ hg (blkl_ BK385)); replace BK385 := bb_ BK385 hb; clear hb hbox hg; have hnb5 := NB386_385.out; have hnc5 := NB385_386.out; obtain ⟨hcz6_0, hcz6_1, hfz6_0, hfz6_1⟩ := cellsF2 BK386.out))
 go_loopg [12] k (fun kq v12 w' => ∃ (x12_1 : Int) (x387001_1 : List (S91)) (u387001 : Value), v12 = .int .i64 x12_1 ∧ Aside0 (F60.l0 kq l1 (l1.length : Int) x12_1 a0 x387001_1 = some (r1, r2)) ∧ Aside0 (kq ≤ k) ∧ Aside0 (Kd.S k91 91 w' w.heap.size (fun _ => True) u387001 x387001_1) ∧ Aside0 (w'.heap[gb385]? = some (.cells #[.string (⟨#[]⟩ : ByteArray), (.slice none 0 0)] 49 (0, 0))) ∧ Aside0 (w'.heap[gb386]? = some (.cells #[.string a0, u387001] 49 (0, 0))) ∧ Aside0 (Below w.heap.size w w'))
 case atStart => exact ⟨(0), (([] : List (S91))), (.slice none 0 0), er_, H', ⟨Nat.le_refl _⟩, ⟨au3_11⟩, ⟨bf_ BK385⟩, ⟨bq_ BK386⟩, ⟨bl_⟩⟩
 case round =>
  clear H'
  try clear c1
  try clear hcz6_0 hcz6_1
  try clear hfz6_0 hfz6_1
  obtain ⟨x12_1, x387001_1, u387001, rfl, HA, HK1, HO_387001, BK385, BK386, HB⟩ := hrel
  cases gk with
  | zero => exact absurd HA.out (by simp [F60.l0])
  | succ k1 =>
   have H := HA.out
   clear HA
   simp only [F60.l0] at H
   replace H := it_ H; rcases H with ⟨c7b0, H⟩ | ⟨c7b0, H⟩
   rotate_left
   ·simp only [Option.some.injEq, Prod.mk.injEq] at H
    obtain ⟨rfl, rfl⟩ := H
    have hnb19 := NB386_385.out
    have hnc19 := NB385_386.out
    obtain ⟨hcz20_0, hcz20_1, hfz20_0, hfz20_1⟩ := cellsF2 BK386.out
    obtain ⟨hcz21_0, hcz21_1, hfz21_0, hfz21_1⟩ := cellsF2 BK385.out
    obtain ⟨Ao22, co22, eo22⟩ := Kd.S_slice HO_387001.out
    subst eo22
    go_wp2
    refine bodyPost_ret (results_cell_row rfl _ _ gb385 49 #[.string a0, .slice Ao22 x387001_1.length co22] (0, 0) _ rfl (bq_ BK385) Tryz.underlying49 rfl (by kernel_rfl)) rfl ?_
    exact ⟨_, au3_0, by (with_reducible repeat (first | apply Kd.S_alloc | apply Kd.S_drewN | apply Kd.S_drew)); exact Kd.S_mono (Kd.S_far (p := ⟨gb385, 1, none⟩) (Kd.S_far (p := ⟨gb385, 0, none⟩) (Kd.S_types HO_387001.out BK385.out (by decide)) (fun _ hk => hk.2) (.string a0)) (fun _ hk => hk.2) (.slice Ao22 x387001_1.length co22)) (fun _ hk => trivial), bl_⟩

   replace H := itn_ H; rcases H with ⟨c8b0, H⟩
   replace H := itn_ H; rcases H with ⟨c9b0, H⟩
   obtain ⟨y388, hy388⟩ : ∃ y_ : List ByteArray, y_ = (([rdOf ByteArray.empty l1 x12_1] : List ByteArray)) := ⟨_, rfl⟩
   replace H : (if x387001_1.length < 5864062014805 then (F60.l0 k1 l1 (l1.length : Int) (wrap64 (x12_1 + 1)) a0 (x387001_1 ++ [(⟨y388⟩ : S91)])) else (none)) = some (r1, r2) := by first | (rw [hy388]; exact H) | exact H
   have Ny388 := am_ hy388
   clear hy388
   replace H := iln_ H; rcases H with ⟨LMc10, H⟩
   obtain ⟨y391, hy391⟩ : ∃ y_ : List (S91), y_ = (x387001_1 ++ [(⟨y388⟩ : S91)]) := ⟨_, rfl⟩
   replace H : (F60.l0 k1 l1 (l1.length : Int) (wrap64 (x12_1 + 1)) a0 y391) = some (r1, r2) := by first | (rw [hy391]; exact H) | exact H
   have Ny391 := am_ hy391
   clear hy391
   have H' := am_ H
   clear H
   have p387 : 0 ≤ (x12_1 : Int) := od_
   have q387 : x12_1 < (l1.length : Int) := od_
   obtain ⟨ad387, e387, hx387_0⟩ := Kd.at_string HR1.out x12_1 p387 q387
   cases e387
   replace hx387_0 := (HB.out.cell (World.block_lt_of_cell? _ _ hx387_0)).trans hx387_0
   replace p387 := eq_true p387
   replace q387 := eq_true q387
   have hnb11 := NB386_385.out
   have hnc11 := NB385_386.out
   obtain ⟨hcz12_0, hcz12_1, hfz12_0, hfz12_1⟩ := cellsF2 BK386.out
   go_wp2_with (first | ((with_reducible refine gate_dst (N := 19) rfl ?_); refine Kd.R_lit Kd.string _ 9 ?hg (N := 19) ?hd (xs := ([rdOf ByteArray.empty l1 x12_1] : List ByteArray)) (inner := [.string (rdOf ByteArray.empty l1 x12_1)]) (ok := fun _ => True) (okp := fun _ => True) ?hr ?hp (fun _ hk => hk) trivial (Below.refl _ _) (Nat.le_refl _) (by simp) ?_; (case hd => rfl); (case hg => rfl); (case hr => exact hr_); (case hp => exact (Reps.one (show Kd.M Kd.string _ _ _ (rdOf ByteArray.empty l1 x12_1) [.string (rdOf ByteArray.empty l1 x12_1)] from rfl) (Reps.none _ _))); intro v389 w13 ho14 hb hg_ hnew_; clear hg_ hnew_; (first | rw [← Ny388.out] at ho14 | (simp only [Int.reduceToNat] at ho14; rw [← Ny388.out] at ho14)); replace HO_387001 := am_ (Kd.S_elder' (by (with_reducible repeat (first | apply Kd.S_alloc | apply Kd.S_drewN | apply Kd.S_drew)); exact HO_387001.out) (Kd.R_base ho14) hb); have HO390 := am_ (Kd.R_lower ho14 (below_size bl_)); replace BK385 := bb_ BK385 hb; replace BK386 := bb_ BK386 hb; replace HB := hs_ w hb; clear hb ho14; obtain ⟨Ao15, co15, eo15⟩ := Kd.R_slice HO390.out; subst eo15) | ((with_reducible refine gate_builtin (b := .append) (xs := #[.tmp 17, .tmp 21]) rfl ?_); at_builtin; refine Kd.S_append k91 (w0 := w) w.heap.size rfl (.tmp 17) (.tmp 21) 47 91 (.agg #[(.slice none 0 0)]) 24 rfl Tryz.underlying47 info91 rfl (by decide) (by omega) u387001 x387001_1 (⟨y388⟩ : S91) [.slice Ao15 y388.length co15] (fun _ => True) (fun k_ => some k_ = (.slice Ao15 y388.length co15 : Value).ownBlock) rfl rfl ?aP (fun k_ hk_ => ((Kd.R_mono (ok' := fun k_ => ((fun _ => True)) k_ ∧ some k_ ≠ (u387001 : Value).ownBlock) (Kd.R_apart' (HO390.out) (Kd.S_typed HO_387001.out) (by decide)) (fun k_ hk => ⟨trivial, hk.2⟩))).1 k_ hk_.symm) ?aF ?aO ?aB ?aS ?aL ?_; (case aP => exact k91_mkM _ _ _ (⟨y388⟩ : S91) (Kd.R_mono (Kd.R_tight rfl (Kd.R_mono (ok' := fun k_ => ((fun _ => True)) k_ ∧ some k_ ≠ (u387001 : Value).ownBlock) (Kd.R_apart' (HO390.out) (Kd.S_typed HO_387001.out) (by decide)) (fun k_ hk => ⟨trivial, hk.2⟩))) (fun _ h_ => h_))); (case aB => exact bl_); (case aF => exact (fun _ _ => trivial)); (case aO => exact (by (with_reducible repeat (first | apply Kd.S_alloc | apply Kd.S_drewN | apply Kd.S_drew)); exact Kd.S_mono HO_387001.out (fun k_ hk => ⟨trivial, fun e_ => hk.2 e_⟩))); (case aS => exact (below_size bl_)); (case aL => have := LMc10.out; omega); intro v392 w16 ho hb hg hat; rw [← Ny391.out] at ho; have n0_ := am_ (bg_ BK385 hg (Kd.S_ne HO_387001.out BK385.out (by decide))); have n1_ := am_ (bg_ BK386 hg (Kd.S_ne HO_387001.out BK386.out (by decide))); have n2_ := am_ (hb); have n3_ := am_ (ho); clear BK385; clear BK386; clear HB; clear HO_387001; clear HO390; have BK385 := n0_; have BK386 := n1_; have HB := n2_; have HO393 := n3_; clear n0_ n1_ n2_ n3_; clear ho hb hg hat; obtain ⟨Ao17, co17, eo17⟩ := Kd.S_slice HO393.out; subst eo17; obtain ⟨hcz18_0, hcz18_1, hfz18_0, hfz18_1⟩ := cellsF2 BK386.out))
   go_roundg k1
   case measure => have := HK1.out; omega
   case rel => exact ⟨(wrap64 (x12_1 + 1)), (y391), (.slice Ao17 y391.length co17), er_, H', ⟨by have := HK1.out; omega⟩, ⟨by (with_reducible repeat (first | apply Kd.S_alloc | apply Kd.S_drewN | apply Kd.S_drew)); exact Kd.S_mono (Kd.S_far (p := ⟨gb386, 1, none⟩) (Kd.S_types HO393.out BK386.out (by decide)) (fun _ hk => hk.2) (.slice Ao17 y391.length co17)) (fun _ hk => trivial)⟩, ⟨bf_ BK385⟩, ⟨bq_ BK386⟩, ⟨bl_⟩⟩
/-! ### F96: function 96 -/
open Go.Shelf
def F96.ren : Go.Shelf.Ren := ⟨fun x => match x with | 173 => 96 | 246 => 114 | 283 => 126 | 284 => 127 | 285 => 128 | 286 => 129 | 129 => 137 | 317 => 136 | 318 => 138 | 319 => 139 | 320 => 140 | 337 => 148 | 338 => 149 | n => n, fun x => match x with | 2 => 2 | 3 => 3 | 9 => 9 | 4 => 4 | 171 => 163 | 0 => 0 | 53 => 102 | 37 => 37 | 5 => 5 | 173 => 166 | 212 => 177 | 51 => 178 | 20 => 20 | 213 => 179 | 46 => 132 | 232 => 199 | 233 => 200 | n => n, fun x => match x with | 17 => 0 | 18 => 3 | 19 => 4 | n => n⟩
theorem F96.lays : LaysM.n173 Tryz.prog F96.ren where
 mixed := by kernel_rfl
 f129 := Tryz.func137.trans (congrArg some (by kernel_rfl))
 f173 := Tryz.func96.trans (congrArg some (by kernel_rfl))
 f246 := Tryz.func114.trans (congrArg some (by kernel_rfl))
 f283 := Tryz.func126.trans (congrArg some (by kernel_rfl))
 f284 := Tryz.func127.trans (congrArg some (by kernel_rfl))
 f285 := Tryz.func128.trans (congrArg some (by kernel_rfl))
 f286 := Tryz.func129.trans (congrArg some (by kernel_rfl))
 f317 := Tryz.func136.trans (congrArg some (by kernel_rfl))
 f318 := Tryz.func138.trans (congrArg some (by kernel_rfl))
 f319 := Tryz.func139.trans (congrArg some (by kernel_rfl))
 f320 := Tryz.func140.trans (congrArg some (by kernel_rfl))
 f337 := Tryz.func148.trans (congrArg some (by kernel_rfl))
 f338 := Tryz.func149.trans (congrArg some (by kernel_rfl))
 t0 := Tryz.underlying0
 a0 := Tryz.isAgg0
 z0 := Tryz.sizeOf0
 v0 := Tryz.zeroValue0
 t2 := Tryz.underlying2
 a2 := Tryz.isAgg2
 z2 := Tryz.sizeOf2
 v2 := Tryz.zeroValue2
 t3 := Tryz.underlying3
 a3 := Tryz.isAgg3
 z3 := Tryz.sizeOf3
 v3 := Tryz.zeroValue3
 t4 := Tryz.underlying4
 a4 := Tryz.isAgg4
 z4 := Tryz.sizeOf4
 v4 := Tryz.zeroValue4
 t5 := Tryz.underlying5
 a5 := Tryz.isAgg5
 z5 := Tryz.sizeOf5
 v5 := Tryz.zeroValue5
 t9 := Tryz.underlying9
 a9 := Tryz.isAgg9
 z9 := Tryz.sizeOf9
 v9 := Tryz.zeroValue9
 t20 := Tryz.underlying20
 a20 := Tryz.isAgg20
 z20 := Tryz.sizeOf20
 v20 := Tryz.zeroValue20
 t37 := Tryz.underlying37
 a37 := Tryz.isAgg37
 z37 := Tryz.sizeOf37
 v37 := Tryz.zeroValue37
 t46 := Tryz.underlying132
 a46 := Tryz.isAgg132
 z46 := Tryz.sizeOf132
 v46 := Tryz.zeroValue132
 t51 := Tryz.underlying178
 a51 := Tryz.isAgg178
 z51 := Tryz.sizeOf178
 v51 := Tryz.zeroValue178
 t53 := Tryz.underlying102
 a53 := Tryz.isAgg102
 z53 := Tryz.sizeOf102
 v53 := Tryz.zeroValue102
 t171 := Tryz.underlying163
 a171 := Tryz.isAgg163
 z171 := Tryz.sizeOf163
 v171 := Tryz.zeroValue163
 t173 := Tryz.underlying166
 a173 := Tryz.isAgg166
 z173 := Tryz.sizeOf166
 v173 := Tryz.zeroValue166
 t212 := Tryz.underlying177
 a212 := Tryz.isAgg177
 z212 := Tryz.sizeOf177
 v212 := Tryz.zeroValue177
 t213 := Tryz.underlying179
 a213 := Tryz.isAgg179
 z213 := Tryz.sizeOf179
 t232 := Tryz.underlying199
 a232 := Tryz.isAgg199
 z232 := Tryz.sizeOf199
 v232 := Tryz.zeroValue199
 t233 := Tryz.underlying200
 a233 := Tryz.isAgg200
 z233 := Tryz.sizeOf200
 v233 := Tryz.zeroValue200
 g17 := by kernel_rfl
 g18 := by kernel_rfl
 g19 := by kernel_rfl
 i0 := by kernel_rfl
 i2 := by kernel_rfl
 i3 := by kernel_rfl
 i4 := by kernel_rfl
 i5 := by kernel_rfl
 i9 := by kernel_rfl
 i20 := by kernel_rfl
 i37 := by kernel_rfl
 i46 := by kernel_rfl
 i51 := by kernel_rfl
 i53 := by kernel_rfl
 i171 := by kernel_rfl
 i173 := by kernel_rfl
 i212 := by kernel_rfl
 i232 := by kernel_rfl
 i233 := by kernel_rfl
 m17 := by kernel_rfl
 m18 := by kernel_rfl
 m19 := by kernel_rfl
def F96.f (a0 : Int) (a1 : Int) : Option ByteArray := if a1 = 10 then (if -9223372036854775808 ≤ a0 ∧ a0 ≤ 9223372036854775807 then (some ⟨(Lib.itoa a0).toArray⟩) else (none)) else (none)
theorem F96.calls (a0 : Int) (a1 : Int) (r : ByteArray) (w : World) (hT : LaidT false Tryz.prog w) (h : F96.f a0 a1 = some r) :
  Calls Tryz.prog 96 #[.int .i64 a0, .int .i64 a1] w fun e w' => e = .returned (.string r) ∧ Below w.heap.size w w' := by
 unfold F96.f at h
 by_cases h1 : a1 = 10
 rotate_left
 ·rw [if_neg h1] at h
  cases h

 rw [if_pos h1] at h
 by_cases h2 : -9223372036854775808 ≤ a0 ∧ a0 ≤ 9223372036854775807
 rotate_left
 ·rw [if_neg h2] at h
  cases h
 rw [if_pos h2] at h
 subst h1
 obtain rfl := Option.some.inj h
 refine (Any.strconv_FormatInt_10 F96.lays a0 h2.1 h2.2 w hT.pow).mono ?_
 rintro e w' ⟨rfl, k, os, rfl⟩
 refine ⟨rfl, rfl, rfl, rfl, ?_, fun j hj => Array.getElem?_append_left hj⟩
 show w.heap.size ≤ (w.heap ++ os).size
 rw [Array.size_append]
 omega
/-! ### F61: function 61 -/
def F61.f (a0 : Int) : Option (ByteArray) := (F96.f a0 10).bind fun t394 => (some t394)
theorem F61.calls (a0 : Int) (r : ByteArray) (w : World) (hT : LaidT false Tryz.prog w) (h : F61.f a0 = some r) :
  Calls Tryz.prog 61 #[.int .i64 a0] w fun e w' => e = .returned (.string r) ∧ Below w.heap.size w w' := by
 have HZT := am_ hT
 clear hT
 have HB := am_ (Below.refl w.heap.size w)
 have H : ((F96.f a0 10).bind fun t394 => (some t394)) = some r := h
 clear h
 replace H := bi_ H; rcases H with ⟨t394, A2, H⟩
 obtain rfl := Option.some.inj H
 go_enter Tryz.func61, Tryz.ntmps61
 go_wp2_with (first | ((with_reducible refine gate_callee (f := 96) rfl ?_); refine gl_ 4 Tryz.func96 #[.int .i64 a0, .int .i64 10] ?_ rfl rfl rfl rfl; (with_reducible refine (F96.calls a0 10 t394 _ ?s1 A2.out).mono ?_); (case s1 => exact au3_3); rintro e w3 ⟨rfl, hb⟩; refine ⟨_, rfl, ?_⟩; replace HB := hs_ w hb; (try clear hb)))
 go_ret
 exact ⟨au3_0, bl_⟩

/-! ### F108: function 108 -/
def F108.f (l0 : List (ByteArray)) : Option (List (ByteArray)) := if l0.length < 8796093022208 then (some l0) else (none)
theorem F108.calls (A0 : Option Addr) (c0 : Nat) (l0 : List (ByteArray)) (r : List (ByteArray)) (w : World) (hr0 : Kd.C Kd.string w A0 l0.length l0) (hc0 : l0.length ≤ c0) (h : F108.f l0 = some r) :
  Calls Tryz.prog 108 #[.slice A0 l0.length c0] w fun e w' => ∃ v0_ : Value, e = .returned (v0_) ∧ Kd.R Kd.string 9 w' w.heap.size (fun _ => True) v0_ r ∧ Below w.heap.size w w' := by
 have hu := Tryz.underlying59
 have HR := am_ hr0
 clear hr0
 have HB := am_ (Below.refl w.heap.size w)
 by_cases hl : l0.length < 8796093022208
 rotate_left
 ·have H := h
  unfold F108.f at H
  rw [if_neg hl] at H
  cases H

 have H := h
 unfold F108.f at H
 rw [if_pos hl] at H
 obtain rfl := Option.some.inj H
 clear H h
 have HL := am_ hl
 clear hl
 cases A0 with
 | none =>
  have h0 : l0 = [] := by
   rcases l0 with _ | ⟨x, xs⟩
   ·rfl
   obtain ⟨ad, h1, _⟩ := HR.out.2.2 (by simp)
   cases h1
  subst h0
  have hq := fun (w : World) => Go.Lib.run_eql_slice_nil (P := Tryz.prog) w 59 9 none 0 c0 0 0 hu
  go_enter Tryz.func108, Tryz.ntmps108
  go_wp2
  go_ret
  exact ⟨_, rfl, Kd.R_nil _ _ _ _ _, HB.out⟩
 | some ad =>
  have hq := fun (w : World) => Go.Lib.run_eql_slice_nil (P := Tryz.prog) w 59 9 (some ad) l0.length c0 0 0 hu
  go_enter Tryz.func108, Tryz.ntmps108
  go_wp2_with (first
   | ((with_reducible refine gate_dst (N := 5) rfl ?_); refine Kd.R_lit Kd.string _ 9 ?hg (N := 5) ?hd (xs := ([] : List (ByteArray))) (inner := []) (ok := fun _ => True) (okp := fun _ => True) ?hr ?hp (fun _ hk => hk) trivial (Below.refl _ _) (Nat.le_refl _) (by simp) ?_; (case hd => rfl); (case hg => rfl); (case hr => exact hr_); (case hp => exact (Reps.none _ _)); intro v1 w1 ho hb hg_ hnew_; clear hg_ hnew_; have HO := am_ (Kd.R_lower ho (below_size HB.out)); have HB2 := am_ (below_step HB.out hb); clear ho hb)
   | ((with_reducible refine gate_builtin (b := .append) (xs := #[.tmp 5, .tmp 6]) rfl ?_); at_builtin; refine Kd.R_append_rows Kd.string (w0 := w) w.heap.size rfl (.tmp 5) (.tmp 6) 59 9 (.string ⟨#[]⟩) 16 rfl Tryz.underlying59 info9 rfl (by decide) (by omega) v1 ([] : List (ByteArray)) l0 _ _ _ (fun _ => True) (fun _ => False) rfl rfl ?aO ?aR (fun _ _ h => h) (fun _ h => h.elim) ?aF ?aB ?aS ?aL ?_; (case aR => repeat (first | exact (Kd.C_below HR.out HB2.out) | (with_reducible refine Kd.C_alloc ?_ _) | (with_reducible refine Kd.C_drewN ?_ _) | (with_reducible refine Kd.C_drew ?_))); (case aB => exact au3_23); (case aF => exact (fun _ _ => trivial)); (case aO => exact (by (with_reducible repeat (first | apply Kd.R_alloc | apply Kd.R_drewN | apply Kd.R_drew)); exact HO.out)); (case aS => exact (below_size au3_23)); (case aL => have := HL.out; simp only [List.length_nil]; omega); intro v2 w2 ho hb hg hat))
  go_ret
  exact ⟨_, rfl, by (with_reducible repeat (first | apply Kd.R_alloc | apply Kd.R_drewN | apply Kd.R_drew)); exact ho, by repeat (first | (with_reducible first | exact hb | apply below_alloc | apply pw_below_drewN | apply below_drew1) | exact hb)⟩
/-! ### F82: function 82 -/
def F82.l0 : Nat → List (S91) → Int → Int → ByteArray → List (S91) → Option (ByteArray × (List (S91)))
  | 0, _, _, _, _, _ => none
  | k + 1, x10, x11, x12, x398000, x398001 => if x12 < x11 then (if 0 ≤ x12 then (if x12 < (x10.length : Int) then ((F108.f ((rd_T91 x10 x12).f0)).bind fun t400 => (if x398001.length < 5864062014805 then (F82.l0 k x10 x11 (wrap64 (x12 + 1)) x398000 (x398001 ++ [(⟨t400⟩ : S91)])) else (none))) else (none)) else (none)) else (some (x398000, x398001))
def F82.f (k : Nat) (a0_0 : ByteArray) (l0_1 : List (S91)) : Option (ByteArray × (List (S91))) := F82.l0 k l0_1 (l0_1.length : Int) 0 a0_0 ([] : List (S91))
theorem F82.mono_l : ∀ k, (∀ y0 y1 y2 y3 y4, LeO (F82.l0 k y0 y1 y2 y3 y4) (F82.l0 (k + 1) y0 y1 y2 y3 y4))
 | 0 => fun _ _ _ _ _ r h => by simp [F82.l0] at h
 | k + 1 => by
  have ih0 := F82.mono_l k
  intro y0 y1 y2 y3 y4
  unfold F82.l0
  repeat' with_reducible first | exact ih0 _ _ _ _ _ | exact LeO.refl _ | exact LeO.none _ | refine LeO.ite ?_ ?_ | refine LeO.bind ?_ (fun _ => ?_)
theorem F82.mono : ∀ a0 a1 k, LeO (F82.f k a0 a1) (F82.f (k + 1) a0 a1) := by
 intro a0 a1 k
 have ih0 := F82.mono_l k
 unfold F82.f
 repeat' with_reducible first | exact ih0 _ _ _ _ _ | exact LeO.refl _ | exact LeO.none _ | refine LeO.ite ?_ ?_ | refine LeO.bind ?_ (fun _ => ?_)
def F82.T5 : Bool × List (List Nat × List Nat) := (true, [([], []), ([0], [0]), ([], []), ([2], [2]), ([3], [3]), ([4], [4]), ([5], [5]), ([1, 6, 4], [1, 6]), ([0, 1, 2, 3, 4, 5, 6, 7], []), ([8, 7, 7, 0, 1, 2, 3, 4, 5, 6, 7], [7, 8])])
def F82.B5 : List Nat := [0, 1, 0, 4, 12, 28, 60, 127, 255, 511]
theorem F82.tab5 : rtab .any (opsOf Tryz.f82 5) = F82.T5 := by kernel_rfl
theorem F82.bits5 : waitsOk F82.T5.2 F82.B5 = true := by kernel_rfl
theorem F82.calls (k : Nat) (a0_0 : ByteArray) (A0_1 : Option Addr) (c0_1 : Nat) (l0_1 : List (S91)) (r1 : ByteArray) (r2 : List (S91)) (w : World) (hr0_1 : Kd.C k91 w A0_1 l0_1.length l0_1) (hc0_1 : l0_1.length ≤ c0_1) (h : F82.f k a0_0 l0_1 = some (r1, r2)) :
  Calls Tryz.prog 82 #[.agg #[.string a0_0, .slice A0_1 l0_1.length c0_1]] w fun e w' => ∃ v1_ : Value, e = .returned (.agg #[.string r1, v1_]) ∧ Kd.S k91 91 w' w.heap.size (fun _ => True) v1_ r2 ∧ Below w.heap.size w w' := by
 have hu49 := Tryz.underlying49
 have hu91 := Tryz.underlying91
 have HR0_1 := am_ hr0_1
 have HC0_1 := am_ hc0_1
 clear hr0_1 hc0_1
 have HB := am_ (Below.refl w.heap.size w)
 have H : (F82.l0 k l0_1 (l0_1.length : Int) 0 a0_0 ([] : List (S91))) = some (r1, r2) := h
 clear h
 have H' := am_ H
 clear H
 go_enter Tryz.func82, Tryz.ntmps82
 go_wp2_with (first | ((with_reducible refine gate_dst (N := 1) rfl ?_); refine be_ 1 #[.string a0_0, .slice A0_1 l0_1.length c0_1] 49 ?_; intro gb395 hg w2 hbox hb; have BK395 := am_ (hbox); have GW395 := am_ (gw_ hg bl_); have GE395 := GW395; replace HB := hs_ w hb; clear hb hbox hg) | ((with_reducible refine gate_dst (N := 2) rfl ?_); refine be_ 2 #[.string (⟨#[]⟩ : ByteArray), .slice none 0 0] 49 ?_; intro gb396 hg w3 hbox hb; have BK396 := am_ (hbox); have GW396 := am_ (gw_ hg bl_); have GE396 := GW396; replace HB := hs_ w hb; have NB395_396 := am_ (gn_ hg (blkl_ BK395)); have NB396_395 := am_ (gm_ hg (blkl_ BK395)); replace BK395 := bb_ BK395 hb; clear hb hbox hg; have hnb4 := NB395_396.out; have hnc4 := NB396_395.out; obtain ⟨hcz5_0, hcz5_1, hfz5_0, hfz5_1⟩ := cellsF2 BK395.out) | ((with_reducible refine gate_dst (N := 3) rfl ?_); refine be_ 3 #[.string (⟨#[]⟩ : ByteArray), .slice none 0 0] 49 ?_; intro gb397 hg w6 hbox hb; have BK397 := am_ (hbox); have GW397 := am_ (gw_ hg bl_); have GE397 := GW397; replace HB := hs_ w hb; have NB395_397 := am_ (gn_ hg (blkl_ BK395)); have NB397_395 := am_ (gm_ hg (blkl_ BK395)); replace BK395 := bb_ BK395 hb; have NB396_397 := am_ (gn_ hg (blkl_ BK396)); have NB397_396 := am_ (gm_ hg (blkl_ BK396)); replace BK396 := bb_ BK396 hb; clear hb hbox hg; have hnb7 := NB397_395.out; have hnc7 := NB395_397.out; have hnb8 := NB397_396.out; have hnc8 := NB396_397.out; obtain ⟨hcz9_0, hcz9_1, hfz9_0, hfz9_1⟩ := cellsF2 BK397.out; obtain ⟨hcz10_0, hcz10_1, hfz10_0, hfz10_1⟩ := cellsF2 BK395.out))
 go_loopg [12] k (fun kq v12 w' => ∃ (x12_1 : Int) (x398001_1 : List (S91)) (u398001 : Value), v12 = .int .i64 x12_1 ∧ Aside0 (F82.l0 kq l0_1 (l0_1.length : Int) x12_1 a0_0 x398001_1 = some (r1, r2)) ∧ Aside0 (kq ≤ k) ∧ Aside0 (Kd.S k91 91 w' w.heap.size (fun _ => True) u398001 x398001_1) ∧ Aside0 (w'.heap[gb395]? = some (.cells #[.string a0_0, (.slice A0_1 l0_1.length c0_1)] 49 (0, 0))) ∧ Aside0 (w'.heap[gb396]? = some (.cells #[.string (⟨#[]⟩ : ByteArray), (.slice none 0 0)] 49 (0, 0))) ∧ Aside0 (w'.heap[gb397]? = some (.cells #[.string a0_0, u398001] 49 (0, 0))) ∧ Aside0 (Below w.heap.size w w'))
 case atStart => exact ⟨(0), (([] : List (S91))), (.slice none 0 0), er_, H', ⟨Nat.le_refl _⟩, ⟨au3_11⟩, ⟨bf_ BK395⟩, ⟨bf_ BK396⟩, ⟨bq_ BK397⟩, ⟨bl_⟩⟩
 case round =>
  clear H'
  try clear hcz10_0 hcz10_1
  try clear hcz5_0 hcz5_1
  try clear hcz9_0 hcz9_1
  try clear hfz10_0 hfz10_1
  try clear hfz5_0 hfz5_1
  try clear hfz9_0 hfz9_1
  obtain ⟨x12_1, x398001_1, u398001, rfl, HA, HK1, HO_398001, BK395, BK396, BK397, HB⟩ := hrel
  cases gk with
  | zero => exact absurd HA.out (by simp [F82.l0])
  | succ k1 =>
   have H := HA.out
   clear HA
   simp only [F82.l0] at H
   replace H := it_ H; rcases H with ⟨c11b0, H⟩ | ⟨c11b0, H⟩
   rotate_left
   ·simp only [Option.some.injEq, Prod.mk.injEq] at H
    obtain ⟨rfl, rfl⟩ := H
    have hnb28 := NB397_395.out
    have hnc28 := NB395_397.out
    have hnb29 := NB397_396.out
    have hnc29 := NB396_397.out
    obtain ⟨hcz30_0, hcz30_1, hfz30_0, hfz30_1⟩ := cellsF2 BK397.out
    have hnb31 := NB396_395.out
    have hnc31 := NB395_396.out
    obtain ⟨hcz32_0, hcz32_1, hfz32_0, hfz32_1⟩ := cellsF2 BK396.out
    obtain ⟨Ao33, co33, eo33⟩ := Kd.S_slice HO_398001.out
    subst eo33
    go_wp2
    refine bodyPost_ret (results_cell_row rfl _ _ gb396 49 #[.string a0_0, .slice Ao33 x398001_1.length co33] (0, 0) _ rfl (bq_ BK396) Tryz.underlying49 rfl (by kernel_rfl)) rfl ?_
    exact ⟨_, au3_0, by (with_reducible repeat (first | apply Kd.S_alloc | apply Kd.S_drewN | apply Kd.S_drew)); exact Kd.S_mono (Kd.S_far (p := ⟨gb396, 1, none⟩) (Kd.S_far (p := ⟨gb396, 0, none⟩) (Kd.S_types HO_398001.out BK396.out (by decide)) (fun _ hk => hk.2) (.string a0_0)) (fun _ hk => hk.2) (.slice Ao33 x398001_1.length co33)) (fun _ hk => trivial), bl_⟩

   replace H := itn_ H; rcases H with ⟨c12b0, H⟩
   replace H := itn_ H; rcases H with ⟨c13b0, H⟩
   replace H := bi_ H; rcases H with ⟨t400, A14, H⟩
   replace H := iln_ H; rcases H with ⟨LMc15, H⟩
   obtain ⟨y403, hy403⟩ : ∃ y_ : List (S91), y_ = (x398001_1 ++ [(⟨t400⟩ : S91)]) := ⟨_, rfl⟩
   replace H : (F82.l0 k1 l0_1 (l0_1.length : Int) (wrap64 (x12_1 + 1)) a0_0 y403) = some (r1, r2) := by first | (rw [hy403]; exact H) | exact H
   have Ny403 := am_ hy403
   clear hy403
   have H' := am_ H
   clear H
   have p398 : 0 ≤ (x12_1 : Int) := od_
   have q398 : x12_1 < (l0_1.length : Int) := od_
   obtain ⟨ad398, A398_0, c398_0, e398, hx398_0, hl398_0, hi398_0⟩ := at_T91 HR0_1.out x12_1 p398 q398
   cases e398
   replace hx398_0 := (HB.out.cell (World.block_lt_of_cell? _ _ hx398_0)).trans hx398_0
   have HR398_0 := am_ hi398_0
   have HC398_0 := am_ hl398_0
   clear hi398_0 hl398_0
   replace p398 := eq_true p398
   replace q398 := eq_true q398
   try go_wp2_with (first | ((with_reducible refine gate_dst (N := 5) rfl ?_); refine be_ 5 #[.slice none 0 0] 91 ?_; intro gb399 hg w16 hbox hb; replace HO_398001 := am_ (Kd.S_below (Kd.S_elderB au3_24 gb399 (Nat.le_of_eq hg.symm)) hb); have BK399 := am_ (hbox); have GW399 := am_ (gw_ hg bl_); have GE399 := GW399; replace HB := hs_ w hb; have NB395_399 := am_ (gn_ hg (blkl_ BK395)); have NB399_395 := am_ (gm_ hg (blkl_ BK395)); replace BK395 := bb_ BK395 hb; have NB396_399 := am_ (gn_ hg (blkl_ BK396)); have NB399_396 := am_ (gm_ hg (blkl_ BK396)); replace BK396 := bb_ BK396 hb; have NB397_399 := am_ (gn_ hg (blkl_ BK397)); have NB399_397 := am_ (gm_ hg (blkl_ BK397)); replace BK397 := bb_ BK397 hb; clear hb hbox hg; have hnb17 := NB399_395.out; have hnc17 := NB395_399.out; have hnb18 := NB399_396.out; have hnc18 := NB396_399.out; have hnb19 := NB399_397.out; have hnc19 := NB397_399.out; have hcz20_0 : w16.cell? ⟨gb399, 0, none⟩ = some (.slice none 0 0) := (blk_cell BK399.out 0).trans rfl; have hfz20_0 := blk_frozen BK399.out 0))
   have n0_ : Aside0 (Kd.S k91 91 (w16.setCell ⟨gb399, 0, none⟩ (.slice A398_0 ((rd_T91 l0_1 x12_1).f0).length c398_0)) w.heap.size (fun k_ => k_ ≠ gb399) u398001 x398001_1) := ⟨by (with_reducible repeat (first | apply Kd.S_alloc | apply Kd.S_drewN | apply Kd.S_drew)); exact Kd.S_mono (Kd.S_far (p := ⟨gb399, 0, none⟩) (Kd.S_mono HO_398001.out (fun k_ hk => (⟨hk, hk.2⟩ : _ ∧ k_ ≠ gb399))) (fun _ hk => hk.2) (.slice A398_0 ((rd_T91 l0_1 x12_1).f0).length c398_0)) (fun _ hk => hk.1.2)⟩
   have n1_ : Aside0 ((w16.setCell ⟨gb399, 0, none⟩ (.slice A398_0 ((rd_T91 l0_1 x12_1).f0).length c398_0)).heap[gb395]? = some (.cells #[.string a0_0, .slice (some ad398) l0_1.length c0_1] 49 (0, 0))) := ⟨bf_ BK395⟩
   have n2_ : Aside0 ((w16.setCell ⟨gb399, 0, none⟩ (.slice A398_0 ((rd_T91 l0_1 x12_1).f0).length c398_0)).heap[gb396]? = some (.cells #[.string (⟨#[]⟩ : ByteArray), .slice none 0 0] 49 (0, 0))) := ⟨bf_ BK396⟩
   have n3_ : Aside0 ((w16.setCell ⟨gb399, 0, none⟩ (.slice A398_0 ((rd_T91 l0_1 x12_1).f0).length c398_0)).heap[gb397]? = some (.cells #[.string a0_0, u398001] 49 (0, 0))) := ⟨bf_ BK397⟩
   have n4_ : Aside0 ((w16.setCell ⟨gb399, 0, none⟩ (.slice A398_0 ((rd_T91 l0_1 x12_1).f0).length c398_0)).heap[gb399]? = some (.cells #[.slice A398_0 ((rd_T91 l0_1 x12_1).f0).length c398_0] 91 (0, 0))) := ⟨bq_ BK399⟩
   have n5_ : Aside0 (Below w.heap.size w (w16.setCell ⟨gb399, 0, none⟩ (.slice A398_0 ((rd_T91 l0_1 x12_1).f0).length c398_0))) := ⟨bl_⟩
   (try clear HO_398001)
   (try clear BK395)
   (try clear BK396)
   (try clear BK397)
   (try clear BK399)
   (try clear HB)
   generalize (w16.setCell ⟨gb399, 0, none⟩ (.slice A398_0 ((rd_T91 l0_1 x12_1).f0).length c398_0)) = w21 at n0_ n1_ n2_ n3_ n4_ n5_ ⊢
   have HO_398001 := n0_
   have BK395 := n1_
   have BK396 := n2_
   have BK397 := n3_
   have BK399 := n4_
   have HB := n5_
   clear n0_ n1_ n2_ n3_ n4_ n5_
   replace HO_398001 := am_ (Kd.S_drew HO_398001.out)
   replace BK395 := bd_ BK395
   replace BK396 := bd_ BK396
   replace BK397 := bd_ BK397
   replace BK399 := bd_ BK399
   replace HB := am_ (below_drew1 HB.out)
   refine start_ (n := 10) (S := fun w' => w'.cell? ⟨gb397, 0, none⟩ = some (.string a0_0) ∧ w'.cell? ⟨gb397, 1, none⟩ = some (u398001) ∧ w'.cell? ⟨gb399, 0, none⟩ = some (.slice A398_0 ((rd_T91 l0_1 x12_1).f0).length c398_0)) (ds := [9]) (bs 10 0) (by kernel_rfl) rfl rfl ⟨(blk_cell BK397.out 0).trans rfl, (blk_cell BK397.out 1).trans rfl, (blk_cell BK399.out 0).trans rfl⟩ (fun hHeld => ?_); refine with_tabW F82.tab5 F82.bits5 (fun HT_ HW_ => ?_)
   generalize w21.drew = w22 at HO_398001 BK395 BK396 BK397 BK399 HB hHeld ⊢
   refine pu_ 0 16 (bs 10 1) HT_ ?_ rfl rfl
   refine pu_ 2 18 (bs 10 5) HT_ ?_ rfl rfl
   refine tk_ 1 17 (bs 10 7) HT_ HW_ hHeld au3_12 ?_ rfl rfl
   refine tk_ 3 19 (bs 10 15) HT_ HW_ hHeld au3_12 ?_ rfl rfl
   refine one_ (i := 4) (N := some 20) (bs 10 31) rfl rfl (one_of HT_.out (by kernel_rfl)) (by decide) (fun K hK => ?_)
   refine gr_ Tryz.func108 #[.slice A398_0 ((rd_T91 l0_1 x12_1).f0).length c398_0] (by rfl) ?_ rfl rfl rfl
   with_reducible refine (F108.calls _ _ ((rd_T91 l0_1 x12_1).f0) t400 _ ?s1 ?s2 A14.out).mono ?_
   (case s1 => repeat (first | exact (Kd.C_below HR398_0.out HB.out) | (with_reducible refine Kd.C_alloc ?_ _) | (with_reducible refine Kd.C_drewN ?_ _) | (with_reducible refine Kd.C_drew ?_)))
   (case s2 => exact HC398_0.out)
   rintro e w23 ⟨v401, rfl, ho0, hb⟩
   refine ⟨_, rfl, ?_⟩
   replace HO_398001 := am_ (Kd.S_elder' au3_24 (Kd.R_base ho0) hb)
   have HO402 := am_ (Kd.R_lower ho0 (below_size bl_))
   replace BK395 := bb_ BK395 hb
   replace BK396 := bb_ BK396 hb
   replace BK397 := bb_ BK397 hb
   replace BK399 := bb_ BK399 hb
   replace HB := hs_ w hb
   (try clear hb)
   (try clear hb2)
   (try clear hk)
   (try clear hi)
   (try clear ho0)
   obtain ⟨Ao24, co24, eo24⟩ := Kd.R_slice HO402.out
   (first | subst eo24 | (injection eo24 with f1_ f2_ f3_; have f4_ := f1_.symm; have f5_ := f3_.symm; clear f1_ f2_ f3_; subst f4_; subst f5_))
   refine hK.out _ _ ⟨(blk_cell BK397.out 0).trans rfl, (blk_cell BK397.out 1).trans rfl, (blk_cell BK399.out 0).trans rfl⟩ (fun hHeld => ?_)
   clear hK K
   refine no_ 20 ?_
   refine pu_ 5 21 (bs 10 63) HT_ ?_ rfl rfl
   refine one_ (i := 6) (N := some 22) (bs 10 127) rfl rfl (one_of HT_.out (by kernel_rfl)) (by decide) (fun K hK => ?_)
   refine value_ (w1 := ?_) (v := ?_) (by rfl) rfl ?_ ?_
   rotate_left 2
   ·go_simp
    constructor
    ·rfl
    ·rfl
   refine hK.out _ _ ⟨(blk_cell (blk_alloc BK397.out _) 0).trans rfl, (blk_cell (blk_alloc BK397.out _) 1).trans rfl, (blk_cell (blk_alloc BK399.out _) 0).trans rfl⟩ (fun hHeld => ?_)
   clear hK K
   refine no_ 22 ?_
   refine one_ (i := 7) (N := some 23) (bs 10 255) rfl rfl (one_of HT_.out (by kernel_rfl)) (by decide) (fun K hK => ?_)
   refine Kd.S_append_step k91 (w0 := w) w.heap.size (by rfl) (.tmp 17) (.tmp 22) 47 91 (.agg #[(.slice none 0 0)]) 24 rfl Tryz.underlying47 info91 rfl (by decide) (by omega) u398001 x398001_1 (⟨t400⟩ : S91) [.slice Ao24 t400.length co24] (fun k_ => k_ ≠ gb399) (fun k_ => some k_ = (.slice Ao24 t400.length co24 : Value).ownBlock) rfl rfl ?aP (fun k_ hk_ => ((Kd.R_mono (ok' := fun k_ => ((fun k_ => k_ ≠ gb399)) k_ ∧ some k_ ≠ (u398001 : Value).ownBlock) (Kd.R_types (Kd.R_apart' (HO402.out) (Kd.S_typed HO_398001.out) (by decide)) BK399.out (by decide)) (fun k_ hk => ⟨hk.2, hk.1.2⟩))).1 k_ hk_.symm) ?aF ?aO ?aB ?aS ?aL ?_
   (case aP => exact k91_mkM _ _ _ (⟨t400⟩ : S91) (Kd.R_mono (Kd.R_tight rfl (Kd.R_mono (ok' := fun k_ => ((fun k_ => k_ ≠ gb399)) k_ ∧ some k_ ≠ (u398001 : Value).ownBlock) (Kd.R_types (Kd.R_apart' (HO402.out) (Kd.S_typed HO_398001.out) (by decide)) BK399.out (by decide)) (fun k_ hk => ⟨hk.2, hk.1.2⟩))) (fun _ h_ => h_)))
   (case aB => exact bl_)
   (case aF => exact (fun k_ hk => Kd.freshB (g := gb399) (o := .cells #[.slice A398_0 ((rd_T91 l0_1 x12_1).f0).length c398_0] 91 (0, 0)) (bk_ BK399) k_ hk))
   (case aO => exact (by (with_reducible repeat (first | apply Kd.S_alloc | apply Kd.S_drewN | apply Kd.S_drew)); exact Kd.S_mono HO_398001.out (fun k_ hk => ⟨hk.1, fun e_ => hk.2 e_⟩)))
   (case aS => exact (below_size bl_))
   (case aL => have := LMc15.out; omega)
   intro v404 w25 ho hb hg hat
   rw [← Ny403.out] at ho
   have n0_ := am_ (bg_ BK395 hg (Kd.S_ne HO_398001.out BK395.out (by decide)))
   have n1_ := am_ (bg_ BK396 hg (Kd.S_ne HO_398001.out BK396.out (by decide)))
   have n2_ := am_ (bg_ BK397 hg (Kd.S_ne HO_398001.out BK397.out (by decide)))
   have n3_ := am_ (bg_ BK399 hg (Kd.S_away HO_398001.out (fun _ hk => hk.1)))
   have n4_ := am_ (hb)
   have n5_ := am_ (ho)
   clear BK395
   clear BK396
   clear BK397
   clear BK399
   clear HB
   clear HO_398001
   clear HO402
   have BK395 := n0_
   have BK396 := n1_
   have BK397 := n2_
   have BK399 := n3_
   have HB := n4_
   have HO405 := n5_
   clear n0_ n1_ n2_ n3_ n4_ n5_
   clear ho hb hg hat
   obtain ⟨Ao26, co26, eo26⟩ := Kd.S_slice HO405.out
   (first | subst eo26 | (injection eo26 with f1_ f2_ f3_; have f4_ := f1_.symm; have f5_ := f3_.symm; clear f1_ f2_ f3_; subst f4_; subst f5_))
   refine hK.out _ _ ⟨(blk_cell BK397.out 0).trans rfl, (blk_cell BK397.out 1).trans rfl, (blk_cell BK399.out 0).trans rfl⟩ (fun hHeld => ?_)
   clear hK K
   refine no_ 23 ?_
   refine pu_ 8 24 (bs 10 511) HT_ ?_ rfl rfl
   refine last_ (i := 9) (N := none) (bs 10 1023) rfl rfl (one_of HT_.out (by kernel_rfl)) (by decide) (fun K hK => ?_)
   have hs27 : w25.cell? ⟨gb397, 1, none⟩ = some (u398001) := (blk_cell BK397.out 1).trans rfl
   have hfs27 := blk_frozen BK397.out 1
   have hns27_0 := NB395_397.out
   have hns27_1 := NB396_397.out
   have hns27_3 := NB399_397.out
   have hms27_0 := NB397_395.out
   have hms27_1 := NB397_396.out
   have hms27_3 := NB397_399.out
   refine skip_ (w1 := ?_) (by rfl) rfl ?_ ?_
   rotate_left
   ·go_simp
    rfl
   refine hK.out _ _ ?_
   clear hK K
   refine done_ (done_of HT_.out (by kernel_rfl)) ?_
   try go_wp2
   go_roundg k1
   case measure => have := HK1.out; omega
   case rel => exact ⟨(wrap64 (x12_1 + 1)), (y403), (.slice Ao26 y403.length co26), er_, H', ⟨by have := HK1.out; omega⟩, ⟨by (with_reducible repeat (first | apply Kd.S_alloc | apply Kd.S_drewN | apply Kd.S_drew)); exact Kd.S_mono (Kd.S_far (p := ⟨gb397, 1, none⟩) (Kd.S_types HO405.out BK397.out (by decide)) (fun _ hk => hk.2) (.slice Ao26 y403.length co26)) (fun _ hk => trivial)⟩, ⟨bf_ BK395⟩, ⟨bf_ BK396⟩, ⟨bq_ BK397⟩, ⟨bl_⟩⟩
/-! ### F62: function 62 -/
def F62.l0 : Nat → List (S49) → List (S49) → Int → Int → Option ((List (S49)))
  | 0, _, _, _, _ => none
  | k + 1, x3, x7, x8, x9 => if x9 < x8 then (if 0 ≤ x9 then (if x9 < (x7.length : Int) then ((F82.f k ((rd_T49 x7 x9).f0) ((rd_T49 x7 x9).f1)).bind fun bt411 => (if x3.length < 3518437208883 then (F62.l0 k (x3 ++ [(⟨bt411.1, bt411.2⟩ : S49)]) x7 x8 (wrap64 (x9 + 1))) else (none))) else (none)) else (none)) else (some x3)
def F62.f (k : Nat) (l0 : List (S49)) : Option ((List (S49))) := F62.l0 k (([] : List (S49))) l0 (l0.length : Int) 0
theorem F62.mono_l : ∀ k, (∀ y0 y1 y2 y3, LeO (F62.l0 k y0 y1 y2 y3) (F62.l0 (k + 1) y0 y1 y2 y3))
 | 0 => fun _ _ _ _ r h => by simp [F62.l0] at h
 | k + 1 => by
  have ih0 := F62.mono_l k
  intro y0 y1 y2 y3
  unfold F62.l0
  repeat' with_reducible first | exact ih0 _ _ _ _ | exact F82.mono _ _ _ | exact LeO.refl _ | exact LeO.none _ | refine LeO.ite ?_ ?_ | refine LeO.bind ?_ (fun _ => ?_)
theorem F62.mono : ∀ a0 k, LeO (F62.f k a0) (F62.f (k + 1) a0) := by
 intro a0 k
 have ih0 := F62.mono_l k
 unfold F62.f
 repeat' with_reducible first | exact ih0 _ _ _ _ | exact F82.mono _ _ _ | exact LeO.refl _ | exact LeO.none _ | refine LeO.ite ?_ ?_ | refine LeO.bind ?_ (fun _ => ?_)
theorem F62.calls (k : Nat) (A0 : Option Addr) (c0 : Nat) (l0 : List (S49)) (r : List (S49)) (w : World) (hr0 : Kd.C k49 w A0 l0.length l0) (hc0 : l0.length ≤ c0) (h : F62.f k l0 = some r) :
  Calls Tryz.prog 62 #[.slice A0 l0.length c0] w fun e w' => ∃ v0_ : Value, e = .returned (v0_) ∧ Kd.S k49 49 w' w.heap.size (fun _ => True) v0_ r ∧ Below w.heap.size w w' := by
 have hu49 := Tryz.underlying49
 have HR0 := am_ hr0
 have HC0 := am_ hc0
 clear hr0 hc0
 have HB := am_ (Below.refl w.heap.size w)
 have H : (F62.l0 k (([] : List (S49))) l0 (l0.length : Int) 0) = some r := h
 clear h
 obtain ⟨y406, hy406⟩ : ∃ y_ : List (S49), y_ = (([] : List (S49))) := ⟨_, rfl⟩
 replace H : (F62.l0 k y406 l0 (l0.length : Int) 0) = some r := by first | (rw [hy406]; exact H) | exact H
 have Ny406 := am_ hy406
 clear hy406
 have H' := am_ H
 clear H
 go_enter Tryz.func62, Tryz.ntmps62
 go_wp2_with (first | ((with_reducible refine gate_dst (N := 6) rfl ?_); refine Kd.S_lit k49 _ 49 ?hg (N := 6) ?hd (xs := ([] : List (S49))) (inner := []) (ok := fun _ => True) (okp := fun _ => True) ?hr ?hp (fun _ hk => hk) trivial (Below.refl _ _) (Nat.le_refl _) (by simp) ?_; (case hd => rfl); (case hg => rfl); (case hr => exact hr_); (case hp => exact (Reps.none _ _)); intro v407 w2 ho3 hb hg_ hnew_; clear hg_ hnew_; (first | rw [← Ny406.out] at ho3 | (simp only [Int.reduceToNat] at ho3; rw [← Ny406.out] at ho3)); have HO408 := am_ (Kd.S_lower ho3 (below_size bl_)); replace HB := hs_ w hb; clear hb ho3))
 go_loopg [3, 9] k (fun kq v3 v9 w' => ∃ (x3_1 : List (S49)) (x9_1 : Int), v9 = .int .i64 x9_1 ∧ Aside0 (F62.l0 kq x3_1 l0 (l0.length : Int) x9_1 = some r) ∧ Aside0 (kq ≤ k) ∧ Aside0 (Kd.S k49 49 w' w.heap.size (fun _ => True) v3 x3_1) ∧ Aside0 (Below w.heap.size w w'))
 case atStart => exact ⟨(y406), (0), er_, H', ⟨Nat.le_refl _⟩, ⟨by (with_reducible repeat (first | apply Kd.S_alloc | apply Kd.S_drewN | apply Kd.S_drew)); exact HO408.out⟩, ⟨bl_⟩⟩
 case round =>
  clear H'
  obtain ⟨x3_1, x9_1, rfl, HA, HK1, HO_3, HB⟩ := hrel
  cases gk with
  | zero => exact absurd HA.out (by simp [F62.l0])
  | succ k1 =>
   have H := HA.out
   clear HA
   simp only [F62.l0] at H
   replace H := it_ H; rcases H with ⟨c4b0, H⟩ | ⟨c4b0, H⟩
   rotate_left
   ·obtain rfl := Option.some.inj H
    go_wp2
    go_ret
    exact ⟨_, au3_0, by (with_reducible repeat (first | apply Kd.S_alloc | apply Kd.S_drewN | apply Kd.S_drew)); exact HO_3.out, bl_⟩

   replace H := itn_ H; rcases H with ⟨c5b0, H⟩
   replace H := itn_ H; rcases H with ⟨c6b0, H⟩
   replace H := bi_ H; rcases H with ⟨⟨t411, t412⟩, A7, H⟩
   replace H := iln_ H; rcases H with ⟨LMc8, H⟩
   obtain ⟨y415, hy415⟩ : ∃ y_ : List (S49), y_ = (x3_1 ++ [(⟨t411, t412⟩ : S49)]) := ⟨_, rfl⟩
   replace H : (F62.l0 k1 y415 l0 (l0.length : Int) (wrap64 (x9_1 + 1))) = some r := by first | (rw [hy415]; exact H) | exact H
   have Ny415 := am_ hy415
   clear hy415
   have H' := am_ H
   clear H
   have p409 : 0 ≤ (x9_1 : Int) := od_
   have q409 : x9_1 < (l0.length : Int) := od_
   obtain ⟨ad409, A409_1, c409_1, e409, hx409_0, hx409_1, hl409_1, hi409_1⟩ := at_T49 HR0.out x9_1 p409 q409
   cases e409
   replace hx409_0 := (HB.out.cell (World.block_lt_of_cell? _ _ hx409_0)).trans hx409_0
   replace hx409_1 := (HB.out.cell (World.block_lt_of_cell? _ _ hx409_1)).trans hx409_1
   have HR409_1 := am_ hi409_1
   have HC409_1 := am_ hl409_1
   clear hi409_1 hl409_1
   replace p409 := eq_true p409
   replace q409 := eq_true q409
   go_wp2_with (first | ((with_reducible refine gate_dst (N := 5) rfl ?_); refine be_ 5 #[.string (⟨#[]⟩ : ByteArray), .slice none 0 0] 49 ?_; intro gb410 hg w9 hbox hb; replace HO_3 := am_ (Kd.S_below (Kd.S_elderB au3_1 gb410 (Nat.le_of_eq hg.symm)) hb); have BK410 := am_ (hbox); have GW410 := am_ (gw_ hg bl_); have GE410 := GW410; replace HB := hs_ w hb; clear hb hbox hg; obtain ⟨hcz10_0, hcz10_1, hfz10_0, hfz10_1⟩ := cellsF2 BK410.out) | ((with_reducible refine gate_callee (f := 82) rfl ?_); refine gl_ 15 Tryz.func82 #[.agg #[.string ((rd_T49 l0 x9_1).f0), .slice A409_1 ((rd_T49 l0 x9_1).f1).length c409_1]] ?_ rfl rfl rfl rfl; (with_reducible refine (F82.calls k1 ((rd_T49 l0 x9_1).f0) _ _ ((rd_T49 l0 x9_1).f1) t411 t412 _ ?s1 ?s2 A7.out).mono ?_); (case s1 => exact Kd.C_below HR409_1.out bl_); (case s2 => exact HC409_1.out); rintro e w11 ⟨v413, rfl, ho0, hb⟩; refine ⟨_, rfl, ?_⟩; obtain ⟨b9_, hb9_, ho9_⟩ := nb9_ ho0; replace HO_3 := am_ (Kd.S_elder' (Kd.S_mono (Kd.S_bound (by (with_reducible repeat (first | apply Kd.S_alloc | apply Kd.S_drewN | apply Kd.S_drew)); exact (Kd.S_mono (Kd.S_far (p := ⟨gb410, 1, none⟩) (Kd.S_far (p := ⟨gb410, 0, none⟩) (Kd.S_mono HO_3.out (fun k_ hk => (⟨hk, hk.2⟩ : _ ∧ k_ ≠ gb410))) (fun _ hk => hk.2) (.string ((rd_T49 l0 x9_1).f0))) (fun _ hk => hk.2) (.slice A409_1 ((rd_T49 l0 x9_1).f1).length c409_1)) (fun _ h_ => h_.1)))) (fun k_ hk_ => (⟨hb9_ _ hk_.2.2.1, hk_.1⟩ : k_ < b9_ ∧ _))) (Kd.S_base ho0) hb); have HO414 := am_ (Kd.S_lower ho9_ (below_size bl_)); replace BK410 := am_ (blk_below (g := gb410) (o := .cells #[.string ((rd_T49 l0 x9_1).f0), .slice A409_1 ((rd_T49 l0 x9_1).f1).length c409_1] 49 (0, 0)) (bq_ BK410) hb); replace HB := hs_ w hb; (try clear hb); (try clear hb2); (try clear hk); (try clear hi); (try clear ho0); obtain ⟨Ao13, co13, eo13⟩ := Kd.S_slice HO414.out; subst eo13) | ((with_reducible refine gate_builtin (b := .append) (xs := #[.tmp 13, .tmp 16]) rfl ?_); at_builtin; refine Kd.S_append k49 (w0 := w) w.heap.size rfl (.tmp 13) (.tmp 16) 26 49 (.agg #[(.string ⟨#[]⟩), (.slice none 0 0)]) 40 rfl Tryz.underlying26 info49 rfl (by decide) (by omega) u3 x3_1 (⟨t411, t412⟩ : S49) [.string t411, .slice Ao13 t412.length co13] (fun k_ => k_ ≠ gb410) (fun k_ => b9_ ≤ k_ ∧ (fun k_ => k_ ≠ gb410) k_) rfl rfl ?aP (fun k_ hk_ => ⟨hk_.2, fun e_ => Nat.not_le.2 au3_8 hk_.1⟩) ?aF ?aO ?aB ?aS ?aL ?_; (case aP => exact k49_mkM _ _ _ (⟨t411, t412⟩ : S49) (Kd.S_mono (Kd.S_types (Kd.S_apart' (HO414.out) (Kd.S_typed HO_3.out) (by decide)) BK410.out (by decide)) (fun k_ hk => ⟨au3_9, (show ((fun k_ => k_ ≠ gb410)) k_ ∧ some k_ ≠ (u3 : Value).ownBlock from ⟨hk.2, hk.1.2⟩).1⟩))); (case aB => exact bl_); (case aF => exact (fun k_ hk => Kd.freshB (g := gb410) (o := .cells #[.string ((rd_T49 l0 x9_1).f0), .slice A409_1 ((rd_T49 l0 x9_1).f1).length c409_1] 49 (0, 0)) (bk_ BK410) k_ hk)); (case aO => exact au3_2); (case aS => exact (below_size bl_)); (case aL => have := LMc8.out; omega); intro v416 w12 ho hb hg hat; rw [← Ny415.out] at ho; have n0_ := am_ (bg_ BK410 hg (Kd.S_away HO_3.out (fun _ hk => hk.1.2.2))); have n1_ := am_ (hb); have n2_ := am_ (ho); clear BK410; clear HB; clear HO_3; clear HO414; have BK410 := n0_; have HB := n1_; have HO417 := n2_; clear n0_ n1_ n2_; clear ho hb hg hat))
   go_roundg k1
   case measure => have := HK1.out; omega
   case rel => exact ⟨(y415), (wrap64 (x9_1 + 1)), er_, H', ⟨by have := HK1.out; omega⟩, ⟨by (with_reducible repeat (first | apply Kd.S_alloc | apply Kd.S_drewN | apply Kd.S_drew)); exact Kd.S_mono HO417.out (fun _ hk => trivial)⟩, ⟨bl_⟩⟩
/-! ### F30: function 30 -/
mutual
def F30.l0 : Nat → List (S49) → List (S53) → Int → Int → ByteArray → ByteArray → Int → List (S53) → Option ((List (S49)))
  | 0, _, _, _, _, _, _, _, _ => none
  | k + 1, x3, x19, x20, x21, x419000, x419001, x419002, x419003 => if x21 < x20 then (if 0 ≤ x21 then (if x21 < (x19.length : Int) then ((F61.f ((rd_T53 x19 x21).f0)).bind fun t444 => ((F61.f ((rd_T53 x19 x21).f1)).bind fun t445 => ((F60.f k (⟨#[71, 82, 72]⟩ : ByteArray) (([t444, t445] : List ByteArray))).bind fun bt449 => (if x3.length < 3518437208883 then (F30.l1 k (x3 ++ [(⟨bt449.1, bt449.2⟩ : S49)]) x19 x20 x21 ((rd_T53 x19 x21).f2) (((rd_T53 x19 x21).f2).length : Int) 0 x419000 x419001 x419002 x419003 ((rd_T53 x19 x21).f0) ((rd_T53 x19 x21).f1) ((rd_T53 x19 x21).f2)) else (none))))) else (none)) else (none)) else ((F61.f (x419003.length : Int)).bind fun t430 => ((F61.f x419002).bind fun t431 => ((F60.f k (⟨#[73, 88, 84]⟩ : ByteArray) (([t430, t431] : List ByteArray))).bind fun bt435 => (if x3.length < 3518437208883 then (some (x3 ++ [(⟨bt435.1, bt435.2⟩ : S49)])) else (none)))))
def F30.l1 : Nat → List (S49) → List (S53) → Int → Int → List (S56) → Int → Int → ByteArray → ByteArray → Int → List (S53) → Int → Int → List (S56) → Option ((List (S49)))
  | 0, _, _, _, _, _, _, _, _, _, _, _, _, _, _ => none
  | k + 1, x3, x19, x20, x21, x37, x38, x39, x419000, x419001, x419002, x419003, x444000, x444001, x444002 => if x39 < x38 then (if 0 ≤ x39 then (if x39 < (x37.length : Int) then ((F61.f ((rd_T56 x37 x39).f0)).bind fun t470 => ((F60.f k (⟨#[77, 83, 72]⟩ : ByteArray) (([t470] : List ByteArray))).bind fun bt474 => (if x3.length < 3518437208883 then ((some (x3 ++ [(⟨bt474.1, bt474.2⟩ : S49)] : List (S49))).bind fun y478 => ((F62.f k ((rd_T56 x37 x39).f1)).bind fun t481 => (if y478.length + t481.length < 3518437208883 then ((some (y478 ++ t481 : List (S49))).bind fun y484 => ((F61.f (((rd_T56 x37 x39).f1).length : Int)).bind fun t487 => ((F61.f ((rd_T56 x37 x39).f0)).bind fun t488 => ((F60.f k (⟨#[77, 83, 84]⟩ : ByteArray) (([t487, t488] : List ByteArray))).bind fun bt492 => (if y484.length < 3518437208883 then (F30.l1 k (y484 ++ [(⟨bt492.1, bt492.2⟩ : S49)]) x19 x20 x21 x37 x38 (wrap64 (x39 + 1)) x419000 x419001 x419002 x419003 x444000 x444001 x444002) else (none)))))) else (none)))) else (none)))) else (none)) else (none)) else ((F61.f (x444002.length : Int)).bind fun t456 => ((F61.f x444001).bind fun t457 => ((F60.f k (⟨#[71, 82, 84]⟩ : ByteArray) (([t456, t457] : List ByteArray))).bind fun bt461 => (if x3.length < 3518437208883 then (F30.l0 k (x3 ++ [(⟨bt461.1, bt461.2⟩ : S49)]) x19 x20 (wrap64 (x21 + 1)) x419000 x419001 x419002 x419003) else (none)))))
end
def F30.f (k : Nat) (a0_0 : ByteArray) (a0_1 : ByteArray) (a0_2 : Int) (l0_3 : List (S53)) : Option ((List (S49))) := (F61.f a0_2).bind fun t419 => ((F60.f k (⟨#[73, 88, 72]⟩ : ByteArray) (([a0_0, a0_1, t419] : List ByteArray))).bind fun bt423 => (F30.l0 k (([(⟨bt423.1, bt423.2⟩ : S49)] : List (S49))) l0_3 (l0_3.length : Int) 0 a0_0 a0_1 a0_2 l0_3))
theorem F30.mono_l : ∀ k, (∀ y0 y1 y2 y3 y4 y5 y6 y7, LeO (F30.l0 k y0 y1 y2 y3 y4 y5 y6 y7) (F30.l0 (k + 1) y0 y1 y2 y3 y4 y5 y6 y7)) ∧ (∀ y0 y1 y2 y3 y4 y5 y6 y7 y8 y9 y10 y11 y12 y13, LeO (F30.l1 k y0 y1 y2 y3 y4 y5 y6 y7 y8 y9 y10 y11 y12 y13) (F30.l1 (k + 1) y0 y1 y2 y3 y4 y5 y6 y7 y8 y9 y10 y11 y12 y13))
 | 0 => ⟨fun _ _ _ _ _ _ _ _ r h => by simp [F30.l0] at h, fun _ _ _ _ _ _ _ _ _ _ _ _ _ _ r h => by simp [F30.l1] at h⟩
 | k + 1 => by
  obtain ⟨ih0, ih1⟩ := F30.mono_l k
  refine ⟨?_, ?_⟩
  rotate_left
  ·intro y0 y1 y2 y3 y4 y5 y6 y7 y8 y9 y10 y11 y12 y13
   unfold F30.l1
   repeat' with_reducible first | exact ih0 _ _ _ _ _ _ _ _ | exact ih1 _ _ _ _ _ _ _ _ _ _ _ _ _ _ | exact F62.mono _ _ | exact F60.mono _ _ _ | exact LeO.refl _ | exact LeO.none _ | refine LeO.ite ?_ ?_ | refine LeO.bind ?_ (fun _ => ?_)
  intro y0 y1 y2 y3 y4 y5 y6 y7
  unfold F30.l0
  repeat' with_reducible first | exact ih0 _ _ _ _ _ _ _ _ | exact ih1 _ _ _ _ _ _ _ _ _ _ _ _ _ _ | exact F62.mono _ _ | exact F60.mono _ _ _ | exact LeO.refl _ | exact LeO.none _ | refine LeO.ite ?_ ?_ | refine LeO.bind ?_ (fun _ => ?_)
theorem F30.mono : ∀ a0 a1 a2 a3 k, LeO (F30.f k a0 a1 a2 a3) (F30.f (k + 1) a0 a1 a2 a3) := by
 intro a0 a1 a2 a3 k
 obtain ⟨ih0, ih1⟩ := F30.mono_l k
 unfold F30.f
 repeat' with_reducible first | exact ih0 _ _ _ _ _ _ _ _ | exact ih1 _ _ _ _ _ _ _ _ _ _ _ _ _ _ | exact F62.mono _ _ | exact F60.mono _ _ _ | exact LeO.refl _ | exact LeO.none _ | refine LeO.ite ?_ ?_ | refine LeO.bind ?_ (fun _ => ?_)
def F30.T1 : Bool × List (List Nat × List Nat) := (true, [([], []), ([0], [0]), ([], []), ([2], [2]), ([], []), ([4], [4]), ([5], [5]), ([1, 3, 6], [1, 3, 6]), ([7, 6], [7]), ([8], [8]), ([9, 8, 0, 1, 2, 3, 4, 5, 6, 7, 8, 9], [9])])
def F30.B1 : List Nat := [0, 1, 0, 4, 0, 16, 48, 127, 255, 511, 1023]
theorem F30.tab1 : rtab .any (opsOf Tryz.f30 1) = F30.T1 := by kernel_rfl
theorem F30.bits1 : waitsOk F30.T1.2 F30.B1 = true := by kernel_rfl
def F30.T5 : Bool × List (List Nat × List Nat) := (true, [([], []), ([], []), ([1], [1]), ([2], [2]), ([], []), ([4], [4]), ([5, 3], [5]), ([3, 6], [3, 6]), ([7, 6], [7]), ([8], [8]), ([0, 9, 8], [0, 9]), ([10, 10, 0, 1, 2, 3, 4, 5, 6, 7, 8, 9, 10], [0, 10])])
def F30.B5 : List Nat := [0, 0, 2, 6, 0, 16, 62, 126, 254, 510, 1023, 2047]
theorem F30.tab5 : rtab .any (opsOf Tryz.f30 5) = F30.T5 := by kernel_rfl
theorem F30.bits5 : waitsOk F30.T5.2 F30.B5 = true := by kernel_rfl
def F30.T11 : Bool × List (List Nat × List Nat) := (true, [([], []), ([], []), ([1], [1]), ([2], [2]), ([3], [3]), ([], []), ([5], [5]), ([6, 4], [6]), ([4, 7], [4, 7]), ([8, 7], [8]), ([9], [9]), ([0, 10, 9], [0, 10]), ([11, 11, 0, 1, 2, 3, 4, 5, 6, 7, 8, 9, 10, 11], [0, 11])])
def F30.B11 : List Nat := [0, 0, 2, 6, 14, 0, 32, 126, 254, 510, 1022, 2047, 4095]
theorem F30.tab11 : rtab .any (opsOf Tryz.f30 11) = F30.T11 := by kernel_rfl
theorem F30.bits11 : waitsOk F30.T11.2 F30.B11 = true := by kernel_rfl
def F30.T13 : Bool × List (List Nat × List Nat) := (true, [([], []), ([], []), ([1], [1]), ([2], [2]), ([3], [3]), ([], []), ([5], [5]), ([6, 4], [6]), ([4, 7], [4, 7]), ([8, 7], [8]), ([9], [9]), ([0, 10, 9], [0, 10]), ([11, 11, 0, 1, 2, 3, 4, 5, 6, 7, 8, 9, 10, 11], [0, 11])])
def F30.B13 : List Nat := [0, 0, 2, 6, 14, 0, 32, 126, 254, 510, 1022, 2047, 4095]
theorem F30.tab13 : rtab .any (opsOf Tryz.f30 13) = F30.T13 := by kernel_rfl
theorem F30.bits13 : waitsOk F30.T13.2 F30.B13 = true := by kernel_rfl
def F30.T15 : Bool × List (List Nat × List Nat) := (true, [([], []), ([], []), ([1], [1]), ([2], [2]), ([3], [3]), ([], []), ([5], [5]), ([6, 4], [6]), ([4, 7], [4, 7]), ([8, 7], [8]), ([9], [9]), ([0, 10, 9], [0, 10]), ([11, 11, 0, 1, 2, 3, 4, 5, 6, 7, 8, 9, 10, 11], [11])])
def F30.B15 : List Nat := [0, 0, 2, 6, 14, 0, 32, 126, 254, 510, 1022, 2047, 4095]
theorem F30.tab15 : rtab .any (opsOf Tryz.f30 15) = F30.T15 := by kernel_rfl
theorem F30.bits15 : waitsOk F30.T15.2 F30.B15 = true := by kernel_rfl
theorem F30.calls (k : Nat) (a0_0 : ByteArray) (a0_1 : ByteArray) (a0_2 : Int) (A0_3 : Option Addr) (c0_3 : Nat) (l0_3 : List (S53)) (r : List (S49)) (w : World) (hr0_3 : Kd.C k53 w A0_3 l0_3.length l0_3) (hc0_3 : l0_3.length ≤ c0_3) (hT : LaidT false Tryz.prog w) (h : F30.f k a0_0 a0_1 a0_2 l0_3 = some r) :
  Calls Tryz.prog 30 #[.agg #[.string a0_0, .string a0_1, .int .i64 a0_2, .slice A0_3 l0_3.length c0_3]] w fun e w' => ∃ v0_ : Value, e = .returned (v0_) ∧ Kd.S k49 49 w' w.heap.size (fun _ => True) v0_ r ∧ Below w.heap.size w w' := by
 have hu30 := Tryz.underlying30
 have hu53 := Tryz.underlying53
 have hu56 := Tryz.underlying56
 have HR0_3 := am_ hr0_3
 have HC0_3 := am_ hc0_3
 clear hr0_3 hc0_3
 have HZT := am_ hT
 clear hT
 have HB := am_ (Below.refl w.heap.size w)
 have H : ((F61.f a0_2).bind fun t419 => ((F60.f k (⟨#[73, 88, 72]⟩ : ByteArray) (([a0_0, a0_1, t419] : List ByteArray))).bind fun bt423 => (F30.l0 k (([(⟨bt423.1, bt423.2⟩ : S49)] : List (S49))) l0_3 (l0_3.length : Int) 0 a0_0 a0_1 a0_2 l0_3))) = some r := h
 clear h
 replace H := bi_ H; rcases H with ⟨t419, A2, H⟩
 obtain ⟨y420, hy420⟩ : ∃ y_ : List ByteArray, y_ = (([a0_0, a0_1, t419] : List ByteArray)) := ⟨_, rfl⟩
 replace H : ((F60.f k (⟨#[73, 88, 72]⟩ : ByteArray) y420).bind fun bt423 => (F30.l0 k (([(⟨bt423.1, bt423.2⟩ : S49)] : List (S49))) l0_3 (l0_3.length : Int) 0 a0_0 a0_1 a0_2 l0_3)) = some r := by first | (rw [hy420]; exact H) | exact H
 have Ny420 := am_ hy420
 clear hy420
 replace H := bi_ H; rcases H with ⟨⟨t423, t424⟩, A3, H⟩
 obtain ⟨y427, hy427⟩ : ∃ y_ : List (S49), y_ = (([(⟨t423, t424⟩ : S49)] : List (S49))) := ⟨_, rfl⟩
 replace H : (F30.l0 k y427 l0_3 (l0_3.length : Int) 0 a0_0 a0_1 a0_2 l0_3) = some r := by first | (rw [hy427]; exact H) | exact H
 have Ny427 := am_ hy427
 clear hy427
 have H' := am_ H
 clear H
 go_enter Tryz.func30, Tryz.ntmps30
 try go_wp2_with (first | ((with_reducible refine gate_dst (N := 1) rfl ?_); refine be_ 1 #[.string a0_0, .string a0_1, .int .i64 a0_2, .slice A0_3 l0_3.length c0_3] 30 ?_; intro gb418 hg w4 hbox hb; have BK418 := am_ (hbox); have GW418 := am_ (gw_ hg bl_); have GE418 := GW418; replace HB := hs_ w hb; clear hb hbox hg))
 replace BK418 := bd_ BK418
 replace HB := am_ (below_drew1 HB.out)
 refine start_ (n := 11) (S := fun w' => w'.cell? ⟨gb418, 0, none⟩ = some (.string a0_0) ∧ w'.cell? ⟨gb418, 1, none⟩ = some (.string a0_1) ∧ w'.cell? ⟨gb418, 2, none⟩ = some (.int .i64 a0_2) ∧ w'.cell? ⟨gb418, 3, none⟩ = some (.slice A0_3 l0_3.length c0_3)) (ds := []) (bs 11 0) (by kernel_rfl) rfl rfl ⟨(blk_cell BK418.out 0).trans rfl, (blk_cell BK418.out 1).trans rfl, (blk_cell BK418.out 2).trans rfl, (blk_cell BK418.out 3).trans rfl⟩ (fun hHeld => ?_); refine with_tabW F30.tab1 F30.bits1 (fun HT_ HW_ => ?_)
 generalize w4.drew = w5 at BK418 HB hHeld ⊢
 refine pu_ 0 8 (bs 11 1) HT_ ?_ rfl rfl
 refine pu_ 2 10 (bs 11 5) HT_ ?_ rfl rfl
 refine pu_ 4 12 (bs 11 21) HT_ ?_ rfl rfl
 refine tk_ 1 9 (bs 11 23) HT_ HW_ hHeld au3_4 ?_ rfl rfl
 refine tk_ 3 11 (bs 11 31) HT_ HW_ hHeld au3_4 ?_ rfl rfl
 refine tk_ 5 13 (bs 11 63) HT_ HW_ hHeld au3_4 ?_ rfl rfl
 refine one_ (i := 6) (N := some 14) (bs 11 127) rfl rfl (one_of HT_.out (by kernel_rfl)) (by decide) (fun K hK => ?_)
 refine gr_ Tryz.func61 #[.int .i64 a0_2] (by rfl) ?_ rfl rfl rfl
 with_reducible refine (F61.calls a0_2 t419 _ ?s1 A2.out).mono ?_
 (case s1 => exact au3_3)
 rintro e w6 ⟨rfl, hb⟩
 refine ⟨_, rfl, ?_⟩
 replace BK418 := bb_ BK418 hb
 replace HB := hs_ w hb
 (try clear hb)
 (try clear hb2)
 (try clear hk)
 (try clear hi)
 refine hK.out _ _ ⟨(blk_cell BK418.out 0).trans rfl, (blk_cell BK418.out 1).trans rfl, (blk_cell BK418.out 2).trans rfl, (blk_cell BK418.out 3).trans rfl⟩ (fun hHeld => ?_)
 clear hK K
 refine no_ 14 ?_
 refine one_ (i := 7) (N := some 15) (bs 11 255) rfl rfl (one_of HT_.out (by kernel_rfl)) (by decide) (fun K hK => ?_)
 refine Kd.R_lit_step Kd.string _ 9 ?hg (N := 15) ?hd (xs := ([a0_0, a0_1, t419] : List ByteArray)) (inner := [.string a0_0, .string a0_1, .string t419]) (ok := fun _ => True) (okp := fun _ => True) ?hr ?hp (fun _ hk => hk) trivial (Below.refl _ _) (Nat.le_refl _) (by simp) ?_; (case hd => rfl); (case hg => rfl); (case hr => exact hr_); (case hp => exact (Reps.one (show Kd.M Kd.string _ _ _ a0_0 [.string a0_0] from rfl) (Reps.one (show Kd.M Kd.string _ _ _ a0_1 [.string a0_1] from rfl) (Reps.one (show Kd.M Kd.string _ _ _ t419 [.string t419] from rfl) (Reps.none _ _)))))
 intro v421 w7 ho8 hb hg_ hnew_
 clear hg_ hnew_
 (first | rw [← Ny420.out] at ho8 | (simp only [Int.reduceToNat] at ho8; rw [← Ny420.out] at ho8))
 have HO422 := am_ (Kd.R_lower ho8 (below_size bl_))
 replace BK418 := bb_ BK418 hb
 replace HB := hs_ w hb
 clear hb ho8
 obtain ⟨Ao9, co9, eo9⟩ := Kd.R_slice HO422.out
 (first | subst eo9 | (injection eo9 with f1_ f2_ f3_; have f4_ := f1_.symm; have f5_ := f3_.symm; clear f1_ f2_ f3_; subst f4_; subst f5_))
 refine hK.out _ _ ⟨(blk_cell BK418.out 0).trans rfl, (blk_cell BK418.out 1).trans rfl, (blk_cell BK418.out 2).trans rfl, (blk_cell BK418.out 3).trans rfl⟩ (fun hHeld => ?_)
 clear hK K
 refine no_ 15 ?_
 refine one_ (i := 8) (N := some 16) (bs 11 511) rfl rfl (one_of HT_.out (by kernel_rfl)) (by decide) (fun K hK => ?_)
 refine gr_ Tryz.func60 #[.string (⟨#[73, 88, 72]⟩ : ByteArray), .slice Ao9 y420.length co9] (by rfl) ?_ rfl rfl rfl
 with_reducible refine (F60.calls k (⟨#[73, 88, 72]⟩ : ByteArray) _ _ y420 t423 t424 _ ?s1 ?s2 A3.out).mono ?_
 (case s1 => repeat (first | exact (Kd.R_reads' HO422.out).2.2 | (with_reducible refine Kd.C_alloc ?_ _) | (with_reducible refine Kd.C_drewN ?_ _) | (with_reducible refine Kd.C_drew ?_)))
 (case s2 => exact (Kd.R_reads' HO422.out).2.1)
 rintro e w10 ⟨v425, rfl, ho0, hb⟩
 refine ⟨_, rfl, ?_⟩
 have HO426 := am_ (Kd.S_lower (Kd.S_new' ho0 (Kd.R_lt (rk_ HO422))) (below_size bl_))
 replace HO422 := am_ (Kd.R_below (rk_ HO422) hb)
 replace BK418 := bb_ BK418 hb
 replace HB := hs_ w hb
 (try clear hb)
 (try clear hb2)
 (try clear hk)
 (try clear hi)
 (try clear ho0)
 obtain ⟨Ao11, co11, eo11⟩ := Kd.S_slice HO426.out
 (first | subst eo11 | (injection eo11 with f1_ f2_ f3_; have f4_ := f1_.symm; have f5_ := f3_.symm; clear f1_ f2_ f3_; subst f4_; subst f5_))
 refine hK.out _ _ ⟨(blk_cell BK418.out 0).trans rfl, (blk_cell BK418.out 1).trans rfl, (blk_cell BK418.out 2).trans rfl, (blk_cell BK418.out 3).trans rfl⟩ (fun hHeld => ?_)
 clear hK K
 refine no_ 16 ?_
 refine one_ (i := 9) (N := some 17) (bs 11 1023) rfl rfl (one_of HT_.out (by kernel_rfl)) (by decide) (fun K hK => ?_)
 refine Kd.S_lit1_step k49 w.heap.size 49 ?hg (N := 17) ?hd (x := (⟨t423, t424⟩ : S49)) (inner := [.string t423, .slice Ao11 t424.length co11]) (ok := fun _ => True) (okp := fun _ => True) ?hr rfl ?hp (fun _ hk => hk) trivial ?hS ?_; (case hd => rfl); (case hg => rfl); (case hr => exact hr_); (case hp => exact k49_mkM _ _ _ (⟨t423, t424⟩ : S49) (Kd.S_mono (by (with_reducible repeat (first | apply Kd.S_alloc | apply Kd.S_drewN | apply Kd.S_drew)); exact HO426.out) (fun _ _ => trivial))); (case hS => exact (below_size bl_))
 intro v428 w12 ho13 hb hg_ hnew_
 clear hg_ hnew_
 (first | rw [← Ny427.out] at ho13 | (simp only [Int.reduceToNat] at ho13; rw [← Ny427.out] at ho13))
 have n0_ := am_ (Kd.R_below (rk_ HO422) hb)
 have n1_ := am_ (ho13)
 have n2_ := bb_ BK418 hb
 have n3_ := am_ (below_step bl_ hb)
 clear HO422
 clear BK418
 clear HB
 clear HO426
 have HO422 := n0_
 have HO429 := n1_
 have BK418 := n2_
 have HB := n3_
 clear n0_ n1_ n2_ n3_
 clear hb ho13
 refine hK.out _ _ ⟨(blk_cell BK418.out 0).trans rfl, (blk_cell BK418.out 1).trans rfl, (blk_cell BK418.out 2).trans rfl, (blk_cell BK418.out 3).trans rfl⟩ (fun hHeld => ?_)
 clear hK K
 refine no_ 17 ?_
 refine pu_ 10 3 (bs 11 2047) HT_ ?_ rfl rfl
 refine done_ (done_of HT_.out (by kernel_rfl)) ?_
 obtain ⟨hcz14_0, hcz14_1, hcz14_2, hcz14_3, hfz14_0, hfz14_1, hfz14_2, hfz14_3⟩ := cellsF4 BK418.out
 try go_wp2
 go_loopg [3, 21] k (fun kq v3 v21 w' => ∃ (x3_1 : List (S49)) (x21_1 : Int), v21 = .int .i64 x21_1 ∧ Aside0 (F30.l0 kq x3_1 l0_3 (l0_3.length : Int) x21_1 a0_0 a0_1 a0_2 l0_3 = some r) ∧ Aside0 (kq ≤ k) ∧ Aside0 (Kd.S k49 49 w' w.heap.size (fun _ => True) v3 x3_1) ∧ Aside0 (w'.heap[gb418]? = some (.cells #[.string a0_0, .string a0_1, .int .i64 a0_2, (.slice A0_3 l0_3.length c0_3)] 30 (0, 0))) ∧ Aside0 (Below w.heap.size w w'))
 case atStart => exact ⟨(y427), (0), er_, H', ⟨Nat.le_refl _⟩, ⟨by (with_reducible repeat (first | apply Kd.S_alloc | apply Kd.S_drewN | apply Kd.S_drew)); exact HO429.out⟩, ⟨bk_ BK418⟩, ⟨bl_⟩⟩
 case round =>
  clear H'
  try clear hcz14_0 hcz14_1 hcz14_2 hcz14_3
  try clear hfz14_0 hfz14_1 hfz14_2 hfz14_3
  obtain ⟨x3_1, x21_1, rfl, HA, HK1, HO_3, BK418, HB⟩ := hrel
  cases gk with
  | zero => exact absurd HA.out (by simp [F30.l0])
  | succ k1 =>
   have H := HA.out
   clear HA
   simp only [F30.l0] at H
   replace H := it_ H; rcases H with ⟨c15b0, H⟩ | ⟨c15b0, H⟩
   rotate_left
   ·replace H := bi_ H; rcases H with ⟨t430, A85, H⟩
    replace H := bi_ H; rcases H with ⟨t431, A86, H⟩
    obtain ⟨y432, hy432⟩ : ∃ y_ : List ByteArray, y_ = (([t430, t431] : List ByteArray)) := ⟨_, rfl⟩
    replace H : ((F60.f k1 (⟨#[73, 88, 84]⟩ : ByteArray) y432).bind fun bt435 => (if x3_1.length < 3518437208883 then (some (x3_1 ++ [(⟨bt435.1, bt435.2⟩ : S49)])) else (none))) = some r := by first | (rw [hy432]; exact H) | exact H
    have Ny432 := am_ hy432
    clear hy432
    replace H := bi_ H; rcases H with ⟨⟨t435, t436⟩, A87, H⟩
    by_cases c88 : x3_1.length < 3518437208883
    rotate_left
    ·rw [if_neg c88] at H
     exact absurd H (by simp)

    rw [if_pos c88] at H
    have LMc88 := am_ c88
    clear c88
    obtain ⟨y439, hy439⟩ : ∃ y_ : List (S49), y_ = (x3_1 ++ [(⟨t435, t436⟩ : S49)]) := ⟨_, rfl⟩
    replace H : (some y439) = some r := by first | (rw [hy439]; exact H) | exact H
    have Ny439 := am_ hy439
    clear hy439
    obtain rfl := Option.some.inj H
    try go_wp2
    replace HO_3 := am_ (Kd.S_drew HO_3.out)
    replace BK418 := bd_ BK418
    replace HB := am_ (below_drew1 HB.out)
    refine start_ (n := 13) (S := fun w' => w'.cell? ⟨gb418, 0, none⟩ = some (.string a0_0) ∧ w'.cell? ⟨gb418, 1, none⟩ = some (.string a0_1) ∧ w'.cell? ⟨gb418, 2, none⟩ = some (.int .i64 a0_2) ∧ w'.cell? ⟨gb418, 3, none⟩ = some (.slice A0_3 l0_3.length c0_3)) (ds := []) (bs 13 0) (by kernel_rfl) rfl rfl ⟨(blk_cell BK418.out 0).trans rfl, (blk_cell BK418.out 1).trans rfl, (blk_cell BK418.out 2).trans rfl, (blk_cell BK418.out 3).trans rfl⟩ (fun hHeld => ?_); refine with_tabW F30.tab15 F30.bits15 (fun HT_ HW_ => ?_)
    generalize wr.drew = w89 at HO_3 BK418 HB hHeld ⊢
    refine pu_ 0 82 (bs 13 1) HT_ ?_ rfl rfl
    refine pu_ 1 83 (bs 13 3) HT_ ?_ rfl rfl
    refine pu_ 5 87 (bs 13 35) HT_ ?_ rfl rfl
    refine tk_ 2 84 (bs 13 39) HT_ HW_ hHeld au3_4 ?_ rfl rfl
    refine pu_ 3 85 (bs 13 47) HT_ ?_ rfl rfl
    refine tk_ 6 88 (bs 13 111) HT_ HW_ hHeld au3_4 ?_ rfl rfl
    refine one_ (i := 4) (N := some 86) (bs 13 127) rfl rfl (one_of HT_.out (by kernel_rfl)) (by decide) (fun K hK => ?_)
    refine gr_ Tryz.func61 #[.int .i64 (l0_3.length : Int)] (by rfl) ?_ rfl rfl rfl
    with_reducible refine (F61.calls (l0_3.length : Int) t430 _ ?s1 A85.out).mono ?_
    (case s1 => exact au3_3)
    rintro e w90 ⟨rfl, hb⟩
    refine ⟨_, rfl, ?_⟩
    replace HO_3 := am_ (Kd.S_below au3_1 hb)
    replace BK418 := bb_ BK418 hb
    replace HB := hs_ w hb
    (try clear hb)
    (try clear hb2)
    (try clear hk)
    (try clear hi)
    refine hK.out _ _ ⟨(blk_cell BK418.out 0).trans rfl, (blk_cell BK418.out 1).trans rfl, (blk_cell BK418.out 2).trans rfl, (blk_cell BK418.out 3).trans rfl⟩ (fun hHeld => ?_)
    clear hK K
    refine no_ 86 ?_
    refine one_ (i := 7) (N := some 89) (bs 13 255) rfl rfl (one_of HT_.out (by kernel_rfl)) (by decide) (fun K hK => ?_)
    refine gr_ Tryz.func61 #[.int .i64 a0_2] (by rfl) ?_ rfl rfl rfl
    with_reducible refine (F61.calls a0_2 t431 _ ?s1 A86.out).mono ?_
    (case s1 => exact au3_3)
    rintro e w91 ⟨rfl, hb⟩
    refine ⟨_, rfl, ?_⟩
    replace HO_3 := am_ (Kd.S_below au3_1 hb)
    replace BK418 := bb_ BK418 hb
    replace HB := hs_ w hb
    (try clear hb)
    (try clear hb2)
    (try clear hk)
    (try clear hi)
    refine hK.out _ _ ⟨(blk_cell BK418.out 0).trans rfl, (blk_cell BK418.out 1).trans rfl, (blk_cell BK418.out 2).trans rfl, (blk_cell BK418.out 3).trans rfl⟩ (fun hHeld => ?_)
    clear hK K
    refine no_ 89 ?_
    refine one_ (i := 8) (N := some 90) (bs 13 511) rfl rfl (one_of HT_.out (by kernel_rfl)) (by decide) (fun K hK => ?_)
    refine Kd.R_lit_step Kd.string _ 9 ?hg (N := 90) ?hd (xs := ([t430, t431] : List ByteArray)) (inner := [.string t430, .string t431]) (ok := fun _ => True) (okp := fun _ => True) ?hr ?hp (fun _ hk => hk) trivial (Below.refl _ _) (Nat.le_refl _) (by simp) ?_; (case hd => rfl); (case hg => rfl); (case hr => exact hr_); (case hp => exact (Reps.one (show Kd.M Kd.string _ _ _ t430 [.string t430] from rfl) (Reps.one (show Kd.M Kd.string _ _ _ t431 [.string t431] from rfl) (Reps.none _ _))))
    intro v433 w92 ho93 hb hg_ hnew_
    clear hg_ hnew_
    (first | rw [← Ny432.out] at ho93 | (simp only [Int.reduceToNat] at ho93; rw [← Ny432.out] at ho93))
    replace HO_3 := am_ (Kd.S_elder' au3_1 (Kd.R_base ho93) hb)
    have HO434 := am_ (Kd.R_lower ho93 (below_size bl_))
    replace BK418 := bb_ BK418 hb
    replace HB := hs_ w hb
    clear hb ho93
    obtain ⟨Ao94, co94, eo94⟩ := Kd.R_slice HO434.out
    (first | subst eo94 | (injection eo94 with f1_ f2_ f3_; have f4_ := f1_.symm; have f5_ := f3_.symm; clear f1_ f2_ f3_; subst f4_; subst f5_))
    refine hK.out _ _ ⟨(blk_cell BK418.out 0).trans rfl, (blk_cell BK418.out 1).trans rfl, (blk_cell BK418.out 2).trans rfl, (blk_cell BK418.out 3).trans rfl⟩ (fun hHeld => ?_)
    clear hK K
    refine no_ 90 ?_
    refine one_ (i := 9) (N := some 91) (bs 13 1023) rfl rfl (one_of HT_.out (by kernel_rfl)) (by decide) (fun K hK => ?_)
    refine gr_ Tryz.func60 #[.string (⟨#[73, 88, 84]⟩ : ByteArray), .slice Ao94 y432.length co94] (by rfl) ?_ rfl rfl rfl
    with_reducible refine (F60.calls k1 (⟨#[73, 88, 84]⟩ : ByteArray) _ _ y432 t435 t436 _ ?s1 ?s2 A87.out).mono ?_
    (case s1 => repeat (first | exact (Kd.R_reads' HO434.out).2.2 | (with_reducible refine Kd.C_alloc ?_ _) | (with_reducible refine Kd.C_drewN ?_ _) | (with_reducible refine Kd.C_drew ?_)))
    (case s2 => exact (Kd.R_reads' HO434.out).2.1)
    rintro e w95 ⟨v437, rfl, ho0, hb⟩
    refine ⟨_, rfl, ?_⟩
    obtain ⟨b9_, hb9_, ho9_⟩ := nb9_ ho0; replace HO_3 := am_ (Kd.S_elder' (Kd.S_mono (Kd.S_bound au3_1) (fun k_ hk_ => (⟨hb9_ _ hk_.2.2.1, hk_.1⟩ : k_ < b9_ ∧ _))) (Kd.S_base ho0) hb)
    have HO438 := am_ (Kd.S_lower (Kd.S_new' ho9_ (Kd.R_lt (rk_ HO434))) (below_size bl_))
    replace HO434 := am_ (Kd.R_below (rk_ HO434) hb)
    replace BK418 := bb_ BK418 hb
    replace HB := hs_ w hb
    (try clear hb)
    (try clear hb2)
    (try clear hk)
    (try clear hi)
    (try clear ho0)
    obtain ⟨Ao97, co97, eo97⟩ := Kd.S_slice HO438.out
    (first | subst eo97 | (injection eo97 with f1_ f2_ f3_; have f4_ := f1_.symm; have f5_ := f3_.symm; clear f1_ f2_ f3_; subst f4_; subst f5_))
    refine hK.out _ _ ⟨(blk_cell BK418.out 0).trans rfl, (blk_cell BK418.out 1).trans rfl, (blk_cell BK418.out 2).trans rfl, (blk_cell BK418.out 3).trans rfl⟩ (fun hHeld => ?_)
    clear hK K
    refine no_ 91 ?_
    refine one_ (i := 10) (N := some 92) (bs 13 2047) rfl rfl (one_of HT_.out (by kernel_rfl)) (by decide) (fun K hK => ?_)
    refine value_ (w1 := ?_) (v := ?_) (by rfl) rfl ?_ ?_
    rotate_left 2
    ·go_simp
     constructor
     ·rfl
     ·rfl
    refine hK.out _ _ ⟨(blk_cell (blk_alloc BK418.out _) 0).trans rfl, (blk_cell (blk_alloc BK418.out _) 1).trans rfl, (blk_cell (blk_alloc BK418.out _) 2).trans rfl, (blk_cell (blk_alloc BK418.out _) 3).trans rfl⟩ (fun hHeld => ?_)
    clear hK K
    refine no_ 92 ?_
    refine one_ (i := 11) (N := some 93) (bs 13 4095) rfl rfl (one_of HT_.out (by kernel_rfl)) (by decide) (fun K hK => ?_)
    refine Kd.S_append_step k49 (w0 := w) w.heap.size (by rfl) (.tmp 82) (.tmp 92) 26 49 (.agg #[(.string ⟨#[]⟩), (.slice none 0 0)]) 40 rfl Tryz.underlying26 info49 rfl (by decide) (by omega) u3 x3_1 (⟨t435, t436⟩ : S49) [.string t435, .slice Ao97 t436.length co97] (fun k_ => some k_ ≠ (.slice Ao94 y432.length co94 : Value).ownBlock) (fun k_ => b9_ ≤ k_ ∧ (fun k_ => some k_ ≠ (.slice Ao94 y432.length co94 : Value).ownBlock) k_) rfl rfl ?aP (fun k_ hk_ => ⟨hk_.2, fun e_ => Nat.not_le.2 au3_8 hk_.1⟩) ?aF ?aO ?aB ?aS ?aL ?_
    (case aP => exact k49_mkM _ _ _ (⟨t435, t436⟩ : S49) (Kd.S_mono (Kd.S_apart' (HO438.out) (Kd.S_typed HO_3.out) (by decide)) (fun k_ hk => ⟨au3_9, (show ((fun k_ => some k_ ≠ (.slice Ao94 y432.length co94 : Value).ownBlock)) k_ ∧ some k_ ≠ (u3 : Value).ownBlock from ⟨hk.1.2, hk.2⟩).1⟩)))
    (case aB => exact bl_)
    (case aF => exact (fun k_ hk => Kd.fresh' (Kd.R_lt (rk_ HO434)) k_ hk))
    (case aO => exact au3_2)
    (case aS => exact (below_size bl_))
    (case aL => have := LMc88.out; omega)
    intro v440 w96 ho hb hg hat
    rw [← Ny439.out] at ho
    have n0_ := am_ (bg_ BK418 hg (Kd.S_ne HO_3.out BK418.out (by decide)))
    have n1_ := am_ (Kd.R_over' (rk_ HO434) (Kd.S_typed au3_1) (by decide) hg)
    have n2_ := am_ (hb)
    have n3_ := am_ (ho)
    clear BK418
    clear HO434
    clear HB
    clear HO_3
    clear HO438
    have BK418 := n0_
    have HO434 := n1_
    have HB := n2_
    have HO441 := n3_
    clear n0_ n1_ n2_ n3_
    clear ho hb hg hat
    refine hK.out _ _ ⟨(blk_cell BK418.out 0).trans rfl, (blk_cell BK418.out 1).trans rfl, (blk_cell BK418.out 2).trans rfl, (blk_cell BK418.out 3).trans rfl⟩ (fun hHeld => ?_)
    clear hK K
    refine no_ 93 ?_
    refine pu_ 12 2 (bs 13 8191) HT_ ?_ rfl rfl
    refine done_ (done_of HT_.out (by kernel_rfl)) ?_
    try go_wp2
    go_ret
    exact ⟨_, au3_0, by (with_reducible repeat (first | apply Kd.S_alloc | apply Kd.S_drewN | apply Kd.S_drew)); exact Kd.S_mono HO441.out (fun _ hk => trivial), bl_⟩
   replace H := itn_ H; rcases H with ⟨c16b0, H⟩
   replace H := itn_ H; rcases H with ⟨c17b0, H⟩
   replace H := bi_ H; rcases H with ⟨t444, A18, H⟩
   replace H := bi_ H; rcases H with ⟨t445, A19, H⟩
   obtain ⟨y446, hy446⟩ : ∃ y_ : List ByteArray, y_ = (([t444, t445] : List ByteArray)) := ⟨_, rfl⟩
   replace H : ((F60.f k1 (⟨#[71, 82, 72]⟩ : ByteArray) y446).bind fun bt449 => (if x3_1.length < 3518437208883 then (F30.l1 k1 (x3_1 ++ [(⟨bt449.1, bt449.2⟩ : S49)]) l0_3 (l0_3.length : Int) x21_1 ((rd_T53 l0_3 x21_1).f2) (((rd_T53 l0_3 x21_1).f2).length : Int) 0 a0_0 a0_1 a0_2 l0_3 ((rd_T53 l0_3 x21_1).f0) ((rd_T53 l0_3 x21_1).f1) ((rd_T53 l0_3 x21_1).f2)) else (none))) = some r := by first | (rw [hy446]; exact H) | exact H
   have Ny446 := am_ hy446
   clear hy446
   replace H := bi_ H; rcases H with ⟨⟨t449, t450⟩, A20, H⟩
   replace H := iln_ H; rcases H with ⟨LMc21, H⟩
   obtain ⟨y453, hy453⟩ : ∃ y_ : List (S49), y_ = (x3_1 ++ [(⟨t449, t450⟩ : S49)]) := ⟨_, rfl⟩
   replace H : (F30.l1 k1 y453 l0_3 (l0_3.length : Int) x21_1 ((rd_T53 l0_3 x21_1).f2) (((rd_T53 l0_3 x21_1).f2).length : Int) 0 a0_0 a0_1 a0_2 l0_3 ((rd_T53 l0_3 x21_1).f0) ((rd_T53 l0_3 x21_1).f1) ((rd_T53 l0_3 x21_1).f2)) = some r := by first | (rw [hy453]; exact H) | exact H
   have Ny453 := am_ hy453
   clear hy453
   have H' := am_ H
   clear H
   have p442 : 0 ≤ (x21_1 : Int) := od_
   have q442 : x21_1 < (l0_3.length : Int) := od_
   obtain ⟨ad442, A442_2, c442_2, e442, hx442_0, hx442_1, hx442_2, hl442_2, hi442_2⟩ := at_T53 HR0_3.out x21_1 p442 q442
   cases e442
   replace hx442_0 := (HB.out.cell (World.block_lt_of_cell? _ _ hx442_0)).trans hx442_0
   replace hx442_1 := (HB.out.cell (World.block_lt_of_cell? _ _ hx442_1)).trans hx442_1
   replace hx442_2 := (HB.out.cell (World.block_lt_of_cell? _ _ hx442_2)).trans hx442_2
   have HR442_2 := am_ hi442_2
   have HC442_2 := am_ hl442_2
   clear hi442_2 hl442_2
   replace p442 := eq_true p442
   replace q442 := eq_true q442
   try go_wp2_with (first | ((with_reducible refine gate_dst (N := 5) rfl ?_); refine be_ 5 #[.int .i64 0, .int .i64 0, .slice none 0 0] 53 ?_; intro gb443 hg w22 hbox hb; replace HO_3 := am_ (Kd.S_below au3_1 hb); have BK443 := am_ (hbox); have GW443 := am_ (gw_ hg bl_); have GE443 := GW443; replace HB := hs_ w hb; have NB418_443 := am_ (gn_ hg (blkl_ BK418)); have NB443_418 := am_ (gm_ hg (blkl_ BK418)); replace BK418 := bb_ BK418 hb; clear hb hbox hg; have hnb23 := NB443_418.out; have hnc23 := NB418_443.out; obtain ⟨hcz24_0, hcz24_1, hcz24_2, hfz24_0, hfz24_1, hfz24_2⟩ := cellsF3 BK443.out))
   have n0_ : Aside0 (Kd.S k49 49 (((w22.setCell ⟨gb443, 0, none⟩ (.int .i64 ((rd_T53 l0_3 x21_1).f0))).setCell ⟨gb443, 1, none⟩ (.int .i64 ((rd_T53 l0_3 x21_1).f1))).setCell ⟨gb443, 2, none⟩ (.slice A442_2 ((rd_T53 l0_3 x21_1).f2).length c442_2)) w.heap.size (fun _ => True) u3 x3_1) := ⟨by (with_reducible repeat (first | apply Kd.S_alloc | apply Kd.S_drewN | apply Kd.S_drew)); exact Kd.S_mono (Kd.S_far (p := ⟨gb443, 2, none⟩) (Kd.S_far (p := ⟨gb443, 1, none⟩) (Kd.S_far (p := ⟨gb443, 0, none⟩) (Kd.S_types HO_3.out BK443.out (by decide)) (fun _ hk => hk.2) (.int .i64 ((rd_T53 l0_3 x21_1).f0))) (fun _ hk => hk.2) (.int .i64 ((rd_T53 l0_3 x21_1).f1))) (fun _ hk => hk.2) (.slice A442_2 ((rd_T53 l0_3 x21_1).f2).length c442_2)) (fun _ hk => trivial)⟩
   have n1_ : Aside0 ((((w22.setCell ⟨gb443, 0, none⟩ (.int .i64 ((rd_T53 l0_3 x21_1).f0))).setCell ⟨gb443, 1, none⟩ (.int .i64 ((rd_T53 l0_3 x21_1).f1))).setCell ⟨gb443, 2, none⟩ (.slice A442_2 ((rd_T53 l0_3 x21_1).f2).length c442_2)).heap[gb418]? = some (.cells #[.string a0_0, .string a0_1, .int .i64 a0_2, .slice (some ad442) l0_3.length c0_3] 30 (0, 0))) := ⟨bf_ BK418⟩
   have n2_ : Aside0 ((((w22.setCell ⟨gb443, 0, none⟩ (.int .i64 ((rd_T53 l0_3 x21_1).f0))).setCell ⟨gb443, 1, none⟩ (.int .i64 ((rd_T53 l0_3 x21_1).f1))).setCell ⟨gb443, 2, none⟩ (.slice A442_2 ((rd_T53 l0_3 x21_1).f2).length c442_2)).heap[gb443]? = some (.cells #[.int .i64 ((rd_T53 l0_3 x21_1).f0), .int .i64 ((rd_T53 l0_3 x21_1).f1), .slice A442_2 ((rd_T53 l0_3 x21_1).f2).length c442_2] 53 (0, 0))) := ⟨bq_ BK443⟩
   have n3_ : Aside0 (Below w.heap.size w (((w22.setCell ⟨gb443, 0, none⟩ (.int .i64 ((rd_T53 l0_3 x21_1).f0))).setCell ⟨gb443, 1, none⟩ (.int .i64 ((rd_T53 l0_3 x21_1).f1))).setCell ⟨gb443, 2, none⟩ (.slice A442_2 ((rd_T53 l0_3 x21_1).f2).length c442_2))) := ⟨bl_⟩
   (try clear HO_3)
   (try clear BK418)
   (try clear BK443)
   (try clear HB)
   generalize (((w22.setCell ⟨gb443, 0, none⟩ (.int .i64 ((rd_T53 l0_3 x21_1).f0))).setCell ⟨gb443, 1, none⟩ (.int .i64 ((rd_T53 l0_3 x21_1).f1))).setCell ⟨gb443, 2, none⟩ (.slice A442_2 ((rd_T53 l0_3 x21_1).f2).length c442_2)) = w25 at n0_ n1_ n2_ n3_ ⊢
   have HO_3 := n0_
   have BK418 := n1_
   have BK443 := n2_
   have HB := n3_
   clear n0_ n1_ n2_ n3_
   replace HO_3 := am_ (Kd.S_drew HO_3.out)
   replace BK418 := bd_ BK418
   replace BK443 := bd_ BK443
   replace HB := am_ (below_drew1 HB.out)
   refine start_ (n := 12) (S := fun w' => w'.cell? ⟨gb443, 0, none⟩ = some (.int .i64 ((rd_T53 l0_3 x21_1).f0)) ∧ w'.cell? ⟨gb443, 1, none⟩ = some (.int .i64 ((rd_T53 l0_3 x21_1).f1)) ∧ w'.cell? ⟨gb443, 2, none⟩ = some (.slice A442_2 ((rd_T53 l0_3 x21_1).f2).length c442_2)) (ds := []) (bs 12 0) (by kernel_rfl) rfl rfl ⟨(blk_cell BK443.out 0).trans rfl, (blk_cell BK443.out 1).trans rfl, (blk_cell BK443.out 2).trans rfl⟩ (fun hHeld => ?_); refine with_tabW F30.tab5 F30.bits5 (fun HT_ HW_ => ?_)
   generalize w25.drew = w26 at HO_3 BK418 BK443 HB hHeld ⊢
   refine pu_ 0 25 (bs 12 1) HT_ ?_ rfl rfl
   refine pu_ 1 26 (bs 12 3) HT_ ?_ rfl rfl
   refine pu_ 4 29 (bs 12 19) HT_ ?_ rfl rfl
   refine tk_ 2 27 (bs 12 23) HT_ HW_ hHeld au3_12 ?_ rfl rfl
   refine tk_ 5 30 (bs 12 55) HT_ HW_ hHeld au3_12 ?_ rfl rfl
   refine one_ (i := 3) (N := some 28) (bs 12 63) rfl rfl (one_of HT_.out (by kernel_rfl)) (by decide) (fun K hK => ?_)
   refine gr_ Tryz.func61 #[.int .i64 ((rd_T53 l0_3 x21_1).f0)] (by rfl) ?_ rfl rfl rfl
   with_reducible refine (F61.calls ((rd_T53 l0_3 x21_1).f0) t444 _ ?s1 A18.out).mono ?_
   (case s1 => exact au3_3)
   rintro e w27 ⟨rfl, hb⟩
   refine ⟨_, rfl, ?_⟩
   replace HO_3 := am_ (Kd.S_below au3_1 hb)
   replace BK418 := bb_ BK418 hb
   replace BK443 := bb_ BK443 hb
   replace HB := hs_ w hb
   (try clear hb)
   (try clear hb2)
   (try clear hk)
   (try clear hi)
   refine hK.out _ _ ⟨(blk_cell BK443.out 0).trans rfl, (blk_cell BK443.out 1).trans rfl, (blk_cell BK443.out 2).trans rfl⟩ (fun hHeld => ?_)
   clear hK K
   refine no_ 28 ?_
   refine one_ (i := 6) (N := some 31) (bs 12 127) rfl rfl (one_of HT_.out (by kernel_rfl)) (by decide) (fun K hK => ?_)
   refine gr_ Tryz.func61 #[.int .i64 ((rd_T53 l0_3 x21_1).f1)] (by rfl) ?_ rfl rfl rfl
   with_reducible refine (F61.calls ((rd_T53 l0_3 x21_1).f1) t445 _ ?s1 A19.out).mono ?_
   (case s1 => exact au3_3)
   rintro e w28 ⟨rfl, hb⟩
   refine ⟨_, rfl, ?_⟩
   replace HO_3 := am_ (Kd.S_below au3_1 hb)
   replace BK418 := bb_ BK418 hb
   replace BK443 := bb_ BK443 hb
   replace HB := hs_ w hb
   (try clear hb)
   (try clear hb2)
   (try clear hk)
   (try clear hi)
   refine hK.out _ _ ⟨(blk_cell BK443.out 0).trans rfl, (blk_cell BK443.out 1).trans rfl, (blk_cell BK443.out 2).trans rfl⟩ (fun hHeld => ?_)
   clear hK K
   refine no_ 31 ?_
   refine one_ (i := 7) (N := some 32) (bs 12 255) rfl rfl (one_of HT_.out (by kernel_rfl)) (by decide) (fun K hK => ?_)
   refine Kd.R_lit_step Kd.string _ 9 ?hg (N := 32) ?hd (xs := ([t444, t445] : List ByteArray)) (inner := [.string t444, .string t445]) (ok := fun _ => True) (okp := fun _ => True) ?hr ?hp (fun _ hk => hk) trivial (Below.refl _ _) (Nat.le_refl _) (by simp) ?_; (case hd => rfl); (case hg => rfl); (case hr => exact hr_); (case hp => exact (Reps.one (show Kd.M Kd.string _ _ _ t444 [.string t444] from rfl) (Reps.one (show Kd.M Kd.string _ _ _ t445 [.string t445] from rfl) (Reps.none _ _))))
   intro v447 w29 ho30 hb hg_ hnew_
   clear hg_ hnew_
   (first | rw [← Ny446.out] at ho30 | (simp only [Int.reduceToNat] at ho30; rw [← Ny446.out] at ho30))
   replace HO_3 := am_ (Kd.S_elder' au3_1 (Kd.R_base ho30) hb)
   have HO448 := am_ (Kd.R_lower ho30 (below_size bl_))
   replace BK418 := bb_ BK418 hb
   replace BK443 := bb_ BK443 hb
   replace HB := hs_ w hb
   clear hb ho30
   obtain ⟨Ao31, co31, eo31⟩ := Kd.R_slice HO448.out
   (first | subst eo31 | (injection eo31 with f1_ f2_ f3_; have f4_ := f1_.symm; have f5_ := f3_.symm; clear f1_ f2_ f3_; subst f4_; subst f5_))
   refine hK.out _ _ ⟨(blk_cell BK443.out 0).trans rfl, (blk_cell BK443.out 1).trans rfl, (blk_cell BK443.out 2).trans rfl⟩ (fun hHeld => ?_)
   clear hK K
   refine no_ 32 ?_
   refine one_ (i := 8) (N := some 33) (bs 12 511) rfl rfl (one_of HT_.out (by kernel_rfl)) (by decide) (fun K hK => ?_)
   refine gr_ Tryz.func60 #[.string (⟨#[71, 82, 72]⟩ : ByteArray), .slice Ao31 y446.length co31] (by rfl) ?_ rfl rfl rfl
   with_reducible refine (F60.calls k1 (⟨#[71, 82, 72]⟩ : ByteArray) _ _ y446 t449 t450 _ ?s1 ?s2 A20.out).mono ?_
   (case s1 => repeat (first | exact (Kd.R_reads' HO448.out).2.2 | (with_reducible refine Kd.C_alloc ?_ _) | (with_reducible refine Kd.C_drewN ?_ _) | (with_reducible refine Kd.C_drew ?_)))
   (case s2 => exact (Kd.R_reads' HO448.out).2.1)
   rintro e w32 ⟨v451, rfl, ho0, hb⟩
   refine ⟨_, rfl, ?_⟩
   obtain ⟨b9_, hb9_, ho9_⟩ := nb9_ ho0; replace HO_3 := am_ (Kd.S_elder' (Kd.S_mono (Kd.S_bound au3_1) (fun k_ hk_ => (⟨hb9_ _ hk_.2.2.1, hk_.1⟩ : k_ < b9_ ∧ _))) (Kd.S_base ho0) hb)
   have HO452 := am_ (Kd.S_lower (Kd.S_new' ho9_ (Kd.R_lt (rk_ HO448))) (below_size bl_))
   replace HO448 := am_ (Kd.R_below (rk_ HO448) hb)
   replace BK418 := bb_ BK418 hb
   replace BK443 := bb_ BK443 hb
   replace HB := hs_ w hb
   (try clear hb)
   (try clear hb2)
   (try clear hk)
   (try clear hi)
   (try clear ho0)
   obtain ⟨Ao34, co34, eo34⟩ := Kd.S_slice HO452.out
   (first | subst eo34 | (injection eo34 with f1_ f2_ f3_; have f4_ := f1_.symm; have f5_ := f3_.symm; clear f1_ f2_ f3_; subst f4_; subst f5_))
   refine hK.out _ _ ⟨(blk_cell BK443.out 0).trans rfl, (blk_cell BK443.out 1).trans rfl, (blk_cell BK443.out 2).trans rfl⟩ (fun hHeld => ?_)
   clear hK K
   refine no_ 33 ?_
   refine one_ (i := 9) (N := some 34) (bs 12 1023) rfl rfl (one_of HT_.out (by kernel_rfl)) (by decide) (fun K hK => ?_)
   refine value_ (w1 := ?_) (v := ?_) (by rfl) rfl ?_ ?_
   rotate_left 2
   ·go_simp
    constructor
    ·rfl
    ·rfl
   refine hK.out _ _ ⟨(blk_cell (blk_alloc BK443.out _) 0).trans rfl, (blk_cell (blk_alloc BK443.out _) 1).trans rfl, (blk_cell (blk_alloc BK443.out _) 2).trans rfl⟩ (fun hHeld => ?_)
   clear hK K
   refine no_ 34 ?_
   refine one_ (i := 10) (N := some 35) (bs 12 2047) rfl rfl (one_of HT_.out (by kernel_rfl)) (by decide) (fun K hK => ?_)
   refine Kd.S_append_step k49 (w0 := w) w.heap.size (by rfl) (.tmp 25) (.tmp 34) 26 49 (.agg #[(.string ⟨#[]⟩), (.slice none 0 0)]) 40 rfl Tryz.underlying26 info49 rfl (by decide) (by omega) u3 x3_1 (⟨t449, t450⟩ : S49) [.string t449, .slice Ao34 t450.length co34] (fun k_ => some k_ ≠ (.slice Ao31 y446.length co31 : Value).ownBlock) (fun k_ => b9_ ≤ k_ ∧ (fun k_ => some k_ ≠ (.slice Ao31 y446.length co31 : Value).ownBlock) k_) rfl rfl ?aP (fun k_ hk_ => ⟨hk_.2, fun e_ => Nat.not_le.2 au3_8 hk_.1⟩) ?aF ?aO ?aB ?aS ?aL ?_
   (case aP => exact k49_mkM _ _ _ (⟨t449, t450⟩ : S49) (Kd.S_mono (Kd.S_apart' (HO452.out) (Kd.S_typed HO_3.out) (by decide)) (fun k_ hk => ⟨au3_9, (show ((fun k_ => some k_ ≠ (.slice Ao31 y446.length co31 : Value).ownBlock)) k_ ∧ some k_ ≠ (u3 : Value).ownBlock from ⟨hk.1.2, hk.2⟩).1⟩)))
   (case aB => exact bl_)
   (case aF => exact (fun k_ hk => Kd.fresh' (Kd.R_lt (rk_ HO448)) k_ hk))
   (case aO => exact au3_2)
   (case aS => exact (below_size bl_))
   (case aL => have := LMc21.out; omega)
   intro v454 w33 ho hb hg hat
   rw [← Ny453.out] at ho
   have n0_ := am_ (bg_ BK418 hg (Kd.S_ne HO_3.out BK418.out (by decide)))
   have n1_ := am_ (bg_ BK443 hg (Kd.S_ne HO_3.out BK443.out (by decide)))
   have n2_ := am_ (Kd.R_over' (rk_ HO448) (Kd.S_typed au3_1) (by decide) hg)
   have n3_ := am_ (hb)
   have n4_ := am_ (ho)
   clear BK418
   clear BK443
   clear HO448
   clear HB
   clear HO_3
   clear HO452
   have BK418 := n0_
   have BK443 := n1_
   have HO448 := n2_
   have HB := n3_
   have HO455 := n4_
   clear n0_ n1_ n2_ n3_ n4_
   clear ho hb hg hat
   refine hK.out _ _ ⟨(blk_cell BK443.out 0).trans rfl, (blk_cell BK443.out 1).trans rfl, (blk_cell BK443.out 2).trans rfl⟩ (fun hHeld => ?_)
   clear hK K
   refine no_ 35 ?_
   refine pu_ 11 3 (bs 12 4095) HT_ ?_ rfl rfl
   refine done_ (done_of HT_.out (by kernel_rfl)) ?_
   obtain ⟨hcz35_0, hcz35_1, hcz35_2, hfz35_0, hfz35_1, hfz35_2⟩ := cellsF3 BK443.out
   try go_wp2
   go_loopg [3, 39] k1 (fun kq v3 v39 w' => ∃ (x3_2 : List (S49)) (x39_2 : Int), v39 = .int .i64 x39_2 ∧ Aside0 (F30.l1 kq x3_2 l0_3 (l0_3.length : Int) x21_1 ((rd_T53 l0_3 x21_1).f2) (((rd_T53 l0_3 x21_1).f2).length : Int) x39_2 a0_0 a0_1 a0_2 l0_3 ((rd_T53 l0_3 x21_1).f0) ((rd_T53 l0_3 x21_1).f1) ((rd_T53 l0_3 x21_1).f2) = some r) ∧ Aside0 (kq ≤ k1) ∧ Aside0 (Kd.S k49 49 w' w.heap.size (fun _ => True) v3 x3_2) ∧ Aside0 (w'.heap[gb418]? = some (.cells #[.string a0_0, .string a0_1, .int .i64 a0_2, (.slice (some ad442) l0_3.length c0_3)] 30 (0, 0))) ∧ Aside0 (w'.heap[gb443]? = some (.cells #[.int .i64 ((rd_T53 l0_3 x21_1).f0), .int .i64 ((rd_T53 l0_3 x21_1).f1), (.slice A442_2 ((rd_T53 l0_3 x21_1).f2).length c442_2)] 53 (0, 0))) ∧ Aside0 (Below w.heap.size w w'))
   case atStart => exact ⟨(y453), (0), er_, H', ⟨Nat.le_refl _⟩, ⟨by (with_reducible repeat (first | apply Kd.S_alloc | apply Kd.S_drewN | apply Kd.S_drew)); exact Kd.S_mono HO455.out (fun _ hk => trivial)⟩, ⟨bk_ BK418⟩, ⟨bk_ BK443⟩, ⟨bl_⟩⟩
   case round =>
    clear H'
    try clear c15b0
    try clear c16b0
    try clear c17b0
    try clear hcz14_0 hcz14_1 hcz14_2 hcz14_3
    try clear hcz24_0 hcz24_1 hcz24_2
    try clear hcz35_0 hcz35_1 hcz35_2
    try clear hfz14_0 hfz14_1 hfz14_2 hfz14_3
    try clear hfz24_0 hfz24_1 hfz24_2
    try clear hfz35_0 hfz35_1 hfz35_2
    try clear hx442_0
    try clear hx442_1
    try clear hx442_2
    try clear p442
    try clear q442
    obtain ⟨x3_2, x39_2, rfl, HA, HK2, HO_3, BK418, BK443, HB⟩ := hrel
    cases gk with
    | zero => exact absurd HA.out (by simp [F30.l1])
    | succ k2 =>
     have H := HA.out
     clear HA
     simp only [F30.l1] at H
     replace H := it_ H; rcases H with ⟨c36b0, H⟩ | ⟨c36b0, H⟩
     rotate_left
     ·replace H := bi_ H; rcases H with ⟨t456, A72, H⟩
      replace H := bi_ H; rcases H with ⟨t457, A73, H⟩
      obtain ⟨y458, hy458⟩ : ∃ y_ : List ByteArray, y_ = (([t456, t457] : List ByteArray)) := ⟨_, rfl⟩
      replace H : ((F60.f k2 (⟨#[71, 82, 84]⟩ : ByteArray) y458).bind fun bt461 => (if x3_2.length < 3518437208883 then (F30.l0 k2 (x3_2 ++ [(⟨bt461.1, bt461.2⟩ : S49)]) l0_3 (l0_3.length : Int) (wrap64 (x21_1 + 1)) a0_0 a0_1 a0_2 l0_3) else (none))) = some r := by first | (rw [hy458]; exact H) | exact H
      have Ny458 := am_ hy458
      clear hy458
      replace H := bi_ H; rcases H with ⟨⟨t461, t462⟩, A74, H⟩
      replace H := iln_ H; rcases H with ⟨LMc75, H⟩
      obtain ⟨y465, hy465⟩ : ∃ y_ : List (S49), y_ = (x3_2 ++ [(⟨t461, t462⟩ : S49)]) := ⟨_, rfl⟩
      replace H : (F30.l0 k2 y465 l0_3 (l0_3.length : Int) (wrap64 (x21_1 + 1)) a0_0 a0_1 a0_2 l0_3) = some r := by first | (rw [hy465]; exact H) | exact H
      have Ny465 := am_ hy465
      clear hy465
      have H' := am_ H
      clear H
      try go_wp2
      replace HO_3 := am_ (Kd.S_drew HO_3.out)
      replace BK418 := bd_ BK418
      replace BK443 := bd_ BK443
      replace HB := am_ (below_drew1 HB.out)
      refine start_ (n := 13) (S := fun w' => w'.cell? ⟨gb443, 0, none⟩ = some (.int .i64 ((rd_T53 l0_3 x21_1).f0)) ∧ w'.cell? ⟨gb443, 1, none⟩ = some (.int .i64 ((rd_T53 l0_3 x21_1).f1)) ∧ w'.cell? ⟨gb443, 2, none⟩ = some (.slice A442_2 ((rd_T53 l0_3 x21_1).f2).length c442_2)) (ds := []) (bs 13 0) (by kernel_rfl) rfl rfl ⟨(blk_cell BK443.out 0).trans rfl, (blk_cell BK443.out 1).trans rfl, (blk_cell BK443.out 2).trans rfl⟩ (fun hHeld => ?_); refine with_tabW F30.tab13 F30.bits13 (fun HT_ HW_ => ?_)
      generalize wr.drew = w76 at HO_3 BK418 BK443 HB hHeld ⊢
      refine pu_ 0 69 (bs 13 1) HT_ ?_ rfl rfl
      refine pu_ 1 70 (bs 13 3) HT_ ?_ rfl rfl
      refine pu_ 5 74 (bs 13 35) HT_ ?_ rfl rfl
      refine tk_ 2 71 (bs 13 39) HT_ HW_ hHeld au3_12 ?_ rfl rfl
      refine pu_ 3 72 (bs 13 47) HT_ ?_ rfl rfl
      refine tk_ 6 75 (bs 13 111) HT_ HW_ hHeld au3_12 ?_ rfl rfl
      refine one_ (i := 4) (N := some 73) (bs 13 127) rfl rfl (one_of HT_.out (by kernel_rfl)) (by decide) (fun K hK => ?_)
      refine gr_ Tryz.func61 #[.int .i64 (((rd_T53 l0_3 x21_1).f2).length : Int)] (by rfl) ?_ rfl rfl rfl
      with_reducible refine (F61.calls (((rd_T53 l0_3 x21_1).f2).length : Int) t456 _ ?s1 A72.out).mono ?_
      (case s1 => exact au3_3)
      rintro e w77 ⟨rfl, hb⟩
      refine ⟨_, rfl, ?_⟩
      replace HO_3 := am_ (Kd.S_below au3_1 hb)
      replace BK418 := bb_ BK418 hb
      replace BK443 := bb_ BK443 hb
      replace HB := hs_ w hb
      (try clear hb)
      (try clear hb2)
      (try clear hk)
      (try clear hi)
      refine hK.out _ _ ⟨(blk_cell BK443.out 0).trans rfl, (blk_cell BK443.out 1).trans rfl, (blk_cell BK443.out 2).trans rfl⟩ (fun hHeld => ?_)
      clear hK K
      refine no_ 73 ?_
      refine one_ (i := 7) (N := some 76) (bs 13 255) rfl rfl (one_of HT_.out (by kernel_rfl)) (by decide) (fun K hK => ?_)
      refine gr_ Tryz.func61 #[.int .i64 ((rd_T53 l0_3 x21_1).f1)] (by rfl) ?_ rfl rfl rfl
      with_reducible refine (F61.calls ((rd_T53 l0_3 x21_1).f1) t457 _ ?s1 A73.out).mono ?_
      (case s1 => exact au3_3)
      rintro e w78 ⟨rfl, hb⟩
      refine ⟨_, rfl, ?_⟩
      replace HO_3 := am_ (Kd.S_below au3_1 hb)
      replace BK418 := bb_ BK418 hb
      replace BK443 := bb_ BK443 hb
      replace HB := hs_ w hb
      (try clear hb)
      (try clear hb2)
      (try clear hk)
      (try clear hi)
      refine hK.out _ _ ⟨(blk_cell BK443.out 0).trans rfl, (blk_cell BK443.out 1).trans rfl, (blk_cell BK443.out 2).trans rfl⟩ (fun hHeld => ?_)
      clear hK K
      refine no_ 76 ?_
      refine one_ (i := 8) (N := some 77) (bs 13 511) rfl rfl (one_of HT_.out (by kernel_rfl)) (by decide) (fun K hK => ?_)
      refine Kd.R_lit_step Kd.string _ 9 ?hg (N := 77) ?hd (xs := ([t456, t457] : List ByteArray)) (inner := [.string t456, .string t457]) (ok := fun _ => True) (okp := fun _ => True) ?hr ?hp (fun _ hk => hk) trivial (Below.refl _ _) (Nat.le_refl _) (by simp) ?_; (case hd => rfl); (case hg => rfl); (case hr => exact hr_); (case hp => exact (Reps.one (show Kd.M Kd.string _ _ _ t456 [.string t456] from rfl) (Reps.one (show Kd.M Kd.string _ _ _ t457 [.string t457] from rfl) (Reps.none _ _))))
      intro v459 w79 ho80 hb hg_ hnew_
      clear hg_ hnew_
      (first | rw [← Ny458.out] at ho80 | (simp only [Int.reduceToNat] at ho80; rw [← Ny458.out] at ho80))
      replace HO_3 := am_ (Kd.S_elder' au3_1 (Kd.R_base ho80) hb)
      have HO460 := am_ (Kd.R_lower ho80 (below_size bl_))
      replace BK418 := bb_ BK418 hb
      replace BK443 := bb_ BK443 hb
      replace HB := hs_ w hb
      clear hb ho80
      obtain ⟨Ao81, co81, eo81⟩ := Kd.R_slice HO460.out
      (first | subst eo81 | (injection eo81 with f1_ f2_ f3_; have f4_ := f1_.symm; have f5_ := f3_.symm; clear f1_ f2_ f3_; subst f4_; subst f5_))
      refine hK.out _ _ ⟨(blk_cell BK443.out 0).trans rfl, (blk_cell BK443.out 1).trans rfl, (blk_cell BK443.out 2).trans rfl⟩ (fun hHeld => ?_)
      clear hK K
      refine no_ 77 ?_
      refine one_ (i := 9) (N := some 78) (bs 13 1023) rfl rfl (one_of HT_.out (by kernel_rfl)) (by decide) (fun K hK => ?_)
      refine gr_ Tryz.func60 #[.string (⟨#[71, 82, 84]⟩ : ByteArray), .slice Ao81 y458.length co81] (by rfl) ?_ rfl rfl rfl
      with_reducible refine (F60.calls k2 (⟨#[71, 82, 84]⟩ : ByteArray) _ _ y458 t461 t462 _ ?s1 ?s2 A74.out).mono ?_
      (case s1 => repeat (first | exact (Kd.R_reads' HO460.out).2.2 | (with_reducible refine Kd.C_alloc ?_ _) | (with_reducible refine Kd.C_drewN ?_ _) | (with_reducible refine Kd.C_drew ?_)))
      (case s2 => exact (Kd.R_reads' HO460.out).2.1)
      rintro e w82 ⟨v463, rfl, ho0, hb⟩
      refine ⟨_, rfl, ?_⟩
      obtain ⟨b9_, hb9_, ho9_⟩ := nb9_ ho0; replace HO_3 := am_ (Kd.S_elder' (Kd.S_mono (Kd.S_bound au3_1) (fun k_ hk_ => (⟨hb9_ _ hk_.2.2.1, hk_.1⟩ : k_ < b9_ ∧ _))) (Kd.S_base ho0) hb)
      have HO464 := am_ (Kd.S_lower (Kd.S_new' ho9_ (Kd.R_lt (rk_ HO460))) (below_size bl_))
      replace HO460 := am_ (Kd.R_below (rk_ HO460) hb)
      replace BK418 := bb_ BK418 hb
      replace BK443 := bb_ BK443 hb
      replace HB := hs_ w hb
      (try clear hb)
      (try clear hb2)
      (try clear hk)
      (try clear hi)
      (try clear ho0)
      obtain ⟨Ao84, co84, eo84⟩ := Kd.S_slice HO464.out
      (first | subst eo84 | (injection eo84 with f1_ f2_ f3_; have f4_ := f1_.symm; have f5_ := f3_.symm; clear f1_ f2_ f3_; subst f4_; subst f5_))
      refine hK.out _ _ ⟨(blk_cell BK443.out 0).trans rfl, (blk_cell BK443.out 1).trans rfl, (blk_cell BK443.out 2).trans rfl⟩ (fun hHeld => ?_)
      clear hK K
      refine no_ 78 ?_
      refine one_ (i := 10) (N := some 79) (bs 13 2047) rfl rfl (one_of HT_.out (by kernel_rfl)) (by decide) (fun K hK => ?_)
      refine value_ (w1 := ?_) (v := ?_) (by rfl) rfl ?_ ?_
      rotate_left 2
      ·go_simp
       constructor
       ·rfl
       ·rfl
      refine hK.out _ _ ⟨(blk_cell (blk_alloc BK443.out _) 0).trans rfl, (blk_cell (blk_alloc BK443.out _) 1).trans rfl, (blk_cell (blk_alloc BK443.out _) 2).trans rfl⟩ (fun hHeld => ?_)
      clear hK K
      refine no_ 79 ?_
      refine one_ (i := 11) (N := some 80) (bs 13 4095) rfl rfl (one_of HT_.out (by kernel_rfl)) (by decide) (fun K hK => ?_)
      refine Kd.S_append_step k49 (w0 := w) w.heap.size (by rfl) (.tmp 69) (.tmp 79) 26 49 (.agg #[(.string ⟨#[]⟩), (.slice none 0 0)]) 40 rfl Tryz.underlying26 info49 rfl (by decide) (by omega) u3 x3_2 (⟨t461, t462⟩ : S49) [.string t461, .slice Ao84 t462.length co84] (fun k_ => some k_ ≠ (.slice Ao81 y458.length co81 : Value).ownBlock) (fun k_ => b9_ ≤ k_ ∧ (fun k_ => some k_ ≠ (.slice Ao81 y458.length co81 : Value).ownBlock) k_) rfl rfl ?aP (fun k_ hk_ => ⟨hk_.2, fun e_ => Nat.not_le.2 au3_8 hk_.1⟩) ?aF ?aO ?aB ?aS ?aL ?_
      (case aP => exact k49_mkM _ _ _ (⟨t461, t462⟩ : S49) (Kd.S_mono (Kd.S_apart' (HO464.out) (Kd.S_typed HO_3.out) (by decide)) (fun k_ hk => ⟨au3_9, (show ((fun k_ => some k_ ≠ (.slice Ao81 y458.length co81 : Value).ownBlock)) k_ ∧ some k_ ≠ (u3 : Value).ownBlock from ⟨hk.1.2, hk.2⟩).1⟩)))
      (case aB => exact bl_)
      (case aF => exact (fun k_ hk => Kd.fresh' (Kd.R_lt (rk_ HO460)) k_ hk))
      (case aO => exact au3_2)
      (case aS => exact (below_size bl_))
      (case aL => have := LMc75.out; omega)
      intro v466 w83 ho hb hg hat
      rw [← Ny465.out] at ho
      have n0_ := am_ (bg_ BK418 hg (Kd.S_ne HO_3.out BK418.out (by decide)))
      have n1_ := am_ (bg_ BK443 hg (Kd.S_ne HO_3.out BK443.out (by decide)))
      have n2_ := am_ (Kd.R_over' (rk_ HO460) (Kd.S_typed au3_1) (by decide) hg)
      have n3_ := am_ (hb)
      have n4_ := am_ (ho)
      clear BK418
      clear BK443
      clear HO460
      clear HB
      clear HO_3
      clear HO464
      have BK418 := n0_
      have BK443 := n1_
      have HO460 := n2_
      have HB := n3_
      have HO467 := n4_
      clear n0_ n1_ n2_ n3_ n4_
      clear ho hb hg hat
      refine hK.out _ _ ⟨(blk_cell BK443.out 0).trans rfl, (blk_cell BK443.out 1).trans rfl, (blk_cell BK443.out 2).trans rfl⟩ (fun hHeld => ?_)
      clear hK K
      refine no_ 80 ?_
      refine pu_ 12 3 (bs 13 8191) HT_ ?_ rfl rfl
      refine done_ (done_of HT_.out (by kernel_rfl)) ?_
      try go_wp2
      go_roundg k2
      case measure => have := HK1.out; have := HK2.out; omega
      case rel => exact ⟨(y465), (wrap64 (x21_1 + 1)), er_, H', ⟨by have := HK1.out; have := HK2.out; omega⟩, ⟨by (with_reducible repeat (first | apply Kd.S_alloc | apply Kd.S_drewN | apply Kd.S_drew)); exact Kd.S_mono HO467.out (fun _ hk => trivial)⟩, ⟨bk_ BK418⟩, ⟨bl_⟩⟩
     replace H := itn_ H; rcases H with ⟨c37b0, H⟩
     replace H := itn_ H; rcases H with ⟨c38b0, H⟩
     replace H := bi_ H; rcases H with ⟨t470, A39, H⟩
     obtain ⟨y471, hy471⟩ : ∃ y_ : List ByteArray, y_ = (([t470] : List ByteArray)) := ⟨_, rfl⟩
     replace H : ((F60.f k2 (⟨#[77, 83, 72]⟩ : ByteArray) y471).bind fun bt474 => (if x3_2.length < 3518437208883 then ((some (x3_2 ++ [(⟨bt474.1, bt474.2⟩ : S49)] : List (S49))).bind fun y478 => ((F62.f k2 ((rd_T56 ((rd_T53 l0_3 x21_1).f2) x39_2).f1)).bind fun t481 => (if y478.length + t481.length < 3518437208883 then ((some (y478 ++ t481 : List (S49))).bind fun y484 => ((F61.f (((rd_T56 ((rd_T53 l0_3 x21_1).f2) x39_2).f1).length : Int)).bind fun t487 => ((F61.f ((rd_T56 ((rd_T53 l0_3 x21_1).f2) x39_2).f0)).bind fun t488 => ((F60.f k2 (⟨#[77, 83, 84]⟩ : ByteArray) (([t487, t488] : List ByteArray))).bind fun bt492 => (if y484.length < 3518437208883 then (F30.l1 k2 (y484 ++ [(⟨bt492.1, bt492.2⟩ : S49)]) l0_3 (l0_3.length : Int) x21_1 ((rd_T53 l0_3 x21_1).f2) (((rd_T53 l0_3 x21_1).f2).length : Int) (wrap64 (x39_2 + 1)) a0_0 a0_1 a0_2 l0_3 ((rd_T53 l0_3 x21_1).f0) ((rd_T53 l0_3 x21_1).f1) ((rd_T53 l0_3 x21_1).f2)) else (none)))))) else (none)))) else (none))) = some r := by first | (rw [hy471]; exact H) | exact H
     have Ny471 := am_ hy471
     clear hy471
     replace H := bi_ H; rcases H with ⟨⟨t474, t475⟩, A40, H⟩
     replace H := iln_ H; rcases H with ⟨LMc41, H⟩
     obtain ⟨y478, hy478⟩ : ∃ y_ : List (S49), y_ = (x3_2 ++ [(⟨t474, t475⟩ : S49)]) := ⟨_, rfl⟩
     replace H : ((F62.f k2 ((rd_T56 ((rd_T53 l0_3 x21_1).f2) x39_2).f1)).bind fun t481 => (if y478.length + t481.length < 3518437208883 then ((some (y478 ++ t481 : List (S49))).bind fun y484 => ((F61.f (((rd_T56 ((rd_T53 l0_3 x21_1).f2) x39_2).f1).length : Int)).bind fun t487 => ((F61.f ((rd_T56 ((rd_T53 l0_3 x21_1).f2) x39_2).f0)).bind fun t488 => ((F60.f k2 (⟨#[77, 83, 84]⟩ : ByteArray) (([t487, t488] : List ByteArray))).bind fun bt492 => (if y484.length < 3518437208883 then (F30.l1 k2 (y484 ++ [(⟨bt492.1, bt492.2⟩ : S49)]) l0_3 (l0_3.length : Int) x21_1 ((rd_T53 l0_3 x21_1).f2) (((rd_T53 l0_3 x21_1).f2).length : Int) (wrap64 (x39_2 + 1)) a0_0 a0_1 a0_2 l0_3 ((rd_T53 l0_3 x21_1).f0) ((rd_T53 l0_3 x21_1).f1) ((rd_T53 l0_3 x21_1).f2)) else (none)))))) else (none))) = some r := by first | (rw [hy478]; exact H) | exact H
     have Ny478 := am_ hy478
     clear hy478
     replace H := bi_ H; rcases H with ⟨t481, A42, H⟩
     replace H := iln_ H; rcases H with ⟨LMc43, H⟩
     obtain ⟨y484, hy484⟩ : ∃ y_ : List (S49), y_ = (y478 ++ t481) := ⟨_, rfl⟩
     replace H : ((F61.f (((rd_T56 ((rd_T53 l0_3 x21_1).f2) x39_2).f1).length : Int)).bind fun t487 => ((F61.f ((rd_T56 ((rd_T53 l0_3 x21_1).f2) x39_2).f0)).bind fun t488 => ((F60.f k2 (⟨#[77, 83, 84]⟩ : ByteArray) (([t487, t488] : List ByteArray))).bind fun bt492 => (if y484.length < 3518437208883 then (F30.l1 k2 (y484 ++ [(⟨bt492.1, bt492.2⟩ : S49)]) l0_3 (l0_3.length : Int) x21_1 ((rd_T53 l0_3 x21_1).f2) (((rd_T53 l0_3 x21_1).f2).length : Int) (wrap64 (x39_2 + 1)) a0_0 a0_1 a0_2 l0_3 ((rd_T53 l0_3 x21_1).f0) ((rd_T53 l0_3 x21_1).f1) ((rd_T53 l0_3 x21_1).f2)) else (none))))) = some r := by first | (rw [hy484]; exact H) | exact H
     have Ny484 := am_ hy484
     clear hy484
     replace H := bi_ H; rcases H with ⟨t487, A44, H⟩
     replace H := bi_ H; rcases H with ⟨t488, A45, H⟩
     obtain ⟨y489, hy489⟩ : ∃ y_ : List ByteArray, y_ = (([t487, t488] : List ByteArray)) := ⟨_, rfl⟩
     replace H : ((F60.f k2 (⟨#[77, 83, 84]⟩ : ByteArray) y489).bind fun bt492 => (if y484.length < 3518437208883 then (F30.l1 k2 (y484 ++ [(⟨bt492.1, bt492.2⟩ : S49)]) l0_3 (l0_3.length : Int) x21_1 ((rd_T53 l0_3 x21_1).f2) (((rd_T53 l0_3 x21_1).f2).length : Int) (wrap64 (x39_2 + 1)) a0_0 a0_1 a0_2 l0_3 ((rd_T53 l0_3 x21_1).f0) ((rd_T53 l0_3 x21_1).f1) ((rd_T53 l0_3 x21_1).f2)) else (none))) = some r := by first | (rw [hy489]; exact H) | exact H
     have Ny489 := am_ hy489
     clear hy489
     replace H := bi_ H; rcases H with ⟨⟨t492, t493⟩, A46, H⟩
     replace H := iln_ H; rcases H with ⟨LMc47, H⟩
     obtain ⟨y496, hy496⟩ : ∃ y_ : List (S49), y_ = (y484 ++ [(⟨t492, t493⟩ : S49)]) := ⟨_, rfl⟩
     replace H : (F30.l1 k2 y496 l0_3 (l0_3.length : Int) x21_1 ((rd_T53 l0_3 x21_1).f2) (((rd_T53 l0_3 x21_1).f2).length : Int) (wrap64 (x39_2 + 1)) a0_0 a0_1 a0_2 l0_3 ((rd_T53 l0_3 x21_1).f0) ((rd_T53 l0_3 x21_1).f1) ((rd_T53 l0_3 x21_1).f2)) = some r := by first | (rw [hy496]; exact H) | exact H
     have Ny496 := am_ hy496
     clear hy496
     have H' := am_ H
     clear H
     have p468 : 0 ≤ (x39_2 : Int) := od_
     have q468 : x39_2 < (((rd_T53 l0_3 x21_1).f2).length : Int) := od_
     obtain ⟨ad468, A468_1, c468_1, e468, hx468_0, hx468_1, hl468_1, hi468_1⟩ := at_T56 HR442_2.out x39_2 p468 q468
     cases e468
     replace hx468_0 := (HB.out.cell (World.block_lt_of_cell? _ _ hx468_0)).trans hx468_0
     replace hx468_1 := (HB.out.cell (World.block_lt_of_cell? _ _ hx468_1)).trans hx468_1
     have HR468_1 := am_ hi468_1
     have HC468_1 := am_ hl468_1
     clear hi468_1 hl468_1
     replace p468 := eq_true p468
     replace q468 := eq_true q468
     try go_wp2_with (first | ((with_reducible refine gate_dst (N := 7) rfl ?_); refine be_ 7 #[.int .i64 0, .slice none 0 0] 56 ?_; intro gb469 hg w48 hbox hb; replace HO_3 := am_ (Kd.S_below au3_1 hb); have BK469 := am_ (hbox); have GW469 := am_ (gw_ hg bl_); have GE469 := GW469; replace HB := hs_ w hb; have NB418_469 := am_ (gn_ hg (blkl_ BK418)); have NB469_418 := am_ (gm_ hg (blkl_ BK418)); replace BK418 := bb_ BK418 hb; have NB443_469 := am_ (gn_ hg (blkl_ BK443)); have NB469_443 := am_ (gm_ hg (blkl_ BK443)); replace BK443 := bb_ BK443 hb; clear hb hbox hg; have hnb49 := NB469_418.out; have hnc49 := NB418_469.out; have hnb50 := NB469_443.out; have hnc50 := NB443_469.out; obtain ⟨hcz51_0, hcz51_1, hfz51_0, hfz51_1⟩ := cellsF2 BK469.out) | (go_at_call 61; (with_reducible refine (F61.calls ((rd_T56 ((rd_T53 l0_3 x21_1).f2) x39_2).f0) t470 _ ?s1 A39.out).mono ?_); (case s1 => exact au3_3); rintro e w52 ⟨rfl, hb⟩; (try clear A39); replace HO_3 := am_ (Kd.S_below (by (with_reducible repeat (first | apply Kd.S_alloc | apply Kd.S_drewN | apply Kd.S_drew)); exact (Kd.S_mono (Kd.S_far (p := ⟨gb469, 1, none⟩) (Kd.S_far (p := ⟨gb469, 0, none⟩) (Kd.S_types HO_3.out BK469.out (by decide)) (fun _ hk => hk.2) (.int .i64 ((rd_T56 ((rd_T53 l0_3 x21_1).f2) x39_2).f0))) (fun _ hk => hk.2) (.slice A468_1 ((rd_T56 ((rd_T53 l0_3 x21_1).f2) x39_2).f1).length c468_1)) (fun _ h_ => h_.1))) hb); replace BK418 := am_ (blk_below (g := gb418) (o := .cells #[.string a0_0, .string a0_1, .int .i64 a0_2, .slice (some ad442) l0_3.length c0_3] 30 (0, 0)) (bf_ BK418) hb); replace BK443 := am_ (blk_below (g := gb443) (o := .cells #[.int .i64 ((rd_T53 l0_3 x21_1).f0), .int .i64 ((rd_T53 l0_3 x21_1).f1), .slice (some ad468) ((rd_T53 l0_3 x21_1).f2).length c442_2] 53 (0, 0)) (bf_ BK443) hb); replace BK469 := am_ (blk_below (g := gb469) (o := .cells #[.int .i64 ((rd_T56 ((rd_T53 l0_3 x21_1).f2) x39_2).f0), .slice A468_1 ((rd_T56 ((rd_T53 l0_3 x21_1).f2) x39_2).f1).length c468_1] 56 (0, 0)) (bq_ BK469) hb); replace HB := hs_ w hb; (try clear hb); (try clear hb2); (try clear hk); (try clear hi)) | ((with_reducible refine gate_dst (N := 47) rfl ?_); refine Kd.R_lit Kd.string _ 9 ?hg (N := 47) ?hd (xs := ([t470] : List ByteArray)) (inner := [.string t470]) (ok := fun _ => True) (okp := fun _ => True) ?hr ?hp (fun _ hk => hk) trivial (Below.refl _ _) (Nat.le_refl _) (by simp) ?_; (case hd => rfl); (case hg => rfl); (case hr => exact hr_); (case hp => exact (Reps.one (show Kd.M Kd.string _ _ _ t470 [.string t470] from rfl) (Reps.none _ _))); intro v472 w53 ho54 hb hg_ hnew_; clear hg_ hnew_; (first | rw [← Ny471.out] at ho54 | (simp only [Int.reduceToNat] at ho54; rw [← Ny471.out] at ho54)); replace HO_3 := am_ (Kd.S_elder' au3_1 (Kd.R_base ho54) hb); have HO473 := am_ (Kd.R_lower ho54 (below_size bl_)); replace BK418 := bb_ BK418 hb; replace BK443 := bb_ BK443 hb; replace BK469 := bb_ BK469 hb; replace HB := hs_ w hb; clear hb ho54; obtain ⟨Ao55, co55, eo55⟩ := Kd.R_slice HO473.out; subst eo55) | (go_at_call 60; (with_reducible refine (F60.calls k2 (⟨#[77, 83, 72]⟩ : ByteArray) _ _ y471 t474 t475 _ ?s1 ?s2 A40.out).mono ?_); (case s1 => repeat (first | exact (Kd.R_reads' HO473.out).2.2 | (with_reducible refine Kd.C_alloc ?_ _) | (with_reducible refine Kd.C_drewN ?_ _) | (with_reducible refine Kd.C_drew ?_))); (case s2 => exact (Kd.R_reads' HO473.out).2.1); rintro e w56 ⟨v476, rfl, ho0, hb⟩; (try clear A40); obtain ⟨b9_, hb9_, ho9_⟩ := nb9_ ho0; replace HO_3 := am_ (Kd.S_elder' (Kd.S_mono (Kd.S_bound au3_1) (fun k_ hk_ => (⟨hb9_ _ hk_.2.2.1, hk_.1⟩ : k_ < b9_ ∧ _))) (Kd.S_base ho0) hb); have HO477 := am_ (Kd.S_lower (Kd.S_new' ho9_ (Kd.R_lt (rk_ HO473))) (below_size bl_)); replace HO473 := am_ (Kd.R_below (rk_ HO473) hb); replace BK418 := bb_ BK418 hb; replace BK443 := bb_ BK443 hb; replace BK469 := bb_ BK469 hb; replace HB := hs_ w hb; (try clear hb); (try clear hb2); (try clear hk); (try clear hi); (try clear ho0); obtain ⟨Ao58, co58, eo58⟩ := Kd.S_slice HO477.out; subst eo58) | ((with_reducible refine gate_builtin (b := .append) (xs := #[.tmp 43, .tmp 49]) rfl ?_); at_builtin; refine Kd.S_append k49 (w0 := w) w.heap.size rfl (.tmp 43) (.tmp 49) 26 49 (.agg #[(.string ⟨#[]⟩), (.slice none 0 0)]) 40 rfl Tryz.underlying26 info49 rfl (by decide) (by omega) u3 x3_2 (⟨t474, t475⟩ : S49) [.string t474, .slice Ao58 t475.length co58] (fun k_ => some k_ ≠ (.slice Ao55 y471.length co55 : Value).ownBlock) (fun k_ => b9_ ≤ k_ ∧ (fun k_ => some k_ ≠ (.slice Ao55 y471.length co55 : Value).ownBlock) k_) rfl rfl ?aP (fun k_ hk_ => ⟨hk_.2, fun e_ => Nat.not_le.2 au3_8 hk_.1⟩) ?aF ?aO ?aB ?aS ?aL ?_; (case aP => exact k49_mkM _ _ _ (⟨t474, t475⟩ : S49) (Kd.S_mono (Kd.S_apart' (HO477.out) (Kd.S_typed HO_3.out) (by decide)) (fun k_ hk => ⟨au3_9, (show ((fun k_ => some k_ ≠ (.slice Ao55 y471.length co55 : Value).ownBlock)) k_ ∧ some k_ ≠ (u3 : Value).ownBlock from ⟨hk.1.2, hk.2⟩).1⟩))); (case aB => exact bl_); (case aF => exact (fun k_ hk => Kd.fresh' (Kd.R_lt (rk_ HO473)) k_ hk)); (case aO => exact au3_2); (case aS => exact (below_size bl_)); (case aL => have := LMc41.out; omega); intro v479 w57 ho hb hg hat; rw [← Ny478.out] at ho; have n0_ := am_ (bg_ BK418 hg (Kd.S_ne HO_3.out BK418.out (by decide))); have n1_ := am_ (bg_ BK443 hg (Kd.S_ne HO_3.out BK443.out (by decide))); have n2_ := am_ (bg_ BK469 hg (Kd.S_ne HO_3.out BK469.out (by decide))); have n3_ := am_ (Kd.R_over' (rk_ HO473) (Kd.S_typed au3_1) (by decide) hg); have n4_ := am_ (hb); have n5_ := am_ (ho); clear BK418; clear BK443; clear BK469; clear HO473; clear HB; clear HO_3; clear HO477; have BK418 := n0_; have BK443 := n1_; have BK469 := n2_; have HO473 := n3_; have HB := n4_; have HO480 := n5_; clear n0_ n1_ n2_ n3_ n4_ n5_; clear ho hb hg hat; obtain ⟨hcz59_0, hcz59_1, hfz59_0, hfz59_1⟩ := cellsF2 BK469.out) | (go_at_call 62; (with_reducible refine (F62.calls k2 _ _ ((rd_T56 ((rd_T53 l0_3 x21_1).f2) x39_2).f1) t481 _ ?s1 ?s2 A42.out).mono ?_); (case s1 => repeat (first | exact (Kd.C_below HR468_1.out HB.out) | (with_reducible refine Kd.C_alloc ?_ _) | (with_reducible refine Kd.C_drewN ?_ _) | (with_reducible refine Kd.C_drew ?_))); (case s2 => exact HC468_1.out); rintro e w60 ⟨v482, rfl, ho0, hb⟩; (try clear A42); have n0_ := am_ (Kd.R_below (rk_ HO473) hb); obtain ⟨b9_, hb9_, ho9_⟩ := nb9_ ho0; have n1_ := am_ (Kd.S_elder' (Kd.S_mono (Kd.S_bound au3_14) (fun k_ hk_ => (⟨hb9_ _ hk_.2.2.1, hk_.1⟩ : k_ < b9_ ∧ _))) (Kd.S_base ho0) hb); have n2_ := am_ (Kd.S_lower (Kd.S_new' (Kd.S_new' ho9_ (Kd.R_lt (rk_ HO473))) (Kd.S_lt au3_14)) (below_size bl_)); have n3_ := bb_ BK418 hb; have n4_ := bb_ BK443 hb; have n5_ := bb_ BK469 hb; have n6_ := am_ (below_step bl_ hb); clear HO473; clear HO480; clear BK418; clear BK443; clear BK469; clear HB; have HO473 := n0_; have HO480 := n1_; have HO483 := n2_; have BK418 := n3_; have BK443 := n4_; have BK469 := n5_; have HB := n6_; clear n0_ n1_ n2_ n3_ n4_ n5_ n6_; (try clear hb); (try clear hb2); (try clear hk); (try clear hi); (try clear ho0); obtain ⟨Ao62, co62, eo62⟩ := Kd.S_slice HO483.out; subst eo62) | ((with_reducible refine gate_builtin (b := .append) (xs := #[.tmp 51, .tmp 54]) rfl ?_); at_builtin; refine Kd.S_append_rows k49 (w0 := w) w.heap.size rfl (.tmp 51) (.tmp 54) 26 49 (.agg #[(.string ⟨#[]⟩), (.slice none 0 0)]) 40 rfl Tryz.underlying26 info49 rfl (by decide) (by omega) v479 y478 t481 _ _ _ (fun k_ => some k_ ≠ (.slice Ao55 y471.length co55 : Value).ownBlock) (fun k_ => b9_ ≤ k_ ∧ ((fun k_ => some k_ ≠ (.slice Ao55 y471.length co55 : Value).ownBlock)) k_) rfl rfl ?aO ?aR (fun k_ hk_ => ⟨hk_.2, fun e_ => Nat.not_le.2 (by have g_ := (Kd.S_R HO480.out).1 k_ e_.symm; first | exact g_.1.1 | exact g_.1 | exact g_.1.1.1) hk_.1⟩) ?aF ?aB ?aS ?aL ?_; (case aR => exact Kd.S_mono (HO483.out) (fun k_ hk => ⟨au3_9, (show ((fun k_ => some k_ ≠ (.slice Ao55 y471.length co55 : Value).ownBlock)) k_ from hk.1.2)⟩)); (case aB => exact bl_); (case aF => exact (fun k_ hk => Kd.fresh' (Kd.R_lt (rk_ HO473)) k_ hk)); (case aO => exact (by (with_reducible repeat (first | apply Kd.S_alloc | apply Kd.S_drewN | apply Kd.S_drew)); exact Kd.S_mono HO480.out (fun k_ hk => ⟨hk.1.2, fun h9_ => Nat.not_le.2 au3_9 h9_.1⟩))); (case aS => exact (below_size bl_)); (case aL => have := LMc43.out; omega); intro v485 w61 ho hb hg hat; rw [← Ny484.out] at ho; have n0_ := am_ (bg_ BK418 hg (Kd.S_ne HO480.out BK418.out (by decide))); have n1_ := am_ (bg_ BK443 hg (Kd.S_ne HO480.out BK443.out (by decide))); have n2_ := am_ (bg_ BK469 hg (Kd.S_ne HO480.out BK469.out (by decide))); have n3_ := am_ (Kd.R_over' (rk_ HO473) (Kd.S_typed au3_14) (by decide) hg); have n4_ := am_ (hb); have n5_ := am_ (ho); clear BK418; clear BK443; clear BK469; clear HO473; clear HB; clear HO480; clear HO483; have BK418 := n0_; have BK443 := n1_; have BK469 := n2_; have HO473 := n3_; have HB := n4_; have HO486 := n5_; clear n0_ n1_ n2_ n3_ n4_ n5_; clear ho hb hg hat))
     replace HO473 := am_ (Kd.R_drew HO473.out)
     replace HO486 := am_ (Kd.S_drew HO486.out)
     replace BK418 := bd_ BK418
     replace BK443 := bd_ BK443
     replace BK469 := bd_ BK469
     replace HB := am_ (below_drew1 HB.out)
     refine start_ (n := 13) (S := fun w' => w'.cell? ⟨gb469, 0, none⟩ = some (.int .i64 ((rd_T56 ((rd_T53 l0_3 x21_1).f2) x39_2).f0)) ∧ w'.cell? ⟨gb469, 1, none⟩ = some (.slice A468_1 ((rd_T56 ((rd_T53 l0_3 x21_1).f2) x39_2).f1).length c468_1)) (ds := []) (bs 13 0) (by kernel_rfl) rfl rfl ⟨(blk_cell BK469.out 0).trans rfl, (blk_cell BK469.out 1).trans rfl⟩ (fun hHeld => ?_); refine with_tabW F30.tab11 F30.bits11 (fun HT_ HW_ => ?_)
     generalize w61.drew = w63 at HO473 HO486 BK418 BK443 BK469 HB hHeld ⊢
     refine pu_ 0 56 (bs 13 1) HT_ ?_ rfl rfl
     refine pu_ 1 57 (bs 13 3) HT_ ?_ rfl rfl
     refine pu_ 5 61 (bs 13 35) HT_ ?_ rfl rfl
     refine tk_ 2 58 (bs 13 39) HT_ HW_ hHeld au3_13 ?_ rfl rfl
     refine pu_ 3 59 (bs 13 47) HT_ ?_ rfl rfl
     refine tk_ 6 62 (bs 13 111) HT_ HW_ hHeld au3_13 ?_ rfl rfl
     refine one_ (i := 4) (N := some 60) (bs 13 127) rfl rfl (one_of HT_.out (by kernel_rfl)) (by decide) (fun K hK => ?_)
     refine gr_ Tryz.func61 #[.int .i64 (((rd_T56 ((rd_T53 l0_3 x21_1).f2) x39_2).f1).length : Int)] (by rfl) ?_ rfl rfl rfl
     with_reducible refine (F61.calls (((rd_T56 ((rd_T53 l0_3 x21_1).f2) x39_2).f1).length : Int) t487 _ ?s1 A44.out).mono ?_
     (case s1 => exact au3_3)
     rintro e w64 ⟨rfl, hb⟩
     refine ⟨_, rfl, ?_⟩
     replace HO473 := am_ (Kd.R_below (rk_ HO473) hb)
     replace HO486 := am_ (Kd.S_below au3_7 hb)
     replace BK418 := bb_ BK418 hb
     replace BK443 := bb_ BK443 hb
     replace BK469 := bb_ BK469 hb
     replace HB := hs_ w hb
     (try clear hb)
     (try clear hb2)
     (try clear hk)
     (try clear hi)
     refine hK.out _ _ ⟨(blk_cell BK469.out 0).trans rfl, (blk_cell BK469.out 1).trans rfl⟩ (fun hHeld => ?_)
     clear hK K
     refine no_ 60 ?_
     refine one_ (i := 7) (N := some 63) (bs 13 255) rfl rfl (one_of HT_.out (by kernel_rfl)) (by decide) (fun K hK => ?_)
     refine gr_ Tryz.func61 #[.int .i64 ((rd_T56 ((rd_T53 l0_3 x21_1).f2) x39_2).f0)] (by rfl) ?_ rfl rfl rfl
     with_reducible refine (F61.calls ((rd_T56 ((rd_T53 l0_3 x21_1).f2) x39_2).f0) t488 _ ?s1 A45.out).mono ?_
     (case s1 => exact au3_3)
     rintro e w65 ⟨rfl, hb⟩
     refine ⟨_, rfl, ?_⟩
     replace HO473 := am_ (Kd.R_below (rk_ HO473) hb)
     replace HO486 := am_ (Kd.S_below au3_7 hb)
     replace BK418 := bb_ BK418 hb
     replace BK443 := bb_ BK443 hb
     replace BK469 := bb_ BK469 hb
     replace HB := hs_ w hb
     (try clear hb)
     (try clear hb2)
     (try clear hk)
     (try clear hi)
     refine hK.out _ _ ⟨(blk_cell BK469.out 0).trans rfl, (blk_cell BK469.out 1).trans rfl⟩ (fun hHeld => ?_)
     clear hK K
     refine no_ 63 ?_
     refine one_ (i := 8) (N := some 64) (bs 13 511) rfl rfl (one_of HT_.out (by kernel_rfl)) (by decide) (fun K hK => ?_)
     refine Kd.R_lit_step Kd.string _ 9 ?hg (N := 64) ?hd (xs := ([t487, t488] : List ByteArray)) (inner := [.string t487, .string t488]) (ok := fun _ => True) (okp := fun _ => True) ?hr ?hp (fun _ hk => hk) trivial (Below.refl _ _) (Nat.le_refl _) (by simp) ?_; (case hd => rfl); (case hg => rfl); (case hr => exact hr_); (case hp => exact (Reps.one (show Kd.M Kd.string _ _ _ t487 [.string t487] from rfl) (Reps.one (show Kd.M Kd.string _ _ _ t488 [.string t488] from rfl) (Reps.none _ _))))
     intro v490 w66 ho67 hb hg_ hnew_
     clear hg_ hnew_
     (first | rw [← Ny489.out] at ho67 | (simp only [Int.reduceToNat] at ho67; rw [← Ny489.out] at ho67))
     replace HO486 := am_ (Kd.S_elder' au3_7 (Kd.R_base ho67) hb)
     have HO491 := am_ (Kd.R_lower (Kd.R_new' ho67 (Kd.R_lt (rk_ HO473))) (below_size bl_))
     replace HO473 := am_ (Kd.R_elder' (rk_ HO473) (Kd.R_base ho67) hb)
     replace BK418 := bb_ BK418 hb
     replace BK443 := bb_ BK443 hb
     replace BK469 := bb_ BK469 hb
     replace HB := hs_ w hb
     clear hb ho67
     obtain ⟨Ao68, co68, eo68⟩ := Kd.R_slice HO491.out
     (first | subst eo68 | (injection eo68 with f1_ f2_ f3_; have f4_ := f1_.symm; have f5_ := f3_.symm; clear f1_ f2_ f3_; subst f4_; subst f5_))
     refine hK.out _ _ ⟨(blk_cell BK469.out 0).trans rfl, (blk_cell BK469.out 1).trans rfl⟩ (fun hHeld => ?_)
     clear hK K
     refine no_ 64 ?_
     refine one_ (i := 9) (N := some 65) (bs 13 1023) rfl rfl (one_of HT_.out (by kernel_rfl)) (by decide) (fun K hK => ?_)
     refine gr_ Tryz.func60 #[.string (⟨#[77, 83, 84]⟩ : ByteArray), .slice Ao68 y489.length co68] (by rfl) ?_ rfl rfl rfl
     with_reducible refine (F60.calls k2 (⟨#[77, 83, 84]⟩ : ByteArray) _ _ y489 t492 t493 _ ?s1 ?s2 A46.out).mono ?_
     (case s1 => repeat (first | exact (Kd.R_reads' HO491.out).2.2 | (with_reducible refine Kd.C_alloc ?_ _) | (with_reducible refine Kd.C_drewN ?_ _) | (with_reducible refine Kd.C_drew ?_)))
     (case s2 => exact (Kd.R_reads' HO491.out).2.1)
     rintro e w69 ⟨v494, rfl, ho0, hb⟩
     refine ⟨_, rfl, ?_⟩
     have n0_ := am_ (Kd.R_below (rk_ HO473) hb)
     obtain ⟨b9_, hb9_, ho9_⟩ := nb9_ ho0; have n1_ := am_ (Kd.S_elder' (Kd.S_mono (Kd.S_bound au3_7) (fun k_ hk_ => (⟨hb9_ _ hk_.2.2.1, hk_.1⟩ : k_ < b9_ ∧ _))) (Kd.S_base ho0) hb)
     have n2_ := am_ (Kd.R_below (rk_ HO491) hb)
     have n3_ := am_ (Kd.S_lower (Kd.S_new' (Kd.S_new' ho9_ (Kd.R_lt (rk_ HO473))) (Kd.R_lt (rk_ HO491))) (below_size bl_))
     have n4_ := bb_ BK418 hb
     have n5_ := bb_ BK443 hb
     have n6_ := bb_ BK469 hb
     have n7_ := am_ (below_step bl_ hb)
     clear HO473
     clear HO486
     clear HO491
     clear BK418
     clear BK443
     clear BK469
     clear HB
     have HO473 := n0_
     have HO486 := n1_
     have HO491 := n2_
     have HO495 := n3_
     have BK418 := n4_
     have BK443 := n5_
     have BK469 := n6_
     have HB := n7_
     clear n0_ n1_ n2_ n3_ n4_ n5_ n6_ n7_
     (try clear hb)
     (try clear hb2)
     (try clear hk)
     (try clear hi)
     (try clear ho0)
     obtain ⟨Ao71, co71, eo71⟩ := Kd.S_slice HO495.out
     (first | subst eo71 | (injection eo71 with f1_ f2_ f3_; have f4_ := f1_.symm; have f5_ := f3_.symm; clear f1_ f2_ f3_; subst f4_; subst f5_))
     refine hK.out _ _ ⟨(blk_cell BK469.out 0).trans rfl, (blk_cell BK469.out 1).trans rfl⟩ (fun hHeld => ?_)
     clear hK K
     refine no_ 65 ?_
     refine one_ (i := 10) (N := some 66) (bs 13 2047) rfl rfl (one_of HT_.out (by kernel_rfl)) (by decide) (fun K hK => ?_)
     refine value_ (w1 := ?_) (v := ?_) (by rfl) rfl ?_ ?_
     rotate_left 2
     ·go_simp
      constructor
      ·rfl
      ·rfl
     refine hK.out _ _ ⟨(blk_cell (blk_alloc BK469.out _) 0).trans rfl, (blk_cell (blk_alloc BK469.out _) 1).trans rfl⟩ (fun hHeld => ?_)
     clear hK K
     refine no_ 66 ?_
     refine one_ (i := 11) (N := some 67) (bs 13 4095) rfl rfl (one_of HT_.out (by kernel_rfl)) (by decide) (fun K hK => ?_)
     refine Kd.S_append_step k49 (w0 := w) w.heap.size (by rfl) (.tmp 56) (.tmp 66) 26 49 (.agg #[(.string ⟨#[]⟩), (.slice none 0 0)]) 40 rfl Tryz.underlying26 info49 rfl (by decide) (by omega) v485 y484 (⟨t492, t493⟩ : S49) [.string t492, .slice Ao71 t493.length co71] (fun k_ => some k_ ≠ (.slice Ao55 y471.length co55 : Value).ownBlock ∧ some k_ ≠ (.slice Ao68 y489.length co68 : Value).ownBlock) (fun k_ => b9_ ≤ k_ ∧ (fun k_ => some k_ ≠ (.slice Ao55 y471.length co55 : Value).ownBlock ∧ some k_ ≠ (.slice Ao68 y489.length co68 : Value).ownBlock) k_) rfl rfl ?aP (fun k_ hk_ => ⟨hk_.2, fun e_ => Nat.not_le.2 (by have g_ := (Kd.S_R HO486.out).1 k_ e_.symm; first | exact g_.1.1 | exact g_.1 | exact g_.1.1.1) hk_.1⟩) ?aF ?aO ?aB ?aS ?aL ?_
     (case aP => exact k49_mkM _ _ _ (⟨t492, t493⟩ : S49) (Kd.S_mono (Kd.S_apart' (HO495.out) (Kd.S_typed HO486.out) (by decide)) (fun k_ hk => ⟨au3_9, (show ((fun k_ => some k_ ≠ (.slice Ao55 y471.length co55 : Value).ownBlock ∧ some k_ ≠ (.slice Ao68 y489.length co68 : Value).ownBlock)) k_ ∧ some k_ ≠ (v485 : Value).ownBlock from ⟨⟨hk.1.1.2, hk.1.2⟩, hk.2⟩).1⟩)))
     (case aB => exact bl_)
     (case aF => exact (fun k_ hk => ⟨Kd.fresh' (Kd.R_lt (rk_ HO473)) k_ hk, Kd.fresh' (Kd.R_lt (rk_ HO491)) k_ hk⟩))
     (case aO => exact (by (with_reducible repeat (first | apply Kd.S_alloc | apply Kd.S_drewN | apply Kd.S_drew)); exact Kd.S_mono HO486.out (fun k_ hk => ⟨⟨hk.1.2.1, hk.1.2.2⟩, fun h9_ => Nat.not_le.2 au3_9 h9_.1⟩)))
     (case aS => exact (below_size bl_))
     (case aL => have := LMc47.out; omega)
     intro v497 w70 ho hb hg hat
     rw [← Ny496.out] at ho
     have n0_ := am_ (bg_ BK418 hg (Kd.S_ne HO486.out BK418.out (by decide)))
     have n1_ := am_ (bg_ BK443 hg (Kd.S_ne HO486.out BK443.out (by decide)))
     have n2_ := am_ (bg_ BK469 hg (Kd.S_ne HO486.out BK469.out (by decide)))
     have n3_ := am_ (Kd.R_over' (rk_ HO473) (Kd.S_typed au3_7) (by decide) hg)
     have n4_ := am_ (Kd.R_over' (rk_ HO491) (Kd.S_typed au3_7) (by decide) hg)
     have n5_ := am_ (hb)
     have n6_ := am_ (ho)
     clear BK418
     clear BK443
     clear BK469
     clear HO473
     clear HO491
     clear HB
     clear HO486
     clear HO495
     have BK418 := n0_
     have BK443 := n1_
     have BK469 := n2_
     have HO473 := n3_
     have HO491 := n4_
     have HB := n5_
     have HO498 := n6_
     clear n0_ n1_ n2_ n3_ n4_ n5_ n6_
     clear ho hb hg hat
     refine hK.out _ _ ⟨(blk_cell BK469.out 0).trans rfl, (blk_cell BK469.out 1).trans rfl⟩ (fun hHeld => ?_)
     clear hK K
     refine no_ 67 ?_
     refine pu_ 12 3 (bs 13 8191) HT_ ?_ rfl rfl
     refine done_ (done_of HT_.out (by kernel_rfl)) ?_
     try go_wp2
     go_roundg k2
     case measure => have := HK1.out; have := HK2.out; omega
     case rel => exact ⟨(y496), (wrap64 (x39_2 + 1)), er_, H', ⟨by have := HK1.out; have := HK2.out; omega⟩, ⟨by (with_reducible repeat (first | apply Kd.S_alloc | apply Kd.S_drewN | apply Kd.S_drew)); exact Kd.S_mono HO498.out (fun _ hk => trivial)⟩, ⟨bk_ BK418⟩, ⟨bk_ BK443⟩, ⟨bl_⟩⟩
/-! ### F8: function 8 -/
def F8.f (k : Nat) (a0_0 : ByteArray) (a0_1 : ByteArray) (a0_2 : Int) (l0_3 : List (S53)) : Option ((List (S49))) := (F29.f k a0_0 a0_1 a0_2 l0_3).bind fun t500 => (if t500 = true then ((F30.f k a0_0 a0_1 a0_2 l0_3).bind fun t501 => (some t501)) else (some ([] : List (S49))))
theorem F8.mono : ∀ a0 a1 a2 a3 k, LeO (F8.f k a0 a1 a2 a3) (F8.f (k + 1) a0 a1 a2 a3) := by
 intro a0 a1 a2 a3 k
 unfold F8.f
 repeat' with_reducible first | exact F29.mono _ _ _ _ _ | exact F30.mono _ _ _ _ _ | exact LeO.refl _ | exact LeO.none _ | refine LeO.ite ?_ ?_ | refine LeO.bind ?_ (fun _ => ?_)
theorem F8.calls (k : Nat) (a0_0 : ByteArray) (a0_1 : ByteArray) (a0_2 : Int) (A0_3 : Option Addr) (c0_3 : Nat) (l0_3 : List (S53)) (r : List (S49)) (w : World) (hr0_3 : Kd.C k53 w A0_3 l0_3.length l0_3) (hc0_3 : l0_3.length ≤ c0_3) (hT : LaidT false Tryz.prog w) (h : F8.f k a0_0 a0_1 a0_2 l0_3 = some r) :
  Calls Tryz.prog 8 #[.agg #[.string a0_0, .string a0_1, .int .i64 a0_2, .slice A0_3 l0_3.length c0_3]] w fun e w' => ∃ v0_ : Value, e = .returned (v0_) ∧ Kd.S k49 49 w' w.heap.size (fun _ => True) v0_ r ∧ Below w.heap.size w w' := by
 have hu30 := Tryz.underlying30
 have HR0_3 := am_ hr0_3
 have HC0_3 := am_ hc0_3
 clear hr0_3 hc0_3
 have HZT := am_ hT
 clear hT
 have HB := am_ (Below.refl w.heap.size w)
 have H : ((F29.f k a0_0 a0_1 a0_2 l0_3).bind fun t500 => (if t500 = true then ((F30.f k a0_0 a0_1 a0_2 l0_3).bind fun t501 => (some t501)) else (some ([] : List (S49))))) = some r := h
 clear h
 replace H := bi_ H; rcases H with ⟨t500, A2, H⟩
 replace H := ib_ H; rcases H with ⟨rfl, H⟩ | ⟨rfl, H⟩
 rotate_left
 ·obtain rfl := Option.some.inj H
  go_enter Tryz.func8, Tryz.ntmps8
  go_wp2_with (first | ((with_reducible refine gate_dst (N := 1) rfl ?_); refine be_ 1 #[.string a0_0, .string a0_1, .int .i64 a0_2, .slice A0_3 l0_3.length c0_3] 30 ?_; intro gb499 hg w10 hbox hb; have BK499 := am_ (hbox); have GW499 := am_ (gw_ hg bl_); have GE499 := GW499; replace HB := hs_ w hb; clear hb hbox hg; obtain ⟨hcz11_0, hcz11_1, hcz11_2, hcz11_3, hfz11_0, hfz11_1, hfz11_2, hfz11_3⟩ := cellsF4 BK499.out) | ((with_reducible refine gate_callee (f := 29) rfl ?_); refine gl_ 4 Tryz.func29 #[.agg #[.string a0_0, .string a0_1, .int .i64 a0_2, .slice A0_3 l0_3.length c0_3]] ?_ rfl rfl rfl rfl; (with_reducible refine (F29.calls k a0_0 a0_1 a0_2 _ _ l0_3 false _ ?s1 ?s2 A2.out).mono ?_); (case s1 => exact au3_10); (case s2 => exact HC0_3.out); rintro e w12 ⟨rfl, hb⟩; refine ⟨_, rfl, ?_⟩; replace BK499 := bb_ BK499 hb; replace HB := hs_ w hb; (try clear hb)))
  go_ret
  exact ⟨_, au3_0, au3_11, bl_⟩

 replace H := bi_ H; rcases H with ⟨t501, A4, H⟩
 obtain rfl := Option.some.inj H
 go_enter Tryz.func8, Tryz.ntmps8
 go_wp2_with (first | ((with_reducible refine gate_dst (N := 1) rfl ?_); refine be_ 1 #[.string a0_0, .string a0_1, .int .i64 a0_2, .slice A0_3 l0_3.length c0_3] 30 ?_; intro gb499 hg w5 hbox hb; have BK499 := am_ (hbox); have GW499 := am_ (gw_ hg bl_); have GE499 := GW499; replace HB := hs_ w hb; clear hb hbox hg; obtain ⟨hcz6_0, hcz6_1, hcz6_2, hcz6_3, hfz6_0, hfz6_1, hfz6_2, hfz6_3⟩ := cellsF4 BK499.out) | ((with_reducible refine gate_callee (f := 29) rfl ?_); refine gl_ 4 Tryz.func29 #[.agg #[.string a0_0, .string a0_1, .int .i64 a0_2, .slice A0_3 l0_3.length c0_3]] ?_ rfl rfl rfl rfl; (with_reducible refine (F29.calls k a0_0 a0_1 a0_2 _ _ l0_3 true _ ?s1 ?s2 A2.out).mono ?_); (case s1 => exact au3_10); (case s2 => exact HC0_3.out); rintro e w7 ⟨rfl, hb⟩; refine ⟨_, rfl, ?_⟩; replace BK499 := bb_ BK499 hb; replace HB := hs_ w hb; (try clear hb); obtain ⟨hcz8_0, hcz8_1, hcz8_2, hcz8_3, hfz8_0, hfz8_1, hfz8_2, hfz8_3⟩ := cellsF4 BK499.out) | ((with_reducible refine gate_callee (f := 30) rfl ?_); refine gl_ 7 Tryz.func30 #[.agg #[.string a0_0, .string a0_1, .int .i64 a0_2, .slice A0_3 l0_3.length c0_3]] ?_ rfl rfl rfl rfl; (with_reducible refine (F30.calls k a0_0 a0_1 a0_2 _ _ l0_3 t501 _ ?s1 ?s2 ?s3 A4.out).mono ?_); (case s1 => exact au3_10); (case s2 => exact HC0_3.out); (case s3 => exact au3_3); rintro e w9 ⟨v502, rfl, ho0, hb⟩; refine ⟨_, rfl, ?_⟩; have HO503 := am_ (Kd.S_lower ho0 (below_size bl_)); replace BK499 := bb_ BK499 hb; replace HB := hs_ w hb; (try clear hb); (try clear ho0)))
 go_ret
 exact ⟨_, au3_0, by (with_reducible repeat (first | apply Kd.S_alloc | apply Kd.S_drewN | apply Kd.S_drew)); exact HO503.out, bl_⟩
/-! ### F115: function 115 -/
def F115.l0 : Nat → List ByteArray → List ByteArray → Int → Option (Bool)
  | 0, _, _, _ => none
  | k + 1, x0, x1, x5 => if x5 < (x0.length : Int) then (if 0 ≤ x5 then (if x5 < (x1.length : Int) then (if (rdOf ByteArray.empty x0 x5).toList = (rdOf ByteArray.empty x1 x5).toList then (F115.l0 k x0 x1 (wrap64 (x5 + 1))) else (some false)) else (none)) else (none)) else (some true)
def F115.f (k : Nat) (l0 : List ByteArray) (l1 : List ByteArray) : Option (Bool) := if (l0.length : Int) = (l1.length : Int) then (F115.l0 k l0 l1 0) else (some false)
theorem F115.mono_l : ∀ k, (∀ y0 y1 y2, LeO (F115.l0 k y0 y1 y2) (F115.l0 (k + 1) y0 y1 y2))
 | 0 => fun _ _ _ r h => by simp [F115.l0] at h
 | k + 1 => by
  have ih0 := F115.mono_l k
  intro y0 y1 y2
  unfold F115.l0
  repeat' with_reducible first | exact ih0 _ _ _ | exact LeO.refl _ | exact LeO.none _ | refine LeO.ite ?_ ?_ | refine LeO.bind ?_ (fun _ => ?_)
theorem F115.mono : ∀ a0 a1 k, LeO (F115.f k a0 a1) (F115.f (k + 1) a0 a1) := by
 intro a0 a1 k
 have ih0 := F115.mono_l k
 unfold F115.f
 repeat' with_reducible first | exact ih0 _ _ _ | exact LeO.refl _ | exact LeO.none _ | refine LeO.ite ?_ ?_ | refine LeO.bind ?_ (fun _ => ?_)
theorem F115.calls (k : Nat) (A0 : Option Addr) (c0 : Nat) (l0 : List ByteArray) (A1 : Option Addr) (c1 : Nat) (l1 : List ByteArray) (r : Bool) (w : World) (hr0 : Kd.C Kd.string w A0 l0.length l0) (hc0 : l0.length ≤ c0) (hr1 : Kd.C Kd.string w A1 l1.length l1) (hc1 : l1.length ≤ c1) (h : F115.f k l0 l1 = some r) :
  Calls Tryz.prog 115 #[.slice A0 l0.length c0, .slice A1 l1.length c1] w fun e w' => e = .returned (.bool r) ∧ Drawn0 w w' := by
 have HR0 := am_ hr0
 have HC0 := am_ hc0
 clear hr0 hc0
 have HR1 := am_ hr1
 have HC1 := am_ hc1
 clear hr1 hc1
 have H : (if (l0.length : Int) = (l1.length : Int) then (F115.l0 k l0 l1 0) else (some false)) = some r := h
 clear h
 by_cases c3 : (l0.length : Int) = (l1.length : Int)
 rotate_left
 ·rw [if_neg c3] at H
  have c3b0 : ((l0.length : Int) == (l1.length : Int)) = false := beq_eq_false_iff_ne.mpr c3
  have c3b1 : ((l0.length : Int) != (l1.length : Int)) = true := bne_iff_ne.mpr c3
  have c3b2 : (l0.length == l1.length) = false := by first | simpa using c3 | (simp at c3 ⊢; omega)
  obtain rfl := Option.some.inj H
  go_enter Tryz.func115, Tryz.ntmps115
  go_wp2
  repeat (go_quiet (fail); try go_wp2)
  go_ret
  exact ⟨er_, dn_⟩

 rw [if_pos c3] at H
 have c3b0 : ((l0.length : Int) == (l1.length : Int)) = true := beq_iff_eq.mpr c3
 have c3b1 : ((l0.length : Int) != (l1.length : Int)) = false := bne_eq_false_iff_eq.mpr c3
 have c3b2 : (l0.length == l1.length) = true := by first | simpa using c3 | (simp at c3 ⊢; omega)
 clear c3
 have H' := am_ H
 clear H
 go_enter Tryz.func115, Tryz.ntmps115
 go_wp2
 repeat (go_quiet (fail); try go_wp2)
 go_loopg [5] k (fun kq v5 w' => ∃ (x5_1 : Int), v5 = .int .i64 x5_1 ∧ Aside0 (F115.l0 kq l0 l1 x5_1 = some r) ∧ Aside0 (kq ≤ k) ∧ Drawn0 w w')
 case atStart => exact ⟨(0), er_, H', ⟨Nat.le_refl _⟩, dn_⟩
 case round =>
  clear H'
  try clear c1
  try clear c3
  try clear c3b0
  try clear c3b1
  try clear c3b2
  obtain ⟨x5_1, rfl, HA, HK1, ⟨m1, rfl⟩⟩ := hrel
  cases gk with
  | zero => exact absurd HA.out (by simp [F115.l0])
  | succ k1 =>
   have H := HA.out
   clear HA
   simp only [F115.l0] at H
   replace H := it_ H; rcases H with ⟨c4b0, H⟩ | ⟨c4b0, H⟩
   rotate_left
   ·obtain rfl := Option.some.inj H
    go_wp2
    repeat (go_quiet (fail); try go_wp2)
    go_ret
    exact ⟨er_, dn_⟩
   replace H := itn_ H; rcases H with ⟨c5b0, H⟩
   replace H := itn_ H; rcases H with ⟨c6b0, H⟩
   by_cases c7 : (rdOf ByteArray.empty l0 x5_1).toList = (rdOf ByteArray.empty l1 x5_1).toList
   rotate_left
   ·rw [if_neg c7] at H
    have c7b0 : ((rdOf ByteArray.empty l0 x5_1).toList == (rdOf ByteArray.empty l1 x5_1).toList) = false := beq_eq_false_iff_ne.mpr c7
    have c7b1 : ((rdOf ByteArray.empty l0 x5_1).toList != (rdOf ByteArray.empty l1 x5_1).toList) = true := bne_iff_ne.mpr c7
    obtain rfl := Option.some.inj H
    have p504 : 0 ≤ (x5_1 : Int) := od_
    have q504 : x5_1 < (l0.length : Int) := od_
    obtain ⟨ad504, e504, hx504_0⟩ := Kd.at_string HR0.out x5_1 p504 q504
    cases e504
    replace p504 := eq_true p504
    replace q504 := eq_true q504
    have p505 : 0 ≤ (x5_1 : Int) := od_
    have q505 : x5_1 < (l1.length : Int) := od_
    obtain ⟨ad505, e505, hx505_0⟩ := Kd.at_string HR1.out x5_1 p505 q505
    cases e505
    replace p505 := eq_true p505
    replace q505 := eq_true q505
    go_wp2
    repeat (go_quiet (fail); try go_wp2)
    go_ret
    exact ⟨er_, dn_⟩
   rw [if_pos c7] at H
   have c7b0 : ((rdOf ByteArray.empty l0 x5_1).toList == (rdOf ByteArray.empty l1 x5_1).toList) = true := beq_iff_eq.mpr c7
   have c7b1 : ((rdOf ByteArray.empty l0 x5_1).toList != (rdOf ByteArray.empty l1 x5_1).toList) = false := bne_eq_false_iff_eq.mpr c7
   clear c7
   have H' := am_ H
   clear H
   have p504 : 0 ≤ (x5_1 : Int) := od_
   have q504 : x5_1 < (l0.length : Int) := od_
   obtain ⟨ad504, e504, hx504_0⟩ := Kd.at_string HR0.out x5_1 p504 q504
   cases e504
   replace p504 := eq_true p504
   replace q504 := eq_true q504
   have p505 : 0 ≤ (x5_1 : Int) := od_
   have q505 : x5_1 < (l1.length : Int) := od_
   obtain ⟨ad505, e505, hx505_0⟩ := Kd.at_string HR1.out x5_1 p505 q505
   cases e505
   replace p505 := eq_true p505
   replace q505 := eq_true q505
   go_wp2
   repeat (go_quiet (fail); try go_wp2)
   go_roundg k1
   case measure => have := HK1.out; omega
   case rel => exact ⟨(wrap64 (x5_1 + 1)), er_, H', ⟨by have := HK1.out; omega⟩, dn_⟩
/-! ### F97: function 97 -/
def F97.f (k : Nat) (l0_0 : List ByteArray) (l1_0 : List ByteArray) : Option (Bool) := (F115.f k l0_0 l1_0).bind fun t508 => (if t508 = true then (some true) else (some false))
theorem F97.mono : ∀ a0 a1 k, LeO (F97.f k a0 a1) (F97.f (k + 1) a0 a1) := by
 intro a0 a1 k
 unfold F97.f
 repeat' with_reducible first | exact F115.mono _ _ _ | exact LeO.refl _ | exact LeO.none _ | refine LeO.ite ?_ ?_ | refine LeO.bind ?_ (fun _ => ?_)
theorem F97.calls (k : Nat) (A0_0 : Option Addr) (c0_0 : Nat) (l0_0 : List ByteArray) (A1_0 : Option Addr) (c1_0 : Nat) (l1_0 : List ByteArray) (r : Bool) (w : World) (hr0_0 : Kd.C Kd.string w A0_0 l0_0.length l0_0) (hc0_0 : l0_0.length ≤ c0_0) (hr1_0 : Kd.C Kd.string w A1_0 l1_0.length l1_0) (hc1_0 : l1_0.length ≤ c1_0) (h : F97.f k l0_0 l1_0 = some r) :
  Calls Tryz.prog 97 #[.agg #[.slice A0_0 l0_0.length c0_0], .agg #[.slice A1_0 l1_0.length c1_0]] w fun e w' => e = .returned (.bool r) ∧ Below w.heap.size w w' := by
 have hu91 := Tryz.underlying91
 have HR0_0 := am_ hr0_0
 have HC0_0 := am_ hc0_0
 clear hr0_0 hc0_0
 have HR1_0 := am_ hr1_0
 have HC1_0 := am_ hc1_0
 clear hr1_0 hc1_0
 have HB := am_ (Below.refl w.heap.size w)
 have H : ((F115.f k l0_0 l1_0).bind fun t508 => (if t508 = true then (some true) else (some false))) = some r := h
 clear h
 replace H := bi_ H; rcases H with ⟨t508, A3, H⟩
 replace H := ib_ H; rcases H with ⟨rfl, H⟩ | ⟨rfl, H⟩
 ·obtain rfl := Option.some.inj H
  go_enter Tryz.func97, Tryz.ntmps97
  go_wp2_with (first | ((with_reducible refine gate_dst (N := 2) rfl ?_); refine be_ 2 #[.slice A0_0 l0_0.length c0_0] 91 ?_; intro gb506 hg w5 hbox hb; have BK506 := am_ (hbox); have GW506 := am_ (gw_ hg bl_); have GE506 := GW506; replace HB := hs_ w hb; clear hb hbox hg) | ((with_reducible refine gate_dst (N := 3) rfl ?_); refine be_ 3 #[.slice A1_0 l1_0.length c1_0] 91 ?_; intro gb507 hg w6 hbox hb; have BK507 := am_ (hbox); have GW507 := am_ (gw_ hg bl_); have GE507 := GW507; replace HB := hs_ w hb; have NB506_507 := am_ (gn_ hg (blkl_ BK506)); have NB507_506 := am_ (gm_ hg (blkl_ BK506)); replace BK506 := bb_ BK506 hb; clear hb hbox hg; have hnb7 := NB506_507.out; have hnc7 := NB507_506.out; have hcz8_0 : w6.cell? ⟨gb506, 0, none⟩ = some (.slice A0_0 l0_0.length c0_0) := (blk_cell BK506.out 0).trans rfl; have hfz8_0 := blk_frozen BK506.out 0; have hcz9_0 : w6.cell? ⟨gb507, 0, none⟩ = some (.slice A1_0 l1_0.length c1_0) := (blk_cell BK507.out 0).trans rfl; have hfz9_0 := blk_frozen BK507.out 0) | ((with_reducible refine gate_callee (f := 115) rfl ?_); refine gl_ 9 Tryz.func115 #[.slice A0_0 l0_0.length c0_0, .slice A1_0 l1_0.length c1_0] ?_ rfl rfl rfl rfl; (with_reducible refine (F115.calls k _ _ l0_0 _ _ l1_0 true _ ?s1 ?s2 ?s3 ?s4 A3.out).mono ?_); (case s1 => exact au3_21); (case s2 => exact HC0_0.out); (case s3 => exact au3_22); (case s4 => exact HC1_0.out); rintro e w' ⟨rfl, ⟨nd, rfl⟩⟩; refine ⟨_, rfl, ?_⟩))
  go_ret
  exact ⟨au3_0, bl_⟩
 obtain rfl := Option.some.inj H
 go_enter Tryz.func97, Tryz.ntmps97
 go_wp2_with (first | ((with_reducible refine gate_dst (N := 2) rfl ?_); refine be_ 2 #[.slice A0_0 l0_0.length c0_0] 91 ?_; intro gb506 hg w10 hbox hb; have BK506 := am_ (hbox); have GW506 := am_ (gw_ hg bl_); have GE506 := GW506; replace HB := hs_ w hb; clear hb hbox hg) | ((with_reducible refine gate_dst (N := 3) rfl ?_); refine be_ 3 #[.slice A1_0 l1_0.length c1_0] 91 ?_; intro gb507 hg w11 hbox hb; have BK507 := am_ (hbox); have GW507 := am_ (gw_ hg bl_); have GE507 := GW507; replace HB := hs_ w hb; have NB506_507 := am_ (gn_ hg (blkl_ BK506)); have NB507_506 := am_ (gm_ hg (blkl_ BK506)); replace BK506 := bb_ BK506 hb; clear hb hbox hg; have hnb12 := NB506_507.out; have hnc12 := NB507_506.out; have hcz13_0 : w11.cell? ⟨gb506, 0, none⟩ = some (.slice A0_0 l0_0.length c0_0) := (blk_cell BK506.out 0).trans rfl; have hfz13_0 := blk_frozen BK506.out 0; have hcz14_0 : w11.cell? ⟨gb507, 0, none⟩ = some (.slice A1_0 l1_0.length c1_0) := (blk_cell BK507.out 0).trans rfl; have hfz14_0 := blk_frozen BK507.out 0) | ((with_reducible refine gate_callee (f := 115) rfl ?_); refine gl_ 9 Tryz.func115 #[.slice A0_0 l0_0.length c0_0, .slice A1_0 l1_0.length c1_0] ?_ rfl rfl rfl rfl; (with_reducible refine (F115.calls k _ _ l0_0 _ _ l1_0 false _ ?s1 ?s2 ?s3 ?s4 A3.out).mono ?_); (case s1 => exact au3_21); (case s2 => exact HC0_0.out); (case s3 => exact au3_22); (case s4 => exact HC1_0.out); rintro e w' ⟨rfl, ⟨nd, rfl⟩⟩; refine ⟨_, rfl, ?_⟩))
 go_ret
 exact ⟨au3_0, bl_⟩

/-! ### F63: function 63 -/
def F63.l0 : Nat → List (S91) → List (S91) → Int → Option (Bool)
  | 0, _, _, _ => none
  | k + 1, x0, x1, x5 => if x5 < (x0.length : Int) then (if 0 ≤ x5 then (if x5 < (x1.length : Int) then ((F97.f k ((rd_T91 x0 x5).f0) ((rd_T91 x1 x5).f0)).bind fun t511 => (if t511 = true then (F63.l0 k x0 x1 (wrap64 (x5 + 1))) else (some false))) else (none)) else (none)) else (some true)
def F63.f (k : Nat) (l0 : List (S91)) (l1 : List (S91)) : Option (Bool) := if (l0.length : Int) = (l1.length : Int) then (F63.l0 k l0 l1 0) else (some false)
theorem F63.mono_l : ∀ k, (∀ y0 y1 y2, LeO (F63.l0 k y0 y1 y2) (F63.l0 (k + 1) y0 y1 y2))
 | 0 => fun _ _ _ r h => by simp [F63.l0] at h
 | k + 1 => by
  have ih0 := F63.mono_l k
  intro y0 y1 y2
  unfold F63.l0
  repeat' with_reducible first | exact ih0 _ _ _ | exact F97.mono _ _ _ | exact LeO.refl _ | exact LeO.none _ | refine LeO.ite ?_ ?_ | refine LeO.bind ?_ (fun _ => ?_)
theorem F63.mono : ∀ a0 a1 k, LeO (F63.f k a0 a1) (F63.f (k + 1) a0 a1) := by
 intro a0 a1 k
 have ih0 := F63.mono_l k
 unfold F63.f
 repeat' with_reducible first | exact ih0 _ _ _ | exact F97.mono _ _ _ | exact LeO.refl _ | exact LeO.none _ | refine LeO.ite ?_ ?_ | refine LeO.bind ?_ (fun _ => ?_)
def F63.T6 : Bool × List (List Nat × List Nat) := (true, [([], []), ([], []), ([0, 1], [0, 1]), ([2], [2]), ([], []), ([], []), ([4, 5], [4, 5]), ([6], [6]), ([3, 7], [3, 7]), ([8], [8])])
def F63.B6 : List Nat := [0, 0, 3, 7, 0, 0, 48, 112, 255, 511]
theorem F63.tab6 : rtab .any (opsOf Tryz.f63 6) = F63.T6 := by kernel_rfl
theorem F63.bits6 : waitsOk F63.T6.2 F63.B6 = true := by kernel_rfl
theorem F63.calls (k : Nat) (A0 : Option Addr) (c0 : Nat) (l0 : List (S91)) (A1 : Option Addr) (c1 : Nat) (l1 : List (S91)) (r : Bool) (w : World) (hr0 : Kd.C k91 w A0 l0.length l0) (hc0 : l0.length ≤ c0) (hr1 : Kd.C k91 w A1 l1.length l1) (hc1 : l1.length ≤ c1) (h : F63.f k l0 l1 = some r) :
  Calls Tryz.prog 63 #[.slice A0 l0.length c0, .slice A1 l1.length c1] w fun e w' => e = .returned (.bool r) ∧ Below w.heap.size w w' := by
 have hu91 := Tryz.underlying91
 have HR0 := am_ hr0
 have HC0 := am_ hc0
 clear hr0 hc0
 have HR1 := am_ hr1
 have HC1 := am_ hc1
 clear hr1 hc1
 have HB := am_ (Below.refl w.heap.size w)
 have H : (if (l0.length : Int) = (l1.length : Int) then (F63.l0 k l0 l1 0) else (some false)) = some r := h
 clear h
 by_cases c3 : (l0.length : Int) = (l1.length : Int)
 rotate_left
 ·rw [if_neg c3] at H
  have c3b0 : ((l0.length : Int) == (l1.length : Int)) = false := beq_eq_false_iff_ne.mpr c3
  have c3b1 : ((l0.length : Int) != (l1.length : Int)) = true := bne_iff_ne.mpr c3
  have c3b2 : (l0.length == l1.length) = false := by first | simpa using c3 | (simp at c3 ⊢; omega)
  obtain rfl := Option.some.inj H
  go_enter Tryz.func63, Tryz.ntmps63
  go_wp2
  go_ret
  exact ⟨au3_0, bl_⟩

 rw [if_pos c3] at H
 have c3b0 : ((l0.length : Int) == (l1.length : Int)) = true := beq_iff_eq.mpr c3
 have c3b1 : ((l0.length : Int) != (l1.length : Int)) = false := bne_eq_false_iff_eq.mpr c3
 have c3b2 : (l0.length == l1.length) = true := by first | simpa using c3 | (simp at c3 ⊢; omega)
 clear c3
 have H' := am_ H
 clear H
 go_enter Tryz.func63, Tryz.ntmps63
 go_wp2
 go_loopg [5] k (fun kq v5 w' => ∃ (x5_1 : Int), v5 = .int .i64 x5_1 ∧ Aside0 (F63.l0 kq l0 l1 x5_1 = some r) ∧ Aside0 (kq ≤ k) ∧ Aside0 (Below w.heap.size w w'))
 case atStart => exact ⟨(0), er_, H', ⟨Nat.le_refl _⟩, ⟨bl_⟩⟩
 case round =>
  clear H'
  try clear c1
  try clear c3
  try clear c3b0
  try clear c3b1
  try clear c3b2
  obtain ⟨x5_1, rfl, HA, HK1, HB⟩ := hrel
  cases gk with
  | zero => exact absurd HA.out (by simp [F63.l0])
  | succ k1 =>
   have H := HA.out
   clear HA
   simp only [F63.l0] at H
   replace H := it_ H; rcases H with ⟨c4b0, H⟩ | ⟨c4b0, H⟩
   rotate_left
   ·obtain rfl := Option.some.inj H
    go_wp2
    go_ret
    exact ⟨au3_0, bl_⟩
   replace H := itn_ H; rcases H with ⟨c5b0, H⟩
   replace H := itn_ H; rcases H with ⟨c6b0, H⟩
   replace H := bi_ H; rcases H with ⟨t511, A7, H⟩
   replace H := ib_ H; rcases H with ⟨rfl, H⟩ | ⟨rfl, H⟩
   rotate_left
   ·obtain rfl := Option.some.inj H
    try go_wp2
    replace HB := am_ (below_drew1 HB.out)
    have p509 : 0 ≤ (x5_1 : Int) := od_
    have q509 : x5_1 < (l0.length : Int) := od_
    obtain ⟨ad509, A509_0, c509_0, e509, hx509_0, hl509_0, hi509_0⟩ := at_T91 HR0.out x5_1 p509 q509
    have hw509_0 := hx509_0
    cases e509
    replace hx509_0 := (HB.out.cell (World.block_lt_of_cell? _ _ hx509_0)).trans hx509_0
    have HR509_0 := am_ hi509_0
    have HC509_0 := am_ hl509_0
    clear hi509_0 hl509_0
    replace p509 := eq_true p509
    replace q509 := eq_true q509
    have p510 : 0 ≤ (x5_1 : Int) := od_
    have q510 : x5_1 < (l1.length : Int) := od_
    obtain ⟨ad510, A510_0, c510_0, e510, hx510_0, hl510_0, hi510_0⟩ := at_T91 HR1.out x5_1 p510 q510
    have hw510_0 := hx510_0
    cases e510
    replace hx510_0 := (HB.out.cell (World.block_lt_of_cell? _ _ hx510_0)).trans hx510_0
    have HR510_0 := am_ hi510_0
    have HC510_0 := am_ hl510_0
    clear hi510_0 hl510_0
    replace p510 := eq_true p510
    replace q510 := eq_true q510
    refine start_ (n := 10) (S := fun w' => w'.cell? (ad509.add (x5_1).toNat) = some (.slice A509_0 ((rd_T91 l0 x5_1).f0).length c509_0) ∧ w'.cell? (ad510.add (x5_1).toNat) = some (.slice A510_0 ((rd_T91 l1 x5_1).f0).length c510_0)) (ds := []) (bs 10 0) (by kernel_rfl) rfl rfl ⟨((HB.out.cell (World.block_lt_of_cell? _ _ hw509_0)).trans hw509_0), ((HB.out.cell (World.block_lt_of_cell? _ _ hw510_0)).trans hw510_0)⟩ (fun hHeld => ?_); refine with_tabW F63.tab6 F63.bits6 (fun HT_ HW_ => ?_)
    generalize wr.drew = w11 at HB HR509_0 HR510_0 hx509_0 hx510_0 hHeld ⊢
    refine pu_ 0 17 (bs 10 1) HT_ ?_ rfl rfl
    refine pu_ 1 18 (bs 10 3) HT_ ?_ rfl rfl
    refine pu_ 2 19 (bs 10 7) HT_ ?_ rfl rfl
    refine pu_ 4 21 (bs 10 23) HT_ ?_ rfl rfl
    refine pu_ 5 22 (bs 10 55) HT_ ?_ rfl rfl
    refine pu_ 6 23 (bs 10 119) HT_ ?_ rfl rfl
    refine tk_ 3 20 (bs 10 127) HT_ HW_ hHeld au3_13 ?_ rfl rfl
    refine tk_ 7 24 (bs 10 255) HT_ HW_ hHeld au3_13 ?_ rfl rfl
    refine one_ (i := 8) (N := some 25) (bs 10 511) rfl rfl (one_of HT_.out (by kernel_rfl)) (by decide) (fun K hK => ?_)
    refine gr_ Tryz.func97 #[.agg #[.slice A509_0 ((rd_T91 l0 x5_1).f0).length c509_0], .agg #[.slice A510_0 ((rd_T91 l1 x5_1).f0).length c510_0]] (by rfl) ?_ rfl rfl rfl
    with_reducible refine (F97.calls k1 _ _ ((rd_T91 l0 x5_1).f0) _ _ ((rd_T91 l1 x5_1).f0) false _ ?s1 ?s2 ?s3 ?s4 A7.out).mono ?_
    (case s1 => exact au3_15)
    (case s2 => exact HC509_0.out)
    (case s3 => exact au3_16)
    (case s4 => exact HC510_0.out)
    rintro e w12 ⟨rfl, hb⟩
    refine ⟨_, rfl, ?_⟩
    replace HB := hs_ w hb
    (try clear hb)
    (try clear hb2)
    (try clear hk)
    (try clear hi)
    refine hK.out _ _ ⟨((HB.out.cell (World.block_lt_of_cell? _ _ hw509_0)).trans hw509_0), ((HB.out.cell (World.block_lt_of_cell? _ _ hw510_0)).trans hw510_0)⟩ (fun hHeld => ?_)
    clear hK K
    refine no_ 25 ?_
    refine pu_ 9 26 (bs 10 1023) HT_ ?_ rfl rfl
    refine done_ (done_of HT_.out (by kernel_rfl)) ?_
    try go_wp2
    go_ret
    exact ⟨au3_0, bl_⟩
   have H' := am_ H
   clear H
   try go_wp2
   replace HB := am_ (below_drew1 HB.out)
   have p509 : 0 ≤ (x5_1 : Int) := od_
   have q509 : x5_1 < (l0.length : Int) := od_
   obtain ⟨ad509, A509_0, c509_0, e509, hx509_0, hl509_0, hi509_0⟩ := at_T91 HR0.out x5_1 p509 q509
   have hw509_0 := hx509_0
   cases e509
   replace hx509_0 := (HB.out.cell (World.block_lt_of_cell? _ _ hx509_0)).trans hx509_0
   have HR509_0 := am_ hi509_0
   have HC509_0 := am_ hl509_0
   clear hi509_0 hl509_0
   replace p509 := eq_true p509
   replace q509 := eq_true q509
   have p510 : 0 ≤ (x5_1 : Int) := od_
   have q510 : x5_1 < (l1.length : Int) := od_
   obtain ⟨ad510, A510_0, c510_0, e510, hx510_0, hl510_0, hi510_0⟩ := at_T91 HR1.out x5_1 p510 q510
   have hw510_0 := hx510_0
   cases e510
   replace hx510_0 := (HB.out.cell (World.block_lt_of_cell? _ _ hx510_0)).trans hx510_0
   have HR510_0 := am_ hi510_0
   have HC510_0 := am_ hl510_0
   clear hi510_0 hl510_0
   replace p510 := eq_true p510
   replace q510 := eq_true q510
   refine start_ (n := 10) (S := fun w' => w'.cell? (ad509.add (x5_1).toNat) = some (.slice A509_0 ((rd_T91 l0 x5_1).f0).length c509_0) ∧ w'.cell? (ad510.add (x5_1).toNat) = some (.slice A510_0 ((rd_T91 l1 x5_1).f0).length c510_0)) (ds := []) (bs 10 0) (by kernel_rfl) rfl rfl ⟨((HB.out.cell (World.block_lt_of_cell? _ _ hw509_0)).trans hw509_0), ((HB.out.cell (World.block_lt_of_cell? _ _ hw510_0)).trans hw510_0)⟩ (fun hHeld => ?_); refine with_tabW F63.tab6 F63.bits6 (fun HT_ HW_ => ?_)
   generalize wr.drew = w9 at HB HR509_0 HR510_0 hx509_0 hx510_0 hHeld ⊢
   refine pu_ 0 17 (bs 10 1) HT_ ?_ rfl rfl
   refine pu_ 1 18 (bs 10 3) HT_ ?_ rfl rfl
   refine pu_ 2 19 (bs 10 7) HT_ ?_ rfl rfl
   refine pu_ 4 21 (bs 10 23) HT_ ?_ rfl rfl
   refine pu_ 5 22 (bs 10 55) HT_ ?_ rfl rfl
   refine pu_ 6 23 (bs 10 119) HT_ ?_ rfl rfl
   refine tk_ 3 20 (bs 10 127) HT_ HW_ hHeld au3_13 ?_ rfl rfl
   refine tk_ 7 24 (bs 10 255) HT_ HW_ hHeld au3_13 ?_ rfl rfl
   refine one_ (i := 8) (N := some 25) (bs 10 511) rfl rfl (one_of HT_.out (by kernel_rfl)) (by decide) (fun K hK => ?_)
   refine gr_ Tryz.func97 #[.agg #[.slice A509_0 ((rd_T91 l0 x5_1).f0).length c509_0], .agg #[.slice A510_0 ((rd_T91 l1 x5_1).f0).length c510_0]] (by rfl) ?_ rfl rfl rfl
   with_reducible refine (F97.calls k1 _ _ ((rd_T91 l0 x5_1).f0) _ _ ((rd_T91 l1 x5_1).f0) true _ ?s1 ?s2 ?s3 ?s4 A7.out).mono ?_
   (case s1 => exact au3_15)
   (case s2 => exact HC509_0.out)
   (case s3 => exact au3_16)
   (case s4 => exact HC510_0.out)
   rintro e w10 ⟨rfl, hb⟩
   refine ⟨_, rfl, ?_⟩
   replace HB := hs_ w hb
   (try clear hb)
   (try clear hb2)
   (try clear hk)
   (try clear hi)
   refine hK.out _ _ ⟨((HB.out.cell (World.block_lt_of_cell? _ _ hw509_0)).trans hw509_0), ((HB.out.cell (World.block_lt_of_cell? _ _ hw510_0)).trans hw510_0)⟩ (fun hHeld => ?_)
   clear hK K
   refine no_ 25 ?_
   refine pu_ 9 26 (bs 10 1023) HT_ ?_ rfl rfl
   refine done_ (done_of HT_.out (by kernel_rfl)) ?_
   try go_wp2
   go_roundg k1
   case measure => have := HK1.out; omega
   case rel => exact ⟨(wrap64 (x5_1 + 1)), er_, H', ⟨by have := HK1.out; omega⟩, ⟨bl_⟩⟩
/-! ### F31: function 31 -/
def F31.f (k : Nat) (a0_0 : ByteArray) (l0_1 : List (S91)) (a1_0 : ByteArray) (l1_1 : List (S91)) : Option (Bool) := if a0_0.toList = a1_0.toList then ((F63.f k l0_1 l1_1).bind fun t514 => (if t514 = true then (some true) else (some false))) else (some false)
theorem F31.mono : ∀ a0 a1 a2 a3 k, LeO (F31.f k a0 a1 a2 a3) (F31.f (k + 1) a0 a1 a2 a3) := by
 intro a0 a1 a2 a3 k
 unfold F31.f
 repeat' with_reducible first | exact F63.mono _ _ _ | exact LeO.refl _ | exact LeO.none _ | refine LeO.ite ?_ ?_ | refine LeO.bind ?_ (fun _ => ?_)
theorem F31.calls (k : Nat) (a0_0 : ByteArray) (A0_1 : Option Addr) (c0_1 : Nat) (l0_1 : List (S91)) (a1_0 : ByteArray) (A1_1 : Option Addr) (c1_1 : Nat) (l1_1 : List (S91)) (r : Bool) (w : World) (hr0_1 : Kd.C k91 w A0_1 l0_1.length l0_1) (hc0_1 : l0_1.length ≤ c0_1) (hr1_1 : Kd.C k91 w A1_1 l1_1.length l1_1) (hc1_1 : l1_1.length ≤ c1_1) (h : F31.f k a0_0 l0_1 a1_0 l1_1 = some r) :
  Calls Tryz.prog 31 #[.agg #[.string a0_0, .slice A0_1 l0_1.length c0_1], .agg #[.string a1_0, .slice A1_1 l1_1.length c1_1]] w fun e w' => e = .returned (.bool r) ∧ Below w.heap.size w w' := by
 have hu49 := Tryz.underlying49
 have HR0_1 := am_ hr0_1
 have HC0_1 := am_ hc0_1
 clear hr0_1 hc0_1
 have HR1_1 := am_ hr1_1
 have HC1_1 := am_ hc1_1
 clear hr1_1 hc1_1
 have HB := am_ (Below.refl w.heap.size w)
 have H : (if a0_0.toList = a1_0.toList then ((F63.f k l0_1 l1_1).bind fun t514 => (if t514 = true then (some true) else (some false))) else (some false)) = some r := h
 clear h
 by_cases c3 : a0_0.toList = a1_0.toList
 rotate_left
 ·rw [if_neg c3] at H
  have c3b0 : (a0_0.toList == a1_0.toList) = false := beq_eq_false_iff_ne.mpr c3
  have c3b1 : (a0_0.toList != a1_0.toList) = true := bne_iff_ne.mpr c3
  obtain rfl := Option.some.inj H
  go_enter Tryz.func31, Tryz.ntmps31
  go_wp2_with (first | ((with_reducible refine gate_dst (N := 2) rfl ?_); refine be_ 2 #[.string a0_0, .slice A0_1 l0_1.length c0_1] 49 ?_; intro gb512 hg w18 hbox hb; have BK512 := am_ (hbox); have GW512 := am_ (gw_ hg bl_); have GE512 := GW512; replace HB := hs_ w hb; clear hb hbox hg) | ((with_reducible refine gate_dst (N := 3) rfl ?_); refine be_ 3 #[.string a1_0, .slice A1_1 l1_1.length c1_1] 49 ?_; intro gb513 hg w19 hbox hb; have BK513 := am_ (hbox); have GW513 := am_ (gw_ hg bl_); have GE513 := GW513; replace HB := hs_ w hb; have NB512_513 := am_ (gn_ hg (blkl_ BK512)); have NB513_512 := am_ (gm_ hg (blkl_ BK512)); replace BK512 := bb_ BK512 hb; clear hb hbox hg; have hnb20 := NB512_513.out; have hnc20 := NB513_512.out; obtain ⟨hcz21_0, hcz21_1, hfz21_0, hfz21_1⟩ := cellsF2 BK512.out; obtain ⟨hcz22_0, hcz22_1, hfz22_0, hfz22_1⟩ := cellsF2 BK513.out))
  go_ret
  exact ⟨au3_0, bl_⟩

 rw [if_pos c3] at H
 have c3b0 : (a0_0.toList == a1_0.toList) = true := beq_iff_eq.mpr c3
 have c3b1 : (a0_0.toList != a1_0.toList) = false := bne_eq_false_iff_eq.mpr c3
 clear c3
 replace H := bi_ H; rcases H with ⟨t514, A4, H⟩
 replace H := ib_ H; rcases H with ⟨rfl, H⟩ | ⟨rfl, H⟩
 rotate_left
 ·obtain rfl := Option.some.inj H
  go_enter Tryz.func31, Tryz.ntmps31
  go_wp2_with (first | ((with_reducible refine gate_dst (N := 2) rfl ?_); refine be_ 2 #[.string a0_0, .slice A0_1 l0_1.length c0_1] 49 ?_; intro gb512 hg w12 hbox hb; have BK512 := am_ (hbox); have GW512 := am_ (gw_ hg bl_); have GE512 := GW512; replace HB := hs_ w hb; clear hb hbox hg) | ((with_reducible refine gate_dst (N := 3) rfl ?_); refine be_ 3 #[.string a1_0, .slice A1_1 l1_1.length c1_1] 49 ?_; intro gb513 hg w13 hbox hb; have BK513 := am_ (hbox); have GW513 := am_ (gw_ hg bl_); have GE513 := GW513; replace HB := hs_ w hb; have NB512_513 := am_ (gn_ hg (blkl_ BK512)); have NB513_512 := am_ (gm_ hg (blkl_ BK512)); replace BK512 := bb_ BK512 hb; clear hb hbox hg; have hnb14 := NB512_513.out; have hnc14 := NB513_512.out; obtain ⟨hcz15_0, hcz15_1, hfz15_0, hfz15_1⟩ := cellsF2 BK512.out; obtain ⟨hcz16_0, hcz16_1, hfz16_0, hfz16_1⟩ := cellsF2 BK513.out) | ((with_reducible refine gate_callee (f := 63) rfl ?_); refine gl_ 14 Tryz.func63 #[.slice A0_1 l0_1.length c0_1, .slice A1_1 l1_1.length c1_1] ?_ rfl rfl rfl rfl; (with_reducible refine (F63.calls k _ _ l0_1 _ _ l1_1 false _ ?s1 ?s2 ?s3 ?s4 A4.out).mono ?_); (case s1 => exact au3_5); (case s2 => exact HC0_1.out); (case s3 => exact au3_6); (case s4 => exact HC1_1.out); rintro e w17 ⟨rfl, hb⟩; refine ⟨_, rfl, ?_⟩; replace BK512 := bb_ BK512 hb; replace BK513 := bb_ BK513 hb; replace HB := hs_ w hb; (try clear hb)))
  go_ret
  exact ⟨au3_0, bl_⟩
 obtain rfl := Option.some.inj H
 go_enter Tryz.func31, Tryz.ntmps31
 go_wp2_with (first | ((with_reducible refine gate_dst (N := 2) rfl ?_); refine be_ 2 #[.string a0_0, .slice A0_1 l0_1.length c0_1] 49 ?_; intro gb512 hg w6 hbox hb; have BK512 := am_ (hbox); have GW512 := am_ (gw_ hg bl_); have GE512 := GW512; replace HB := hs_ w hb; clear hb hbox hg) | ((with_reducible refine gate_dst (N := 3) rfl ?_); refine be_ 3 #[.string a1_0, .slice A1_1 l1_1.length c1_1] 49 ?_; intro gb513 hg w7 hbox hb; have BK513 := am_ (hbox); have GW513 := am_ (gw_ hg bl_); have GE513 := GW513; replace HB := hs_ w hb; have NB512_513 := am_ (gn_ hg (blkl_ BK512)); have NB513_512 := am_ (gm_ hg (blkl_ BK512)); replace BK512 := bb_ BK512 hb; clear hb hbox hg; have hnb8 := NB512_513.out; have hnc8 := NB513_512.out; obtain ⟨hcz9_0, hcz9_1, hfz9_0, hfz9_1⟩ := cellsF2 BK512.out; obtain ⟨hcz10_0, hcz10_1, hfz10_0, hfz10_1⟩ := cellsF2 BK513.out) | ((with_reducible refine gate_callee (f := 63) rfl ?_); refine gl_ 14 Tryz.func63 #[.slice A0_1 l0_1.length c0_1, .slice A1_1 l1_1.length c1_1] ?_ rfl rfl rfl rfl; (with_reducible refine (F63.calls k _ _ l0_1 _ _ l1_1 true _ ?s1 ?s2 ?s3 ?s4 A4.out).mono ?_); (case s1 => exact au3_5); (case s2 => exact HC0_1.out); (case s3 => exact au3_6); (case s4 => exact HC1_1.out); rintro e w11 ⟨rfl, hb⟩; refine ⟨_, rfl, ?_⟩; replace BK512 := bb_ BK512 hb; replace BK513 := bb_ BK513 hb; replace HB := hs_ w hb; (try clear hb)))
 go_ret
 exact ⟨au3_0, bl_⟩
/-! ### F9: function 9 -/
def F9.l0 : Nat → List (S49) → List (S49) → Int → Option (Bool)
  | 0, _, _, _ => none
  | k + 1, x0, x1, x5 => if x5 < (x0.length : Int) then (if 0 ≤ x5 then (if x5 < (x1.length : Int) then ((F31.f k ((rd_T49 x0 x5).f0) ((rd_T49 x0 x5).f1) ((rd_T49 x1 x5).f0) ((rd_T49 x1 x5).f1)).bind fun t517 => (if t517 = true then (F9.l0 k x0 x1 (wrap64 (x5 + 1))) else (some false))) else (none)) else (none)) else (some true)
def F9.f (k : Nat) (l0 : List (S49)) (l1 : List (S49)) : Option (Bool) := if (l0.length : Int) = (l1.length : Int) then (F9.l0 k l0 l1 0) else (some false)
theorem F9.mono_l : ∀ k, (∀ y0 y1 y2, LeO (F9.l0 k y0 y1 y2) (F9.l0 (k + 1) y0 y1 y2))
 | 0 => fun _ _ _ r h => by simp [F9.l0] at h
 | k + 1 => by
  have ih0 := F9.mono_l k
  intro y0 y1 y2
  unfold F9.l0
  repeat' with_reducible first | exact ih0 _ _ _ | exact F31.mono _ _ _ _ _ | exact LeO.refl _ | exact LeO.none _ | refine LeO.ite ?_ ?_ | refine LeO.bind ?_ (fun _ => ?_)
theorem F9.mono : ∀ a0 a1 k, LeO (F9.f k a0 a1) (F9.f (k + 1) a0 a1) := by
 intro a0 a1 k
 have ih0 := F9.mono_l k
 unfold F9.f
 repeat' with_reducible first | exact ih0 _ _ _ | exact F31.mono _ _ _ _ _ | exact LeO.refl _ | exact LeO.none _ | refine LeO.ite ?_ ?_ | refine LeO.bind ?_ (fun _ => ?_)
def F9.T6 : Bool × List (List Nat × List Nat) := (true, [([], []), ([], []), ([0, 1], [0, 1]), ([2], [2]), ([], []), ([], []), ([4, 5], [4, 5]), ([6], [6]), ([3, 7], [3, 7]), ([8], [8])])
def F9.B6 : List Nat := [0, 0, 3, 7, 0, 0, 48, 112, 255, 511]
theorem F9.tab6 : rtab .any (opsOf Tryz.f9 6) = F9.T6 := by kernel_rfl
theorem F9.bits6 : waitsOk F9.T6.2 F9.B6 = true := by kernel_rfl
theorem F9.calls (k : Nat) (A0 : Option Addr) (c0 : Nat) (l0 : List (S49)) (A1 : Option Addr) (c1 : Nat) (l1 : List (S49)) (r : Bool) (w : World) (hr0 : Kd.C k49 w A0 l0.length l0) (hc0 : l0.length ≤ c0) (hr1 : Kd.C k49 w A1 l1.length l1) (hc1 : l1.length ≤ c1) (h : F9.f k l0 l1 = some r) :
  Calls Tryz.prog 9 #[.slice A0 l0.length c0, .slice A1 l1.length c1] w fun e w' => e = .returned (.bool r) ∧ Below w.heap.size w w' := by
 have hu49 := Tryz.underlying49
 have HR0 := am_ hr0
 have HC0 := am_ hc0
 clear hr0 hc0
 have HR1 := am_ hr1
 have HC1 := am_ hc1
 clear hr1 hc1
 have HB := am_ (Below.refl w.heap.size w)
 have H : (if (l0.length : Int) = (l1.length : Int) then (F9.l0 k l0 l1 0) else (some false)) = some r := h
 clear h
 by_cases c3 : (l0.length : Int) = (l1.length : Int)
 rotate_left
 ·rw [if_neg c3] at H
  have c3b0 : ((l0.length : Int) == (l1.length : Int)) = false := beq_eq_false_iff_ne.mpr c3
  have c3b1 : ((l0.length : Int) != (l1.length : Int)) = true := bne_iff_ne.mpr c3
  have c3b2 : (l0.length == l1.length) = false := by first | simpa using c3 | (simp at c3 ⊢; omega)
  obtain rfl := Option.some.inj H
  go_enter Tryz.func9, Tryz.ntmps9
  go_wp2
  go_ret
  exact ⟨au3_0, bl_⟩

 rw [if_pos c3] at H
 have c3b0 : ((l0.length : Int) == (l1.length : Int)) = true := beq_iff_eq.mpr c3
 have c3b1 : ((l0.length : Int) != (l1.length : Int)) = false := bne_eq_false_iff_eq.mpr c3
 have c3b2 : (l0.length == l1.length) = true := by first | simpa using c3 | (simp at c3 ⊢; omega)
 clear c3
 have H' := am_ H
 clear H
 go_enter Tryz.func9, Tryz.ntmps9
 go_wp2
 go_loopg [5] k (fun kq v5 w' => ∃ (x5_1 : Int), v5 = .int .i64 x5_1 ∧ Aside0 (F9.l0 kq l0 l1 x5_1 = some r) ∧ Aside0 (kq ≤ k) ∧ Aside0 (Below w.heap.size w w'))
 case atStart => exact ⟨(0), er_, H', ⟨Nat.le_refl _⟩, ⟨bl_⟩⟩
 case round =>
  clear H'
  try clear c1
  try clear c3
  try clear c3b0
  try clear c3b1
  try clear c3b2
  obtain ⟨x5_1, rfl, HA, HK1, HB⟩ := hrel
  cases gk with
  | zero => exact absurd HA.out (by simp [F9.l0])
  | succ k1 =>
   have H := HA.out
   clear HA
   simp only [F9.l0] at H
   replace H := it_ H; rcases H with ⟨c4b0, H⟩ | ⟨c4b0, H⟩
   rotate_left
   ·obtain rfl := Option.some.inj H
    go_wp2
    go_ret
    exact ⟨au3_0, bl_⟩
   replace H := itn_ H; rcases H with ⟨c5b0, H⟩
   replace H := itn_ H; rcases H with ⟨c6b0, H⟩
   replace H := bi_ H; rcases H with ⟨t517, A7, H⟩
   replace H := ib_ H; rcases H with ⟨rfl, H⟩ | ⟨rfl, H⟩
   rotate_left
   ·obtain rfl := Option.some.inj H
    try go_wp2
    replace HB := am_ (below_drew1 HB.out)
    have p515 : 0 ≤ (x5_1 : Int) := od_
    have q515 : x5_1 < (l0.length : Int) := od_
    obtain ⟨ad515, A515_1, c515_1, e515, hx515_0, hx515_1, hl515_1, hi515_1⟩ := at_T49 HR0.out x5_1 p515 q515
    have hw515_1 := hx515_1
    have hw515_0 := hx515_0
    cases e515
    replace hx515_0 := (HB.out.cell (World.block_lt_of_cell? _ _ hx515_0)).trans hx515_0
    replace hx515_1 := (HB.out.cell (World.block_lt_of_cell? _ _ hx515_1)).trans hx515_1
    have HR515_1 := am_ hi515_1
    have HC515_1 := am_ hl515_1
    clear hi515_1 hl515_1
    replace p515 := eq_true p515
    replace q515 := eq_true q515
    have p516 : 0 ≤ (x5_1 : Int) := od_
    have q516 : x5_1 < (l1.length : Int) := od_
    obtain ⟨ad516, A516_1, c516_1, e516, hx516_0, hx516_1, hl516_1, hi516_1⟩ := at_T49 HR1.out x5_1 p516 q516
    have hw516_1 := hx516_1
    have hw516_0 := hx516_0
    cases e516
    replace hx516_0 := (HB.out.cell (World.block_lt_of_cell? _ _ hx516_0)).trans hx516_0
    replace hx516_1 := (HB.out.cell (World.block_lt_of_cell? _ _ hx516_1)).trans hx516_1
    have HR516_1 := am_ hi516_1
    have HC516_1 := am_ hl516_1
    clear hi516_1 hl516_1
    replace p516 := eq_true p516
    replace q516 := eq_true q516
    refine start_ (n := 10) (S := fun w' => w'.cell? (ad515.add ((x5_1).toNat * 2)) = some (.string ((rd_T49 l0 x5_1).f0)) ∧ w'.cell? ⟨(ad515.add ((x5_1).toNat * 2)).block, (ad515.add ((x5_1).toNat * 2)).off + 1, none⟩ = some (.slice A515_1 ((rd_T49 l0 x5_1).f1).length c515_1) ∧ w'.cell? (ad516.add ((x5_1).toNat * 2)) = some (.string ((rd_T49 l1 x5_1).f0)) ∧ w'.cell? ⟨(ad516.add ((x5_1).toNat * 2)).block, (ad516.add ((x5_1).toNat * 2)).off + 1, none⟩ = some (.slice A516_1 ((rd_T49 l1 x5_1).f1).length c516_1)) (ds := []) (bs 10 0) (by kernel_rfl) rfl rfl ⟨((HB.out.cell (World.block_lt_of_cell? _ _ hw515_0)).trans hw515_0), ((HB.out.cell (World.block_lt_of_cell? _ _ hw515_1)).trans hw515_1), ((HB.out.cell (World.block_lt_of_cell? _ _ hw516_0)).trans hw516_0), ((HB.out.cell (World.block_lt_of_cell? _ _ hw516_1)).trans hw516_1)⟩ (fun hHeld => ?_); refine with_tabW F9.tab6 F9.bits6 (fun HT_ HW_ => ?_)
    generalize wr.drew = w11 at HB HR515_1 HR516_1 hx515_0 hx515_1 hx516_0 hx516_1 hHeld ⊢
    refine pu_ 0 17 (bs 10 1) HT_ ?_ rfl rfl
    refine pu_ 1 18 (bs 10 3) HT_ ?_ rfl rfl
    refine pu_ 2 19 (bs 10 7) HT_ ?_ rfl rfl
    refine pu_ 4 21 (bs 10 23) HT_ ?_ rfl rfl
    refine pu_ 5 22 (bs 10 55) HT_ ?_ rfl rfl
    refine pu_ 6 23 (bs 10 119) HT_ ?_ rfl rfl
    refine tk_ 3 20 (bs 10 127) HT_ HW_ hHeld au3_4 ?_ rfl rfl
    refine tk_ 7 24 (bs 10 255) HT_ HW_ hHeld au3_4 ?_ rfl rfl
    refine one_ (i := 8) (N := some 25) (bs 10 511) rfl rfl (one_of HT_.out (by kernel_rfl)) (by decide) (fun K hK => ?_)
    refine gr_ Tryz.func31 #[.agg #[.string ((rd_T49 l0 x5_1).f0), .slice A515_1 ((rd_T49 l0 x5_1).f1).length c515_1], .agg #[.string ((rd_T49 l1 x5_1).f0), .slice A516_1 ((rd_T49 l1 x5_1).f1).length c516_1]] (by rfl) ?_ rfl rfl rfl
    with_reducible refine (F31.calls k1 ((rd_T49 l0 x5_1).f0) _ _ ((rd_T49 l0 x5_1).f1) ((rd_T49 l1 x5_1).f0) _ _ ((rd_T49 l1 x5_1).f1) false _ ?s1 ?s2 ?s3 ?s4 A7.out).mono ?_
    (case s1 => exact au3_17)
    (case s2 => exact HC515_1.out)
    (case s3 => exact au3_18)
    (case s4 => exact HC516_1.out)
    rintro e w12 ⟨rfl, hb⟩
    refine ⟨_, rfl, ?_⟩
    replace HB := hs_ w hb
    (try clear hb)
    (try clear hb2)
    (try clear hk)
    (try clear hi)
    refine hK.out _ _ ⟨((HB.out.cell (World.block_lt_of_cell? _ _ hw515_0)).trans hw515_0), ((HB.out.cell (World.block_lt_of_cell? _ _ hw515_1)).trans hw515_1), ((HB.out.cell (World.block_lt_of_cell? _ _ hw516_0)).trans hw516_0), ((HB.out.cell (World.block_lt_of_cell? _ _ hw516_1)).trans hw516_1)⟩ (fun hHeld => ?_)
    clear hK K
    refine no_ 25 ?_
    refine pu_ 9 26 (bs 10 1023) HT_ ?_ rfl rfl
    refine done_ (done_of HT_.out (by kernel_rfl)) ?_
    try go_wp2
    go_ret
    exact ⟨au3_0, bl_⟩
   have H' := am_ H
   clear H
   try go_wp2
   replace HB := am_ (below_drew1 HB.out)
   have p515 : 0 ≤ (x5_1 : Int) := od_
   have q515 : x5_1 < (l0.length : Int) := od_
   obtain ⟨ad515, A515_1, c515_1, e515, hx515_0, hx515_1, hl515_1, hi515_1⟩ := at_T49 HR0.out x5_1 p515 q515
   have hw515_1 := hx515_1
   have hw515_0 := hx515_0
   cases e515
   replace hx515_0 := (HB.out.cell (World.block_lt_of_cell? _ _ hx515_0)).trans hx515_0
   replace hx515_1 := (HB.out.cell (World.block_lt_of_cell? _ _ hx515_1)).trans hx515_1
   have HR515_1 := am_ hi515_1
   have HC515_1 := am_ hl515_1
   clear hi515_1 hl515_1
   replace p515 := eq_true p515
   replace q515 := eq_true q515
   have p516 : 0 ≤ (x5_1 : Int) := od_
   have q516 : x5_1 < (l1.length : Int) := od_
   obtain ⟨ad516, A516_1, c516_1, e516, hx516_0, hx516_1, hl516_1, hi516_1⟩ := at_T49 HR1.out x5_1 p516 q516
   have hw516_1 := hx516_1
   have hw516_0 := hx516_0
   cases e516
   replace hx516_0 := (HB.out.cell (World.block_lt_of_cell? _ _ hx516_0)).trans hx516_0
   replace hx516_1 := (HB.out.cell (World.block_lt_of_cell? _ _ hx516_1)).trans hx516_1
   have HR516_1 := am_ hi516_1
   have HC516_1 := am_ hl516_1
   clear hi516_1 hl516_1
   replace p516 := eq_true p516
   replace q516 := eq_true q516
   refine start_ (n := 10) (S := fun w' => w'.cell? (ad515.add ((x5_1).toNat * 2)) = some (.string ((rd_T49 l0 x5_1).f0)) ∧ w'.cell? ⟨(ad515.add ((x5_1).toNat * 2)).block, (ad515.add ((x5_1).toNat * 2)).off + 1, none⟩ = some (.slice A515_1 ((rd_T49 l0 x5_1).f1).length c515_1) ∧ w'.cell? (ad516.add ((x5_1).toNat * 2)) = some (.string ((rd_T49 l1 x5_1).f0)) ∧ w'.cell? ⟨(ad516.add ((x5_1).toNat * 2)).block, (ad516.add ((x5_1).toNat * 2)).off + 1, none⟩ = some (.slice A516_1 ((rd_T49 l1 x5_1).f1).length c516_1)) (ds := []) (bs 10 0) (by kernel_rfl) rfl rfl ⟨((HB.out.cell (World.block_lt_of_cell? _ _ hw515_0)).trans hw515_0), ((HB.out.cell (World.block_lt_of_cell? _ _ hw515_1)).trans hw515_1), ((HB.out.cell (World.block_lt_of_cell? _ _ hw516_0)).trans hw516_0), ((HB.out.cell (World.block_lt_of_cell? _ _ hw516_1)).trans hw516_1)⟩ (fun hHeld => ?_); refine with_tabW F9.tab6 F9.bits6 (fun HT_ HW_ => ?_)
   generalize wr.drew = w9 at HB HR515_1 HR516_1 hx515_0 hx515_1 hx516_0 hx516_1 hHeld ⊢
   refine pu_ 0 17 (bs 10 1) HT_ ?_ rfl rfl
   refine pu_ 1 18 (bs 10 3) HT_ ?_ rfl rfl
   refine pu_ 2 19 (bs 10 7) HT_ ?_ rfl rfl
   refine pu_ 4 21 (bs 10 23) HT_ ?_ rfl rfl
   refine pu_ 5 22 (bs 10 55) HT_ ?_ rfl rfl
   refine pu_ 6 23 (bs 10 119) HT_ ?_ rfl rfl
   refine tk_ 3 20 (bs 10 127) HT_ HW_ hHeld au3_4 ?_ rfl rfl
   refine tk_ 7 24 (bs 10 255) HT_ HW_ hHeld au3_4 ?_ rfl rfl
   refine one_ (i := 8) (N := some 25) (bs 10 511) rfl rfl (one_of HT_.out (by kernel_rfl)) (by decide) (fun K hK => ?_)
   refine gr_ Tryz.func31 #[.agg #[.string ((rd_T49 l0 x5_1).f0), .slice A515_1 ((rd_T49 l0 x5_1).f1).length c515_1], .agg #[.string ((rd_T49 l1 x5_1).f0), .slice A516_1 ((rd_T49 l1 x5_1).f1).length c516_1]] (by rfl) ?_ rfl rfl rfl
   with_reducible refine (F31.calls k1 ((rd_T49 l0 x5_1).f0) _ _ ((rd_T49 l0 x5_1).f1) ((rd_T49 l1 x5_1).f0) _ _ ((rd_T49 l1 x5_1).f1) true _ ?s1 ?s2 ?s3 ?s4 A7.out).mono ?_
   (case s1 => exact au3_17)
   (case s2 => exact HC515_1.out)
   (case s3 => exact au3_18)
   (case s4 => exact HC516_1.out)
   rintro e w10 ⟨rfl, hb⟩
   refine ⟨_, rfl, ?_⟩
   replace HB := hs_ w hb
   (try clear hb)
   (try clear hb2)
   (try clear hk)
   (try clear hi)
   refine hK.out _ _ ⟨((HB.out.cell (World.block_lt_of_cell? _ _ hw515_0)).trans hw515_0), ((HB.out.cell (World.block_lt_of_cell? _ _ hw515_1)).trans hw515_1), ((HB.out.cell (World.block_lt_of_cell? _ _ hw516_0)).trans hw516_0), ((HB.out.cell (World.block_lt_of_cell? _ _ hw516_1)).trans hw516_1)⟩ (fun hHeld => ?_)
   clear hK K
   refine no_ 25 ?_
   refine pu_ 9 26 (bs 10 1023) HT_ ?_ rfl rfl
   refine done_ (done_of HT_.out (by kernel_rfl)) ?_
   try go_wp2
   go_roundg k1
   case measure => have := HK1.out; omega
   case rel => exact ⟨(wrap64 (x5_1 + 1)), er_, H', ⟨by have := HK1.out; omega⟩, ⟨bl_⟩⟩
/-! ### F116: function 116 -/
def F116.f (k : Nat) (a0_0 : Int) (l0_1 : List (S49)) (a1_0 : Int) (l1_1 : List (S49)) : Option (Bool) := if a0_0 = a1_0 then ((F9.f k l0_1 l1_1).bind fun t520 => (if t520 = true then (some true) else (some false))) else (some false)
theorem F116.mono : ∀ a0 a1 a2 a3 k, LeO (F116.f k a0 a1 a2 a3) (F116.f (k + 1) a0 a1 a2 a3) := by
 intro a0 a1 a2 a3 k
 unfold F116.f
 repeat' with_reducible first | exact F9.mono _ _ _ | exact LeO.refl _ | exact LeO.none _ | refine LeO.ite ?_ ?_ | refine LeO.bind ?_ (fun _ => ?_)
theorem F116.calls (k : Nat) (a0_0 : Int) (A0_1 : Option Addr) (c0_1 : Nat) (l0_1 : List (S49)) (a1_0 : Int) (A1_1 : Option Addr) (c1_1 : Nat) (l1_1 : List (S49)) (r : Bool) (w : World) (hr0_1 : Kd.C k49 w A0_1 l0_1.length l0_1) (hc0_1 : l0_1.length ≤ c0_1) (hr1_1 : Kd.C k49 w A1_1 l1_1.length l1_1) (hc1_1 : l1_1.length ≤ c1_1) (h : F116.f k a0_0 l0_1 a1_0 l1_1 = some r) :
  Calls Tryz.prog 116 #[.agg #[.int .i64 a0_0, .slice A0_1 l0_1.length c0_1], .agg #[.int .i64 a1_0, .slice A1_1 l1_1.length c1_1]] w fun e w' => e = .returned (.bool r) ∧ Below w.heap.size w w' := by
 have hu56 := Tryz.underlying56
 have HR0_1 := am_ hr0_1
 have HC0_1 := am_ hc0_1
 clear hr0_1 hc0_1
 have HR1_1 := am_ hr1_1
 have HC1_1 := am_ hc1_1
 clear hr1_1 hc1_1
 have HB := am_ (Below.refl w.heap.size w)
 have H : (if a0_0 = a1_0 then ((F9.f k l0_1 l1_1).bind fun t520 => (if t520 = true then (some true) else (some false))) else (some false)) = some r := h
 clear h
 by_cases c3 : a0_0 = a1_0
 rotate_left
 ·rw [if_neg c3] at H
  have c3b0 : (a0_0 == a1_0) = false := beq_eq_false_iff_ne.mpr c3
  have c3b1 : (a0_0 != a1_0) = true := bne_iff_ne.mpr c3
  obtain rfl := Option.some.inj H
  go_enter Tryz.func116, Tryz.ntmps116
  go_wp2_with (first | ((with_reducible refine gate_dst (N := 2) rfl ?_); refine be_ 2 #[.int .i64 a0_0, .slice A0_1 l0_1.length c0_1] 56 ?_; intro gb518 hg w18 hbox hb; have BK518 := am_ (hbox); have GW518 := am_ (gw_ hg bl_); have GE518 := GW518; replace HB := hs_ w hb; clear hb hbox hg) | ((with_reducible refine gate_dst (N := 3) rfl ?_); refine be_ 3 #[.int .i64 a1_0, .slice A1_1 l1_1.length c1_1] 56 ?_; intro gb519 hg w19 hbox hb; have BK519 := am_ (hbox); have GW519 := am_ (gw_ hg bl_); have GE519 := GW519; replace HB := hs_ w hb; have NB518_519 := am_ (gn_ hg (blkl_ BK518)); have NB519_518 := am_ (gm_ hg (blkl_ BK518)); replace BK518 := bb_ BK518 hb; clear hb hbox hg; have hnb20 := NB518_519.out; have hnc20 := NB519_518.out; obtain ⟨hcz21_0, hcz21_1, hfz21_0, hfz21_1⟩ := cellsF2 BK518.out; obtain ⟨hcz22_0, hcz22_1, hfz22_0, hfz22_1⟩ := cellsF2 BK519.out))
  go_ret
  exact ⟨au3_0, bl_⟩

 rw [if_pos c3] at H
 have c3b0 : (a0_0 == a1_0) = true := beq_iff_eq.mpr c3
 have c3b1 : (a0_0 != a1_0) = false := bne_eq_false_iff_eq.mpr c3
 clear c3
 replace H := bi_ H; rcases H with ⟨t520, A4, H⟩
 replace H := ib_ H; rcases H with ⟨rfl, H⟩ | ⟨rfl, H⟩
 rotate_left
 ·obtain rfl := Option.some.inj H
  go_enter Tryz.func116, Tryz.ntmps116
  go_wp2_with (first | ((with_reducible refine gate_dst (N := 2) rfl ?_); refine be_ 2 #[.int .i64 a0_0, .slice A0_1 l0_1.length c0_1] 56 ?_; intro gb518 hg w12 hbox hb; have BK518 := am_ (hbox); have GW518 := am_ (gw_ hg bl_); have GE518 := GW518; replace HB := hs_ w hb; clear hb hbox hg) | ((with_reducible refine gate_dst (N := 3) rfl ?_); refine be_ 3 #[.int .i64 a1_0, .slice A1_1 l1_1.length c1_1] 56 ?_; intro gb519 hg w13 hbox hb; have BK519 := am_ (hbox); have GW519 := am_ (gw_ hg bl_); have GE519 := GW519; replace HB := hs_ w hb; have NB518_519 := am_ (gn_ hg (blkl_ BK518)); have NB519_518 := am_ (gm_ hg (blkl_ BK518)); replace BK518 := bb_ BK518 hb; clear hb hbox hg; have hnb14 := NB518_519.out; have hnc14 := NB519_518.out; obtain ⟨hcz15_0, hcz15_1, hfz15_0, hfz15_1⟩ := cellsF2 BK518.out; obtain ⟨hcz16_0, hcz16_1, hfz16_0, hfz16_1⟩ := cellsF2 BK519.out) | ((with_reducible refine gate_callee (f := 9) rfl ?_); refine gl_ 14 Tryz.func9 #[.slice A0_1 l0_1.length c0_1, .slice A1_1 l1_1.length c1_1] ?_ rfl rfl rfl rfl; (with_reducible refine (F9.calls k _ _ l0_1 _ _ l1_1 false _ ?s1 ?s2 ?s3 ?s4 A4.out).mono ?_); (case s1 => exact au3_5); (case s2 => exact HC0_1.out); (case s3 => exact au3_6); (case s4 => exact HC1_1.out); rintro e w17 ⟨rfl, hb⟩; refine ⟨_, rfl, ?_⟩; replace BK518 := bb_ BK518 hb; replace BK519 := bb_ BK519 hb; replace HB := hs_ w hb; (try clear hb)))
  go_ret
  exact ⟨au3_0, bl_⟩
 obtain rfl := Option.some.inj H
 go_enter Tryz.func116, Tryz.ntmps116
 go_wp2_with (first | ((with_reducible refine gate_dst (N := 2) rfl ?_); refine be_ 2 #[.int .i64 a0_0, .slice A0_1 l0_1.length c0_1] 56 ?_; intro gb518 hg w6 hbox hb; have BK518 := am_ (hbox); have GW518 := am_ (gw_ hg bl_); have GE518 := GW518; replace HB := hs_ w hb; clear hb hbox hg) | ((with_reducible refine gate_dst (N := 3) rfl ?_); refine be_ 3 #[.int .i64 a1_0, .slice A1_1 l1_1.length c1_1] 56 ?_; intro gb519 hg w7 hbox hb; have BK519 := am_ (hbox); have GW519 := am_ (gw_ hg bl_); have GE519 := GW519; replace HB := hs_ w hb; have NB518_519 := am_ (gn_ hg (blkl_ BK518)); have NB519_518 := am_ (gm_ hg (blkl_ BK518)); replace BK518 := bb_ BK518 hb; clear hb hbox hg; have hnb8 := NB518_519.out; have hnc8 := NB519_518.out; obtain ⟨hcz9_0, hcz9_1, hfz9_0, hfz9_1⟩ := cellsF2 BK518.out; obtain ⟨hcz10_0, hcz10_1, hfz10_0, hfz10_1⟩ := cellsF2 BK519.out) | ((with_reducible refine gate_callee (f := 9) rfl ?_); refine gl_ 14 Tryz.func9 #[.slice A0_1 l0_1.length c0_1, .slice A1_1 l1_1.length c1_1] ?_ rfl rfl rfl rfl; (with_reducible refine (F9.calls k _ _ l0_1 _ _ l1_1 true _ ?s1 ?s2 ?s3 ?s4 A4.out).mono ?_); (case s1 => exact au3_5); (case s2 => exact HC0_1.out); (case s3 => exact au3_6); (case s4 => exact HC1_1.out); rintro e w11 ⟨rfl, hb⟩; refine ⟨_, rfl, ?_⟩; replace BK518 := bb_ BK518 hb; replace BK519 := bb_ BK519 hb; replace HB := hs_ w hb; (try clear hb)))
 go_ret
 exact ⟨au3_0, bl_⟩
/-! ### F98: function 98 -/
def F98.l0 : Nat → List (S56) → List (S56) → Int → Option (Bool)
  | 0, _, _, _ => none
  | k + 1, x0, x1, x5 => if x5 < (x0.length : Int) then (if 0 ≤ x5 then (if x5 < (x1.length : Int) then ((F116.f k ((rd_T56 x0 x5).f0) ((rd_T56 x0 x5).f1) ((rd_T56 x1 x5).f0) ((rd_T56 x1 x5).f1)).bind fun t523 => (if t523 = true then (F98.l0 k x0 x1 (wrap64 (x5 + 1))) else (some false))) else (none)) else (none)) else (some true)
def F98.f (k : Nat) (l0 : List (S56)) (l1 : List (S56)) : Option (Bool) := if (l0.length : Int) = (l1.length : Int) then (F98.l0 k l0 l1 0) else (some false)
theorem F98.mono_l : ∀ k, (∀ y0 y1 y2, LeO (F98.l0 k y0 y1 y2) (F98.l0 (k + 1) y0 y1 y2))
 | 0 => fun _ _ _ r h => by simp [F98.l0] at h
 | k + 1 => by
  have ih0 := F98.mono_l k
  intro y0 y1 y2
  unfold F98.l0
  repeat' with_reducible first | exact ih0 _ _ _ | exact F116.mono _ _ _ _ _ | exact LeO.refl _ | exact LeO.none _ | refine LeO.ite ?_ ?_ | refine LeO.bind ?_ (fun _ => ?_)
theorem F98.mono : ∀ a0 a1 k, LeO (F98.f k a0 a1) (F98.f (k + 1) a0 a1) := by
 intro a0 a1 k
 have ih0 := F98.mono_l k
 unfold F98.f
 repeat' with_reducible first | exact ih0 _ _ _ | exact F116.mono _ _ _ _ _ | exact LeO.refl _ | exact LeO.none _ | refine LeO.ite ?_ ?_ | refine LeO.bind ?_ (fun _ => ?_)
def F98.T6 : Bool × List (List Nat × List Nat) := (true, [([], []), ([], []), ([0, 1], [0, 1]), ([2], [2]), ([], []), ([], []), ([4, 5], [4, 5]), ([6], [6]), ([3, 7], [3, 7]), ([8], [8])])
def F98.B6 : List Nat := [0, 0, 3, 7, 0, 0, 48, 112, 255, 511]
theorem F98.tab6 : rtab .any (opsOf Tryz.f98 6) = F98.T6 := by kernel_rfl
theorem F98.bits6 : waitsOk F98.T6.2 F98.B6 = true := by kernel_rfl
theorem F98.calls (k : Nat) (A0 : Option Addr) (c0 : Nat) (l0 : List (S56)) (A1 : Option Addr) (c1 : Nat) (l1 : List (S56)) (r : Bool) (w : World) (hr0 : Kd.C k56 w A0 l0.length l0) (hc0 : l0.length ≤ c0) (hr1 : Kd.C k56 w A1 l1.length l1) (hc1 : l1.length ≤ c1) (h : F98.f k l0 l1 = some r) :
  Calls Tryz.prog 98 #[.slice A0 l0.length c0, .slice A1 l1.length c1] w fun e w' => e = .returned (.bool r) ∧ Below w.heap.size w w' := by
 have hu56 := Tryz.underlying56
 have HR0 := am_ hr0
 have HC0 := am_ hc0
 clear hr0 hc0
 have HR1 := am_ hr1
 have HC1 := am_ hc1
 clear hr1 hc1
 have HB := am_ (Below.refl w.heap.size w)
 have H : (if (l0.length : Int) = (l1.length : Int) then (F98.l0 k l0 l1 0) else (some false)) = some r := h
 clear h
 by_cases c3 : (l0.length : Int) = (l1.length : Int)
 rotate_left
 ·rw [if_neg c3] at H
  have c3b0 : ((l0.length : Int) == (l1.length : Int)) = false := beq_eq_false_iff_ne.mpr c3
  have c3b1 : ((l0.length : Int) != (l1.length : Int)) = true := bne_iff_ne.mpr c3
  have c3b2 : (l0.length == l1.length) = false := by first | simpa using c3 | (simp at c3 ⊢; omega)
  obtain rfl := Option.some.inj H
  go_enter Tryz.func98, Tryz.ntmps98
  go_wp2
  go_ret
  exact ⟨au3_0, bl_⟩
 rw [if_pos c3] at H
 have c3b0 : ((l0.length : Int) == (l1.length : Int)) = true := beq_iff_eq.mpr c3
 have c3b1 : ((l0.length : Int) != (l1.length : Int)) = false := bne_eq_false_iff_eq.mpr c3
 have c3b2 : (l0.length == l1.length) = true := by first | simpa using c3 | (simp at c3 ⊢; omega)
 clear c3
 have H' := am_ H
 clear H
 go_enter Tryz.func98, Tryz.ntmps98
 go_wp2
 go_loopg [5] k (fun kq v5 w' => ∃ (x5_1 : Int), v5 = .int .i64 x5_1 ∧ Aside0 (F98.l0 kq l0 l1 x5_1 = some r) ∧ Aside0 (kq ≤ k) ∧ Aside0 (Below w.heap.size w w'))
 case atStart => exact ⟨(0), er_, H', ⟨Nat.le_refl _⟩, ⟨bl_⟩⟩
 case round =>
  clear H'
  try clear c1
  try clear c3
  try clear c3b0
  try clear c3b1
  try clear c3b2
  obtain ⟨x5_1, rfl, HA, HK1, HB⟩ := hrel
  cases gk with
  | zero => exact absurd HA.out (by simp [F98.l0])
  | succ k1 =>
   have H := HA.out
   clear HA
   simp only [F98.l0] at H
   replace H := it_ H; rcases H with ⟨c4b0, H⟩ | ⟨c4b0, H⟩
   rotate_left
   ·obtain rfl := Option.some.inj H
    go_wp2
    go_ret
    exact ⟨au3_0, bl_⟩
   replace H := itn_ H; rcases H with ⟨c5b0, H⟩
   replace H := itn_ H; rcases H with ⟨c6b0, H⟩
   replace H := bi_ H; rcases H with ⟨t523, A7, H⟩
   replace H := ib_ H; rcases H with ⟨rfl, H⟩ | ⟨rfl, H⟩
   rotate_left
   ·obtain rfl := Option.some.inj H
    try go_wp2
    replace HB := am_ (below_drew1 HB.out)
    have p521 : 0 ≤ (x5_1 : Int) := od_
    have q521 : x5_1 < (l0.length : Int) := od_
    obtain ⟨ad521, A521_1, c521_1, e521, hx521_0, hx521_1, hl521_1, hi521_1⟩ := at_T56 HR0.out x5_1 p521 q521
    have hw521_1 := hx521_1
    have hw521_0 := hx521_0
    cases e521
    replace hx521_0 := (HB.out.cell (World.block_lt_of_cell? _ _ hx521_0)).trans hx521_0
    replace hx521_1 := (HB.out.cell (World.block_lt_of_cell? _ _ hx521_1)).trans hx521_1
    have HR521_1 := am_ hi521_1
    have HC521_1 := am_ hl521_1
    clear hi521_1 hl521_1
    replace p521 := eq_true p521
    replace q521 := eq_true q521
    have p522 : 0 ≤ (x5_1 : Int) := od_
    have q522 : x5_1 < (l1.length : Int) := od_
    obtain ⟨ad522, A522_1, c522_1, e522, hx522_0, hx522_1, hl522_1, hi522_1⟩ := at_T56 HR1.out x5_1 p522 q522
    have hw522_1 := hx522_1
    have hw522_0 := hx522_0
    cases e522
    replace hx522_0 := (HB.out.cell (World.block_lt_of_cell? _ _ hx522_0)).trans hx522_0
    replace hx522_1 := (HB.out.cell (World.block_lt_of_cell? _ _ hx522_1)).trans hx522_1
    have HR522_1 := am_ hi522_1
    have HC522_1 := am_ hl522_1
    clear hi522_1 hl522_1
    replace p522 := eq_true p522
    replace q522 := eq_true q522
    refine start_ (n := 10) (S := fun w' => w'.cell? (ad521.add ((x5_1).toNat * 2)) = some (.int .i64 ((rd_T56 l0 x5_1).f0)) ∧ w'.cell? ⟨(ad521.add ((x5_1).toNat * 2)).block, (ad521.add ((x5_1).toNat * 2)).off + 1, none⟩ = some (.slice A521_1 ((rd_T56 l0 x5_1).f1).length c521_1) ∧ w'.cell? (ad522.add ((x5_1).toNat * 2)) = some (.int .i64 ((rd_T56 l1 x5_1).f0)) ∧ w'.cell? ⟨(ad522.add ((x5_1).toNat * 2)).block, (ad522.add ((x5_1).toNat * 2)).off + 1, none⟩ = some (.slice A522_1 ((rd_T56 l1 x5_1).f1).length c522_1)) (ds := []) (bs 10 0) (by kernel_rfl) rfl rfl ⟨((HB.out.cell (World.block_lt_of_cell? _ _ hw521_0)).trans hw521_0), ((HB.out.cell (World.block_lt_of_cell? _ _ hw521_1)).trans hw521_1), ((HB.out.cell (World.block_lt_of_cell? _ _ hw522_0)).trans hw522_0), ((HB.out.cell (World.block_lt_of_cell? _ _ hw522_1)).trans hw522_1)⟩ (fun hHeld => ?_); refine with_tabW F98.tab6 F98.bits6 (fun HT_ HW_ => ?_)
    generalize wr.drew = w11 at HB HR521_1 HR522_1 hx521_0 hx521_1 hx522_0 hx522_1 hHeld ⊢
    refine pu_ 0 17 (bs 10 1) HT_ ?_ rfl rfl
    refine pu_ 1 18 (bs 10 3) HT_ ?_ rfl rfl
    refine pu_ 2 19 (bs 10 7) HT_ ?_ rfl rfl
    refine pu_ 4 21 (bs 10 23) HT_ ?_ rfl rfl
    refine pu_ 5 22 (bs 10 55) HT_ ?_ rfl rfl
    refine pu_ 6 23 (bs 10 119) HT_ ?_ rfl rfl
    refine tk_ 3 20 (bs 10 127) HT_ HW_ hHeld au3_4 ?_ rfl rfl
    refine tk_ 7 24 (bs 10 255) HT_ HW_ hHeld au3_4 ?_ rfl rfl
    refine one_ (i := 8) (N := some 25) (bs 10 511) rfl rfl (one_of HT_.out (by kernel_rfl)) (by decide) (fun K hK => ?_)
    refine gr_ Tryz.func116 #[.agg #[.int .i64 ((rd_T56 l0 x5_1).f0), .slice A521_1 ((rd_T56 l0 x5_1).f1).length c521_1], .agg #[.int .i64 ((rd_T56 l1 x5_1).f0), .slice A522_1 ((rd_T56 l1 x5_1).f1).length c522_1]] (by rfl) ?_ rfl rfl rfl
    with_reducible refine (F116.calls k1 ((rd_T56 l0 x5_1).f0) _ _ ((rd_T56 l0 x5_1).f1) ((rd_T56 l1 x5_1).f0) _ _ ((rd_T56 l1 x5_1).f1) false _ ?s1 ?s2 ?s3 ?s4 A7.out).mono ?_
    (case s1 => exact au3_19)
    (case s2 => exact HC521_1.out)
    (case s3 => exact au3_20)
    (case s4 => exact HC522_1.out)
    rintro e w12 ⟨rfl, hb⟩
    refine ⟨_, rfl, ?_⟩
    replace HB := hs_ w hb
    (try clear hb)
    (try clear hb2)
    (try clear hk)
    (try clear hi)
    refine hK.out _ _ ⟨((HB.out.cell (World.block_lt_of_cell? _ _ hw521_0)).trans hw521_0), ((HB.out.cell (World.block_lt_of_cell? _ _ hw521_1)).trans hw521_1), ((HB.out.cell (World.block_lt_of_cell? _ _ hw522_0)).trans hw522_0), ((HB.out.cell (World.block_lt_of_cell? _ _ hw522_1)).trans hw522_1)⟩ (fun hHeld => ?_)
    clear hK K
    refine no_ 25 ?_
    refine pu_ 9 26 (bs 10 1023) HT_ ?_ rfl rfl
    refine done_ (done_of HT_.out (by kernel_rfl)) ?_
    try go_wp2
    go_ret
    exact ⟨au3_0, bl_⟩
   have H' := am_ H
   clear H
   try go_wp2
   replace HB := am_ (below_drew1 HB.out)
   have p521 : 0 ≤ (x5_1 : Int) := od_
   have q521 : x5_1 < (l0.length : Int) := od_
   obtain ⟨ad521, A521_1, c521_1, e521, hx521_0, hx521_1, hl521_1, hi521_1⟩ := at_T56 HR0.out x5_1 p521 q521
   have hw521_1 := hx521_1
   have hw521_0 := hx521_0
   cases e521
   replace hx521_0 := (HB.out.cell (World.block_lt_of_cell? _ _ hx521_0)).trans hx521_0
   replace hx521_1 := (HB.out.cell (World.block_lt_of_cell? _ _ hx521_1)).trans hx521_1
   have HR521_1 := am_ hi521_1
   have HC521_1 := am_ hl521_1
   clear hi521_1 hl521_1
   replace p521 := eq_true p521
   replace q521 := eq_true q521
   have p522 : 0 ≤ (x5_1 : Int) := od_
   have q522 : x5_1 < (l1.length : Int) := od_
   obtain ⟨ad522, A522_1, c522_1, e522, hx522_0, hx522_1, hl522_1, hi522_1⟩ := at_T56 HR1.out x5_1 p522 q522
   have hw522_1 := hx522_1
   have hw522_0 := hx522_0
   cases e522
   replace hx522_0 := (HB.out.cell (World.block_lt_of_cell? _ _ hx522_0)).trans hx522_0
   replace hx522_1 := (HB.out.cell (World.block_lt_of_cell? _ _ hx522_1)).trans hx522_1
   have HR522_1 := am_ hi522_1
   have HC522_1 := am_ hl522_1
   clear hi522_1 hl522_1
   replace p522 := eq_true p522
   replace q522 := eq_true q522
   refine start_ (n := 10) (S := fun w' => w'.cell? (ad521.add ((x5_1).toNat * 2)) = some (.int .i64 ((rd_T56 l0 x5_1).f0)) ∧ w'.cell? ⟨(ad521.add ((x5_1).toNat * 2)).block, (ad521.add ((x5_1).toNat * 2)).off + 1, none⟩ = some (.slice A521_1 ((rd_T56 l0 x5_1).f1).length c521_1) ∧ w'.cell? (ad522.add ((x5_1).toNat * 2)) = some (.int .i64 ((rd_T56 l1 x5_1).f0)) ∧ w'.cell? ⟨(ad522.add ((x5_1).toNat * 2)).block, (ad522.add ((x5_1).toNat * 2)).off + 1, none⟩ = some (.slice A522_1 ((rd_T56 l1 x5_1).f1).length c522_1)) (ds := []) (bs 10 0) (by kernel_rfl) rfl rfl ⟨((HB.out.cell (World.block_lt_of_cell? _ _ hw521_0)).trans hw521_0), ((HB.out.cell (World.block_lt_of_cell? _ _ hw521_1)).trans hw521_1), ((HB.out.cell (World.block_lt_of_cell? _ _ hw522_0)).trans hw522_0), ((HB.out.cell (World.block_lt_of_cell? _ _ hw522_1)).trans hw522_1)⟩ (fun hHeld => ?_); refine with_tabW F98.tab6 F98.bits6 (fun HT_ HW_ => ?_)
   generalize wr.drew = w9 at HB HR521_1 HR522_1 hx521_0 hx521_1 hx522_0 hx522_1 hHeld ⊢
   refine pu_ 0 17 (bs 10 1) HT_ ?_ rfl rfl
   refine pu_ 1 18 (bs 10 3) HT_ ?_ rfl rfl
   refine pu_ 2 19 (bs 10 7) HT_ ?_ rfl rfl
   refine pu_ 4 21 (bs 10 23) HT_ ?_ rfl rfl
   refine pu_ 5 22 (bs 10 55) HT_ ?_ rfl rfl
   refine pu_ 6 23 (bs 10 119) HT_ ?_ rfl rfl
   refine tk_ 3 20 (bs 10 127) HT_ HW_ hHeld au3_4 ?_ rfl rfl
   refine tk_ 7 24 (bs 10 255) HT_ HW_ hHeld au3_4 ?_ rfl rfl
   refine one_ (i := 8) (N := some 25) (bs 10 511) rfl rfl (one_of HT_.out (by kernel_rfl)) (by decide) (fun K hK => ?_)
   refine gr_ Tryz.func116 #[.agg #[.int .i64 ((rd_T56 l0 x5_1).f0), .slice A521_1 ((rd_T56 l0 x5_1).f1).length c521_1], .agg #[.int .i64 ((rd_T56 l1 x5_1).f0), .slice A522_1 ((rd_T56 l1 x5_1).f1).length c522_1]] (by rfl) ?_ rfl rfl rfl
   with_reducible refine (F116.calls k1 ((rd_T56 l0 x5_1).f0) _ _ ((rd_T56 l0 x5_1).f1) ((rd_T56 l1 x5_1).f0) _ _ ((rd_T56 l1 x5_1).f1) true _ ?s1 ?s2 ?s3 ?s4 A7.out).mono ?_
   (case s1 => exact au3_19)
   (case s2 => exact HC521_1.out)
   (case s3 => exact au3_20)
   (case s4 => exact HC522_1.out)
   rintro e w10 ⟨rfl, hb⟩
   refine ⟨_, rfl, ?_⟩
   replace HB := hs_ w hb
   (try clear hb)
   (try clear hb2)
   (try clear hk)
   (try clear hi)
   refine hK.out _ _ ⟨((HB.out.cell (World.block_lt_of_cell? _ _ hw521_0)).trans hw521_0), ((HB.out.cell (World.block_lt_of_cell? _ _ hw521_1)).trans hw521_1), ((HB.out.cell (World.block_lt_of_cell? _ _ hw522_0)).trans hw522_0), ((HB.out.cell (World.block_lt_of_cell? _ _ hw522_1)).trans hw522_1)⟩ (fun hHeld => ?_)
   clear hK K
   refine no_ 25 ?_
   refine pu_ 9 26 (bs 10 1023) HT_ ?_ rfl rfl
   refine done_ (done_of HT_.out (by kernel_rfl)) ?_
   try go_wp2
   go_roundg k1
   case measure => have := HK1.out; omega
   case rel => exact ⟨(wrap64 (x5_1 + 1)), er_, H', ⟨by have := HK1.out; omega⟩, ⟨bl_⟩⟩
end Go.Proofs.YtlghcbmkhdibdaaGreatDoor.PFnExactIxSegments
