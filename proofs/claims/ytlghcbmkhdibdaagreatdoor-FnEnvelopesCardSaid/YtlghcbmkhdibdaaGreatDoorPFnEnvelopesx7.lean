-- printed by a program of this session (wip/xp/xprint.py) out of the translation; Lean checks it
import Derived.Test.YtlghcbmkhdibdaaGreatDoorPFnEnvelopesx0
import Derived.Test.YtlghcbmkhdibdaaGreatDoorPFnEnvelopesx2
import Derived.Test.YtlghcbmkhdibdaaGreatDoorPFnEnvelopesx5
namespace Go.Proofs.YtlghcbmkhdibdaaGreatDoor.PFnEnvelopes
open Go.RowKit Go.Proofs.YtlghcbmkhdibdaaGreatDoorW.PrintWords Go.Proofs.YtlghcbmkhdibdaaGreatDoorW.PrintLast Go.Proofs.YtlghcbmkhdibdaaGreatDoorW.PrintMore
attribute [local go_sem] max2_int min2_int max_two min_two max_three min_three max_four min_four   -- for this text's walks alone
set_option linter.unusedVariables false
set_option linter.unusedSimpArgs false
set_option maxHeartbeats 8000000
set_option maxRecDepth 100000
theorem au7_24 {p : Prop} (h : p := by (with_reducible repeat (first | apply Kd.S_alloc | apply Kd.S_drewN | apply Kd.S_drew)); exact bp.out) : p := h
theorem au7_28 {p : Prop} (h : p := by have := HJ1.out; have := AW.out; first | omega | exact Nat.le_refl _) : p := h
theorem tg7_6 {p : Prop} (h : p := by repeat' with_reducible first | exact ef _ _ | exact kW _ _ _ | exact ro _ _ _ _ | exact DH _ _ _ _ _ | exact F26.mono _ _ | exact LeO.refl _ | exact LeO.none _ | refine LeO.ite ?_ ?_ | refine LeO.bind ?_ (fun _ => ?_)) : p := h
def F18.f (k : Nat) (ae : ByteArray) (ax : ByteArray) (aM : Int) (af : List (S53)) : Option (Int) := (F8.f k ae ax aM af).bind fun Mh => (some (Mh.length : Int))
theorem F18.calls {k : Nat} {ae ax : ByteArray} {aM : Int} {cl : Option Addr} {bN : Nat} {af : List (S53)} {r : Int} {w : World} (dW : Kd.C k53 w cl af.length af) (dX : af.length ≤ bN) (hT : LaidT true Tryz.prog w) (h : F18.f k ae ax aM af = some r) :
  Calls Tryz.prog 18 #[.agg #[.string ae, .string ax, .int .i64 aM, .slice cl af.length bN]] w fun e w' => e = .returned (.int .i64 r) ∧ Below w.heap.size w w' := by
 have gJ := Tryz.underlying30
 have gV := am_ dW
 have gv := am_ dX
 clear dW dX
 have HZT := am_ hT
 clear hT
 have HB := am_ (Below.refl w.heap.size w)
 have H := h; unfold F18.f at H
 clear h
 replace H := bi_ H; rcases H with ⟨Mh, A2, H⟩
 obtain rfl := Option.some.inj H
 go_enter Tryz.func18, Tryz.ntmps18
 go_wp2_with (first | ((with_reducible refine gate_dst (N := 1) rfl ?_); refine be_ 1 #[.string ae, .string ax, .int .i64 aM, .slice cl af.length bN] 30 ?_; intro V9 hg w3 hbox hb; have yh := am_ (hbox); have Mi := am_ (gw_ hg bl_); have Wa := Mi; replace HB := hs_ w hb; clear hb hbox hg; have mz := cellsF4 yh.out) | ((with_reducible refine gate_callee (f := 8) rfl ?_); refine gl_ 4 Tryz.func8 #[.agg #[.string ae, .string ax, .int .i64 aM, .slice cl af.length bN]] ?_ rfl rfl rfl rfl; (with_reducible refine (F8.calls ?s1 ?s2 ?s3 A2.out).mono ?_); (case s1 => exact ax44_); (case s2 => exact gv.out); (case s3 => first | (with_reducible exact HZT.out) | exact HZT.out.below bl_); rintro e w5 ⟨ZS, rfl, bf, hb⟩; refine ⟨_, rfl, ?_⟩; have Mj := am_ (Kd.S_lower bf (below_size bl_)); replace yh := bb_ yh hb; replace HB := hs_ w hb; clear hb bf; obtain ⟨Ao6, co6, ZT⟩ := Kd.S_slice Mj.out; subst ZT))
 go_ret
 exact ⟨ax11_, bl_⟩
def F25.l0 : Nat → List ByteArray → Int → ByteArray → List (S91) → Option (ByteArray × (List (S91)))
  | 0, _, _, _, _ => none
  | k + 1, x1, x6, rW, nn => if x6 < (x1.length : Int) then (if 0 ≤ x6 then (if nn.length < 5864062014805 then (F25.l0 k x1 (wrap64 (x6 + 1)) rW (nn ++ [(⟨(([rdOf ByteArray.empty x1 x6] : List ByteArray))⟩ : S91)])) else (none)) else (none)) else (some (rW, nn))
def F25.f (k : Nat) (a0 : ByteArray) (l1 : List ByteArray) : Option (ByteArray × (List (S91))) := F25.l0 k l1 0 a0 ([] : List (S91))
def F25.T5 : Bool × List (List Nat × List Nat) := (true, [([], []), ([0], [0]), ([], []), ([], []), ([2, 3], [2, 3]), ([4], [4]), ([5], [5]), ([6], [6]), ([7], [7]), ([1, 8], [1, 8]), ([0, 1, 2, 3, 4, 5, 6, 7, 8, 9], []), ([10, 9, 9, 0, 1, 2, 3, 4, 5, 6, 7, 8, 9], [9, 10])])
def F25.B5 : List Nat := [0, 1, 0, 0, 12, 28, 60, 124, 252, 511, 1023, 2047]
theorem F25.tab5 : rtab .any (opsOf Tryz.f25 5) = F25.T5 := by kernel_rfl
theorem F25.bits5 : waitsOk F25.T5.2 F25.B5 = true := by kernel_rfl
theorem F25.calls {k : Nat} {a0 : ByteArray} {A1 : Option Addr} {c1 : Nat} {l1 : List ByteArray} {r1 : ByteArray} {r2 : List (S91)} {w : World} (hr1 : Kd.C Kd.string w A1 l1.length l1) (hc1 : l1.length ≤ c1) (h : F25.f k a0 l1 = some (r1, r2)) :
  Calls Tryz.prog 25 #[.string a0, .slice A1 l1.length c1] w fun e w' => ∃ nM : Value, e = .returned (.agg #[.string r1, nM]) ∧ Kd.S k91 91 w' w.heap.size (fun _ => True) nM r2 ∧ Below w.heap.size w w' := by
 have dk := Tryz.underlying49
 have kX := Tryz.underlying91
 have Jv := am_ hr1
 have fM := am_ hc1
 clear hr1 hc1
 have HB := am_ (Below.refl w.heap.size w)
 have H := h; unfold F25.f at H
 clear h
 have H' := am_ H
 clear H
 go_enter Tryz.func25, Tryz.ntmps25
 go_wp2_with (first | ((with_reducible refine gate_dst (N := 4) rfl ?_); refine be_ 4 #[.string (⟨#[]⟩ : ByteArray), .slice none 0 0] 49 ?_; intro rX hg w3 hbox hb; have dK := am_ (hbox); have Mk := am_ (gw_ hg bl_); have Wb := Mk; replace HB := hs_ w hb; clear hb hbox hg) | ((with_reducible refine gate_dst (N := 5) rfl ?_); refine be_ 5 #[.string (⟨#[]⟩ : ByteArray), .slice none 0 0] 49 ?_; intro oa hg w4 hbox hb; have cJ := am_ (hbox); have Ml := am_ (gw_ hg bl_); have Wc := Ml; replace HB := hs_ w hb; have vC := am_ (gn_ hg (blkl_ dK)); have mj := am_ (gm_ hg (blkl_ dK)); replace dK := bb_ dK hb; clear hb hbox hg; obtain ⟨Qp, Qq⟩ := nn_ mj; have gK := cellsF2 cJ.out))
 go_loopg [6] k (fun kq v6 w' => ∃ (aE : Int) (cV : List (S91)) (fd : Value), v6 = .int .i64 aE ∧ Aside0 (F25.l0 kq l1 aE a0 cV = some (r1, r2)) ∧ Aside0 (kq ≤ k) ∧ Aside0 (Kd.S k91 91 w' w.heap.size (fun _ => True) fd cV) ∧ Aside0 (w'.heap[rX]? = some (.cells #[.string (⟨#[]⟩ : ByteArray), (.slice none 0 0)] 49 (0, 0))) ∧ Aside0 (w'.heap[oa]? = some (.cells #[.string a0, fd] 49 (0, 0))) ∧ Aside0 (Below w.heap.size w w'))
 case atStart => exact ⟨(0), (([] : List (S91))), (.slice none 0 0), er_, H', ⟨Nat.le_refl _⟩, ⟨ax8_⟩, ⟨bf_ dK⟩, ⟨bq_ cJ⟩, ⟨bl_⟩⟩
 case round =>
  clear H'
  try clear c1
  try clear gK
  obtain ⟨aE, cV, fd, rfl, HA, cK, bF, dK, cJ, HB⟩ := hrel
  cases gk with
  | zero => exact absurd HA.out (by simp [F25.l0])
  | succ k1 =>
   have H := HA.out
   clear HA
   simp only [F25.l0] at H
   replace H := it_ H; rcases H with ⟨c7b0, H⟩ | ⟨c7b0, H⟩
   rotate_left
   ·simp only [Option.some.injEq, Prod.mk.injEq] at H
    obtain ⟨rfl, rfl⟩ := H
    obtain ⟨JL, JM⟩ := nn_ mj
    have qN := cellsF2 cJ.out
    have io := cellsF2 dK.out
    obtain ⟨Mm, Mn, Se⟩ := Kd.S_slice bF.out
    subst Se
    go_wp2
    refine bodyPost_ret (results_cell_row rfl _ _ rX 49 #[.string a0, .slice Mm cV.length Mn] (0, 0) _ rfl (bq_ dK) Tryz.underlying49 rfl (by kernel_rfl)) rfl ?_
    exact ⟨_, ax11_, by (with_reducible repeat (first | apply Kd.S_alloc | apply Kd.S_drewN | apply Kd.S_drew)); exact Kd.S_mono (Kd.S_far (p := ⟨rX, 1, none⟩) (Kd.S_far (p := ⟨rX, 0, none⟩) (Kd.S_types bF.out dK.out (by decide)) (fun _ hk => hk.2) (.string a0)) (fun _ hk => hk.2) (.slice Mm cV.length Mn)) (fun _ hk => trivial), bl_⟩
   replace H := itn_ H; rcases H with ⟨c8b0, H⟩
   obtain ⟨vD, yi⟩ : ∃ y_ : List ByteArray, y_ = (([rdOf ByteArray.empty l1 aE] : List ByteArray)) := ⟨_, rfl⟩
   replace H : (if cV.length < 5864062014805 then (F25.l0 k1 l1 (wrap64 (aE + 1)) a0 (cV ++ [(⟨vD⟩ : S91)])) else (none)) = some (r1, r2) := by first | (rw [yi]; exact H) | exact H
   have D2 := am_ yi
   clear yi
   replace H := iln_ H; rcases H with ⟨Sf, H⟩
   obtain ⟨Be, yj⟩ : ∃ y_ : List (S91), y_ = (cV ++ [(⟨vD⟩ : S91)]) := ⟨_, rfl⟩
   replace H : (F25.l0 k1 l1 (wrap64 (aE + 1)) a0 Be) = some (r1, r2) := by first | (rw [yj]; exact H) | exact H
   have Mo := am_ yj
   clear yj
   have H' := am_ H
   clear H
   try go_wp2
   replace bF := am_ (Kd.S_drew bF.out)
   replace dK := bd_ dK
   replace cJ := bd_ cJ
   replace HB := am_ (below_drew1 HB.out)
   have Gv : 0 ≤ (aE : Int) := od_
   have Gw : aE < (l1.length : Int) := od_
   obtain ⟨Mp, Si, kL⟩ := Kd.at_string Jv.out aE Gv Gw
   have iP := kL
   cases Si
   replace kL := pw_cell_below HB.out kL
   replace Gv := eq_true Gv
   replace Gw := eq_true Gw
   refine start_ (n := 12) (S := fun w' => w'.cell? ⟨oa, 0, none⟩ = some (.string a0) ∧ w'.cell? ⟨oa, 1, none⟩ = some (fd) ∧ w'.cell? (Mp.add (aE).toNat) = some (.string (rdOf ByteArray.empty l1 aE))) (ds := [11]) (bs 12 0) (by kernel_rfl) rfl rfl ⟨(blk_cell cJ.out 0).trans rfl, (blk_cell cJ.out 1).trans rfl, (pw_cell_below HB.out iP)⟩ (fun hHeld => ?_); refine with_tabW F25.tab5 F25.bits5 (fun HT_ HW_ => ?_)
   generalize wr.drew = Ie at bF dK cJ HB kL hHeld ⊢
   refine pq_ 0 HT_ ?_
   refine pq_ 2 HT_ ?_
   refine pq_ 3 HT_ ?_
   refine pq_ 4 HT_ ?_
   refine tq_ 1 HT_ HW_ hHeld rfl (by rintro w' ⟨s0, s1, s2⟩; go_simp; with_reducible rfl) ?_
   refine tq_ 5 HT_ HW_ hHeld rfl (by rintro w' ⟨s0, s1, s2⟩; go_simp; with_reducible rfl) ?_
   refine oq_ 6 HT_ (fun K hK => ?_)
   refine Kd.R_lit_step Kd.string _ 9 ?hg (N := 21) ?hd (xs := ([rdOf ByteArray.empty l1 aE] : List ByteArray)) (inner := [.string (rdOf ByteArray.empty l1 aE)]) (ok := fun _ => True) (okp := fun _ => True) ?hr ?hp (fun _ hk => hk) trivial (Below.refl _ _) (Nat.le_refl _) (by simp) ?_; (case hd => rfl); (case hg => rfl); (case hr => exact hr_); (case hp => exact (Reps.one (show Kd.M Kd.string _ _ _ (rdOf ByteArray.empty l1 aE) [.string (rdOf ByteArray.empty l1 aE)] from rfl) (Reps.none _ _)))
   intro ZU wj vE hb hg_ hnew_
   clear hg_ hnew_
   (first | rw [← D2.out] at vE | (simp only [Int.reduceToNat] at vE; rw [← D2.out] at vE))
   replace bF := am_ (Kd.S_elder' (by (with_reducible repeat (first | apply Kd.S_alloc | apply Kd.S_drewN | apply Kd.S_drew)); exact bF.out) (Kd.R_base vE) hb)
   have rY := am_ (Kd.R_lower vE (below_size bl_))
   replace dK := bb_ dK hb
   replace cJ := bb_ cJ hb
   replace HB := hs_ w hb
   clear hb vE
   obtain ⟨oS, oT, oU⟩ := Kd.R_slice rY.out
   (first | subst oU | (injection oU with b9 dT cd; have dU := b9.symm; have dV := cd.symm; clear b9 dT cd; subst dU; subst dV))
   refine hK.out _ _ ⟨(blk_cell cJ.out 0).trans rfl, (blk_cell cJ.out 1).trans rfl, (pw_cell_below HB.out iP)⟩ (fun hHeld => ?_)
   clear hK K
   refine no_ 21 ?_
   refine pq_ 7 HT_ ?_
   refine oq_ 8 HT_ (fun K hK => ?_)
   refine value_ (w1 := ?_) (v := ?_) (by rfl) rfl ?_ ?_
   rotate_left 2
   ·go_simp
    constructor
    ·rfl
    ·rfl
   refine hK.out _ _ ⟨(blk_cell (blk_alloc cJ.out _) 0).trans rfl, (blk_cell (blk_alloc cJ.out _) 1).trans rfl, (World.cell?_alloc_lt _ _ _ (World.block_lt_of_cell? _ _ ((pw_cell_below HB.out iP)))).trans ((pw_cell_below HB.out iP))⟩ (fun hHeld => ?_)
   clear hK K
   refine no_ 23 ?_
   refine oq_ 9 HT_ (fun K hK => ?_)
   refine Kd.S_append_step k91 (w0 := w) w.heap.size (by rfl) (.tmp 16) (.tmp 23) 47 91 (.agg #[(.slice none 0 0)]) 24 rfl Tryz.underlying47 info91 rfl (by decide) (by omega) fd cV (⟨vD⟩ : S91) [.slice oS vD.length oT] (fun _ => True) (fun k_ => some k_ = (.slice oS vD.length oT : Value).ownBlock) rfl rfl ?aP (fun k_ hk_ => ((Kd.R_mono (ok' := fun k_ => ((fun _ => True)) k_ ∧ some k_ ≠ (fd : Value).ownBlock) (Kd.R_apart' (rY.out) (Kd.S_typed bF.out) (by decide)) (fun k_ hk => ⟨trivial, hk.2⟩))).1 k_ hk_.symm) ?aF ?aO ?aB ?aS ?aL ?_
   (case aP => exact k91_mkM _ _ _ (⟨vD⟩ : S91) (Kd.R_mono (Kd.R_tight rfl (Kd.R_mono (ok' := fun k_ => ((fun _ => True)) k_ ∧ some k_ ≠ (fd : Value).ownBlock) (Kd.R_apart' (rY.out) (Kd.S_typed bF.out) (by decide)) (fun k_ hk => ⟨trivial, hk.2⟩))) (fun _ h_ => h_)))
   (case aB => exact bl_)
   (case aF => exact (fun _ _ => trivial))
   (case aO => exact (by (with_reducible repeat (first | apply Kd.S_alloc | apply Kd.S_drewN | apply Kd.S_drew)); exact Kd.S_mono bF.out (fun k_ hk => ⟨trivial, fun e_ => hk.2 e_⟩)))
   (case aS => exact (below_size bl_))
   (case aL => have := Sf.out; omega)
   intro ZV gI ho hb hg hat
   rw [← Mo.out] at ho
   replace dK := am_ (bg_ dK hg (Kd.S_ne bF.out dK.out (by decide)))
   replace cJ := am_ (bg_ cJ hg (Kd.S_ne bF.out cJ.out (by decide)))
   replace HB := am_ (hb)
   have D3 := am_ (ho)
   clear bF rY
   clear ho hb hg hat
   obtain ⟨ux, uy, uz⟩ := Kd.S_slice D3.out
   (first | subst uz | (injection uz with b9 dT cd; have dU := b9.symm; have dV := cd.symm; clear b9 dT cd; subst dU; subst dV))
   refine hK.out _ _ ⟨(blk_cell cJ.out 0).trans rfl, (blk_cell cJ.out 1).trans rfl, (pw_cell_below HB.out iP)⟩ (fun hHeld => ?_)
   clear hK K
   refine no_ 24 ?_
   refine pq_ 10 HT_ ?_
   refine lq_ 11 HT_ (fun K hK => ?_)
   have ZW : gI.cell? ⟨oa, 1, none⟩ = some (fd) := (blk_cell cJ.out 1).trans rfl
   have Wd := blk_frozen cJ.out 1
   obtain ⟨OK, OL⟩ := nn_ vC
   refine skip_ (w1 := ?_) (by rfl) rfl ?_ ?_
   rotate_left
   ·go_simp
    rfl
   refine hK.out _ _ ?_
   clear hK K
   refine done_ (done_of HT_.out (by kernel_rfl)) ?_
   try go_wp2
   go_roundg k1
   case measure => have := cK.out; omega
   case rel => exact ⟨(wrap64 (aE + 1)), (Be), (.slice ux Be.length uy), er_, H', ⟨by have := cK.out; omega⟩, ⟨by (with_reducible repeat (first | apply Kd.S_alloc | apply Kd.S_drewN | apply Kd.S_drew)); exact Kd.S_mono (Kd.S_far (p := ⟨oa, 1, none⟩) (Kd.S_types D3.out cJ.out (by decide)) (fun _ hk => hk.2) (.slice ux Be.length uy)) (fun _ hk => trivial)⟩, ⟨bf_ dK⟩, ⟨bq_ cJ⟩, ⟨bl_⟩⟩
def F26.l0 : Nat → Int → Bool → ByteArray → Option (ByteArray)
  | 0, _, _, _ => none
  | k + 1, x0, x3, x4 => if x0 = 0 then (if x3 = true then (if 1 + x4.size ≤ 9223372036854775807 then (some ((⟨#[45]⟩ : ByteArray) ++ x4)) else (none)) else (some x4)) else (if (Int.tmod x0 10) < 0 then ((some (([(wrap64 (48 + (wrap64 (-(Int.tmod x0 10))))) % 256] : List Int) : List Int)).bind fun np => (if (strOfNums np).size + x4.size ≤ 9223372036854775807 then (F26.l0 k (wrap64 (Int.tdiv x0 10)) x3 ((strOfNums np) ++ x4)) else (none))) else ((some (([(wrap64 (48 + (Int.tmod x0 10))) % 256] : List Int) : List Int)).bind fun nq => (if (strOfNums nq).size + x4.size ≤ 9223372036854775807 then (F26.l0 k (wrap64 (Int.tdiv x0 10)) x3 ((strOfNums nq) ++ x4)) else (none))))
def F26.f (k : Nat) (a0 : Int) : Option (ByteArray) := if a0 = 0 then (some (⟨#[48]⟩ : ByteArray)) else (F26.l0 k a0 (decide (a0 < 0)) (⟨#[]⟩ : ByteArray))
theorem F26.mono_l : ∀ k, (∀ y0 y1 y2, LeO (F26.l0 k y0 y1 y2) (F26.l0 (k + 1) y0 y1 y2))
 | 0 => fun _ _ _ r h => by simp [F26.l0] at h
 | k + 1 => by
  have ef := F26.mono_l k
  intro y0 y1 y2
  unfold F26.l0
  exact ax48_
theorem F26.mono : ∀ a0 k, LeO (F26.f k a0) (F26.f (k + 1) a0) := by
 intro a0 k
 have ef := F26.mono_l k
 unfold F26.f
 exact ax48_
theorem F26.calls {k : Nat} {a0 : Int} {r : ByteArray} {w : World} (h : F26.f k a0 = some r) :
  Calls Tryz.prog 26 #[.int .i64 a0] w fun e w' => e = .returned (.string r) ∧ Below w.heap.size w w' := by
 have HB := am_ (Below.refl w.heap.size w)
 have H := h; unfold F26.f at H
 clear h
 by_cases c2 : a0 = 0
 ·rw [if_pos c2] at H
  have c2b0 : (a0 == 0) = true := beq_iff_eq.mpr c2
  have c2b1 : (a0 != 0) = false := bne_eq_false_iff_eq.mpr c2
  clear c2
  obtain rfl := Option.some.inj H
  go_enter Tryz.func26, Tryz.ntmps26
  go_wp2
  all_goals try (exfalso; first | (have h_ := of_decide_eq_true c4b0; omega) | (have h_ := of_decide_eq_false c4b0; omega))
  go_ret
  exact ⟨ax11_, bl_⟩
 rw [if_neg c2] at H
 have c2b0 : (a0 == 0) = false := beq_eq_false_iff_ne.mpr c2
 have c2b1 : (a0 != 0) = true := bne_iff_ne.mpr c2
 have H' := am_ H
 clear H
 go_enter Tryz.func26, Tryz.ntmps26
 go_wp2
 all_goals try (exfalso; first | (have h_ := of_decide_eq_true c4b0; omega) | (have h_ := of_decide_eq_false c4b0; omega))
 go_loopg [0, 4] k (fun kq v0 v4 w' => ∃ (eY : Int) (bq : ByteArray), v0 = .int .i64 eY ∧ v4 = .string bq ∧ Aside0 (F26.l0 kq eY (decide (a0 < 0)) bq = some r) ∧ Aside0 (kq ≤ k) ∧ Aside0 (Below w.heap.size w w'))
 case atStart => exact ⟨(a0), ((⟨#[]⟩ : ByteArray)), er_, er_, H', ⟨Nat.le_refl _⟩, ⟨bl_⟩⟩
 case round =>
  clear H'
  try clear c2b0
  try clear c2b1
  obtain ⟨eY, bq, rfl, rfl, HA, cK, HB⟩ := hrel
  cases gk with
  | zero => exact absurd HA.out (by simp [F26.l0])
  | succ k1 =>
   have H := HA.out
   clear HA
   simp only [F26.l0] at H
   by_cases c3 : eY = 0
   ·rw [if_pos c3] at H
    have c3b0 : (eY == 0) = true := beq_iff_eq.mpr c3
    have c3b1 : (eY != 0) = false := bne_eq_false_iff_eq.mpr c3
    clear c3
    by_cases c4 : (decide (a0 < 0)) = true
    rotate_left
    ·rw [if_neg c4] at H
     have c4b0 : (decide (a0 < 0)) = false := by simpa using c4
     clear c4
     obtain rfl := Option.some.inj H
     go_wp2
     all_goals try (exfalso; first | (have h_ := of_decide_eq_true c4b0; omega) | (have h_ := of_decide_eq_false c4b0; omega))
     go_ret
     exact ⟨ax11_, bl_⟩
    rw [if_pos c4] at H
    have c4b0 : (decide (a0 < 0)) = true := c4
    clear c4
    by_cases c5 : 1 + bq.size ≤ 9223372036854775807
    rotate_left
    ·rw [if_neg c5] at H
     exact absurd H (by simp)
    rw [if_pos c5] at H
    have c5b0 := eq_true c5
    have c5b1 : decide (1 + bq.size ≤ 9223372036854775807) = true := decide_eq_true c5
    try have c5b2 : (9223372036854775807 < 1 + bq.size) = False := eq_false (Nat.not_lt.2 c5)
    obtain rfl := Option.some.inj H
    go_wp2
    all_goals try (exfalso; first | (have h_ := of_decide_eq_true c4b0; omega) | (have h_ := of_decide_eq_false c4b0; omega))
    go_ret
    exact ⟨ax11_, bl_⟩
   rw [if_neg c3] at H
   have c3b0 : (eY == 0) = false := beq_eq_false_iff_ne.mpr c3
   have c3b1 : (eY != 0) = true := bne_iff_ne.mpr c3
   replace H := it_ H; rcases H with ⟨c6b0, H⟩ | ⟨c6b0, H⟩
   ·obtain ⟨np, yk⟩ : ∃ y_ : List Int, y_ = (([(wrap64 (48 + (wrap64 (-(Int.tmod eY 10))))) % 256] : List Int)) := ⟨_, rfl⟩
    replace H : (if (strOfNums np).size + bq.size ≤ 9223372036854775807 then (F26.l0 k1 (wrap64 (Int.tdiv eY 10)) (decide (a0 < 0)) ((strOfNums np) ++ bq)) else (none)) = some r := by first | (rw [yk]; exact H) | exact H
    have D4 := am_ yk
    clear yk
    by_cases c7 : (strOfNums np).size + bq.size ≤ 9223372036854775807
    rotate_left
    ·rw [if_neg c7] at H
     exact absurd H (by simp)
    rw [if_pos c7] at H
    have c7b0 := eq_true c7
    have c7b1 : decide ((strOfNums np).size + bq.size ≤ 9223372036854775807) = true := decide_eq_true c7
    try have c7b2 : (9223372036854775807 < (strOfNums np).size + bq.size) = False := eq_false (Nat.not_lt.2 c7)
    have H' := am_ H
    clear H
    go_wp2_with (first | ((with_reducible refine gate_dst (N := 21) rfl ?_); refine Kd.R_lit (Kd.int .u8) _ 5 ?hg (N := 21) ?hd (xs := ([(wrap64 (48 + (wrap64 (-(Int.tmod eY 10))))) % 256] : List Int)) (inner := [.int .u8 ((wrap64 (48 + (wrap64 (-(Int.tmod eY 10))))) % 256)]) (ok := fun _ => True) (okp := fun _ => True) ?hr ?hp (fun _ hk => hk) trivial (Below.refl _ _) (Nat.le_refl _) (by simp) ?_; (case hd => rfl); (case hg => rfl); (case hr => exact hr_); (case hp => exact (Reps.one (show Kd.M (Kd.int .u8) _ _ _ ((wrap64 (48 + (wrap64 (-(Int.tmod eY 10))))) % 256) [.int .u8 ((wrap64 (48 + (wrap64 (-(Int.tmod eY 10))))) % 256)] from rfl) (Reps.none _ _))); intro ZX w8 yl hb hg_ hnew_; clear hg_ hnew_; (first | rw [← D4.out] at yl | (simp only [Int.reduceToNat] at yl; rw [← D4.out] at yl)); have Mq := am_ (Kd.R_lower yl (below_size bl_)); replace HB := hs_ w hb; clear hb yl; have We := own_string (P := Tryz.prog) Tryz.underlying37 Tryz.underlying5 Tryz.underlying9 (Kd.own_of_R Mq.out)))
    go_roundg k1
    case measure => have := cK.out; omega
    case rel => exact ⟨(wrap64 (Int.tdiv eY 10)), ((strOfNums np) ++ bq), er_, er_, H', ⟨by have := cK.out; omega⟩, ⟨bl_⟩⟩
   obtain ⟨nq, ym⟩ : ∃ y_ : List Int, y_ = (([(wrap64 (48 + (Int.tmod eY 10))) % 256] : List Int)) := ⟨_, rfl⟩
   replace H : (if (strOfNums nq).size + bq.size ≤ 9223372036854775807 then (F26.l0 k1 (wrap64 (Int.tdiv eY 10)) (decide (a0 < 0)) ((strOfNums nq) ++ bq)) else (none)) = some r := by first | (rw [ym]; exact H) | exact H
   have D5 := am_ ym
   clear ym
   by_cases fS : (strOfNums nq).size + bq.size ≤ 9223372036854775807
   rotate_left
   ·rw [if_neg fS] at H
    exact absurd H (by simp)
   rw [if_pos fS] at H
   have c11b0 := eq_true fS
   have c11b1 : decide ((strOfNums nq).size + bq.size ≤ 9223372036854775807) = true := decide_eq_true fS
   try have c11b2 : (9223372036854775807 < (strOfNums nq).size + bq.size) = False := eq_false (Nat.not_lt.2 fS)
   have H' := am_ H
   clear H
   go_wp2_with (first | ((with_reducible refine gate_dst (N := 21) rfl ?_); refine Kd.R_lit (Kd.int .u8) _ 5 ?hg (N := 21) ?hd (xs := ([(wrap64 (48 + (Int.tmod eY 10))) % 256] : List Int)) (inner := [.int .u8 ((wrap64 (48 + (Int.tmod eY 10))) % 256)]) (ok := fun _ => True) (okp := fun _ => True) ?hr ?hp (fun _ hk => hk) trivial (Below.refl _ _) (Nat.le_refl _) (by simp) ?_; (case hd => rfl); (case hg => rfl); (case hr => exact hr_); (case hp => exact (Reps.one (show Kd.M (Kd.int .u8) _ _ _ ((wrap64 (48 + (Int.tmod eY 10))) % 256) [.int .u8 ((wrap64 (48 + (Int.tmod eY 10))) % 256)] from rfl) (Reps.none _ _))); intro ZY lU lg hb hg_ hnew_; clear hg_ hnew_; (first | rw [← D5.out] at lg | (simp only [Int.reduceToNat] at lg; rw [← D5.out] at lg)); have Mr := am_ (Kd.R_lower lg (below_size bl_)); replace HB := hs_ w hb; clear hb lg; have Wf := own_string (P := Tryz.prog) Tryz.underlying37 Tryz.underlying5 Tryz.underlying9 (Kd.own_of_R Mr.out)))
   go_roundg k1
   case measure => have := cK.out; omega
   case rel => exact ⟨(wrap64 (Int.tdiv eY 10)), ((strOfNums nq) ++ bq), er_, er_, H', ⟨by have := cK.out; omega⟩, ⟨bl_⟩⟩
def F23.f (k : Nat) (ae : ByteArray) (ax : ByteArray) (aM : Int) (af : List (S53)) : Option (ByteArray × (List (S91))) := (F26.f k aM).bind fun pQ => ((F25.f k (⟨#[73, 88, 72]⟩ : ByteArray) (([ae, ax, pQ] : List ByteArray))).bind fun ob => (some (ob.1, ob.2)))
def F23.T1 : Bool × List (List Nat × List Nat) := (true, [([], []), ([0], [0]), ([], []), ([2], [2]), ([], []), ([4], [4]), ([5], [5]), ([1, 3, 6], [1, 3, 6]), ([7, 6], [7]), ([8, 8, 0, 1, 2, 3, 4, 5, 6, 7, 8], [8])])
def F23.B1 : List Nat := [0, 1, 0, 4, 0, 16, 48, 127, 255, 511]
theorem F23.tab1 : rtab .any (opsOf Tryz.f23 1) = F23.T1 := by kernel_rfl
theorem F23.bits1 : waitsOk F23.T1.2 F23.B1 = true := by kernel_rfl
theorem F23.calls {k : Nat} {ae ax : ByteArray} {aM : Int} {cl : Option Addr} {bN : Nat} {af : List (S53)} {r1 : ByteArray} {r2 : List (S91)} {w : World} (dW : Kd.C k53 w cl af.length af) (dX : af.length ≤ bN) (h : F23.f k ae ax aM af = some (r1, r2)) :
  Calls Tryz.prog 23 #[.agg #[.string ae, .string ax, .int .i64 aM, .slice cl af.length bN]] w fun e w' => ∃ nM : Value, e = .returned (.agg #[.string r1, nM]) ∧ Kd.S k91 91 w' w.heap.size (fun _ => True) nM r2 ∧ Below w.heap.size w w' := by
 have gJ := Tryz.underlying30
 have dk := Tryz.underlying49
 have gV := am_ dW
 have gv := am_ dX
 clear dW dX
 have HB := am_ (Below.refl w.heap.size w)
 have H := h; unfold F23.f at H
 clear h
 replace H := bi_ H; rcases H with ⟨pQ, A2, H⟩
 obtain ⟨Mt, yn⟩ : ∃ y_ : List ByteArray, y_ = (([ae, ax, pQ] : List ByteArray)) := ⟨_, rfl⟩
 replace H : ((F25.f k (⟨#[73, 88, 72]⟩ : ByteArray) Mt).bind fun ob => (some (ob.1, ob.2))) = some (r1, r2) := by first | (rw [yn]; exact H) | exact H
 have D6 := am_ yn
 clear yn
 replace H := bi_ H; rcases H with ⟨⟨Mu, Mv⟩, A3, H⟩
 simp only [Option.some.injEq, Prod.mk.injEq] at H
 obtain ⟨rfl, rfl⟩ := H
 go_enter Tryz.func23, Tryz.ntmps23
 try go_wp2_with (first | ((with_reducible refine gate_dst (N := 1) rfl ?_); refine be_ 1 #[.string ae, .string ax, .int .i64 aM, .slice cl af.length bN] 30 ?_; intro rZ hg w4 hbox hb; have bU := am_ (hbox); have Mw := am_ (gw_ hg bl_); have Wg := Mw; replace HB := hs_ w hb; clear hb hbox hg) | ((with_reducible refine gate_dst (N := 2) rfl ?_); refine be_ 2 #[.string (⟨#[]⟩ : ByteArray), .slice none 0 0] 49 ?_; intro fo hg w5 hbox hb; have eO := am_ (hbox); have Mx := am_ (gw_ hg bl_); have Wh := Mx; replace HB := hs_ w hb; have cF := am_ (gn_ hg (blkl_ bU)); have IB := am_ (gm_ hg (blkl_ bU)); replace bU := bb_ bU hb; clear hb hbox hg))
 replace bU := bd_ bU
 replace eO := bd_ eO
 replace HB := am_ (below_drew1 HB.out)
 refine start_ (n := 10) (S := fun w' => w'.cell? ⟨rZ, 0, none⟩ = some (.string ae) ∧ w'.cell? ⟨rZ, 1, none⟩ = some (.string ax) ∧ w'.cell? ⟨rZ, 2, none⟩ = some (.int .i64 aM) ∧ w'.cell? ⟨rZ, 3, none⟩ = some (.slice cl af.length bN)) (ds := []) (bs 10 0) (by kernel_rfl) rfl rfl ⟨(blk_cell bU.out 0).trans rfl, (blk_cell bU.out 1).trans rfl, (blk_cell bU.out 2).trans rfl, (blk_cell bU.out 3).trans rfl⟩ (fun hHeld => ?_); refine with_tabW F23.tab1 F23.bits1 (fun HT_ HW_ => ?_)
 generalize w5.drew = w6 at bU eO HB hHeld ⊢
 refine pq_ 0 HT_ ?_
 refine pq_ 2 HT_ ?_
 refine pq_ 4 HT_ ?_
 refine tq_ 1 HT_ HW_ hHeld rfl ax53_ ?_
 refine tq_ 3 HT_ HW_ hHeld rfl ax53_ ?_
 refine tq_ 5 HT_ HW_ hHeld rfl ax53_ ?_
 refine oq_ 6 HT_ (fun K hK => ?_)
 refine gr_ Tryz.func26 #[.int .i64 aM] (by rfl) ?_ rfl rfl rfl
 with_reducible refine (F26.calls A2.out).mono ?_
 rintro e w7 ⟨rfl, hb⟩
 refine ⟨_, rfl, ?_⟩
 replace bU := bb_ bU hb
 replace eO := bb_ eO hb
 replace HB := hs_ w hb
 (try clear hb)
 refine hK.out _ _ ⟨(blk_cell bU.out 0).trans rfl, (blk_cell bU.out 1).trans rfl, (blk_cell bU.out 2).trans rfl, (blk_cell bU.out 3).trans rfl⟩ (fun hHeld => ?_)
 clear hK K
 refine no_ 9 ?_
 refine oq_ 7 HT_ (fun K hK => ?_)
 refine Kd.R_lit_step Kd.string _ 9 ?hg (N := 10) ?hd (xs := ([ae, ax, pQ] : List ByteArray)) (inner := [.string ae, .string ax, .string pQ]) (ok := fun _ => True) (okp := fun _ => True) ?hr ?hp (fun _ hk => hk) trivial (Below.refl _ _) (Nat.le_refl _) (by simp) ?_; (case hd => rfl); (case hg => rfl); (case hr => exact hr_); (case hp => exact (Reps.one (show Kd.M Kd.string _ _ _ ae [.string ae] from rfl) (Reps.one (show Kd.M Kd.string _ _ _ ax [.string ax] from rfl) (Reps.one (show Kd.M Kd.string _ _ _ pQ [.string pQ] from rfl) (Reps.none _ _)))))
 intro ZZ w8 yl hb hg_ hnew_
 clear hg_ hnew_
 (first | rw [← D6.out] at yl | (simp only [Int.reduceToNat] at yl; rw [← D6.out] at yl))
 have ml := am_ (Kd.R_lower yl (below_size bl_))
 replace bU := bb_ bU hb
 replace eO := bb_ eO hb
 replace HB := hs_ w hb
 clear hb yl
 obtain ⟨EB, EC, wm⟩ := Kd.R_slice ml.out
 (first | subst wm | (injection wm with b9 dT cd; have dU := b9.symm; have dV := cd.symm; clear b9 dT cd; subst dU; subst dV))
 refine hK.out _ _ ⟨(blk_cell bU.out 0).trans rfl, (blk_cell bU.out 1).trans rfl, (blk_cell bU.out 2).trans rfl, (blk_cell bU.out 3).trans rfl⟩ (fun hHeld => ?_)
 clear hK K
 refine no_ 10 ?_
 refine oq_ 8 HT_ (fun K hK => ?_)
 refine gr_ Tryz.func25 #[.string (⟨#[73, 88, 72]⟩ : ByteArray), .slice EB Mt.length EC] (by rfl) ?_ rfl rfl rfl
 with_reducible refine (F25.calls ?s1 ?s2 A3.out).mono ?_
 (case s1 => repeat (first | exact (Kd.R_reads' ml.out).2.2 | (with_reducible refine Kd.C_alloc ?_ _) | (with_reducible refine Kd.C_drewN ?_ _) | (with_reducible refine Kd.C_drew ?_)))
 (case s2 => exact (Kd.R_reads' ml.out).2.1)
 rintro e wj ⟨Z0, rfl, bf, hb⟩
 refine ⟨_, rfl, ?_⟩
 have D7 := am_ (Kd.S_lower (Kd.S_new' bf (Kd.R_lt (rk_ ml))) (below_size bl_))
 replace ml := am_ (Kd.R_below (rk_ ml) hb)
 replace bU := bb_ bU hb
 replace eO := bb_ eO hb
 replace HB := hs_ w hb
 (try clear hb)
 (try clear bf)
 obtain ⟨oS, oT, oU⟩ := Kd.S_slice D7.out
 (first | subst oU | (injection oU with b9 dT cd; have dU := b9.symm; have dV := cd.symm; clear b9 dT cd; subst dU; subst dV))
 refine hK.out _ _ ⟨(blk_cell bU.out 0).trans rfl, (blk_cell bU.out 1).trans rfl, (blk_cell bU.out 2).trans rfl, (blk_cell bU.out 3).trans rfl⟩ (fun hHeld => ?_)
 clear hK K
 refine no_ 11 ?_
 refine oq_ 9 HT_ (fun K hK => ?_)
 have Z1 : wj.cell? ⟨fo, 0, none⟩ = some (.string (⟨#[]⟩ : ByteArray)) := (blk_cell eO.out 0).trans rfl
 have Wi := blk_frozen eO.out 0
 obtain ⟨OM, ON⟩ := nn_ cF
 have Z2 : wj.cell? ⟨fo, 1, none⟩ = some (.slice none 0 0) := (blk_cell eO.out 1).trans rfl
 have Wj := blk_frozen eO.out 1
 obtain ⟨OO, OP⟩ := nn_ cF
 refine skip_ (w1 := ?_) (by rfl) rfl ?_ ?_
 rotate_left
 ·go_simp
  rfl
 refine hK.out _ _ ⟨((cell_far (p := ⟨fo, _, none⟩) cF.out _).trans (((cell_far (p := ⟨fo, _, none⟩) cF.out _).trans (hHeld.1)))), ((cell_far (p := ⟨fo, _, none⟩) cF.out _).trans (((cell_far (p := ⟨fo, _, none⟩) cF.out _).trans (hHeld.2.1)))), ((cell_far (p := ⟨fo, _, none⟩) cF.out _).trans (((cell_far (p := ⟨fo, _, none⟩) cF.out _).trans (hHeld.2.2.1)))), ((cell_far (p := ⟨fo, _, none⟩) cF.out _).trans (((cell_far (p := ⟨fo, _, none⟩) cF.out _).trans (hHeld.2.2.2))))⟩ (fun hHeld => ?_)
 clear hK K
 refine done_ (done_of HT_.out (by kernel_rfl)) ?_
 try go_wp2
 refine bodyPost_ret (results_cell_row rfl _ _ fo 49 #[.string Mu, .slice oS Mv.length oT] (0, 0) _ rfl (bq_ eO) Tryz.underlying49 rfl (by kernel_rfl)) rfl ?_
 exact ⟨_, ax11_, by (with_reducible repeat (first | apply Kd.S_alloc | apply Kd.S_drewN | apply Kd.S_drew)); exact Kd.S_mono (Kd.S_far (p := ⟨fo, 1, none⟩) (Kd.S_far (p := ⟨fo, 0, none⟩) (Kd.S_types D7.out eO.out (by decide)) (fun _ hk => hk.2) (.string Mu)) (fun _ hk => hk.2) (.slice oS Mv.length oT)) (fun _ hk => trivial), bl_⟩
def F27.l0 : Nat → Int → ByteArray → List (S91) → ByteArray → List (S91) → Option (ByteArray × (List (S91)))
  | 0, _, _, _, _, _ => none
  | k + 1, x4, Bf, kM, r8, nr => if x4 < (kM.length : Int) then ((some (([] : List ByteArray) : List ByteArray)).bind fun pR => (if 0 ≤ x4 then (if pR.length + ((rd_T91 kM x4).f0).length < 8796093022208 then (if nr.length < 5864062014805 then (F27.l0 k (wrap64 (x4 + 1)) Bf kM r8 (nr ++ [(⟨(pR ++ ((rd_T91 kM x4).f0))⟩ : S91)])) else (none)) else (none)) else (none))) else (some (r8, nr))
def F27.f (k : Nat) (ae : ByteArray) (ac : List (S91)) : Option (ByteArray × (List (S91))) := F27.l0 k 0 ae ac ae ([] : List (S91))
theorem F27.mono_l : ∀ k, (∀ y0 y1 y2 y3 y4, LeO (F27.l0 k y0 y1 y2 y3 y4) (F27.l0 (k + 1) y0 y1 y2 y3 y4))
 | 0 => fun _ _ _ _ _ r h => by simp [F27.l0] at h
 | k + 1 => by
  have ef := F27.mono_l k
  intro y0 y1 y2 y3 y4
  unfold F27.l0
  exact ax45_
theorem F27.mono : ∀ a0 a1 k, LeO (F27.f k a0 a1) (F27.f (k + 1) a0 a1) := by
 intro a0 a1 k
 have ef := F27.mono_l k
 unfold F27.f
 exact ax45_
def F27.T5 : Bool × List (List Nat × List Nat) := (true, [([], []), ([0], [0]), ([], []), ([], []), ([3], [3]), ([], []), ([4, 5], [4, 5]), ([6], [6]), ([7], [7]), ([2, 8], [2, 8]), ([9], [9]), ([10], [10]), ([1, 11, 9], [1, 11]), ([0, 1, 2, 3, 4, 5, 6, 7, 8, 9, 10, 11, 12], []), ([13, 12, 12, 0, 1, 2, 3, 4, 5, 6, 7, 8, 9, 10, 11, 12], [12, 13])])
def F27.B5 : List Nat := [0, 1, 0, 0, 8, 0, 56, 120, 248, 508, 1020, 2044, 4095, 8191, 16383]
theorem F27.tab5 : rtab .any (opsOf Tryz.f27 5) = F27.T5 := by kernel_rfl
theorem F27.bits5 : waitsOk F27.T5.2 F27.B5 = true := by kernel_rfl
theorem F27.calls {k : Nat} {ae : ByteArray} {aJ : Option Addr} {aH : Nat} {ac : List (S91)} {r1 : ByteArray} {r2 : List (S91)} {w : World} (aY : Kd.C k91 w aJ ac.length ac) (aZ : ac.length ≤ aH) (h : F27.f k ae ac = some (r1, r2)) :
  Calls Tryz.prog 27 #[.agg #[.string ae, .slice aJ ac.length aH]] w fun e w' => ∃ nM : Value, e = .returned (.agg #[.string r1, nM]) ∧ Kd.S k91 91 w' w.heap.size (fun _ => True) nM r2 ∧ Below w.heap.size w w' := by
 have dk := Tryz.underlying49
 have kX := Tryz.underlying91
 have br := am_ aY
 have da := am_ aZ
 clear aY aZ
 have HB := am_ (Below.refl w.heap.size w)
 have H := h; unfold F27.f at H
 clear h
 have H' := am_ H
 clear H
 go_enter Tryz.func27, Tryz.ntmps27
 go_wp2_with (first | ((with_reducible refine gate_dst (N := 1) rfl ?_); refine be_ 1 #[.string ae, .slice aJ ac.length aH] 49 ?_; intro yo hg w2 hbox hb; have bv := am_ (hbox); have My := am_ (gw_ hg bl_); have Wk := My; replace HB := hs_ w hb; clear hb hbox hg) | ((with_reducible refine gate_dst (N := 2) rfl ?_); refine be_ 2 #[.string (⟨#[]⟩ : ByteArray), .slice none 0 0] 49 ?_; intro r9 hg w3 hbox hb; have de := am_ (hbox); have Mz := am_ (gw_ hg bl_); have Wl := Mz; replace HB := hs_ w hb; have j9 := am_ (gn_ hg (blkl_ bv)); have IC := am_ (gm_ hg (blkl_ bv)); replace bv := bb_ bv hb; clear hb hbox hg; obtain ⟨Qs, Qt⟩ := nn_ j9; have lc := cellsF2 bv.out) | ((with_reducible refine gate_dst (N := 3) rfl ?_); refine be_ 3 #[.string (⟨#[]⟩ : ByteArray), .slice none 0 0] 49 ?_; intro oc hg w6 hbox hb; have bV := am_ (hbox); have MA := am_ (gw_ hg bl_); have Wm := MA; replace HB := hs_ w hb; have kc := am_ (gn_ hg (blkl_ bv)); have mn := am_ (gm_ hg (blkl_ bv)); replace bv := bb_ bv hb; have vF := am_ (gn_ hg (blkl_ de)); have ke := am_ (gm_ hg (blkl_ de)); replace de := bb_ de hb; clear hb hbox hg; obtain ⟨JF, JG⟩ := nn_ mn; obtain ⟨Qu, Qv⟩ := nn_ ke; have jS := cellsF2 bV.out))
 go_loopg [4] k (fun kq v4 w' => ∃ (bq : Int) (b7 : List (S91)) (fe : Value), v4 = .int .i64 bq ∧ Aside0 (F27.l0 kq bq ae ac ae b7 = some (r1, r2)) ∧ Aside0 (kq ≤ k) ∧ Aside0 (Kd.S k91 91 w' w.heap.size (fun _ => True) fe b7) ∧ Aside0 (w'.heap[yo]? = some (.cells #[.string ae, (.slice aJ ac.length aH)] 49 (0, 0))) ∧ Aside0 (w'.heap[r9]? = some (.cells #[.string (⟨#[]⟩ : ByteArray), (.slice none 0 0)] 49 (0, 0))) ∧ Aside0 (w'.heap[oc]? = some (.cells #[.string ae, fe] 49 (0, 0))) ∧ Aside0 (Below w.heap.size w w'))
 case atStart => exact ⟨(0), (([] : List (S91))), (.slice none 0 0), er_, H', ⟨Nat.le_refl _⟩, ⟨ax8_⟩, ⟨bf_ bv⟩, ⟨bf_ de⟩, ⟨bq_ bV⟩, ⟨bl_⟩⟩
 case round =>
  clear H'
  try clear lc
  try clear jS
  obtain ⟨bq, b7, fe, rfl, HA, cK, bp, bv, de, bV, HB⟩ := hrel
  cases gk with
  | zero => exact absurd HA.out (by simp [F27.l0])
  | succ k1 =>
   have H := HA.out
   clear HA
   simp only [F27.l0] at H
   replace H := it_ H; rcases H with ⟨c10b0, H⟩ | ⟨c10b0, H⟩
   rotate_left
   ·simp only [Option.some.injEq, Prod.mk.injEq] at H
    obtain ⟨rfl, rfl⟩ := H
    obtain ⟨Dc, Dd⟩ := nn_ j9
    obtain ⟨Wn, Wo⟩ := nn_ kc
    have zG := cellsF2 bv.out
    obtain ⟨nG, nH⟩ := nn_ ke
    have kz := cellsF2 bV.out
    have kA := cellsF2 de.out
    obtain ⟨nT, nU, uM⟩ := Kd.S_slice bp.out
    subst uM
    go_wp2
    refine bodyPost_ret (results_cell_row rfl _ _ r9 49 #[.string ae, .slice nT b7.length nU] (0, 0) _ rfl (bq_ de) Tryz.underlying49 rfl (by kernel_rfl)) rfl ?_
    exact ⟨_, ax11_, by (with_reducible repeat (first | apply Kd.S_alloc | apply Kd.S_drewN | apply Kd.S_drew)); exact Kd.S_mono (Kd.S_far (p := ⟨r9, 1, none⟩) (Kd.S_far (p := ⟨r9, 0, none⟩) (Kd.S_types bp.out de.out (by decide)) (fun _ hk => hk.2) (.string ae)) (fun _ hk => hk.2) (.slice nT b7.length nU)) (fun _ hk => trivial), bl_⟩
   obtain ⟨pR, yp⟩ : ∃ y_ : List ByteArray, y_ = (([] : List ByteArray)) := ⟨_, rfl⟩
   replace H : (if 0 ≤ bq then (if pR.length + ((rd_T91 ac bq).f0).length < 8796093022208 then (if b7.length < 5864062014805 then (F27.l0 k1 (wrap64 (bq + 1)) ae ac ae (b7 ++ [(⟨(pR ++ ((rd_T91 ac bq).f0))⟩ : S91)])) else (none)) else (none)) else (none)) = some (r1, r2) := by first | (rw [yp]; exact H) | exact H
   have D8 := am_ yp
   clear yp
   replace H := itn_ H; rcases H with ⟨c11b0, H⟩
   replace H := iln_ H; rcases H with ⟨MB, H⟩
   obtain ⟨vG, yq⟩ : ∃ y_ : List ByteArray, y_ = (pR ++ ((rd_T91 ac bq).f0)) := ⟨_, rfl⟩
   replace H : (if b7.length < 5864062014805 then (F27.l0 k1 (wrap64 (bq + 1)) ae ac ae (b7 ++ [(⟨vG⟩ : S91)])) else (none)) = some (r1, r2) := by first | (rw [yq]; exact H) | exact H
   have MC := am_ yq
   clear yq
   replace H := iln_ H; rcases H with ⟨xH, H⟩
   obtain ⟨Bg, yr⟩ : ∃ y_ : List (S91), y_ = (b7 ++ [(⟨vG⟩ : S91)]) := ⟨_, rfl⟩
   replace H : (F27.l0 k1 (wrap64 (bq + 1)) ae ac ae Bg) = some (r1, r2) := by first | (rw [yr]; exact H) | exact H
   have MD := am_ yr
   clear yr
   have H' := am_ H
   clear H
   obtain ⟨IW, IX⟩ := nn_ j9
   obtain ⟨DU, DV⟩ := nn_ kc
   have nf := cellsF2 bv.out
   try go_wp2
   replace bp := am_ (Kd.S_drew bp.out)
   replace bv := bd_ bv
   replace de := bd_ de
   replace bV := bd_ bV
   replace HB := am_ (below_drew1 HB.out)
   have Gx : 0 ≤ (bq : Int) := od_
   have Gy : bq < (ac.length : Int) := od_
   obtain ⟨D9, Gz, GA, Sj, kN, sa, sb⟩ := at_T91 br.out bq Gx Gy
   have gj := kN
   cases Sj
   replace kN := pw_cell_below HB.out kN
   have sc := am_ sb
   have OQ := am_ sa
   clear sb sa
   replace Gx := eq_true Gx
   replace Gy := eq_true Gy
   refine start_ (n := 15) (S := fun w' => w'.cell? ⟨oc, 0, none⟩ = some (.string ae) ∧ w'.cell? ⟨oc, 1, none⟩ = some (fe) ∧ w'.cell? ⟨yo, 0, none⟩ = some (.string ae) ∧ w'.cell? ⟨yo, 1, none⟩ = some (.slice (some D9) ac.length aH) ∧ w'.cell? (D9.add (bq).toNat) = some (.slice Gz ((rd_T91 ac bq).f0).length GA)) (ds := [14]) (bs 15 0) (by kernel_rfl) rfl rfl ⟨(blk_cell bV.out 0).trans rfl, (blk_cell bV.out 1).trans rfl, (blk_cell bv.out 0).trans rfl, (blk_cell bv.out 1).trans rfl, (pw_cell_below HB.out gj)⟩ (fun hHeld => ?_); refine with_tabW F27.tab5 F27.bits5 (fun HT_ HW_ => ?_)
   generalize wr.drew = Rc at bp bv de bV HB sc kN hHeld ⊢
   refine pq_ 0 HT_ ?_
   refine pq_ 3 HT_ ?_
   refine pq_ 5 HT_ ?_
   refine tq_ 1 HT_ HW_ hHeld rfl ax52_ ?_
   refine tq_ 4 HT_ HW_ hHeld rfl ax52_ ?_
   refine pq_ 6 HT_ ?_
   refine pq_ 7 HT_ ?_
   refine tq_ 8 HT_ HW_ hHeld rfl ax52_ ?_
   refine oq_ 2 HT_ (fun K hK => ?_)
   refine Kd.R_lit_step Kd.string _ 9 ?hg (N := 17) ?hd (xs := ([] : List ByteArray)) (inner := []) (ok := fun _ => True) (okp := fun _ => True) ?hr ?hp (fun _ hk => hk) trivial (Below.refl _ _) (Nat.le_refl _) (by simp) ?_; (case hd => rfl); (case hg => rfl); (case hr => exact hr_); (case hp => exact (Reps.none _ _))
   intro Sk zx vH hb hg_ hnew_
   clear hg_ hnew_
   (first | rw [← D8.out] at vH | (simp only [Int.reduceToNat] at vH; rw [← D8.out] at vH))
   replace bp := am_ (Kd.S_elder' au7_24 (Kd.R_base vH) hb)
   have od := am_ (Kd.R_lower vH (below_size bl_))
   replace bv := bb_ bv hb
   replace de := bb_ de hb
   replace bV := bb_ bV hb
   replace HB := hs_ w hb
   clear hb vH
   refine hK.out _ _ ⟨(blk_cell bV.out 0).trans rfl, (blk_cell bV.out 1).trans rfl, (blk_cell bv.out 0).trans rfl, (blk_cell bv.out 1).trans rfl, (pw_cell_below HB.out gj)⟩ (fun hHeld => ?_)
   clear hK K
   refine no_ 17 ?_
   refine oq_ 9 HT_ (fun K hK => ?_)
   refine Kd.R_append_rows_step Kd.string (w0 := w) w.heap.size (by rfl) (.tmp 17) (.tmp 23) 59 9 (.string ⟨#[]⟩) 16 rfl Tryz.underlying59 info9 rfl (by decide) (by omega) Sk pR ((rd_T91 ac bq).f0) _ _ _ (fun _ => True) (fun _ => False) rfl rfl ?aO ?aR (fun _ _ h => h) (fun _ h => h.elim) ?aF ?aB ?aS ?aL ?_
   (case aR => repeat (first | exact (Kd.C_below sc.out HB.out) | (with_reducible refine Kd.C_alloc ?_ _) | (with_reducible refine Kd.C_drewN ?_ _) | (with_reducible refine Kd.C_drew ?_)))
   (case aB => exact bl_)
   (case aF => exact (fun _ _ => trivial))
   (case aO => exact (rk_ od))
   (case aS => exact (below_size bl_))
   (case aL => have := MB.out; omega)
   intro Z3 Qo ho hb hg hat
   rw [← MC.out] at ho
   replace bp := am_ (Kd.S_after (ok := (fun _ => True)) au7_24 hg hat)
   replace bv := am_ (bg_ bv hg (Kd.R_ne od.out bv.out (by decide)))
   replace de := am_ (bg_ de hg (Kd.R_ne od.out de.out (by decide)))
   replace bV := am_ (bg_ bV hg (Kd.R_ne od.out bV.out (by decide)))
   replace HB := am_ (hb)
   have sd := am_ (ho)
   clear od
   clear ho hb hg hat
   obtain ⟨ME, MF, MG⟩ := Kd.R_slice sd.out
   (first | subst MG | (injection MG with b9 dT cd; have dU := b9.symm; have dV := cd.symm; clear b9 dT cd; subst dU; subst dV))
   refine hK.out _ _ ⟨(blk_cell bV.out 0).trans rfl, (blk_cell bV.out 1).trans rfl, (blk_cell bv.out 0).trans rfl, (blk_cell bv.out 1).trans rfl, (pw_cell_below HB.out gj)⟩ (fun hHeld => ?_)
   clear hK K
   refine no_ 24 ?_
   refine pq_ 10 HT_ ?_
   refine oq_ 11 HT_ (fun K hK => ?_)
   refine value_ (w1 := ?_) (v := ?_) (by rfl) rfl ?_ ?_
   rotate_left 2
   ·go_simp
    constructor
    ·rfl
    ·rfl
   refine hK.out _ _ ⟨(blk_cell (blk_alloc bV.out _) 0).trans rfl, (blk_cell (blk_alloc bV.out _) 1).trans rfl, (blk_cell (blk_alloc bv.out _) 0).trans rfl, (blk_cell (blk_alloc bv.out _) 1).trans rfl, (World.cell?_alloc_lt _ _ _ (World.block_lt_of_cell? _ _ ((pw_cell_below HB.out gj)))).trans ((pw_cell_below HB.out gj))⟩ (fun hHeld => ?_)
   clear hK K
   refine no_ 26 ?_
   refine oq_ 12 HT_ (fun K hK => ?_)
   refine Kd.S_append_step k91 (w0 := w) w.heap.size (by rfl) (.tmp 16) (.tmp 26) 47 91 (.agg #[(.slice none 0 0)]) 24 rfl Tryz.underlying47 info91 rfl (by decide) (by omega) fe b7 (⟨vG⟩ : S91) [.slice ME vG.length MF] (fun _ => True) (fun k_ => some k_ = (.slice ME vG.length MF : Value).ownBlock) rfl rfl ?aP (fun k_ hk_ => ((Kd.R_mono (ok' := fun k_ => ((fun _ => True)) k_ ∧ some k_ ≠ (fe : Value).ownBlock) (Kd.R_apart' (sd.out) (Kd.S_typed bp.out) (by decide)) (fun k_ hk => ⟨trivial, hk.2⟩))).1 k_ hk_.symm) ?aF ?aO ?aB ?aS ?aL ?_
   (case aP => exact k91_mkM _ _ _ (⟨vG⟩ : S91) (Kd.R_mono (Kd.R_tight rfl (Kd.R_mono (ok' := fun k_ => ((fun _ => True)) k_ ∧ some k_ ≠ (fe : Value).ownBlock) (Kd.R_apart' (sd.out) (Kd.S_typed bp.out) (by decide)) (fun k_ hk => ⟨trivial, hk.2⟩))) (fun _ h_ => h_)))
   (case aB => exact bl_)
   (case aF => exact (fun _ _ => trivial))
   (case aO => exact (by (with_reducible repeat (first | apply Kd.S_alloc | apply Kd.S_drewN | apply Kd.S_drew)); exact Kd.S_mono bp.out (fun k_ hk => ⟨trivial, fun e_ => hk.2 e_⟩)))
   (case aS => exact (below_size bl_))
   (case aL => have := xH.out; omega)
   intro Z4 zO ho hb hg hat
   rw [← MD.out] at ho
   replace bv := am_ (bg_ bv hg (Kd.S_ne bp.out bv.out (by decide)))
   replace de := am_ (bg_ de hg (Kd.S_ne bp.out de.out (by decide)))
   replace bV := am_ (bg_ bV hg (Kd.S_ne bp.out bV.out (by decide)))
   replace HB := am_ (hb)
   have Ea := am_ (ho)
   clear bp sd
   clear ho hb hg hat
   obtain ⟨AT, AU, uW⟩ := Kd.S_slice Ea.out
   (first | subst uW | (injection uW with b9 dT cd; have dU := b9.symm; have dV := cd.symm; clear b9 dT cd; subst dU; subst dV))
   refine hK.out _ _ ⟨(blk_cell bV.out 0).trans rfl, (blk_cell bV.out 1).trans rfl, (blk_cell bv.out 0).trans rfl, (blk_cell bv.out 1).trans rfl, (pw_cell_below HB.out gj)⟩ (fun hHeld => ?_)
   clear hK K
   refine no_ 27 ?_
   refine pq_ 13 HT_ ?_
   refine lq_ 14 HT_ (fun K hK => ?_)
   have Z5 : zO.cell? ⟨oc, 1, none⟩ = some (fe) := (blk_cell bV.out 1).trans rfl
   have Wp := blk_frozen bV.out 1
   have OR := kc.out
   have OS := vF.out
   have OT := mn.out
   have OU := ke.out
   refine skip_ (w1 := ?_) (by rfl) rfl ?_ ?_
   rotate_left
   ·go_simp
    rfl
   refine hK.out _ _ ?_
   clear hK K
   refine done_ (done_of HT_.out (by kernel_rfl)) ?_
   try go_wp2
   go_roundg k1
   case measure => have := cK.out; omega
   case rel => exact ⟨(wrap64 (bq + 1)), (Bg), (.slice AT Bg.length AU), er_, H', ⟨by have := cK.out; omega⟩, ⟨by (with_reducible repeat (first | apply Kd.S_alloc | apply Kd.S_drewN | apply Kd.S_drew)); exact Kd.S_mono (Kd.S_far (p := ⟨oc, 1, none⟩) (Kd.S_types Ea.out bV.out (by decide)) (fun _ hk => hk.2) (.slice AT Bg.length AU)) (fun _ hk => trivial)⟩, ⟨bf_ bv⟩, ⟨bf_ de⟩, ⟨bq_ bV⟩, ⟨bl_⟩⟩
mutual
def F83.j0 : Nat → ByteArray → Bool → Option (Int × Bool)
  | 0, _, _ => none
  | k + 1, x0, x4 => if x4 = true then (if 1 ≤ (x0.size : Int) then (F83.j1 k x0 x4 (x0.extract 1 x0.size)) else (none)) else (F83.j1 k x0 x4 x0)
def F83.j1 : Nat → ByteArray → Bool → ByteArray → Option (Int × Bool)
  | 0, _, _, _ => none
  | k + 1, x0, x4, x5 => if (x5.size : Int) < 1 then (F83.j2 k x0 x4 x5 true) else (F83.j2 k x0 x4 x5 (decide ((x5.size : Int) > 12)))
def F83.j2 : Nat → ByteArray → Bool → ByteArray → Bool → Option (Int × Bool)
  | 0, _, _, _, _ => none
  | k + 1, x0, x4, x5, Z6 => if Z6 = true then (some (0, false)) else (F83.l0 k x0 x4 x5 0 0)
def F83.l0 : Nat → ByteArray → Bool → ByteArray → Int → Int → Option (Int × Bool)
  | 0, _, _, _, _, _ => none
  | k + 1, x0, x4, x5, x6, x7 => if x7 < (x5.size : Int) then (if 0 ≤ x7 then (if (bt x5 x7) < 48 then (some (0, false)) else (if (bt x5 x7) > 57 then (some (0, false)) else (F83.l0 k x0 x4 x5 (wrap64 ((wrap64 (10 * x6)) + (((bt x5 x7) - 48) % 256))) (wrap64 (x7 + 1))))) else (none)) else (if x4 = true then ((F26.f k (wrap64 (-x6))).bind fun MH => (some (wrap64 (-x6), (MH.toList == x0.toList)))) else ((F26.f k x6).bind fun MI => (some (x6, (MI.toList == x0.toList)))))
end
def F83.f (k : Nat) (a0 : ByteArray) : Option (Int × Bool) := if (a0.size : Int) > 0 then (if 0 < (a0.size : Int) then (F83.j0 k a0 ((bt a0 0) == 45)) else (none)) else (F83.j0 k a0 false)
theorem F83.mono_l : ∀ k, (∀ y0 y1, LeO (F83.j0 k y0 y1) (F83.j0 (k + 1) y0 y1)) ∧ (∀ y0 y1 y2, LeO (F83.j1 k y0 y1 y2) (F83.j1 (k + 1) y0 y1 y2)) ∧ (∀ y0 y1 y2 y3, LeO (F83.j2 k y0 y1 y2 y3) (F83.j2 (k + 1) y0 y1 y2 y3)) ∧ (∀ y0 y1 y2 y3 y4, LeO (F83.l0 k y0 y1 y2 y3 y4) (F83.l0 (k + 1) y0 y1 y2 y3 y4))
 | 0 => ⟨fun _ _ r h => by simp [F83.j0] at h, fun _ _ _ r h => by simp [F83.j1] at h, fun _ _ _ _ r h => by simp [F83.j2] at h, fun _ _ _ _ _ r h => by simp [F83.l0] at h⟩
 | k + 1 => by
  obtain ⟨ef, kW, ro, DH⟩ := F83.mono_l k
  refine ⟨?_, ?_, ?_, ?_⟩
  rotate_left
  ·intro y0 y1 y2
   unfold F83.j1
   exact tg7_6
  ·intro y0 y1 y2 y3
   unfold F83.j2
   exact tg7_6
  ·intro y0 y1 y2 y3 y4
   unfold F83.l0
   exact tg7_6
  intro y0 y1
  unfold F83.j0
  exact tg7_6
theorem F83.mono : ∀ a0 k, LeO (F83.f k a0) (F83.f (k + 1) a0) := by
 intro a0 k
 obtain ⟨ef, kW, ro, DH⟩ := F83.mono_l k
 unfold F83.f
 exact tg7_6
theorem F83.calls {k : Nat} {a0 : ByteArray} {r1 : Int} {r2 : Bool} {w : World} (h : F83.f k a0 = some (r1, r2)) :
  Calls Tryz.prog 83 #[.string a0] w fun e w' => e = .returned (.tuple #[.int .i64 r1, .bool r2]) ∧ Below w.heap.size w w' := by
 have HB := am_ (Below.refl w.heap.size w)
 have H := h; unfold F83.f at H
 clear h
 have d6 := am_ H
 clear H
 go_enter Tryz.func83, Tryz.ntmps83
 go_upto_region 1 with (fail)
 go_cut [4] (fun v4 wc => ∃ (kq : Nat) (bq : Bool), v4 = .bool bq ∧ Aside0 (F83.j0 kq a0 bq = some (r1, r2)) ∧ Aside0 (kq ≤ k) ∧ Aside0 (Below w.heap.size w wc))
 case first =>
  have H := d6.out
  clear d6
  replace H := it_ H; rcases H with ⟨(c3b0 : decide (0 < (a0.size : Int)) = true), H⟩ | ⟨(c3b0 : decide (0 < (a0.size : Int)) = false), H⟩
  rotate_left
  ·have c3b1 : decide (0 < a0.size) = false := n2_ c3b0
   (first | rw [c3b0] | (simp only [i64_w, i32_w]; rw [c3b0]) | skip)
   have H' := am_ H
   clear H
   go_wp2
   go_meet
   case rel => exact ⟨_, (false), er_, H', ⟨ax10_⟩, ⟨bl_⟩⟩
  have c3b1 : decide (0 < a0.size) = true := n2_ c3b0
  (first | rw [c3b0] | (simp only [i64_w, i32_w]; rw [c3b0]) | skip)
  replace H := itn_ H; rcases H with ⟨c4b0, H⟩
  have c4b1 : decide (0 < a0.size) = true := n2_ c4b0
  have H' := am_ H
  clear H
  have p5 : 0 ≤ (0 : Int) := (by omega)
  have q5 : 0 < a0.size := (by have : (0 : Int) < (a0.size : Int) := od_; omega)
  have fk : ∀ h : 0 < a0.size, ((a0[0]'h).toNat : Int) = bt a0 0 := bt_at a0 0
  clear p5
  have Zh : (0 < (a0.size : Int)) = True := eq_true (of_decide_eq_true as_)
  replace q5 := eq_true q5
  go_wp2
  go_meet
  case rel => exact ⟨_, (((bt a0 0) == 45)), er_, H', ⟨ax10_⟩, ⟨bl_⟩⟩
 case rest =>
  clear d6
  obtain ⟨kq, bq, rfl, HA, HJ1, HB⟩ := hcut
  cases kq with
  | zero => exact absurd HA.out (by simp [F83.j0])
  | succ vT =>
   have H := HA.out
   clear HA
   simp only [F83.j0] at H
   have xJ := am_ H
   clear H
   go_upto_if 17 with (fail)
   go_cut [5] (fun v5 wc => ∃ (kq : Nat) (eP : ByteArray), v5 = .string eP ∧ Aside0 (F83.j1 kq a0 bq eP = some (r1, r2)) ∧ Aside0 (kq ≤ vT) ∧ Aside0 (Below w.heap.size w wc))
   case first =>
    have H := xJ.out
    clear xJ
    replace H := ib_ H; rcases H with ⟨rfl, H⟩ | ⟨rfl, H⟩
    rotate_left
    ·have H' := am_ H
     clear H
     go_wp2
     go_meet
     case rel => exact ⟨_, (a0), er_, H', ⟨by have := HJ1.out; first | omega | exact Nat.le_refl _⟩, ⟨bl_⟩⟩
    by_cases c8 : 1 ≤ (a0.size : Int)
    rotate_left
    ·rw [if_neg c8] at H
     exact absurd H (by simp)
    rw [if_pos c8] at H
    have c8b0 := eq_true c8
    have c8b1 : decide (1 ≤ (a0.size : Int)) = true := decide_eq_true c8
    clear c8
    have H' := am_ H
    clear H
    go_wp2
    go_meet
    case rel => exact ⟨_, (a0.extract 1 a0.size), er_, H', ⟨by have := HJ1.out; first | omega | exact Nat.le_refl _⟩, ⟨bl_⟩⟩
   case rest =>
    clear xJ
    obtain ⟨kq, eP, rfl, HA, AW, HB⟩ := hcut
    cases kq with
    | zero => exact absurd HA.out (by simp [F83.j1])
    | succ Io =>
     have H := HA.out
     clear HA
     simp only [F83.j1] at H
     have Sl := am_ H
     clear H
     go_upto_region 5 with (fail)
     go_cut [27] (fun Z7 wc => ∃ (kq : Nat) (yt : Bool), Z7 = .bool yt ∧ Aside0 (F83.j2 kq a0 bq eP yt = some (r1, r2)) ∧ Aside0 (kq ≤ Io) ∧ Aside0 (Below w.heap.size w wc))
     case first =>
      have H := Sl.out
      clear Sl
      replace H := it_ H; rcases H with ⟨c10b0, H⟩ | ⟨c10b0, H⟩
      rotate_left
      ·have c10b1 : decide (eP.size < 1) = false := n2_ c10b0
       (first | rw [c10b0] | (simp only [i64_w, i32_w]; rw [c10b0]) | skip)
       have H' := am_ H
       clear H
       go_wp2
       go_meet
       case rel => exact ⟨_, (decide ((eP.size : Int) > 12)), er_, H', ⟨au7_28⟩, ⟨bl_⟩⟩
      have c10b1 : decide (eP.size < 1) = true := n2_ c10b0
      (first | rw [c10b0] | (simp only [i64_w, i32_w]; rw [c10b0]) | skip)
      have H' := am_ H
      clear H
      go_wp2
      go_meet
      case rel => exact ⟨_, (true), er_, H', ⟨au7_28⟩, ⟨bl_⟩⟩
     case rest =>
      clear Sl
      obtain ⟨kq, yt, rfl, HA, Wq, HB⟩ := hcut
      cases kq with
      | zero => exact absurd HA.out (by simp [F83.j2])
      | succ Wr =>
       have H := HA.out
       clear HA
       simp only [F83.j2] at H
       replace H := ib_ H; rcases H with ⟨rfl, H⟩ | ⟨rfl, H⟩
       ·simp only [Option.some.injEq, Prod.mk.injEq] at H
        obtain ⟨rfl, rfl⟩ := H
        go_wp2
        go_ret2
        exact ⟨ax11_, bl_⟩
       have H' := am_ H
       clear H
       go_wp2
       go_loopg [6, 7] Wr (fun kq v6 v7 w' => ∃ (vI : Int) (ee : Int), v6 = .int .i64 vI ∧ v7 = .int .i64 ee ∧ Aside0 (F83.l0 kq a0 bq eP vI ee = some (r1, r2)) ∧ Aside0 (kq ≤ Wr) ∧ Aside0 (Below w.heap.size w w'))
       case atStart => exact ⟨(0), (0), er_, er_, H', ⟨Nat.le_refl _⟩, ⟨bl_⟩⟩
       case round =>
        clear H'
        obtain ⟨vI, ee, rfl, rfl, HA, uR, HB⟩ := hrel
        cases gk with
        | zero => exact absurd HA.out (by simp [F83.l0])
        | succ k4 =>
         have H := HA.out
         clear HA
         simp only [F83.l0] at H
         replace H := it_ H; rcases H with ⟨c12b0, H⟩ | ⟨c12b0, H⟩
         rotate_left
         ·replace H := ib_ H; rcases H with ⟨rfl, H⟩ | ⟨rfl, H⟩
          ·replace H := bi_ H; rcases H with ⟨MH, If, H⟩
           simp only [Option.some.injEq, Prod.mk.injEq] at H
           obtain ⟨rfl, rfl⟩ := H
           go_wp2_with (first | ((with_reducible refine gate_callee (f := 26) rfl ?_); refine gl_ 57 Tryz.func26 #[.int .i64 (wrap64 (-vI))] ?_ rfl rfl rfl rfl; (with_reducible refine (F26.calls If.out).mono ?_); rintro e wA ⟨rfl, hb⟩; refine ⟨_, rfl, ?_⟩; replace HB := hs_ w hb; (try clear hb)))
           go_ret2
           exact ⟨ax11_, bl_⟩
          replace H := bi_ H; rcases H with ⟨MI, Ik, H⟩
          simp only [Option.some.injEq, Prod.mk.injEq] at H
          obtain ⟨rfl, rfl⟩ := H
          go_wp2_with (first | ((with_reducible refine gate_callee (f := 26) rfl ?_); refine gl_ 57 Tryz.func26 #[.int .i64 vI] ?_ rfl rfl rfl rfl; (with_reducible refine (F26.calls Ik.out).mono ?_); rintro e Ic ⟨rfl, hb⟩; refine ⟨_, rfl, ?_⟩; replace HB := hs_ w hb; (try clear hb)))
          go_ret2
          exact ⟨ax11_, bl_⟩
         replace H := itn_ H; rcases H with ⟨c13b0, H⟩
         replace H := it_ H; rcases H with ⟨c15b0, H⟩ | ⟨c15b0, H⟩
         ·simp only [Option.some.injEq, Prod.mk.injEq] at H
          obtain ⟨rfl, rfl⟩ := H
          have Eb : 0 ≤ (ee : Int) := od_
          have Ec : ee < (eP.size : Int) := od_
          have MJ := bt_at eP ee
          replace Eb := eq_true Eb
          replace Ec := eq_true Ec
          go_wp2
          go_ret2
          exact ⟨ax11_, bl_⟩
         replace H := it_ H; rcases H with ⟨(c17b0 : decide (57 < (bt eP ee)) = true), H⟩ | ⟨(c17b0 : decide (57 < (bt eP ee)) = false), H⟩
         ·simp only [Option.some.injEq, Prod.mk.injEq] at H
          obtain ⟨rfl, rfl⟩ := H
          have Eb : 0 ≤ (ee : Int) := od_
          have Ec : ee < (eP.size : Int) := od_
          have MJ := bt_at eP ee
          replace Eb := eq_true Eb
          replace Ec := eq_true Ec
          have MK : 0 ≤ (ee : Int) := od_
          have ML : ee < (eP.size : Int) := od_
          have Sm := bt_at eP ee
          replace MK := eq_true MK
          replace ML := eq_true ML
          go_wp2
          go_ret2
          exact ⟨ax11_, bl_⟩
         have H' := am_ H
         clear H
         have Eb : 0 ≤ (ee : Int) := od_
         have Ec : ee < (eP.size : Int) := od_
         have MJ := bt_at eP ee
         replace Eb := eq_true Eb
         replace Ec := eq_true Ec
         have MK : 0 ≤ (ee : Int) := od_
         have ML : ee < (eP.size : Int) := od_
         have Sm := bt_at eP ee
         replace MK := eq_true MK
         replace ML := eq_true ML
         have Ws : 0 ≤ (ee : Int) := od_
         have Wt : ee < (eP.size : Int) := od_
         have Z8 := bt_at eP ee
         replace Ws := eq_true Ws
         replace Wt := eq_true Wt
         go_wp2
         go_roundg k4
         case measure => have := HJ1.out; have := AW.out; have := Wq.out; have := uR.out; omega
         case rel => exact ⟨(wrap64 ((wrap64 (10 * vI)) + (((bt eP ee) - 48) % 256))), (wrap64 (ee + 1)), er_, er_, H', ⟨by have := HJ1.out; have := AW.out; have := Wq.out; have := uR.out; omega⟩, ⟨bl_⟩⟩
def F84.f (ae : ByteArray) (ac : List (S91)) (a1 : Int) (a2 : Int) : Option (ByteArray) := if a1 < 0 then (some (⟨#[]⟩ : ByteArray)) else (if a1 ≥ (ac.length : Int) then (some (⟨#[]⟩ : ByteArray)) else (if a2 < 0 then (some (⟨#[]⟩ : ByteArray)) else (if 0 ≤ a1 then (if a1 < (ac.length : Int) then (if a2 ≥ (((rd_T91 ac a1).f0).length : Int) then (some (⟨#[]⟩ : ByteArray)) else (if 0 ≤ a2 then (if a2 < (((rd_T91 ac a1).f0).length : Int) then (some (rdOf ByteArray.empty ((rd_T91 ac a1).f0) a2)) else (none)) else (none))) else (none)) else (none))))
theorem F84.calls {ae : ByteArray} {aJ : Option Addr} {aH : Nat} {ac : List (S91)} {a1 a2 : Int} {r : ByteArray} {w : World} (aY : Kd.C k91 w aJ ac.length ac) (aZ : ac.length ≤ aH) (h : F84.f ae ac a1 a2 = some r) :
  Calls Tryz.prog 84 #[.agg #[.string ae, .slice aJ ac.length aH], .int .i64 a1, .int .i64 a2] w fun e w' => e = .returned (.string r) ∧ Below w.heap.size w w' := by
 have dk := Tryz.underlying49
 have br := am_ aY
 have da := am_ aZ
 clear aY aZ
 have HB := am_ (Below.refl w.heap.size w)
 have H := h; unfold F84.f at H
 clear h
 replace H := it_ H; rcases H with ⟨c4b0, H⟩ | ⟨c4b0, H⟩
 ·obtain rfl := Option.some.inj H
  go_enter Tryz.func84, Tryz.ntmps84
  go_wp2_with (first | ((with_reducible refine gate_dst (N := 3) rfl ?_); (try (refine gate_guard (by rfl) ?_; dsimp only)); refine be_ 3 #[.string ae, .slice aJ ac.length aH] 49 ?_; intro se hg w5 hbox hb; have kr := am_ (hbox); have iQ := am_ (gw_ hg bl_); have sf := iQ; replace HB := hs_ w hb; clear hb hbox hg))
  go_ret
  exact ⟨ax11_, bl_⟩
 replace H := it_ H; rcases H with ⟨(c6b0 : decide ((ac.length : Int) ≤ a1) = true), H⟩ | ⟨(c6b0 : decide ((ac.length : Int) ≤ a1) = false), H⟩
 ·obtain rfl := Option.some.inj H
  go_enter Tryz.func84, Tryz.ntmps84
  go_wp2_with (first | ((with_reducible refine gate_dst (N := 3) rfl ?_); (try (refine gate_guard (by rfl) ?_; dsimp only)); refine be_ 3 #[.string ae, .slice aJ ac.length aH] 49 ?_; intro se hg w7 hbox hb; have kr := am_ (hbox); have iQ := am_ (gw_ hg bl_); have sf := iQ; replace HB := hs_ w hb; clear hb hbox hg; have jY := cellsF2 kr.out))
  go_ret
  exact ⟨ax11_, bl_⟩
 replace H := it_ H; rcases H with ⟨c9b0, H⟩ | ⟨c9b0, H⟩
 ·obtain rfl := Option.some.inj H
  go_enter Tryz.func84, Tryz.ntmps84
  go_wp2_with (first | ((with_reducible refine gate_dst (N := 3) rfl ?_); (try (refine gate_guard (by rfl) ?_; dsimp only)); refine be_ 3 #[.string ae, .slice aJ ac.length aH] 49 ?_; intro se hg Ie hbox hb; have kr := am_ (hbox); have iQ := am_ (gw_ hg bl_); have sf := iQ; replace HB := hs_ w hb; clear hb hbox hg; have mS := cellsF2 kr.out))
  go_ret
  exact ⟨ax11_, bl_⟩
 by_cases OV : 0 ≤ a1
 rotate_left
 ·rw [if_neg OV] at H
  exact absurd H (by simp)
 rw [if_pos OV] at H
 have c12b0 : decide (0 ≤ a1) = true := decide_eq_true OV
 clear OV
 replace H := itn_ H; rcases H with ⟨c13b0, H⟩
 replace H := it_ H; rcases H with ⟨(c14b0 : decide ((((rd_T91 ac a1).f0).length : Int) ≤ a2) = true), H⟩ | ⟨(c14b0 : decide ((((rd_T91 ac a1).f0).length : Int) ≤ a2) = false), H⟩
 ·obtain rfl := Option.some.inj H
  go_enter Tryz.func84, Tryz.ntmps84
  go_wp2_with (first | ((with_reducible refine gate_dst (N := 3) rfl ?_); (try (refine gate_guard (by rfl) ?_; dsimp only)); refine be_ 3 #[.string ae, .slice aJ ac.length aH] 49 ?_; intro se hg Wu hbox hb; have kr := am_ (hbox); have iQ := am_ (gw_ hg bl_); have sf := iQ; replace HB := hs_ w hb; clear hb hbox hg; have nf := cellsF2 kr.out; have pS : 0 ≤ (a1 : Int) := od_; have pT : a1 < (ac.length : Int) := od_; obtain ⟨Ed, GB, GC, GD, gn, iR, iS⟩ := at_T91 br.out a1 pS pT; cases GD; replace gn := pw_cell_below HB.out gn; have Bh := am_ iS; have Bi := am_ iR; clear iS iR; replace pS := eq_true pS; replace pT := eq_true pT))
  go_ret
  exact ⟨ax11_, bl_⟩
 replace H := itn_ H; rcases H with ⟨c17b0, H⟩
 replace H := itn_ H; rcases H with ⟨c18b0, H⟩
 obtain rfl := Option.some.inj H
 go_enter Tryz.func84, Tryz.ntmps84
 go_wp2_with (first | ((with_reducible refine gate_dst (N := 3) rfl ?_); (try (refine gate_guard (by rfl) ?_; dsimp only)); refine be_ 3 #[.string ae, .slice aJ ac.length aH] 49 ?_; intro se hg Rx hbox hb; have kr := am_ (hbox); have iQ := am_ (gw_ hg bl_); have sf := iQ; replace HB := hs_ w hb; clear hb hbox hg; have fv := cellsF2 kr.out; have pS : 0 ≤ (a1 : Int) := od_; have pT : a1 < (ac.length : Int) := od_; obtain ⟨Ed, GB, GC, GD, gn, iR, iS⟩ := at_T91 br.out a1 pS pT; cases GD; replace gn := pw_cell_below HB.out gn; have Bh := am_ iS; have Bi := am_ iR; clear iS iR; replace pS := eq_true pS; replace pT := eq_true pT; have GE : 0 ≤ (a1 : Int) := od_; have GF : a1 < (ac.length : Int) := od_; obtain ⟨MM, Sn, So, Sp, nt, sh, si⟩ := at_T91 br.out a1 GE GF; obtain rfl : Ed = MM := (by injection Sp); replace nt := pw_cell_below HB.out nt; have Bj := am_ si; have OW := am_ sh; clear si sh; replace GE := eq_true GE; replace GF := eq_true GF; have ea_ := Option.some.inj (gn.symm.trans nt); injection ea_ with ea_ en_ ec_; subst ea_; subst ec_; clear en_; have GG : 0 ≤ (a2 : Int) := od_; have GH : a2 < (((rd_T91 ac a1).f0).length : Int) := od_; obtain ⟨Wv, Sq, sj⟩ := Kd.at_string Bj.out a2 GG GH; cases Sq; replace sj := pw_cell_below HB.out sj; replace GG := eq_true GG; replace GH := eq_true GH))
 go_ret
 exact ⟨ax11_, bl_⟩
mutual
def F85.j0 : Nat → Bool → ByteArray → List (S91) → ByteArray → List (S91) → Option (Bool)
  | 0, _, _, _, _, _ => none
  | k + 1, E8, go, dy, gp, dz => if E8 = true then (some false) else (F85.l0 k 0 go dy gp dz)
def F85.l0 : Nat → Int → ByteArray → List (S91) → ByteArray → List (S91) → Option (Bool)
  | 0, _, _, _, _, _ => none
  | k + 1, x5, go, dy, gp, dz => if x5 < (dy.length : Int) then (if 0 ≤ x5 then (if x5 < (dz.length : Int) then (if (((rd_T91 dy x5).f0).length : Int) = (((rd_T91 dz x5).f0).length : Int) then (F85.l1 k x5 0 go dy gp dz) else (some false)) else (none)) else (none)) else (some true)
def F85.l1 : Nat → Int → Int → ByteArray → List (S91) → ByteArray → List (S91) → Option (Bool)
  | 0, _, _, _, _, _, _ => none
  | k + 1, x5, x6, go, dy, gp, dz => if 0 ≤ x5 then (if x5 < (dy.length : Int) then (if x6 < (((rd_T91 dy x5).f0).length : Int) then (if 0 ≤ x6 then (if x5 < (dz.length : Int) then (if x6 < (((rd_T91 dz x5).f0).length : Int) then (if (rdOf ByteArray.empty ((rd_T91 dy x5).f0) x6).toList = (rdOf ByteArray.empty ((rd_T91 dz x5).f0) x6).toList then (F85.l1 k x5 (wrap64 (x6 + 1)) go dy gp dz) else (some false)) else (none)) else (none)) else (none)) else (F85.l0 k (wrap64 (x5 + 1)) go dy gp dz)) else (none)) else (none)
end
def F85.f (k : Nat) (ae : ByteArray) (ac : List (S91)) (fp : ByteArray) (cH : List (S91)) : Option (Bool) := if ae.toList = fp.toList then (F85.j0 k ((ac.length : Int) != (cH.length : Int)) ae ac fp cH) else (F85.j0 k true ae ac fp cH)
theorem F85.calls {k : Nat} {ae : ByteArray} {aJ : Option Addr} {aH : Nat} {ac : List (S91)} {fp : ByteArray} {pU : Option Addr} {oe : Nat} {cH : List (S91)} {r : Bool} {w : World} (aY : Kd.C k91 w aJ ac.length ac) (aZ : ac.length ≤ aH) (Ee : Kd.C k91 w pU cH.length cH) (Ef : cH.length ≤ oe) (h : F85.f k ae ac fp cH = some r) :
  Calls Tryz.prog 85 #[.agg #[.string ae, .slice aJ ac.length aH], .agg #[.string fp, .slice pU cH.length oe]] w fun e w' => e = .returned (.bool r) ∧ Below w.heap.size w w' := by
 have dk := Tryz.underlying49
 have br := am_ aY
 have da := am_ aZ
 clear aY aZ
 have sk := am_ Ee
 have Ww := am_ Ef
 clear Ee Ef
 have HB := am_ (Below.refl w.heap.size w)
 have H := h; unfold F85.f at H
 clear h
 have FG := am_ H
 clear H
 go_enter Tryz.func85, Tryz.ntmps85
 go_upto_region 1 with (first | ((with_reducible refine gate_dst (N := 2) rfl ?_); (try (refine gate_guard (by rfl) ?_; dsimp only)); refine be_ 2 #[.string ae, .slice aJ ac.length aH] 49 ?_; intro og hg w4 hbox hb; have bG := am_ (hbox); have oh := am_ (gw_ hg bl_); have Eg := oh; replace HB := hs_ w hb; clear hb hbox hg) | ((with_reducible refine gate_dst (N := 3) rfl ?_); (try (refine gate_guard (by rfl) ?_; dsimp only)); refine be_ 3 #[.string fp, .slice pU cH.length oe] 49 ?_; intro ol hg w5 hbox hb; have dZ := am_ (hbox); have om := am_ (gw_ hg bl_); have Eh := om; replace HB := hs_ w hb; have cG := am_ (gn_ hg (blkl_ bG)); have mo := am_ (gm_ hg (blkl_ bG)); replace bG := bb_ bG hb; clear hb hbox hg))
 repeat (go_quiet (first | ((with_reducible refine gate_dst (N := 2) rfl ?_); (try (refine gate_guard (by rfl) ?_; dsimp only)); refine be_ 2 #[.string ae, .slice aJ ac.length aH] 49 ?_; intro og hg w4 hbox hb; have bG := am_ (hbox); have oh := am_ (gw_ hg bl_); have Eg := oh; replace HB := hs_ w hb; clear hb hbox hg) | ((with_reducible refine gate_dst (N := 3) rfl ?_); (try (refine gate_guard (by rfl) ?_; dsimp only)); refine be_ 3 #[.string fp, .slice pU cH.length oe] 49 ?_; intro ol hg w5 hbox hb; have dZ := am_ (hbox); have om := am_ (gw_ hg bl_); have Eh := om; replace HB := hs_ w hb; have cG := am_ (gn_ hg (blkl_ bG)); have mo := am_ (gm_ hg (blkl_ bG)); replace bG := bb_ bG hb; clear hb hbox hg)); go_upto_region 1 with (first | ((with_reducible refine gate_dst (N := 2) rfl ?_); (try (refine gate_guard (by rfl) ?_; dsimp only)); refine be_ 2 #[.string ae, .slice aJ ac.length aH] 49 ?_; intro og hg w4 hbox hb; have bG := am_ (hbox); have oh := am_ (gw_ hg bl_); have Eg := oh; replace HB := hs_ w hb; clear hb hbox hg) | ((with_reducible refine gate_dst (N := 3) rfl ?_); (try (refine gate_guard (by rfl) ?_; dsimp only)); refine be_ 3 #[.string fp, .slice pU cH.length oe] 49 ?_; intro ol hg w5 hbox hb; have dZ := am_ (hbox); have om := am_ (gw_ hg bl_); have Eh := om; replace HB := hs_ w hb; have cG := am_ (gn_ hg (blkl_ bG)); have mo := am_ (gm_ hg (blkl_ bG)); replace bG := bb_ bG hb; clear hb hbox hg)))
 (try simp only [Act.put, List.setIfInBounds_toArray, List.set_cons_zero, List.set_cons_succ])
 go_cut [20] (fun v20 wc => ∃ (kq : Nat) (yu : Bool), v20 = .bool yu ∧ Aside0 (F85.j0 kq yu ae ac fp cH = some r) ∧ Aside0 (kq ≤ k) ∧ Aside0 (wc.heap[og]? = some (.cells #[.string ae, (.slice aJ ac.length aH)] 49 (0, 0))) ∧ Aside0 (wc.heap[ol]? = some (.cells #[.string fp, (.slice pU cH.length oe)] 49 (0, 0))) ∧ Aside0 (Below w.heap.size w wc))
 case first =>
  have H := FG.out
  clear FG
  by_cases c6 : ae.toList = fp.toList
  rotate_left
  ·rw [if_neg c6] at H
   have c6b0 : (ae.toList == fp.toList) = false := beq_eq_false_iff_ne.mpr c6
   have c6b1 : (ae.toList != fp.toList) = true := bne_iff_ne.mpr c6
   (first | rw [c6b0] | (simp only [i64_w, i32_w]; rw [c6b0]) | skip)
   have H' := am_ H
   clear H
   obtain ⟨Wx, Wy⟩ := nn_ cG
   have mS := cellsF2 bG.out
   have ei := cellsF2 dZ.out
   go_wp2
   repeat (go_quiet (fail); try go_wp2)
   go_meet
   case rel => exact ⟨_, (true), er_, H', ⟨ax10_⟩, ⟨bk_ bG⟩, ⟨bk_ dZ⟩, ⟨bl_⟩⟩
  rw [if_pos c6] at H
  have c6b0 : (ae.toList == fp.toList) = true := beq_iff_eq.mpr c6
  have c6b1 : (ae.toList != fp.toList) = false := bne_eq_false_iff_eq.mpr c6
  clear c6
  (first | rw [c6b0] | (simp only [i64_w, i32_w]; rw [c6b0]) | skip)
  have H' := am_ H
  clear H
  obtain ⟨JF, JG⟩ := nn_ cG
  have jY := cellsF2 bG.out
  have jS := cellsF2 dZ.out
  go_wp2
  repeat (go_quiet (fail); try go_wp2)
  go_meet
  case rel => exact ⟨_, (((ac.length : Int) != (cH.length : Int))), er_, H', ⟨ax10_⟩, ⟨bk_ bG⟩, ⟨bk_ dZ⟩, ⟨bl_⟩⟩
 case rest =>
  clear FG
  obtain ⟨kq, yu, rfl, HA, Ly, bG, dZ, HB⟩ := hcut
  cases kq with
  | zero => exact absurd HA.out (by simp [F85.j0])
  | succ Rn =>
   have H := HA.out
   clear HA
   simp only [F85.j0] at H
   replace H := ib_ H; rcases H with ⟨rfl, H⟩ | ⟨rfl, H⟩
   ·obtain rfl := Option.some.inj H
    go_wp2
    repeat (go_quiet (fail); try go_wp2)
    go_ret
    exact ⟨ax11_, bl_⟩
   have H' := am_ H
   clear H
   go_wp2
   repeat (go_quiet (fail); try go_wp2)
   go_loopg [5] Rn (fun kq v5 w' => ∃ (aV : Int), v5 = .int .i64 aV ∧ Aside0 (F85.l0 kq aV ae ac fp cH = some r) ∧ Aside0 (kq ≤ Rn) ∧ Aside0 (w'.heap[og]? = some (.cells #[.string ae, (.slice aJ ac.length aH)] 49 (0, 0))) ∧ Aside0 (w'.heap[ol]? = some (.cells #[.string fp, (.slice pU cH.length oe)] 49 (0, 0))) ∧ Aside0 (Below w.heap.size w w'))
   case atStart => exact ⟨(0), er_, H', ⟨Nat.le_refl _⟩, ⟨bk_ bG⟩, ⟨bk_ dZ⟩, ⟨bl_⟩⟩
   case round =>
    clear H'
    obtain ⟨aV, rfl, HA, HK2, bG, dZ, HB⟩ := hrel
    cases gk with
    | zero => exact absurd HA.out (by simp [F85.l0])
    | succ k2 =>
     have H := HA.out
     clear HA
     simp only [F85.l0] at H
     replace H := it_ H; rcases H with ⟨c14b0, H⟩ | ⟨c14b0, H⟩
     rotate_left
     ·obtain rfl := Option.some.inj H
      obtain ⟨MN, MO⟩ := nn_ cG
      have Bk := cellsF2 bG.out
      go_wp2
      repeat (go_quiet (fail); try go_wp2)
      go_ret
      exact ⟨ax11_, bl_⟩
     replace H := itn_ H; rcases H with ⟨c15b0, H⟩
     replace H := itn_ H; rcases H with ⟨c16b0, H⟩
     by_cases j5 : (((rd_T91 ac aV).f0).length : Int) = (((rd_T91 cH aV).f0).length : Int)
     rotate_left
     ·rw [if_neg j5] at H
      have c17b0 : ((((rd_T91 ac aV).f0).length : Int) == (((rd_T91 cH aV).f0).length : Int)) = false := beq_eq_false_iff_ne.mpr j5
      have c17b1 : ((((rd_T91 ac aV).f0).length : Int) != (((rd_T91 cH aV).f0).length : Int)) = true := bne_iff_ne.mpr j5
      have c17b2 : (((rd_T91 ac aV).f0).length == ((rd_T91 cH aV).f0).length) = false := by first | simpa using j5 | (simp at j5 ⊢; omega)
      obtain rfl := Option.some.inj H
      obtain ⟨MP, MQ⟩ := nn_ cG
      have sl := cellsF2 bG.out
      have oo : 0 ≤ (aV : Int) := od_
      have oq : aV < (ac.length : Int) := od_
      obtain ⟨lA, GI, GJ, GK, gq, iT, iU⟩ := at_T91 br.out aV oo oq
      cases GK
      replace gq := pw_cell_below HB.out gq
      have Bl := am_ iU
      have Bm := am_ iT
      clear iU iT
      replace oo := eq_true oo
      replace oq := eq_true oq
      have rG := cellsF2 dZ.out
      have ot : 0 ≤ (aV : Int) := od_
      have ou : aV < (cH.length : Int) := od_
      obtain ⟨sm, GL, GM, GN, gu, iV, iW⟩ := at_T91 sk.out aV ot ou
      cases GN
      replace gu := pw_cell_below HB.out gu
      have Bn := am_ iW
      have Bo := am_ iV
      clear iW iV
      replace ot := eq_true ot
      replace ou := eq_true ou
      go_wp2
      repeat (go_quiet (fail); try go_wp2)
      go_ret
      exact ⟨ax11_, bl_⟩
     rw [if_pos j5] at H
     have c17b0 : ((((rd_T91 ac aV).f0).length : Int) == (((rd_T91 cH aV).f0).length : Int)) = true := beq_iff_eq.mpr j5
     have c17b1 : ((((rd_T91 ac aV).f0).length : Int) != (((rd_T91 cH aV).f0).length : Int)) = false := bne_eq_false_iff_eq.mpr j5
     have c17b2 : (((rd_T91 ac aV).f0).length == ((rd_T91 cH aV).f0).length) = true := by first | simpa using j5 | (simp at j5 ⊢; omega)
     clear j5
     have H' := am_ H
     clear H
     obtain ⟨Dp, Dq⟩ := nn_ cG
     have io := cellsF2 bG.out
     have oo : 0 ≤ (aV : Int) := od_
     have oq : aV < (ac.length : Int) := od_
     obtain ⟨lA, GI, GJ, GK, gq, iT, iU⟩ := at_T91 br.out aV oo oq
     cases GK
     replace gq := pw_cell_below HB.out gq
     have Bl := am_ iU
     have Bm := am_ iT
     clear iU iT
     replace oo := eq_true oo
     replace oq := eq_true oq
     have fv := cellsF2 dZ.out
     have ot : 0 ≤ (aV : Int) := od_
     have ou : aV < (cH.length : Int) := od_
     obtain ⟨sm, GL, GM, GN, gu, iV, iW⟩ := at_T91 sk.out aV ot ou
     cases GN
     replace gu := pw_cell_below HB.out gu
     have Bn := am_ iW
     have Bo := am_ iV
     clear iW iV
     replace ot := eq_true ot
     replace ou := eq_true ou
     go_wp2
     repeat (go_quiet (fail); try go_wp2)
     go_loopg [6] k2 (fun kq v6 w' => ∃ (d4 : Int), v6 = .int .i64 d4 ∧ Aside0 (F85.l1 kq aV d4 ae ac fp cH = some r) ∧ Aside0 (kq ≤ k2) ∧ Aside0 (w'.heap[og]? = some (.cells #[.string ae, (.slice (some lA) ac.length aH)] 49 (0, 0))) ∧ Aside0 (w'.heap[ol]? = some (.cells #[.string fp, (.slice (some sm) cH.length oe)] 49 (0, 0))) ∧ Aside0 (Below w.heap.size w w'))
     case atStart => exact ⟨(0), er_, H', ⟨Nat.le_refl _⟩, ⟨bk_ bG⟩, ⟨bk_ dZ⟩, ⟨bl_⟩⟩
     case round =>
      clear H'
      try clear c14b0
      try clear c15b0
      try clear c16b0
      try clear c17b0
      try clear c17b1
      try clear c17b2
      try clear io
      try clear fv
      try clear gq
      try clear gu
      try clear oo
      try clear ot
      try clear oq
      try clear ou
      obtain ⟨d4, rfl, HA, FD, bG, dZ, HB⟩ := hrel
      cases gk with
      | zero => exact absurd HA.out (by simp [F85.l1])
      | succ k3 =>
       have H := HA.out
       clear HA
       simp only [F85.l1] at H
       replace H := itn_ H; rcases H with ⟨c21b0, H⟩
       replace H := itn_ H; rcases H with ⟨c22b0, H⟩
       replace H := it_ H; rcases H with ⟨c23b0, H⟩ | ⟨c23b0, H⟩
       rotate_left
       ·have H' := am_ H
        clear H
        obtain ⟨MR, MS⟩ := nn_ cG
        have mu := cellsF2 bG.out
        have lB : 0 ≤ (aV : Int) := od_
        have lC : aV < (ac.length : Int) := od_
        obtain ⟨ov, yv, yw, yx, dR, ff, fg⟩ := at_T91 br.out aV lB lC
        obtain rfl : lA = ov := (by injection yx)
        replace dR := pw_cell_below HB.out dR
        have sn := am_ fg
        have sq := am_ ff
        clear fg ff
        replace lB := eq_true lB
        replace lC := eq_true lC
        go_wp2
        repeat (go_quiet (fail); try go_wp2)
        go_roundg k3
        case measure => have := Ly.out; have := HK2.out; have := FD.out; omega
        case rel => exact ⟨(wrap64 (aV + 1)), er_, H', ⟨by have := Ly.out; have := HK2.out; have := FD.out; omega⟩, ⟨bk_ bG⟩, ⟨bk_ dZ⟩, ⟨bl_⟩⟩
       replace H := itn_ H; rcases H with ⟨c24b0, H⟩
       replace H := itn_ H; rcases H with ⟨c25b0, H⟩
       replace H := itn_ H; rcases H with ⟨c26b0, H⟩
       by_cases vU : (rdOf ByteArray.empty ((rd_T91 ac aV).f0) d4).toList = (rdOf ByteArray.empty ((rd_T91 cH aV).f0) d4).toList
       rotate_left
       ·rw [if_neg vU] at H
        have c27b0 : ((rdOf ByteArray.empty ((rd_T91 ac aV).f0) d4).toList == (rdOf ByteArray.empty ((rd_T91 cH aV).f0) d4).toList) = false := beq_eq_false_iff_ne.mpr vU
        have c27b1 : ((rdOf ByteArray.empty ((rd_T91 ac aV).f0) d4).toList != (rdOf ByteArray.empty ((rd_T91 cH aV).f0) d4).toList) = true := bne_iff_ne.mpr vU
        obtain rfl := Option.some.inj H
        obtain ⟨Da, Db⟩ := nn_ cG
        have qF := cellsF2 bG.out
        have lB : 0 ≤ (aV : Int) := od_
        have lC : aV < (ac.length : Int) := od_
        obtain ⟨ov, yv, yw, yx, dR, ff, fg⟩ := at_T91 br.out aV lB lC
        obtain rfl : lA = ov := (by injection yx)
        replace dR := pw_cell_below HB.out dR
        have sn := am_ fg
        have sq := am_ ff
        clear fg ff
        replace lB := eq_true lB
        replace lC := eq_true lC
        have pV : 0 ≤ (aV : Int) := od_
        have pW : aV < (ac.length : Int) := od_
        obtain ⟨yy, GO, GP, GQ, fC, iX, iY⟩ := at_T91 br.out aV pV pW
        obtain rfl : lA = yy := (by injection GQ)
        replace fC := pw_cell_below HB.out fC
        have nu := am_ iY
        have Bp := am_ iX
        clear iY iX
        replace pV := eq_true pV
        replace pW := eq_true pW
        have ea_ := Option.some.inj (dR.symm.trans fC)
        injection ea_ with ea_ en_ ec_
        subst ea_
        subst ec_
        clear en_
        have pX : 0 ≤ (d4 : Int) := od_
        have pY : d4 < (((rd_T91 ac aV).f0).length : Int) := od_
        obtain ⟨MT, GR, iZ⟩ := Kd.at_string nu.out d4 pX pY
        cases GR
        replace iZ := pw_cell_below HB.out iZ
        replace pX := eq_true pX
        replace pY := eq_true pY
        have OX := cellsF2 dZ.out
        have pZ : 0 ≤ (aV : Int) := od_
        have qa : aV < (cH.length : Int) := od_
        obtain ⟨yz, GS, GT, GU, i6, i7, i8⟩ := at_T91 sk.out aV pZ qa
        obtain rfl : sm = yz := (by injection GU)
        replace i6 := pw_cell_below HB.out i6
        have nv := am_ i8
        have Bq := am_ i7
        clear i8 i7
        replace pZ := eq_true pZ
        replace qa := eq_true qa
        have qb : 0 ≤ (d4 : Int) := od_
        have qc : d4 < (((rd_T91 cH aV).f0).length : Int) := od_
        obtain ⟨MU, GV, ja⟩ := Kd.at_string nv.out d4 qb qc
        cases GV
        replace ja := pw_cell_below HB.out ja
        replace qb := eq_true qb
        replace qc := eq_true qc
        go_wp2
        repeat (go_quiet (fail); try go_wp2)
        go_ret
        exact ⟨ax11_, bl_⟩
       rw [if_pos vU] at H
       have c27b0 : ((rdOf ByteArray.empty ((rd_T91 ac aV).f0) d4).toList == (rdOf ByteArray.empty ((rd_T91 cH aV).f0) d4).toList) = true := beq_iff_eq.mpr vU
       have c27b1 : ((rdOf ByteArray.empty ((rd_T91 ac aV).f0) d4).toList != (rdOf ByteArray.empty ((rd_T91 cH aV).f0) d4).toList) = false := bne_eq_false_iff_eq.mpr vU
       clear vU
       have H' := am_ H
       clear H
       obtain ⟨nG, nH⟩ := nn_ cG
       have kz := cellsF2 bG.out
       have lB : 0 ≤ (aV : Int) := od_
       have lC : aV < (ac.length : Int) := od_
       obtain ⟨ov, yv, yw, yx, dR, ff, fg⟩ := at_T91 br.out aV lB lC
       obtain rfl : lA = ov := (by injection yx)
       replace dR := pw_cell_below HB.out dR
       have sn := am_ fg
       have sq := am_ ff
       clear fg ff
       replace lB := eq_true lB
       replace lC := eq_true lC
       have pV : 0 ≤ (aV : Int) := od_
       have pW : aV < (ac.length : Int) := od_
       obtain ⟨yy, GO, GP, GQ, fC, iX, iY⟩ := at_T91 br.out aV pV pW
       obtain rfl : lA = yy := (by injection GQ)
       replace fC := pw_cell_below HB.out fC
       have nu := am_ iY
       have Bp := am_ iX
       clear iY iX
       replace pV := eq_true pV
       replace pW := eq_true pW
       have ea_ := Option.some.inj (dR.symm.trans fC)
       injection ea_ with ea_ en_ ec_
       subst ea_
       subst ec_
       clear en_
       have pX : 0 ≤ (d4 : Int) := od_
       have pY : d4 < (((rd_T91 ac aV).f0).length : Int) := od_
       obtain ⟨MT, GR, iZ⟩ := Kd.at_string nu.out d4 pX pY
       cases GR
       replace iZ := pw_cell_below HB.out iZ
       replace pX := eq_true pX
       replace pY := eq_true pY
       have kA := cellsF2 dZ.out
       have pZ : 0 ≤ (aV : Int) := od_
       have qa : aV < (cH.length : Int) := od_
       obtain ⟨yz, GS, GT, GU, i6, i7, i8⟩ := at_T91 sk.out aV pZ qa
       obtain rfl : sm = yz := (by injection GU)
       replace i6 := pw_cell_below HB.out i6
       have nv := am_ i8
       have Bq := am_ i7
       clear i8 i7
       replace pZ := eq_true pZ
       replace qa := eq_true qa
       have qb : 0 ≤ (d4 : Int) := od_
       have qc : d4 < (((rd_T91 cH aV).f0).length : Int) := od_
       obtain ⟨MU, GV, ja⟩ := Kd.at_string nv.out d4 qb qc
       cases GV
       replace ja := pw_cell_below HB.out ja
       replace qb := eq_true qb
       replace qc := eq_true qc
       go_wp2
       repeat (go_quiet (fail); try go_wp2)
       go_roundg k3
       case measure => have := Ly.out; have := HK2.out; have := FD.out; omega
       case rel => exact ⟨(wrap64 (d4 + 1)), er_, H', ⟨by have := Ly.out; have := HK2.out; have := FD.out; omega⟩, ⟨bk_ bG⟩, ⟨bk_ dZ⟩, ⟨bl_⟩⟩
end Go.Proofs.YtlghcbmkhdibdaaGreatDoor.PFnEnvelopes
