-- printed by a program of this session (wip/xp/xprint.py) out of the translation; Lean checks it
import Derived.Test.YtlghcbmkhdibdaaGreatDoorPFnEnvelopesx0
import Derived.Test.YtlghcbmkhdibdaaGreatDoorPFnEnvelopesx2
import Derived.Test.YtlghcbmkhdibdaaGreatDoorPFnEnvelopesx5
import Derived.Test.YtlghcbmkhdibdaaGreatDoorPFnEnvelopesx6
import Derived.Test.YtlghcbmkhdibdaaGreatDoorPFnEnvelopesx7
import Derived.Test.YtlghcbmkhdibdaaGreatDoorPFnEnvelopesx8
namespace Go.Proofs.YtlghcbmkhdibdaaGreatDoor.PFnEnvelopes
open Go.RowKit Go.Proofs.YtlghcbmkhdibdaaGreatDoorW.PrintWords Go.Proofs.YtlghcbmkhdibdaaGreatDoorW.PrintLast Go.Proofs.YtlghcbmkhdibdaaGreatDoorW.PrintMore
attribute [local go_sem] max2_int min2_int max_two min_two max_three min_three max_four min_four   -- for this text's walks alone
set_option linter.unusedVariables false
set_option linter.unusedSimpArgs false
set_option maxHeartbeats 8000000
set_option maxRecDepth 100000
theorem au9_1 {p : Prop} (h : p := by repeat (first | (with_reducible first | exact ba.out | apply IsS80.alloc | apply IsS80.drewN | apply IsS80.drew | apply IsS80.set_1 | apply IsS80.set_6 | refine IsS80.far ?_ uj.out _ | refine IsS80.far ?_ uk.out _) | exact ba.out)) : p := h
theorem au9_12 {p : Prop} (h : p := by repeat (first | (with_reducible first | exact HK.out | apply KeepBut.set_ | apply keep_drewN | apply keep_drew | apply keep_alloc | refine keep_far ?_ qw.out _) | exact HK.out)) : p := h
theorem au9_32 {p : Prop} (h : p := by repeat (first | (with_reducible first | exact HB.out | apply below_alloc | apply pw_below_drewN | apply below_drew1 | refine below_set ?_ (IsS80.ge ba.out) | refine below_set ?_ qv.out) | exact HB.out)) : p := h
theorem au9_35 {p : Prop} (h : p := by exact (rx_ X : RX w _ g2 g3 g4 l0 a h1 h2 h3 h5 h6 _ L 0).2.2.2.2.1) : p := h
theorem au9_38 {p : Prop} (h : p := by exact (rx_ X : RX w _ g2 g3 g4 l0 a h1 h2 h3 h5 h6 _ L 0).2.2.1) : p := h
theorem au9_47 {p : Prop} (h : p := by (with_reducible repeat (first | apply Kd.S_alloc | apply Kd.S_drewN | apply Kd.S_drew)); exact f9.out) : p := h
theorem au9_51 {p : Prop} (h : p := by exact (rx_ X : RX w _ g2 g3 g4 l0 n2 h1 h2 h3 h5 h6 _ L n3).2.2.2.2.1) : p := h
theorem tg9_0 {p : Prop} (h : p := by repeat' with_reducible first | exact ef _ _ _ _ _ _ _ _ _ _ _ | exact kW _ _ _ _ _ _ _ _ _ _ | exact ro _ _ _ _ _ _ _ _ _ _ _ | exact F86.mono _ _ _ _ | exact F50.mono _ _ _ _ _ _ _ _ _ _ _ | exact F87.mono _ _ _ _ _ _ _ _ | exact LeO.refl _ | exact LeO.none _ | refine LeO.ite ?_ ?_ | refine LeO.bind ?_ (fun _ => ?_)) : p := h
mutual
def F49.j0 : Nat → List Int → Bool → List (S49) → Int → Value → Value → Value → Value → Int → Int → Int → Option (Int × Int × (List (S56)) × Bool × Int × Int)
  | 0, _, _, _, _, _, _, _, _, _, _, _ => none
  | k + 1, x5, Te, bE, bw, cy, cz, cA, cB, cf, ev, dS => if Te = true then (some (ev, dS, ([] : List (S56)), false, bw, cf)) else (if 0 < (x5.length : Int) then (if 1 < (x5.length : Int) then (F49.l0 k bE (wrap64 (bw + 1)) cy cz cA cB cf (rd x5 0) (rd x5 1) ([] : List (S56))) else (none)) else (none))
def F49.l0 : Nat → List (S49) → Int → Value → Value → Value → Value → Int → Int → Int → List (S56) → Option (Int × Int × (List (S56)) × Bool × Int × Int)
  | 0, _, _, _, _, _, _, _, _, _, _ => none
  | k + 1, bE, bw, cy, cz, cA, cB, cf, ev, dS, dC => if (dC.length : Int) = 0 then (F49.j2 k true bE bw cy cz cA cB cf ev dS dC) else ((F47.f bE bw cy cz cA cB cf).bind fun Hx => (F49.j2 k (Hx.toList == ([77, 83, 72] : List UInt8)) bE bw cy cz cA cB cf ev dS dC))
def F49.j2 : Nat → Bool → List (S49) → Int → Value → Value → Value → Value → Int → Int → Int → List (S56) → Option (Int × Int × (List (S56)) × Bool × Int × Int)
  | 0, _, _, _, _, _, _, _, _, _, _, _ => none
  | k + 1, x78, bE, bw, cy, cz, cA, cB, cf, ev, dS, dC => if x78 = true then ((F48.f bE bw cy cz cA cB cf (decide ((dC.length : Int) < 10)) 3).bind fun oA => (if oA.1 = true then ((F87.f k bE oA.2.1 cy cz cA cB oA.2.2).bind fun lP => (if lP.2.2.1 = true then (if dC.length < 4398046511104 then (F49.l0 k bE lP.2.2.2.1 cy cz cA cB lP.2.2.2.2 ev dS (dC ++ [(⟨lP.1, lP.2.1⟩ : S56)])) else (none)) else (some (ev, dS, dC, false, lP.2.2.2.1, lP.2.2.2.2)))) else (some (ev, dS, dC, false, oA.2.1, oA.2.2)))) else ((F50.f k bE bw cy cz cA cB cf (⟨#[71, 82, 84]⟩ : ByteArray) (dC.length : Int) dS).bind fun zi => (some (ev, dS, dC, zi.1, zi.2.1, zi.2.2)))
end
def F49.f (k : Nat) (ak : List (S49)) (bh : Int) (ay : Value) (az : Value) (aA : Value) (aC : Value) (bB : Int) : Option (Int × Int × (List (S56)) × Bool × Int × Int) := (F47.f ak bh ay az aA aC bB).bind fun NA => ((F48.f ak bh ay az aA aC bB (NA.toList == ([71, 82, 72] : List UInt8)) 3).bind fun eT => (if eT.1 = true then (if 0 ≤ eT.2.1 then (if eT.2.1 < (ak.length : Int) then ((F86.f k ((rd_T49 ak eT.2.1).f0) ((rd_T49 ak eT.2.1).f1) 2).bind fun gF => (if gF.2 = true then (if 0 < (gF.1.length : Int) then (if (rd gF.1 0) ≥ 1 then (if (rd gF.1 0) ≤ 7 then (if 1 < (gF.1.length : Int) then ((F40.f (rd gF.1 1)).bind fun NC => ((F48.f ak eT.2.1 ay az aA aC eT.2.2 NC 3).bind fun zj => (F49.j0 k gF.1 (!zj.1) ak zj.2.1 ay az aA aC zj.2.2 0 0))) else (none)) else ((F48.f ak eT.2.1 ay az aA aC eT.2.2 false 3).bind fun zk => (F49.j0 k gF.1 (!zk.1) ak zk.2.1 ay az aA aC zk.2.2 0 0))) else ((F48.f ak eT.2.1 ay az aA aC eT.2.2 false 3).bind fun zl => (F49.j0 k gF.1 (!zl.1) ak zl.2.1 ay az aA aC zl.2.2 0 0))) else (none)) else ((F48.f ak eT.2.1 ay az aA aC eT.2.2 false 3).bind fun zm => (F49.j0 k gF.1 (!zm.1) ak zm.2.1 ay az aA aC zm.2.2 0 0)))) else (none)) else (none)) else (some (0, 0, ([] : List (S56)), false, eT.2.1, eT.2.2))))
theorem F49.mono_l : ∀ k, (∀ y0 y1 y2 y3 y4 y5 y6 y7 y8 y9 Hy, LeO (F49.j0 k y0 y1 y2 y3 y4 y5 y6 y7 y8 y9 Hy) (F49.j0 (k + 1) y0 y1 y2 y3 y4 y5 y6 y7 y8 y9 Hy)) ∧ (∀ y0 y1 y2 y3 y4 y5 y6 y7 y8 y9, LeO (F49.l0 k y0 y1 y2 y3 y4 y5 y6 y7 y8 y9) (F49.l0 (k + 1) y0 y1 y2 y3 y4 y5 y6 y7 y8 y9)) ∧ (∀ y0 y1 y2 y3 y4 y5 y6 y7 y8 y9 Hy, LeO (F49.j2 k y0 y1 y2 y3 y4 y5 y6 y7 y8 y9 Hy) (F49.j2 (k + 1) y0 y1 y2 y3 y4 y5 y6 y7 y8 y9 Hy))
 | 0 => ⟨fun _ _ _ _ _ _ _ _ _ _ _ r h => by simp [F49.j0] at h, fun _ _ _ _ _ _ _ _ _ _ r h => by simp [F49.l0] at h, fun _ _ _ _ _ _ _ _ _ _ _ r h => by simp [F49.j2] at h⟩
 | k + 1 => by
  obtain ⟨ef, kW, ro⟩ := F49.mono_l k
  refine ⟨?_, ?_, ?_⟩
  rotate_left
  ·intro y0 y1 y2 y3 y4 y5 y6 y7 y8 y9
   unfold F49.l0
   exact tg9_0
  ·intro y0 y1 y2 y3 y4 y5 y6 y7 y8 y9 Hy
   unfold F49.j2
   exact tg9_0
  intro y0 y1 y2 y3 y4 y5 y6 y7 y8 y9 Hy
  unfold F49.j0
  exact tg9_0
theorem F49.mono : ∀ a0 a1 a2 a3 a4 a5 a6 k, LeO (F49.f k a0 a1 a2 a3 a4 a5 a6) (F49.f (k + 1) a0 a1 a2 a3 a4 a5 a6) := by
 intro a0 a1 a2 a3 a4 a5 a6 k
 obtain ⟨ef, kW, ro⟩ := F49.mono_l k
 unfold F49.f
 exact tg9_0
def F49.T4 : Bool × List (List Nat × List Nat) := (true, [([], []), ([0], [0]), ([1], [1]), ([2], [2]), ([], []), ([4], [4]), ([5], [5]), ([6], [6]), ([3, 7], [3, 7]), ([8], [8]), ([9], [9]), ([10], [10]), ([11], [11]), ([11], [11]), ([12, 10, 0, 1, 2, 3, 4, 5, 6, 7, 8, 9, 10, 11, 12], [12]), ([13, 14, 0, 1, 2, 3, 4, 5, 6, 7, 8, 9, 10, 11, 12, 13, 14], [13])])
def F49.B4 : List Nat := [0, 1, 3, 7, 0, 16, 48, 112, 255, 511, 1023, 2047, 4095, 4095, 8191, 32767]
theorem F49.tab4 : rtab .any (opsOf Tryz.f49 4) = F49.T4 := by kernel_rfl
theorem F49.bits4 : waitsOk F49.T4.2 F49.B4 = true := by kernel_rfl
def F49.T17 : Bool × List (List Nat × List Nat) := (true, [([], []), ([], []), ([], []), ([2], [2]), ([3], [3]), ([], []), ([5], [5]), ([1, 4, 6], [1, 4, 6]), ([0, 7, 0], [0]), ([7, 8, 0, 1, 2, 3, 4, 5, 6, 7, 8], [7])])
def F49.B17 : List Nat := [0, 0, 0, 4, 12, 0, 32, 126, 255, 511]
theorem F49.tab17 : rtab .any (opsOf Tryz.f49 17) = F49.T17 := by kernel_rfl
theorem F49.bits17 : waitsOk F49.T17.2 F49.B17 = true := by kernel_rfl
theorem F49.calls {k g : Nat} {ak : List (S49)} {bh : Int} {ay az aA aC : Value} {bB r1 r2 : Int} {r3 : List (S56)} {r4 : Bool} {r5 r6 : Int} (w0 : World) {w : World} (hI : IsS80 w0 w g ak bh ay az aA aC bB) (hB : Below w0.heap.size w0 w) (h : F49.f k ak bh ay az aA aC bB = some (r1, r2, r3, r4, r5, r6)) :
  Calls Tryz.prog 49 #[.pointer (some ⟨g, 0, none⟩)] w fun e w' => ∃ Xg : Value, e = .returned (.tuple #[.agg #[.int .i64 r1, .int .i64 r2, Xg], .bool r4]) ∧ Kd.S k56 56 w' w.heap.size (fun _ => True) Xg r3 ∧ IsS80 w0 w' g ak r5 ay az aA aC r6 ∧ Below w0.heap.size w0 w' ∧ KeepBut w w' g none := by
 have mD := Tryz.underlying53
 have dk := Tryz.underlying49
 have mB := Tryz.underlying56
 have ba := am_ hI
 have HK := am_ (KeepBut.refl w g none)
 have HL := am_ hB.size
 clear hI
 have oF := am_ hB.size
 have HB := am_ hB
 clear hB
 have H := h; unfold F49.f at H
 clear h
 replace H := bi_ H; rcases H with ⟨NA, A2, H⟩
 replace H := bi_ H; rcases H with ⟨⟨a0P, ky, NE⟩, A3, H⟩
 replace H := ib_ H; rcases H with ⟨rfl, H⟩ | ⟨rfl, H⟩
 rotate_left
 ·simp only [Option.some.injEq, Prod.mk.injEq] at H
  obtain ⟨rfl, rfl, rfl, rfl, rfl, rfl⟩ := H
  go_enter Tryz.func49, Tryz.ntmps49
  go_wp2_with (first | ((with_reducible refine gate_dst (N := 2) rfl ?_); refine be_ 2 #[.int .i64 0, .int .i64 0, .slice none 0 0] 53 ?_; intro bo hg a0Q hbox hb; replace HB := am_ (below_step ax27_ hb); have ap := am_ (hbox); have qw := am_ ((by rw [hg]; exact (keep_size (w := w) (g := g) (row := none) ax42_) : w.heap.size ≤ bo)); have qv := am_ ((Nat.le_trans oF.out (by rw [hg]; exact (keep_size (w := w) (g := g) (row := none) ax42_) : w.heap.size ≤ bo) : w0.heap.size ≤ bo)); replace HK := am_ (KeepBut.trans ax42_ (KeepBut.of_below hb g none) (.inl rfl)); have uj := am_ (gn_ hg (IsS80.lt (ax31_ : IsS80 w0 _ g ak bh ay az aA aC bB))); have bW := am_ (gm_ hg (IsS80.lt (ax31_ : IsS80 w0 _ g ak bh ay az aA aC bB))); replace ba := am_ (IsS80.below ax31_ hb); clear hb hbox hg) | ((with_reducible refine gate_dst (N := 4) rfl ?_); refine be_ 4 #[.int .i64 0, .int .i64 0, .slice none 0 0] 53 ?_; intro dD hg a0R hbox hb; replace HB := am_ (below_step au9_32 hb); have av := am_ (hbox); have vZ := am_ ((by rw [hg]; exact (keep_size (w := w) (g := g) (row := none) au9_12) : w.heap.size ≤ dD)); have vX := am_ ((Nat.le_trans oF.out (by rw [hg]; exact (keep_size (w := w) (g := g) (row := none) au9_12) : w.heap.size ≤ dD) : w0.heap.size ≤ dD)); replace HK := am_ (KeepBut.trans au9_12 (KeepBut.of_below hb g none) (.inl rfl)); have vL := am_ (gn_ hg (blkl_ ap)); have aQ := am_ (gm_ hg (blkl_ ap)); replace ap := bb_ ap hb; have uk := am_ (gn_ hg (IsS80.lt (ax31_ : IsS80 w0 _ g ak bh ay az aA aC bB))); have bl := am_ (gm_ hg (IsS80.lt (ax31_ : IsS80 w0 _ g ak bh ay az aA aC bB))); replace ba := am_ (IsS80.below ax31_ hb); clear hb hbox hg; obtain ⟨TQ, TR⟩ := nn_ aQ; obtain ⟨TS, TT⟩ := nn_ bl; have NF := cellsF3 av.out) | (go_at_call 47; (with_reducible refine (F47.calls w0 ?s1 ?s2 A2.out).mono ?_); (case s1 => exact au9_1); (case s2 => exact ax26_); rintro e w' ⟨rfl, ⟨nd, rfl⟩⟩; (try clear A2)) | (go_at_call 48; (with_reducible refine (F48.calls w0 ?s1 ?s2 A3.out).mono ?_); (case s1 => exact au9_1); (case s2 => exact ax26_); rintro e a0S ⟨rfl, hi, hb, hk⟩; (try clear A3); replace ap := ka_ hk ap bW; replace av := am_ (KeepBut.blk hk (g' := dD) (o := .cells #[.int .i64 0, .int .i64 0, .slice none 0 0] 53 (0, 0)) (bq_ av) bl.out (by simp)); replace HK := am_ (KeepBut.trans ax41_ hk (.inl rfl)); replace HB := am_ (hb); replace ba := am_ (hi); clear hb hk hi; have NG := cellsF3 av.out; obtain ⟨TU, TV⟩ := nn_ bW; have NH := cellsF3 ap.out))
  refine bodyPost_ret (results_ct rfl _ _ bo 53 #[.int .i64 0, .int .i64 0, .slice none 0 0] (0, 0) _ rfl (bq_ ap) Tryz.underlying53 rfl (by kernel_rfl)) rfl ?_
  exact ⟨_, ax11_, ax8_, ax31_, ax26_, ax41_⟩
 replace H := itn_ H; rcases H with ⟨c5b0, H⟩
 replace H := itn_ H; rcases H with ⟨c6b0, H⟩
 replace H := bi_ H; rcases H with ⟨⟨bA, a0T⟩, A7, H⟩
 have Hp := am_ H
 clear H
 go_enter Tryz.func49, Tryz.ntmps49
 try go_wp2_with (first | ((with_reducible refine gate_dst (N := 2) rfl ?_); refine be_ 2 #[.int .i64 0, .int .i64 0, .slice none 0 0] 53 ?_; intro bo hg w9 hbox hb; replace HB := am_ (below_step ax27_ hb); have ap := am_ (hbox); have qw := am_ ((by rw [hg]; exact (keep_size (w := w) (g := g) (row := none) ax42_) : w.heap.size ≤ bo)); have qv := am_ ((Nat.le_trans oF.out (by rw [hg]; exact (keep_size (w := w) (g := g) (row := none) ax42_) : w.heap.size ≤ bo) : w0.heap.size ≤ bo)); replace HK := am_ (KeepBut.trans ax42_ (KeepBut.of_below hb g none) (.inl rfl)); have uj := am_ (gn_ hg (IsS80.lt (ax31_ : IsS80 w0 _ g ak bh ay az aA aC bB))); have bW := am_ (gm_ hg (IsS80.lt (ax31_ : IsS80 w0 _ g ak bh ay az aA aC bB))); replace ba := am_ (IsS80.below ax31_ hb); clear hb hbox hg) | ((with_reducible refine gate_dst (N := 4) rfl ?_); refine be_ 4 #[.int .i64 0, .int .i64 0, .slice none 0 0] 53 ?_; intro dD hg Ie hbox hb; replace HB := am_ (below_step au9_32 hb); have av := am_ (hbox); have vZ := am_ ((by rw [hg]; exact (keep_size (w := w) (g := g) (row := none) au9_12) : w.heap.size ≤ dD)); have vX := am_ ((Nat.le_trans oF.out (by rw [hg]; exact (keep_size (w := w) (g := g) (row := none) au9_12) : w.heap.size ≤ dD) : w0.heap.size ≤ dD)); replace HK := am_ (KeepBut.trans au9_12 (KeepBut.of_below hb g none) (.inl rfl)); have vL := am_ (gn_ hg (blkl_ ap)); have aQ := am_ (gm_ hg (blkl_ ap)); replace ap := bb_ ap hb; have uk := am_ (gn_ hg (IsS80.lt (ax31_ : IsS80 w0 _ g ak bh ay az aA aC bB))); have bl := am_ (gm_ hg (IsS80.lt (ax31_ : IsS80 w0 _ g ak bh ay az aA aC bB))); replace ba := am_ (IsS80.below ax31_ hb); clear hb hbox hg; obtain ⟨Dl, Dm⟩ := nn_ aQ; obtain ⟨Nm, Nn⟩ := nn_ bl; have ej := cellsF3 av.out) | (go_at_call 47; (with_reducible refine (F47.calls w0 ?s1 ?s2 A2.out).mono ?_); (case s1 => exact au9_1); (case s2 => exact ax26_); rintro e w' ⟨rfl, ⟨nd, rfl⟩⟩; (try clear A2)) | (go_at_call 48; (with_reducible refine (F48.calls w0 ?s1 ?s2 A3.out).mono ?_); (case s1 => exact au9_1); (case s2 => exact ax26_); rintro e gI ⟨rfl, hi, hb, hk⟩; (try clear A3); replace ap := ka_ hk ap bW; replace av := am_ (KeepBut.blk hk (g' := dD) (o := .cells #[.int .i64 0, .int .i64 0, .slice none 0 0] 53 (0, 0)) (bq_ av) bl.out (by simp)); replace HK := am_ (KeepBut.trans ax41_ hk (.inl rfl)); replace HB := am_ (hb); replace ba := am_ (hi); clear hb hk hi))
 obtain ⟨nw, jl, ny, eh, jm, jn, jo, jp, jq, jr, js, jt⟩ := IsS80.op ba.out
 replace ap := bd_ ap
 replace av := bd_ av
 replace ba := am_ (IsS80.drew ba.out)
 replace HK := am_ (keep_drew HK.out)
 replace HB := am_ (below_drew1 HB.out)
 have lL : gI.drew.frozen? ⟨g, 1, none⟩ = false := js
 have lM : gI.drew.frozen? ⟨g, 6, none⟩ = false := jt
 have ju : gI.drew.cell? ⟨g, 0, none⟩ = some (.slice nw ak.length jl) := eh
 have jv : gI.drew.cell? ⟨g, 1, none⟩ = some (.int .i64 ky) := jm
 have jw : gI.drew.cell? ⟨g, 2, none⟩ = some (ay) := jn
 have jx : gI.drew.cell? ⟨g, 3, none⟩ = some (az) := jo
 have jy : gI.drew.cell? ⟨g, 4, none⟩ = some (aA) := jp
 have jz : gI.drew.cell? ⟨g, 5, none⟩ = some (aC) := jq
 have jA : gI.drew.cell? ⟨g, 6, none⟩ = some (.int .i64 NE) := jr
 have CJ : 0 ≤ (ky : Int) := od_
 have CK : ky < (ak.length : Int) := od_
 obtain ⟨ul, zn, zo, TW, jJ, jK, um, un⟩ := at_T49 ny ky CJ CK
 have uo := jK
 have uq := jJ
 cases TW
 replace jJ := pw_cell_below HB.out jJ
 replace jK := pw_cell_below HB.out jK
 have ur := am_ un
 have CL := am_ um
 clear un um
 replace CJ := eq_true CJ
 replace CK := eq_true CK
 refine start_ (n := 16) (S := fun w' => w'.cell? ⟨g, 0, none⟩ = some (.slice (some ul) ak.length jl) ∧ w'.cell? ⟨g, 1, none⟩ = some (.int .i64 ky) ∧ w'.cell? ⟨g, 2, none⟩ = some (ay) ∧ w'.cell? ⟨g, 3, none⟩ = some (az) ∧ w'.cell? ⟨g, 4, none⟩ = some (aA) ∧ w'.cell? ⟨g, 5, none⟩ = some (aC) ∧ w'.cell? ⟨g, 6, none⟩ = some (.int .i64 NE) ∧ w'.cell? (ul.add ((ky).toNat * 2)) = some (.string ((rd_T49 ak ky).f0)) ∧ w'.cell? ⟨(ul.add ((ky).toNat * 2)).block, (ul.add ((ky).toNat * 2)).off + 1, none⟩ = some (.slice zn ((rd_T49 ak ky).f1).length zo)) (ds := []) (bs 16 0) (by kernel_rfl) rfl rfl ⟨ju, jv, jw, jx, jy, jz, jA, (pw_cell_below HB.out uq), (pw_cell_below HB.out uo)⟩ (fun hHeld => ?_); refine with_tabW F49.tab4 F49.bits4 (fun HT_ HW_ => ?_)
 generalize gI.drew = EJ at lL lM ju jv jw jx jy jz jA ap av ba HK HB ur jJ jK hHeld ⊢
 refine pq_ 0 HT_ ?_
 refine pq_ 1 HT_ ?_
 refine pq_ 2 HT_ ?_
 refine pq_ 4 HT_ ?_
 refine pq_ 5 HT_ ?_
 refine pq_ 6 HT_ ?_
 refine tq_ 3 HT_ HW_ hHeld rfl ax49_ ?_
 refine tq_ 7 HT_ HW_ hHeld rfl ax49_ ?_
 refine pq_ 8 HT_ ?_
 refine tq_ 9 HT_ HW_ hHeld rfl ax49_ ?_
 refine oq_ 10 HT_ (fun K hK => ?_)
 refine gr_ Tryz.func86 #[.agg #[.string ((rd_T49 ak ky).f0), .slice zn ((rd_T49 ak ky).f1).length zo], .int .i64 2] (by rfl) ?_ rfl rfl rfl
 with_reducible refine (F86.calls ?s1 ?s2 A7.out).mono ?_
 (case s1 => exact Kd.C_below ur.out ax26_)
 (case s2 => exact CL.out)
 rintro e Rc ⟨TX, rfl, bf, hb⟩
 have gN := pw_cell_below hb (hHeld.1)
 have j8 := pw_cell_below hb (hHeld.2.1)
 have lE := pw_cell_below hb (hHeld.2.2.1)
 have lF := pw_cell_below hb (hHeld.2.2.2.1)
 have lG := pw_cell_below hb (hHeld.2.2.2.2.1)
 have lH := pw_cell_below hb (hHeld.2.2.2.2.2.1)
 have lI := pw_cell_below hb (hHeld.2.2.2.2.2.2.1)
 refine ⟨_, rfl, ?_⟩
 have dg := am_ (Kd.R_lower bf (keep_size (w := w) (g := g) (row := none) ax41_))
 replace ap := bb_ ap hb
 replace av := bb_ av hb
 replace HK := am_ (KeepBut.trans ax41_ (KeepBut.of_below hb g none) (.inl rfl))
 replace HB := am_ (below_step ax26_ hb)
 replace ba := am_ (IsS80.below ax31_ hb)
 (try clear hb)
 (try clear bf)
 refine hK.out _ _ ⟨gN, j8, lE, lF, lG, lH, lI, (pw_cell_below HB.out uq), (pw_cell_below HB.out uo)⟩ (fun hHeld => ?_)
 clear hK K
 refine no_ 28 ?_
 refine pq_ 11 HT_ ?_
 refine pq_ 12 HT_ ?_
 refine pq_ 13 HT_ ?_
 refine pq_ 14 HT_ ?_
 refine pq_ 15 HT_ ?_
 refine done_ (done_of HT_.out (by kernel_rfl)) ?_
 go_upto_region 5 with (fail)
 go_cut [52] (fun Tg wc => ∃ (kq : Nat) (zp : Bool) (eo : Int) (ep : Int), Tg = .bool zp ∧ Aside0 (F49.j0 kq bA zp ak eo ay az aA aC ep 0 0 = some (r1, r2, r3, r4, r5, r6)) ∧ Aside0 (kq ≤ k) ∧ Aside0 (Kd.R (Kd.int .i64) 2 wc w.heap.size (fun _ => True) TX bA) ∧ Aside0 (wc.heap[bo]? = some (.cells #[.int .i64 0, .int .i64 0, (.slice none 0 0)] 53 (0, 0))) ∧ Aside0 (wc.heap[dD]? = some (.cells #[.int .i64 0, .int .i64 0, (.slice none 0 0)] 53 (0, 0))) ∧ Aside0 (IsS80 w0 wc g ak eo ay az aA aC ep) ∧ Aside0 (KeepBut w wc g none) ∧ Aside0 (Below w0.heap.size w0 wc))
 case first =>
  have H := Hp.out
  clear Hp
  replace H := ib_ H; rcases H with ⟨rfl, H⟩ | ⟨rfl, H⟩
  rotate_left
  ·replace H := bi_ H; rcases H with ⟨⟨TY, TZ, T0⟩, C8, H⟩
   have H' := am_ H
   clear H
   go_wp2_with (first | (go_at_call 48; (with_reducible refine (F48.calls w0 ?s1 ?s2 C8.out).mono ?_); (case s1 => exact au9_1); (case s2 => exact ax26_); rintro e w34 ⟨rfl, hi, hb, hk⟩; (try clear C8); replace ap := ka_ hk ap bW; replace av := ka_ hk av bl; replace dg := IsS80.kR hk ax31_ (rk_ dg); replace HK := am_ (KeepBut.trans ax41_ hk (.inl rfl)); replace HB := am_ (hb); replace ba := am_ (hi); clear hb hk hi))
   go_meet
   case rel => exact ⟨_, (!TY), (TZ), (T0), er_, H', ⟨ax10_⟩, ⟨rk_ dg⟩, ⟨bk_ ap⟩, ⟨bk_ av⟩, ⟨ax31_⟩, ⟨ax41_⟩, ⟨ax26_⟩⟩
  replace H := itn_ H; rcases H with ⟨c19b0, H⟩
  have c19b1 : decide (0 < bA.length) = true := n2_ c19b0
  (first | rw [c19b0] | (simp only [i64_w, i32_w]; rw [c19b0]) | skip)
  replace H := it_ H; rcases H with ⟨(c20b0 : decide (1 ≤ (rd bA 0)) = true), H⟩ | ⟨(c20b0 : decide (1 ≤ (rd bA 0)) = false), H⟩
  rotate_left
  ·replace H := bi_ H; rcases H with ⟨⟨T2, Ua, Ub⟩, AF, H⟩
   have H' := am_ H
   clear H
   obtain ⟨nT, nU, uM⟩ := Kd.R_slice dg.out
   subst uM
   have lQ : 0 ≤ (0 : Int) := (by omega)
   have lR : 0 < (bA.length : Int) := od_
   obtain ⟨oB, zq, fh⟩ := Kd.at_int (Kd.R_reads' dg.out).2.2 0 lQ lR
   cases zq
   have En : (0 < bA.length) = True := eq_true (by omega)
   (try rw [show ((0 : Int)).toNat = 0 from rfl] at fh)
   (try rw [Addr.add_zero'] at fh)
   replace lQ := eq_true lQ
   replace lR := eq_true lR
   go_wp2_with (first | (go_at_call 48; (with_reducible refine (F48.calls w0 ?s1 ?s2 AF.out).mono ?_); (case s1 => exact au9_1); (case s2 => exact ax26_); rintro e U2 ⟨rfl, hi, hb, hk⟩; (try clear AF); replace ap := ka_ hk ap bW; replace av := ka_ hk av bl; replace dg := IsS80.kR hk ax31_ (rk_ dg); replace HK := am_ (KeepBut.trans ax41_ hk (.inl rfl)); replace HB := am_ (hb); replace ba := am_ (hi); clear hb hk hi))
   go_meet
   case rel => exact ⟨_, (!T2), (Ua), (Ub), er_, H', ⟨ax10_⟩, ⟨rk_ dg⟩, ⟨bk_ ap⟩, ⟨bk_ av⟩, ⟨ax31_⟩, ⟨ax41_⟩, ⟨ax26_⟩⟩
  replace H := it_ H; rcases H with ⟨c21b0, H⟩ | ⟨c21b0, H⟩
  rotate_left
  ·replace H := bi_ H; rcases H with ⟨⟨Uc, Ud, Ue⟩, Xh, H⟩
   have H' := am_ H
   clear H
   obtain ⟨a0U, a0V, Uf⟩ := Kd.R_slice dg.out
   subst Uf
   have lQ : 0 ≤ (0 : Int) := (by omega)
   have lR : 0 < (bA.length : Int) := od_
   obtain ⟨oB, zq, fh⟩ := Kd.at_int (Kd.R_reads' dg.out).2.2 0 lQ lR
   cases zq
   have En : (0 < bA.length) = True := eq_true (by omega)
   (try rw [show ((0 : Int)).toNat = 0 from rfl] at fh)
   (try rw [Addr.add_zero'] at fh)
   replace lQ := eq_true lQ
   replace lR := eq_true lR
   have qp : 0 ≤ (0 : Int) := (by omega)
   have qq : 0 < (bA.length : Int) := od_
   obtain ⟨zr, HJ, jL⟩ := Kd.at_int (Kd.R_reads' dg.out).2.2 0 qp qq
   obtain rfl : oB = zr := (by injection HJ)
   have NI : (0 < bA.length) = True := eq_true (by omega)
   (try rw [show ((0 : Int)).toNat = 0 from rfl] at jL)
   (try rw [Addr.add_zero'] at jL)
   replace qp := eq_true qp
   replace qq := eq_true qq
   go_wp2_with (first | (go_at_call 48; (with_reducible refine (F48.calls w0 ?s1 ?s2 Xh.out).mono ?_); (case s1 => exact au9_1); (case s2 => exact ax26_); rintro e QF ⟨rfl, hi, hb, hk⟩; (try clear Xh); replace ap := ka_ hk ap bW; replace av := ka_ hk av bl; replace dg := IsS80.kR hk ax31_ (rk_ dg); replace HK := am_ (KeepBut.trans ax41_ hk (.inl rfl)); replace HB := am_ (hb); replace ba := am_ (hi); clear hb hk hi))
   go_meet
   case rel => exact ⟨_, (!Uc), (Ud), (Ue), er_, H', ⟨ax10_⟩, ⟨rk_ dg⟩, ⟨bk_ ap⟩, ⟨bk_ av⟩, ⟨ax31_⟩, ⟨ax41_⟩, ⟨ax26_⟩⟩
  replace H := itn_ H; rcases H with ⟨c22b0, H⟩
  have c22b1 : decide (1 < bA.length) = true := n2_ c22b0
  replace H := bi_ H; rcases H with ⟨NC, Xi, H⟩
  replace H := bi_ H; rcases H with ⟨⟨Ug, Uh, Ui⟩, F0, H⟩
  have H' := am_ H
  clear H
  obtain ⟨a0W, a0X, Uj⟩ := Kd.R_slice dg.out
  subst Uj
  have lQ : 0 ≤ (0 : Int) := (by omega)
  have lR : 0 < (bA.length : Int) := od_
  obtain ⟨oB, zq, fh⟩ := Kd.at_int (Kd.R_reads' dg.out).2.2 0 lQ lR
  cases zq
  have En : (0 < bA.length) = True := eq_true (by omega)
  (try rw [show ((0 : Int)).toNat = 0 from rfl] at fh)
  (try rw [Addr.add_zero'] at fh)
  replace lQ := eq_true lQ
  replace lR := eq_true lR
  have qp : 0 ≤ (0 : Int) := (by omega)
  have qq : 0 < (bA.length : Int) := od_
  obtain ⟨zr, HJ, jL⟩ := Kd.at_int (Kd.R_reads' dg.out).2.2 0 qp qq
  obtain rfl : oB = zr := (by injection HJ)
  have NI : (0 < bA.length) = True := eq_true (by omega)
  (try rw [show ((0 : Int)).toNat = 0 from rfl] at jL)
  (try rw [Addr.add_zero'] at jL)
  replace qp := eq_true qp
  replace qq := eq_true qq
  have HW : 0 ≤ (1 : Int) := (by omega)
  have H0 : 1 < (bA.length : Int) := od_
  obtain ⟨NJ, Uk, ut⟩ := Kd.at_int (Kd.R_reads' dg.out).2.2 1 HW H0
  obtain rfl : oB = NJ := (by injection Uk)
  (try simp only [show (1 : Int).toNat = 1 from rfl, Nat.reduceMul, Nat.reduceEqDiff, Go.Addr.add, ↓reduceIte] at ut)
  have Xj : (1 < bA.length) = True := eq_true (by omega)
  (try rw [show ((1 : Int)).toNat = 1 from rfl] at ut)
  replace HW := eq_true HW
  replace H0 := eq_true H0
  go_wp2_with (first | (go_at_call 40; (with_reducible refine (F40.calls Xi.out).mono ?_); rintro e w' ⟨rfl, ⟨nd, rfl⟩⟩; (try clear Xi)) | (go_at_call 48; (with_reducible refine (F48.calls w0 ?s1 ?s2 F0.out).mono ?_); (case s1 => exact au9_1); (case s2 => exact ax26_); rintro e E9 ⟨rfl, hi, hb, hk⟩; (try clear F0); replace ap := ka_ hk ap bW; replace av := ka_ hk av bl; replace dg := IsS80.kR hk ax31_ (rk_ dg); replace HK := am_ (KeepBut.trans ax41_ hk (.inl rfl)); replace HB := am_ (hb); replace ba := am_ (hi); clear hb hk hi))
  go_meet
  case rel => exact ⟨_, (!Ug), (Uh), (Ui), er_, H', ⟨ax10_⟩, ⟨rk_ dg⟩, ⟨bk_ ap⟩, ⟨bk_ av⟩, ⟨ax31_⟩, ⟨ax41_⟩, ⟨ax26_⟩⟩
 case rest =>
  clear Hp
  try clear c5b0
  try clear c6b0
  try clear ej
  try clear eh jm jn jo jp jq jr
  try clear js
  try clear jt
  try clear jJ
  try clear jK
  try clear CJ
  try clear CK
  obtain ⟨kq, zp, eo, ep, rfl, HA, Ew, qk, ap, av, ba, HK, HB⟩ := hcut
  cases kq with
  | zero => exact absurd HA.out (by simp [F49.j0])
  | succ No =>
   have H := HA.out
   clear HA
   simp only [F49.j0] at H
   replace H := ib_ H; rcases H with ⟨rfl, H⟩ | ⟨rfl, H⟩
   ·simp only [Option.some.injEq, Prod.mk.injEq] at H
    obtain ⟨rfl, rfl, rfl, rfl, rfl, rfl⟩ := H
    obtain ⟨MP, MQ⟩ := nn_ aQ
    obtain ⟨KZ, K0⟩ := nn_ bl
    have rG := cellsF3 av.out
    obtain ⟨MN, MO⟩ := nn_ bW
    have Bk := cellsF3 ap.out
    go_wp2
    refine bodyPost_ret (results_ct rfl _ _ bo 53 #[.int .i64 0, .int .i64 0, .slice none 0 0] (0, 0) _ rfl (bq_ ap) Tryz.underlying53 rfl (by kernel_rfl)) rfl ?_
    exact ⟨_, ax11_, ax8_, ax31_, ax26_, ax41_⟩
   replace H := itn_ H; rcases H with ⟨c41b0, H⟩
   have c41b1 : decide (0 < bA.length) = true := n2_ c41b0
   replace H := itn_ H; rcases H with ⟨c42b0, H⟩
   have c42b1 : decide (1 < bA.length) = true := n2_ c42b0
   have H' := am_ H
   clear H
   obtain ⟨a0Y, a0Z, Ul⟩ := Kd.R_slice qk.out
   subst Ul
   have CM : 0 ≤ (0 : Int) := (by omega)
   have CN : 0 < (bA.length : Int) := od_
   obtain ⟨Eo, Um, nD⟩ := Kd.at_int (Kd.R_reads' qk.out).2.2 0 CM CN
   cases Um
   have Xk : (0 < bA.length) = True := eq_true (by omega)
   (try rw [show ((0 : Int)).toNat = 0 from rfl] at nD)
   (try rw [Addr.add_zero'] at nD)
   replace CM := eq_true CM
   replace CN := eq_true CN
   obtain ⟨Xl, Xm⟩ := nn_ aQ
   obtain ⟨Xn, Xo⟩ := nn_ bl
   have CO := cellsF3 av.out
   have CP : 0 ≤ (1 : Int) := (by omega)
   have CQ : 1 < (bA.length : Int) := od_
   obtain ⟨NK, Un, jM⟩ := Kd.at_int (Kd.R_reads' qk.out).2.2 1 CP CQ
   obtain rfl : Eo = NK := (by injection Un)
   (try simp only [show (1 : Int).toNat = 1 from rfl, Nat.reduceMul, Nat.reduceEqDiff, Go.Addr.add, ↓reduceIte] at jM)
   have Xp : (1 < bA.length) = True := eq_true (by omega)
   (try rw [show ((1 : Int)).toNat = 1 from rfl] at jM)
   have kU : Eo.block ≠ dD := Kd.own_blk (Kd.R_ne qk.out av.out (by decide))
   replace jM := (cell_far (p := ⟨dD, 0, none⟩) (by first | (rw [add_block]; exact kU) | (show (Addr.add _ _).block ≠ _; rw [add_block]; exact kU) | exact kU) (.int .i64 (rd bA 0))).trans jM
   clear kU
   replace CP := eq_true CP
   replace CQ := eq_true CQ
   obtain ⟨P6, P7, P8, CR, CS, CT, CU, CV, CW, CX, CY, CZ⟩ := IsS80.op ba.out
   go_wp2
   go_loopg [] No (fun kq w' => ∃ (ci : Int) (cj : Int) (eB : Int) (eC : Int) (aG : List (S56)) (jN : Value), Aside0 (F49.l0 kq ak ci ay az aA aC cj (rd bA 0) (rd bA 1) aG = some (r1, r2, r3, r4, r5, r6)) ∧ Aside0 (kq ≤ No) ∧ Aside0 (Kd.S k56 56 w' w.heap.size (fun _ => True) jN aG) ∧ Aside0 (w'.heap[bo]? = some (.cells #[.int .i64 eB, .int .i64 eC, (.slice none 0 0)] 53 (0, 0))) ∧ Aside0 (w'.heap[dD]? = some (.cells #[.int .i64 (rd bA 0), .int .i64 (rd bA 1), jN] 53 (0, 0))) ∧ Aside0 (IsS80 w0 w' g ak ci ay az aA aC cj) ∧ Aside0 (KeepBut w w' g none) ∧ Aside0 (Below w0.heap.size w0 w'))
   case atStart => exact ⟨(wrap64 (eo + 1)), (ep), (0), (0), (([] : List (S56))), (.slice none 0 0), H', ⟨Nat.le_refl _⟩, ⟨ax8_⟩, ⟨bf_ ap⟩, ⟨bq_ av⟩, ⟨ax31_⟩, ⟨ax41_⟩, ⟨ax26_⟩⟩
   case round =>
    clear H'
    try clear c41b0
    try clear c41b1
    try clear c42b0
    try clear c42b1
    try clear CO
    try clear CR CS CT CU CV CW CX
    try clear CY
    try clear CZ
    try clear nD
    try clear jM
    try clear CM
    try clear CP
    try clear CN
    try clear CQ
    obtain ⟨ci, cj, eB, eC, aG, jN, HA, HK2, ar, ap, av, ba, HK, HB⟩ := hrel
    cases gk with
    | zero => exact absurd HA.out (by simp [F49.l0])
    | succ k2 =>
     have H := HA.out
     clear HA
     simp only [F49.l0] at H
     have H4 := am_ H
     clear H
     go_upto_region 10 with (fail)
     go_cut [78] (fun v78 wc => ∃ (kq : Nat) (qr : Bool) (lS : Int) (lT : Int), v78 = .bool qr ∧ Aside0 (F49.j2 kq qr ak lS ay az aA aC lT (rd bA 0) (rd bA 1) aG = some (r1, r2, r3, r4, r5, r6)) ∧ Aside0 (kq ≤ k2) ∧ Aside0 (Kd.S k56 56 wc w.heap.size (fun _ => True) jN aG) ∧ Aside0 (wc.heap[bo]? = some (.cells #[.int .i64 eB, .int .i64 eC, (.slice none 0 0)] 53 (0, 0))) ∧ Aside0 (wc.heap[dD]? = some (.cells #[.int .i64 (rd bA 0), .int .i64 (rd bA 1), jN] 53 (0, 0))) ∧ Aside0 (IsS80 w0 wc g ak lS ay az aA aC lT) ∧ Aside0 (KeepBut w wc g none) ∧ Aside0 (Below w0.heap.size w0 wc))
     case first =>
      have H := H4.out
      clear H4
      by_cases Ep : (aG.length : Int) = 0
      ·rw [if_pos Ep] at H
       have c49b0 : ((aG.length : Int) == 0) = true := beq_iff_eq.mpr Ep
       have c49b1 : ((aG.length : Int) != 0) = false := bne_eq_false_iff_eq.mpr Ep
       clear Ep
       (first | rw [c49b0] | (simp only [i64_w, i32_w]; rw [c49b0]) | skip)
       have H' := am_ H
       clear H
       obtain ⟨DD, DE⟩ := nn_ aQ
       obtain ⟨K7, K8⟩ := nn_ bl
       have P9 := cellsF3 av.out
       obtain ⟨a01, a02, Uo⟩ := Kd.S_slice ar.out
       subst Uo
       go_wp2
       go_meet
       case rel => exact ⟨_, (true), (ci), (cj), er_, H', ⟨ax13_⟩, ⟨ax4_⟩, ⟨bk_ ap⟩, ⟨bk_ av⟩, ⟨ax31_⟩, ⟨ax41_⟩, ⟨ax26_⟩⟩
      rw [if_neg Ep] at H
      have c49b0 : ((aG.length : Int) == 0) = false := beq_eq_false_iff_ne.mpr Ep
      have c49b1 : ((aG.length : Int) != 0) = true := bne_iff_ne.mpr Ep
      have c49b2 : ¬ (aG = []) := fun h_ => Ep (by rw [h_]; rfl)
      (first | rw [c49b0] | (simp only [i64_w, i32_w]; rw [c49b0]) | skip)
      replace H := bi_ H; rcases H with ⟨Hx, Xq, H⟩
      have H' := am_ H
      clear H
      obtain ⟨DP, DQ⟩ := nn_ aQ
      obtain ⟨Xr, Xs⟩ := nn_ bl
      have Qa := cellsF3 av.out
      obtain ⟨Kr, Ks, Fc⟩ := Kd.S_slice ar.out
      subst Fc
      go_wp2_with (first | (go_at_call 47; (with_reducible refine (F47.calls w0 ?s1 ?s2 Xq.out).mono ?_); (case s1 => exact au9_1); (case s2 => exact ax26_); rintro e w' ⟨rfl, ⟨nd, rfl⟩⟩; (try clear Xq)))
      go_meet
      case rel => exact ⟨_, ((Hx.toList == ([77, 83, 72] : List UInt8))), (ci), (cj), er_, H', ⟨ax13_⟩, ⟨ax4_⟩, ⟨bk_ ap⟩, ⟨bk_ av⟩, ⟨ax31_⟩, ⟨ax41_⟩, ⟨ax26_⟩⟩
     case rest =>
      clear H4
      obtain ⟨kq, qr, lS, lT, rfl, HA, NL, ar, ap, av, ba, HK, HB⟩ := hcut
      cases kq with
      | zero => exact absurd HA.out (by simp [F49.j2])
      | succ NM =>
       have H := HA.out
       clear HA
       simp only [F49.j2] at H
       replace H := ib_ H; rcases H with ⟨rfl, H⟩ | ⟨rfl, H⟩
       ·replace H := bi_ H; rcases H with ⟨⟨a03, NN, NO⟩, uV, H⟩
        replace H := ib_ H; rcases H with ⟨rfl, H⟩ | ⟨rfl, H⟩
        rotate_left
        ·simp only [Option.some.injEq, Prod.mk.injEq] at H
         obtain ⟨rfl, rfl, rfl, rfl, rfl, rfl⟩ := H
         obtain ⟨Xt, Xu⟩ := nn_ aQ
         obtain ⟨Xv, Xw⟩ := nn_ bl
         have NQ := cellsF3 av.out
         obtain ⟨Er, Es, NR⟩ := Kd.S_slice ar.out
         subst NR
         go_wp2_with (first | (go_at_call 48; (with_reducible refine (F48.calls w0 ?s1 ?s2 uV.out).mono ?_); (case s1 => exact au9_1); (case s2 => exact ax26_); rintro e a04 ⟨rfl, hi, hb, hk⟩; (try clear uV); replace ar := IsS80.kS hk ax31_ ax4_; replace ap := ka_ hk ap bW; replace av := ka_ hk av bl; replace HK := am_ (KeepBut.trans ax41_ hk (.inl rfl)); replace HB := am_ (hb); replace ba := am_ (hi); clear hb hk hi; have NS := cellsF3 av.out; obtain ⟨Up, Uq⟩ := nn_ bW; have NT := cellsF3 ap.out))
         refine bodyPost_ret (results_ct rfl _ _ bo 53 #[.int .i64 (rd bA 0), .int .i64 (rd bA 1), .slice Er aG.length Es] (0, 0) _ rfl (bq_ ap) Tryz.underlying53 rfl (by kernel_rfl)) rfl ?_
         exact ⟨_, ax11_, by (with_reducible repeat (first | apply Kd.S_alloc | apply Kd.S_drewN | apply Kd.S_drew)); exact Kd.S_mono (Kd.S_far (p := ⟨bo, 2, none⟩) (Kd.S_far (p := ⟨bo, 1, none⟩) (Kd.S_far (p := ⟨bo, 0, none⟩) (Kd.S_types ar.out ap.out (by decide)) (fun _ hk => hk.2) (.int .i64 (rd bA 0))) (fun _ hk => hk.2) (.int .i64 (rd bA 1))) (fun _ hk => hk.2) (.slice Er aG.length Es)) (fun _ hk => trivial), ax31_, ax26_, ax41_⟩
        replace H := bi_ H; rcases H with ⟨⟨lZ, kg, a05, qt, qu⟩, AM, H⟩
        replace H := ib_ H; rcases H with ⟨rfl, H⟩ | ⟨rfl, H⟩
        rotate_left
        ·simp only [Option.some.injEq, Prod.mk.injEq] at H
         obtain ⟨rfl, rfl, rfl, rfl, rfl, rfl⟩ := H
         obtain ⟨Xx, Xy⟩ := nn_ aQ
         obtain ⟨Xz, XA⟩ := nn_ bl
         have Qb := cellsF3 av.out
         obtain ⟨NU, NV, Ur⟩ := Kd.S_slice ar.out
         subst Ur
         go_wp2_with (first | (go_at_call 48; (with_reducible refine (F48.calls w0 ?s1 ?s2 uV.out).mono ?_); (case s1 => exact au9_1); (case s2 => exact ax26_); rintro e w87 ⟨rfl, hi, hb, hk⟩; (try clear uV); replace ar := IsS80.kS hk ax31_ ax4_; replace ap := ka_ hk ap bW; replace av := ka_ hk av bl; replace HK := am_ (KeepBut.trans ax41_ hk (.inl rfl)); replace HB := am_ (hb); replace ba := am_ (hi); clear hb hk hi) | (go_at_call 87; (with_reducible refine (F87.calls w0 ?s1 ?s2 AM.out).mono ?_); (case s1 => exact au9_1); (case s2 => exact ax26_); rintro e w88 ⟨Us, rfl, bf, hi, hb, hk⟩; (try clear AM); replace ar := am_ (Kd.S_mono (Kd.S_told (Kd.S_oldK (IsS80.apartS (ax31_ : IsS80 w0 _ g ak NN ay az aA aC NO) ax4_ (by decide)) hk) (Kd.S_base bf)) (fun _ h_ => h_.1)); replace ap := ka_ hk ap bW; replace av := ka_ hk av bl; have f9 := am_ (Kd.S_lower bf (keep_size (w := w) (g := g) (row := none) ax41_)); replace HK := am_ (KeepBut.trans ax41_ hk (.inl rfl)); replace HB := am_ (hb); replace ba := am_ (hi); clear hb hk hi bf) | ((with_reducible refine gate_dst (N := 7) rfl ?_); refine be_ 7 #[.int .i64 0, .slice none 0 0] 56 ?_; intro cD hg UX hbox hb; replace ar := am_ (Kd.S_below (Kd.S_elderB ax4_ cD (Nat.le_of_eq hg.symm)) hb); replace f9 := am_ (Kd.S_below au9_47 hb); replace HB := am_ (below_step ax26_ hb); have fK := am_ (hbox); have C6 := am_ ((by rw [hg]; exact (keep_size (w := w) (g := g) (row := none) ax41_) : w.heap.size ≤ cD)); have C4 := am_ ((Nat.le_trans oF.out (by rw [hg]; exact (keep_size (w := w) (g := g) (row := none) ax41_) : w.heap.size ≤ cD) : w0.heap.size ≤ cD)); replace HK := am_ (KeepBut.trans ax41_ (KeepBut.of_below hb g none) (.inl rfl)); have vM := am_ (gn_ hg (blkl_ ap)); have kh := am_ (gm_ hg (blkl_ ap)); replace ap := bb_ ap hb; have vN := am_ (gn_ hg (blkl_ av)); have ki := am_ (gm_ hg (blkl_ av)); replace av := bb_ av hb; have C0 := am_ (gn_ hg (IsS80.lt (ax31_ : IsS80 w0 _ g ak qt ay az aA aC qu))); have nE := am_ (gm_ hg (IsS80.lt (ax31_ : IsS80 w0 _ g ak qt ay az aA aC qu))); replace ba := am_ (IsS80.below ax31_ hb); clear hb hbox hg; obtain ⟨Ng, Nh⟩ := nn_ kh; obtain ⟨Nk, Nl⟩ := nn_ ki; obtain ⟨XB, XC⟩ := nn_ nE; have Qc := cellsF2 fK.out; obtain ⟨uI, uJ, z6⟩ := Kd.S_slice f9.out; subst z6; have Qd := cellsF3 av.out; obtain ⟨XD, XE⟩ := nn_ bW; have Qe := cellsF3 ap.out))
         refine bodyPost_ret (results_ct rfl _ _ bo 53 #[.int .i64 (rd bA 0), .int .i64 (rd bA 1), .slice NU aG.length NV] (0, 0) _ rfl (bq_ ap) Tryz.underlying53 rfl (by kernel_rfl)) rfl ?_
         exact ⟨_, ax11_, by (with_reducible repeat (first | apply Kd.S_alloc | apply Kd.S_drewN | apply Kd.S_drew)); exact Kd.S_mono (Kd.S_far (p := ⟨bo, 2, none⟩) (Kd.S_far (p := ⟨bo, 1, none⟩) (Kd.S_far (p := ⟨bo, 0, none⟩) (Kd.S_far (p := ⟨cD, 1, none⟩) (Kd.S_far (p := ⟨cD, 0, none⟩) (Kd.S_types (Kd.S_mono ar.out (fun k_ hk => (⟨hk, hk.2⟩ : _ ∧ k_ ≠ cD))) ap.out (by decide)) (fun _ hk => hk.1.2) (.int .i64 lZ)) (fun _ hk => hk.1.2) (.slice uI kg.length uJ)) (fun _ hk => hk.2) (.int .i64 (rd bA 0))) (fun _ hk => hk.2) (.int .i64 (rd bA 1))) (fun _ hk => hk.2) (.slice NU aG.length NV)) (fun _ hk => trivial), ax31_, ax25_, ax40_⟩
        replace H := iln_ H; rcases H with ⟨NW, H⟩
        obtain ⟨C1, zt⟩ : ∃ y_ : List (S56), y_ = (aG ++ [(⟨lZ, kg⟩ : S56)]) := ⟨_, rfl⟩
        replace H : (F49.l0 NM ak qt ay az aA aC qu (rd bA 0) (rd bA 1) C1) = some (r1, r2, r3, r4, r5, r6) := by first | (rw [zt]; exact H) | exact H
        have NX := am_ zt
        clear zt
        have H' := am_ H
        clear H
        obtain ⟨DR, DS⟩ := nn_ aQ
        obtain ⟨XF, XG⟩ := nn_ bl
        have Qf := cellsF3 av.out
        obtain ⟨mQ, mR, As⟩ := Kd.S_slice ar.out
        subst As
        go_wp2_with (first | (go_at_call 48; (with_reducible refine (F48.calls w0 ?s1 ?s2 uV.out).mono ?_); (case s1 => exact au9_1); (case s2 => exact ax26_); rintro e YE ⟨rfl, hi, hb, hk⟩; (try clear uV); replace ar := IsS80.kS hk ax31_ ax4_; replace ap := ka_ hk ap bW; replace av := ka_ hk av bl; replace HK := am_ (KeepBut.trans ax41_ hk (.inl rfl)); replace HB := am_ (hb); replace ba := am_ (hi); clear hb hk hi) | (go_at_call 87; (with_reducible refine (F87.calls w0 ?s1 ?s2 AM.out).mono ?_); (case s1 => exact au9_1); (case s2 => exact ax26_); rintro e YH ⟨Us, rfl, bf, hi, hb, hk⟩; obtain ⟨jO, fP, fQ⟩ := nb9_ bf; (try clear AM); replace ar := am_ (Kd.S_mono (Kd.S_told (Kd.S_oldK (IsS80.apartS (ax31_ : IsS80 w0 _ g ak NN ay az aA aC NO) ax4_ (by decide)) hk) (Kd.S_base bf)) (fun _ h_ => (⟨⟨fP _ h_.2, h_.1.1⟩, h_.1.2⟩ : (_ < jO ∧ _) ∧ _))); replace ap := ka_ hk ap bW; replace av := ka_ hk av bl; have f9 := am_ (Kd.S_lower fQ (keep_size (w := w) (g := g) (row := none) ax41_)); replace HK := am_ (KeepBut.trans ax41_ hk (.inl rfl)); replace HB := am_ (hb); replace ba := am_ (hi); clear hb hk hi bf) | ((with_reducible refine gate_dst (N := 7) rfl ?_); refine be_ 7 #[.int .i64 0, .slice none 0 0] 56 ?_; intro cD hg w71 hbox hb; replace ar := am_ (Kd.S_below (Kd.S_elderB ax4_ cD (Nat.le_of_eq hg.symm)) hb); replace f9 := am_ (Kd.S_below au9_47 hb); replace HB := am_ (below_step ax26_ hb); have fK := am_ (hbox); have C6 := am_ ((by rw [hg]; exact (keep_size (w := w) (g := g) (row := none) ax41_) : w.heap.size ≤ cD)); have C4 := am_ ((Nat.le_trans oF.out (by rw [hg]; exact (keep_size (w := w) (g := g) (row := none) ax41_) : w.heap.size ≤ cD) : w0.heap.size ≤ cD)); replace HK := am_ (KeepBut.trans ax41_ (KeepBut.of_below hb g none) (.inl rfl)); have vM := am_ (gn_ hg (blkl_ ap)); have kh := am_ (gm_ hg (blkl_ ap)); replace ap := bb_ ap hb; have vN := am_ (gn_ hg (blkl_ av)); have ki := am_ (gm_ hg (blkl_ av)); replace av := bb_ av hb; have C0 := am_ (gn_ hg (IsS80.lt (ax31_ : IsS80 w0 _ g ak qt ay az aA aC qu))); have nE := am_ (gm_ hg (IsS80.lt (ax31_ : IsS80 w0 _ g ak qt ay az aA aC qu))); replace ba := am_ (IsS80.below ax31_ hb); clear hb hbox hg; obtain ⟨XH, XI⟩ := nn_ kh; obtain ⟨XJ, XK⟩ := nn_ ki; obtain ⟨Lc, Ld⟩ := nn_ nE; have Qg := cellsF2 fK.out; obtain ⟨oC, oD, Ut⟩ := Kd.S_slice f9.out; subst Ut) | ((with_reducible refine gate_store (t := 56) (p := 7) rfl ?_); refine store_event (t := 56) (p := 7) (v := ?vo_w77) (w1 := ((w71.setCell ⟨cD, 0, none⟩ (.int .i64 lZ)).setCell ⟨cD, 1, none⟩ (.slice oC kg.length oD))) ?hg ?ho ?hn ?hr ?_; (case ho => rfl); (case hg => rfl); (case hn => rfl); (case hr => exact hr_); intro vQ hw; have b8 : Aside0 (Kd.S k56 56 vQ w.heap.size (fun k_ => k_ < jO ∧ some k_ ≠ (.slice oC kg.length oD : Value).ownBlock ∧ k_ ≠ cD) (.slice mQ aG.length mR) aG) := ⟨(by rw [hw]; exact (by (with_reducible repeat (first | apply Kd.S_alloc | apply Kd.S_drewN | apply Kd.S_drew)); exact Kd.S_mono (Kd.S_far (p := ⟨cD, 1, none⟩) (Kd.S_far (p := ⟨cD, 0, none⟩) (Kd.S_mono ar.out (fun k_ hk => (⟨hk, hk.2⟩ : _ ∧ k_ ≠ cD))) (fun _ hk => hk.2) (.int .i64 lZ)) (fun _ hk => hk.2) (.slice oC kg.length oD)) (fun _ hk => ⟨hk.1.1.1.1, hk.1.1.2, hk.1.2⟩)))⟩; have dE : Aside0 (Kd.S k49 49 vQ w.heap.size (fun k_ => jO ≤ k_) (.slice oC kg.length oD) kg) := ⟨(by rw [hw]; exact (by (with_reducible repeat (first | apply Kd.S_alloc | apply Kd.S_drewN | apply Kd.S_drew)); exact Kd.S_mono (Kd.S_far (p := ⟨cD, 1, none⟩) (Kd.S_far (p := ⟨cD, 0, none⟩) (Kd.S_types f9.out fK.out (by decide)) (fun _ hk => hk.2) (.int .i64 lZ)) (fun _ hk => hk.2) (.slice oC kg.length oD)) (fun _ hk => hk.1)))⟩; have n2_ : Aside0 (vQ.heap[bo]? = some (.cells #[.int .i64 eB, .int .i64 eC, .slice none 0 0] 53 (0, 0))) := ⟨(by rw [hw]; exact (bf_ ap))⟩; have d5 : Aside0 (vQ.heap[dD]? = some (.cells #[.int .i64 (rd bA 0), .int .i64 (rd bA 1), .slice mQ aG.length mR] 53 (0, 0))) := ⟨(by rw [hw]; exact (bf_ av))⟩; have lh : Aside0 (vQ.heap[cD]? = some (.cells #[.int .i64 lZ, .slice oC kg.length oD] 56 (0, 0))) := ⟨(by rw [hw]; exact (bq_ fK))⟩; have ll : Aside0 (IsS80 w0 vQ g ak qt ay az aA aC qu) := ⟨(by rw [hw]; exact ax31_)⟩; have mP : Aside0 (KeepBut w vQ g none) := ⟨(by rw [hw]; exact ax40_)⟩; have xo : Aside0 (Below w0.heap.size w0 vQ) := ⟨(by rw [hw]; exact ax25_)⟩; clear hw; clear ar; clear f9; clear ap; clear av; clear fK; clear ba; clear HK; clear HB; have ar := b8; have f9 := dE; have ap := n2_; have av := d5; have fK := lh; have ba := ll; have HK := mP; have HB := xo; clear b8 dE n2_ d5 lh ll mP xo; have Qh := cellsF3 av.out; have Qi := cellsF2 fK.out) | ((with_reducible refine gate_builtin (b := .append) (xs := #[.tmp 96, .tmp 98]) rfl ?_); at_builtin; refine Kd.S_append k56 w.heap.size rfl (.tmp 96) (.tmp 98) 51 56 (.agg #[(.int .i64 0), (.slice none 0 0)]) 32 rfl Tryz.underlying51 info56 rfl (by decide) (by omega) (.slice mQ aG.length mR) aG (⟨lZ, kg⟩ : S56) [.int .i64 lZ, .slice oC kg.length oD] (fun k_ => k_ ≠ cD) (fun k_ => jO ≤ k_ ∧ (fun k_ => k_ ≠ cD) k_) rfl rfl ?aP (fun k_ hk_ => ⟨hk_.2, fun e_ => Nat.not_le.2 (by have g_ := (Kd.S_R ar.out).1 k_ e_.symm; first | exact g_.1.1 | exact g_.1 | exact g_.1.1.1) hk_.1⟩) ?aF ?aO (Below.refl _ _) ?aS ?aL ?_; (case aP => exact k56_mkM _ _ _ (⟨lZ, kg⟩ : S56) (Kd.S_mono (Kd.S_types (Kd.S_apart' (f9.out) (Kd.S_typed ar.out) (by decide)) fK.out (by decide)) (fun k_ hk => ⟨(by first | exact hk.1.1 | exact hk.1 | exact hk.1.1.1), (show ((fun k_ => k_ ≠ cD)) k_ ∧ some k_ ≠ (.slice mQ aG.length mR : Value).ownBlock from ⟨hk.2, hk.1.2⟩).1⟩))); (case aF => exact (fun k_ hk => Kd.freshB (g := cD) (o := .cells #[.int .i64 lZ, .slice oC kg.length oD] 56 (0, 0)) (bk_ fK) k_ hk)); (case aO => exact (by (with_reducible repeat (first | apply Kd.S_alloc | apply Kd.S_drewN | apply Kd.S_drew)); exact Kd.S_mono ar.out (fun k_ hk => ⟨hk.2.2, fun vO => Nat.not_le.2 hk.1 vO.1⟩))); (case aS => exact (keep_size (w := w) (g := g) (row := none) ax40_)); (case aL => have := NW.out; omega); intro a07 w80 ho hb hg hat; rw [← NX.out] at ho; replace ap := am_ (bg_ ap hg (Kd.S_ne ar.out ap.out (by decide))); replace av := am_ (bg_ av hg (Kd.S_ne ar.out av.out (by decide))); replace fK := am_ (bg_ fK hg (Kd.S_away ar.out (fun _ hk => hk.2.2))); replace HB := am_ (below_weaken ax25_ HL.out hb); replace ba := am_ (IsS80.grown ax31_ hg (IsS80.own_neS ba.out ar.out (by decide))); replace HK := am_ (KeepBut.trans ax40_ (KeepBut.of_grown hg g) (Kd.S_base2 ar.out)); have Et := am_ (ho); clear ar f9; clear ho hb hg hat; obtain ⟨o5, o6, Ag⟩ := Kd.S_slice Et.out; subst Ag; have AG := cellsF3 av.out))
        go_roundg NM
        case measure => have := Ew.out; have := HK2.out; have := NL.out; omega
        case rel => exact ⟨(qt), (qu), (eB), (eC), (C1), (.slice o5 C1.length o6), H', ⟨by have := Ew.out; have := HK2.out; have := NL.out; omega⟩, ⟨by (with_reducible repeat (first | apply Kd.S_alloc | apply Kd.S_drewN | apply Kd.S_drew)); exact Kd.S_mono (Kd.S_far (p := ⟨dD, 2, none⟩) (Kd.S_types Et.out av.out (by decide)) (fun _ hk => hk.2) (.slice o5 C1.length o6)) (fun _ hk => trivial)⟩, ⟨bf_ ap⟩, ⟨bq_ av⟩, ⟨ax31_⟩, ⟨ax40_⟩, ⟨ax25_⟩⟩
       replace H := bi_ H; rcases H with ⟨⟨a08, a09, a1a⟩, Uu, H⟩
       simp only [Option.some.injEq, Prod.mk.injEq] at H
       obtain ⟨rfl, rfl, rfl, rfl, rfl, rfl⟩ := H
       try go_wp2
       replace ar := am_ (Kd.S_drew ar.out)
       replace ap := bd_ ap
       replace av := bd_ av
       replace ba := am_ (IsS80.drew ba.out)
       replace HK := am_ (keep_drew HK.out)
       replace HB := am_ (below_drew1 HB.out)
       obtain ⟨zu, zw, Eu⟩ := Kd.S_slice ar.out
       (first | subst Eu | (injection Eu with b9 dT cd; have dU := b9.symm; have dV := cd.symm; clear b9 dT cd; subst dU; subst dV))
       refine start_ (n := 10) (S := fun w' => w'.cell? ⟨dD, 0, none⟩ = some (.int .i64 (rd bA 0)) ∧ w'.cell? ⟨dD, 1, none⟩ = some (.int .i64 (rd bA 1)) ∧ w'.cell? ⟨dD, 2, none⟩ = some (.slice zu aG.length zw)) (ds := []) (bs 10 0) (by kernel_rfl) rfl rfl ⟨(blk_cell av.out 0).trans rfl, (blk_cell av.out 1).trans rfl, (blk_cell av.out 2).trans rfl⟩ (fun hHeld => ?_); refine with_tabW F49.tab17 F49.bits17 (fun HT_ HW_ => ?_)
       generalize wc.drew = a1b at ar ap av ba HK HB hHeld ⊢
       refine pq_ 1 HT_ ?_
       refine pq_ 2 HT_ ?_
       refine pq_ 5 HT_ ?_
       refine tq_ 0 HT_ HW_ hHeld rfl ax54_ ?_
       refine tq_ 3 HT_ HW_ hHeld rfl ax54_ ?_
       refine pq_ 4 HT_ ?_
       refine tq_ 6 HT_ HW_ hHeld rfl ax54_ ?_
       refine oq_ 7 HT_ (fun K hK => ?_)
       refine gr_ Tryz.func50 #[.pointer (some ⟨g, 0, none⟩), .string (⟨#[71, 82, 84]⟩ : ByteArray), .int .i64 (aG.length : Int), .int .i64 (rd bA 1)] (by rfl) ?_ rfl rfl rfl
       with_reducible refine (F50.calls w0 ?s1 ?s2 Uu.out).mono ?_
       (case s1 => exact au9_1)
       (case s2 => exact ax26_)
       rintro e H5 ⟨rfl, hi, hb, hk⟩
       refine ⟨_, rfl, ?_⟩
       replace ar := IsS80.kS hk ax31_ ax4_
       replace ap := ka_ hk ap bW
       replace av := ka_ hk av bl
       replace HK := am_ (KeepBut.trans ax41_ hk (.inl rfl))
       replace HB := am_ (hb)
       replace ba := am_ (hi)
       (try clear hb)
       (try clear hk)
       (try clear hi)
       refine hK.out _ _ ⟨(blk_cell av.out 0).trans rfl, (blk_cell av.out 1).trans rfl, (blk_cell av.out 2).trans rfl⟩ (fun hHeld => ?_)
       clear hK K
       refine no_ 108 ?_
       refine oq_ 8 HT_ (fun K hK => ?_)
       have XL : H5.cell? ⟨bo, 0, none⟩ = some (.int .i64 eB) := (blk_cell ap.out 0).trans rfl
       have Uv := blk_frozen ap.out 0
       obtain ⟨NY, NZ⟩ := nn_ aQ
       have XM : H5.cell? ⟨bo, 1, none⟩ = some (.int .i64 eC) := (blk_cell ap.out 1).trans rfl
       have Uw := blk_frozen ap.out 1
       obtain ⟨N6, N7⟩ := nn_ aQ
       have XN : H5.cell? ⟨bo, 2, none⟩ = some (.slice none 0 0) := (blk_cell ap.out 2).trans rfl
       have Ux := blk_frozen ap.out 2
       obtain ⟨N8, N9⟩ := nn_ aQ
       refine skip_ (w1 := ?_) (by rfl) rfl ?_ ?_
       rotate_left
       ·go_simp
        rfl
       refine hK.out _ _ ⟨((cell_far (p := ⟨bo, _, none⟩) aQ.out _).trans (((cell_far (p := ⟨bo, _, none⟩) aQ.out _).trans (((cell_far (p := ⟨bo, _, none⟩) aQ.out _).trans (hHeld.1)))))), ((cell_far (p := ⟨bo, _, none⟩) aQ.out _).trans (((cell_far (p := ⟨bo, _, none⟩) aQ.out _).trans (((cell_far (p := ⟨bo, _, none⟩) aQ.out _).trans (hHeld.2.1)))))), ((cell_far (p := ⟨bo, _, none⟩) aQ.out _).trans (((cell_far (p := ⟨bo, _, none⟩) aQ.out _).trans (((cell_far (p := ⟨bo, _, none⟩) aQ.out _).trans (hHeld.2.2))))))⟩ (fun hHeld => ?_)
       clear hK K
       refine pq_ 9 HT_ ?_
       refine done_ (done_of HT_.out (by kernel_rfl)) ?_
       try go_wp2
       refine bodyPost_ret (results_ct rfl _ _ bo 53 #[.int .i64 (rd bA 0), .int .i64 (rd bA 1), .slice zu aG.length zw] (0, 0) _ rfl (bq_ ap) Tryz.underlying53 rfl (by kernel_rfl)) rfl ?_
       exact ⟨_, ax11_, by (with_reducible repeat (first | apply Kd.S_alloc | apply Kd.S_drewN | apply Kd.S_drew)); exact Kd.S_mono (Kd.S_far (p := ⟨bo, 2, none⟩) (Kd.S_far (p := ⟨bo, 1, none⟩) (Kd.S_far (p := ⟨bo, 0, none⟩) (Kd.S_types ar.out ap.out (by decide)) (fun _ hk => hk.2) (.int .i64 (rd bA 0))) (fun _ hk => hk.2) (.int .i64 (rd bA 1))) (fun _ hk => hk.2) (.slice zu aG.length zw)) (fun _ hk => trivial), ax31_, ax26_, ax41_⟩
def sx_dv : Value := .bool false
section
variable (b0 b1 b2 b3 d0 d1 d2 d3 : Value)
theorem sx_tag (G : List S49) (a c : Int) : F47.f G a b0 b1 b2 b3 c = F47.f G a d0 d1 d2 d3 c := rfl
theorem sx_need (G : List S49) (a c : Int) (o : Bool) (e : Int) : F48.f G a b0 b1 b2 b3 c o e = F48.f G a d0 d1 d2 d3 c o e := rfl
theorem sx_ends (k : Nat) (G : List S49) (a c : Int) (t : ByteArray) (n m : Int) : F50.f k G a b0 b1 b2 b3 c t n m = F50.f k G a d0 d1 d2 d3 c t n m := by cases k <;> rfl
theorem sx_msgl : ∀ k : Nat, (∀ x y G a c n, F87.j0 k x y G a b0 b1 b2 b3 c n = F87.j0 k x y G a d0 d1 d2 d3 c n) ∧ (∀ G a c n B, F87.l0 k G a b0 b1 b2 b3 c n B = F87.l0 k G a d0 d1 d2 d3 c n B) ∧ (∀ y G a c n B, F87.j2 k y G a b0 b1 b2 b3 c n B = F87.j2 k y G a d0 d1 d2 d3 c n B) ∧ (∀ y G a c n B, F87.j3 k y G a b0 b1 b2 b3 c n B = F87.j3 k y G a d0 d1 d2 d3 c n B)
 | 0 => ⟨fun _ _ _ _ _ _ => rfl, fun _ _ _ _ _ => rfl, fun _ _ _ _ _ _ => rfl, fun _ _ _ _ _ _ => rfl⟩
 | k + 1 => by
  obtain ⟨i1, i2, i3, i4⟩ := sx_msgl k
  refine ⟨fun x y G a c n => ?_, fun G a c n B => ?_, fun y G a c n B => ?_, fun y G a c n B => ?_⟩
  ·simp only [F87.j0, i2]
  ·simp only [F87.l0, i3, sx_tag b0 b1 b2 b3 d0 d1 d2 d3]
  ·simp only [F87.j2, i4, sx_need b0 b1 b2 b3 d0 d1 d2 d3, sx_ends b0 b1 b2 b3 d0 d1 d2 d3]
  ·simp only [F87.j3, i2]
theorem sx_msg (k : Nat) (G : List S49) (a c : Int) : F87.f k G a b0 b1 b2 b3 c = F87.f k G a d0 d1 d2 d3 c := by
 obtain ⟨i1, -⟩ := sx_msgl b0 b1 b2 b3 d0 d1 d2 d3 k
 simp only [F87.f, i1, sx_tag b0 b1 b2 b3 d0 d1 d2 d3, sx_need b0 b1 b2 b3 d0 d1 d2 d3]
theorem sx_bunl : ∀ k : Nat, (∀ x y G a c n m, F49.j0 k x y G a b0 b1 b2 b3 c n m = F49.j0 k x y G a d0 d1 d2 d3 c n m) ∧ (∀ G a c n m B, F49.l0 k G a b0 b1 b2 b3 c n m B = F49.l0 k G a d0 d1 d2 d3 c n m B) ∧ (∀ y G a c n m B, F49.j2 k y G a b0 b1 b2 b3 c n m B = F49.j2 k y G a d0 d1 d2 d3 c n m B)
 | 0 => ⟨fun _ _ _ _ _ _ _ => rfl, fun _ _ _ _ _ _ => rfl, fun _ _ _ _ _ _ _ => rfl⟩
 | k + 1 => by
  obtain ⟨i1, i2, i3⟩ := sx_bunl k
  refine ⟨fun x y G a c n m => ?_, fun G a c n m B => ?_, fun y G a c n m B => ?_⟩
  ·simp only [F49.j0, i2]
  ·simp only [F49.l0, i3, sx_tag b0 b1 b2 b3 d0 d1 d2 d3]
  ·simp only [F49.j2, i2, sx_need b0 b1 b2 b3 d0 d1 d2 d3, sx_msg b0 b1 b2 b3 d0 d1 d2 d3, sx_ends b0 b1 b2 b3 d0 d1 d2 d3]
theorem sx_bun (k : Nat) (G : List S49) (a c : Int) : F49.f k G a b0 b1 b2 b3 c = F49.f k G a d0 d1 d2 d3 c := by
 obtain ⟨i1, -⟩ := sx_bunl b0 b1 b2 b3 d0 d1 d2 d3 k
 simp only [F49.f, i1, sx_tag b0 b1 b2 b3 d0 d1 d2 d3, sx_need b0 b1 b2 b3 d0 d1 d2 d3]
end
def spec_ixl (G : List S49) : Nat → Int → Int → List S53 → Option (Int × Int × List S53)
  | 0, _, _, _ => none
  | k + 1, a, c, L => (F47.f G a sx_dv sx_dv sx_dv sx_dv c).bind fun t => if c = 0 ∧ ((L.length : Int) = 0 ∨ t.toList = ([71, 82, 72] : List UInt8)) then (F48.f G a sx_dv sx_dv sx_dv sx_dv c (decide ((L.length : Int) < 5)) 3).bind fun n => (if n.1 = true then (F49.f k G n.2.1 sx_dv sx_dv sx_dv sx_dv n.2.2).bind fun b => (if b.2.2.2.1 = true then (if L.length < 3518437208883 then spec_ixl G k b.2.2.2.2.1 b.2.2.2.2.2 (L ++ [(⟨b.1, b.2.1, b.2.2.1⟩ : S53)]) else none) else some (b.2.2.2.2.1, b.2.2.2.2.2, L)) else some (n.2.1, n.2.2, L)) else some (a, c, L)
def F20.f (k : Nat) (G : List S49) : Option (ByteArray × ByteArray × Int × (List S53) × Bool × Int × Int) := (F46.f k G).bind fun h => if h.2.2.2.2.2.2 = 0 then (spec_ixl G k 1 0 []).bind fun q => (if q.2.1 = 0 then (F50.f k G q.1 sx_dv sx_dv sx_dv sx_dv q.2.1 (⟨#[73, 88, 84]⟩ : ByteArray) (q.2.2.length : Int) h.2.2.1).bind fun e => (if e.1 = true then (if e.2.1 < (G.length : Int) then some (e.2.1, 3) else some e.2) else some e.2) else some (q.1, q.2.1)).bind fun z => (if z.2 = 0 then some (h.1, h.2.1, h.2.2.1, q.2.2, true, 0, 0) else some (h.1, h.2.1, h.2.2.1, [], true, z.1, z.2)) else some h
theorem spec_ixl.mono (G : List S49) : ∀ (k : Nat) (a c : Int) (L : List S53), LeO (spec_ixl G k a c L) (spec_ixl G (k + 1) a c L)
 | 0, _, _, _ => fun r h => by simp [spec_ixl] at h
 | k + 1, a, c, L => by
  have ih := spec_ixl.mono G k
  rw [spec_ixl, spec_ixl]
  repeat' with_reducible first | exact ih _ _ _ | exact F49.mono _ _ _ _ _ _ _ _ | exact LeO.refl _ | exact LeO.none _ | refine LeO.ite ?_ ?_ | refine LeO.bind ?_ (fun _ => ?_)
theorem sx_far {α : Type} {d : Kd α} {e g : Nat} {W : World} {ok : Nat → Prop} {v : Value} {xs : List α} (h : Kd.S d e W (g + 1) ok v xs) (i : Nat) (u : Value) : Kd.S d e (W.setCell ⟨g, i, none⟩ u) (g + 1) ok v xs :=
 Kd.S_mono (Kd.S_move (Kd.S_bound h) (fun k hk => Below.heap_setCell W ⟨g, i, none⟩ u k (by have := hk.2.1; show k ≠ g; omega))) (fun k hk => hk.1)
theorem sx_mv {α : Type} {d : Kd α} {e b : Nat} {W : World} {ok : Nat → Prop} {v : Value} {xs : List α} (h : Kd.S d e W b ok v xs) {g i : Nat} (hg : g < b) (u : Value) : Kd.S d e (W.setCell ⟨g, i, none⟩ u) b ok v xs :=
 Kd.S_mono (Kd.S_move (Kd.S_bound h) (fun k hk => Below.heap_setCell W ⟨g, i, none⟩ u k (by have := hk.2.1; show k ≠ g; omega))) (fun k hk => hk.1)
def RX (w W : World) (g2 g3 g : Nat) (G : List S49) (a : Int) (h1 h2 : ByteArray) (h3 : Int) (h5 : Bool) (h6 : Int) (vB : Value) (L : List S53) (c : Int) : Prop :=
  W.heap[g2]? = some (.cells #[.string (⟨#[]⟩ : ByteArray), .string (⟨#[]⟩ : ByteArray), .int .i64 0, .slice none 0 0, .bool false, .int .i64 0, .int .i64 0] 41 (0, 0)) ∧ W.heap[g3]? = some (.cells #[.string h1, .string h2, .int .i64 h3, .slice none 0 0, .bool h5, .int .i64 h6, .int .i64 0] 41 (0, 0)) ∧ IsS80 w W g G a (.string h1) (.string h2) (.int .i64 h3) vB c ∧ Kd.S k53 53 W (g + 1) (fun _ => True) vB L ∧ Below w.heap.size w W ∧ g2 < g3 ∧ g3 < g ∧ w.heap.size ≤ g2
def RY (w W : World) (g2 g3 g gb b : Nat) (G : List S49) (a : Int) (h1 h2 : ByteArray) (h3 : Int) (h5 : Bool) (h6 : Int) (vB : Value) (L : List S53) (c : Int) (v2 : Value) (ms : List S56) : Prop :=
  W.heap[g2]? = some (.cells #[.string (⟨#[]⟩ : ByteArray), .string (⟨#[]⟩ : ByteArray), .int .i64 0, .slice none 0 0, .bool false, .int .i64 0, .int .i64 0] 41 (0, 0)) ∧ W.heap[g3]? = some (.cells #[.string h1, .string h2, .int .i64 h3, .slice none 0 0, .bool h5, .int .i64 h6, .int .i64 0] 41 (0, 0)) ∧ IsS80 w W g G a (.string h1) (.string h2) (.int .i64 h3) vB c ∧ Kd.S k53 53 W (g + 1) (fun k => k < b ∧ k ≠ gb) vB L ∧ Kd.S k56 56 W (g + 1) (fun k => b ≤ k ∧ k ≠ gb) v2 ms ∧ Below w.heap.size w W ∧ g2 < g3 ∧ g3 < g ∧ w.heap.size ≤ g2
section
variable {w W W' : World} {g2 g3 g gb b : Nat} {G : List S49} {a a' : Int} {h1 h2 : ByteArray} {h3 : Int} {h5 : Bool} {h6 : Int} {vB v2 : Value} {L : List S53} {c c' : Int} {ms : List S56}
theorem rx_drewN (m : Nat) (h : RX w W g2 g3 g G a h1 h2 h3 h5 h6 vB L c) : RX w (W.drewN m) g2 g3 g G a h1 h2 h3 h5 h6 vB L c := by
 obtain ⟨x2, x3, xi, xs, xb, n⟩ := h
 exact ⟨x2, x3, xi.drewN m, Kd.S_drewN xs _, pw_below_drewN xb _, n⟩
theorem rx_drew (h : RX w W g2 g3 g G a h1 h2 h3 h5 h6 vB L c) : RX w W.drew g2 g3 g G a h1 h2 h3 h5 h6 vB L c := by
 obtain ⟨x2, x3, xi, xs, xb, n⟩ := h
 exact ⟨blk_drew x2, blk_drew x3, xi.drew, Kd.S_drew xs, below_drew1 xb, n⟩
theorem rx_call (h : RX w W g2 g3 g G a h1 h2 h3 h5 h6 vB L c) (hi : IsS80 w W' g G a' (.string h1) (.string h2) (.int .i64 h3) vB c') (hb : Below w.heap.size w W') (hk : KeepBut W W' g none) : RX w W' g2 g3 g G a' h1 h2 h3 h5 h6 vB L c' := by
 obtain ⟨x2, x3, xi, xs, xb, n1, n2, n3⟩ := h
 exact ⟨KeepBut.blk hk x2 (by omega) (by simp), KeepBut.blk hk x3 (by omega) (by simp), hi, Kd.S_mono (Kd.S_keep (IsS80.apartS xi xs (by decide)) hk (fun _ h => h.2)) (fun _ h => h.1), hb, n1, n2, n3⟩
theorem rx_bundle (h : RX w W g2 g3 g G a h1 h2 h3 h5 h6 vB L c) (hi : IsS80 w W' g G a' (.string h1) (.string h2) (.int .i64 h3) vB c') (hb : Below w.heap.size w W') (hk : KeepBut W W' g none) (ho : Kd.S k56 56 W' W.heap.size (fun _ => True) v2 ms) : ∃ b, RY w W' g2 g3 g W'.heap.size b G a' h1 h2 h3 h5 h6 vB L c' v2 ms := by
 obtain ⟨x2, x3, xi, xs, xb, n1, n2, n3⟩ := h
 refine ⟨W.heap.size, KeepBut.blk hk x2 (by omega) (by simp), KeepBut.blk hk x3 (by omega) (by simp), hi, Kd.S_mono (Kd.S_bound (Kd.S_oldK (IsS80.apartS xi xs (by decide)) hk)) (fun _ h => ⟨h.1.2, by have := h.2.2.1; omega⟩), Kd.S_lower (Kd.S_mono (Kd.S_bound ho) (fun _ h => ⟨h.2.1, by have := h.2.2.1; omega⟩)) (by have := xi.lt; omega), hb, n1, n2, n3⟩
theorem ry_box (h : RY w W g2 g3 g W.heap.size b G a h1 h2 h3 h5 h6 vB L c v2 ms) (hg : gb = W.heap.size) (hb : Below W.heap.size W W') : RY w W' g2 g3 g gb b G a h1 h2 h3 h5 h6 vB L c v2 ms := by
 subst hg
 obtain ⟨x2, x3, xi, xs, xm, xb, n⟩ := h
 exact ⟨blk_below x2 hb, blk_below x3 hb, xi.below hb, Kd.S_below xs hb, Kd.S_below xm hb, below_step xb hb, n⟩
theorem ry_set (h : RY w W g2 g3 g gb b G a h1 h2 h3 h5 h6 vB L c v2 ms) (hg : g < gb) (i : Nat) (u : Value) : RY w (W.setCell ⟨gb, i, none⟩ u) g2 g3 g gb b G a h1 h2 h3 h5 h6 vB L c v2 ms := by
 obtain ⟨x2, x3, xi, xs, xm, xb, n1, n2, n3⟩ := h
 exact ⟨blk_far (p := ⟨gb, i, none⟩) x2 (by show g2 ≠ gb; omega) _, blk_far (p := ⟨gb, i, none⟩) x3 (by show g3 ≠ gb; omega) _, xi.far (p := ⟨gb, i, none⟩) (by show g ≠ gb; omega) _, Kd.S_far (p := ⟨gb, i, none⟩) xs (fun _ hk => hk.2) _, Kd.S_far (p := ⟨gb, i, none⟩) xm (fun _ hk => hk.2) _, below_set (j := i) xb (by omega), n1, n2, n3⟩
theorem ry_rx (h : RY w W g2 g3 g gb b G a h1 h2 h3 h5 h6 vB L c v2 ms) : RX w W g2 g3 g G a h1 h2 h3 h5 h6 vB L c := by
 obtain ⟨x2, x3, xi, xs, xm, xb, n⟩ := h
 exact ⟨x2, x3, xi, Kd.S_mono xs (fun _ _ => trivial), xb, n⟩
theorem rx_put (h : RX w W g2 g3 g G a h1 h2 h3 h5 h6 vB L c) {v6 : Value} {L' : List S53} (hb : Below (g + 1) W W') (ho : Kd.S k53 53 W' (g + 1) (fun _ => True) v6 L') : RX w (W'.setCell ⟨g, 5, none⟩ v6) g2 g3 g G a h1 h2 h3 h5 h6 v6 L' c := by
 obtain ⟨x2, x3, ⟨A0, c0, xi, xg, xc⟩, xs, xb, n1, n2, n3⟩ := h
 exact ⟨blk_far (p := ⟨g, 5, none⟩) ((hb.block g2 (by omega)).trans x2) (by show g2 ≠ g; omega) _, blk_far (p := ⟨g, 5, none⟩) ((hb.block g3 (by omega)).trans x3) (by show g3 ≠ g; omega) _, ⟨A0, c0, blk_put ((hb.block g (by omega)).trans xi) 5 _ rfl, xg, xc⟩, sx_far ho 5 _, below_set (j := 5) (xb.trans (hb.mono (by omega))) (by omega), n1, n2, n3⟩
theorem rx_code (h : RX w W g2 g3 g G a h1 h2 h3 h5 h6 vB L c) (e : Int) : RX w (W.setCell ⟨g, 6, none⟩ (.int .i64 e)) g2 g3 g G a h1 h2 h3 h5 h6 vB L e := by
 obtain ⟨x2, x3, ⟨A0, c0, xi, xg, xc⟩, xs, xb, n1, n2, n3⟩ := h
 exact ⟨blk_far (p := ⟨g, 6, none⟩) x2 (by show g2 ≠ g; omega) _, blk_far (p := ⟨g, 6, none⟩) x3 (by show g3 ≠ g; omega) _, ⟨A0, c0, blk_put xi 6 _ rfl, xg, xc⟩, sx_far xs 6 _, below_set (j := 6) xb (by omega), n1, n2, n3⟩
theorem rx_slice (h : RX w W g2 g3 g G a h1 h2 h3 h5 h6 vB L c) : ∃ A n, vB = .slice A L.length n := Kd.S_slice h.2.2.2.1
theorem rx_cells (h : RX w W g2 g3 g G a h1 h2 h3 h5 h6 vB L c) : W.cell? ⟨g, 1, none⟩ = some (.int .i64 a) ∧ W.cell? ⟨g, 2, none⟩ = some (.string h1) ∧ W.cell? ⟨g, 3, none⟩ = some (.string h2) ∧ W.cell? ⟨g, 4, none⟩ = some (.int .i64 h3) ∧ W.cell? ⟨g, 5, none⟩ = some vB ∧ W.cell? ⟨g, 6, none⟩ = some (.int .i64 c) ∧ W.frozen? ⟨g, 5, none⟩ = false ∧ W.frozen? ⟨g, 6, none⟩ = false := by
 obtain ⟨x2, x3, ⟨A0, c0, xi, xg, xc⟩, xs, -⟩ := h
 exact ⟨(blk_cell xi 1).trans rfl, (blk_cell xi 2).trans rfl, (blk_cell xi 3).trans rfl, (blk_cell xi 4).trans rfl, (blk_cell xi 5).trans rfl, (blk_cell xi 6).trans rfl, blk_frozen xi 5, blk_frozen xi 6⟩
theorem rx_at (h : RX w W g2 g3 g G a h1 h2 h3 h5 h6 vB L c) (hb : Below (g + 1) W W') : W'.cell? ⟨g, 5, none⟩ = some vB ∧ W'.frozen? ⟨g, 5, none⟩ = false := by
 obtain ⟨x2, x3, ⟨A0, c0, xi, xg, xc⟩, xs, -⟩ := h
 have y := (hb.block g (by omega)).trans xi
 exact ⟨(blk_cell y 5).trans rfl, blk_frozen y 5⟩
theorem ry_drewN (m : Nat) (h : RY w W g2 g3 g gb b G a h1 h2 h3 h5 h6 vB L c v2 ms) : RY w (W.drewN m) g2 g3 g gb b G a h1 h2 h3 h5 h6 vB L c v2 ms := by
 obtain ⟨x2, x3, xi, xs, xm, xb, n⟩ := h
 exact ⟨x2, x3, xi.drewN m, Kd.S_drewN xs _, Kd.S_drewN xm _, pw_below_drewN xb _, n⟩
theorem ry_drew (h : RY w W g2 g3 g gb b G a h1 h2 h3 h5 h6 vB L c v2 ms) : RY w W.drew g2 g3 g gb b G a h1 h2 h3 h5 h6 vB L c v2 ms := by
 obtain ⟨x2, x3, xi, xs, xm, xb, n⟩ := h
 exact ⟨blk_drew x2, blk_drew x3, xi.drew, Kd.S_drew xs, Kd.S_drew xm, below_drew1 xb, n⟩
theorem ry_ {p : Prop} (Y : Aside0 (RY w W g2 g3 g gb b G a h1 h2 h3 h5 h6 vB L c v2 ms)) (h : RY w W g2 g3 g gb b G a h1 h2 h3 h5 h6 vB L c v2 ms → p := by intro hq_; (with_reducible repeat (first | exact hq_ | apply ry_drewN | apply ry_drew))) : p := h Y.out
theorem rx_ {p : Prop} (X : Aside0 (RX w W g2 g3 g G a h1 h2 h3 h5 h6 vB L c)) (h : RX w W g2 g3 g G a h1 h2 h3 h5 h6 vB L c → p := by intro hq_; (with_reducible repeat (first | exact hq_ | apply rx_drewN | apply rx_drew))) : p := h X.out
end
theorem sx_info53 : (Tryz.prog.info? 53).map (fun i => (i.zero, i.size, i.bytes)) = some (some (.agg #[(.int .i64 0), (.int .i64 0), (.slice none 0 0)]), 3, 40) := by kernel_rfl
section
variable {w W W' : World} {g2 g3 g gb b : Nat} {G : List S49} {a a' : Int} {h1 h2 : ByteArray} {h3 : Int} {h5 : Bool} {h6 : Int} {vB v2 : Value} {L : List S53} {c c' : Int} {ms : List S56}
def sx_st (W : World) (g2 : Nat) (u0 u1 u2 u3 u4 u5 u6 : Value) : World := ((((((W.setCell ⟨g2, 0, none⟩ u0).setCell ⟨g2, 1, none⟩ u1).setCell ⟨g2, 2, none⟩ u2).setCell ⟨g2, 3, none⟩ u3).setCell ⟨g2, 4, none⟩ u4).setCell ⟨g2, 5, none⟩ u5).setCell ⟨g2, 6, none⟩ u6
theorem rx_out (h : RX w W g2 g3 g G a h1 h2 h3 h5 h6 vB L c) (u0 u1 u2 u3 u4 u5 u6 : Value) : (sx_st W g2 u0 u1 u2 u3 u4 u5 u6).heap[g2]? = some (.cells #[u0, u1, u2, u3, u4, u5, u6] 41 (0, 0)) ∧ Below w.heap.size w (sx_st W g2 u0 u1 u2 u3 u4 u5 u6) ∧ Kd.S k53 53 (sx_st W g2 u0 u1 u2 u3 u4 u5 u6) w.heap.size (fun _ => True) vB L := by
 obtain ⟨x2, x3, xi, xs, xb, n1, n2, n3⟩ := h
 have z : g2 < g + 1 := by omega
 unfold sx_st
 exact ⟨blk_put (blk_put (blk_put (blk_put (blk_put (blk_put (blk_put x2 0 _ rfl) 1 _ rfl) 2 _ rfl) 3 _ rfl) 4 _ rfl) 5 _ rfl) 6 _ rfl, below_set (j := 6) (below_set (j := 5) (below_set (j := 4) (below_set (j := 3) (below_set (j := 2) (below_set (j := 1) (below_set (j := 0) xb n3) n3) n3) n3) n3) n3) n3, Kd.S_lower (sx_mv (sx_mv (sx_mv (sx_mv (sx_mv (sx_mv (sx_mv xs z _) z _) z _) z _) z _) z _) z _) (by omega)⟩
theorem rx_b (h : RX w W g2 g3 g G a h1 h2 h3 h5 h6 vB L c) : (W.cell? ⟨g2, 0, none⟩ = some (.string (⟨#[]⟩ : ByteArray)) ∧ W.cell? ⟨g2, 1, none⟩ = some (.string (⟨#[]⟩ : ByteArray)) ∧ W.cell? ⟨g2, 2, none⟩ = some (.int .i64 0) ∧ W.cell? ⟨g2, 3, none⟩ = some (.slice none 0 0) ∧ W.cell? ⟨g2, 4, none⟩ = some (.bool false) ∧ W.cell? ⟨g2, 5, none⟩ = some (.int .i64 0) ∧ W.cell? ⟨g2, 6, none⟩ = some (.int .i64 0)) ∧ (∀ j, W.frozen? ⟨g2, j, none⟩ = false) ∧ W.cell? ⟨g3, 0, none⟩ = some (.string h1) ∧ W.cell? ⟨g3, 1, none⟩ = some (.string h2) ∧ W.cell? ⟨g3, 2, none⟩ = some (.int .i64 h3) ∧ W.cell? ⟨g3, 3, none⟩ = some (.slice none 0 0) := by
 obtain ⟨x2, x3, -⟩ := h
 exact ⟨⟨(blk_cell x2 0).trans rfl, (blk_cell x2 1).trans rfl, (blk_cell x2 2).trans rfl, (blk_cell x2 3).trans rfl, (blk_cell x2 4).trans rfl, (blk_cell x2 5).trans rfl, (blk_cell x2 6).trans rfl⟩, fun j => blk_frozen x2 j, (blk_cell x3 0).trans rfl, (blk_cell x3 1).trans rfl, (blk_cell x3 2).trans rfl, (blk_cell x3 3).trans rfl⟩
end
def F20.T9 : Bool × List (List Nat × List Nat) := (true, [([], []), ([], []), ([1], [1]), ([2], [2]), ([3], [3]), ([4], [4]), ([], []), ([6], [6]), ([5, 7], [5, 7]), ([0, 0, 1, 2, 3, 4, 5, 6, 7, 8], [0]), ([9, 0, 1, 2, 3, 4, 5, 6, 7, 8], [9]), ([10, 0, 1, 2, 3, 4, 5, 6, 7, 8], [10]), ([11, 8, 8, 0, 1, 2, 3, 4, 5, 6, 7, 8], [8, 11])])
def F20.B9 : List Nat := [0, 0, 2, 6, 14, 30, 0, 64, 254, 511, 1023, 2047, 4095]
theorem F20.tab9 : rtab .any (opsOf Tryz.f20 9) = F20.T9 := by kernel_rfl
theorem F20.bits9 : waitsOk F20.T9.2 F20.B9 = true := by kernel_rfl
def F20.T10 : Bool × List (List Nat × List Nat) := (true, [([], []), ([0], [0]), ([1], [1]), ([2], [2]), ([3], [3]), ([4], [4]), ([5], [5]), ([5], [5]), ([7, 5], [5, 7]), ([8, 5], [5, 8]), ([9, 5], [5, 9]), ([10, 5], [5, 10]), ([11, 5], [5, 11]), ([5], [5]), ([13, 5], [5, 13]), ([14, 5], [5, 14]), ([15, 5], [5, 15]), ([16, 5], [5, 16]), ([6, 12, 17, 5, 5], [5, 6, 12, 17]), ([5, 18], [5, 18]), ([19, 18], [19]), ([20], [20]), ([21, 20], [20, 21]), ([22, 20], [20, 22]), ([23, 20], [20, 23]), ([20], [20]), ([25, 20], [20, 25]), ([24, 26, 20], [20, 24, 26]), ([20, 27], [20, 27])])
def F20.B10 : List Nat := [0, 1, 3, 7, 15, 31, 63, 63, 191, 447, 959, 1983, 4031, 63, 8255, 24639, 57407, 122943, 262143, 524287, 1048575, 2097151, 4194303, 8388607, 16777215, 2097151, 35651583, 134217727, 268435455]
theorem F20.tab10 : rtab .any (opsOf Tryz.f20 10) = F20.T10 := by kernel_rfl
theorem F20.bits10 : waitsOk F20.T10.2 F20.B10 = true := by kernel_rfl
def F20.T13 : Bool × List (List Nat × List Nat) := (true, [([], []), ([0], [0]), ([], []), ([2], [2]), ([3], [3]), ([4], [4]), ([], []), ([6], [6]), ([7], [7]), ([8], [8]), ([1, 5, 9], [1, 5, 9]), ([10, 0, 1, 2, 3, 4, 5, 6, 7, 8, 9, 10], [10])])
def F20.B13 : List Nat := [0, 1, 0, 4, 12, 28, 0, 64, 192, 448, 1023, 2047]
theorem F20.tab13 : rtab .any (opsOf Tryz.f20 13) = F20.T13 := by kernel_rfl
theorem F20.bits13 : waitsOk F20.T13.2 F20.B13 = true := by kernel_rfl
theorem F20.calls {k : Nat} {A0 : Option Addr} {c0 : Nat} {l0 : List (S49)} {r1 r2 : ByteArray} {r3 : Int} {r4 : List (S53)} {r5 : Bool} {r6 r7 : Int} {w : World} (bH : Kd.C k49 w A0 l0.length l0) (hc0 : l0.length ≤ c0) (h : F20.f k l0 = some (r1, r2, r3, r4, r5, r6, r7)) :
  Calls Tryz.prog 20 #[.slice A0 l0.length c0] w fun e w' => ∃ L7 : Value, e = .returned (.agg #[.string r1, .string r2, .int .i64 r3, L7, .bool r5, .int .i64 r6, .int .i64 r7]) ∧ Kd.S k53 53 w' w.heap.size (fun _ => True) L7 r4 ∧ Below w.heap.size w w' := by
 have Ff := Tryz.underlying41
 have gJ := Tryz.underlying30
 have a1c := Tryz.underlying26
 have a1d := Tryz.underlying28
 have a1e := Tryz.underlying80
 have mD := Tryz.underlying53
 have HR := am_ bH
 have HC := am_ hc0
 have HB := am_ (Below.refl w.heap.size w)
 have H := h
 unfold F20.f at H
 clear bH hc0 h
 replace H := Option.bind_eq_some_iff.mp H
 obtain ⟨⟨h1, h2, h3, h4, h5, h6, h7⟩, L8, H⟩ := H
 have A1 := am_ L8
 clear L8
 dsimp only at H
 by_cases c2 : h7 = 0
 rotate_left
 ·rw [if_neg c2] at H
  have c2b0 : (h7 == 0) = false := beq_eq_false_iff_ne.mpr c2
  have c2b1 : (h7 != 0) = true := bne_iff_ne.mpr c2
  clear c2
  simp only [Option.some.injEq, Prod.mk.injEq] at H
  obtain ⟨rfl, rfl, rfl, rfl, rfl, rfl, rfl⟩ := H
  go_enter Tryz.func20, Tryz.ntmps20
  go_wp2_with (first | ((with_reducible refine gate_dst (N := 2) rfl ?_); refine be_ 2 #[.string (⟨#[]⟩ : ByteArray), .string (⟨#[]⟩ : ByteArray), .int .i64 0, .slice none 0 0, .bool false, .int .i64 0, .int .i64 0] 41 ?_; intro g2 hgb w1 hbox hb; have fB := am_ (show w.heap.size ≤ g2 from by rw [hgb]; exact below_size ax28_); replace HB := am_ (below_step ax28_ hb); have B2 := am_ hbox; clear hbox hb; clear hgb) | (go_at_call 46; (with_reducible refine (F46.calls ?sd1 HC.out A1.out).mono ?_); (case sd1 => exact Kd.C_below HR.out ax28_);  rintro e w2 ⟨rfl, Ga, hb⟩; subst Ga; replace HB := am_ (below_step ax28_ hb); replace B2 := am_ (blk_below ax5_ hb); clear hb) | ((with_reducible refine gate_dst (N := 3) rfl ?_); refine be_ 3 #[.string (⟨#[]⟩ : ByteArray), .string (⟨#[]⟩ : ByteArray), .int .i64 0, .slice none 0 0, .bool false, .int .i64 0, .int .i64 0] 41 ?_; intro g3 hgb w3 hbox hb; have lY := blk_lt ax5_; have fZ := am_ (show w.heap.size ≤ g3 from by rw [hgb]; exact below_size ax28_); replace HB := am_ (below_step ax28_ hb); replace B2 := am_ (blk_below ax5_ hb); have B3 := am_ hbox; clear hbox hb; have N23s : g2 < g3 := (by rw [hgb]; exact lY); clear hgb; have Gb : w3.cell? ⟨g3, 0, none⟩ = some (.string (⟨#[]⟩ : ByteArray)) := (blk_cell B3.out 0).trans rfl; have pJ := blk_frozen B3.out 0; have hq1 : w3.cell? ⟨g3, 1, none⟩ = some (.string (⟨#[]⟩ : ByteArray)) := (blk_cell B3.out 1).trans rfl; have pK := blk_frozen B3.out 1; have hq2 : w3.cell? ⟨g3, 2, none⟩ = some (.int .i64 0) := (blk_cell B3.out 2).trans rfl; have pL := blk_frozen B3.out 2; have Gc : w3.cell? ⟨g3, 3, none⟩ = some (.slice none 0 0) := (blk_cell B3.out 3).trans rfl; have pM := blk_frozen B3.out 3; have Gd : w3.cell? ⟨g3, 4, none⟩ = some (.bool false) := (blk_cell B3.out 4).trans rfl; have pN := blk_frozen B3.out 4; have Ge : w3.cell? ⟨g3, 5, none⟩ = some (.int .i64 0) := (blk_cell B3.out 5).trans rfl; have pO := blk_frozen B3.out 5; have Gf : w3.cell? ⟨g3, 6, none⟩ = some (.int .i64 0) := (blk_cell B3.out 6).trans rfl; have pP := blk_frozen B3.out 6) | ((with_reducible refine gate_store (t := 41) (p := 3) rfl ?_); refine store_event (t := 41) (p := 3) (v := ?vo_) (w1 := (((((((w3.setCell ⟨g3, 0, none⟩ (.string h1)).setCell ⟨g3, 1, none⟩ (.string h2)).setCell ⟨g3, 2, none⟩ (.int .i64 h3)).setCell ⟨g3, 3, none⟩ (.slice none 0 0)).setCell ⟨g3, 4, none⟩ (.bool h5)).setCell ⟨g3, 5, none⟩ (.int .i64 h6)).setCell ⟨g3, 6, none⟩ (.int .i64 h7))) ?hg ?ho ?hn ?hr ?_; (case ho => rfl); (case hg => rfl); (case hn => rfl); (case hr => exact hr_); intro w4 hw; have fJ : g2 ≠ g3 := (by rintro rfl; have := N23s; omega); have d5 := am_ (show w4.heap[g3]? = some (.cells #[.string h1, .string h2, .int .i64 h3, .slice none 0 0, .bool h5, .int .i64 h6, .int .i64 h7] 41 (0, 0)) from by rw [hw]; exact (blk_put (blk_put (blk_put (blk_put (blk_put (blk_put (blk_put B3.out 0 _ rfl) 1 _ rfl) 2 _ rfl) 3 _ rfl) 4 _ rfl) 5 _ rfl) 6 _ rfl)); have n2_ := am_ (show w4.heap[g2]? = some (.cells #[.string (⟨#[]⟩ : ByteArray), .string (⟨#[]⟩ : ByteArray), .int .i64 0, .slice none 0 0, .bool false, .int .i64 0, .int .i64 0] 41 (0, 0)) from by rw [hw]; exact (blk_far (p := ⟨g3, 6, none⟩) (blk_far (p := ⟨g3, 5, none⟩) (blk_far (p := ⟨g3, 4, none⟩) (blk_far (p := ⟨g3, 3, none⟩) (blk_far (p := ⟨g3, 2, none⟩) (blk_far (p := ⟨g3, 1, none⟩) (blk_far (p := ⟨g3, 0, none⟩) B2.out fJ _) fJ _) fJ _) fJ _) fJ _) fJ _) fJ _)); have b8 := am_ (show Below w.heap.size w w4 from by rw [hw]; exact (below_set (j := 6) (below_set (j := 5) (below_set (j := 4) (below_set (j := 3) (below_set (j := 2) (below_set (j := 1) (below_set (j := 0) HB.out fZ.out) fZ.out) fZ.out) fZ.out) fZ.out) fZ.out) fZ.out)); clear hw HB B2 B3; clear Gb pJ hq1 pK hq2 pL Gc pM Gd pN Ge pO Gf pP; have HB := b8; have B2 := n2_; have B3 := d5; clear b8 n2_ d5; have bf : w4.cell? ⟨g3, 0, none⟩ = some (.string h1) := (blk_cell B3.out 0).trans rfl; have xS := blk_frozen B3.out 0; have ho1 : w4.cell? ⟨g3, 1, none⟩ = some (.string h2) := (blk_cell B3.out 1).trans rfl; have xT := blk_frozen B3.out 1; have ho2 : w4.cell? ⟨g3, 2, none⟩ = some (.int .i64 h3) := (blk_cell B3.out 2).trans rfl; have xU := blk_frozen B3.out 2; have wE : w4.cell? ⟨g3, 3, none⟩ = some (.slice none 0 0) := (blk_cell B3.out 3).trans rfl; have xV := blk_frozen B3.out 3; have L9 : w4.cell? ⟨g3, 4, none⟩ = some (.bool h5) := (blk_cell B3.out 4).trans rfl; have xW := blk_frozen B3.out 4; have Ma : w4.cell? ⟨g3, 5, none⟩ = some (.int .i64 h6) := (blk_cell B3.out 5).trans rfl; have xX := blk_frozen B3.out 5; have n5 : w4.cell? ⟨g3, 6, none⟩ = some (.int .i64 h7) := (blk_cell B3.out 6).trans rfl; have xY := blk_frozen B3.out 6; have HBx := HB.out; have B2x := B2.out; obtain ⟨hj0, hj1, hj2, Mb, Mc, Md, Me⟩ := c7_ B2x; have xZ := blk_frozen B2x 0; have ya := blk_frozen B2x 1; have yb := blk_frozen B2x 2; have yc := blk_frozen B2x 3; have yd := blk_frozen B2x 4; have ye := blk_frozen B2x 5; have yf := blk_frozen B2x 6) | ((with_reducible refine gate_store (t := 41) (p := 2) rfl ?_); refine store_event (t := 41) (p := 2) (v := ?vo_bN4) (w1 := (((((((w4.setCell ⟨g2, 0, none⟩ (.string h1)).setCell ⟨g2, 1, none⟩ (.string h2)).setCell ⟨g2, 2, none⟩ (.int .i64 h3)).setCell ⟨g2, 3, none⟩ (.slice none 0 0)).setCell ⟨g2, 4, none⟩ (.bool h5)).setCell ⟨g2, 5, none⟩ (.int .i64 h6)).setCell ⟨g2, 6, none⟩ (.int .i64 h7))) ?hg ?ho ?hn ?hr ?_; (case ho => rfl); (case hg => rfl); (case hn => rfl); (case hr => exact hr_); intro wf hw; have F2 := am_ (show wf.heap[g2]? = some (.cells #[.string h1, .string h2, .int .i64 h3, .slice none 0 0, .bool h5, .int .i64 h6, .int .i64 h7] 41 (0, 0)) from by rw [hw]; exact (blk_put (blk_put (blk_put (blk_put (blk_put (blk_put (blk_put B2x 0 _ rfl) 1 _ rfl) 2 _ rfl) 3 _ rfl) 4 _ rfl) 5 _ rfl) 6 _ rfl)); have FB := am_ (show Below w.heap.size w wf from by rw [hw]; exact (below_set (j := 6) (below_set (j := 5) (below_set (j := 4) (below_set (j := 3) (below_set (j := 2) (below_set (j := 1) (below_set (j := 0) HBx fB.out) fB.out) fB.out) fB.out) fB.out) fB.out) fB.out)); clear hw))
  go_wp2
  refine bodyPost_ret (results_cell_row rfl _ _ g2 41 #[.string h1, .string h2, .int .i64 h3, .slice none 0 0, .bool h5, .int .i64 h6, .int .i64 h7] (0, 0) _ rfl F2.out Tryz.underlying41 rfl (by kernel_rfl)) rfl ?_
  exact ⟨.slice none 0 0, rfl, Kd.S_nil _ _ _ _ _, FB.out⟩
 rw [if_pos c2] at H
 subst c2
 replace H := Option.bind_eq_some_iff.mp H
 obtain ⟨⟨q1, q2, q3⟩, Mf, H⟩ := H
 have A2 := am_ Mf
 clear Mf
 dsimp only at H
 have A3 := am_ H
 clear H
 go_enter Tryz.func20, Tryz.ntmps20
 go_upto_block 0 with (first | ((with_reducible refine gate_dst (N := 2) rfl ?_); refine be_ 2 #[.string (⟨#[]⟩ : ByteArray), .string (⟨#[]⟩ : ByteArray), .int .i64 0, .slice none 0 0, .bool false, .int .i64 0, .int .i64 0] 41 ?_; intro g2 hgb w1 hbox hb; have fB := am_ (show w.heap.size ≤ g2 from by rw [hgb]; exact below_size ax28_); replace HB := am_ (below_step ax28_ hb); have B2 := am_ hbox; clear hbox hb; clear hgb) | (go_at_call 46; (with_reducible refine (F46.calls ?sd1 HC.out A1.out).mono ?_); (case sd1 => exact Kd.C_below HR.out ax28_);  rintro e w2 ⟨rfl, Ga, hb⟩; subst Ga; replace HB := am_ (below_step ax28_ hb); replace B2 := am_ (blk_below ax5_ hb); clear hb) | ((with_reducible refine gate_dst (N := 3) rfl ?_); refine be_ 3 #[.string (⟨#[]⟩ : ByteArray), .string (⟨#[]⟩ : ByteArray), .int .i64 0, .slice none 0 0, .bool false, .int .i64 0, .int .i64 0] 41 ?_; intro g3 hgb w3 hbox hb; have lY := blk_lt ax5_; have fZ := am_ (show w.heap.size ≤ g3 from by rw [hgb]; exact below_size ax28_); replace HB := am_ (below_step ax28_ hb); replace B2 := am_ (blk_below ax5_ hb); have B3 := am_ hbox; clear hbox hb; have N23s : g2 < g3 := (by rw [hgb]; exact lY); clear hgb; have Gb : w3.cell? ⟨g3, 0, none⟩ = some (.string (⟨#[]⟩ : ByteArray)) := (blk_cell B3.out 0).trans rfl; have pJ := blk_frozen B3.out 0; have hq1 : w3.cell? ⟨g3, 1, none⟩ = some (.string (⟨#[]⟩ : ByteArray)) := (blk_cell B3.out 1).trans rfl; have pK := blk_frozen B3.out 1; have hq2 : w3.cell? ⟨g3, 2, none⟩ = some (.int .i64 0) := (blk_cell B3.out 2).trans rfl; have pL := blk_frozen B3.out 2; have Gc : w3.cell? ⟨g3, 3, none⟩ = some (.slice none 0 0) := (blk_cell B3.out 3).trans rfl; have pM := blk_frozen B3.out 3; have Gd : w3.cell? ⟨g3, 4, none⟩ = some (.bool false) := (blk_cell B3.out 4).trans rfl; have pN := blk_frozen B3.out 4; have Ge : w3.cell? ⟨g3, 5, none⟩ = some (.int .i64 0) := (blk_cell B3.out 5).trans rfl; have pO := blk_frozen B3.out 5; have Gf : w3.cell? ⟨g3, 6, none⟩ = some (.int .i64 0) := (blk_cell B3.out 6).trans rfl; have pP := blk_frozen B3.out 6) | ((with_reducible refine gate_store (t := 41) (p := 3) rfl ?_); refine store_event (t := 41) (p := 3) (v := ?vo_) (w1 := (((((((w3.setCell ⟨g3, 0, none⟩ (.string h1)).setCell ⟨g3, 1, none⟩ (.string h2)).setCell ⟨g3, 2, none⟩ (.int .i64 h3)).setCell ⟨g3, 3, none⟩ (.slice none 0 0)).setCell ⟨g3, 4, none⟩ (.bool h5)).setCell ⟨g3, 5, none⟩ (.int .i64 h6)).setCell ⟨g3, 6, none⟩ (.int .i64 0))) ?hg ?ho ?hn ?hr ?_; (case ho => rfl); (case hg => rfl); (case hn => rfl); (case hr => exact hr_); intro w4 hw; have fJ : g2 ≠ g3 := (by rintro rfl; have := N23s; omega); have d5 := am_ (show w4.heap[g3]? = some (.cells #[.string h1, .string h2, .int .i64 h3, .slice none 0 0, .bool h5, .int .i64 h6, .int .i64 0] 41 (0, 0)) from by rw [hw]; exact (blk_put (blk_put (blk_put (blk_put (blk_put (blk_put (blk_put B3.out 0 _ rfl) 1 _ rfl) 2 _ rfl) 3 _ rfl) 4 _ rfl) 5 _ rfl) 6 _ rfl)); have n2_ := am_ (show w4.heap[g2]? = some (.cells #[.string (⟨#[]⟩ : ByteArray), .string (⟨#[]⟩ : ByteArray), .int .i64 0, .slice none 0 0, .bool false, .int .i64 0, .int .i64 0] 41 (0, 0)) from by rw [hw]; exact (blk_far (p := ⟨g3, 6, none⟩) (blk_far (p := ⟨g3, 5, none⟩) (blk_far (p := ⟨g3, 4, none⟩) (blk_far (p := ⟨g3, 3, none⟩) (blk_far (p := ⟨g3, 2, none⟩) (blk_far (p := ⟨g3, 1, none⟩) (blk_far (p := ⟨g3, 0, none⟩) B2.out fJ _) fJ _) fJ _) fJ _) fJ _) fJ _) fJ _)); have b8 := am_ (show Below w.heap.size w w4 from by rw [hw]; exact (below_set (j := 6) (below_set (j := 5) (below_set (j := 4) (below_set (j := 3) (below_set (j := 2) (below_set (j := 1) (below_set (j := 0) HB.out fZ.out) fZ.out) fZ.out) fZ.out) fZ.out) fZ.out) fZ.out)); clear hw HB B2 B3; clear Gb pJ hq1 pK hq2 pL Gc pM Gd pN Ge pO Gf pP; have HB := b8; have B2 := n2_; have B3 := d5; clear b8 n2_ d5; have bf : w4.cell? ⟨g3, 0, none⟩ = some (.string h1) := (blk_cell B3.out 0).trans rfl; have xS := blk_frozen B3.out 0; have ho1 : w4.cell? ⟨g3, 1, none⟩ = some (.string h2) := (blk_cell B3.out 1).trans rfl; have xT := blk_frozen B3.out 1; have ho2 : w4.cell? ⟨g3, 2, none⟩ = some (.int .i64 h3) := (blk_cell B3.out 2).trans rfl; have xU := blk_frozen B3.out 2; have wE : w4.cell? ⟨g3, 3, none⟩ = some (.slice none 0 0) := (blk_cell B3.out 3).trans rfl; have xV := blk_frozen B3.out 3; have L9 : w4.cell? ⟨g3, 4, none⟩ = some (.bool h5) := (blk_cell B3.out 4).trans rfl; have xW := blk_frozen B3.out 4; have Ma : w4.cell? ⟨g3, 5, none⟩ = some (.int .i64 h6) := (blk_cell B3.out 5).trans rfl; have xX := blk_frozen B3.out 5; have n5 : w4.cell? ⟨g3, 6, none⟩ = some (.int .i64 0) := (blk_cell B3.out 6).trans rfl; have xY := blk_frozen B3.out 6) | ((with_reducible refine gate_dst (N := 17) rfl ?_); refine be_ 17 #[.slice A0 l0.length c0, .int .i64 1, .string h1, .string h2, .int .i64 h3, .slice none 0 0, .int .i64 0] 80 ?_; intro g4 hgb w5 hbox hb; have yg := blk_lt ax6_; have zA := am_ (show w.heap.size ≤ g4 from by rw [hgb]; exact below_size ax28_); replace HB := am_ (below_step ax28_ hb); replace B2 := am_ (blk_below ax5_ hb); replace B3 := am_ (blk_below ax6_ hb); have B4 := am_ hbox; clear hbox hb; have Mg : g3 < g4 := (by rw [hgb]; exact yg); clear hgb yg; clear bf xS ho1 xT ho2 xU wE xV L9 xW Ma xX n5 xY))
 have X : Aside0 (RX w w5 g2 g3 g4 l0 1 h1 h2 h3 h5 h6 (.slice none 0 0) [] 0) := ⟨B2.out, B3.out, ⟨A0, c0, B4.out, zA.out, HR.out⟩, Kd.S_nil _ _ _ _ _, HB.out, N23s, Mg, fB.out⟩
 clear B2 B3 B4 HB N23s Mg fJ
 go_cut [] (fun wc => ∃ vB : Value, Aside0 (RX w wc g2 g3 g4 l0 q1 h1 h2 h3 h5 h6 vB q3 q2))
 case first =>
  clear A3
  go_wp2
  go_loopg [] k (fun kq w' => ∃ (a c : Int) (L : List S53) (vB : Value), Aside0 (spec_ixl l0 kq a c L = some (q1, q2, q3)) ∧ Aside0 (kq ≤ k) ∧ Aside0 (RX w w' g2 g3 g4 l0 a h1 h2 h3 h5 h6 vB L c))
  case atStart => exact ⟨1, 0, [], .slice none 0 0, A2, ⟨Nat.le_refl _⟩, X⟩
  case round =>
   clear A2 X
   obtain ⟨a, c, L, vB, HA, cK, X⟩ := hrel
   cases gk with
   | zero => exact absurd HA.out (by simp [spec_ixl])
   | succ k1 =>
    have H := HA.out
    clear HA
    simp only [spec_ixl] at H
    replace H := Option.bind_eq_some_iff.mp H
    obtain ⟨t, u9, H⟩ := H
    have A4 := am_ u9
    clear u9
    have A5 := am_ H
    clear H
    obtain ⟨Ab, nb, rfl⟩ := rx_slice X.out
    obtain ⟨kV, dM, ku, gZ, fk, gE, ew, eU⟩ := rx_cells X.out
    go_upto_region 5 with (fail)
    go_cut [36] (fun v36 wc => ∃ D : Bool, v36 = .bool D ∧ Aside0 (D = decide (c = 0 ∧ ((L.length : Int) = 0 ∨ t.toList = ([71, 82, 72] : List UInt8)))) ∧ Aside0 (RX w wc g2 g3 g4 l0 a h1 h2 h3 h5 h6 (.slice Ab L.length nb) L c))
    case first =>
     by_cases c3 : c = 0
     rotate_left
     ·have c3b : (c == 0) = false := beq_eq_false_iff_ne.mpr c3
      go_wp2
      go_meet
      case rel => exact ⟨false, rfl, ⟨by simp [c3]⟩, ⟨rx_ X⟩⟩
     subst c3
     by_cases c4 : (L.length : Int) = 0
     rotate_left
     ·have c4b : ((L.length : Int) == 0) = false := beq_eq_false_iff_ne.mpr c4
      go_wp2_with (first | (go_at_call 47; (with_reducible refine (F47.calls w ?s1 ?s2 ((sx_tag (.string h1) (.string h2) (.int .i64 h3) (.slice Ab L.length nb) _ _ _ _ l0 a 0).trans A4.out)).mono ?_); (case s1 => exact au9_38); (case s2 => exact au9_35); rintro e w' ⟨rfl, ⟨nd, rfl⟩⟩))
      go_meet
      case rel => exact ⟨_, rfl, ⟨by rw [Bool.eq_iff_iff, decide_eq_true_iff, beq_iff_eq]; exact ⟨fun h => ⟨by trivial, .inr h⟩, fun h => h.2.resolve_left c4⟩⟩, ⟨rx_ X⟩⟩
     have c4b : ((L.length : Int) == 0) = true := beq_iff_eq.mpr c4
     go_wp2
     go_meet
     case rel => exact ⟨true, rfl, ⟨by simp [c4]⟩, ⟨rx_ X⟩⟩
    case rest =>
     clear kV dM ku gZ fk gE ew eU X
     obtain ⟨D, rfl, hD, X⟩ := hcut
     have H := A5.out
     clear A5
     cases D with
     | false =>
      rw [if_neg (of_decide_eq_false hD.out.symm)] at H
      simp only [Option.some.injEq, Prod.mk.injEq] at H
      obtain ⟨rfl, rfl, rfl⟩ := H
      go_wp2
      go_meet
      case rel => exact ⟨_, X⟩
     | true =>
      have y6 := of_decide_eq_true hD.out.symm
      rw [if_pos y6] at H
      obtain ⟨rfl, -⟩ := y6
      clear hD
      replace H := Option.bind_eq_some_iff.mp H
      obtain ⟨⟨n1, n2, n3⟩, lx, H⟩ := H
      have A6 := am_ lx
      clear lx
      dsimp only at H
      obtain ⟨kV, dM, ku, gZ, fk, gE, ew, eU⟩ := rx_cells X.out
      cases n1 with
      | false =>
       rw [if_neg (by decide)] at H
       simp only [Option.some.injEq, Prod.mk.injEq] at H
       obtain ⟨rfl, rfl, rfl⟩ := H
       go_wp2_with (first | (go_at_call 48; (with_reducible refine (F48.calls w ?s1 ?s2 ((sx_need (.string h1) (.string h2) (.int .i64 h3) (.slice Ab L.length nb) _ _ _ _ l0 a 0 _ 3).trans A6.out)).mono ?_); (case s1 => exact au9_38); (case s2 => exact au9_35); rintro e w6 ⟨rfl, hi, hb, hk⟩; replace X := am_ (rx_call (rx_ X) hi hb hk); clear A6; clear hi hb hk kV dM ku gZ fk gE ew eU; obtain ⟨kV, dM, ku, gZ, fk, gE, ew, eU⟩ := rx_cells X.out))
       go_meet
       case rel => exact ⟨_, ⟨rx_ X⟩⟩
      | true =>
       rw [if_pos rfl] at H
       replace H := Option.bind_eq_some_iff.mp H
       obtain ⟨⟨b1, b2, b3, b4, b5, b6⟩, Bb, H⟩ := H
       have A7 := am_ Bb
       clear Bb
       dsimp only at H
       cases b4 with
       | false =>
        rw [if_neg (by decide)] at H
        simp only [Option.some.injEq, Prod.mk.injEq] at H
        obtain ⟨rfl, rfl, rfl⟩ := H
        go_wp2_with (first | (go_at_call 48; (with_reducible refine (F48.calls w ?s1 ?s2 ((sx_need (.string h1) (.string h2) (.int .i64 h3) (.slice Ab L.length nb) _ _ _ _ l0 a 0 _ 3).trans A6.out)).mono ?_); (case s1 => exact au9_38); (case s2 => exact au9_35); rintro e w6 ⟨rfl, hi, hb, hk⟩; replace X := am_ (rx_call (rx_ X) hi hb hk); clear A6; clear hi hb hk kV dM ku gZ fk gE ew eU; obtain ⟨kV, dM, ku, gZ, fk, gE, ew, eU⟩ := rx_cells X.out) | (go_at_call 49; (with_reducible refine (F49.calls w ?s1 ?s2 ((sx_bun (.string h1) (.string h2) (.int .i64 h3) (.slice Ab L.length nb) _ _ _ _ k1 l0 n2 n3).trans A7.out)).mono ?_); (case s1 => exact (rx_ X : RX w _ g2 g3 g4 l0 n2 h1 h2 h3 h5 h6 _ L n3).2.2.1); (case s2 => exact au9_51); rintro e w7 ⟨v2, rfl, ho, hi, hb, hk⟩; obtain ⟨Am, nm, rfl⟩ := Kd.S_slice ho; obtain ⟨b, Y_⟩ := rx_bundle (rx_ X) hi hb hk ho; have Y := am_ Y_; have N4 := hi.lt; clear A7 Y_ ho X; clear hi hb hk kV dM ku gZ fk gE ew eU) | ((with_reducible refine gate_dst (N := 5) rfl ?_); refine be_ 5 #[.int .i64 0, .int .i64 0, .slice none 0 0] 53 ?_; intro gb hg w8 hbox hb; have Y8 := am_ (ry_box (ry_ Y) hg hb); have N5 : g4 < gb := (by rw [hg]; exact N4); have B5 := am_ hbox; clear Y N4 hg hbox hb; have Uy := cellsF3 B5.out) | ((with_reducible refine gate_store (t := 53) (p := 5) rfl ?_); refine store_event (t := 53) (p := 5) (v := ?vo_s) (w1 := (((w8.setCell ⟨gb, 0, none⟩ (.int .i64 b1)).setCell ⟨gb, 1, none⟩ (.int .i64 b2)).setCell ⟨gb, 2, none⟩ (.slice Am b3.length nm))) ?hg ?ho ?hn ?hr ?_; (case ho => rfl); (case hg => rfl); (case hn => rfl); (case hr => exact hr_); intro w9 hw; have Y := am_ (show RY w w9 g2 g3 g4 gb b l0 b5 h1 h2 h3 h5 h6 (.slice Ab L.length nb) L b6 (.slice Am b3.length nm) b3 from by rw [hw]; exact ry_set (ry_set (ry_set Y8.out N5 0 _) N5 1 _) N5 2 _); have B6 := am_ (show w9.heap[gb]? = some (.cells #[.int .i64 b1, .int .i64 b2, .slice Am b3.length nm] 53 (0, 0)) from by rw [hw]; exact blk_put (blk_put (blk_put B5.out 0 _ rfl) 1 _ rfl) 2 _ rfl); clear hw Y8 B5 Uy; obtain ⟨hz0, hz1, hz2, vr, vt, Oa⟩ := cellsF3 B6.out; obtain ⟨kV, dM, ku, gZ, fk, gE, ew, eU⟩ := rx_cells (ry_rx Y.out)))
        go_meet
        case rel => exact ⟨_, ⟨ry_rx (ry_ Y)⟩⟩
       | true =>
        rw [if_pos rfl] at H
        by_cases c8 : L.length < 3518437208883
        rotate_left
        ·rw [if_neg c8] at H
         cases H
        rw [if_pos c8] at H
        have H' := am_ H
        clear H
        go_wp2_with (first | (go_at_call 48; (with_reducible refine (F48.calls w ?s1 ?s2 ((sx_need (.string h1) (.string h2) (.int .i64 h3) (.slice Ab L.length nb) _ _ _ _ l0 a 0 _ 3).trans A6.out)).mono ?_); (case s1 => exact au9_38); (case s2 => exact au9_35); rintro e w6 ⟨rfl, hi, hb, hk⟩; replace X := am_ (rx_call (rx_ X) hi hb hk); clear A6; clear hi hb hk kV dM ku gZ fk gE ew eU; obtain ⟨kV, dM, ku, gZ, fk, gE, ew, eU⟩ := rx_cells X.out) | (go_at_call 49; (with_reducible refine (F49.calls w ?s1 ?s2 ((sx_bun (.string h1) (.string h2) (.int .i64 h3) (.slice Ab L.length nb) _ _ _ _ k1 l0 n2 n3).trans A7.out)).mono ?_); (case s1 => exact (rx_ X : RX w _ g2 g3 g4 l0 n2 h1 h2 h3 h5 h6 _ L n3).2.2.1); (case s2 => exact au9_51); rintro e w7 ⟨v2, rfl, ho, hi, hb, hk⟩; obtain ⟨Am, nm, rfl⟩ := Kd.S_slice ho; obtain ⟨b, Y_⟩ := rx_bundle (rx_ X) hi hb hk ho; have Y := am_ Y_; have N4 := hi.lt; clear A7 Y_ ho X; clear hi hb hk kV dM ku gZ fk gE ew eU) | ((with_reducible refine gate_dst (N := 5) rfl ?_); refine be_ 5 #[.int .i64 0, .int .i64 0, .slice none 0 0] 53 ?_; intro gb hg w8 hbox hb; have Y8 := am_ (ry_box (ry_ Y) hg hb); have N5 : g4 < gb := (by rw [hg]; exact N4); have B5 := am_ hbox; clear Y N4 hg hbox hb; have Uy := cellsF3 B5.out) | ((with_reducible refine gate_store (t := 53) (p := 5) rfl ?_); refine store_event (t := 53) (p := 5) (v := ?vo_s) (w1 := (((w8.setCell ⟨gb, 0, none⟩ (.int .i64 b1)).setCell ⟨gb, 1, none⟩ (.int .i64 b2)).setCell ⟨gb, 2, none⟩ (.slice Am b3.length nm))) ?hg ?ho ?hn ?hr ?_; (case ho => rfl); (case hg => rfl); (case hn => rfl); (case hr => exact hr_); intro w9 hw; have Y := am_ (show RY w w9 g2 g3 g4 gb b l0 b5 h1 h2 h3 h5 h6 (.slice Ab L.length nb) L b6 (.slice Am b3.length nm) b3 from by rw [hw]; exact ry_set (ry_set (ry_set Y8.out N5 0 _) N5 1 _) N5 2 _); have B6 := am_ (show w9.heap[gb]? = some (.cells #[.int .i64 b1, .int .i64 b2, .slice Am b3.length nm] 53 (0, 0)) from by rw [hw]; exact blk_put (blk_put (blk_put B5.out 0 _ rfl) 1 _ rfl) 2 _ rfl); clear hw Y8 B5 Uy; obtain ⟨hz0, hz1, hz2, vr, vt, Oa⟩ := cellsF3 B6.out; obtain ⟨kV, dM, ku, gZ, fk, gE, ew, eU⟩ := rx_cells (ry_rx Y.out)))
        have Y9 := am_ (ry_drew Y.out)
        refine start_ (n := 13) (S := fun w' => w'.cell? ⟨g4, 5, none⟩ = some (.slice Ab L.length nb) ∧ w'.cell? ⟨gb, 0, none⟩ = some (.int .i64 b1) ∧ w'.cell? ⟨gb, 1, none⟩ = some (.int .i64 b2) ∧ w'.cell? ⟨gb, 2, none⟩ = some (.slice Am b3.length nm)) (ds := [8, 12]) (bs 13 0) (by kernel_rfl) rfl rfl ⟨fk, hz0, hz1, hz2⟩ (fun hHeld => ?_); refine with_tabW F20.tab9 F20.bits9 (fun HT_ HW_ => ?_)
        clear Y B6 N5 kV dM ku gZ fk gE ew eU hz0 hz1 hz2 vr vt Oa; generalize w9.drew = wd at Y9 hHeld ⊢
        refine pq_ 0 HT_ ?_
        refine pq_ 1 HT_ ?_
        refine pq_ 2 HT_ ?_
        refine pq_ 3 HT_ ?_
        refine pq_ 4 HT_ ?_
        refine tq_ 5 HT_ HW_ hHeld rfl (by rintro w' ⟨s0, s1, s2, s3⟩; go_simp; with_reducible rfl) ?_
        refine tq_ 6 HT_ HW_ hHeld rfl (by rintro w' ⟨s0, s1, s2, s3⟩; go_simp; with_reducible rfl) ?_
        refine oq_ 7 HT_ (fun K hK => ?_)
        refine value_ (w1 := ?_) (v := ?_) (by rfl) rfl ?_ ?_
        rotate_left 2
        ·go_simp
         constructor
         ·rfl
         ·rfl
        refine hK.out _ _ ⟨(World.cell?_alloc_lt _ _ _ (World.block_lt_of_cell? _ _ (hHeld.1))).trans (hHeld.1), (World.cell?_alloc_lt _ _ _ (World.block_lt_of_cell? _ _ (hHeld.2.1))).trans (hHeld.2.1), (World.cell?_alloc_lt _ _ _ (World.block_lt_of_cell? _ _ (hHeld.2.2.1))).trans (hHeld.2.2.1), (World.cell?_alloc_lt _ _ _ (World.block_lt_of_cell? _ _ (hHeld.2.2.2))).trans (hHeld.2.2.2)⟩ (fun hHeld => ?_)
        clear hK K
        refine no_ 61 ?_
        refine lq_ 8 HT_ (fun K hK => ?_)
        refine Kd.S_append_step k53 (g4 + 1) (by rfl) (.tmp 59) (.tmp 61) 28 53 (.agg #[(.int .i64 0), (.int .i64 0), (.slice none 0 0)]) 40 rfl Tryz.underlying28 sx_info53 rfl (by decide) (by omega) (.slice Ab L.length nb) L (⟨b1, b2, b3⟩ : S53) [.int .i64 b1, .int .i64 b2, .slice Am b3.length nm] (fun _ => True) (fun k_ => b ≤ k_ ∧ k_ ≠ gb) rfl rfl ?aP (fun k_ hk_ => ⟨trivial, fun e_ => Nat.not_le.2 ((Kd.S_R Y9.out.2.2.2.1).1 k_ e_.symm).1 hk_.1⟩) ?aF ?aO (Below.refl _ _) ?aS ?aL ?_
        (case aP => exact k53_mkM _ _ _ (⟨b1, b2, b3⟩ : S53) Y9.out.2.2.2.2.1)
        (case aF => exact (fun _ _ => trivial))
        (case aO => exact Kd.S_mono Y9.out.2.2.2.1 (fun _ h_ => ⟨trivial, fun h2_ => Nat.not_le.2 h_.1 h2_.1⟩))
        (case aS => exact Y9.out.2.2.1.lt)
        (case aL => omega)
        intro v6 Ie ho hb pG hat
        obtain ⟨A6, n6, rfl⟩ := Kd.S_slice ho
        rw [show (L ++ [(⟨b1, b2, b3⟩ : S53)]).length = L.length + 1 from by simp] at ho
        have X := am_ (rx_put (ry_rx Y9.out) hb ho)
        obtain ⟨fk, ew⟩ := rx_at (ry_rx Y9.out) hb
        clear Y9 ho hb pG hat
        refine hK.out _ _ ?_
        clear hK K
        refine no_ 62 ?_
        refine pq_ 9 HT_ ?_
        refine pq_ 10 HT_ ?_
        refine pq_ 11 HT_ ?_
        refine lq_ 12 HT_ (fun K hK => ?_)
        refine skip_ (w1 := ?_) (by rfl) rfl ?_ ?_
        rotate_left
        ·go_simp
         rfl
        refine hK.out _ _ ?_
        clear hK K
        refine done_ (done_of HT_.out (by kernel_rfl)) ?_
        go_wp2
        go_roundg k1
        case measure => have := cK.out; omega
        case rel => exact ⟨b5, b6, _, _, H', ⟨by have := cK.out; omega⟩, X⟩
 case rest =>
  clear A2 X
  obtain ⟨vB, X⟩ := hcut
  have H := A3.out
  clear A3
  replace H := Option.bind_eq_some_iff.mp H
  obtain ⟨⟨z1, z2⟩, Hz, H⟩ := H
  dsimp only at H
  obtain ⟨Ab, nb, rfl⟩ := rx_slice X.out
  have AH := am_ H
  clear H
  go_upto_region 10 with (fail)
  go_cut [94] (fun v94 wc => ∃ (D : Bool) (c : Int), v94 = .bool D ∧ Aside0 (z2 = if D = true then 3 else c) ∧ Aside0 (RX w wc g2 g3 g4 l0 z1 h1 h2 h3 h5 h6 (.slice Ab q3.length nb) q3 c))
  case first =>
   clear AH
   obtain ⟨kV, dM, ku, gZ, fk, gE, ew, eU⟩ := rx_cells X.out
   by_cases c9 : q2 = 0
   rotate_left
   ·rw [if_neg c9] at Hz
    simp only [Option.some.injEq, Prod.mk.injEq] at Hz
    obtain ⟨rfl, rfl⟩ := Hz
    have c9b : (q2 == 0) = false := beq_eq_false_iff_ne.mpr c9
    have Xd := am_ (rx_drew X.out)
    clear X
    refine start_ (n := 29) (S := fun w' => w'.cell? ⟨g4, 4, none⟩ = some (.int .i64 h3) ∧ w'.cell? ⟨g4, 5, none⟩ = some (.slice Ab q3.length nb) ∧ w'.cell? ⟨g4, 6, none⟩ = some (.int .i64 q2)) (ds := []) (bs 29 0) (by kernel_rfl) rfl rfl ⟨gZ, fk, gE⟩ (fun hHeld => ?_); refine with_tabW F20.tab10 F20.bits10 (fun HT_ HW_ => ?_)
    clear kV dM ku gZ fk gE ew eU; generalize wc.drew = wd at Xd hHeld ⊢
    refine pq_ 0 HT_ ?_
    refine pq_ 1 HT_ ?_
    refine pq_ 2 HT_ ?_
    refine tq_ 3 HT_ HW_ hHeld rfl ax54_ ?_
    refine pq_ 4 HT_ ?_
    refine pq_ 5 HT_ ?_
    refine vq_ 6 HT_ ?_
    refine vq_ 7 HT_ ?_
    refine vq_ 8 HT_ ?_
    refine vq_ 9 HT_ ?_
    refine vq_ 10 HT_ ?_
    refine vq_ 11 HT_ ?_
    refine vq_ 12 HT_ ?_
    refine vq_ 13 HT_ ?_
    refine vq_ 14 HT_ ?_
    refine vq_ 15 HT_ ?_
    refine vq_ 16 HT_ ?_
    refine vq_ 17 HT_ ?_
    refine vq_ 18 HT_ ?_
    refine pq_ 19 HT_ ?_
    refine pq_ 20 HT_ ?_
    refine vq_ 21 HT_ ?_
    refine vq_ 22 HT_ ?_
    refine vq_ 23 HT_ ?_
    refine vq_ 24 HT_ ?_
    refine vq_ 25 HT_ ?_
    refine vq_ 26 HT_ ?_
    refine vq_ 27 HT_ ?_
    refine pq_ 28 HT_ ?_
    refine done_ (done_of HT_.out (by kernel_rfl)) ?_
    go_wp2
    go_meet
    case rel => exact ⟨false, _, rfl, ⟨rfl⟩, ⟨rx_ Xd⟩⟩
   rw [if_pos c9] at Hz
   subst c9
   replace Hz := Option.bind_eq_some_iff.mp Hz
   obtain ⟨⟨e1, e2, e3⟩, XO, Hz⟩ := Hz
   have A8 := am_ XO
   clear XO
   dsimp only at Hz
   have Xd := am_ (rx_drew X.out)
   clear X
   cases e1 with
   | false =>
    rw [if_neg (by decide)] at Hz
    simp only [Option.some.injEq, Prod.mk.injEq] at Hz
    obtain ⟨rfl, rfl⟩ := Hz
    refine start_ (n := 29) (S := fun w' => w'.cell? ⟨g4, 4, none⟩ = some (.int .i64 h3) ∧ w'.cell? ⟨g4, 5, none⟩ = some (.slice Ab q3.length nb) ∧ w'.cell? ⟨g4, 6, none⟩ = some (.int .i64 0)) (ds := [18]) (bs 29 0) (by kernel_rfl) rfl rfl ⟨gZ, fk, gE⟩ (fun hHeld => ?_); refine with_tabW F20.tab10 F20.bits10 (fun HT_ HW_ => ?_)
    clear kV dM ku gZ fk gE ew eU; generalize wc.drew = wd at Xd hHeld ⊢
    refine pq_ 0 HT_ ?_
    refine pq_ 1 HT_ ?_
    refine pq_ 2 HT_ ?_
    refine tq_ 3 HT_ HW_ hHeld rfl ax54_ ?_
    refine pq_ 4 HT_ ?_
    refine pq_ 5 HT_ ?_
    refine pq_ 6 HT_ ?_
    refine pq_ 7 HT_ ?_
    refine pq_ 8 HT_ ?_
    refine pq_ 9 HT_ ?_
    refine pq_ 10 HT_ ?_
    refine pq_ 13 HT_ ?_
    refine pq_ 14 HT_ ?_
    refine pq_ 15 HT_ ?_
    refine pq_ 16 HT_ ?_
    refine tq_ 11 HT_ HW_ hHeld rfl ax54_ ?_
    refine pq_ 12 HT_ ?_
    refine tq_ 17 HT_ HW_ hHeld rfl ax54_ ?_
    refine lq_ 18 HT_ (fun K hK => ?_)
    refine gr_ Tryz.func50 #[.pointer (some ⟨g4, 0, none⟩), .string (⟨#[73, 88, 84]⟩ : ByteArray), .int .i64 (q3.length : Int), .int .i64 h3] (by rfl) ?_ rfl rfl rfl
    with_reducible refine (F50.calls w ?s1 ?s2 ((sx_ends (.string h1) (.string h2) (.int .i64 h3) (.slice Ab q3.length nb) _ _ _ _ k l0 q1 0 _ _ _).trans A8.out)).mono ?_
    (case s1 => exact Xd.out.2.2.1)
    (case s2 => exact Xd.out.2.2.2.2.1)
    rintro e wj ⟨rfl, hi, hb, hk⟩
    refine ⟨_, rfl, ?_⟩
    have X := am_ (rx_call Xd.out hi hb hk)
    clear Xd A8 hi hb hk
    obtain ⟨kV, dM, ku, gZ, fk, gE, ew, eU⟩ := rx_cells X.out
    refine hK.out _ _ ?_
    clear hK K
    refine no_ 84 ?_
    refine pq_ 19 HT_ ?_
    refine pq_ 20 HT_ ?_
    refine vq_ 21 HT_ ?_
    refine vq_ 22 HT_ ?_
    refine vq_ 23 HT_ ?_
    refine vq_ 24 HT_ ?_
    refine vq_ 25 HT_ ?_
    refine vq_ 26 HT_ ?_
    refine vq_ 27 HT_ ?_
    refine pq_ 28 HT_ ?_
    refine done_ (done_of HT_.out (by kernel_rfl)) ?_
    go_wp2
    go_meet
    case rel => exact ⟨false, _, rfl, ⟨rfl⟩, ⟨rx_ X⟩⟩
   | true =>
    rw [if_pos rfl] at Hz
    refine start_ (n := 29) (S := fun w' => w'.cell? ⟨g4, 4, none⟩ = some (.int .i64 h3) ∧ w'.cell? ⟨g4, 5, none⟩ = some (.slice Ab q3.length nb) ∧ w'.cell? ⟨g4, 6, none⟩ = some (.int .i64 0)) (ds := [18, 24]) (bs 29 0) (by kernel_rfl) rfl rfl ⟨gZ, fk, gE⟩ (fun hHeld => ?_); refine with_tabW F20.tab10 F20.bits10 (fun HT_ HW_ => ?_)
    clear kV dM ku gZ fk gE ew eU; generalize wc.drew = wd at Xd hHeld ⊢
    refine pq_ 0 HT_ ?_
    refine pq_ 1 HT_ ?_
    refine pq_ 2 HT_ ?_
    refine tq_ 3 HT_ HW_ hHeld rfl ax54_ ?_
    refine pq_ 4 HT_ ?_
    refine pq_ 5 HT_ ?_
    refine pq_ 6 HT_ ?_
    refine pq_ 7 HT_ ?_
    refine pq_ 8 HT_ ?_
    refine pq_ 9 HT_ ?_
    refine pq_ 10 HT_ ?_
    refine pq_ 13 HT_ ?_
    refine pq_ 14 HT_ ?_
    refine pq_ 15 HT_ ?_
    refine pq_ 16 HT_ ?_
    refine tq_ 11 HT_ HW_ hHeld rfl ax54_ ?_
    refine pq_ 12 HT_ ?_
    refine tq_ 17 HT_ HW_ hHeld rfl ax54_ ?_
    refine lq_ 18 HT_ (fun K hK => ?_)
    refine gr_ Tryz.func50 #[.pointer (some ⟨g4, 0, none⟩), .string (⟨#[73, 88, 84]⟩ : ByteArray), .int .i64 (q3.length : Int), .int .i64 h3] (by rfl) ?_ rfl rfl rfl
    with_reducible refine (F50.calls w ?s1 ?s2 ((sx_ends (.string h1) (.string h2) (.int .i64 h3) (.slice Ab q3.length nb) _ _ _ _ k l0 q1 0 _ _ _).trans A8.out)).mono ?_
    (case s1 => exact Xd.out.2.2.1)
    (case s2 => exact Xd.out.2.2.2.2.1)
    rintro e wj ⟨rfl, hi, hb, hk⟩
    refine ⟨_, rfl, ?_⟩
    have X := am_ (rx_call Xd.out hi hb hk)
    clear Xd A8 hi hb hk
    obtain ⟨kV, dM, ku, gZ, fk, gE, ew, eU⟩ := rx_cells X.out
    refine hK.out _ _ ?_
    clear hK K
    refine no_ 84 ?_
    refine pq_ 19 HT_ ?_
    refine pq_ 20 HT_ ?_
    refine pq_ 21 HT_ ?_
    refine pq_ 22 HT_ ?_
    refine pq_ 23 HT_ ?_
    refine pq_ 25 HT_ ?_
    refine pq_ 26 HT_ ?_
    refine lq_ 24 HT_ (fun K hK => ?_)
    refine value_ (w1 := ?_) (v := ?_) (by rfl) rfl ?_ ?_
    rotate_left 2
    ·go_simp
     constructor
     ·rfl
     ·rfl
    refine hK.out _ _ ?_
    clear hK K
    refine no_ 90 ?_
    refine pq_ 27 HT_ ?_
    refine pq_ 28 HT_ ?_
    refine done_ (done_of HT_.out (by kernel_rfl)) ?_
    have Hz2 : z1 = e2 ∧ z2 = if decide (e2 < (l0.length : Int)) = true then 3 else e3 := by
     by_cases c10 : e2 < (l0.length : Int)
     rotate_left
     ·rw [if_neg c10] at Hz
      simp only [Option.some.injEq, Prod.mk.injEq] at Hz
      rw [if_neg (by simpa using c10)]
      exact ⟨Hz.1.symm, Hz.2.symm⟩
     rw [if_pos c10] at Hz
     simp only [Option.some.injEq, Prod.mk.injEq] at Hz
     rw [if_pos (decide_eq_true c10)]
     exact ⟨Hz.1.symm, Hz.2.symm⟩
    clear Hz
    obtain ⟨rfl, Hz⟩ := Hz2
    go_wp2
    go_meet
    case rel => exact ⟨decide (z1 < (l0.length : Int)), e3, rfl, ⟨Hz⟩, ⟨rx_ X⟩⟩
  case rest =>
   clear X Hz
   obtain ⟨D, c, rfl, hD, X⟩ := hcut
   obtain ⟨kV, dM, ku, gZ, fk, gE, ew, eU⟩ := rx_cells X.out
   go_upto_if 94 with (fail)
   go_cut [] (fun wc => Aside0 (RX w wc g2 g3 g4 l0 z1 h1 h2 h3 h5 h6 (.slice Ab q3.length nb) q3 z2))
   case first =>
    cases D with
    | true =>
     obtain rfl := hD.out
     go_wp2
     go_meet
     case rel => exact ⟨rx_code X.out 3⟩
    | false =>
     obtain rfl := hD.out
     go_wp2
     go_meet
     case rel => exact X
   case rest =>
   clear X kV dM ku gZ fk gE ew eU
   have X := hcut
   have H := AH.out
   clear AH
   obtain ⟨kV, dM, ku, gZ, fk, gE, ew, eU⟩ := rx_cells X.out
   obtain ⟨⟨Iv, Iw, DF, Ix, Iy, Iz, IA⟩, hvf, Ir, Is, It, Iu⟩ := rx_b X.out
   have vu := hvf 0
   have vv := hvf 1
   have vw := hvf 2
   have vx := hvf 3
   have vy := hvf 4
   have vz := hvf 5
   have vA := hvf 6
   clear hvf
   by_cases fS : z2 = 0
   ·rw [if_pos fS] at H
    subst fS
    simp only [Option.some.injEq, Prod.mk.injEq] at H
    obtain ⟨rfl, rfl, rfl, rfl, rfl, rfl, rfl⟩ := H
    go_wp2_with (first | ((with_reducible refine gate_store (t := 41) (p := 2) rfl ?_); refine store_event (t := 41) (p := 2) (v := ?vo_z) (w1 := sx_st wc g2 (.string h1) (.string h2) (.int .i64 h3) (.slice Ab q3.length nb) (.bool true) (.int .i64 0) (.int .i64 0)) ?hg ?ho ?hn ?hr ?_; (case ho => rfl); (case hg => rfl); (case hn => rfl); (case hr => exact hr_); intro wf hw; have F2 := am_ (rx_out X.out (.string h1) (.string h2) (.int .i64 h3) (.slice Ab q3.length nb) (.bool true) (.int .i64 0) (.int .i64 0)); rw [← hw] at F2; clear hw))
    go_wp2
    refine bodyPost_ret (results_cell_row rfl _ _ g2 41 #[.string h1, .string h2, .int .i64 h3, .slice Ab q3.length nb, .bool true, .int .i64 0, .int .i64 0] (0, 0) _ rfl F2.out.1 Tryz.underlying41 rfl (by kernel_rfl)) rfl ?_
    exact ⟨_, rfl, F2.out.2.2, F2.out.2.1⟩
   rw [if_neg fS] at H
   have c11b : (z2 == 0) = false := beq_eq_false_iff_ne.mpr fS
   have c11c : (z2 != 0) = true := bne_iff_ne.mpr fS
   clear fS
   simp only [Option.some.injEq, Prod.mk.injEq] at H
   obtain ⟨rfl, rfl, rfl, rfl, rfl, rfl, rfl⟩ := H
   go_wp2
   have Xd := am_ (rx_drew X.out)
   clear X
   refine start_ (n := 12) (S := fun w' => w'.cell? ⟨g3, 0, none⟩ = some (.string h1) ∧ w'.cell? ⟨g3, 1, none⟩ = some (.string h2) ∧ w'.cell? ⟨g3, 2, none⟩ = some (.int .i64 h3) ∧ w'.cell? ⟨g3, 3, none⟩ = some (.slice none 0 0) ∧ w'.cell? ⟨g4, 1, none⟩ = some (.int .i64 z1) ∧ w'.cell? ⟨g4, 6, none⟩ = some (.int .i64 z2)) (ds := [11]) (bs 12 0) (by kernel_rfl) rfl rfl ⟨Ir, Is, It, Iu, kV, gE⟩ (fun hHeld => ?_); refine with_tabW F20.tab13 F20.bits13 (fun HT_ HW_ => ?_)
   clear Iv Iw DF Ix Iy Iz IA vu vv vw vx vy vz vA Ir Is It Iu kV dM ku gZ fk gE ew eU; generalize wc.drew = wd at Xd hHeld ⊢; obtain ⟨⟨Iv, Iw, DF, Ix, Iy, Iz, IA⟩, hvf, -⟩ := rx_b Xd.out; have vu := hvf 0; have vv := hvf 1; have vw := hvf 2; have vx := hvf 3; have vy := hvf 4; have vz := hvf 5; have vA := hvf 6; clear hvf
   refine pq_ 0 HT_ ?_
   refine pq_ 2 HT_ ?_
   refine pq_ 3 HT_ ?_
   refine pq_ 4 HT_ ?_
   refine pq_ 6 HT_ ?_
   refine pq_ 7 HT_ ?_
   refine pq_ 8 HT_ ?_
   refine tq_ 1 HT_ HW_ hHeld rfl ax51_ ?_
   refine tq_ 5 HT_ HW_ hHeld rfl ax51_ ?_
   refine tq_ 9 HT_ HW_ hHeld rfl ax51_ ?_
   refine pq_ 10 HT_ ?_
   refine lq_ 11 HT_ (fun K hK => ?_)
   refine skip_ (w1 := ?_) (by rfl) rfl ?_ ?_
   rotate_left
   ·go_simp
    rfl
   refine hK.out _ _ ?_
   clear hK K
   refine done_ (done_of HT_.out (by kernel_rfl)) ?_
   have F2 := rx_out Xd.out (.string h1) (.string h2) (.int .i64 h3) (.slice none 0 0) (.bool true) (.int .i64 z1) (.int .i64 z2)
   go_wp2
   refine bodyPost_ret (results_cell_row rfl _ _ g2 41 #[.string h1, .string h2, .int .i64 h3, .slice none 0 0, .bool true, .int .i64 z1, .int .i64 z2] (0, 0) _ rfl F2.1 Tryz.underlying41 rfl (by kernel_rfl)) rfl ?_
   exact ⟨.slice none 0 0, rfl, Kd.S_nil _ _ _ _ _, F2.2.1⟩
end Go.Proofs.YtlghcbmkhdibdaaGreatDoor.PFnEnvelopes
