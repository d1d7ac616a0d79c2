-- printed by a program of this session (wip/xp/xprint.py) out of the translation; Lean checks it
import Derived.Test.YtlghcbmkhdibdaaGreatDoorPFnEnvelopesx0
import Derived.Test.YtlghcbmkhdibdaaGreatDoorPFnEnvelopesx1
namespace Go.Proofs.YtlghcbmkhdibdaaGreatDoor.PFnEnvelopes
open Go.RowKit Go.Proofs.YtlghcbmkhdibdaaGreatDoorW.PrintWords Go.Proofs.YtlghcbmkhdibdaaGreatDoorW.PrintLast Go.Proofs.YtlghcbmkhdibdaaGreatDoorW.PrintMore
attribute [local go_sem] max2_int min2_int max_two min_two max_three min_three max_four min_four   -- for this text's walks alone
set_option linter.unusedVariables false
set_option linter.unusedSimpArgs false
set_option maxHeartbeats 8000000
set_option maxRecDepth 100000
theorem au2_9 {p : Prop} (h : p := by repeat (first | (with_reducible first | exact HBW.out | apply below_alloc | apply pw_below_drewN | apply below_drew1 | refine below_set ?_ KC.out) | exact HBW.out)) : p := h
theorem au2_18 {p : Prop} (h : p := by repeat (first | (with_reducible first | exact HBW.out | apply below_alloc | apply pw_below_drewN | apply below_drew1) | exact HBW.out)) : p := h
theorem au2_19 {p : Prop} (h : p := by have := HJ1.out; have := HK2.out; have := pa.out; have := uR.out; omega) : p := h
theorem tg2_1 {p : Prop} (h : p := by exact ⟨_, rfl, (show IsS104 w0 _ fR l0 0 dp 12 from ⟨_, _, bq_ dJ, DG.out, fN.out⟩), bl_, au2_9⟩) : p := h
theorem tg2_2 {p : Prop} (h : p := by exact ⟨_, rfl, (show IsS104 w0 _ fR l0 0 dp (wrap64 ((l0.length : Int) / 20)) from ⟨_, _, bq_ dJ, DG.out, fN.out⟩), bl_, au2_9⟩) : p := h
theorem tg2_3 {p : Prop} (h : p := by repeat' with_reducible first | exact ef _ _ | exact LeO.refl _ | exact LeO.none _ | refine LeO.ite ?_ ?_ | refine LeO.bind ?_ (fun _ => ?_)) : p := h
theorem tg2_4 {p : Prop} (h : p := by exact ⟨(wrap64 (be + 1)), er_, H', ⟨by have := cK.out; omega⟩, dn_⟩) : p := h
theorem tg2_5 {p : Prop} (h : p := by repeat' with_reducible first | exact ef _ _ _ | exact kW _ _ _ | exact ro _ _ _ _ _ | exact DH _ _ _ _ _ | exact F73.mono _ _ | exact F72.mono _ _ | exact LeO.refl _ | exact LeO.none _ | refine LeO.ite ?_ ?_ | refine LeO.bind ?_ (fun _ => ?_)) : p := h
def F8.f (k : Nat) (ae : ByteArray) (ax : ByteArray) (aM : Int) (af : List (S53)) : Option ((List (S49))) := (F29.f k ae ax aM af).bind fun KD => (if KD = true then ((F30.f k ae ax aM af).bind fun KE => (some KE)) else (some ([] : List (S49))))
theorem F8.calls {k : Nat} {ae ax : ByteArray} {aM : Int} {cl : Option Addr} {bN : Nat} {af : List (S53)} {r : List (S49)} {w : World} (dW : Kd.C k53 w cl af.length af) (dX : af.length ≤ bN) (hT : LaidT true Tryz.prog w) (h : F8.f k ae ax aM af = some r) :
  Calls Tryz.prog 8 #[.agg #[.string ae, .string ax, .int .i64 aM, .slice cl af.length bN]] w fun e w' => ∃ l7 : Value, e = .returned (l7) ∧ Kd.S k49 49 w' w.heap.size (fun _ => True) l7 r ∧ Below w.heap.size w w' := by
 have gJ := Tryz.underlying30
 have gV := am_ dW
 have gv := am_ dX
 clear dW dX
 have HZT := am_ hT
 clear hT
 have HB := am_ (Below.refl w.heap.size w)
 have H := h; unfold F8.f at H
 clear h
 replace H := bi_ H; rcases H with ⟨KD, A2, H⟩
 replace H := ib_ H; rcases H with ⟨rfl, H⟩ | ⟨rfl, H⟩
 rotate_left
 ·obtain rfl := Option.some.inj H
  go_enter Tryz.func8, Tryz.ntmps8
  go_wp2_with (first | ((with_reducible refine gate_dst (N := 1) rfl ?_); refine be_ 1 #[.string ae, .string ax, .int .i64 aM, .slice cl af.length bN] 30 ?_; intro KF hg Ie hbox hb; have gD := am_ (hbox); have xu := am_ (gw_ hg bl_); have KG := xu; replace HB := hs_ w hb; clear hb hbox hg; have mS := cellsF4 gD.out) | ((with_reducible refine gate_callee (f := 29) rfl ?_); refine gl_ 4 Tryz.func29 #[.agg #[.string ae, .string ax, .int .i64 aM, .slice cl af.length bN]] ?_ rfl rfl rfl rfl; (with_reducible refine (F29.calls ?s1 ?s2 A2.out).mono ?_); (case s1 => exact ax44_); (case s2 => exact gv.out); rintro e lU ⟨rfl, hb⟩; refine ⟨_, rfl, ?_⟩; replace gD := bb_ gD hb; replace HB := hs_ w hb; (try clear hb)))
  go_ret
  exact ⟨_, ax11_, by first | exact Kd.S_nil _ _ _ _ _ | exact Kd.N_nil _ _ _ _ _ | exact Kd.V_nil _ _ _ _ _ | exact Kd.Q_nil _ _ _ _ _ | exact Kd.R_nil _ _ _ _ _, bl_⟩
 replace H := bi_ H; rcases H with ⟨KE, A4, H⟩
 obtain rfl := Option.some.inj H
 go_enter Tryz.func8, Tryz.ntmps8
 go_wp2_with (first | ((with_reducible refine gate_dst (N := 1) rfl ?_); refine be_ 1 #[.string ae, .string ax, .int .i64 aM, .slice cl af.length bN] 30 ?_; intro KF hg w5 hbox hb; have gD := am_ (hbox); have xu := am_ (gw_ hg bl_); have KG := xu; replace HB := hs_ w hb; clear hb hbox hg; have gK := cellsF4 gD.out) | ((with_reducible refine gate_callee (f := 29) rfl ?_); refine gl_ 4 Tryz.func29 #[.agg #[.string ae, .string ax, .int .i64 aM, .slice cl af.length bN]] ?_ rfl rfl rfl rfl; (with_reducible refine (F29.calls ?s1 ?s2 A2.out).mono ?_); (case s1 => exact ax44_); (case s2 => exact gv.out); rintro e w7 ⟨rfl, hb⟩; refine ⟨_, rfl, ?_⟩; replace gD := bb_ gD hb; replace HB := hs_ w hb; (try clear hb); have jY := cellsF4 gD.out) | ((with_reducible refine gate_callee (f := 30) rfl ?_); refine gl_ 7 Tryz.func30 #[.agg #[.string ae, .string ax, .int .i64 aM, .slice cl af.length bN]] ?_ rfl rfl rfl rfl; (with_reducible refine (F30.calls ?s1 ?s2 ?s3 A4.out).mono ?_); (case s1 => exact ax44_); (case s2 => exact gv.out); (case s3 => first | (with_reducible exact HZT.out) | exact HZT.out.below bl_); rintro e w9 ⟨YY, rfl, bf, hb⟩; refine ⟨_, rfl, ?_⟩; have KH := am_ (Kd.S_lower bf (below_size bl_)); replace gD := bb_ gD hb; replace HB := hs_ w hb; clear hb bf))
 go_ret
 exact ⟨_, ax11_, by (with_reducible repeat (first | apply Kd.S_alloc | apply Kd.S_drewN | apply Kd.S_drew)); exact KH.out, bl_⟩
def IsS104 (w0 W : World) (g : Nat) (f0 : List Int) (f1 : Int) (f2 : Int) (f3 : Int) : Prop := ∃ A0 c0, W.heap[g]? = some (.cells #[.slice A0 f0.length c0, .int .i64 f1, .int .u64 f2, .int .i64 f3] 104 (0, 0)) ∧ w0.heap.size ≤ g ∧ Kd.C (Kd.int .u8) w0 A0 f0.length f0
theorem IsS104.grown {w0 W : World} {g : Nat} {f0 : List Int} {f1 : Int} {f2 : Int} {f3 : Int} {W1 : World} {row : Option Nat} (h : IsS104 w0 W g f0 f1 f2 f3) (hw : W.grownBy W1 row) (hne : some g ≠ row) : IsS104 w0 W1 g f0 f1 f2 f3 := by
 obtain ⟨A0, c0, hb, hg, bH⟩ := h
 exact ⟨A0, c0, blk_grown hb hw hne, hg, bH⟩
theorem IsS104.fresh {w0 W : World} {g : Nat} {f0 : List Int} {f1 : Int} {f2 : Int} {f3 : Int} (h : IsS104 w0 W g f0 f1 f2 f3) : ∀ k, W.heap.size ≤ k → k ≠ g := by
 obtain ⟨A0, c0, hb, hg, bH⟩ := h
 exact Kd.freshB hb
theorem IsS104.below {w0 W : World} {g : Nat} {f0 : List Int} {f1 : Int} {f2 : Int} {f3 : Int} {W1 : World} (h : IsS104 w0 W g f0 f1 f2 f3) (hw : Below W.heap.size W W1) : IsS104 w0 W1 g f0 f1 f2 f3 := h.grown (grown_of_below hw none) (by simp)
theorem IsS104.alloc {w0 W : World} {g : Nat} {f0 : List Int} {f1 : Int} {f2 : Int} {f3 : Int} (h : IsS104 w0 W g f0 f1 f2 f3) (o : Obj) : IsS104 w0 (W.alloc o) g f0 f1 f2 f3 := h.below (below_alloc (Below.refl _ _) o)
theorem IsS104.drewN {w0 W : World} {g : Nat} {f0 : List Int} {f1 : Int} {f2 : Int} {f3 : Int} (h : IsS104 w0 W g f0 f1 f2 f3) (m : Nat) : IsS104 w0 (W.drewN m) g f0 f1 f2 f3 := h
theorem IsS104.drew {w0 W : World} {g : Nat} {f0 : List Int} {f1 : Int} {f2 : Int} {f3 : Int} (h : IsS104 w0 W g f0 f1 f2 f3) : IsS104 w0 W.drew g f0 f1 f2 f3 := h
theorem IsS104.at_ {w0 W : World} {g : Nat} {f0 : List Int} {f1 : Int} {f2 : Int} {f3 : Int} {w' : World} {m : Nat} (hq : W.drewN m = w') (h : IsS104 w0 W g f0 f1 f2 f3) : IsS104 w0 w' g f0 f1 f2 f3 := by subst hq; exact IsS104.drewN h m
theorem IsS104.apart {w0 W : World} {g : Nat} {f0 : List Int} {f1 : Int} {f2 : Int} {f3 : Int} {α : Type} {d : Kd α} {e : Nat} {base : Nat} {ok : Nat → Prop} {v : Value} {xs : List α} (h : IsS104 w0 W g f0 f1 f2 f3) (ho : d.R e W base ok v xs) (ht : ∀ q, q ∈ e :: d.E → q ≠ 104) : d.R e W base (fun k => ok k ∧ k ≠ g) v xs := by
 obtain ⟨A0, c0, hb, hg, bH⟩ := h
 exact Kd.R_types ho hb ht
theorem IsS104.apartS {w0 W : World} {g : Nat} {f0 : List Int} {f1 : Int} {f2 : Int} {f3 : Int} {α : Type} {d : Kd α} {e : Nat} {base : Nat} {ok : Nat → Prop} {v : Value} {xs : List α} (h : IsS104 w0 W g f0 f1 f2 f3) (ho : d.S e W base ok v xs) (ht : ∀ q, q ∈ e :: d.E → q ≠ 104) : d.S e W base (fun k => ok k ∧ k ≠ g) v xs := by
 obtain ⟨A0, c0, hb, hg, bH⟩ := h
 exact Kd.S_types ho hb ht
theorem IsS104.own_neS {w0 W : World} {g : Nat} {f0 : List Int} {f1 : Int} {f2 : Int} {f3 : Int} {α : Type} {d : Kd α} {e : Nat} {base : Nat} {ok : Nat → Prop} {v : Value} {xs : List α} (h : IsS104 w0 W g f0 f1 f2 f3) (ho : d.S e W base ok v xs) (ht : e ≠ 104) : some g ≠ v.ownBlock := by
 obtain ⟨A0, c0, hb, hg, bH⟩ := h
 exact Kd.S_ne ho hb ht
theorem IsS104.kS {w0 W : World} {g : Nat} {f0 : List Int} {f1 : Int} {f2 : Int} {f3 : Int} {w1 : World} {α : Type} {d : Kd α} {e : Nat} {base : Nat} {ok : Nat → Prop} {v : Value} {xs : List α} (hk : KeepBut W w1 g none) (h : IsS104 w0 W g f0 f1 f2 f3) (ho : d.S e W base ok v xs) (ht : ∀ q, q ∈ e :: d.E → q ≠ 104 := by decide) : Aside0 (d.S e w1 base ok v xs) := am_ (Kd.S_mono (Kd.S_keep (h.apartS ho ht) hk (fun _ h => h.2)) (fun _ h => h.1))
theorem IsS104.kR {w0 W : World} {g : Nat} {f0 : List Int} {f1 : Int} {f2 : Int} {f3 : Int} {w1 : World} {α : Type} {d : Kd α} {e : Nat} {base : Nat} {ok : Nat → Prop} {v : Value} {xs : List α} (hk : KeepBut W w1 g none) (h : IsS104 w0 W g f0 f1 f2 f3) (ho : d.R e W base ok v xs) (ht : ∀ q, q ∈ e :: d.E → q ≠ 104 := by decide) : Aside0 (d.R e w1 base ok v xs) := am_ (Kd.R_mono (Kd.R_keep (h.apart ho ht) hk (fun _ h => h.2)) (fun _ h => h.1))
theorem IsS104.lt {w0 W : World} {g : Nat} {f0 : List Int} {f1 : Int} {f2 : Int} {f3 : Int} (h : IsS104 w0 W g f0 f1 f2 f3) : g < W.heap.size := by
 obtain ⟨A0, c0, hb, hg, bH⟩ := h
 exact blk_lt hb
theorem IsS104.ge {w0 W : World} {g : Nat} {f0 : List Int} {f1 : Int} {f2 : Int} {f3 : Int} (h : IsS104 w0 W g f0 f1 f2 f3) : w0.heap.size ≤ g := by
 obtain ⟨A0, c0, hb, hg, bH⟩ := h
 exact hg
theorem IsS104.ne_blk {w0 W : World} {g : Nat} {f0 : List Int} {f1 : Int} {f2 : Int} {f3 : Int} {a : Nat} {cs : Array Value} {t : TypeId} {fr : Nat × Nat} (h : IsS104 w0 W g f0 f1 f2 f3) (hb2 : W.heap[a]? = some (.cells cs t fr)) (ht : t ≠ 104) : g ≠ a := by
 obtain ⟨A0, c0, hb, hg, bH⟩ := h
 rintro rfl
 rw [hb] at hb2
 injection hb2 with hb2
 injection hb2 with _ At
 exact ht At.symm
theorem IsS104.far {w0 W : World} {g : Nat} {f0 : List Int} {f1 : Int} {f2 : Int} {f3 : Int} {p : Addr} (h : IsS104 w0 W g f0 f1 f2 f3) (hne : g ≠ p.block) (u : Value) : IsS104 w0 (W.setCell p u) g f0 f1 f2 f3 := by
 obtain ⟨A0, c0, hb, hg, bH⟩ := h
 exact ⟨A0, c0, blk_far hb hne u, hg, bH⟩
theorem cellS104_0 {W : World} {g : Nat} {A0 : Option Addr} {c0 : Nat} {f0 : List Int} {f1 : Int} {f2 : Int} {f3 : Int} (h : W.heap[g]? = some (.cells #[.slice A0 f0.length c0, .int .i64 f1, .int .u64 f2, .int .i64 f3] 104 (0, 0))) : W.cell? ⟨g, 0, none⟩ = some (.slice A0 f0.length c0) := (blk_cell h 0).trans rfl
theorem cellS104_1 {W : World} {g : Nat} {A0 : Option Addr} {c0 : Nat} {f0 : List Int} {f1 : Int} {f2 : Int} {f3 : Int} (h : W.heap[g]? = some (.cells #[.slice A0 f0.length c0, .int .i64 f1, .int .u64 f2, .int .i64 f3] 104 (0, 0))) : W.cell? ⟨g, 1, none⟩ = some (.int .i64 f1) := (blk_cell h 1).trans rfl
theorem IsS104.set_1 {w0 W : World} {g : Nat} {f0 : List Int} {f1 : Int} {f2 : Int} {f3 : Int} (h : IsS104 w0 W g f0 f1 f2 f3) (x : Int) : IsS104 w0 (W.setCell ⟨g, 1, none⟩ (.int .i64 x)) g f0 x f2 f3 := by
 obtain ⟨A0, c0, hb, hg, bH⟩ := h
 exact ⟨A0, c0, by simpa using blk_set hb 1 (.int .i64 x), hg, bH⟩
theorem cellS104_2 {W : World} {g : Nat} {A0 : Option Addr} {c0 : Nat} {f0 : List Int} {f1 : Int} {f2 : Int} {f3 : Int} (h : W.heap[g]? = some (.cells #[.slice A0 f0.length c0, .int .i64 f1, .int .u64 f2, .int .i64 f3] 104 (0, 0))) : W.cell? ⟨g, 2, none⟩ = some (.int .u64 f2) := (blk_cell h 2).trans rfl
theorem cellS104_3 {W : World} {g : Nat} {A0 : Option Addr} {c0 : Nat} {f0 : List Int} {f1 : Int} {f2 : Int} {f3 : Int} (h : W.heap[g]? = some (.cells #[.slice A0 f0.length c0, .int .i64 f1, .int .u64 f2, .int .i64 f3] 104 (0, 0))) : W.cell? ⟨g, 3, none⟩ = some (.int .i64 f3) := (blk_cell h 3).trans rfl
theorem IsS104.op {w0 W : World} {g : Nat} {f0 : List Int} {f1 : Int} {f2 : Int} {f3 : Int} (h : IsS104 w0 W g f0 f1 f2 f3) : ∃ A0 c0, Kd.C (Kd.int .u8) w0 A0 f0.length f0 ∧ W.cell? ⟨g, 0, none⟩ = some (.slice A0 f0.length c0) ∧ W.cell? ⟨g, 1, none⟩ = some (.int .i64 f1) ∧ W.cell? ⟨g, 2, none⟩ = some (.int .u64 f2) ∧ W.cell? ⟨g, 3, none⟩ = some (.int .i64 f3) ∧ W.frozen? ⟨g, 1, none⟩ = false ∧ W.frozen? ⟨g, 2, none⟩ = false ∧ W.frozen? ⟨g, 3, none⟩ = false := by
 obtain ⟨A0, c0, hb, hg, bH⟩ := h
 exact ⟨A0, c0, bH, cellS104_0 hb, cellS104_1 hb, cellS104_2 hb, cellS104_3 hb, blk_frozen hb 1, blk_frozen hb 2, blk_frozen hb 3⟩
theorem IsS104.new (w0 W : World) (A0 : Option Addr) (c0 : Nat) (f0 : List Int) (f1 : Int) (f2 : Int) (f3 : Int) (hB : Below w0.heap.size w0 W) (bH : Kd.C (Kd.int .u8) w0 A0 f0.length f0) : IsS104 w0 (W.alloc (.cells #[.slice A0 f0.length c0, .int .i64 f1, .int .u64 f2, .int .i64 f3] 104)) W.heap.size f0 f1 f2 f3 := ⟨A0, c0, by simpa using heap_alloc_new W _, hB.size, bH⟩
def F37.l0 : Nat → List Int → Int → List Int → Int → Int → Int → Option (List Int × Int × Int × Int)
  | 0, _, _, _, _, _, _ => none
  | k + 1, x0, x4, ix, iy, iz, Au => if x4 < (x0.length : Int) then (if x4 < 64 then (if 0 ≤ x4 then (F37.l0 k x0 (wrap64 (x4 + 1)) ix iy (IntKind.u64.wrap ((Go.bits .xor .u64 iz (IntKind.u64.wrap (rd x0 x4))) * 1099511628211)) Au) else (none)) else (if (wrap64 ((x0.length : Int) / 20)) > 12 then (some (ix, iy, iz, 12)) else (some (ix, iy, iz, wrap64 ((x0.length : Int) / 20))))) else (if (wrap64 ((x0.length : Int) / 20)) > 12 then (some (ix, iy, iz, 12)) else (some (ix, iy, iz, wrap64 ((x0.length : Int) / 20))))
def F37.f (k : Nat) (l0 : List Int) : Option (List Int × Int × Int × Int) := F37.l0 k l0 0 l0 0 88172645463325252 0
def F37.T5 : Bool × List (List Nat × List Nat) := (true, [([], []), ([], []), ([1], [1]), ([2], [2]), ([3], [3]), ([], []), ([], []), ([5, 6], [5, 6]), ([7], [7]), ([8], [8]), ([4, 9], [4, 9]), ([10], [10]), ([0, 0, 1, 2, 3, 4, 5, 6, 7, 8, 9, 10, 11], [0]), ([12, 0, 1, 2, 3, 4, 5, 6, 7, 8, 9, 10, 11], [12]), ([13, 11, 0, 1, 2, 3, 4, 5, 6, 7, 8, 9, 10, 11], [11, 13])])
def F37.B5 : List Nat := [0, 0, 2, 6, 14, 0, 0, 96, 224, 480, 1022, 2046, 4095, 8191, 16383]
theorem F37.tab5 : rtab .any (opsOf Tryz.f37 5) = F37.T5 := by kernel_rfl
theorem F37.bits5 : waitsOk F37.T5.2 F37.B5 = true := by kernel_rfl
theorem F37.calls {k : Nat} {A0 : Option Addr} {c0 : Nat} {l0 r1 : List Int} {r2 r3 r4 : Int} (w0 : World) {w : World} (hB : Below w0.heap.size w0 w) (bH : Kd.C (Kd.int .u8) w0 A0 l0.length l0) (hc0 : l0.length ≤ c0) (h : F37.f k l0 = some (r1, r2, r3, r4)) :
  Calls Tryz.prog 37 #[.slice A0 l0.length c0] w fun e w' => ∃ g_ : Nat, e = .returned (.pointer (some ⟨g_, 0, none⟩)) ∧ IsS104 w0 w' g_ r1 r2 r3 r4 ∧ Below w0.heap.size w0 w' ∧ Below w.heap.size w w' := by
 have Vc := Tryz.underlying104
 have fN := am_ bH
 have kt := am_ hc0
 clear bH hc0
 have HBW := am_ (Below.refl w.heap.size w)
 have oF := am_ hB.size
 have HB := am_ hB
 clear hB
 have H := h; unfold F37.f at H
 clear h
 have H' := am_ H
 clear H
 go_enter Tryz.func37, Tryz.ntmps37
 go_wp2_with (first | ((with_reducible refine gate_dst (N := 7) rfl ?_); refine be_ 7 #[.slice A0 l0.length c0, .int .i64 0, .int .u64 88172645463325252, .int .i64 0] 104 ?_; intro fR hg w2 hbox hb; replace HB := am_ (below_step bl_ hb); have dJ := am_ (hbox); have KC := am_ ((by rw [hg]; exact (below_size au2_18) : w.heap.size ≤ fR)); have DG := am_ ((Nat.le_trans oF.out (by rw [hg]; exact (below_size au2_18) : w.heap.size ≤ fR) : w0.heap.size ≤ fR)); replace HBW := am_ (below_step HBW.out hb); clear hb hbox hg))
 go_loopg [4] k (fun kq v4 w' => ∃ (bq : Int) (dp : Int), v4 = .int .i64 bq ∧ Aside0 (F37.l0 kq l0 bq l0 0 dp 0 = some (r1, r2, r3, r4)) ∧ Aside0 (kq ≤ k) ∧ Aside0 (w'.heap[fR]? = some (.cells #[(.slice A0 l0.length c0), .int .i64 0, .int .u64 dp, .int .i64 0] 104 (0, 0))) ∧ Aside0 (Below w.heap.size w w') ∧ Aside0 (Below w0.heap.size w0 w'))
 case atStart => exact ⟨(0), (88172645463325252), er_, H', ⟨Nat.le_refl _⟩, ⟨bk_ dJ⟩, ⟨au2_9⟩, ⟨bl_⟩⟩
 case round =>
  clear H'
  obtain ⟨bq, dp, rfl, HA, cK, dJ, HBW, HB⟩ := hrel
  cases gk with
  | zero => exact absurd HA.out (by simp [F37.l0])
  | succ k1 =>
   have H := HA.out
   clear HA
   simp only [F37.l0] at H
   replace H := it_ H; rcases H with ⟨c3b0, H⟩ | ⟨c3b0, H⟩
   rotate_left
   ·replace H := it_ H; rcases H with ⟨(c11b0 : decide (12 < (wrap64 ((l0.length : Int) / 20))) = true), H⟩ | ⟨(c11b0 : decide (12 < (wrap64 ((l0.length : Int) / 20))) = false), H⟩
    ·simp only [Option.some.injEq, Prod.mk.injEq] at H
     obtain ⟨rfl, rfl, rfl, rfl⟩ := H
     have ei := cellsF4 dJ.out
     go_wp2
     go_ret
     exact tg2_1
    simp only [Option.some.injEq, Prod.mk.injEq] at H
    obtain ⟨rfl, rfl, rfl, rfl⟩ := H
    have ej := cellsF4 dJ.out
    go_wp2
    go_ret
    exact tg2_2
   replace H := it_ H; rcases H with ⟨c4b0, H⟩ | ⟨c4b0, H⟩
   rotate_left
   ·replace H := it_ H; rcases H with ⟨(c8b0 : decide (12 < (wrap64 ((l0.length : Int) / 20))) = true), H⟩ | ⟨(c8b0 : decide (12 < (wrap64 ((l0.length : Int) / 20))) = false), H⟩
    rotate_left
    ·simp only [Option.some.injEq, Prod.mk.injEq] at H
     obtain ⟨rfl, rfl, rfl, rfl⟩ := H
     have eZ := cellsF4 dJ.out
     go_wp2
     go_ret
     exact tg2_2
    simp only [Option.some.injEq, Prod.mk.injEq] at H
    obtain ⟨rfl, rfl, rfl, rfl⟩ := H
    have jS := cellsF4 dJ.out
    go_wp2
    go_ret
    exact tg2_1
   replace H := itn_ H; rcases H with ⟨c5b0, H⟩
   have H' := am_ H
   clear H
   try go_wp2
   replace dJ := bd_ dJ
   replace HB := am_ (below_drew1 HB.out)
   replace HBW := am_ (below_drew1 HBW.out)
   have Fh : 0 ≤ (bq : Int) := od_
   have Fi : bq < (l0.length : Int) := od_
   obtain ⟨DI, QV, kF⟩ := Kd.at_int fN.out bq Fh Fi
   have Av := kF
   cases QV
   replace kF := pw_cell_below HB.out kF
   replace Fh := eq_true Fh
   replace Fi := eq_true Fi
   refine start_ (n := 15) (S := fun w' => w'.cell? ⟨fR, 0, none⟩ = some (.slice (some DI) l0.length c0) ∧ w'.cell? ⟨fR, 1, none⟩ = some (.int .i64 0) ∧ w'.cell? ⟨fR, 2, none⟩ = some (.int .u64 dp) ∧ w'.cell? ⟨fR, 3, none⟩ = some (.int .i64 0) ∧ w'.cell? (DI.add (bq).toNat) = some (.int .u8 (rd l0 bq))) (ds := [14]) (bs 15 0) (by kernel_rfl) rfl rfl ⟨(blk_cell dJ.out 0).trans rfl, (blk_cell dJ.out 1).trans rfl, (blk_cell dJ.out 2).trans rfl, (blk_cell dJ.out 3).trans rfl, (pw_cell_below HB.out Av)⟩ (fun hHeld => ?_); refine with_tabW F37.tab5 F37.bits5 (fun HT_ HW_ => ?_)
   generalize wr.drew = w6 at dJ HB HBW kF hHeld ⊢
   refine pq_ 0 HT_ ?_
   refine pq_ 1 HT_ ?_
   refine pq_ 2 HT_ ?_
   refine pq_ 3 HT_ ?_
   refine pq_ 5 HT_ ?_
   refine pq_ 6 HT_ ?_
   refine pq_ 7 HT_ ?_
   refine tq_ 4 HT_ HW_ hHeld rfl ax52_ ?_
   refine tq_ 8 HT_ HW_ hHeld rfl ax52_ ?_
   refine pq_ 9 HT_ ?_
   refine pq_ 10 HT_ ?_
   refine pq_ 11 HT_ ?_
   refine pq_ 12 HT_ ?_
   refine pq_ 13 HT_ ?_
   refine lq_ 14 HT_ (fun K hK => ?_)
   have hs7 : w6.cell? ⟨fR, 2, none⟩ = some (.int .u64 dp) := (blk_cell dJ.out 2).trans rfl
   have YZ := blk_frozen dJ.out 2
   refine skip_ (w1 := ?_) (by rfl) rfl ?_ ?_
   rotate_left
   ·go_simp
    rfl
   refine hK.out _ _ ?_
   clear hK K
   refine done_ (done_of HT_.out (by kernel_rfl)) ?_
   try go_wp2
   go_roundg k1
   case measure => have := cK.out; omega
   case rel => exact ⟨(wrap64 (bq + 1)), (IntKind.u64.wrap ((Go.bits .xor .u64 dp (IntKind.u64.wrap (rd l0 bq))) * 1099511628211)), er_, H', ⟨by have := cK.out; omega⟩, ⟨bq_ dJ⟩, ⟨au2_9⟩, ⟨bl_⟩⟩
def F72.l0 : Nat → ByteArray → Int → Option (Bool)
  | 0, _, _ => none
  | k + 1, x0, x3 => if x3 < 3 then (if 0 ≤ x3 then (if x3 < (x0.size : Int) then (if (bt x0 x3) < 65 then (some false) else (if (bt x0 x3) > 90 then (some false) else (F72.l0 k x0 (wrap64 (x3 + 1))))) else (none)) else (none)) else (some true)
def F72.f (k : Nat) (a0 : ByteArray) : Option (Bool) := if (a0.size : Int) = 3 then (F72.l0 k a0 0) else (some false)
theorem F72.mono_l : ∀ k, (∀ y0 y1, LeO (F72.l0 k y0 y1) (F72.l0 (k + 1) y0 y1))
 | 0 => fun _ _ r h => by simp [F72.l0] at h
 | k + 1 => by
  have ef := F72.mono_l k
  intro y0 y1
  unfold F72.l0
  exact tg2_3
theorem F72.mono : ∀ a0 k, LeO (F72.f k a0) (F72.f (k + 1) a0) := by
 intro a0 k
 have ef := F72.mono_l k
 unfold F72.f
 exact tg2_3
theorem F72.calls {k : Nat} {a0 : ByteArray} {r : Bool} {w : World} (h : F72.f k a0 = some r) :
  Calls Tryz.prog 72 #[.string a0] w fun e w' => e = .returned (.bool r) ∧ Drawn0 w w' := by
 have H := h; unfold F72.f at H
 clear h
 by_cases c2 : (a0.size : Int) = 3
 rotate_left
 ·rw [if_neg c2] at H
  have c2b0 : ((a0.size : Int) == 3) = false := beq_eq_false_iff_ne.mpr c2
  have c2b1 : ((a0.size : Int) != 3) = true := bne_iff_ne.mpr c2
  obtain rfl := Option.some.inj H
  go_enter Tryz.func72, Tryz.ntmps72
  go_wp2
  go_ret
  exact ⟨er_, dn_⟩
 rw [if_pos c2] at H
 have c2b0 : ((a0.size : Int) == 3) = true := beq_iff_eq.mpr c2
 have c2b1 : ((a0.size : Int) != 3) = false := bne_eq_false_iff_eq.mpr c2
 clear c2
 have H' := am_ H
 clear H
 go_enter Tryz.func72, Tryz.ntmps72
 go_wp2
 go_loopg [3] k (fun kq v3 w' => ∃ (be : Int), v3 = .int .i64 be ∧ Aside0 (F72.l0 kq a0 be = some r) ∧ Aside0 (kq ≤ k) ∧ Drawn0 w w')
 case atStart => exact ⟨(0), er_, H', ⟨Nat.le_refl _⟩, dn_⟩
 case round =>
  clear H'
  try clear c2b0
  try clear c2b1
  obtain ⟨be, rfl, HA, cK, ⟨m1, rfl⟩⟩ := hrel
  cases gk with
  | zero => exact absurd HA.out (by simp [F72.l0])
  | succ k1 =>
   have H := HA.out
   clear HA
   simp only [F72.l0] at H
   replace H := it_ H; rcases H with ⟨c3b0, H⟩ | ⟨c3b0, H⟩
   rotate_left
   ·obtain rfl := Option.some.inj H
    go_wp2
    go_ret
    exact ⟨er_, dn_⟩
   replace H := itn_ H; rcases H with ⟨c4b0, H⟩
   replace H := itn_ H; rcases H with ⟨c5b0, H⟩
   replace H := it_ H; rcases H with ⟨c7b0, H⟩ | ⟨c7b0, H⟩
   ·obtain rfl := Option.some.inj H
    have p6 : 0 ≤ (be : Int) := od_
    have q6 : be < (a0.size : Int) := od_
    have gE := bt_at a0 be
    replace p6 := eq_true p6
    replace q6 := eq_true q6
    go_wp2
    go_ret
    exact ⟨er_, dn_⟩
   replace H := it_ H; rcases H with ⟨(c9b0 : decide (90 < (bt a0 be)) = true), H⟩ | ⟨(c9b0 : decide (90 < (bt a0 be)) = false), H⟩
   ·obtain rfl := Option.some.inj H
    have p6 : 0 ≤ (be : Int) := od_
    have q6 : be < (a0.size : Int) := od_
    have gE := bt_at a0 be
    replace p6 := eq_true p6
    replace q6 := eq_true q6
    have p8 : 0 ≤ (be : Int) := od_
    have q8 : be < (a0.size : Int) := od_
    have Ob := bt_at a0 be
    replace p8 := eq_true p8
    replace q8 := eq_true q8
    go_wp2
    go_ret
    exact ⟨er_, dn_⟩
   have H' := am_ H
   clear H
   have p6 : 0 ≤ (be : Int) := od_
   have q6 : be < (a0.size : Int) := od_
   have gE := bt_at a0 be
   replace p6 := eq_true p6
   replace q6 := eq_true q6
   have p8 : 0 ≤ (be : Int) := od_
   have q8 : be < (a0.size : Int) := od_
   have Ob := bt_at a0 be
   replace p8 := eq_true p8
   replace q8 := eq_true q8
   go_wp2
   go_roundg k1
   case measure => have := cK.out; omega
   case rel => exact tg2_4
def F73.l0 : Nat → ByteArray → Int → Option (Bool)
  | 0, _, _ => none
  | k + 1, x0, x3 => if x3 < (x0.size : Int) then (if 0 ≤ x3 then (if (bt x0 x3) < 32 then (some false) else (if (bt x0 x3) > 126 then (some false) else (F73.l0 k x0 (wrap64 (x3 + 1))))) else (none)) else (some true)
def F73.f (k : Nat) (a0 : ByteArray) : Option (Bool) := if (a0.size : Int) > 40 then (some false) else (F73.l0 k a0 0)
theorem F73.mono_l : ∀ k, (∀ y0 y1, LeO (F73.l0 k y0 y1) (F73.l0 (k + 1) y0 y1))
 | 0 => fun _ _ r h => by simp [F73.l0] at h
 | k + 1 => by
  have ef := F73.mono_l k
  intro y0 y1
  unfold F73.l0
  exact tg2_3
theorem F73.mono : ∀ a0 k, LeO (F73.f k a0) (F73.f (k + 1) a0) := by
 intro a0 k
 have ef := F73.mono_l k
 unfold F73.f
 exact tg2_3
theorem F73.calls {k : Nat} {a0 : ByteArray} {r : Bool} {w : World} (h : F73.f k a0 = some r) :
  Calls Tryz.prog 73 #[.string a0] w fun e w' => e = .returned (.bool r) ∧ Drawn0 w w' := by
 have H := h; unfold F73.f at H
 clear h
 replace H := it_ H; rcases H with ⟨(c2b0 : decide (40 < (a0.size : Int)) = true), H⟩ | ⟨(c2b0 : decide (40 < (a0.size : Int)) = false), H⟩
 ·have c2b1 : decide (40 < a0.size) = true := n2_ c2b0
  obtain rfl := Option.some.inj H
  go_enter Tryz.func73, Tryz.ntmps73
  go_wp2
  go_ret
  exact ⟨er_, dn_⟩
 have c2b1 : decide (40 < a0.size) = false := n2_ c2b0
 have H' := am_ H
 clear H
 go_enter Tryz.func73, Tryz.ntmps73
 go_wp2
 go_loopg [3] k (fun kq v3 w' => ∃ (be : Int), v3 = .int .i64 be ∧ Aside0 (F73.l0 kq a0 be = some r) ∧ Aside0 (kq ≤ k) ∧ Drawn0 w w')
 case atStart => exact ⟨(0), er_, H', ⟨Nat.le_refl _⟩, dn_⟩
 case round =>
  clear H'
  try clear c2b0
  try clear c2b1
  obtain ⟨be, rfl, HA, cK, ⟨m1, rfl⟩⟩ := hrel
  cases gk with
  | zero => exact absurd HA.out (by simp [F73.l0])
  | succ k1 =>
   have H := HA.out
   clear HA
   simp only [F73.l0] at H
   replace H := it_ H; rcases H with ⟨c3b0, H⟩ | ⟨c3b0, H⟩
   rotate_left
   ·obtain rfl := Option.some.inj H
    go_wp2
    go_ret
    exact ⟨er_, dn_⟩
   replace H := itn_ H; rcases H with ⟨c4b0, H⟩
   replace H := it_ H; rcases H with ⟨c6b0, H⟩ | ⟨c6b0, H⟩
   ·obtain rfl := Option.some.inj H
    have p5 : 0 ≤ (be : Int) := od_
    have q5 : be < (a0.size : Int) := od_
    have fk := bt_at a0 be
    replace p5 := eq_true p5
    replace q5 := eq_true q5
    go_wp2
    go_ret
    exact ⟨er_, dn_⟩
   replace H := it_ H; rcases H with ⟨(c8b0 : decide (126 < (bt a0 be)) = true), H⟩ | ⟨(c8b0 : decide (126 < (bt a0 be)) = false), H⟩
   ·obtain rfl := Option.some.inj H
    have p5 : 0 ≤ (be : Int) := od_
    have q5 : be < (a0.size : Int) := od_
    have fk := bt_at a0 be
    replace p5 := eq_true p5
    replace q5 := eq_true q5
    have p7 : 0 ≤ (be : Int) := od_
    have q7 : be < (a0.size : Int) := od_
    have nF := bt_at a0 be
    replace p7 := eq_true p7
    replace q7 := eq_true q7
    go_wp2
    go_ret
    exact ⟨er_, dn_⟩
   have H' := am_ H
   clear H
   have p5 : 0 ≤ (be : Int) := od_
   have q5 : be < (a0.size : Int) := od_
   have fk := bt_at a0 be
   replace p5 := eq_true p5
   replace q5 := eq_true q5
   have p7 : 0 ≤ (be : Int) := od_
   have q7 : be < (a0.size : Int) := od_
   have nF := bt_at a0 be
   replace p7 := eq_true p7
   replace q7 := eq_true q7
   go_wp2
   go_roundg k1
   case measure => have := cK.out; omega
   case rel => exact tg2_4
def F74.f (fj : List ByteArray) : Option (Bool) := if (fj.length : Int) = 1 then (if 0 < (fj.length : Int) then (some ((rdOf ByteArray.empty fj 0).toList == ([] : List UInt8))) else (none)) else (some false)
theorem F74.calls {uS : Option Addr} {uT : Nat} {fj : List ByteArray} {r : Bool} {w : World} (DJ : Kd.C Kd.string w uS fj.length fj) (DK : fj.length ≤ uT) (h : F74.f fj = some r) :
  Calls Tryz.prog 74 #[.agg #[.slice uS fj.length uT]] w fun e w' => e = .returned (.bool r) ∧ Below w.heap.size w w' := by
 have kX := Tryz.underlying91
 have KI := am_ DJ
 have Vd := am_ DK
 clear DJ DK
 have HB := am_ (Below.refl w.heap.size w)
 have H := h; unfold F74.f at H
 clear h
 by_cases c2 : (fj.length : Int) = 1
 rotate_left
 ·rw [if_neg c2] at H
  have c2b0 : ((fj.length : Int) == 1) = false := beq_eq_false_iff_ne.mpr c2
  have c2b1 : ((fj.length : Int) != 1) = true := bne_iff_ne.mpr c2
  obtain rfl := Option.some.inj H
  go_enter Tryz.func74, Tryz.ntmps74
  go_wp2_with (first | ((with_reducible refine gate_dst (N := 1) rfl ?_); refine be_ 1 #[.slice uS fj.length uT] 91 ?_; intro xv hg w6 hbox hb; have nZ := am_ (hbox); have xw := am_ (gw_ hg bl_); have KJ := xw; replace HB := hs_ w hb; clear hb hbox hg; have fu : w6.cell? ⟨xv, 0, none⟩ = some (.slice uS fj.length uT) := (blk_cell nZ.out 0).trans rfl; have QW := blk_frozen nZ.out 0))
  go_ret
  exact ⟨ax11_, bl_⟩
 rw [if_pos c2] at H
 have c2b0 : ((fj.length : Int) == 1) = true := beq_iff_eq.mpr c2
 have c2b1 : ((fj.length : Int) != 1) = false := bne_eq_false_iff_eq.mpr c2
 clear c2
 replace H := itn_ H; rcases H with ⟨c3b0, H⟩
 have c3b1 : decide (0 < fj.length) = true := n2_ c3b0
 obtain rfl := Option.some.inj H
 go_enter Tryz.func74, Tryz.ntmps74
 go_wp2_with (first | ((with_reducible refine gate_dst (N := 1) rfl ?_); refine be_ 1 #[.slice uS fj.length uT] 91 ?_; intro xv hg w4 hbox hb; have nZ := am_ (hbox); have xw := am_ (gw_ hg bl_); have KJ := xw; replace HB := hs_ w hb; clear hb hbox hg; have lc : w4.cell? ⟨xv, 0, none⟩ = some (.slice uS fj.length uT) := (blk_cell nZ.out 0).trans rfl; have QX := blk_frozen nZ.out 0; have Fj : 0 ≤ (0 : Int) := (by omega); have Fk : 0 < (fj.length : Int) := od_; obtain ⟨Ve, QY, kG⟩ := Kd.at_string KI.out 0 Fj Fk; cases QY; have Vf : (0 < fj.length) = True := eq_true (by omega); (try rw [show ((0 : Int)).toNat = 0 from rfl] at kG); (try rw [Addr.add_zero'] at kG); replace kG := pw_cell_below HB.out kG; replace Fj := eq_true Fj; replace Fk := eq_true Fk))
 go_ret
 exact ⟨ax11_, bl_⟩
mutual
def F41.j0 : Nat → Bool → ByteArray → List (S91) → Option (Bool)
  | 0, _, _, _ => none
  | k + 1, Aw, du, aT => if Aw = true then (some false) else (F41.l0 k 0 du aT)
def F41.l0 : Nat → Int → ByteArray → List (S91) → Option (Bool)
  | 0, _, _, _ => none
  | k + 1, x3, du, aT => if x3 < (aT.length : Int) then (if 0 ≤ x3 then (if (((rd_T91 aT x3).f0).length : Int) < 1 then (F41.j2 k x3 ((rd_T91 aT x3).f0) true du aT) else (if (((rd_T91 aT x3).f0).length : Int) > 4 then (F41.j2 k x3 ((rd_T91 aT x3).f0) true du aT) else (if (((rd_T91 aT x3).f0).length : Int) > 1 then (if 0 ≤ (wrap64 ((((rd_T91 aT x3).f0).length : Int) - 1)) then (if (wrap64 ((((rd_T91 aT x3).f0).length : Int) - 1)) < (((rd_T91 aT x3).f0).length : Int) then (F41.j2 k x3 ((rd_T91 aT x3).f0) ((rdOf ByteArray.empty ((rd_T91 aT x3).f0) (wrap64 ((((rd_T91 aT x3).f0).length : Int) - 1))).toList == ([] : List UInt8)) du aT) else (none)) else (none)) else (F41.j2 k x3 ((rd_T91 aT x3).f0) false du aT)))) else (none)) else (if (aT.length : Int) = 0 then (some true) else (if 0 ≤ (wrap64 ((aT.length : Int) - 1)) then (if (wrap64 ((aT.length : Int) - 1)) < (aT.length : Int) then ((F74.f ((rd_T91 aT (wrap64 ((aT.length : Int) - 1))).f0)).bind fun Ax => (some (!Ax))) else (none)) else (none)))
def F41.j2 : Nat → Int → List ByteArray → Bool → ByteArray → List (S91) → Option (Bool)
  | 0, _, _, _, _, _ => none
  | k + 1, x3, x4, Y0, du, aT => if Y0 = true then (some false) else (F41.l1 k x3 x4 0 du aT)
def F41.l1 : Nat → Int → List ByteArray → Int → ByteArray → List (S91) → Option (Bool)
  | 0, _, _, _, _, _ => none
  | k + 1, x3, x4, x5, du, aT => if x5 < (x4.length : Int) then (if 0 ≤ x5 then ((F73.f k (rdOf ByteArray.empty x4 x5)).bind fun KK => (if KK = true then (F41.l1 k x3 x4 (wrap64 (x5 + 1)) du aT) else (some false))) else (none)) else (F41.l0 k (wrap64 (x3 + 1)) du aT)
end
def F41.f (k : Nat) (ae : ByteArray) (ac : List (S91)) : Option (Bool) := (F72.f k ae).bind fun KL => (if KL = true then (F41.j0 k (decide ((ac.length : Int) > 10)) ae ac) else (F41.j0 k true ae ac))
theorem F41.mono_l : ∀ k, (∀ y0 y1 y2, LeO (F41.j0 k y0 y1 y2) (F41.j0 (k + 1) y0 y1 y2)) ∧ (∀ y0 y1 y2, LeO (F41.l0 k y0 y1 y2) (F41.l0 (k + 1) y0 y1 y2)) ∧ (∀ y0 y1 y2 y3 y4, LeO (F41.j2 k y0 y1 y2 y3 y4) (F41.j2 (k + 1) y0 y1 y2 y3 y4)) ∧ (∀ y0 y1 y2 y3 y4, LeO (F41.l1 k y0 y1 y2 y3 y4) (F41.l1 (k + 1) y0 y1 y2 y3 y4))
 | 0 => ⟨fun _ _ _ r h => by simp [F41.j0] at h, fun _ _ _ r h => by simp [F41.l0] at h, fun _ _ _ _ _ r h => by simp [F41.j2] at h, fun _ _ _ _ _ r h => by simp [F41.l1] at h⟩
 | k + 1 => by
  obtain ⟨ef, kW, ro, DH⟩ := F41.mono_l k
  refine ⟨?_, ?_, ?_, ?_⟩
  rotate_left
  ·intro y0 y1 y2
   unfold F41.l0
   exact tg2_5
  ·intro y0 y1 y2 y3 y4
   unfold F41.j2
   exact tg2_5
  ·intro y0 y1 y2 y3 y4
   unfold F41.l1
   exact tg2_5
  intro y0 y1 y2
  unfold F41.j0
  exact tg2_5
theorem F41.mono : ∀ a0 a1 k, LeO (F41.f k a0 a1) (F41.f (k + 1) a0 a1) := by
 intro a0 a1 k
 obtain ⟨ef, kW, ro, DH⟩ := F41.mono_l k
 unfold F41.f
 exact tg2_5
theorem F41.calls {k : Nat} {ae : ByteArray} {aJ : Option Addr} {aH : Nat} {ac : List (S91)} {r : Bool} {w : World} (aY : Kd.C k91 w aJ ac.length ac) (aZ : ac.length ≤ aH) (h : F41.f k ae ac = some r) :
  Calls Tryz.prog 41 #[.agg #[.string ae, .slice aJ ac.length aH]] w fun e w' => e = .returned (.bool r) ∧ Below w.heap.size w w' := by
 have dk := Tryz.underlying49
 have kX := Tryz.underlying91
 have br := am_ aY
 have da := am_ aZ
 clear aY aZ
 have HB := am_ (Below.refl w.heap.size w)
 have H := h; unfold F41.f at H
 clear h
 have d6 := am_ H
 clear H
 go_enter Tryz.func41, Tryz.ntmps41
 go_upto_region 1 with (first | ((with_reducible refine gate_dst (N := 1) rfl ?_); (try (refine gate_guard (by rfl) ?_; dsimp only)); refine be_ 1 #[.string ae, .slice aJ ac.length aH] 49 ?_; intro rp hg w3 hbox hb; have db := am_ (hbox); have KM := am_ (gw_ hg bl_); have Vg := KM; replace HB := hs_ w hb; clear hb hbox hg))
 (try simp only [Act.put, List.setIfInBounds_toArray, List.set_cons_zero, List.set_cons_succ])
 go_cut [15] (fun QZ wc => ∃ (kq : Nat) (bP : Bool), QZ = .bool bP ∧ Aside0 (F41.j0 kq bP ae ac = some r) ∧ Aside0 (kq ≤ k) ∧ Aside0 (wc.heap[rp]? = some (.cells #[.string ae, (.slice aJ ac.length aH)] 49 (0, 0))) ∧ Aside0 (Below w.heap.size w wc))
 case first =>
  have H := d6.out
  clear d6
  replace H := bi_ H; rcases H with ⟨KL, A4, H⟩
  replace H := ib_ H; rcases H with ⟨rfl, H⟩ | ⟨rfl, H⟩
  rotate_left
  ·have H' := am_ H
   clear H
   have fu := cellsF2 db.out
   go_wp2_with (first | (go_at_call 72; (with_reducible refine (F72.calls A4.out).mono ?_); rintro e w' ⟨rfl, ⟨nd, rfl⟩⟩; (try clear A4)))
   go_meet
   case rel => exact ⟨_, (true), er_, H', ⟨by first | omega | exact Nat.le_refl _⟩, ⟨bk_ db⟩, ⟨bl_⟩⟩
  have H' := am_ H
  clear H
  have gK := cellsF2 db.out
  go_wp2_with (first | (go_at_call 72; (with_reducible refine (F72.calls A4.out).mono ?_); rintro e w' ⟨rfl, ⟨nd, rfl⟩⟩; (try clear A4)))
  go_meet
  case rel => exact ⟨_, (decide ((ac.length : Int) > 10)), er_, H', ⟨by first | omega | exact Nat.le_refl _⟩, ⟨bk_ db⟩, ⟨bl_⟩⟩
 case rest =>
  clear d6
  obtain ⟨kq, bP, rfl, HA, HJ1, db, HB⟩ := hcut
  cases kq with
  | zero => exact absurd HA.out (by simp [F41.j0])
  | succ vT =>
   have H := HA.out
   clear HA
   simp only [F41.j0] at H
   replace H := ib_ H; rcases H with ⟨rfl, H⟩ | ⟨rfl, H⟩
   ·obtain rfl := Option.some.inj H
    go_wp2
    go_ret
    exact ⟨ax11_, bl_⟩
   have H' := am_ H
   clear H
   go_wp2
   go_loopg [3] vT (fun kq v3 w' => ∃ (ai : Int), v3 = .int .i64 ai ∧ Aside0 (F41.l0 kq ai ae ac = some r) ∧ Aside0 (kq ≤ vT) ∧ Aside0 (w'.heap[rp]? = some (.cells #[.string ae, (.slice aJ ac.length aH)] 49 (0, 0))) ∧ Aside0 (Below w.heap.size w w'))
   case atStart => exact ⟨(0), er_, H', ⟨Nat.le_refl _⟩, ⟨bk_ db⟩, ⟨bl_⟩⟩
   case round =>
    clear H'
    obtain ⟨ai, rfl, HA, HK2, db, HB⟩ := hrel
    cases gk with
    | zero => exact absurd HA.out (by simp [F41.l0])
    | succ k2 =>
     have H := HA.out
     clear HA
     simp only [F41.l0] at H
     replace H := it_ H; rcases H with ⟨c9b0, H⟩ | ⟨c9b0, H⟩
     rotate_left
     ·by_cases oE : (ac.length : Int) = 0
      ·rw [if_pos oE] at H
       have c24b0 : ((ac.length : Int) == 0) = true := beq_iff_eq.mpr oE
       have c24b1 : ((ac.length : Int) != 0) = false := bne_eq_false_iff_eq.mpr oE
       clear oE
       obtain rfl := Option.some.inj H
       have Oq := cellsF2 db.out
       go_wp2
       go_ret
       exact ⟨ax11_, bl_⟩
      rw [if_neg oE] at H
      have c24b0 : ((ac.length : Int) == 0) = false := beq_eq_false_iff_ne.mpr oE
      have c24b1 : ((ac.length : Int) != 0) = true := bne_iff_ne.mpr oE
      have c24b2 : ¬ (ac = []) := fun h_ => oE (by rw [h_]; rfl)
      obtain ⟨mT, rq⟩ : ∃ j_ : Int, (wrap64 ((ac.length : Int) - 1)) = j_ := ⟨_, rfl⟩
      replace H : (if 0 ≤ (mT) then (if (mT) < (ac.length : Int) then ((F74.f ((rd_T91 ac (mT)).f0)).bind fun Ax => (some (!Ax))) else (none)) else (none)) = some r := by first | (rw [rq] at H; exact H) | (simp only [rq] at H ⊢; exact H)
      have hji26w : (IntKind.i64.wrap ((ac.length : Int) - 1)) = mT := (i64_w _).trans rq
      by_cases vU : 0 ≤ (mT)
      rotate_left
      ·rw [if_neg vU] at H
       exact absurd H (by simp)
      rw [if_pos vU] at H
      have c27b0 : decide (0 ≤ (mT)) = true := decide_eq_true vU
      clear vU
      replace H := itn_ H; rcases H with ⟨c28b0, H⟩
      replace H := bi_ H; rcases H with ⟨Ax, Fl, H⟩
      obtain rfl := Option.some.inj H
      have kA := cellsF2 db.out
      have Fm : 0 ≤ ((mT) : Int) := od_
      have Fn : (mT) < (ac.length : Int) := od_
      obtain ⟨Vh, Q0, Q1, Q2, rr, rt, ru⟩ := at_T91 br.out (mT) Fm Fn
      cases Q2
      replace rr := pw_cell_below HB.out rr
      have Ay := am_ ru
      have Az := am_ rt
      clear ru rt
      replace Fm := eq_true Fm
      replace Fn := eq_true Fn
      go_wp2_with (first | (go_at_call 74; (with_reducible refine (F74.calls ?s1 ?s2 Fl.out).mono ?_); (case s1 => repeat (first | exact (Kd.C_below Ay.out HB.out) | (with_reducible refine Kd.C_alloc ?_ _) | (with_reducible refine Kd.C_drewN ?_ _) | (with_reducible refine Kd.C_drew ?_))); (case s2 => exact Az.out); rintro e Y1 ⟨rfl, hb⟩; (try clear Fl); replace db := bb_ db hb; replace HB := hs_ w hb; (try clear hb)))
      go_ret
      exact ⟨by first | rfl | (simp [errW_none, errW_some] <;> rfl) | (simp only [← rq]; first | rfl | (simp [errW_none, errW_some] <;> rfl)) | (simp [*, errW_none, errW_some] <;> rfl), bl_⟩
     replace H := itn_ H; rcases H with ⟨c10b0, H⟩
     have lm := am_ H
     clear H
     have ei := cellsF2 db.out
     have AA : 0 ≤ (ai : Int) := od_
     have AB : ai < (ac.length : Int) := od_
     obtain ⟨DL, Q3, Q4, Q5, mU, rv, rx⟩ := at_T91 br.out ai AA AB
     cases Q5
     replace mU := pw_cell_below HB.out mU
     have mV := am_ rx
     have Ot := am_ rv
     clear rx rv
     replace AA := eq_true AA
     replace AB := eq_true AB
     go_upto_region 7 with (fail)
     go_cut [50] (fun Y2 wc => ∃ (kq : Nat) (pb : Bool), Y2 = .bool pb ∧ Aside0 (F41.j2 kq ai ((rd_T91 ac ai).f0) pb ae ac = some r) ∧ Aside0 (kq ≤ k2) ∧ Aside0 (wc.heap[rp]? = some (.cells #[.string ae, (.slice (some DL) ac.length aH)] 49 (0, 0))) ∧ Aside0 (Below w.heap.size w wc))
     case first =>
      have H := lm.out
      clear lm
      replace H := it_ H; rcases H with ⟨c13b0, H⟩ | ⟨c13b0, H⟩
      ·have c13b1 : decide (((rd_T91 ac ai).f0).length < 1) = true := n2_ c13b0
       (first | rw [c13b0] | (simp only [i64_w, i32_w]; rw [c13b0]) | skip)
       have H' := am_ H
       clear H
       go_wp2
       go_meet
       case rel => exact ⟨_, (true), er_, H', ⟨ax12_⟩, ⟨bk_ db⟩, ⟨bl_⟩⟩
      have c13b1 : decide (((rd_T91 ac ai).f0).length < 1) = false := n2_ c13b0
      (first | rw [c13b0] | (simp only [i64_w, i32_w]; rw [c13b0]) | skip)
      replace H := it_ H; rcases H with ⟨(c14b0 : decide (4 < (((rd_T91 ac ai).f0).length : Int)) = true), H⟩ | ⟨(c14b0 : decide (4 < (((rd_T91 ac ai).f0).length : Int)) = false), H⟩
      ·have c14b1 : decide (4 < ((rd_T91 ac ai).f0).length) = true := n2_ c14b0
       have H' := am_ H
       clear H
       go_wp2
       go_meet
       case rel => exact ⟨_, (true), er_, H', ⟨ax12_⟩, ⟨bk_ db⟩, ⟨bl_⟩⟩
      have c14b1 : decide (4 < ((rd_T91 ac ai).f0).length) = false := n2_ c14b0
      replace H := it_ H; rcases H with ⟨(c15b0 : decide (1 < (((rd_T91 ac ai).f0).length : Int)) = true), H⟩ | ⟨(c15b0 : decide (1 < (((rd_T91 ac ai).f0).length : Int)) = false), H⟩
      rotate_left
      ·have c15b1 : decide (1 < ((rd_T91 ac ai).f0).length) = false := n2_ c15b0
       have H' := am_ H
       clear H
       go_wp2
       go_meet
       case rel => exact ⟨_, (false), er_, H', ⟨ax12_⟩, ⟨bk_ db⟩, ⟨bl_⟩⟩
      have c15b1 : decide (1 < ((rd_T91 ac ai).f0).length) = true := n2_ c15b0
      obtain ⟨n4, ry⟩ : ∃ j_ : Int, (wrap64 ((((rd_T91 ac ai).f0).length : Int) - 1)) = j_ := ⟨_, rfl⟩
      replace H : (if 0 ≤ (n4) then (if (n4) < (((rd_T91 ac ai).f0).length : Int) then (F41.j2 k2 ai ((rd_T91 ac ai).f0) ((rdOf ByteArray.empty ((rd_T91 ac ai).f0) (n4)).toList == ([] : List UInt8)) ae ac) else (none)) else (none)) = some r := by first | (rw [ry] at H; exact H) | (simp only [ry] at H ⊢; exact H)
      have hji16w : (IntKind.i64.wrap ((((rd_T91 ac ai).f0).length : Int) - 1)) = n4 := (i64_w _).trans ry
      replace H := itn_ H; rcases H with ⟨c17b0, H⟩
      replace H := itn_ H; rcases H with ⟨c18b0, H⟩
      have H' := am_ H
      clear H
      have Fo : 0 ≤ ((n4) : Int) := od_
      have Fp : (n4) < (((rd_T91 ac ai).f0).length : Int) := od_
      obtain ⟨Vi, Q6, rz⟩ := Kd.at_string mV.out (n4) Fo Fp
      cases Q6
      replace rz := pw_cell_below HB.out rz
      replace Fo := eq_true Fo
      replace Fp := eq_true Fp
      go_wp2
      go_meet
      case rel => exact ⟨_, (((rdOf ByteArray.empty ((rd_T91 ac ai).f0) (n4)).toList == ([] : List UInt8))), (by first | rfl | (simp; done) | (simp only [← ry] <;> (first | rfl | simp)) | (simp [*]; done)), H', ⟨ax12_⟩, ⟨bk_ db⟩, ⟨bl_⟩⟩
     case rest =>
      clear lm
      try clear c9b0
      try clear c10b0
      try clear ei
      try clear mU
      try clear AA
      try clear AB
      obtain ⟨kq, pb, rfl, HA, pa, db, HB⟩ := hcut
      cases kq with
      | zero => exact absurd HA.out (by simp [F41.j2])
      | succ uU =>
       have H := HA.out
       clear HA
       simp only [F41.j2] at H
       replace H := ib_ H; rcases H with ⟨rfl, H⟩ | ⟨rfl, H⟩
       ·obtain rfl := Option.some.inj H
        go_wp2
        go_ret
        exact ⟨ax11_, bl_⟩
       have H' := am_ H
       clear H
       go_wp2
       go_loopg [5] uU (fun kq v5 w' => ∃ (cN : Int), v5 = .int .i64 cN ∧ Aside0 (F41.l1 kq ai ((rd_T91 ac ai).f0) cN ae ac = some r) ∧ Aside0 (kq ≤ uU) ∧ Aside0 (w'.heap[rp]? = some (.cells #[.string ae, (.slice (some DL) ac.length aH)] 49 (0, 0))) ∧ Aside0 (Below w.heap.size w w'))
       case atStart => exact ⟨(0), er_, H', ⟨Nat.le_refl _⟩, ⟨bk_ db⟩, ⟨bl_⟩⟩
       case round =>
        clear H'
        obtain ⟨cN, rfl, HA, uR, db, HB⟩ := hrel
        cases gk with
        | zero => exact absurd HA.out (by simp [F41.l1])
        | succ k4 =>
         have H := HA.out
         clear HA
         simp only [F41.l1] at H
         replace H := it_ H; rcases H with ⟨c20b0, H⟩ | ⟨c20b0, H⟩
         rotate_left
         ·have H' := am_ H
          clear H
          go_wp2
          go_roundg k4
          case measure => have := HJ1.out; have := HK2.out; have := pa.out; have := uR.out; omega
          case rel => exact ⟨(wrap64 (ai + 1)), er_, H', ⟨au2_19⟩, ⟨bk_ db⟩, ⟨bl_⟩⟩
         replace H := itn_ H; rcases H with ⟨c21b0, H⟩
         replace H := bi_ H; rcases H with ⟨KK, Ik, H⟩
         replace H := ib_ H; rcases H with ⟨rfl, H⟩ | ⟨rfl, H⟩
         rotate_left
         ·obtain rfl := Option.some.inj H
          have pc : 0 ≤ (cN : Int) := od_
          have pd : cN < (((rd_T91 ac ai).f0).length : Int) := od_
          obtain ⟨KN, Fq, iA⟩ := Kd.at_string mV.out cN pc pd
          cases Fq
          replace iA := pw_cell_below HB.out iA
          replace pc := eq_true pc
          replace pd := eq_true pd
          go_wp2_with (first | (go_at_call 73; (with_reducible refine (F73.calls Ik.out).mono ?_); rintro e w' ⟨rfl, ⟨nd, rfl⟩⟩; (try clear Ik)))
          go_ret
          exact ⟨ax11_, bl_⟩
         have H' := am_ H
         clear H
         have pc : 0 ≤ (cN : Int) := od_
         have pd : cN < (((rd_T91 ac ai).f0).length : Int) := od_
         obtain ⟨KN, Fq, iA⟩ := Kd.at_string mV.out cN pc pd
         cases Fq
         replace iA := pw_cell_below HB.out iA
         replace pc := eq_true pc
         replace pd := eq_true pd
         go_wp2_with (first | (go_at_call 73; (with_reducible refine (F73.calls Ik.out).mono ?_); rintro e w' ⟨rfl, ⟨nd, rfl⟩⟩; (try clear Ik)))
         go_roundg k4
         case measure => have := HJ1.out; have := HK2.out; have := pa.out; have := uR.out; omega
         case rel => exact ⟨(wrap64 (cN + 1)), er_, H', ⟨au2_19⟩, ⟨bk_ db⟩, ⟨bl_⟩⟩
def F42.f (a0 : ByteArray) : Option (Bool) := if a0.toList = ([73, 88, 72] : List UInt8) then (some true) else (if a0.toList = ([71, 82, 72] : List UInt8) then (some true) else (if a0.toList = ([77, 83, 72] : List UInt8) then (some true) else (if a0.toList = ([77, 83, 84] : List UInt8) then (some true) else (if a0.toList = ([71, 82, 84] : List UInt8) then (some true) else (some (a0.toList == ([73, 88, 84] : List UInt8)))))))
theorem F42.calls {a0 : ByteArray} {r : Bool} {w : World} (h : F42.f a0 = some r) :
  Calls Tryz.prog 42 #[.string a0] w fun e w' => e = .returned (.bool r) ∧ Drawn0 w w' := by
 have H := h; unfold F42.f at H
 clear h
 by_cases c2 : a0.toList = ([73, 88, 72] : List UInt8)
 ·rw [if_pos c2] at H
  have c2b0 : (a0.toList == ([73, 88, 72] : List UInt8)) = true := beq_iff_eq.mpr c2
  have c2b1 : (a0.toList != ([73, 88, 72] : List UInt8)) = false := bne_eq_false_iff_eq.mpr c2
  clear c2
  obtain rfl := Option.some.inj H
  go_enter Tryz.func42, Tryz.ntmps42
  go_wp2
  go_ret
  exact ⟨er_, dn_⟩
 rw [if_neg c2] at H
 have c2b0 : (a0.toList == ([73, 88, 72] : List UInt8)) = false := beq_eq_false_iff_ne.mpr c2
 have c2b1 : (a0.toList != ([73, 88, 72] : List UInt8)) = true := bne_iff_ne.mpr c2
 by_cases c3 : a0.toList = ([71, 82, 72] : List UInt8)
 ·rw [if_pos c3] at H
  have c3b0 : (a0.toList == ([71, 82, 72] : List UInt8)) = true := beq_iff_eq.mpr c3
  have c3b1 : (a0.toList != ([71, 82, 72] : List UInt8)) = false := bne_eq_false_iff_eq.mpr c3
  clear c3
  obtain rfl := Option.some.inj H
  go_enter Tryz.func42, Tryz.ntmps42
  go_wp2
  go_ret
  exact ⟨er_, dn_⟩
 rw [if_neg c3] at H
 have c3b0 : (a0.toList == ([71, 82, 72] : List UInt8)) = false := beq_eq_false_iff_ne.mpr c3
 have c3b1 : (a0.toList != ([71, 82, 72] : List UInt8)) = true := bne_iff_ne.mpr c3
 by_cases c4 : a0.toList = ([77, 83, 72] : List UInt8)
 ·rw [if_pos c4] at H
  have c4b0 : (a0.toList == ([77, 83, 72] : List UInt8)) = true := beq_iff_eq.mpr c4
  have c4b1 : (a0.toList != ([77, 83, 72] : List UInt8)) = false := bne_eq_false_iff_eq.mpr c4
  clear c4
  obtain rfl := Option.some.inj H
  go_enter Tryz.func42, Tryz.ntmps42
  go_wp2
  go_ret
  exact ⟨er_, dn_⟩
 rw [if_neg c4] at H
 have c4b0 : (a0.toList == ([77, 83, 72] : List UInt8)) = false := beq_eq_false_iff_ne.mpr c4
 have c4b1 : (a0.toList != ([77, 83, 72] : List UInt8)) = true := bne_iff_ne.mpr c4
 by_cases c5 : a0.toList = ([77, 83, 84] : List UInt8)
 ·rw [if_pos c5] at H
  have c5b0 : (a0.toList == ([77, 83, 84] : List UInt8)) = true := beq_iff_eq.mpr c5
  have c5b1 : (a0.toList != ([77, 83, 84] : List UInt8)) = false := bne_eq_false_iff_eq.mpr c5
  clear c5
  obtain rfl := Option.some.inj H
  go_enter Tryz.func42, Tryz.ntmps42
  go_wp2
  go_ret
  exact ⟨er_, dn_⟩
 rw [if_neg c5] at H
 have c5b0 : (a0.toList == ([77, 83, 84] : List UInt8)) = false := beq_eq_false_iff_ne.mpr c5
 have c5b1 : (a0.toList != ([77, 83, 84] : List UInt8)) = true := bne_iff_ne.mpr c5
 by_cases c6 : a0.toList = ([71, 82, 84] : List UInt8)
 rotate_left
 ·rw [if_neg c6] at H
  have c6b0 : (a0.toList == ([71, 82, 84] : List UInt8)) = false := beq_eq_false_iff_ne.mpr c6
  have c6b1 : (a0.toList != ([71, 82, 84] : List UInt8)) = true := bne_iff_ne.mpr c6
  obtain rfl := Option.some.inj H
  go_enter Tryz.func42, Tryz.ntmps42
  go_wp2
  go_ret
  exact ⟨er_, dn_⟩
 rw [if_pos c6] at H
 have c6b0 : (a0.toList == ([71, 82, 84] : List UInt8)) = true := beq_iff_eq.mpr c6
 have c6b1 : (a0.toList != ([71, 82, 84] : List UInt8)) = false := bne_eq_false_iff_eq.mpr c6
 clear c6
 obtain rfl := Option.some.inj H
 go_enter Tryz.func42, Tryz.ntmps42
 go_wp2
 go_ret
 exact ⟨er_, dn_⟩
def F99.f  : Option (Int × Int × Int × Int) := some (39, 43, 58, 63)
theorem F99.calls  {r1 r2 r3 r4 : Int} {w : World} (h : F99.f  = some (r1, r2, r3, r4)) :
  Calls Tryz.prog 99 #[] w fun e w' => e = .returned (.agg #[.int .i64 r1, .int .i64 r2, .int .i64 r3, .int .i64 r4]) ∧ Below w.heap.size w w' := by
 have Kx := Tryz.underlying134
 have HB := am_ (Below.refl w.heap.size w)
 have H : (some (39, 43, 58, 63)) = some (r1, r2, r3, r4) := h
 clear h
 simp only [Option.some.injEq, Prod.mk.injEq] at H
 obtain ⟨rfl, rfl, rfl, rfl⟩ := H
 go_enter Tryz.func99, Tryz.ntmps99
 go_wp2_with (first | ((with_reducible refine gate_dst (N := 0) rfl ?_); refine be_ 0 #[.int .i64 0, .int .i64 0, .int .i64 0, .int .i64 0] 134 ?_; intro KO hg w1 hbox hb; have DM := am_ (hbox); have KP := am_ (gw_ hg bl_); have Vj := KP; replace HB := hs_ w hb; clear hb hbox hg; have Q7 := cellsF4 DM.out))
 refine bodyPost_ret (results_cell_row rfl _ _ KO 134 #[.int .i64 39, .int .i64 43, .int .i64 58, .int .i64 63] (0, 0) _ rfl (bq_ DM) Tryz.underlying134 rfl (by kernel_rfl)) rfl ?_
 exact ⟨ax11_, bl_⟩
end Go.Proofs.YtlghcbmkhdibdaaGreatDoor.PFnEnvelopes
