-- printed by a program of this session (wip/xp/xprint.py) out of the translation; Lean checks it
import Derived.Test.YtlghcbmkhdibdaaPFnFirstSegmentsx0
namespace Go.Proofs.Ytlghcbmkhdibdaa.PFnFirstSegments
open Go.RowKit Go.Proofs.YtlghcbmkhdibdaaW.PrintWords Go.Proofs.YtlghcbmkhdibdaaW.PrintLast Go.Proofs.YtlghcbmkhdibdaaW.PrintMore
attribute [local go_sem] max2_int min2_int max_two min_two max_three min_three max_four min_four   -- for this text's walks alone
set_option linter.unusedVariables false
set_option linter.unusedSimpArgs false
set_option maxHeartbeats 8000000
set_option maxRecDepth 100000

/-- A state of type 116 at block g of W; what its slices lead to came in by w0. -/
def IsS116 (w0 W : World) (g : Nat) (f0 : List Int) (f1 : Int) (f2 : Int) (f3 : Int) : Prop := ∃ A0 c0, W.heap[g]? = some (.cells #[.slice A0 f0.length c0, .int .i64 f1, .int .u64 f2, .int .i64 f3] 116 (0, 0)) ∧ w0.heap.size ≤ g ∧ Kd.C (Kd.int .u8) w0 A0 f0.length f0
theorem IsS116.grown {w0 W : World} {g : Nat} {f0 : List Int} {f1 : Int} {f2 : Int} {f3 : Int} {W1 : World} {row : Option Nat} (h : IsS116 w0 W g f0 f1 f2 f3) (hw : W.grownBy W1 row) (hne : some g ≠ row) : IsS116 w0 W1 g f0 f1 f2 f3 := by
 obtain ⟨A0, c0, hb, hg, hr0⟩ := h
 exact ⟨A0, c0, blk_grown hb hw hne, hg, hr0⟩
theorem IsS116.own_neN {w0 W : World} {g : Nat} {f0 : List Int} {f1 : Int} {f2 : Int} {f3 : Int} {α : Type} {d : Kd α} {e : Nat} {base : Nat} {ok : Nat → Prop} {v : Value} {xs : List α} (h : IsS116 w0 W g f0 f1 f2 f3) (ho : Kd.N d e W base ok v xs) (ht : e ≠ 116) : some g ≠ v.ownBlock := by
 obtain ⟨A0, c0, hb, hg, hr0⟩ := h
 exact Kd.N_ne ho hb ht
theorem IsS116.fresh {w0 W : World} {g : Nat} {f0 : List Int} {f1 : Int} {f2 : Int} {f3 : Int} (h : IsS116 w0 W g f0 f1 f2 f3) : ∀ k, W.heap.size ≤ k → k ≠ g := by
 obtain ⟨A0, c0, hb, hg, hr0⟩ := h
 exact Kd.freshB hb
theorem IsS116.kept {w0 W : World} {g : Nat} {f0 : List Int} {f1 : Int} {f2 : Int} {f3 : Int} {W1 : World} {S : Nat → Prop} (h : IsS116 w0 W g f0 f1 f2 f3) (hk : Kept W W1 S) (hne : ¬ S g) : IsS116 w0 W1 g f0 f1 f2 f3 := by
 obtain ⟨A0, c0, hb, hg, hr0⟩ := h
 exact ⟨A0, c0, blk_kept hb hk hne, hg, hr0⟩
theorem IsS116.below {w0 W : World} {g : Nat} {f0 : List Int} {f1 : Int} {f2 : Int} {f3 : Int} {W1 : World} (h : IsS116 w0 W g f0 f1 f2 f3) (hw : Below W.heap.size W W1) : IsS116 w0 W1 g f0 f1 f2 f3 := h.grown (grown_of_below hw none) (by simp)
theorem IsS116.alloc {w0 W : World} {g : Nat} {f0 : List Int} {f1 : Int} {f2 : Int} {f3 : Int} (h : IsS116 w0 W g f0 f1 f2 f3) (o : Obj) : IsS116 w0 (W.alloc o) g f0 f1 f2 f3 := h.below (below_alloc (Below.refl _ _) o)
theorem IsS116.drewN {w0 W : World} {g : Nat} {f0 : List Int} {f1 : Int} {f2 : Int} {f3 : Int} (h : IsS116 w0 W g f0 f1 f2 f3) (m : Nat) : IsS116 w0 (W.drewN m) g f0 f1 f2 f3 := h
theorem IsS116.drew {w0 W : World} {g : Nat} {f0 : List Int} {f1 : Int} {f2 : Int} {f3 : Int} (h : IsS116 w0 W g f0 f1 f2 f3) : IsS116 w0 W.drew g f0 f1 f2 f3 := h
theorem IsS116.at_ {w0 W : World} {g : Nat} {f0 : List Int} {f1 : Int} {f2 : Int} {f3 : Int} {w' : World} {m : Nat} (hq : W.drewN m = w') (h : IsS116 w0 W g f0 f1 f2 f3) : IsS116 w0 w' g f0 f1 f2 f3 := by subst hq; exact IsS116.drewN h m
theorem IsS116.apart {w0 W : World} {g : Nat} {f0 : List Int} {f1 : Int} {f2 : Int} {f3 : Int} {α : Type} {d : Kd α} {e : Nat} {base : Nat} {ok : Nat → Prop} {v : Value} {xs : List α} (h : IsS116 w0 W g f0 f1 f2 f3) (ho : d.R e W base ok v xs) (ht : ∀ q, q ∈ e :: d.E → q ≠ 116) : d.R e W base (fun k => ok k ∧ k ≠ g) v xs := by
 obtain ⟨A0, c0, hb, hg, hr0⟩ := h
 exact Kd.R_types ho hb ht
theorem IsS116.own_ne {w0 W : World} {g : Nat} {f0 : List Int} {f1 : Int} {f2 : Int} {f3 : Int} {α : Type} {d : Kd α} {e : Nat} {base : Nat} {ok : Nat → Prop} {v : Value} {xs : List α} (h : IsS116 w0 W g f0 f1 f2 f3) (ho : d.R e W base ok v xs) (ht : e ≠ 116) : some g ≠ v.ownBlock := by
 obtain ⟨A0, c0, hb, hg, hr0⟩ := h
 exact Kd.R_ne ho hb ht
theorem IsS116.apartQ {w0 W : World} {g : Nat} {f0 : List Int} {f1 : Int} {f2 : Int} {f3 : Int} {α : Type} {d : Kd α} {e : Nat} {base : Nat} {ok : Nat → Prop} {v : Value} {xs : List α} (h : IsS116 w0 W g f0 f1 f2 f3) (ho : d.Q e W base ok v xs) (ht : ∀ q, q ∈ e :: d.E → q ≠ 116) : d.Q e W base (fun k => ok k ∧ k ≠ g) v xs := by
 obtain ⟨A0, c0, hb, hg, hr0⟩ := h
 exact Kd.Q_types ho hb ht
theorem IsS116.own_neQ {w0 W : World} {g : Nat} {f0 : List Int} {f1 : Int} {f2 : Int} {f3 : Int} {α : Type} {d : Kd α} {e : Nat} {base : Nat} {ok : Nat → Prop} {v : Value} {xs : List α} (h : IsS116 w0 W g f0 f1 f2 f3) (ho : d.Q e W base ok v xs) (ht : e ≠ 116) : some g ≠ v.ownBlock := by
 obtain ⟨A0, c0, hb, hg, hr0⟩ := h
 exact Kd.Q_ne ho hb ht
theorem IsS116.apartS {w0 W : World} {g : Nat} {f0 : List Int} {f1 : Int} {f2 : Int} {f3 : Int} {α : Type} {d : Kd α} {e : Nat} {base : Nat} {ok : Nat → Prop} {v : Value} {xs : List α} (h : IsS116 w0 W g f0 f1 f2 f3) (ho : d.S e W base ok v xs) (ht : ∀ q, q ∈ e :: d.E → q ≠ 116) : d.S e W base (fun k => ok k ∧ k ≠ g) v xs := by
 obtain ⟨A0, c0, hb, hg, hr0⟩ := h
 exact Kd.S_types ho hb ht
theorem IsS116.own_neS {w0 W : World} {g : Nat} {f0 : List Int} {f1 : Int} {f2 : Int} {f3 : Int} {α : Type} {d : Kd α} {e : Nat} {base : Nat} {ok : Nat → Prop} {v : Value} {xs : List α} (h : IsS116 w0 W g f0 f1 f2 f3) (ho : d.S e W base ok v xs) (ht : e ≠ 116) : some g ≠ v.ownBlock := by
 obtain ⟨A0, c0, hb, hg, hr0⟩ := h
 exact Kd.S_ne ho hb ht
theorem IsS116.lt {w0 W : World} {g : Nat} {f0 : List Int} {f1 : Int} {f2 : Int} {f3 : Int} (h : IsS116 w0 W g f0 f1 f2 f3) : g < W.heap.size := by
 obtain ⟨A0, c0, hb, hg, hr0⟩ := h
 exact blk_lt hb
theorem IsS116.ge {w0 W : World} {g : Nat} {f0 : List Int} {f1 : Int} {f2 : Int} {f3 : Int} (h : IsS116 w0 W g f0 f1 f2 f3) : w0.heap.size ≤ g := by
 obtain ⟨A0, c0, hb, hg, hr0⟩ := h
 exact hg
theorem IsS116.ne_blk {w0 W : World} {g : Nat} {f0 : List Int} {f1 : Int} {f2 : Int} {f3 : Int} {a : Nat} {cs : Array Value} {t : TypeId} {fr : Nat × Nat} (h : IsS116 w0 W g f0 f1 f2 f3) (hb2 : W.heap[a]? = some (.cells cs t fr)) (ht : t ≠ 116) : g ≠ a := by
 obtain ⟨A0, c0, hb, hg, hr0⟩ := h
 rintro rfl
 rw [hb] at hb2
 injection hb2 with hb2
 injection hb2 with _ ht2
 exact ht ht2.symm
theorem IsS116.far {w0 W : World} {g : Nat} {f0 : List Int} {f1 : Int} {f2 : Int} {f3 : Int} {p : Addr} (h : IsS116 w0 W g f0 f1 f2 f3) (hne : g ≠ p.block) (u : Value) : IsS116 w0 (W.setCell p u) g f0 f1 f2 f3 := by
 obtain ⟨A0, c0, hb, hg, hr0⟩ := h
 exact ⟨A0, c0, blk_far hb hne u, hg, hr0⟩
theorem cellS116_0 {W : World} {g : Nat} {A0 : Option Addr} {c0 : Nat} {f0 : List Int} {f1 : Int} {f2 : Int} {f3 : Int} (h : W.heap[g]? = some (.cells #[.slice A0 f0.length c0, .int .i64 f1, .int .u64 f2, .int .i64 f3] 116 (0, 0))) : W.cell? ⟨g, 0, none⟩ = some (.slice A0 f0.length c0) := (blk_cell h 0).trans rfl
theorem cellS116_1 {W : World} {g : Nat} {A0 : Option Addr} {c0 : Nat} {f0 : List Int} {f1 : Int} {f2 : Int} {f3 : Int} (h : W.heap[g]? = some (.cells #[.slice A0 f0.length c0, .int .i64 f1, .int .u64 f2, .int .i64 f3] 116 (0, 0))) : W.cell? ⟨g, 1, none⟩ = some (.int .i64 f1) := (blk_cell h 1).trans rfl
theorem IsS116.set_1 {w0 W : World} {g : Nat} {f0 : List Int} {f1 : Int} {f2 : Int} {f3 : Int} (h : IsS116 w0 W g f0 f1 f2 f3) (x : Int) : IsS116 w0 (W.setCell ⟨g, 1, none⟩ (.int .i64 x)) g f0 x f2 f3 := by
 obtain ⟨A0, c0, hb, hg, hr0⟩ := h
 exact ⟨A0, c0, by simpa using blk_set hb 1 (.int .i64 x), hg, hr0⟩
theorem cellS116_2 {W : World} {g : Nat} {A0 : Option Addr} {c0 : Nat} {f0 : List Int} {f1 : Int} {f2 : Int} {f3 : Int} (h : W.heap[g]? = some (.cells #[.slice A0 f0.length c0, .int .i64 f1, .int .u64 f2, .int .i64 f3] 116 (0, 0))) : W.cell? ⟨g, 2, none⟩ = some (.int .u64 f2) := (blk_cell h 2).trans rfl
theorem IsS116.set_2 {w0 W : World} {g : Nat} {f0 : List Int} {f1 : Int} {f2 : Int} {f3 : Int} (h : IsS116 w0 W g f0 f1 f2 f3) (x : Int) : IsS116 w0 (W.setCell ⟨g, 2, none⟩ (.int .u64 x)) g f0 f1 x f3 := by
 obtain ⟨A0, c0, hb, hg, hr0⟩ := h
 exact ⟨A0, c0, by simpa using blk_set hb 2 (.int .u64 x), hg, hr0⟩
theorem cellS116_3 {W : World} {g : Nat} {A0 : Option Addr} {c0 : Nat} {f0 : List Int} {f1 : Int} {f2 : Int} {f3 : Int} (h : W.heap[g]? = some (.cells #[.slice A0 f0.length c0, .int .i64 f1, .int .u64 f2, .int .i64 f3] 116 (0, 0))) : W.cell? ⟨g, 3, none⟩ = some (.int .i64 f3) := (blk_cell h 3).trans rfl
theorem IsS116.set_3 {w0 W : World} {g : Nat} {f0 : List Int} {f1 : Int} {f2 : Int} {f3 : Int} (h : IsS116 w0 W g f0 f1 f2 f3) (x : Int) : IsS116 w0 (W.setCell ⟨g, 3, none⟩ (.int .i64 x)) g f0 f1 f2 x := by
 obtain ⟨A0, c0, hb, hg, hr0⟩ := h
 exact ⟨A0, c0, by simpa using blk_set hb 3 (.int .i64 x), hg, hr0⟩
theorem IsS116.new (w0 W : World) (A0 : Option Addr) (c0 : Nat) (f0 : List Int) (f1 : Int) (f2 : Int) (f3 : Int) (hB : Below w0.heap.size w0 W) (hr0 : Kd.C (Kd.int .u8) w0 A0 f0.length f0) : IsS116 w0 (W.alloc (.cells #[.slice A0 f0.length c0, .int .i64 f1, .int .u64 f2, .int .i64 f3] 116)) W.heap.size f0 f1 f2 f3 := ⟨A0, c0, by simpa using heap_alloc_new W _, hB.size, hr0⟩

theorem is1_0_ {p : Prop} (h : p := by repeat (first | (with_reducible first | exact HI0.out | apply IsS116.alloc | apply IsS116.drewN | apply IsS116.drew | apply IsS116.set_1 | apply IsS116.set_2 | apply IsS116.set_3 | refine IsS116.far ?_ (Aside0.out (by assumption)) _) | exact HI0.out)) : p := h

theorem au1_0 {p : Prop} (h : p := by first | exact Kd.own_blk (Kd.R_ne HO129.out BK122.out (by decide)) | (rw [add_block]; exact Kd.own_blk (Kd.R_ne HO129.out BK122.out (by decide))) | (show (Addr.add _ _).block ≠ _; rw [add_block]; exact Kd.own_blk (Kd.R_ne HO129.out BK122.out (by decide))) | (dsimp only; exact Kd.own_blk (Kd.R_ne HO129.out BK122.out (by decide)))) : p := h
theorem au1_1 {p : Prop} (h : p := by repeat (first | (with_reducible first | exact HK.out | apply KeepBut.set_ | apply keep_drewN | apply keep_drew | apply keep_alloc | refine keep_far ?_ GW173.out _) | exact HK.out)) : p := h
theorem au1_2 {p : Prop} (h : p := by repeat (first | (with_reducible first | exact HK.out | apply KeepBut.set_ | apply keep_drewN | apply keep_drew | apply keep_alloc | refine keep_far ?_ GW117.out _ | refine keep_far ?_ GW122.out _) | exact HK.out)) : p := h
theorem au1_3 {p : Prop} (h : p := by repeat (first | (with_reducible first | exact HI0.out | apply IsS116.alloc | apply IsS116.drewN | apply IsS116.drew | apply IsS116.set_1 | apply IsS116.set_2 | apply IsS116.set_3 | refine IsS116.far ?_ NB0_117.out _ | refine IsS116.far ?_ NB0_122.out _) | exact HI0.out)) : p := h
theorem au1_4 {p : Prop} (h : p := by repeat (first | (with_reducible first | exact HB.out | apply below_alloc | apply pw_below_drewN | apply below_drew1 | refine below_set ?_ (IsS116.ge HI0.out) | refine below_set ?_ GE117.out | refine below_set ?_ GE122.out) | exact HB.out)) : p := h
theorem au1_5 {p : Prop} (h : p := by repeat (first | (with_reducible first | exact HB.out | apply below_alloc | apply pw_below_drewN | apply below_drew1 | refine below_set ?_ (IsS116.ge HI0.out)) | exact HB.out)) : p := h
theorem au1_6 {p : Prop} (h : p := by first | rfl | (simp [errW_none, errW_some] <;> rfl) | (simp [*, errW_none, errW_some] <;> rfl)) : p := h
theorem au1_7 {p : Prop} (h : p := by repeat (first | (with_reducible first | exact HK.out | apply KeepBut.set_ | apply keep_drewN | apply keep_drew | apply keep_alloc) | exact HK.out)) : p := h
theorem au1_8 {p : Prop} (h : p := by repeat (first | (with_reducible first | exact HK.out | apply KeepBut.set_ | apply keep_drewN | apply keep_drew | apply keep_alloc) | exact HK.out)) : p := h
theorem au1_9 {p : Prop} (h : p := by repeat (first | (with_reducible first | exact HB.out | apply below_alloc | apply pw_below_drewN | apply below_drew1 | refine below_set ?_ (IsS116.ge HI0.out) | refine below_set ?_ GE173.out) | exact HB.out)) : p := h
theorem au1_10 {p : Prop} (h : p := by repeat (first | (with_reducible first | exact HB.out | apply below_alloc | apply pw_below_drewN | apply below_drew1 | refine below_set ?_ (IsS116.ge HI0.out) | refine below_set ?_ GE117.out | refine below_set ?_ GE122.out) | exact HB.out)) : p := h
theorem au1_11 {p : Prop} (h : p := by repeat (first | (with_reducible first | exact HI0.out | apply IsS116.alloc | apply IsS116.drewN | apply IsS116.drew | apply IsS116.set_1 | apply IsS116.set_2 | apply IsS116.set_3 | refine IsS116.far ?_ NB0_173.out _) | exact HI0.out)) : p := h
theorem au1_12 {p : Prop} (h : p := by repeat (first | (with_reducible first | exact HK.out | apply KeepBut.set_ | apply keep_drewN | apply keep_drew | apply keep_alloc | refine keep_far ?_ GW173.out _) | exact HK.out)) : p := h
theorem au1_13 {p : Prop} (h : p := by repeat (first | (with_reducible first | exact HK.out | apply KeepBut.set_ | apply keep_drewN | apply keep_drew | apply keep_alloc | refine keep_far ?_ GW117.out _ | refine keep_far ?_ GW122.out _) | exact HK.out)) : p := h
theorem au1_14 {p : Prop} (h : p := by repeat (first | (with_reducible first | exact HB.out | apply below_alloc | apply pw_below_drewN | apply below_drew1 | refine below_set ?_ (IsS116.ge HI0.out) | refine below_set ?_ GE173.out) | exact HB.out)) : p := h
theorem au1_15 {p : Prop} (h : p := by repeat (first | (with_reducible first | exact HB.out | apply below_alloc | apply pw_below_drewN | apply below_drew1 | refine below_set ?_ (IsS116.ge HI0.out) | refine below_set ?_ GE173.out) | exact HB.out)) : p := h
theorem au1_16 {p : Prop} (h : p := by rintro w' ⟨s0, s1, s2, s3⟩; go_simp; with_reducible rfl) : p := h
theorem au1_17 {p : Prop} (h : p := by repeat (first | (with_reducible first | exact HBW.out | apply below_alloc | apply pw_below_drewN | apply below_drew1 | refine below_set ?_ GW101.out) | exact HBW.out)) : p := h
theorem au1_18 {p : Prop} (h : p := by repeat (first | (with_reducible first | exact HK.out | apply KeepBut.set_ | apply keep_drewN | apply keep_drew | apply keep_alloc | refine keep_far ?_ GW117.out _) | exact HK.out)) : p := h
theorem au1_19 {p : Prop} (h : p := by repeat (first | (with_reducible first | exact HI0.out | apply IsS116.alloc | apply IsS116.drewN | apply IsS116.drew | apply IsS116.set_1 | apply IsS116.set_2 | apply IsS116.set_3) | exact HI0.out)) : p := h
theorem au1_20 {p : Prop} (h : p := by repeat (first | (with_reducible first | exact HB.out | apply below_alloc | apply pw_below_drewN | apply below_drew1 | refine below_set ?_ (IsS116.ge HI0.out)) | exact HB.out)) : p := h
theorem au1_21 {p : Prop} (h : p := by repeat (first | (with_reducible first | exact HB.out | apply below_alloc | apply pw_below_drewN | apply below_drew1 | refine below_set ?_ (IsS116.ge HI0.out)) | exact HB.out)) : p := h
theorem au1_22 {p : Prop} (h : p := by repeat (first | (with_reducible first | exact HB.out | apply below_alloc | apply pw_below_drewN | apply below_drew1 | refine below_set ?_ (IsS116.ge HI0.out) | refine below_set ?_ GE117.out | refine below_set ?_ GE122.out) | exact HB.out)) : p := h
theorem au1_23 {p : Prop} (h : p := by rintro w' ⟨s0, s1, s2, s3, s4⟩; go_simp; with_reducible rfl) : p := h
theorem au1_24 {p : Prop} (h : p := by repeat (first | (with_reducible first | exact HB.out | apply below_alloc | apply pw_below_drewN | apply below_drew1 | refine below_set ?_ (IsS116.ge HI0.out) | refine below_set ?_ GE117.out) | exact HB.out)) : p := h
theorem au1_25 {p : Prop} (h : p := by have := HJ1.out; have := HK2.out; first | omega | exact Nat.le_refl _) : p := h
theorem au1_27 {p : Prop} (h : p := by repeat (first | (with_reducible first | exact HBW.out | apply below_alloc | apply pw_below_drewN | apply below_drew1) | exact HBW.out)) : p := h
theorem au1_28 {p : Prop} (h : p := by first | omega | exact Nat.le_refl _) : p := h
theorem au1_29 {p : Prop} (h : p := by have := HJ1.out; have := HK2.out; have := HJ10.out; have := HK4.out; omega) : p := h
theorem au1_26 {p : Prop} (h : p := by exact (keep_size (w := w) (g := g) (row := none) au1_1)) : p := h

/-! ### F40: function 40 -/
def F40.l0 : Nat → List Int → Int → List Int → Int → Int → Int → Option (List Int × Int × Int × Int)
  | 0, _, _, _, _, _, _ => none
  | k + 1, x0, x4, x102000, x102001, x102002, x102003 => if x4 < (x0.length : Int) then (if x4 < 64 then (if 0 ≤ x4 then (F40.l0 k x0 (wrap64 (x4 + 1)) x102000 x102001 (IntKind.u64.wrap ((Go.bits .xor .u64 x102002 (IntKind.u64.wrap (rd x0 x4))) * 1099511628211)) x102003) else (none)) else (if (wrap64 ((x0.length : Int) / 20)) > 12 then (some (x102000, x102001, x102002, 12)) else (some (x102000, x102001, x102002, wrap64 ((x0.length : Int) / 20))))) else (if (wrap64 ((x0.length : Int) / 20)) > 12 then (some (x102000, x102001, x102002, 12)) else (some (x102000, x102001, x102002, wrap64 ((x0.length : Int) / 20))))
def F40.f (k : Nat) (l0 : List Int) : Option (List Int × Int × Int × Int) := F40.l0 k l0 0 l0 0 88172645463325252 0
theorem F40.mono_l : ∀ k, (∀ y0 y1 y2 y3 y4 y5, LeO (F40.l0 k y0 y1 y2 y3 y4 y5) (F40.l0 (k + 1) y0 y1 y2 y3 y4 y5))
 | 0 => fun _ _ _ _ _ _ r h => by simp [F40.l0] at h
 | k + 1 => by
  have ih0 := F40.mono_l k
  intro y0 y1 y2 y3 y4 y5
  unfold F40.l0
  repeat' with_reducible first | exact ih0 _ _ _ _ _ _ | exact LeO.refl _ | exact LeO.none _ | refine LeO.ite ?_ ?_ | refine LeO.bind ?_ (fun _ => ?_)
theorem F40.mono : ∀ a0 k, LeO (F40.f k a0) (F40.f (k + 1) a0) := by
 intro a0 k
 have ih0 := F40.mono_l k
 unfold F40.f
 repeat' with_reducible first | exact ih0 _ _ _ _ _ _ | exact LeO.refl _ | exact LeO.none _ | refine LeO.ite ?_ ?_ | refine LeO.bind ?_ (fun _ => ?_)
def F40.T5 : Bool × List (List Nat × List Nat) := (true, [([], []), ([], []), ([1], [1]), ([2], [2]), ([3], [3]), ([], []), ([], []), ([5, 6], [5, 6]), ([7], [7]), ([8], [8]), ([4, 9], [4, 9]), ([10], [10]), ([0, 0, 1, 2, 3, 4, 5, 6, 7, 8, 9, 10, 11], [0]), ([12, 0, 1, 2, 3, 4, 5, 6, 7, 8, 9, 10, 11], [12]), ([13, 11, 0, 1, 2, 3, 4, 5, 6, 7, 8, 9, 10, 11], [11, 13])])
def F40.B5 : List Nat := [0, 0, 2, 6, 14, 0, 0, 96, 224, 480, 1022, 2046, 4095, 8191, 16383]
theorem F40.tab5 : rtab .any (opsOf Try.f40 5) = F40.T5 := by kernel_rfl
theorem F40.bits5 : waitsOk F40.T5.2 F40.B5 = true := by kernel_rfl
theorem F40.calls (k : Nat) (A0 : Option Addr) (c0 : Nat) (l0 : List Int) (r1 : List Int) (r2 : Int) (r3 : Int) (r4 : Int) (w0 w : World) (hB : Below w0.heap.size w0 w) (hr0 : Kd.C (Kd.int .u8) w0 A0 l0.length l0) (hc0 : l0.length ≤ c0) (h : F40.f k l0 = some (r1, r2, r3, r4)) :
  Calls Try.prog 40 #[.slice A0 l0.length c0] w fun e w' => ∃ g_ : Nat, e = .returned (.pointer (some ⟨g_, 0, none⟩)) ∧ IsS116 w0 w' g_ r1 r2 r3 r4 ∧ Below w0.heap.size w0 w' ∧ Below w.heap.size w w' := by
 have hu116 := Try.underlying116
 have HR0 := am_ hr0
 have HC0 := am_ hc0
 clear hr0 hc0
 have HBW := am_ (Below.refl w.heap.size w)
 have HW0 := am_ hB.size
 have HB := am_ hB
 clear hB
 have H : (F40.l0 k l0 0 l0 0 88172645463325252 0) = some (r1, r2, r3, r4) := h
 clear h
 have H' := am_ H
 clear H
 go_enter Try.func40, Try.ntmps40
 go_wp2_with (first | ((with_reducible refine gate_dst (N := 7) rfl ?_); refine be_ 7 #[.slice A0 l0.length c0, .int .i64 0, .int .u64 88172645463325252, .int .i64 0] 116 ?_; intro gb101 hg w2 hbox hb; replace HB := am_ (below_step bl_ hb); have BK101 := am_ (hbox); have GW101 := am_ ((by rw [hg]; exact (below_size au1_27) : w.heap.size ≤ gb101)); have GE101 := am_ ((Nat.le_trans HW0.out (by rw [hg]; exact (below_size au1_27) : w.heap.size ≤ gb101) : w0.heap.size ≤ gb101)); replace HBW := am_ (below_step HBW.out hb); clear hb hbox hg))
 go_loopg [4] k (fun kq v4 w' => ∃ (x4_1 : Int) (x102002_1 : Int), v4 = .int .i64 x4_1 ∧ Aside0 (F40.l0 kq l0 x4_1 l0 0 x102002_1 0 = some (r1, r2, r3, r4)) ∧ Aside0 (kq ≤ k) ∧ Aside0 (w'.heap[gb101]? = some (.cells #[(.slice A0 l0.length c0), .int .i64 0, .int .u64 x102002_1, .int .i64 0] 116 (0, 0))) ∧ Aside0 (Below w.heap.size w w') ∧ Aside0 (Below w0.heap.size w0 w'))
 case atStart => exact ⟨(0), (88172645463325252), er_, H', ⟨Nat.le_refl _⟩, ⟨bk_ BK101⟩, ⟨au1_17⟩, ⟨bl_⟩⟩
 case round =>
  clear H'
  obtain ⟨x4_1, x102002_1, rfl, HA, HK1, BK101, HBW, HB⟩ := hrel
  cases gk with
  | zero => exact absurd HA.out (by simp [F40.l0])
  | succ k1 =>
   have H := HA.out
   clear HA
   simp only [F40.l0] at H
   replace H := it_ H; rcases H with ⟨c3b0, H⟩ | ⟨c3b0, H⟩
   rotate_left
   ·replace H := it_ H; rcases H with ⟨(c11b0 : decide (12 < (wrap64 ((l0.length : Int) / 20))) = true), H⟩ | ⟨(c11b0 : decide (12 < (wrap64 ((l0.length : Int) / 20))) = false), H⟩
    ·simp only [Option.some.injEq, Prod.mk.injEq] at H
     obtain ⟨rfl, rfl, rfl, rfl⟩ := H
     obtain ⟨hcz12_0, hcz12_1, hcz12_2, hcz12_3, hfz12_0, hfz12_1, hfz12_2, hfz12_3⟩ := cellsF4 BK101.out
     go_wp2
     go_ret
     exact ⟨_, rfl, (show IsS116 w0 _ gb101 l0 0 x102002_1 12 from ⟨_, _, bq_ BK101, GE101.out, HR0.out⟩), bl_, au1_17⟩
    simp only [Option.some.injEq, Prod.mk.injEq] at H
    obtain ⟨rfl, rfl, rfl, rfl⟩ := H
    obtain ⟨hcz13_0, hcz13_1, hcz13_2, hcz13_3, hfz13_0, hfz13_1, hfz13_2, hfz13_3⟩ := cellsF4 BK101.out
    go_wp2
    go_ret
    exact ⟨_, rfl, (show IsS116 w0 _ gb101 l0 0 x102002_1 (wrap64 ((l0.length : Int) / 20)) from ⟨_, _, bq_ BK101, GE101.out, HR0.out⟩), bl_, au1_17⟩

   replace H := it_ H; rcases H with ⟨c4b0, H⟩ | ⟨c4b0, H⟩
   rotate_left
   ·replace H := it_ H; rcases H with ⟨(c8b0 : decide (12 < (wrap64 ((l0.length : Int) / 20))) = true), H⟩ | ⟨(c8b0 : decide (12 < (wrap64 ((l0.length : Int) / 20))) = false), H⟩
    rotate_left
    ·simp only [Option.some.injEq, Prod.mk.injEq] at H
     obtain ⟨rfl, rfl, rfl, rfl⟩ := H
     obtain ⟨hcz10_0, hcz10_1, hcz10_2, hcz10_3, hfz10_0, hfz10_1, hfz10_2, hfz10_3⟩ := cellsF4 BK101.out
     go_wp2
     go_ret
     exact ⟨_, rfl, (show IsS116 w0 _ gb101 l0 0 x102002_1 (wrap64 ((l0.length : Int) / 20)) from ⟨_, _, bq_ BK101, GE101.out, HR0.out⟩), bl_, au1_17⟩
    simp only [Option.some.injEq, Prod.mk.injEq] at H
    obtain ⟨rfl, rfl, rfl, rfl⟩ := H
    obtain ⟨hcz9_0, hcz9_1, hcz9_2, hcz9_3, hfz9_0, hfz9_1, hfz9_2, hfz9_3⟩ := cellsF4 BK101.out
    go_wp2
    go_ret
    exact ⟨_, rfl, (show IsS116 w0 _ gb101 l0 0 x102002_1 12 from ⟨_, _, bq_ BK101, GE101.out, HR0.out⟩), bl_, au1_17⟩
   replace H := itn_ H; rcases H with ⟨c5b0, H⟩
   have H' := am_ H
   clear H
   try go_wp2
   replace BK101 := bd_ BK101
   replace HB := am_ (below_drew1 HB.out)
   replace HBW := am_ (below_drew1 HBW.out)
   have p102 : 0 ≤ (x4_1 : Int) := od_
   have q102 : x4_1 < (l0.length : Int) := od_
   obtain ⟨ad102, e102, hx102_0⟩ := Kd.at_int HR0.out x4_1 p102 q102
   have hw102_0 := hx102_0
   cases e102
   replace hx102_0 := pw_cell_below HB.out hx102_0
   replace p102 := eq_true p102
   replace q102 := eq_true q102
   refine start_ (n := 15) (S := fun w' => w'.cell? ⟨gb101, 0, none⟩ = some (.slice (some ad102) l0.length c0) ∧ w'.cell? ⟨gb101, 1, none⟩ = some (.int .i64 0) ∧ w'.cell? ⟨gb101, 2, none⟩ = some (.int .u64 x102002_1) ∧ w'.cell? ⟨gb101, 3, none⟩ = some (.int .i64 0) ∧ w'.cell? (ad102.add (x4_1).toNat) = some (.int .u8 (rd l0 x4_1))) (ds := [14]) (bs 15 0) (by kernel_rfl) rfl rfl ⟨(blk_cell BK101.out 0).trans rfl, (blk_cell BK101.out 1).trans rfl, (blk_cell BK101.out 2).trans rfl, (blk_cell BK101.out 3).trans rfl, ((HB.out.cell (World.block_lt_of_cell? _ _ hw102_0)).trans hw102_0)⟩ (fun hHeld => ?_); refine with_tabW F40.tab5 F40.bits5 (fun HT_ HW_ => ?_)
   generalize wr.drew = w6 at BK101 HB HBW hx102_0 hHeld ⊢
   refine pu_ 0 18 (bs 15 1) HT_ ?_ rfl rfl
   refine pu_ 1 19 (bs 15 3) HT_ ?_ rfl rfl
   refine pu_ 2 20 (bs 15 7) HT_ ?_ rfl rfl
   refine pu_ 3 21 (bs 15 15) HT_ ?_ rfl rfl
   refine pu_ 5 23 (bs 15 47) HT_ ?_ rfl rfl
   refine pu_ 6 24 (bs 15 111) HT_ ?_ rfl rfl
   refine pu_ 7 25 (bs 15 239) HT_ ?_ rfl rfl
   refine tk_ 4 22 (bs 15 255) HT_ HW_ hHeld au1_23 ?_ rfl rfl
   refine tk_ 8 26 (bs 15 511) HT_ HW_ hHeld au1_23 ?_ rfl rfl
   refine pu_ 9 27 (bs 15 1023) HT_ ?_ rfl rfl
   refine pu_ 10 28 (bs 15 2047) HT_ ?_ rfl rfl
   refine pu_ 11 29 (bs 15 4095) HT_ ?_ rfl rfl
   refine pu_ 12 30 (bs 15 8191) HT_ ?_ rfl rfl
   refine pu_ 13 31 (bs 15 16383) HT_ ?_ rfl rfl
   refine last_ (i := 14) (N := none) (bs 15 32767) rfl rfl (one_of HT_.out (by kernel_rfl)) (by decide) (fun K hK => ?_)
   have hs7 : w6.cell? ⟨gb101, 2, none⟩ = some (.int .u64 x102002_1) := (blk_cell BK101.out 2).trans rfl
   have hfs7 := blk_frozen BK101.out 2
   refine skip_ (w1 := ?_) (by rfl) rfl ?_ ?_
   rotate_left
   ·go_simp
    rfl
   refine hK.out _ _ ?_
   clear hK K
   refine done_ (done_of HT_.out (by kernel_rfl)) ?_
   try go_wp2
   go_roundg k1
   case measure => have := HK1.out; omega
   case rel => exact ⟨(wrap64 (x4_1 + 1)), (IntKind.u64.wrap ((Go.bits .xor .u64 x102002_1 (IntKind.u64.wrap (rd l0 x4_1))) * 1099511628211)), er_, H', ⟨by have := HK1.out; omega⟩, ⟨bq_ BK101⟩, ⟨au1_17⟩, ⟨bl_⟩⟩
/-! ### F71: function 71 -/
def F71.f  : Option (Int × Int × Int × Int) := some (39, 43, 58, 63)
theorem F71.calls  (r1 : Int) (r2 : Int) (r3 : Int) (r4 : Int) (w : World) (h : F71.f  = some (r1, r2, r3, r4)) :
  Calls Try.prog 71 #[] w fun e w' => e = .returned (.agg #[.int .i64 r1, .int .i64 r2, .int .i64 r3, .int .i64 r4]) ∧ Below w.heap.size w w' := by
 have hu45 := Try.underlying45
 have HB := am_ (Below.refl w.heap.size w)
 have H : (some (39, 43, 58, 63)) = some (r1, r2, r3, r4) := h
 clear h
 simp only [Option.some.injEq, Prod.mk.injEq] at H
 obtain ⟨rfl, rfl, rfl, rfl⟩ := H
 go_enter Try.func71, Try.ntmps71
 go_wp2_with (first | ((with_reducible refine gate_dst (N := 0) rfl ?_); refine be_ 0 #[.int .i64 0, .int .i64 0, .int .i64 0, .int .i64 0] 45 ?_; intro gb103 hg w1 hbox hb; have BK103 := am_ (hbox); have GW103 := am_ (gw_ hg bl_); have GE103 := GW103; replace HB := hs_ w hb; clear hb hbox hg; obtain ⟨hcz2_0, hcz2_1, hcz2_2, hcz2_3, hfz2_0, hfz2_1, hfz2_2, hfz2_3⟩ := cellsF4 BK103.out))
 refine bodyPost_ret (results_cell_row rfl _ _ gb103 45 #[.int .i64 39, .int .i64 43, .int .i64 58, .int .i64 63] (0, 0) _ rfl (bq_ BK103) Try.underlying45 rfl (by kernel_rfl)) rfl ?_
 exact ⟨au1_6, bl_⟩

/-! ### F73: function 73 -/
def F73.f (s0_0 : List Int) (s0_1 : Int) (s0_2 : Int) (s0_3 : Int) (a1 : Int) : Option (Int × Int × Int × Int) := if a1 ≤ 1 then (some (0, s0_1, s0_2, s0_3)) else (if s0_1 < (s0_0.length : Int) then (if 0 ≤ s0_1 then (if (IntKind.u64.wrap (a1)) = 0 then (none) else (some (wrap64 (Int.tmod (IntKind.u64.wrap ((IntKind.u64.wrap (rd s0_0 s0_1)) + ((Go.bits .xor .u64 (Go.bits .xor .u64 (Go.bits .xor .u64 s0_2 (IntKind.u64.wrap (s0_2 * 8192))) ((Go.bits .xor .u64 s0_2 (IntKind.u64.wrap (s0_2 * 8192))) / 128)) (IntKind.u64.wrap ((Go.bits .xor .u64 (Go.bits .xor .u64 s0_2 (IntKind.u64.wrap (s0_2 * 8192))) ((Go.bits .xor .u64 s0_2 (IntKind.u64.wrap (s0_2 * 8192))) / 128)) * 131072))) / 1048576))) (IntKind.u64.wrap (a1))), wrap64 (s0_1 + 1), Go.bits .xor .u64 (Go.bits .xor .u64 (Go.bits .xor .u64 s0_2 (IntKind.u64.wrap (s0_2 * 8192))) ((Go.bits .xor .u64 s0_2 (IntKind.u64.wrap (s0_2 * 8192))) / 128)) (IntKind.u64.wrap ((Go.bits .xor .u64 (Go.bits .xor .u64 s0_2 (IntKind.u64.wrap (s0_2 * 8192))) ((Go.bits .xor .u64 s0_2 (IntKind.u64.wrap (s0_2 * 8192))) / 128)) * 131072)), s0_3))) else (none)) else (if (IntKind.u64.wrap (a1)) = 0 then (none) else (some (wrap64 (Int.tmod (IntKind.u64.wrap (0 + ((Go.bits .xor .u64 (Go.bits .xor .u64 (Go.bits .xor .u64 s0_2 (IntKind.u64.wrap (s0_2 * 8192))) ((Go.bits .xor .u64 s0_2 (IntKind.u64.wrap (s0_2 * 8192))) / 128)) (IntKind.u64.wrap ((Go.bits .xor .u64 (Go.bits .xor .u64 s0_2 (IntKind.u64.wrap (s0_2 * 8192))) ((Go.bits .xor .u64 s0_2 (IntKind.u64.wrap (s0_2 * 8192))) / 128)) * 131072))) / 1048576))) (IntKind.u64.wrap (a1))), s0_1, Go.bits .xor .u64 (Go.bits .xor .u64 (Go.bits .xor .u64 s0_2 (IntKind.u64.wrap (s0_2 * 8192))) ((Go.bits .xor .u64 s0_2 (IntKind.u64.wrap (s0_2 * 8192))) / 128)) (IntKind.u64.wrap ((Go.bits .xor .u64 (Go.bits .xor .u64 s0_2 (IntKind.u64.wrap (s0_2 * 8192))) ((Go.bits .xor .u64 s0_2 (IntKind.u64.wrap (s0_2 * 8192))) / 128)) * 131072)), s0_3))))
def F73.T4 : Bool × List (List Nat × List Nat) := (true, [([], []), ([0], [0]), ([1], [1]), ([2], [2]), ([], []), ([4], [4]), ([5], [5]), ([6], [6]), ([7], [7]), ([3, 8], [3, 8])])
def F73.B4 : List Nat := [0, 1, 3, 7, 0, 16, 48, 112, 240, 511]
theorem F73.tab4 : rtab .any (opsOf Try.f73 4) = F73.T4 := by kernel_rfl
theorem F73.bits4 : waitsOk F73.T4.2 F73.B4 = true := by kernel_rfl
def F73.T5 : Bool × List (List Nat × List Nat) := (true, [([], []), ([0], [0]), ([1], [1]), ([2], [2]), ([], []), ([4], [4]), ([5], [5]), ([6], [6]), ([3, 7], [3, 7]), ([8], [8]), ([9], [9]), ([10, 0, 1, 2, 3, 4, 5, 6, 7, 8, 9, 10], [10])])
def F73.B5 : List Nat := [0, 1, 3, 7, 0, 16, 48, 112, 255, 511, 1023, 2047]
theorem F73.tab5 : rtab .any (opsOf Try.f73 5) = F73.T5 := by kernel_rfl
theorem F73.bits5 : waitsOk F73.T5.2 F73.B5 = true := by kernel_rfl
def F73.T7 : Bool × List (List Nat × List Nat) := (true, [([], []), ([], []), ([1], [1]), ([2], [2]), ([3], [3]), ([], []), ([5], [5]), ([6], [6]), ([7], [7]), ([8], [8]), ([4, 9], [4, 9]), ([0, 0, 1, 2, 3, 4, 5, 6, 7, 8, 9, 10], [0]), ([11, 0, 1, 2, 3, 4, 5, 6, 7, 8, 9, 10], [11]), ([12, 10, 0, 1, 2, 3, 4, 5, 6, 7, 8, 9, 10], [10, 12])])
def F73.B7 : List Nat := [0, 0, 2, 6, 14, 0, 32, 96, 224, 480, 1022, 2047, 4095, 8191]
theorem F73.tab7 : rtab .any (opsOf Try.f73 7) = F73.T7 := by kernel_rfl
theorem F73.bits7 : waitsOk F73.T7.2 F73.B7 = true := by kernel_rfl
def F73.T8 : Bool × List (List Nat × List Nat) := (true, [([], []), ([], []), ([1], [1]), ([2], [2]), ([3], [3]), ([], []), ([5], [5]), ([6], [6]), ([7], [7]), ([8], [8]), ([4, 9], [4, 9]), ([0, 0, 1, 2, 3, 4, 5, 6, 7, 8, 9, 10], [0]), ([11, 0, 1, 2, 3, 4, 5, 6, 7, 8, 9, 10], [11]), ([12, 10, 0, 1, 2, 3, 4, 5, 6, 7, 8, 9, 10], [10, 12])])
def F73.B8 : List Nat := [0, 0, 2, 6, 14, 0, 32, 96, 224, 480, 1022, 2047, 4095, 8191]
theorem F73.tab8 : rtab .any (opsOf Try.f73 8) = F73.T8 := by kernel_rfl
theorem F73.bits8 : waitsOk F73.T8.2 F73.B8 = true := by kernel_rfl
def F73.T9 : Bool × List (List Nat × List Nat) := (true, [([], []), ([], []), ([1], [1]), ([2], [2]), ([3], [3]), ([], []), ([5], [5]), ([6], [6]), ([7], [7]), ([8], [8]), ([4, 9], [4, 9]), ([0, 0, 1, 2, 3, 4, 5, 6, 7, 8, 9, 10], [0]), ([11, 0, 1, 2, 3, 4, 5, 6, 7, 8, 9, 10], [11]), ([12, 10, 0, 1, 2, 3, 4, 5, 6, 7, 8, 9, 10], [10, 12])])
def F73.B9 : List Nat := [0, 0, 2, 6, 14, 0, 32, 96, 224, 480, 1022, 2047, 4095, 8191]
theorem F73.tab9 : rtab .any (opsOf Try.f73 9) = F73.T9 := by kernel_rfl
theorem F73.bits9 : waitsOk F73.T9.2 F73.B9 = true := by kernel_rfl
theorem F73.calls (g : Nat) (s0_0 : List Int) (s0_1 : Int) (s0_2 : Int) (s0_3 : Int) (a1 : Int) (r1 : Int) (r2 : Int) (r3 : Int) (r4 : Int) (w0 w : World) (hI : IsS116 w0 w g s0_0 s0_1 s0_2 s0_3) (hB : Below w0.heap.size w0 w) (h : F73.f s0_0 s0_1 s0_2 s0_3 a1 = some (r1, r2, r3, r4)) :
  Calls Try.prog 73 #[.pointer (some ⟨g, 0, none⟩), .int .i64 a1] w fun e w' => e = .returned (.int .i64 r1) ∧ IsS116 w0 w' g s0_0 r2 r3 r4 ∧ Below w0.heap.size w0 w' ∧ KeepBut w w' g none := by
 have HI0 := am_ hI
 have HK := am_ (KeepBut.refl w g none)
 have HL := am_ hB.size
 clear hI
 have HW0 := am_ hB.size
 have HB := am_ hB
 clear hB
 have H : (if a1 ≤ 1 then (some (0, s0_1, s0_2, s0_3)) else (if s0_1 < (s0_0.length : Int) then (if 0 ≤ s0_1 then (if (IntKind.u64.wrap (a1)) = 0 then (none) else (some (wrap64 (Int.tmod (IntKind.u64.wrap ((IntKind.u64.wrap (rd s0_0 s0_1)) + ((Go.bits .xor .u64 (Go.bits .xor .u64 (Go.bits .xor .u64 s0_2 (IntKind.u64.wrap (s0_2 * 8192))) ((Go.bits .xor .u64 s0_2 (IntKind.u64.wrap (s0_2 * 8192))) / 128)) (IntKind.u64.wrap ((Go.bits .xor .u64 (Go.bits .xor .u64 s0_2 (IntKind.u64.wrap (s0_2 * 8192))) ((Go.bits .xor .u64 s0_2 (IntKind.u64.wrap (s0_2 * 8192))) / 128)) * 131072))) / 1048576))) (IntKind.u64.wrap (a1))), wrap64 (s0_1 + 1), Go.bits .xor .u64 (Go.bits .xor .u64 (Go.bits .xor .u64 s0_2 (IntKind.u64.wrap (s0_2 * 8192))) ((Go.bits .xor .u64 s0_2 (IntKind.u64.wrap (s0_2 * 8192))) / 128)) (IntKind.u64.wrap ((Go.bits .xor .u64 (Go.bits .xor .u64 s0_2 (IntKind.u64.wrap (s0_2 * 8192))) ((Go.bits .xor .u64 s0_2 (IntKind.u64.wrap (s0_2 * 8192))) / 128)) * 131072)), s0_3))) else (none)) else (if (IntKind.u64.wrap (a1)) = 0 then (none) else (some (wrap64 (Int.tmod (IntKind.u64.wrap (0 + ((Go.bits .xor .u64 (Go.bits .xor .u64 (Go.bits .xor .u64 s0_2 (IntKind.u64.wrap (s0_2 * 8192))) ((Go.bits .xor .u64 s0_2 (IntKind.u64.wrap (s0_2 * 8192))) / 128)) (IntKind.u64.wrap ((Go.bits .xor .u64 (Go.bits .xor .u64 s0_2 (IntKind.u64.wrap (s0_2 * 8192))) ((Go.bits .xor .u64 s0_2 (IntKind.u64.wrap (s0_2 * 8192))) / 128)) * 131072))) / 1048576))) (IntKind.u64.wrap (a1))), s0_1, Go.bits .xor .u64 (Go.bits .xor .u64 (Go.bits .xor .u64 s0_2 (IntKind.u64.wrap (s0_2 * 8192))) ((Go.bits .xor .u64 s0_2 (IntKind.u64.wrap (s0_2 * 8192))) / 128)) (IntKind.u64.wrap ((Go.bits .xor .u64 (Go.bits .xor .u64 s0_2 (IntKind.u64.wrap (s0_2 * 8192))) ((Go.bits .xor .u64 s0_2 (IntKind.u64.wrap (s0_2 * 8192))) / 128)) * 131072)), s0_3))))) = some (r1, r2, r3, r4) := h
 clear h
 replace H := it_ H; rcases H with ⟨c3b0, H⟩ | ⟨c3b0, H⟩
 ·simp only [Option.some.injEq, Prod.mk.injEq] at H
  obtain ⟨rfl, rfl, rfl, rfl⟩ := H
  go_enter Try.func73, Try.ntmps73
  go_wp2
  go_ret
  exact ⟨au1_6, is1_0_, au1_5, au1_8⟩
 replace H := it_ H; rcases H with ⟨c4b0, H⟩ | ⟨c4b0, H⟩
 rotate_left
 ·by_cases c25 : (IntKind.u64.wrap (a1)) = 0
  ·rw [if_pos c25] at H
   exact absurd H (by simp)
  rw [if_neg c25] at H
  have c25b0 : ((IntKind.u64.wrap (a1)) == 0) = false := beq_eq_false_iff_ne.mpr c25
  have c25b1 : ((IntKind.u64.wrap (a1)) != 0) = true := bne_iff_ne.mpr c25
  simp only [Option.some.injEq, Prod.mk.injEq] at H
  obtain ⟨rfl, rfl, rfl, rfl⟩ := H
  go_enter Try.func73, Try.ntmps73
  try go_wp2
  obtain ⟨ASz26_0, cSz26_0, HGz26, hgz26, HSz26_0⟩ := HI0.out
  have hcz26_0 := cellS116_0 HGz26
  have hcz26_1 := cellS116_1 HGz26
  have hcz26_2 := cellS116_2 HGz26
  have hcz26_3 := cellS116_3 HGz26
  have hfz26_1 := blk_frozen HGz26 1
  have hfz26_2 := blk_frozen HGz26 2
  have hfz26_3 := blk_frozen HGz26 3
  clear HGz26 hgz26
  replace HI0 := am_ (IsS116.drew HI0.out)
  replace HK := am_ (keep_drew HK.out)
  replace HB := am_ (below_drew1 HB.out)
  have hdfz26_1 : w.drew.frozen? ⟨g, 1, none⟩ = false := hfz26_1
  have hdfz26_2 : w.drew.frozen? ⟨g, 2, none⟩ = false := hfz26_2
  have hdfz26_3 : w.drew.frozen? ⟨g, 3, none⟩ = false := hfz26_3
  have hdz26_0 : w.drew.cell? ⟨g, 0, none⟩ = some (.slice ASz26_0 s0_0.length cSz26_0) := hcz26_0
  have hdz26_1 : w.drew.cell? ⟨g, 1, none⟩ = some (.int .i64 s0_1) := hcz26_1
  have hdz26_2 : w.drew.cell? ⟨g, 2, none⟩ = some (.int .u64 s0_2) := hcz26_2
  have hdz26_3 : w.drew.cell? ⟨g, 3, none⟩ = some (.int .i64 s0_3) := hcz26_3
  refine start_ (n := 10) (S := fun w' => w'.cell? ⟨g, 0, none⟩ = some (.slice ASz26_0 s0_0.length cSz26_0) ∧ w'.cell? ⟨g, 1, none⟩ = some (.int .i64 s0_1) ∧ w'.cell? ⟨g, 2, none⟩ = some (.int .u64 s0_2) ∧ w'.cell? ⟨g, 3, none⟩ = some (.int .i64 s0_3)) (ds := []) (bs 10 0) (by kernel_rfl) rfl rfl ⟨hdz26_0, hdz26_1, hdz26_2, hdz26_3⟩ (fun hHeld => ?_); refine with_tabW F73.tab4 F73.bits4 (fun HT_ HW_ => ?_)
  generalize w.drew = w27 at hdfz26_1 hdfz26_2 hdfz26_3 hdz26_0 hdz26_1 hdz26_2 hdz26_3 HI0 HK HB hHeld ⊢
  refine pu_ 0 8 (bs 10 1) HT_ ?_ rfl rfl
  refine pu_ 1 9 (bs 10 3) HT_ ?_ rfl rfl
  refine pu_ 2 10 (bs 10 7) HT_ ?_ rfl rfl
  refine pu_ 4 12 (bs 10 23) HT_ ?_ rfl rfl
  refine pu_ 5 13 (bs 10 55) HT_ ?_ rfl rfl
  refine pu_ 6 14 (bs 10 119) HT_ ?_ rfl rfl
  refine tk_ 3 11 (bs 10 127) HT_ HW_ hHeld au1_16 ?_ rfl rfl
  refine tk_ 7 15 (bs 10 255) HT_ HW_ hHeld au1_16 ?_ rfl rfl
  refine pu_ 8 16 (bs 10 511) HT_ ?_ rfl rfl
  refine pu_ 9 17 (bs 10 1023) HT_ ?_ rfl rfl
  refine done_ (done_of HT_.out (by kernel_rfl)) ?_
  try go_wp2
  obtain ⟨ASz28_0, cSz28_0, HGz28, hgz28, HSz28_0⟩ := HI0.out
  have hcz28_0 := cellS116_0 HGz28
  have hcz28_1 := cellS116_1 HGz28
  have hcz28_2 := cellS116_2 HGz28
  have hcz28_3 := cellS116_3 HGz28
  have hfz28_1 := blk_frozen HGz28 1
  have hfz28_2 := blk_frozen HGz28 2
  have hfz28_3 := blk_frozen HGz28 3
  clear HGz28 hgz28
  replace HI0 := am_ (IsS116.drew HI0.out)
  replace HK := am_ (keep_drew HK.out)
  replace HB := am_ (below_drew1 HB.out)
  have hdfz28_1 : w27.drew.frozen? ⟨g, 1, none⟩ = false := hfz28_1
  have hdfz28_2 : w27.drew.frozen? ⟨g, 2, none⟩ = false := hfz28_2
  have hdfz28_3 : w27.drew.frozen? ⟨g, 3, none⟩ = false := hfz28_3
  have hdz28_0 : w27.drew.cell? ⟨g, 0, none⟩ = some (.slice ASz28_0 s0_0.length cSz28_0) := hcz28_0
  have hdz28_1 : w27.drew.cell? ⟨g, 1, none⟩ = some (.int .i64 s0_1) := hcz28_1
  have hdz28_2 : w27.drew.cell? ⟨g, 2, none⟩ = some (.int .u64 s0_2) := hcz28_2
  have hdz28_3 : w27.drew.cell? ⟨g, 3, none⟩ = some (.int .i64 s0_3) := hcz28_3
  refine start_ (n := 14) (S := fun w' => w'.cell? ⟨g, 0, none⟩ = some (.slice ASz28_0 s0_0.length cSz28_0) ∧ w'.cell? ⟨g, 1, none⟩ = some (.int .i64 s0_1) ∧ w'.cell? ⟨g, 2, none⟩ = some (.int .u64 s0_2) ∧ w'.cell? ⟨g, 3, none⟩ = some (.int .i64 s0_3)) (ds := [13]) (bs 14 0) (by kernel_rfl) rfl rfl ⟨hdz28_0, hdz28_1, hdz28_2, hdz28_3⟩ (fun hHeld => ?_); refine with_tabW F73.tab7 F73.bits7 (fun HT_ HW_ => ?_)
  generalize w27.drew = w29 at hdfz28_1 hdfz28_2 hdfz28_3 hdz28_0 hdz28_1 hdz28_2 hdz28_3 HI0 HK HB hHeld ⊢
  refine pu_ 0 37 (bs 14 1) HT_ ?_ rfl rfl
  refine pu_ 1 38 (bs 14 3) HT_ ?_ rfl rfl
  refine pu_ 2 39 (bs 14 7) HT_ ?_ rfl rfl
  refine pu_ 3 40 (bs 14 15) HT_ ?_ rfl rfl
  refine pu_ 5 42 (bs 14 47) HT_ ?_ rfl rfl
  refine pu_ 6 43 (bs 14 111) HT_ ?_ rfl rfl
  refine pu_ 7 44 (bs 14 239) HT_ ?_ rfl rfl
  refine tk_ 4 41 (bs 14 255) HT_ HW_ hHeld au1_16 ?_ rfl rfl
  refine tk_ 8 45 (bs 14 511) HT_ HW_ hHeld au1_16 ?_ rfl rfl
  refine pu_ 9 46 (bs 14 1023) HT_ ?_ rfl rfl
  refine pu_ 10 47 (bs 14 2047) HT_ ?_ rfl rfl
  refine pu_ 11 48 (bs 14 4095) HT_ ?_ rfl rfl
  refine pu_ 12 49 (bs 14 8191) HT_ ?_ rfl rfl
  refine last_ (i := 13) (N := none) (bs 14 16383) rfl rfl (one_of HT_.out (by kernel_rfl)) (by decide) (fun K hK => ?_)
  have hs30 : w29.cell? ⟨g, 2, none⟩ = some (.int .u64 s0_2) := hdz28_2
  have hfs30 := hdfz28_2
  refine skip_ (w1 := ?_) (by rfl) rfl ?_ ?_
  rotate_left
  ·go_simp
   rfl
  refine hK.out _ _ ?_
  clear hK K
  refine done_ (done_of HT_.out (by kernel_rfl)) ?_
  try go_wp2
  have n0_ : Aside0 (IsS116 w0 (w29.setCell ⟨g, 2, none⟩ (.int .u64 (Go.bits .xor .u64 s0_2 (IntKind.u64.wrap (s0_2 * 8192))))) g s0_0 s0_1 (Go.bits .xor .u64 s0_2 (IntKind.u64.wrap (s0_2 * 8192))) s0_3) := ⟨is1_0_⟩
  have n1_ : Aside0 (KeepBut w (w29.setCell ⟨g, 2, none⟩ (.int .u64 (Go.bits .xor .u64 s0_2 (IntKind.u64.wrap (s0_2 * 8192))))) g none) := ⟨au1_8⟩
  have n2_ : Aside0 (Below w0.heap.size w0 (w29.setCell ⟨g, 2, none⟩ (.int .u64 (Go.bits .xor .u64 s0_2 (IntKind.u64.wrap (s0_2 * 8192)))))) := ⟨au1_5⟩
  (try clear HI0)
  (try clear HK)
  (try clear HB)
  generalize (w29.setCell ⟨g, 2, none⟩ (.int .u64 (Go.bits .xor .u64 s0_2 (IntKind.u64.wrap (s0_2 * 8192))))) = w31 at n0_ n1_ n2_ ⊢
  have HI0 := n0_
  have HK := n1_
  have HB := n2_
  clear n0_ n1_ n2_
  obtain ⟨ASz32_0, cSz32_0, HGz32, hgz32, HSz32_0⟩ := HI0.out
  have hcz32_0 := cellS116_0 HGz32
  have hcz32_1 := cellS116_1 HGz32
  have hcz32_2 := cellS116_2 HGz32
  have hcz32_3 := cellS116_3 HGz32
  have hfz32_1 := blk_frozen HGz32 1
  have hfz32_2 := blk_frozen HGz32 2
  have hfz32_3 := blk_frozen HGz32 3
  clear HGz32 hgz32
  replace HI0 := am_ (IsS116.drew HI0.out)
  replace HK := am_ (keep_drew HK.out)
  replace HB := am_ (below_drew1 HB.out)
  have hdfz32_1 : w31.drew.frozen? ⟨g, 1, none⟩ = false := hfz32_1
  have hdfz32_2 : w31.drew.frozen? ⟨g, 2, none⟩ = false := hfz32_2
  have hdfz32_3 : w31.drew.frozen? ⟨g, 3, none⟩ = false := hfz32_3
  have hdz32_0 : w31.drew.cell? ⟨g, 0, none⟩ = some (.slice ASz32_0 s0_0.length cSz32_0) := hcz32_0
  have hdz32_1 : w31.drew.cell? ⟨g, 1, none⟩ = some (.int .i64 s0_1) := hcz32_1
  have hdz32_2 : w31.drew.cell? ⟨g, 2, none⟩ = some (.int .u64 (Go.bits .xor .u64 s0_2 (IntKind.u64.wrap (s0_2 * 8192)))) := hcz32_2
  have hdz32_3 : w31.drew.cell? ⟨g, 3, none⟩ = some (.int .i64 s0_3) := hcz32_3
  refine start_ (n := 14) (S := fun w' => w'.cell? ⟨g, 0, none⟩ = some (.slice ASz32_0 s0_0.length cSz32_0) ∧ w'.cell? ⟨g, 1, none⟩ = some (.int .i64 s0_1) ∧ w'.cell? ⟨g, 2, none⟩ = some (.int .u64 (Go.bits .xor .u64 s0_2 (IntKind.u64.wrap (s0_2 * 8192)))) ∧ w'.cell? ⟨g, 3, none⟩ = some (.int .i64 s0_3)) (ds := [13]) (bs 14 0) (by kernel_rfl) rfl rfl ⟨hdz32_0, hdz32_1, hdz32_2, hdz32_3⟩ (fun hHeld => ?_); refine with_tabW F73.tab8 F73.bits8 (fun HT_ HW_ => ?_)
  generalize w31.drew = w33 at hdfz32_1 hdfz32_2 hdfz32_3 hdz32_0 hdz32_1 hdz32_2 hdz32_3 HI0 HK HB hHeld ⊢
  refine pu_ 0 50 (bs 14 1) HT_ ?_ rfl rfl
  refine pu_ 1 51 (bs 14 3) HT_ ?_ rfl rfl
  refine pu_ 2 52 (bs 14 7) HT_ ?_ rfl rfl
  refine pu_ 3 53 (bs 14 15) HT_ ?_ rfl rfl
  refine pu_ 5 55 (bs 14 47) HT_ ?_ rfl rfl
  refine pu_ 6 56 (bs 14 111) HT_ ?_ rfl rfl
  refine pu_ 7 57 (bs 14 239) HT_ ?_ rfl rfl
  refine tk_ 4 54 (bs 14 255) HT_ HW_ hHeld au1_16 ?_ rfl rfl
  refine tk_ 8 58 (bs 14 511) HT_ HW_ hHeld au1_16 ?_ rfl rfl
  refine pu_ 9 59 (bs 14 1023) HT_ ?_ rfl rfl
  refine pu_ 10 60 (bs 14 2047) HT_ ?_ rfl rfl
  refine pu_ 11 61 (bs 14 4095) HT_ ?_ rfl rfl
  refine pu_ 12 62 (bs 14 8191) HT_ ?_ rfl rfl
  refine last_ (i := 13) (N := none) (bs 14 16383) rfl rfl (one_of HT_.out (by kernel_rfl)) (by decide) (fun K hK => ?_)
  have hs34 : w33.cell? ⟨g, 2, none⟩ = some (.int .u64 (Go.bits .xor .u64 s0_2 (IntKind.u64.wrap (s0_2 * 8192)))) := hdz32_2
  have hfs34 := hdfz32_2
  refine skip_ (w1 := ?_) (by rfl) rfl ?_ ?_
  rotate_left
  ·go_simp
   rfl
  refine hK.out _ _ ?_
  clear hK K
  refine done_ (done_of HT_.out (by kernel_rfl)) ?_
  try go_wp2
  have n0_ : Aside0 (IsS116 w0 (w33.setCell ⟨g, 2, none⟩ (.int .u64 (Go.bits .xor .u64 (Go.bits .xor .u64 s0_2 (IntKind.u64.wrap (s0_2 * 8192))) ((Go.bits .xor .u64 s0_2 (IntKind.u64.wrap (s0_2 * 8192))) / 128)))) g s0_0 s0_1 (Go.bits .xor .u64 (Go.bits .xor .u64 s0_2 (IntKind.u64.wrap (s0_2 * 8192))) ((Go.bits .xor .u64 s0_2 (IntKind.u64.wrap (s0_2 * 8192))) / 128)) s0_3) := ⟨is1_0_⟩
  have n1_ : Aside0 (KeepBut w (w33.setCell ⟨g, 2, none⟩ (.int .u64 (Go.bits .xor .u64 (Go.bits .xor .u64 s0_2 (IntKind.u64.wrap (s0_2 * 8192))) ((Go.bits .xor .u64 s0_2 (IntKind.u64.wrap (s0_2 * 8192))) / 128)))) g none) := ⟨au1_8⟩
  have n2_ : Aside0 (Below w0.heap.size w0 (w33.setCell ⟨g, 2, none⟩ (.int .u64 (Go.bits .xor .u64 (Go.bits .xor .u64 s0_2 (IntKind.u64.wrap (s0_2 * 8192))) ((Go.bits .xor .u64 s0_2 (IntKind.u64.wrap (s0_2 * 8192))) / 128))))) := ⟨au1_5⟩
  (try clear HI0)
  (try clear HK)
  (try clear HB)
  generalize (w33.setCell ⟨g, 2, none⟩ (.int .u64 (Go.bits .xor .u64 (Go.bits .xor .u64 s0_2 (IntKind.u64.wrap (s0_2 * 8192))) ((Go.bits .xor .u64 s0_2 (IntKind.u64.wrap (s0_2 * 8192))) / 128)))) = w35 at n0_ n1_ n2_ ⊢
  have HI0 := n0_
  have HK := n1_
  have HB := n2_
  clear n0_ n1_ n2_
  obtain ⟨ASz36_0, cSz36_0, HGz36, hgz36, HSz36_0⟩ := HI0.out
  have hcz36_0 := cellS116_0 HGz36
  have hcz36_1 := cellS116_1 HGz36
  have hcz36_2 := cellS116_2 HGz36
  have hcz36_3 := cellS116_3 HGz36
  have hfz36_1 := blk_frozen HGz36 1
  have hfz36_2 := blk_frozen HGz36 2
  have hfz36_3 := blk_frozen HGz36 3
  clear HGz36 hgz36
  replace HI0 := am_ (IsS116.drew HI0.out)
  replace HK := am_ (keep_drew HK.out)
  replace HB := am_ (below_drew1 HB.out)
  have hdfz36_1 : w35.drew.frozen? ⟨g, 1, none⟩ = false := hfz36_1
  have hdfz36_2 : w35.drew.frozen? ⟨g, 2, none⟩ = false := hfz36_2
  have hdfz36_3 : w35.drew.frozen? ⟨g, 3, none⟩ = false := hfz36_3
  have hdz36_0 : w35.drew.cell? ⟨g, 0, none⟩ = some (.slice ASz36_0 s0_0.length cSz36_0) := hcz36_0
  have hdz36_1 : w35.drew.cell? ⟨g, 1, none⟩ = some (.int .i64 s0_1) := hcz36_1
  have hdz36_2 : w35.drew.cell? ⟨g, 2, none⟩ = some (.int .u64 (Go.bits .xor .u64 (Go.bits .xor .u64 s0_2 (IntKind.u64.wrap (s0_2 * 8192))) ((Go.bits .xor .u64 s0_2 (IntKind.u64.wrap (s0_2 * 8192))) / 128))) := hcz36_2
  have hdz36_3 : w35.drew.cell? ⟨g, 3, none⟩ = some (.int .i64 s0_3) := hcz36_3
  refine start_ (n := 14) (S := fun w' => w'.cell? ⟨g, 0, none⟩ = some (.slice ASz36_0 s0_0.length cSz36_0) ∧ w'.cell? ⟨g, 1, none⟩ = some (.int .i64 s0_1) ∧ w'.cell? ⟨g, 2, none⟩ = some (.int .u64 (Go.bits .xor .u64 (Go.bits .xor .u64 s0_2 (IntKind.u64.wrap (s0_2 * 8192))) ((Go.bits .xor .u64 s0_2 (IntKind.u64.wrap (s0_2 * 8192))) / 128))) ∧ w'.cell? ⟨g, 3, none⟩ = some (.int .i64 s0_3)) (ds := [13]) (bs 14 0) (by kernel_rfl) rfl rfl ⟨hdz36_0, hdz36_1, hdz36_2, hdz36_3⟩ (fun hHeld => ?_); refine with_tabW F73.tab9 F73.bits9 (fun HT_ HW_ => ?_)
  generalize w35.drew = w37 at hdfz36_1 hdfz36_2 hdfz36_3 hdz36_0 hdz36_1 hdz36_2 hdz36_3 HI0 HK HB hHeld ⊢
  refine pu_ 0 63 (bs 14 1) HT_ ?_ rfl rfl
  refine pu_ 1 64 (bs 14 3) HT_ ?_ rfl rfl
  refine pu_ 2 65 (bs 14 7) HT_ ?_ rfl rfl
  refine pu_ 3 66 (bs 14 15) HT_ ?_ rfl rfl
  refine pu_ 5 68 (bs 14 47) HT_ ?_ rfl rfl
  refine pu_ 6 69 (bs 14 111) HT_ ?_ rfl rfl
  refine pu_ 7 70 (bs 14 239) HT_ ?_ rfl rfl
  refine tk_ 4 67 (bs 14 255) HT_ HW_ hHeld au1_16 ?_ rfl rfl
  refine tk_ 8 71 (bs 14 511) HT_ HW_ hHeld au1_16 ?_ rfl rfl
  refine pu_ 9 72 (bs 14 1023) HT_ ?_ rfl rfl
  refine pu_ 10 73 (bs 14 2047) HT_ ?_ rfl rfl
  refine pu_ 11 74 (bs 14 4095) HT_ ?_ rfl rfl
  refine pu_ 12 75 (bs 14 8191) HT_ ?_ rfl rfl
  refine last_ (i := 13) (N := none) (bs 14 16383) rfl rfl (one_of HT_.out (by kernel_rfl)) (by decide) (fun K hK => ?_)
  have hs38 : w37.cell? ⟨g, 2, none⟩ = some (.int .u64 (Go.bits .xor .u64 (Go.bits .xor .u64 s0_2 (IntKind.u64.wrap (s0_2 * 8192))) ((Go.bits .xor .u64 s0_2 (IntKind.u64.wrap (s0_2 * 8192))) / 128))) := hdz36_2
  have hfs38 := hdfz36_2
  refine skip_ (w1 := ?_) (by rfl) rfl ?_ ?_
  rotate_left
  ·go_simp
   rfl
  refine hK.out _ _ ?_
  clear hK K
  refine done_ (done_of HT_.out (by kernel_rfl)) ?_
  obtain ⟨ASz39_0, cSz39_0, HGz39, hgz39, HSz39_0⟩ := HI0.out
  have hcz39_0 := cellS116_0 HGz39
  have hcz39_1 := cellS116_1 HGz39
  have hcz39_2 := cellS116_2 HGz39
  have hcz39_3 := cellS116_3 HGz39
  have hfz39_1 := blk_frozen HGz39 1
  have hfz39_2 := blk_frozen HGz39 2
  have hfz39_3 := blk_frozen HGz39 3
  clear HGz39 hgz39
  try go_wp2
  go_ret
  exact ⟨au1_6, is1_0_, au1_5, au1_8⟩

 replace H := itn_ H; rcases H with ⟨c5b0, H⟩
 by_cases c6 : (IntKind.u64.wrap (a1)) = 0
 ·rw [if_pos c6] at H
  exact absurd H (by simp)
 rw [if_neg c6] at H
 have c6b0 : ((IntKind.u64.wrap (a1)) == 0) = false := beq_eq_false_iff_ne.mpr c6
 have c6b1 : ((IntKind.u64.wrap (a1)) != 0) = true := bne_iff_ne.mpr c6
 simp only [Option.some.injEq, Prod.mk.injEq] at H
 obtain ⟨rfl, rfl, rfl, rfl⟩ := H
 go_enter Try.func73, Try.ntmps73
 try go_wp2
 obtain ⟨ASz7_0, cSz7_0, HGz7, hgz7, HSz7_0⟩ := HI0.out
 have hcz7_0 := cellS116_0 HGz7
 have hcz7_1 := cellS116_1 HGz7
 have hcz7_2 := cellS116_2 HGz7
 have hcz7_3 := cellS116_3 HGz7
 have hfz7_1 := blk_frozen HGz7 1
 have hfz7_2 := blk_frozen HGz7 2
 have hfz7_3 := blk_frozen HGz7 3
 clear HGz7 hgz7
 replace HI0 := am_ (IsS116.drew HI0.out)
 replace HK := am_ (keep_drew HK.out)
 replace HB := am_ (below_drew1 HB.out)
 have hdfz7_1 : w.drew.frozen? ⟨g, 1, none⟩ = false := hfz7_1
 have hdfz7_2 : w.drew.frozen? ⟨g, 2, none⟩ = false := hfz7_2
 have hdfz7_3 : w.drew.frozen? ⟨g, 3, none⟩ = false := hfz7_3
 have hdz7_0 : w.drew.cell? ⟨g, 0, none⟩ = some (.slice ASz7_0 s0_0.length cSz7_0) := hcz7_0
 have hdz7_1 : w.drew.cell? ⟨g, 1, none⟩ = some (.int .i64 s0_1) := hcz7_1
 have hdz7_2 : w.drew.cell? ⟨g, 2, none⟩ = some (.int .u64 s0_2) := hcz7_2
 have hdz7_3 : w.drew.cell? ⟨g, 3, none⟩ = some (.int .i64 s0_3) := hcz7_3
 refine start_ (n := 10) (S := fun w' => w'.cell? ⟨g, 0, none⟩ = some (.slice ASz7_0 s0_0.length cSz7_0) ∧ w'.cell? ⟨g, 1, none⟩ = some (.int .i64 s0_1) ∧ w'.cell? ⟨g, 2, none⟩ = some (.int .u64 s0_2) ∧ w'.cell? ⟨g, 3, none⟩ = some (.int .i64 s0_3)) (ds := []) (bs 10 0) (by kernel_rfl) rfl rfl ⟨hdz7_0, hdz7_1, hdz7_2, hdz7_3⟩ (fun hHeld => ?_); refine with_tabW F73.tab4 F73.bits4 (fun HT_ HW_ => ?_)
 generalize w.drew = w8 at hdfz7_1 hdfz7_2 hdfz7_3 hdz7_0 hdz7_1 hdz7_2 hdz7_3 HI0 HK HB hHeld ⊢
 refine pu_ 0 8 (bs 10 1) HT_ ?_ rfl rfl
 refine pu_ 1 9 (bs 10 3) HT_ ?_ rfl rfl
 refine pu_ 2 10 (bs 10 7) HT_ ?_ rfl rfl
 refine pu_ 4 12 (bs 10 23) HT_ ?_ rfl rfl
 refine pu_ 5 13 (bs 10 55) HT_ ?_ rfl rfl
 refine pu_ 6 14 (bs 10 119) HT_ ?_ rfl rfl
 refine tk_ 3 11 (bs 10 127) HT_ HW_ hHeld au1_16 ?_ rfl rfl
 refine tk_ 7 15 (bs 10 255) HT_ HW_ hHeld au1_16 ?_ rfl rfl
 refine pu_ 8 16 (bs 10 511) HT_ ?_ rfl rfl
 refine pu_ 9 17 (bs 10 1023) HT_ ?_ rfl rfl
 refine done_ (done_of HT_.out (by kernel_rfl)) ?_
 try go_wp2
 obtain ⟨ASz9_0, cSz9_0, HGz9, hgz9, HSz9_0⟩ := HI0.out
 have hcz9_0 := cellS116_0 HGz9
 have hcz9_1 := cellS116_1 HGz9
 have hcz9_2 := cellS116_2 HGz9
 have hcz9_3 := cellS116_3 HGz9
 have hfz9_1 := blk_frozen HGz9 1
 have hfz9_2 := blk_frozen HGz9 2
 have hfz9_3 := blk_frozen HGz9 3
 clear HGz9 hgz9
 replace HI0 := am_ (IsS116.drew HI0.out)
 replace HK := am_ (keep_drew HK.out)
 replace HB := am_ (below_drew1 HB.out)
 have hdfz9_1 : w8.drew.frozen? ⟨g, 1, none⟩ = false := hfz9_1
 have hdfz9_2 : w8.drew.frozen? ⟨g, 2, none⟩ = false := hfz9_2
 have hdfz9_3 : w8.drew.frozen? ⟨g, 3, none⟩ = false := hfz9_3
 have hdz9_0 : w8.drew.cell? ⟨g, 0, none⟩ = some (.slice ASz9_0 s0_0.length cSz9_0) := hcz9_0
 have hdz9_1 : w8.drew.cell? ⟨g, 1, none⟩ = some (.int .i64 s0_1) := hcz9_1
 have hdz9_2 : w8.drew.cell? ⟨g, 2, none⟩ = some (.int .u64 s0_2) := hcz9_2
 have hdz9_3 : w8.drew.cell? ⟨g, 3, none⟩ = some (.int .i64 s0_3) := hcz9_3
 have p104 : 0 ≤ (s0_1 : Int) := od_
 have q104 : s0_1 < (s0_0.length : Int) := od_
 obtain ⟨ad104, e104, hx104_0⟩ := Kd.at_int HSz9_0 s0_1 p104 q104
 have hw104_0 := hx104_0
 cases e104
 replace hx104_0 := pw_cell_below HB.out hx104_0
 replace p104 := eq_true p104
 replace q104 := eq_true q104
 refine start_ (n := 12) (S := fun w' => w'.cell? ⟨g, 0, none⟩ = some (.slice (some ad104) s0_0.length cSz9_0) ∧ w'.cell? ⟨g, 1, none⟩ = some (.int .i64 s0_1) ∧ w'.cell? ⟨g, 2, none⟩ = some (.int .u64 s0_2) ∧ w'.cell? ⟨g, 3, none⟩ = some (.int .i64 s0_3) ∧ w'.cell? (ad104.add (s0_1).toNat) = some (.int .u8 (rd s0_0 s0_1))) (ds := []) (bs 12 0) (by kernel_rfl) rfl rfl ⟨hdz9_0, hdz9_1, hdz9_2, hdz9_3, ((HB.out.cell (World.block_lt_of_cell? _ _ hw104_0)).trans hw104_0)⟩ (fun hHeld => ?_); refine with_tabW F73.tab5 F73.bits5 (fun HT_ HW_ => ?_)
 generalize w8.drew = w10 at hdfz9_1 hdfz9_2 hdfz9_3 hdz9_0 hdz9_1 hdz9_2 hdz9_3 HI0 HK HB hx104_0 hHeld ⊢
 refine pu_ 0 18 (bs 12 1) HT_ ?_ rfl rfl
 refine pu_ 1 19 (bs 12 3) HT_ ?_ rfl rfl
 refine pu_ 2 20 (bs 12 7) HT_ ?_ rfl rfl
 refine pu_ 4 22 (bs 12 23) HT_ ?_ rfl rfl
 refine pu_ 5 23 (bs 12 55) HT_ ?_ rfl rfl
 refine pu_ 6 24 (bs 12 119) HT_ ?_ rfl rfl
 refine tk_ 3 21 (bs 12 127) HT_ HW_ hHeld au1_23 ?_ rfl rfl
 refine tk_ 7 25 (bs 12 255) HT_ HW_ hHeld au1_23 ?_ rfl rfl
 refine pu_ 8 26 (bs 12 511) HT_ ?_ rfl rfl
 refine tk_ 9 27 (bs 12 1023) HT_ HW_ hHeld au1_23 ?_ rfl rfl
 refine pu_ 10 28 (bs 12 2047) HT_ ?_ rfl rfl
 refine pu_ 11 5 (bs 12 4095) HT_ ?_ rfl rfl
 refine done_ (done_of HT_.out (by kernel_rfl)) ?_
 obtain ⟨ASz11_0, cSz11_0, HGz11, hgz11, HSz11_0⟩ := HI0.out
 have hcz11_0 := cellS116_0 HGz11
 have hcz11_1 := cellS116_1 HGz11
 have hcz11_2 := cellS116_2 HGz11
 have hcz11_3 := cellS116_3 HGz11
 have hfz11_1 := blk_frozen HGz11 1
 have hfz11_2 := blk_frozen HGz11 2
 have hfz11_3 := blk_frozen HGz11 3
 clear HGz11 hgz11
 try go_wp2
 have n0_ : Aside0 (IsS116 w0 (w10.setCell ⟨g, 1, none⟩ (.int .i64 (wrap64 (s0_1 + 1)))) g s0_0 (wrap64 (s0_1 + 1)) s0_2 s0_3) := ⟨is1_0_⟩
 have n1_ : Aside0 (KeepBut w (w10.setCell ⟨g, 1, none⟩ (.int .i64 (wrap64 (s0_1 + 1)))) g none) := ⟨au1_8⟩
 have n2_ : Aside0 (Below w0.heap.size w0 (w10.setCell ⟨g, 1, none⟩ (.int .i64 (wrap64 (s0_1 + 1))))) := ⟨au1_5⟩
 (try clear HI0)
 (try clear HK)
 (try clear HB)
 generalize (w10.setCell ⟨g, 1, none⟩ (.int .i64 (wrap64 (s0_1 + 1)))) = w12 at n0_ n1_ n2_ ⊢
 have HI0 := n0_
 have HK := n1_
 have HB := n2_
 clear n0_ n1_ n2_
 obtain ⟨ASz13_0, cSz13_0, HGz13, hgz13, HSz13_0⟩ := HI0.out
 have hcz13_0 := cellS116_0 HGz13
 have hcz13_1 := cellS116_1 HGz13
 have hcz13_2 := cellS116_2 HGz13
 have hcz13_3 := cellS116_3 HGz13
 have hfz13_1 := blk_frozen HGz13 1
 have hfz13_2 := blk_frozen HGz13 2
 have hfz13_3 := blk_frozen HGz13 3
 clear HGz13 hgz13
 replace HI0 := am_ (IsS116.drew HI0.out)
 replace HK := am_ (keep_drew HK.out)
 replace HB := am_ (below_drew1 HB.out)
 have hdfz13_1 : w12.drew.frozen? ⟨g, 1, none⟩ = false := hfz13_1
 have hdfz13_2 : w12.drew.frozen? ⟨g, 2, none⟩ = false := hfz13_2
 have hdfz13_3 : w12.drew.frozen? ⟨g, 3, none⟩ = false := hfz13_3
 have hdz13_0 : w12.drew.cell? ⟨g, 0, none⟩ = some (.slice ASz13_0 s0_0.length cSz13_0) := hcz13_0
 have hdz13_1 : w12.drew.cell? ⟨g, 1, none⟩ = some (.int .i64 (wrap64 (s0_1 + 1))) := hcz13_1
 have hdz13_2 : w12.drew.cell? ⟨g, 2, none⟩ = some (.int .u64 s0_2) := hcz13_2
 have hdz13_3 : w12.drew.cell? ⟨g, 3, none⟩ = some (.int .i64 s0_3) := hcz13_3
 refine start_ (n := 14) (S := fun w' => w'.cell? ⟨g, 0, none⟩ = some (.slice ASz13_0 s0_0.length cSz13_0) ∧ w'.cell? ⟨g, 1, none⟩ = some (.int .i64 (wrap64 (s0_1 + 1))) ∧ w'.cell? ⟨g, 2, none⟩ = some (.int .u64 s0_2) ∧ w'.cell? ⟨g, 3, none⟩ = some (.int .i64 s0_3)) (ds := [13]) (bs 14 0) (by kernel_rfl) rfl rfl ⟨hdz13_0, hdz13_1, hdz13_2, hdz13_3⟩ (fun hHeld => ?_); refine with_tabW F73.tab7 F73.bits7 (fun HT_ HW_ => ?_)
 generalize w12.drew = w14 at hdfz13_1 hdfz13_2 hdfz13_3 hdz13_0 hdz13_1 hdz13_2 hdz13_3 HI0 HK HB hHeld ⊢
 refine pu_ 0 37 (bs 14 1) HT_ ?_ rfl rfl
 refine pu_ 1 38 (bs 14 3) HT_ ?_ rfl rfl
 refine pu_ 2 39 (bs 14 7) HT_ ?_ rfl rfl
 refine pu_ 3 40 (bs 14 15) HT_ ?_ rfl rfl
 refine pu_ 5 42 (bs 14 47) HT_ ?_ rfl rfl
 refine pu_ 6 43 (bs 14 111) HT_ ?_ rfl rfl
 refine pu_ 7 44 (bs 14 239) HT_ ?_ rfl rfl
 refine tk_ 4 41 (bs 14 255) HT_ HW_ hHeld au1_16 ?_ rfl rfl
 refine tk_ 8 45 (bs 14 511) HT_ HW_ hHeld au1_16 ?_ rfl rfl
 refine pu_ 9 46 (bs 14 1023) HT_ ?_ rfl rfl
 refine pu_ 10 47 (bs 14 2047) HT_ ?_ rfl rfl
 refine pu_ 11 48 (bs 14 4095) HT_ ?_ rfl rfl
 refine pu_ 12 49 (bs 14 8191) HT_ ?_ rfl rfl
 refine last_ (i := 13) (N := none) (bs 14 16383) rfl rfl (one_of HT_.out (by kernel_rfl)) (by decide) (fun K hK => ?_)
 have hs15 : w14.cell? ⟨g, 2, none⟩ = some (.int .u64 s0_2) := hdz13_2
 have hfs15 := hdfz13_2
 refine skip_ (w1 := ?_) (by rfl) rfl ?_ ?_
 rotate_left
 ·go_simp
  rfl
 refine hK.out _ _ ?_
 clear hK K
 refine done_ (done_of HT_.out (by kernel_rfl)) ?_
 try go_wp2
 have n0_ : Aside0 (IsS116 w0 (w14.setCell ⟨g, 2, none⟩ (.int .u64 (Go.bits .xor .u64 s0_2 (IntKind.u64.wrap (s0_2 * 8192))))) g s0_0 (wrap64 (s0_1 + 1)) (Go.bits .xor .u64 s0_2 (IntKind.u64.wrap (s0_2 * 8192))) s0_3) := ⟨is1_0_⟩
 have n1_ : Aside0 (KeepBut w (w14.setCell ⟨g, 2, none⟩ (.int .u64 (Go.bits .xor .u64 s0_2 (IntKind.u64.wrap (s0_2 * 8192))))) g none) := ⟨au1_8⟩
 have n2_ : Aside0 (Below w0.heap.size w0 (w14.setCell ⟨g, 2, none⟩ (.int .u64 (Go.bits .xor .u64 s0_2 (IntKind.u64.wrap (s0_2 * 8192)))))) := ⟨au1_5⟩
 (try clear HI0)
 (try clear HK)
 (try clear HB)
 generalize (w14.setCell ⟨g, 2, none⟩ (.int .u64 (Go.bits .xor .u64 s0_2 (IntKind.u64.wrap (s0_2 * 8192))))) = w16 at n0_ n1_ n2_ ⊢
 have HI0 := n0_
 have HK := n1_
 have HB := n2_
 clear n0_ n1_ n2_
 obtain ⟨ASz17_0, cSz17_0, HGz17, hgz17, HSz17_0⟩ := HI0.out
 have hcz17_0 := cellS116_0 HGz17
 have hcz17_1 := cellS116_1 HGz17
 have hcz17_2 := cellS116_2 HGz17
 have hcz17_3 := cellS116_3 HGz17
 have hfz17_1 := blk_frozen HGz17 1
 have hfz17_2 := blk_frozen HGz17 2
 have hfz17_3 := blk_frozen HGz17 3
 clear HGz17 hgz17
 replace HI0 := am_ (IsS116.drew HI0.out)
 replace HK := am_ (keep_drew HK.out)
 replace HB := am_ (below_drew1 HB.out)
 have hdfz17_1 : w16.drew.frozen? ⟨g, 1, none⟩ = false := hfz17_1
 have hdfz17_2 : w16.drew.frozen? ⟨g, 2, none⟩ = false := hfz17_2
 have hdfz17_3 : w16.drew.frozen? ⟨g, 3, none⟩ = false := hfz17_3
 have hdz17_0 : w16.drew.cell? ⟨g, 0, none⟩ = some (.slice ASz17_0 s0_0.length cSz17_0) := hcz17_0
 have hdz17_1 : w16.drew.cell? ⟨g, 1, none⟩ = some (.int .i64 (wrap64 (s0_1 + 1))) := hcz17_1
 have hdz17_2 : w16.drew.cell? ⟨g, 2, none⟩ = some (.int .u64 (Go.bits .xor .u64 s0_2 (IntKind.u64.wrap (s0_2 * 8192)))) := hcz17_2
 have hdz17_3 : w16.drew.cell? ⟨g, 3, none⟩ = some (.int .i64 s0_3) := hcz17_3
 refine start_ (n := 14) (S := fun w' => w'.cell? ⟨g, 0, none⟩ = some (.slice ASz17_0 s0_0.length cSz17_0) ∧ w'.cell? ⟨g, 1, none⟩ = some (.int .i64 (wrap64 (s0_1 + 1))) ∧ w'.cell? ⟨g, 2, none⟩ = some (.int .u64 (Go.bits .xor .u64 s0_2 (IntKind.u64.wrap (s0_2 * 8192)))) ∧ w'.cell? ⟨g, 3, none⟩ = some (.int .i64 s0_3)) (ds := [13]) (bs 14 0) (by kernel_rfl) rfl rfl ⟨hdz17_0, hdz17_1, hdz17_2, hdz17_3⟩ (fun hHeld => ?_); refine with_tabW F73.tab8 F73.bits8 (fun HT_ HW_ => ?_)
 generalize w16.drew = w18 at hdfz17_1 hdfz17_2 hdfz17_3 hdz17_0 hdz17_1 hdz17_2 hdz17_3 HI0 HK HB hHeld ⊢
 refine pu_ 0 50 (bs 14 1) HT_ ?_ rfl rfl
 refine pu_ 1 51 (bs 14 3) HT_ ?_ rfl rfl
 refine pu_ 2 52 (bs 14 7) HT_ ?_ rfl rfl
 refine pu_ 3 53 (bs 14 15) HT_ ?_ rfl rfl
 refine pu_ 5 55 (bs 14 47) HT_ ?_ rfl rfl
 refine pu_ 6 56 (bs 14 111) HT_ ?_ rfl rfl
 refine pu_ 7 57 (bs 14 239) HT_ ?_ rfl rfl
 refine tk_ 4 54 (bs 14 255) HT_ HW_ hHeld au1_16 ?_ rfl rfl
 refine tk_ 8 58 (bs 14 511) HT_ HW_ hHeld au1_16 ?_ rfl rfl
 refine pu_ 9 59 (bs 14 1023) HT_ ?_ rfl rfl
 refine pu_ 10 60 (bs 14 2047) HT_ ?_ rfl rfl
 refine pu_ 11 61 (bs 14 4095) HT_ ?_ rfl rfl
 refine pu_ 12 62 (bs 14 8191) HT_ ?_ rfl rfl
 refine last_ (i := 13) (N := none) (bs 14 16383) rfl rfl (one_of HT_.out (by kernel_rfl)) (by decide) (fun K hK => ?_)
 have hs19 : w18.cell? ⟨g, 2, none⟩ = some (.int .u64 (Go.bits .xor .u64 s0_2 (IntKind.u64.wrap (s0_2 * 8192)))) := hdz17_2
 have hfs19 := hdfz17_2
 refine skip_ (w1 := ?_) (by rfl) rfl ?_ ?_
 rotate_left
 ·go_simp
  rfl
 refine hK.out _ _ ?_
 clear hK K
 refine done_ (done_of HT_.out (by kernel_rfl)) ?_
 try go_wp2
 have n0_ : Aside0 (IsS116 w0 (w18.setCell ⟨g, 2, none⟩ (.int .u64 (Go.bits .xor .u64 (Go.bits .xor .u64 s0_2 (IntKind.u64.wrap (s0_2 * 8192))) ((Go.bits .xor .u64 s0_2 (IntKind.u64.wrap (s0_2 * 8192))) / 128)))) g s0_0 (wrap64 (s0_1 + 1)) (Go.bits .xor .u64 (Go.bits .xor .u64 s0_2 (IntKind.u64.wrap (s0_2 * 8192))) ((Go.bits .xor .u64 s0_2 (IntKind.u64.wrap (s0_2 * 8192))) / 128)) s0_3) := ⟨is1_0_⟩
 have n1_ : Aside0 (KeepBut w (w18.setCell ⟨g, 2, none⟩ (.int .u64 (Go.bits .xor .u64 (Go.bits .xor .u64 s0_2 (IntKind.u64.wrap (s0_2 * 8192))) ((Go.bits .xor .u64 s0_2 (IntKind.u64.wrap (s0_2 * 8192))) / 128)))) g none) := ⟨au1_8⟩
 have n2_ : Aside0 (Below w0.heap.size w0 (w18.setCell ⟨g, 2, none⟩ (.int .u64 (Go.bits .xor .u64 (Go.bits .xor .u64 s0_2 (IntKind.u64.wrap (s0_2 * 8192))) ((Go.bits .xor .u64 s0_2 (IntKind.u64.wrap (s0_2 * 8192))) / 128))))) := ⟨au1_5⟩
 (try clear HI0)
 (try clear HK)
 (try clear HB)
 generalize (w18.setCell ⟨g, 2, none⟩ (.int .u64 (Go.bits .xor .u64 (Go.bits .xor .u64 s0_2 (IntKind.u64.wrap (s0_2 * 8192))) ((Go.bits .xor .u64 s0_2 (IntKind.u64.wrap (s0_2 * 8192))) / 128)))) = w20 at n0_ n1_ n2_ ⊢
 have HI0 := n0_
 have HK := n1_
 have HB := n2_
 clear n0_ n1_ n2_
 obtain ⟨ASz21_0, cSz21_0, HGz21, hgz21, HSz21_0⟩ := HI0.out
 have hcz21_0 := cellS116_0 HGz21
 have hcz21_1 := cellS116_1 HGz21
 have hcz21_2 := cellS116_2 HGz21
 have hcz21_3 := cellS116_3 HGz21
 have hfz21_1 := blk_frozen HGz21 1
 have hfz21_2 := blk_frozen HGz21 2
 have hfz21_3 := blk_frozen HGz21 3
 clear HGz21 hgz21
 replace HI0 := am_ (IsS116.drew HI0.out)
 replace HK := am_ (keep_drew HK.out)
 replace HB := am_ (below_drew1 HB.out)
 have hdfz21_1 : w20.drew.frozen? ⟨g, 1, none⟩ = false := hfz21_1
 have hdfz21_2 : w20.drew.frozen? ⟨g, 2, none⟩ = false := hfz21_2
 have hdfz21_3 : w20.drew.frozen? ⟨g, 3, none⟩ = false := hfz21_3
 have hdz21_0 : w20.drew.cell? ⟨g, 0, none⟩ = some (.slice ASz21_0 s0_0.length cSz21_0) := hcz21_0
 have hdz21_1 : w20.drew.cell? ⟨g, 1, none⟩ = some (.int .i64 (wrap64 (s0_1 + 1))) := hcz21_1
 have hdz21_2 : w20.drew.cell? ⟨g, 2, none⟩ = some (.int .u64 (Go.bits .xor .u64 (Go.bits .xor .u64 s0_2 (IntKind.u64.wrap (s0_2 * 8192))) ((Go.bits .xor .u64 s0_2 (IntKind.u64.wrap (s0_2 * 8192))) / 128))) := hcz21_2
 have hdz21_3 : w20.drew.cell? ⟨g, 3, none⟩ = some (.int .i64 s0_3) := hcz21_3
 refine start_ (n := 14) (S := fun w' => w'.cell? ⟨g, 0, none⟩ = some (.slice ASz21_0 s0_0.length cSz21_0) ∧ w'.cell? ⟨g, 1, none⟩ = some (.int .i64 (wrap64 (s0_1 + 1))) ∧ w'.cell? ⟨g, 2, none⟩ = some (.int .u64 (Go.bits .xor .u64 (Go.bits .xor .u64 s0_2 (IntKind.u64.wrap (s0_2 * 8192))) ((Go.bits .xor .u64 s0_2 (IntKind.u64.wrap (s0_2 * 8192))) / 128))) ∧ w'.cell? ⟨g, 3, none⟩ = some (.int .i64 s0_3)) (ds := [13]) (bs 14 0) (by kernel_rfl) rfl rfl ⟨hdz21_0, hdz21_1, hdz21_2, hdz21_3⟩ (fun hHeld => ?_); refine with_tabW F73.tab9 F73.bits9 (fun HT_ HW_ => ?_)
 generalize w20.drew = w22 at hdfz21_1 hdfz21_2 hdfz21_3 hdz21_0 hdz21_1 hdz21_2 hdz21_3 HI0 HK HB hHeld ⊢
 refine pu_ 0 63 (bs 14 1) HT_ ?_ rfl rfl
 refine pu_ 1 64 (bs 14 3) HT_ ?_ rfl rfl
 refine pu_ 2 65 (bs 14 7) HT_ ?_ rfl rfl
 refine pu_ 3 66 (bs 14 15) HT_ ?_ rfl rfl
 refine pu_ 5 68 (bs 14 47) HT_ ?_ rfl rfl
 refine pu_ 6 69 (bs 14 111) HT_ ?_ rfl rfl
 refine pu_ 7 70 (bs 14 239) HT_ ?_ rfl rfl
 refine tk_ 4 67 (bs 14 255) HT_ HW_ hHeld au1_16 ?_ rfl rfl
 refine tk_ 8 71 (bs 14 511) HT_ HW_ hHeld au1_16 ?_ rfl rfl
 refine pu_ 9 72 (bs 14 1023) HT_ ?_ rfl rfl
 refine pu_ 10 73 (bs 14 2047) HT_ ?_ rfl rfl
 refine pu_ 11 74 (bs 14 4095) HT_ ?_ rfl rfl
 refine pu_ 12 75 (bs 14 8191) HT_ ?_ rfl rfl
 refine last_ (i := 13) (N := none) (bs 14 16383) rfl rfl (one_of HT_.out (by kernel_rfl)) (by decide) (fun K hK => ?_)
 have hs23 : w22.cell? ⟨g, 2, none⟩ = some (.int .u64 (Go.bits .xor .u64 (Go.bits .xor .u64 s0_2 (IntKind.u64.wrap (s0_2 * 8192))) ((Go.bits .xor .u64 s0_2 (IntKind.u64.wrap (s0_2 * 8192))) / 128))) := hdz21_2
 have hfs23 := hdfz21_2
 refine skip_ (w1 := ?_) (by rfl) rfl ?_ ?_
 rotate_left
 ·go_simp
  rfl
 refine hK.out _ _ ?_
 clear hK K
 refine done_ (done_of HT_.out (by kernel_rfl)) ?_
 obtain ⟨ASz24_0, cSz24_0, HGz24, hgz24, HSz24_0⟩ := HI0.out
 have hcz24_0 := cellS116_0 HGz24
 have hcz24_1 := cellS116_1 HGz24
 have hcz24_2 := cellS116_2 HGz24
 have hcz24_3 := cellS116_3 HGz24
 have hfz24_1 := blk_frozen HGz24 1
 have hfz24_2 := blk_frozen HGz24 2
 have hfz24_3 := blk_frozen HGz24 3
 clear HGz24 hgz24
 try go_wp2
 go_ret
 exact ⟨au1_6, is1_0_, au1_5, au1_8⟩
/-! ### F72: function 72 -/
def F72.f (s0_0 : List Int) (s0_1 : Int) (s0_2 : Int) (s0_3 : Int) (a1 : Int) : Option (Bool × Int × Int × Int) := (F73.f s0_0 s0_1 s0_2 s0_3 a1).bind fun bt105 => (some ((bt105.1 == 0), bt105.2.1, bt105.2.2.1, bt105.2.2.2))
theorem F72.calls (g : Nat) (s0_0 : List Int) (s0_1 : Int) (s0_2 : Int) (s0_3 : Int) (a1 : Int) (r1 : Bool) (r2 : Int) (r3 : Int) (r4 : Int) (w0 w : World) (hI : IsS116 w0 w g s0_0 s0_1 s0_2 s0_3) (hB : Below w0.heap.size w0 w) (h : F72.f s0_0 s0_1 s0_2 s0_3 a1 = some (r1, r2, r3, r4)) :
  Calls Try.prog 72 #[.pointer (some ⟨g, 0, none⟩), .int .i64 a1] w fun e w' => e = .returned (.bool r1) ∧ IsS116 w0 w' g s0_0 r2 r3 r4 ∧ Below w0.heap.size w0 w' ∧ KeepBut w w' g none := by
 have HI0 := am_ hI
 have HK := am_ (KeepBut.refl w g none)
 have HL := am_ hB.size
 clear hI
 have HW0 := am_ hB.size
 have HB := am_ hB
 clear hB
 have H : ((F73.f s0_0 s0_1 s0_2 s0_3 a1).bind fun bt105 => (some ((bt105.1 == 0), bt105.2.1, bt105.2.2.1, bt105.2.2.2))) = some (r1, r2, r3, r4) := h
 clear h
 replace H := bi_ H; rcases H with ⟨⟨t105, t106, t107, t108⟩, A3, H⟩
 simp only [Option.some.injEq, Prod.mk.injEq] at H
 obtain ⟨rfl, rfl, rfl, rfl⟩ := H
 go_enter Try.func72, Try.ntmps72
 go_wp2_with (first | ((with_reducible refine gate_callee (f := 73) rfl ?_); refine gl_ 7 Try.func73 #[.pointer (some ⟨g, 0, none⟩), .int .i64 a1] ?_ rfl rfl rfl rfl; (with_reducible refine (F73.calls g s0_0 s0_1 s0_2 s0_3 a1 t105 t106 t107 t108 w0 _ ?s1 ?s2 A3.out).mono ?_); (case s1 => exact au1_19); (case s2 => exact au1_21); rintro e w4 ⟨rfl, hi, hb, hk⟩; refine ⟨_, rfl, ?_⟩; replace HK := am_ (KeepBut.trans au1_7 hk (.inl rfl)); replace HB := am_ (hb); replace HI0 := am_ (hi); (try clear hb); (try clear hb2); (try clear hk); (try clear hi)))
 go_ret
 exact ⟨au1_6, is1_0_, au1_5, au1_8⟩

/-! ### F74: function 74 -/
def F74.f (s0_0 : List Int) (s0_1 : Int) (s0_2 : Int) (s0_3 : Int) : Option (Int × Int × Int × Int) := (some (([0, 1, (-1), 2, 1000, 1001, 2147483648, 2147483647, (-2147483648), 4611686018427387904, 9223372036854775807, (-9223372036854775808), 1000000, 1000001] : List Int) : List Int)).bind fun y109 => ((F73.f s0_0 s0_1 s0_2 s0_3 14).bind fun bt112 => (if 0 ≤ bt112.1 then (if bt112.1 < (y109.length : Int) then (some (rd y109 bt112.1, bt112.2.1, bt112.2.2.1, bt112.2.2.2)) else (none)) else (none)))
theorem F74.calls (g : Nat) (s0_0 : List Int) (s0_1 : Int) (s0_2 : Int) (s0_3 : Int) (r1 : Int) (r2 : Int) (r3 : Int) (r4 : Int) (w0 w : World) (hI : IsS116 w0 w g s0_0 s0_1 s0_2 s0_3) (hB : Below w0.heap.size w0 w) (h : F74.f s0_0 s0_1 s0_2 s0_3 = some (r1, r2, r3, r4)) :
  Calls Try.prog 74 #[.pointer (some ⟨g, 0, none⟩)] w fun e w' => e = .returned (.int .i64 r1) ∧ IsS116 w0 w' g s0_0 r2 r3 r4 ∧ Below w0.heap.size w0 w' ∧ KeepBut w w' g none := by
 have HI0 := am_ hI
 have HK := am_ (KeepBut.refl w g none)
 have HL := am_ hB.size
 clear hI
 have HW0 := am_ hB.size
 have HB := am_ hB
 clear hB
 have H : ((some (([0, 1, (-1), 2, 1000, 1001, 2147483648, 2147483647, (-2147483648), 4611686018427387904, 9223372036854775807, (-9223372036854775808), 1000000, 1000001] : List Int) : List Int)).bind fun y109 => ((F73.f s0_0 s0_1 s0_2 s0_3 14).bind fun bt112 => (if 0 ≤ bt112.1 then (if bt112.1 < (y109.length : Int) then (some (rd y109 bt112.1, bt112.2.1, bt112.2.2.1, bt112.2.2.2)) else (none)) else (none)))) = some (r1, r2, r3, r4) := h
 clear h
 obtain ⟨y109, hy109⟩ : ∃ y_ : List Int, y_ = (([0, 1, (-1), 2, 1000, 1001, 2147483648, 2147483647, (-2147483648), 4611686018427387904, 9223372036854775807, (-9223372036854775808), 1000000, 1000001] : List Int)) := ⟨_, rfl⟩
 replace H : ((F73.f s0_0 s0_1 s0_2 s0_3 14).bind fun bt112 => (if 0 ≤ bt112.1 then (if bt112.1 < (y109.length : Int) then (some (rd y109 bt112.1, bt112.2.1, bt112.2.2.1, bt112.2.2.2)) else (none)) else (none))) = some (r1, r2, r3, r4) := by first | (rw [hy109]; exact H) | exact H
 have Ny109 := am_ hy109
 clear hy109
 replace H := bi_ H; rcases H with ⟨⟨t112, t113, t114, t115⟩, A2, H⟩
 by_cases c3 : 0 ≤ t112
 rotate_left
 ·rw [if_neg c3] at H
  exact absurd H (by simp)

 rw [if_pos c3] at H
 have c3b0 : decide (0 ≤ t112) = true := decide_eq_true c3
 clear c3
 replace H := itn_ H; rcases H with ⟨c4b0, H⟩
 simp only [Option.some.injEq, Prod.mk.injEq] at H
 obtain ⟨rfl, rfl, rfl, rfl⟩ := H
 go_enter Try.func74, Try.ntmps74
 go_wp2_with (first | ((with_reducible refine gate_dst (N := 3) rfl ?_); refine Kd.R_lit (Kd.int .i64) _ 2 ?hg (N := 3) ?hd (xs := ([0, 1, (-1), 2, 1000, 1001, 2147483648, 2147483647, (-2147483648), 4611686018427387904, 9223372036854775807, (-9223372036854775808), 1000000, 1000001] : List Int)) (inner := [.int .i64 0, .int .i64 1, .int .i64 (-1), .int .i64 2, .int .i64 1000, .int .i64 1001, .int .i64 2147483648, .int .i64 2147483647, .int .i64 (-2147483648), .int .i64 4611686018427387904, .int .i64 9223372036854775807, .int .i64 (-9223372036854775808), .int .i64 1000000, .int .i64 1000001]) (ok := fun _ => True) (okp := fun _ => True) ?hr ?hp (fun _ hk => hk) trivial (Below.refl _ _) (Nat.le_refl _) (by simp) ?_; (case hd => rfl); (case hg => rfl); (case hr => exact hr_); (case hp => exact (Reps.one (show Kd.M (Kd.int .i64) _ _ _ 0 [.int .i64 0] from rfl) (Reps.one (show Kd.M (Kd.int .i64) _ _ _ 1 [.int .i64 1] from rfl) (Reps.one (show Kd.M (Kd.int .i64) _ _ _ (-1) [.int .i64 (-1)] from rfl) (Reps.one (show Kd.M (Kd.int .i64) _ _ _ 2 [.int .i64 2] from rfl) (Reps.one (show Kd.M (Kd.int .i64) _ _ _ 1000 [.int .i64 1000] from rfl) (Reps.one (show Kd.M (Kd.int .i64) _ _ _ 1001 [.int .i64 1001] from rfl) (Reps.one (show Kd.M (Kd.int .i64) _ _ _ 2147483648 [.int .i64 2147483648] from rfl) (Reps.one (show Kd.M (Kd.int .i64) _ _ _ 2147483647 [.int .i64 2147483647] from rfl) (Reps.one (show Kd.M (Kd.int .i64) _ _ _ (-2147483648) [.int .i64 (-2147483648)] from rfl) (Reps.one (show Kd.M (Kd.int .i64) _ _ _ 4611686018427387904 [.int .i64 4611686018427387904] from rfl) (Reps.one (show Kd.M (Kd.int .i64) _ _ _ 9223372036854775807 [.int .i64 9223372036854775807] from rfl) (Reps.one (show Kd.M (Kd.int .i64) _ _ _ (-9223372036854775808) [.int .i64 (-9223372036854775808)] from rfl) (Reps.one (show Kd.M (Kd.int .i64) _ _ _ 1000000 [.int .i64 1000000] from rfl) (Reps.one (show Kd.M (Kd.int .i64) _ _ _ 1000001 [.int .i64 1000001] from rfl) (Reps.none _ _)))))))))))))))); intro v110 w5 ho6 hb hg_ hnew_; clear hg_ hnew_; (first | rw [← Ny109.out] at ho6 | (simp only [Int.reduceToNat] at ho6; rw [← Ny109.out] at ho6)); have HO111 := am_ (Kd.R_lower ho6 (keep_size (w := w) (g := g) (row := none) au1_7)); replace HK := am_ (KeepBut.trans au1_7 (KeepBut.of_below hb g none) (.inl rfl)); replace HB := am_ (below_step au1_20 hb); replace HI0 := am_ (IsS116.below is1_0_ hb); clear hb ho6) | ((with_reducible refine gate_callee (f := 73) rfl ?_); refine gl_ 5 Try.func73 #[.pointer (some ⟨g, 0, none⟩), .int .i64 14] ?_ rfl rfl rfl rfl; (with_reducible refine (F73.calls g s0_0 s0_1 s0_2 s0_3 14 t112 t113 t114 t115 w0 _ ?s1 ?s2 A2.out).mono ?_); (case s1 => exact au1_19); (case s2 => exact au1_21); rintro e w7 ⟨rfl, hi, hb, hk⟩; refine ⟨_, rfl, ?_⟩; replace HO111 := am_ (Kd.R_mono (Kd.R_keep (IsS116.apart (is1_0_ : IsS116 w0 _ g s0_0 s0_1 s0_2 s0_3) (rk_ HO111) (by decide)) hk (fun _ h => h.2)) (fun _ h => h.1)); replace HK := am_ (KeepBut.trans au1_7 hk (.inl rfl)); replace HB := am_ (hb); replace HI0 := am_ (hi); (try clear hb); (try clear hb2); (try clear hk); (try clear hi); obtain ⟨Ao8, co8, eo8⟩ := Kd.R_slice HO111.out; subst eo8; have p116 : 0 ≤ (t112 : Int) := od_; have q116 : t112 < (y109.length : Int) := od_; obtain ⟨ad116, e116, hx116_0⟩ := Kd.at_int (Kd.R_reads' HO111.out).2.2 t112 p116 q116; cases e116; replace p116 := eq_true p116; replace q116 := eq_true q116))
 go_ret
 exact ⟨au1_6, is1_0_, au1_5, au1_8⟩
/-! ### F41: function 41 -/
def F41.j0 : Nat → List Int → Int → Int → Int → Int → Int → Int → Int → Option (Int × Int × Int × Int × Int × Int × Int)
  | 0, _, _, _, _, _, _, _, _ => none
  | k + 1, x1000, x1001, x1002, x1003, x123000, x123001, x123002, x123003 => (F72.f x1000 x1001 x1002 x1003 30).bind fun bt138 => (if bt138.1 = true then ((F73.f x1000 bt138.2.1 bt138.2.2.1 bt138.2.2.2 3).bind fun bt142 => (if bt142.1 = 0 then (some (x123000, x123001, x123002, x123001, bt142.2.1, bt142.2.2.1, bt142.2.2.2)) else (if bt142.1 = 1 then ((some (([32, 127, 65, 48, 45, 300] : List Int) : List Int)).bind fun y146 => ((F73.f x1000 bt142.2.1 bt142.2.2.1 bt142.2.2.2 6).bind fun bt149 => (if 0 ≤ bt149.1 then (if bt149.1 < (y146.length : Int) then (some (x123000, x123001, rd y146 bt149.1, x123003, bt149.2.1, bt149.2.2.1, bt149.2.2.2)) else (none)) else (none)))) else ((F74.f x1000 bt142.2.1 bt142.2.2.1 bt142.2.2.2).bind fun bt154 => (some (bt154.1, x123001, x123002, x123003, bt154.2.1, bt154.2.2.1, bt154.2.2.2)))))) else (some (x123000, x123001, x123002, x123003, bt138.2.1, bt138.2.2.1, bt138.2.2.2)))
def F41.f (k : Nat) (s0_0 : List Int) (s0_1 : Int) (s0_2 : Int) (s0_3 : Int) : Option (Int × Int × Int × Int × Int × Int × Int) := (F71.f).bind fun bt118 => ((F72.f s0_0 s0_1 s0_2 s0_3 4).bind fun bt123 => (if bt123.1 = true then ((some (([33, 35, 36, 37, 38, 42, 47, 61, 64, 94, 124, 126] : List Int) : List Int)).bind fun y127 => ((F73.f s0_0 bt123.2.1 bt123.2.2.1 bt123.2.2.2 9).bind fun bt130 => (if 0 ≤ bt130.1 then (if bt130.1 < (y127.length : Int) then (if 0 ≤ (wrap64 (bt130.1 + 1)) then (if (wrap64 (bt130.1 + 1)) < (y127.length : Int) then (if 0 ≤ (wrap64 (bt130.1 + 2)) then (if (wrap64 (bt130.1 + 2)) < (y127.length : Int) then (if 0 ≤ (wrap64 (bt130.1 + 3)) then (if (wrap64 (bt130.1 + 3)) < (y127.length : Int) then (F41.j0 k s0_0 bt130.2.1 bt130.2.2.1 bt130.2.2.2 (rd y127 bt130.1) (rd y127 (wrap64 (bt130.1 + 1))) (rd y127 (wrap64 (bt130.1 + 2))) (rd y127 (wrap64 (bt130.1 + 3)))) else (none)) else (none)) else (none)) else (none)) else (none)) else (none)) else (none)) else (none)))) else (F41.j0 k s0_0 bt123.2.1 bt123.2.2.1 bt123.2.2.2 bt118.1 bt118.2.1 bt118.2.2.1 bt118.2.2.2)))
theorem F41.mono_l : ∀ k, (∀ y0 y1 y2 y3 y4 y5 y6 y7, LeO (F41.j0 k y0 y1 y2 y3 y4 y5 y6 y7) (F41.j0 (k + 1) y0 y1 y2 y3 y4 y5 y6 y7))
 | 0 => fun _ _ _ _ _ _ _ _ r h => by simp [F41.j0] at h
 | k + 1 => by
  have ih0 := F41.mono_l k
  intro y0 y1 y2 y3 y4 y5 y6 y7
  unfold F41.j0
  repeat' with_reducible first | exact ih0 _ _ _ _ _ _ _ _ | exact LeO.refl _ | exact LeO.none _ | refine LeO.ite ?_ ?_ | refine LeO.bind ?_ (fun _ => ?_)
theorem F41.mono : ∀ a0 a1 a2 a3 k, LeO (F41.f k a0 a1 a2 a3) (F41.f (k + 1) a0 a1 a2 a3) := by
 intro a0 a1 a2 a3 k
 have ih0 := F41.mono_l k
 unfold F41.f
 repeat' with_reducible first | exact ih0 _ _ _ _ _ _ _ _ | exact LeO.refl _ | exact LeO.none _ | refine LeO.ite ?_ ?_ | refine LeO.bind ?_ (fun _ => ?_)
def F41.T5 : Bool × List (List Nat × List Nat) := (true, [([], []), ([], []), ([0, 1], [0, 1]), ([2], [2]), ([], []), ([], []), ([5], [5]), ([4, 6], [4, 6]), ([7], [7]), ([], []), ([], []), ([10], [10]), ([9, 11], [9, 11]), ([12], [12]), ([], []), ([], []), ([15], [15]), ([14, 16], [14, 16]), ([17], [17]), ([3, 8, 13, 18], [3, 8, 13, 18]), ([19, 0, 1, 2, 3, 4, 5, 6, 7, 8, 9, 10, 11, 12, 13, 14, 15, 16, 17, 18, 19], [19])])
def F41.B5 : List Nat := [0, 0, 3, 7, 0, 0, 32, 112, 240, 0, 0, 1024, 3584, 7680, 0, 0, 32768, 114688, 245760, 524287, 1048575]
theorem F41.tab5 : rtab .any (opsOf Try.f41 5) = F41.T5 := by kernel_rfl
theorem F41.bits5 : waitsOk F41.T5.2 F41.B5 = true := by kernel_rfl
theorem F41.calls (k : Nat) (g : Nat) (s0_0 : List Int) (s0_1 : Int) (s0_2 : Int) (s0_3 : Int) (r1 : Int) (r2 : Int) (r3 : Int) (r4 : Int) (r5 : Int) (r6 : Int) (r7 : Int) (w0 w : World) (hI : IsS116 w0 w g s0_0 s0_1 s0_2 s0_3) (hB : Below w0.heap.size w0 w) (h : F41.f k s0_0 s0_1 s0_2 s0_3 = some (r1, r2, r3, r4, r5, r6, r7)) :
  Calls Try.prog 41 #[.pointer (some ⟨g, 0, none⟩)] w fun e w' => e = .returned (.agg #[.int .i64 r1, .int .i64 r2, .int .i64 r3, .int .i64 r4]) ∧ IsS116 w0 w' g s0_0 r5 r6 r7 ∧ Below w0.heap.size w0 w' ∧ KeepBut w w' g none := by
 have hu45 := Try.underlying45
 have HI0 := am_ hI
 have HK := am_ (KeepBut.refl w g none)
 have HL := am_ hB.size
 clear hI
 have HW0 := am_ hB.size
 have HB := am_ hB
 clear hB
 have H : ((F71.f).bind fun bt118 => ((F72.f s0_0 s0_1 s0_2 s0_3 4).bind fun bt123 => (if bt123.1 = true then ((some (([33, 35, 36, 37, 38, 42, 47, 61, 64, 94, 124, 126] : List Int) : List Int)).bind fun y127 => ((F73.f s0_0 bt123.2.1 bt123.2.2.1 bt123.2.2.2 9).bind fun bt130 => (if 0 ≤ bt130.1 then (if bt130.1 < (y127.length : Int) then (if 0 ≤ (wrap64 (bt130.1 + 1)) then (if (wrap64 (bt130.1 + 1)) < (y127.length : Int) then (if 0 ≤ (wrap64 (bt130.1 + 2)) then (if (wrap64 (bt130.1 + 2)) < (y127.length : Int) then (if 0 ≤ (wrap64 (bt130.1 + 3)) then (if (wrap64 (bt130.1 + 3)) < (y127.length : Int) then (F41.j0 k s0_0 bt130.2.1 bt130.2.2.1 bt130.2.2.2 (rd y127 bt130.1) (rd y127 (wrap64 (bt130.1 + 1))) (rd y127 (wrap64 (bt130.1 + 2))) (rd y127 (wrap64 (bt130.1 + 3)))) else (none)) else (none)) else (none)) else (none)) else (none)) else (none)) else (none)) else (none)))) else (F41.j0 k s0_0 bt123.2.1 bt123.2.2.1 bt123.2.2.2 bt118.1 bt118.2.1 bt118.2.2.1 bt118.2.2.2)))) = some (r1, r2, r3, r4, r5, r6, r7) := h
 clear h
 replace H := bi_ H; rcases H with ⟨⟨t118, t119, t120, t121⟩, A2, H⟩
 replace H := bi_ H; rcases H with ⟨⟨t123, t124, t125, t126⟩, A3, H⟩
 have HC4 := am_ H
 clear H
 go_enter Try.func41, Try.ntmps41
 go_upto_if 8 with (first | ((with_reducible refine gate_dst (N := 2) rfl ?_); refine be_ 2 #[.int .i64 0, .int .i64 0, .int .i64 0, .int .i64 0] 45 ?_; intro gb117 hg w5 hbox hb; replace HB := am_ (below_step au1_20 hb); have BK117 := am_ (hbox); have GW117 := am_ ((by rw [hg]; exact (keep_size (w := w) (g := g) (row := none) au1_7) : w.heap.size ≤ gb117)); have GE117 := am_ ((Nat.le_trans HW0.out (by rw [hg]; exact (keep_size (w := w) (g := g) (row := none) au1_7) : w.heap.size ≤ gb117) : w0.heap.size ≤ gb117)); replace HK := am_ (KeepBut.trans au1_7 (KeepBut.of_below hb g none) (.inl rfl)); have NB0_117 := am_ (gn_ hg (IsS116.lt (is1_0_ : IsS116 w0 _ g s0_0 s0_1 s0_2 s0_3))); have NB117_0 := am_ (gm_ hg (IsS116.lt (is1_0_ : IsS116 w0 _ g s0_0 s0_1 s0_2 s0_3))); replace HI0 := am_ (IsS116.below is1_0_ hb); clear hb hbox hg) | ((with_reducible refine gate_callee (f := 71) rfl ?_); refine gl_ 6 Try.func71 #[] ?_ rfl rfl rfl rfl; (with_reducible refine (F71.calls  t118 t119 t120 t121 _ A2.out).mono ?_); rintro e w6 ⟨rfl, hb⟩; refine ⟨_, rfl, ?_⟩; replace BK117 := bb_ BK117 hb; replace HK := am_ (KeepBut.trans au1_18 (KeepBut.of_below hb g none) (.inl rfl)); replace HB := am_ (below_step au1_24 hb); replace HI0 := am_ (IsS116.below is1_0_ hb); (try clear hb); (try clear hb2); (try clear hk); (try clear hi)) | ((with_reducible refine gate_dst (N := 3) rfl ?_); refine be_ 3 #[.int .i64 0, .int .i64 0, .int .i64 0, .int .i64 0] 45 ?_; intro gb122 hg w7 hbox hb; replace HB := am_ (below_step au1_24 hb); have BK122 := am_ (hbox); have GW122 := am_ ((by rw [hg]; exact (keep_size (w := w) (g := g) (row := none) au1_18) : w.heap.size ≤ gb122)); have GE122 := am_ ((Nat.le_trans HW0.out (by rw [hg]; exact (keep_size (w := w) (g := g) (row := none) au1_18) : w.heap.size ≤ gb122) : w0.heap.size ≤ gb122)); replace HK := am_ (KeepBut.trans au1_18 (KeepBut.of_below hb g none) (.inl rfl)); have NB117_122 := am_ (gn_ hg (blkl_ BK117)); have NB122_117 := am_ (gm_ hg (blkl_ BK117)); replace BK117 := bb_ BK117 hb; have NB0_122 := am_ (gn_ hg (IsS116.lt (is1_0_ : IsS116 w0 _ g s0_0 s0_1 s0_2 s0_3))); have NB122_0 := am_ (gm_ hg (IsS116.lt (is1_0_ : IsS116 w0 _ g s0_0 s0_1 s0_2 s0_3))); replace HI0 := am_ (IsS116.below is1_0_ hb); clear hb hbox hg; have hnb8 := NB122_117.out; have hnc8 := NB117_122.out; have hnb9 := NB122_0.out; have hnc9 := NB0_122.out; obtain ⟨hcz10_0, hcz10_1, hcz10_2, hcz10_3, hfz10_0, hfz10_1, hfz10_2, hfz10_3⟩ := cellsF4 BK122.out) | ((with_reducible refine gate_callee (f := 72) rfl ?_); refine gl_ 8 Try.func72 #[.pointer (some ⟨g, 0, none⟩), .int .i64 4] ?_ rfl rfl rfl rfl; (with_reducible refine (F72.calls g s0_0 s0_1 s0_2 s0_3 4 t123 t124 t125 t126 w0 _ ?s1 ?s2 A3.out).mono ?_); (case s1 => exact au1_3); (case s2 => exact au1_4); rintro e w11 ⟨rfl, hi, hb, hk⟩; refine ⟨_, rfl, ?_⟩; replace BK117 := ka_ hk BK117 NB117_0; replace BK122 := am_ (KeepBut.blk hk (g' := gb122) (o := .cells #[.int .i64 t118, .int .i64 t119, .int .i64 t120, .int .i64 t121] 45 (0, 0)) (bq_ BK122) NB122_0.out (by simp)); replace HK := am_ (KeepBut.trans au1_2 hk (.inl rfl)); replace HB := am_ (hb); replace HI0 := am_ (hi); (try clear hb); (try clear hb2); (try clear hk); (try clear hi)))
 (try simp only [Act.put, List.setIfInBounds_toArray, List.set_cons_zero, List.set_cons_succ])
 go_cut [] (fun wc => ∃ (kq : Nat) (x1001_3 : Int) (x1002_3 : Int) (x1003_3 : Int) (x123000_3 : Int) (x123001_3 : Int) (x123002_3 : Int) (x123003_3 : Int), Aside0 (F41.j0 kq s0_0 x1001_3 x1002_3 x1003_3 x123000_3 x123001_3 x123002_3 x123003_3 = some (r1, r2, r3, r4, r5, r6, r7)) ∧ Aside0 (kq ≤ k) ∧ Aside0 (wc.heap[gb117]? = some (.cells #[.int .i64 0, .int .i64 0, .int .i64 0, .int .i64 0] 45 (0, 0))) ∧ Aside0 (wc.heap[gb122]? = some (.cells #[.int .i64 x123000_3, .int .i64 x123001_3, .int .i64 x123002_3, .int .i64 x123003_3] 45 (0, 0))) ∧ Aside0 (IsS116 w0 wc g s0_0 x1001_3 x1002_3 x1003_3) ∧ Aside0 (KeepBut w wc g none) ∧ Aside0 (Below w0.heap.size w0 wc))
 case first =>
  have H := HC4.out
  clear HC4
  replace H := ib_ H; rcases H with ⟨rfl, H⟩ | ⟨rfl, H⟩
  rotate_left
  ·have H' := am_ H
   clear H
   go_wp2
   go_meet
   case rel => exact ⟨_, (t124), (t125), (t126), (t118), (t119), (t120), (t121), H', ⟨au1_28⟩, ⟨bk_ BK117⟩, ⟨bk_ BK122⟩, ⟨is1_0_⟩, ⟨au1_13⟩, ⟨au1_10⟩⟩
  obtain ⟨y127, hy127⟩ : ∃ y_ : List Int, y_ = (([33, 35, 36, 37, 38, 42, 47, 61, 64, 94, 124, 126] : List Int)) := ⟨_, rfl⟩
  replace H : ((F73.f s0_0 t124 t125 t126 9).bind fun bt130 => (if 0 ≤ bt130.1 then (if bt130.1 < (y127.length : Int) then (if 0 ≤ (wrap64 (bt130.1 + 1)) then (if (wrap64 (bt130.1 + 1)) < (y127.length : Int) then (if 0 ≤ (wrap64 (bt130.1 + 2)) then (if (wrap64 (bt130.1 + 2)) < (y127.length : Int) then (if 0 ≤ (wrap64 (bt130.1 + 3)) then (if (wrap64 (bt130.1 + 3)) < (y127.length : Int) then (F41.j0 k s0_0 bt130.2.1 bt130.2.2.1 bt130.2.2.2 (rd y127 bt130.1) (rd y127 (wrap64 (bt130.1 + 1))) (rd y127 (wrap64 (bt130.1 + 2))) (rd y127 (wrap64 (bt130.1 + 3)))) else (none)) else (none)) else (none)) else (none)) else (none)) else (none)) else (none)) else (none))) = some (r1, r2, r3, r4, r5, r6, r7) := by first | (rw [hy127]; exact H) | exact H
  have Ny127 := am_ hy127
  clear hy127
  replace H := bi_ H; rcases H with ⟨⟨t130, t131, t132, t133⟩, A13, H⟩
  replace H := itn_ H; rcases H with ⟨c14b0, H⟩
  (first | rw [c14b0] | (simp only [i64_w, i32_w]; rw [c14b0]) | skip)
  replace H := itn_ H; rcases H with ⟨c15b0, H⟩
  obtain ⟨ji16, hji16⟩ : ∃ j_ : Int, (wrap64 (t130 + 1)) = j_ := ⟨_, rfl⟩
  replace H : (if 0 ≤ (ji16) then (if (ji16) < (y127.length : Int) then (if 0 ≤ (wrap64 (t130 + 2)) then (if (wrap64 (t130 + 2)) < (y127.length : Int) then (if 0 ≤ (wrap64 (t130 + 3)) then (if (wrap64 (t130 + 3)) < (y127.length : Int) then (F41.j0 k s0_0 t131 t132 t133 (rd y127 t130) (rd y127 (ji16)) (rd y127 (wrap64 (t130 + 2))) (rd y127 (wrap64 (t130 + 3)))) else (none)) else (none)) else (none)) else (none)) else (none)) else (none)) = some (r1, r2, r3, r4, r5, r6, r7) := by first | (rw [hji16] at H; exact H) | (simp only [hji16] at H ⊢; exact H)
  (try rw [hji16] at A13)
  have hji16w : (IntKind.i64.wrap (t130 + 1)) = ji16 := (i64_w _).trans hji16
  replace H := itn_ H; rcases H with ⟨c17b0, H⟩
  replace H := itn_ H; rcases H with ⟨c18b0, H⟩
  obtain ⟨ji19, hji19⟩ : ∃ j_ : Int, (wrap64 (t130 + 2)) = j_ := ⟨_, rfl⟩
  replace H : (if 0 ≤ (ji19) then (if (ji19) < (y127.length : Int) then (if 0 ≤ (wrap64 (t130 + 3)) then (if (wrap64 (t130 + 3)) < (y127.length : Int) then (F41.j0 k s0_0 t131 t132 t133 (rd y127 t130) (rd y127 (ji16)) (rd y127 (ji19)) (rd y127 (wrap64 (t130 + 3)))) else (none)) else (none)) else (none)) else (none)) = some (r1, r2, r3, r4, r5, r6, r7) := by first | (rw [hji19] at H; exact H) | (simp only [hji19] at H ⊢; exact H)
  (try rw [hji19] at A13)
  have hji19w : (IntKind.i64.wrap (t130 + 2)) = ji19 := (i64_w _).trans hji19
  replace H := itn_ H; rcases H with ⟨c20b0, H⟩
  replace H := itn_ H; rcases H with ⟨c21b0, H⟩
  obtain ⟨ji22, hji22⟩ : ∃ j_ : Int, (wrap64 (t130 + 3)) = j_ := ⟨_, rfl⟩
  replace H : (if 0 ≤ (ji22) then (if (ji22) < (y127.length : Int) then (F41.j0 k s0_0 t131 t132 t133 (rd y127 t130) (rd y127 (ji16)) (rd y127 (ji19)) (rd y127 (ji22))) else (none)) else (none)) = some (r1, r2, r3, r4, r5, r6, r7) := by first | (rw [hji22] at H; exact H) | (simp only [hji22] at H ⊢; exact H)
  (try rw [hji22] at A13)
  have hji22w : (IntKind.i64.wrap (t130 + 3)) = ji22 := (i64_w _).trans hji22
  replace H := itn_ H; rcases H with ⟨c23b0, H⟩
  replace H := itn_ H; rcases H with ⟨c24b0, H⟩
  have H' := am_ H
  clear H
  try go_wp2_with (first | ((with_reducible refine gate_dst (N := 9) rfl ?_); refine Kd.R_lit (Kd.int .i64) _ 2 ?hg (N := 9) ?hd (xs := ([33, 35, 36, 37, 38, 42, 47, 61, 64, 94, 124, 126] : List Int)) (inner := [.int .i64 33, .int .i64 35, .int .i64 36, .int .i64 37, .int .i64 38, .int .i64 42, .int .i64 47, .int .i64 61, .int .i64 64, .int .i64 94, .int .i64 124, .int .i64 126]) (ok := fun _ => True) (okp := fun _ => True) ?hr ?hp (fun _ hk => hk) trivial (Below.refl _ _) (Nat.le_refl _) (by simp) ?_; (case hd => rfl); (case hg => rfl); (case hr => exact hr_); (case hp => exact (Reps.one (show Kd.M (Kd.int .i64) _ _ _ 33 [.int .i64 33] from rfl) (Reps.one (show Kd.M (Kd.int .i64) _ _ _ 35 [.int .i64 35] from rfl) (Reps.one (show Kd.M (Kd.int .i64) _ _ _ 36 [.int .i64 36] from rfl) (Reps.one (show Kd.M (Kd.int .i64) _ _ _ 37 [.int .i64 37] from rfl) (Reps.one (show Kd.M (Kd.int .i64) _ _ _ 38 [.int .i64 38] from rfl) (Reps.one (show Kd.M (Kd.int .i64) _ _ _ 42 [.int .i64 42] from rfl) (Reps.one (show Kd.M (Kd.int .i64) _ _ _ 47 [.int .i64 47] from rfl) (Reps.one (show Kd.M (Kd.int .i64) _ _ _ 61 [.int .i64 61] from rfl) (Reps.one (show Kd.M (Kd.int .i64) _ _ _ 64 [.int .i64 64] from rfl) (Reps.one (show Kd.M (Kd.int .i64) _ _ _ 94 [.int .i64 94] from rfl) (Reps.one (show Kd.M (Kd.int .i64) _ _ _ 124 [.int .i64 124] from rfl) (Reps.one (show Kd.M (Kd.int .i64) _ _ _ 126 [.int .i64 126] from rfl) (Reps.none _ _)))))))))))))); intro v128 w25 ho26 hb hg_ hnew_; clear hg_ hnew_; (first | rw [← Ny127.out] at ho26 | (simp only [Int.reduceToNat] at ho26; rw [← Ny127.out] at ho26)); have HO129 := am_ (Kd.R_lower ho26 (keep_size (w := w) (g := g) (row := none) au1_2)); replace BK117 := bb_ BK117 hb; replace BK122 := bb_ BK122 hb; replace HK := am_ (KeepBut.trans au1_2 (KeepBut.of_below hb g none) (.inl rfl)); replace HB := am_ (below_step au1_22 hb); replace HI0 := am_ (IsS116.below is1_0_ hb); clear hb ho26) | ((with_reducible refine gate_callee (f := 73) rfl ?_); refine gl_ 11 Try.func73 #[.pointer (some ⟨g, 0, none⟩), .int .i64 9] ?_ rfl rfl rfl rfl; (with_reducible refine (F73.calls g s0_0 t124 t125 t126 9 t130 t131 t132 t133 w0 _ ?s1 ?s2 A13.out).mono ?_); (case s1 => exact au1_3); (case s2 => exact au1_4); rintro e w27 ⟨rfl, hi, hb, hk⟩; refine ⟨_, rfl, ?_⟩; replace BK117 := ka_ hk BK117 NB117_0; replace BK122 := ka_ hk BK122 NB122_0; replace HO129 := am_ (Kd.R_mono (Kd.R_keep (IsS116.apart (is1_0_ : IsS116 w0 _ g s0_0 t124 t125 t126) (rk_ HO129) (by decide)) hk (fun _ h => h.2)) (fun _ h => h.1)); replace HK := am_ (KeepBut.trans au1_2 hk (.inl rfl)); replace HB := am_ (hb); replace HI0 := am_ (hi); (try clear hb); (try clear hb2); (try clear hk); (try clear hi)))
  replace HO129 := am_ (Kd.R_drew HO129.out)
  replace BK117 := bd_ BK117
  replace BK122 := bd_ BK122
  replace HI0 := am_ (IsS116.drew HI0.out)
  replace HK := am_ (keep_drew HK.out)
  replace HB := am_ (below_drew1 HB.out)
  obtain ⟨Ao29, co29, eo29⟩ := Kd.R_slice HO129.out
  (first | subst eo29 | (injection eo29 with f1_ f2_ f3_; have f4_ := f1_.symm; have f5_ := f3_.symm; clear f1_ f2_ f3_; subst f4_; subst f5_))
  have p134 : 0 ≤ (t130 : Int) := od_
  have q134 : t130 < (y127.length : Int) := od_
  obtain ⟨ad134, e134, hx134_0⟩ := Kd.at_int (Kd.R_reads' HO129.out).2.2 t130 p134 q134
  cases e134
  replace p134 := eq_true p134
  replace q134 := eq_true q134
  have p135 : 0 ≤ ((ji16) : Int) := od_
  have q135 : (ji16) < (y127.length : Int) := od_
  obtain ⟨ad135, e135, hx135_0⟩ := Kd.at_int (Kd.R_reads' HO129.out).2.2 (ji16) p135 q135
  obtain rfl : ad134 = ad135 := (by injection e135)
  replace p135 := eq_true p135
  replace q135 := eq_true q135
  have p136 : 0 ≤ ((ji19) : Int) := od_
  have q136 : (ji19) < (y127.length : Int) := od_
  obtain ⟨ad136, e136, hx136_0⟩ := Kd.at_int (Kd.R_reads' HO129.out).2.2 (ji19) p136 q136
  obtain rfl : ad134 = ad136 := (by injection e136)
  replace p136 := eq_true p136
  replace q136 := eq_true q136
  have p137 : 0 ≤ ((ji22) : Int) := od_
  have q137 : (ji22) < (y127.length : Int) := od_
  obtain ⟨ad137, e137, hx137_0⟩ := Kd.at_int (Kd.R_reads' HO129.out).2.2 (ji22) p137 q137
  obtain rfl : ad134 = ad137 := (by injection e137)
  replace p137 := eq_true p137
  replace q137 := eq_true q137
  refine start_ (n := 21) (S := fun w' => w'.cell? (ad134.add (t130).toNat) = some (.int .i64 (rd y127 t130)) ∧ w'.cell? (ad134.add ((ji16)).toNat) = some (.int .i64 (rd y127 (ji16))) ∧ w'.cell? (ad134.add ((ji19)).toNat) = some (.int .i64 (rd y127 (ji19))) ∧ w'.cell? (ad134.add ((ji22)).toNat) = some (.int .i64 (rd y127 (ji22)))) (ds := []) (bs 21 0) (by kernel_rfl) rfl rfl ⟨hx134_0, hx135_0, hx136_0, hx137_0⟩ (fun hHeld => ?_); refine with_tabW F41.tab5 F41.bits5 (fun HT_ HW_ => ?_)
  generalize w27.drew = w28 at HO129 BK117 BK122 HI0 HK HB hx134_0 hx135_0 hx136_0 hx137_0 hHeld ⊢
  refine pu_ 0 12 (bs 21 1) HT_ ?_ rfl rfl
  refine pu_ 1 13 (bs 21 3) HT_ ?_ rfl rfl
  refine pu_ 2 14 (bs 21 7) HT_ ?_ rfl rfl
  refine pu_ 4 16 (bs 21 23) HT_ ?_ rfl rfl
  refine pu_ 5 17 (bs 21 55) HT_ ?_ rfl rfl
  refine pu_ 6 18 (bs 21 119) HT_ ?_ rfl rfl
  refine pu_ 7 19 (bs 21 247) HT_ ?_ rfl rfl
  refine pu_ 9 21 (bs 21 759) HT_ ?_ rfl rfl
  refine pu_ 10 22 (bs 21 1783) HT_ ?_ rfl rfl
  refine pu_ 11 23 (bs 21 3831) HT_ ?_ rfl rfl
  refine pu_ 12 24 (bs 21 7927) HT_ ?_ rfl rfl
  refine pu_ 14 26 (bs 21 24311) HT_ ?_ rfl rfl
  refine pu_ 15 27 (bs 21 57079) HT_ ?_ rfl rfl
  refine pu_ 16 28 (bs 21 122615) HT_ ?_ rfl rfl
  refine pu_ 17 29 (bs 21 253687) HT_ ?_ rfl rfl
  refine tk_ 3 15 (bs 21 253695) HT_ HW_ hHeld au1_16 ?_ rfl rfl
  refine tk_ 8 20 (bs 21 253951) HT_ HW_ hHeld au1_16 ?_ rfl rfl
  refine tk_ 13 25 (bs 21 262143) HT_ HW_ hHeld au1_16 ?_ rfl rfl
  refine tk_ 18 30 (bs 21 524287) HT_ HW_ hHeld au1_16 ?_ rfl rfl
  refine pu_ 19 31 (bs 21 1048575) HT_ ?_ rfl rfl
  refine one_ (i := 20) (N := none) (bs 21 2097151) rfl rfl (one_of HT_.out (by kernel_rfl)) (by decide) (fun K hK => ?_)
  have hs30 : w28.cell? ⟨gb122, 0, none⟩ = some (.int .i64 t118) := (blk_cell BK122.out 0).trans rfl
  have hfs30 := blk_frozen BK122.out 0
  have hns30_0 := NB117_122.out
  have hms30_0 := NB122_117.out
  have hs31 : w28.cell? ⟨gb122, 1, none⟩ = some (.int .i64 t119) := (blk_cell BK122.out 1).trans rfl
  have hfs31 := blk_frozen BK122.out 1
  have hns31_0 := NB117_122.out
  have hms31_0 := NB122_117.out
  have hs32 : w28.cell? ⟨gb122, 2, none⟩ = some (.int .i64 t120) := (blk_cell BK122.out 2).trans rfl
  have hfs32 := blk_frozen BK122.out 2
  have hns32_0 := NB117_122.out
  have hms32_0 := NB122_117.out
  have hs33 : w28.cell? ⟨gb122, 3, none⟩ = some (.int .i64 t121) := (blk_cell BK122.out 3).trans rfl
  have hfs33 := blk_frozen BK122.out 3
  have hns33_0 := NB117_122.out
  have hms33_0 := NB122_117.out
  refine skip_ (w1 := ?_) (by rfl) rfl ?_ ?_
  rotate_left
  ·go_simp
   rfl
  refine hK.out _ _ ⟨((cell_far (p := ⟨gb122, _, none⟩) au1_0 _).trans (((cell_far (p := ⟨gb122, _, none⟩) au1_0 _).trans (((cell_far (p := ⟨gb122, _, none⟩) au1_0 _).trans (((cell_far (p := ⟨gb122, _, none⟩) au1_0 _).trans (hHeld.1)))))))), ((cell_far (p := ⟨gb122, _, none⟩) au1_0 _).trans (((cell_far (p := ⟨gb122, _, none⟩) au1_0 _).trans (((cell_far (p := ⟨gb122, _, none⟩) au1_0 _).trans (((cell_far (p := ⟨gb122, _, none⟩) au1_0 _).trans (hHeld.2.1)))))))), ((cell_far (p := ⟨gb122, _, none⟩) au1_0 _).trans (((cell_far (p := ⟨gb122, _, none⟩) au1_0 _).trans (((cell_far (p := ⟨gb122, _, none⟩) au1_0 _).trans (((cell_far (p := ⟨gb122, _, none⟩) au1_0 _).trans (hHeld.2.2.1)))))))), ((cell_far (p := ⟨gb122, _, none⟩) au1_0 _).trans (((cell_far (p := ⟨gb122, _, none⟩) au1_0 _).trans (((cell_far (p := ⟨gb122, _, none⟩) au1_0 _).trans (((cell_far (p := ⟨gb122, _, none⟩) au1_0 _).trans (hHeld.2.2.2))))))))⟩ (fun hHeld => ?_)
  clear hK K
  refine done_ (done_of HT_.out (by kernel_rfl)) ?_
  try go_wp2
  go_meet
  case rel => exact ⟨_, (t131), (t132), (t133), (rd y127 t130), (rd y127 (ji16)), (rd y127 (ji19)), (rd y127 (ji22)), H', ⟨au1_28⟩, ⟨bf_ BK117⟩, ⟨bq_ BK122⟩, ⟨is1_0_⟩, ⟨au1_13⟩, ⟨au1_10⟩⟩
 case rest =>
  clear HC4
  try clear c14b0
  try clear c15b0
  try clear c17b0
  try clear c18b0
  try clear c20b0
  try clear c21b0
  try clear c23b0
  try clear c24b0
  try clear hcz10_0 hcz10_1 hcz10_2 hcz10_3
  try clear hfz10_0 hfz10_1 hfz10_2 hfz10_3
  try clear hx134_0
  try clear hx135_0
  try clear hx136_0
  try clear hx137_0
  try clear p134
  try clear p135
  try clear p136
  try clear p137
  try clear q134
  try clear q135
  try clear q136
  try clear q137
  obtain ⟨kq, x1001_3, x1002_3, x1003_3, x123000_3, x123001_3, x123002_3, x123003_3, HA, HJ3, BK117, BK122, HI0, HK, HB⟩ := hcut
  cases kq with
  | zero => exact absurd HA.out (by simp [F41.j0])
  | succ kj3 =>
   have H := HA.out
   clear HA
   simp only [F41.j0] at H
   replace H := bi_ H; rcases H with ⟨⟨t138, t139, t140, t141⟩, A34, H⟩
   replace H := ib_ H; rcases H with ⟨rfl, H⟩ | ⟨rfl, H⟩
   rotate_left
   ·simp only [Option.some.injEq, Prod.mk.injEq] at H
    obtain ⟨rfl, rfl, rfl, rfl, rfl, rfl, rfl⟩ := H
    go_wp2_with (first | ((with_reducible refine gate_callee (f := 72) rfl ?_); refine gl_ 33 Try.func72 #[.pointer (some ⟨g, 0, none⟩), .int .i64 30] ?_ rfl rfl rfl rfl; (with_reducible refine (F72.calls g s0_0 x1001_3 x1002_3 x1003_3 30 false t139 t140 t141 w0 _ ?s1 ?s2 A34.out).mono ?_); (case s1 => exact au1_3); (case s2 => exact au1_4); rintro e w69 ⟨rfl, hi, hb, hk⟩; refine ⟨_, rfl, ?_⟩; replace BK117 := ka_ hk BK117 NB117_0; replace BK122 := ka_ hk BK122 NB122_0; replace HK := am_ (KeepBut.trans au1_2 hk (.inl rfl)); replace HB := am_ (hb); replace HI0 := am_ (hi); (try clear hb); (try clear hb2); (try clear hk); (try clear hi); have hnb70 := NB122_117.out; have hnc70 := NB117_122.out; have hnb71 := NB122_0.out; have hnc71 := NB0_122.out; obtain ⟨hcz72_0, hcz72_1, hcz72_2, hcz72_3, hfz72_0, hfz72_1, hfz72_2, hfz72_3⟩ := cellsF4 BK122.out; have hnb73 := NB117_0.out; have hnc73 := NB0_117.out; obtain ⟨hcz74_0, hcz74_1, hcz74_2, hcz74_3, hfz74_0, hfz74_1, hfz74_2, hfz74_3⟩ := cellsF4 BK117.out))
    refine bodyPost_ret (results_cell_row rfl _ _ gb117 45 #[.int .i64 x123000_3, .int .i64 x123001_3, .int .i64 x123002_3, .int .i64 x123003_3] (0, 0) _ rfl (bq_ BK117) Try.underlying45 rfl (by kernel_rfl)) rfl ?_
    exact ⟨au1_6, is1_0_, au1_10, au1_13⟩

   replace H := bi_ H; rcases H with ⟨⟨t142, t143, t144, t145⟩, A36, H⟩
   by_cases c37 : t142 = 0
   ·rw [if_pos c37] at H
    have c37b0 : (t142 == 0) = true := beq_iff_eq.mpr c37
    have c37b1 : (t142 != 0) = false := bne_eq_false_iff_eq.mpr c37
    clear c37
    simp only [Option.some.injEq, Prod.mk.injEq] at H
    obtain ⟨rfl, rfl, rfl, rfl, rfl, rfl, rfl⟩ := H
    go_wp2_with (first | ((with_reducible refine gate_callee (f := 72) rfl ?_); refine gl_ 33 Try.func72 #[.pointer (some ⟨g, 0, none⟩), .int .i64 30] ?_ rfl rfl rfl rfl; (with_reducible refine (F72.calls g s0_0 x1001_3 x1002_3 x1003_3 30 true t139 t140 t141 w0 _ ?s1 ?s2 A34.out).mono ?_); (case s1 => exact au1_3); (case s2 => exact au1_4); rintro e w38 ⟨rfl, hi, hb, hk⟩; refine ⟨_, rfl, ?_⟩; replace BK117 := ka_ hk BK117 NB117_0; replace BK122 := ka_ hk BK122 NB122_0; replace HK := am_ (KeepBut.trans au1_2 hk (.inl rfl)); replace HB := am_ (hb); replace HI0 := am_ (hi); (try clear hb); (try clear hb2); (try clear hk); (try clear hi)) | ((with_reducible refine gate_callee (f := 73) rfl ?_); refine gl_ 35 Try.func73 #[.pointer (some ⟨g, 0, none⟩), .int .i64 3] ?_ rfl rfl rfl rfl; (with_reducible refine (F73.calls g s0_0 t139 t140 t141 3 t142 t143 t144 t145 w0 _ ?s1 ?s2 A36.out).mono ?_); (case s1 => exact au1_3); (case s2 => exact au1_4); rintro e w39 ⟨rfl, hi, hb, hk⟩; refine ⟨_, rfl, ?_⟩; replace BK117 := ka_ hk BK117 NB117_0; replace BK122 := ka_ hk BK122 NB122_0; replace HK := am_ (KeepBut.trans au1_2 hk (.inl rfl)); replace HB := am_ (hb); replace HI0 := am_ (hi); (try clear hb); (try clear hb2); (try clear hk); (try clear hi); have hnb40 := NB122_117.out; have hnc40 := NB117_122.out; have hnb41 := NB122_0.out; have hnc41 := NB0_122.out; obtain ⟨hcz42_0, hcz42_1, hcz42_2, hcz42_3, hfz42_0, hfz42_1, hfz42_2, hfz42_3⟩ := cellsF4 BK122.out; have hnb43 := NB117_0.out; have hnc43 := NB0_117.out; obtain ⟨hcz44_0, hcz44_1, hcz44_2, hcz44_3, hfz44_0, hfz44_1, hfz44_2, hfz44_3⟩ := cellsF4 BK117.out))
    refine bodyPost_ret (results_cell_row rfl _ _ gb117 45 #[.int .i64 x123000_3, .int .i64 x123001_3, .int .i64 x123002_3, .int .i64 x123001_3] (0, 0) _ rfl (bq_ BK117) Try.underlying45 rfl (by kernel_rfl)) rfl ?_
    exact ⟨au1_6, is1_0_, au1_10, au1_13⟩
   rw [if_neg c37] at H
   have c37b0 : (t142 == 0) = false := beq_eq_false_iff_ne.mpr c37
   have c37b1 : (t142 != 0) = true := bne_iff_ne.mpr c37
   by_cases c45 : t142 = 1
   rotate_left
   ·rw [if_neg c45] at H
    have c45b0 : (t142 == 1) = false := beq_eq_false_iff_ne.mpr c45
    have c45b1 : (t142 != 1) = true := bne_iff_ne.mpr c45
    replace H := bi_ H; rcases H with ⟨⟨t154, t155, t156, t157⟩, A60, H⟩
    simp only [Option.some.injEq, Prod.mk.injEq] at H
    obtain ⟨rfl, rfl, rfl, rfl, rfl, rfl, rfl⟩ := H
    go_wp2_with (first | ((with_reducible refine gate_callee (f := 72) rfl ?_); refine gl_ 33 Try.func72 #[.pointer (some ⟨g, 0, none⟩), .int .i64 30] ?_ rfl rfl rfl rfl; (with_reducible refine (F72.calls g s0_0 x1001_3 x1002_3 x1003_3 30 true t139 t140 t141 w0 _ ?s1 ?s2 A34.out).mono ?_); (case s1 => exact au1_3); (case s2 => exact au1_4); rintro e w61 ⟨rfl, hi, hb, hk⟩; refine ⟨_, rfl, ?_⟩; replace BK117 := ka_ hk BK117 NB117_0; replace BK122 := ka_ hk BK122 NB122_0; replace HK := am_ (KeepBut.trans au1_2 hk (.inl rfl)); replace HB := am_ (hb); replace HI0 := am_ (hi); (try clear hb); (try clear hb2); (try clear hk); (try clear hi)) | ((with_reducible refine gate_callee (f := 73) rfl ?_); refine gl_ 35 Try.func73 #[.pointer (some ⟨g, 0, none⟩), .int .i64 3] ?_ rfl rfl rfl rfl; (with_reducible refine (F73.calls g s0_0 t139 t140 t141 3 t142 t143 t144 t145 w0 _ ?s1 ?s2 A36.out).mono ?_); (case s1 => exact au1_3); (case s2 => exact au1_4); rintro e w62 ⟨rfl, hi, hb, hk⟩; refine ⟨_, rfl, ?_⟩; replace BK117 := ka_ hk BK117 NB117_0; replace BK122 := ka_ hk BK122 NB122_0; replace HK := am_ (KeepBut.trans au1_2 hk (.inl rfl)); replace HB := am_ (hb); replace HI0 := am_ (hi); (try clear hb); (try clear hb2); (try clear hk); (try clear hi)) | ((with_reducible refine gate_callee (f := 74) rfl ?_); refine gl_ 37 Try.func74 #[.pointer (some ⟨g, 0, none⟩)] ?_ rfl rfl rfl rfl; (with_reducible refine (F74.calls g s0_0 t143 t144 t145 t154 t155 t156 t157 w0 _ ?s1 ?s2 A60.out).mono ?_); (case s1 => exact au1_3); (case s2 => exact au1_4); rintro e w63 ⟨rfl, hi, hb, hk⟩; refine ⟨_, rfl, ?_⟩; replace BK117 := ka_ hk BK117 NB117_0; replace BK122 := ka_ hk BK122 NB122_0; replace HK := am_ (KeepBut.trans au1_2 hk (.inl rfl)); replace HB := am_ (hb); replace HI0 := am_ (hi); (try clear hb); (try clear hb2); (try clear hk); (try clear hi); have hnb64 := NB122_117.out; have hnc64 := NB117_122.out; have hnb65 := NB122_0.out; have hnc65 := NB0_122.out; obtain ⟨hcz66_0, hcz66_1, hcz66_2, hcz66_3, hfz66_0, hfz66_1, hfz66_2, hfz66_3⟩ := cellsF4 BK122.out; have hnb67 := NB117_0.out; have hnc67 := NB0_117.out; obtain ⟨hcz68_0, hcz68_1, hcz68_2, hcz68_3, hfz68_0, hfz68_1, hfz68_2, hfz68_3⟩ := cellsF4 BK117.out))
    refine bodyPost_ret (results_cell_row rfl _ _ gb117 45 #[.int .i64 t154, .int .i64 x123001_3, .int .i64 x123002_3, .int .i64 x123003_3] (0, 0) _ rfl (bq_ BK117) Try.underlying45 rfl (by kernel_rfl)) rfl ?_
    exact ⟨au1_6, is1_0_, au1_10, au1_13⟩
   rw [if_pos c45] at H
   have c45b0 : (t142 == 1) = true := beq_iff_eq.mpr c45
   have c45b1 : (t142 != 1) = false := bne_eq_false_iff_eq.mpr c45
   clear c45
   obtain ⟨y146, hy146⟩ : ∃ y_ : List Int, y_ = (([32, 127, 65, 48, 45, 300] : List Int)) := ⟨_, rfl⟩
   replace H : ((F73.f s0_0 t143 t144 t145 6).bind fun bt149 => (if 0 ≤ bt149.1 then (if bt149.1 < (y146.length : Int) then (some (x123000_3, x123001_3, rd y146 bt149.1, x123003_3, bt149.2.1, bt149.2.2.1, bt149.2.2.2)) else (none)) else (none))) = some (r1, r2, r3, r4, r5, r6, r7) := by first | (rw [hy146]; exact H) | exact H
   have Ny146 := am_ hy146
   clear hy146
   replace H := bi_ H; rcases H with ⟨⟨t149, t150, t151, t152⟩, A46, H⟩
   replace H := itn_ H; rcases H with ⟨c47b0, H⟩
   replace H := itn_ H; rcases H with ⟨c48b0, H⟩
   simp only [Option.some.injEq, Prod.mk.injEq] at H
   obtain ⟨rfl, rfl, rfl, rfl, rfl, rfl, rfl⟩ := H
   go_wp2_with (first | ((with_reducible refine gate_callee (f := 72) rfl ?_); refine gl_ 33 Try.func72 #[.pointer (some ⟨g, 0, none⟩), .int .i64 30] ?_ rfl rfl rfl rfl; (with_reducible refine (F72.calls g s0_0 x1001_3 x1002_3 x1003_3 30 true t139 t140 t141 w0 _ ?s1 ?s2 A34.out).mono ?_); (case s1 => exact au1_3); (case s2 => exact au1_4); rintro e w49 ⟨rfl, hi, hb, hk⟩; refine ⟨_, rfl, ?_⟩; replace BK117 := ka_ hk BK117 NB117_0; replace BK122 := ka_ hk BK122 NB122_0; replace HK := am_ (KeepBut.trans au1_2 hk (.inl rfl)); replace HB := am_ (hb); replace HI0 := am_ (hi); (try clear hb); (try clear hb2); (try clear hk); (try clear hi)) | ((with_reducible refine gate_callee (f := 73) rfl ?_); refine gl_ 35 Try.func73 #[.pointer (some ⟨g, 0, none⟩), .int .i64 3] ?_ rfl rfl rfl rfl; (with_reducible refine (F73.calls g s0_0 t139 t140 t141 3 t142 t143 t144 t145 w0 _ ?s1 ?s2 A36.out).mono ?_); (case s1 => exact au1_3); (case s2 => exact au1_4); rintro e w50 ⟨rfl, hi, hb, hk⟩; refine ⟨_, rfl, ?_⟩; replace BK117 := ka_ hk BK117 NB117_0; replace BK122 := ka_ hk BK122 NB122_0; replace HK := am_ (KeepBut.trans au1_2 hk (.inl rfl)); replace HB := am_ (hb); replace HI0 := am_ (hi); (try clear hb); (try clear hb2); (try clear hk); (try clear hi)) | ((with_reducible refine gate_dst (N := 46) rfl ?_); refine Kd.R_lit (Kd.int .i64) _ 2 ?hg (N := 46) ?hd (xs := ([32, 127, 65, 48, 45, 300] : List Int)) (inner := [.int .i64 32, .int .i64 127, .int .i64 65, .int .i64 48, .int .i64 45, .int .i64 300]) (ok := fun _ => True) (okp := fun _ => True) ?hr ?hp (fun _ hk => hk) trivial (Below.refl _ _) (Nat.le_refl _) (by simp) ?_; (case hd => rfl); (case hg => rfl); (case hr => exact hr_); (case hp => exact (Reps.one (show Kd.M (Kd.int .i64) _ _ _ 32 [.int .i64 32] from rfl) (Reps.one (show Kd.M (Kd.int .i64) _ _ _ 127 [.int .i64 127] from rfl) (Reps.one (show Kd.M (Kd.int .i64) _ _ _ 65 [.int .i64 65] from rfl) (Reps.one (show Kd.M (Kd.int .i64) _ _ _ 48 [.int .i64 48] from rfl) (Reps.one (show Kd.M (Kd.int .i64) _ _ _ 45 [.int .i64 45] from rfl) (Reps.one (show Kd.M (Kd.int .i64) _ _ _ 300 [.int .i64 300] from rfl) (Reps.none _ _)))))))); intro v147 w51 ho52 hb hg_ hnew_; clear hg_ hnew_; (first | rw [← Ny146.out] at ho52 | (simp only [Int.reduceToNat] at ho52; rw [← Ny146.out] at ho52)); have HO148 := am_ (Kd.R_lower ho52 (keep_size (w := w) (g := g) (row := none) au1_2)); replace BK117 := bb_ BK117 hb; replace BK122 := bb_ BK122 hb; replace HK := am_ (KeepBut.trans au1_2 (KeepBut.of_below hb g none) (.inl rfl)); replace HB := am_ (below_step au1_22 hb); replace HI0 := am_ (IsS116.below is1_0_ hb); clear hb ho52) | ((with_reducible refine gate_callee (f := 73) rfl ?_); refine gl_ 48 Try.func73 #[.pointer (some ⟨g, 0, none⟩), .int .i64 6] ?_ rfl rfl rfl rfl; (with_reducible refine (F73.calls g s0_0 t143 t144 t145 6 t149 t150 t151 t152 w0 _ ?s1 ?s2 A46.out).mono ?_); (case s1 => exact au1_3); (case s2 => exact au1_4); rintro e w53 ⟨rfl, hi, hb, hk⟩; refine ⟨_, rfl, ?_⟩; replace BK117 := ka_ hk BK117 NB117_0; replace BK122 := ka_ hk BK122 NB122_0; replace HO148 := am_ (Kd.R_mono (Kd.R_keep (IsS116.apart (is1_0_ : IsS116 w0 _ g s0_0 t143 t144 t145) (rk_ HO148) (by decide)) hk (fun _ h => h.2)) (fun _ h => h.1)); replace HK := am_ (KeepBut.trans au1_2 hk (.inl rfl)); replace HB := am_ (hb); replace HI0 := am_ (hi); (try clear hb); (try clear hb2); (try clear hk); (try clear hi); obtain ⟨Ao54, co54, eo54⟩ := Kd.R_slice HO148.out; subst eo54; have p153 : 0 ≤ (t149 : Int) := od_; have q153 : t149 < (y146.length : Int) := od_; obtain ⟨ad153, e153, hx153_0⟩ := Kd.at_int (Kd.R_reads' HO148.out).2.2 t149 p153 q153; cases e153; replace p153 := eq_true p153; replace q153 := eq_true q153; have hnb55 := NB122_117.out; have hnc55 := NB117_122.out; have hnb56 := NB122_0.out; have hnc56 := NB0_122.out; obtain ⟨hcz57_0, hcz57_1, hcz57_2, hcz57_3, hfz57_0, hfz57_1, hfz57_2, hfz57_3⟩ := cellsF4 BK122.out; have hnb58 := NB117_0.out; have hnc58 := NB0_117.out; obtain ⟨hcz59_0, hcz59_1, hcz59_2, hcz59_3, hfz59_0, hfz59_1, hfz59_2, hfz59_3⟩ := cellsF4 BK117.out))
   refine bodyPost_ret (results_cell_row rfl _ _ gb117 45 #[.int .i64 x123000_3, .int .i64 x123001_3, .int .i64 (rd y146 t149), .int .i64 x123003_3] (0, 0) _ rfl (bq_ BK117) Try.underlying45 rfl (by kernel_rfl)) rfl ?_
   exact ⟨au1_6, is1_0_, au1_10, au1_13⟩
/-! ### F77: function 77 -/
def F77.l0 : Nat → ByteArray → Int → Option (Bool)
  | 0, _, _ => none
  | k + 1, x0, x3 => if x3 < 3 then (if 0 ≤ x3 then (if x3 < (x0.size : Int) then (if (bt x0 x3) < 65 then (some false) else (if (bt x0 x3) > 90 then (some false) else (F77.l0 k x0 (wrap64 (x3 + 1))))) else (none)) else (none)) else (some true)
def F77.f (k : Nat) (a0 : ByteArray) : Option (Bool) := if (a0.size : Int) = 3 then (F77.l0 k a0 0) else (some false)
theorem F77.mono_l : ∀ k, (∀ y0 y1, LeO (F77.l0 k y0 y1) (F77.l0 (k + 1) y0 y1))
 | 0 => fun _ _ r h => by simp [F77.l0] at h
 | k + 1 => by
  have ih0 := F77.mono_l k
  intro y0 y1
  unfold F77.l0
  repeat' with_reducible first | exact ih0 _ _ | exact LeO.refl _ | exact LeO.none _ | refine LeO.ite ?_ ?_ | refine LeO.bind ?_ (fun _ => ?_)
theorem F77.mono : ∀ a0 k, LeO (F77.f k a0) (F77.f (k + 1) a0) := by
 intro a0 k
 have ih0 := F77.mono_l k
 unfold F77.f
 repeat' with_reducible first | exact ih0 _ _ | exact LeO.refl _ | exact LeO.none _ | refine LeO.ite ?_ ?_ | refine LeO.bind ?_ (fun _ => ?_)
theorem F77.calls (k : Nat) (a0 : ByteArray) (r : Bool) (w : World) (h : F77.f k a0 = some r) :
  Calls Try.prog 77 #[.string a0] w fun e w' => e = .returned (.bool r) ∧ Drawn0 w w' := by
 have H : (if (a0.size : Int) = 3 then (F77.l0 k a0 0) else (some false)) = some r := h
 clear h
 by_cases c2 : (a0.size : Int) = 3
 rotate_left
 ·rw [if_neg c2] at H
  have c2b0 : ((a0.size : Int) == 3) = false := beq_eq_false_iff_ne.mpr c2
  have c2b1 : ((a0.size : Int) != 3) = true := bne_iff_ne.mpr c2
  obtain rfl := Option.some.inj H
  go_enter Try.func77, Try.ntmps77
  go_wp2
  go_ret
  exact ⟨er_, dn_⟩

 rw [if_pos c2] at H
 have c2b0 : ((a0.size : Int) == 3) = true := beq_iff_eq.mpr c2
 have c2b1 : ((a0.size : Int) != 3) = false := bne_eq_false_iff_eq.mpr c2
 clear c2
 have H' := am_ H
 clear H
 go_enter Try.func77, Try.ntmps77
 go_wp2
 go_loopg [3] k (fun kq v3 w' => ∃ (x3_1 : Int), v3 = .int .i64 x3_1 ∧ Aside0 (F77.l0 kq a0 x3_1 = some r) ∧ Aside0 (kq ≤ k) ∧ Drawn0 w w')
 case atStart => exact ⟨(0), er_, H', ⟨Nat.le_refl _⟩, dn_⟩
 case round =>
  clear H'
  try clear c2
  try clear c2b0
  try clear c2b1
  obtain ⟨x3_1, rfl, HA, HK1, ⟨m1, rfl⟩⟩ := hrel
  cases gk with
  | zero => exact absurd HA.out (by simp [F77.l0])
  | succ k1 =>
   have H := HA.out
   clear HA
   simp only [F77.l0] at H
   replace H := it_ H; rcases H with ⟨c3b0, H⟩ | ⟨c3b0, H⟩
   rotate_left
   ·obtain rfl := Option.some.inj H
    go_wp2
    go_ret
    exact ⟨er_, dn_⟩
   replace H := itn_ H; rcases H with ⟨c4b0, H⟩
   replace H := itn_ H; rcases H with ⟨c5b0, H⟩
   replace H := it_ H; rcases H with ⟨c7b0, H⟩ | ⟨c7b0, H⟩
   ·obtain rfl := Option.some.inj H
    have p6 : 0 ≤ (x3_1 : Int) := od_
    have q6 : x3_1 < (a0.size : Int) := od_
    have hx6 := bt_at a0 x3_1
    replace p6 := eq_true p6
    replace q6 := eq_true q6
    go_wp2
    go_ret
    exact ⟨er_, dn_⟩
   replace H := it_ H; rcases H with ⟨(c9b0 : decide (90 < (bt a0 x3_1)) = true), H⟩ | ⟨(c9b0 : decide (90 < (bt a0 x3_1)) = false), H⟩
   ·obtain rfl := Option.some.inj H
    have p6 : 0 ≤ (x3_1 : Int) := od_
    have q6 : x3_1 < (a0.size : Int) := od_
    have hx6 := bt_at a0 x3_1
    replace p6 := eq_true p6
    replace q6 := eq_true q6
    have p8 : 0 ≤ (x3_1 : Int) := od_
    have q8 : x3_1 < (a0.size : Int) := od_
    have hx8 := bt_at a0 x3_1
    replace p8 := eq_true p8
    replace q8 := eq_true q8
    go_wp2
    go_ret
    exact ⟨er_, dn_⟩
   have H' := am_ H
   clear H
   have p6 : 0 ≤ (x3_1 : Int) := od_
   have q6 : x3_1 < (a0.size : Int) := od_
   have hx6 := bt_at a0 x3_1
   replace p6 := eq_true p6
   replace q6 := eq_true q6
   have p8 : 0 ≤ (x3_1 : Int) := od_
   have q8 : x3_1 < (a0.size : Int) := od_
   have hx8 := bt_at a0 x3_1
   replace p8 := eq_true p8
   replace q8 := eq_true q8
   go_wp2
   go_roundg k1
   case measure => have := HK1.out; omega
   case rel => exact ⟨(wrap64 (x3_1 + 1)), er_, H', ⟨by have := HK1.out; omega⟩, dn_⟩
/-! ### F78: function 78 -/
def F78.l0 : Nat → ByteArray → Int → Option (Bool)
  | 0, _, _ => none
  | k + 1, x0, x3 => if x3 < (x0.size : Int) then (if 0 ≤ x3 then (if (bt x0 x3) < 32 then (some false) else (if (bt x0 x3) > 126 then (some false) else (F78.l0 k x0 (wrap64 (x3 + 1))))) else (none)) else (some true)
def F78.f (k : Nat) (a0 : ByteArray) : Option (Bool) := if (a0.size : Int) > 40 then (some false) else (F78.l0 k a0 0)
theorem F78.mono_l : ∀ k, (∀ y0 y1, LeO (F78.l0 k y0 y1) (F78.l0 (k + 1) y0 y1))
 | 0 => fun _ _ r h => by simp [F78.l0] at h
 | k + 1 => by
  have ih0 := F78.mono_l k
  intro y0 y1
  unfold F78.l0
  repeat' with_reducible first | exact ih0 _ _ | exact LeO.refl _ | exact LeO.none _ | refine LeO.ite ?_ ?_ | refine LeO.bind ?_ (fun _ => ?_)
theorem F78.mono : ∀ a0 k, LeO (F78.f k a0) (F78.f (k + 1) a0) := by
 intro a0 k
 have ih0 := F78.mono_l k
 unfold F78.f
 repeat' with_reducible first | exact ih0 _ _ | exact LeO.refl _ | exact LeO.none _ | refine LeO.ite ?_ ?_ | refine LeO.bind ?_ (fun _ => ?_)
theorem F78.calls (k : Nat) (a0 : ByteArray) (r : Bool) (w : World) (h : F78.f k a0 = some r) :
  Calls Try.prog 78 #[.string a0] w fun e w' => e = .returned (.bool r) ∧ Drawn0 w w' := by
 have H : (if (a0.size : Int) > 40 then (some false) else (F78.l0 k a0 0)) = some r := h
 clear h
 replace H := it_ H; rcases H with ⟨(c2b0 : decide (40 < (a0.size : Int)) = true), H⟩ | ⟨(c2b0 : decide (40 < (a0.size : Int)) = false), H⟩
 ·have c2b1 : decide (40 < a0.size) = true := n2_ c2b0
  obtain rfl := Option.some.inj H
  go_enter Try.func78, Try.ntmps78
  go_wp2
  go_ret
  exact ⟨er_, dn_⟩
 have c2b1 : decide (40 < a0.size) = false := n2_ c2b0
 have H' := am_ H
 clear H
 go_enter Try.func78, Try.ntmps78
 go_wp2
 go_loopg [3] k (fun kq v3 w' => ∃ (x3_1 : Int), v3 = .int .i64 x3_1 ∧ Aside0 (F78.l0 kq a0 x3_1 = some r) ∧ Aside0 (kq ≤ k) ∧ Drawn0 w w')
 case atStart => exact ⟨(0), er_, H', ⟨Nat.le_refl _⟩, dn_⟩
 case round =>
  clear H'
  try clear c2b0
  try clear c2b1
  obtain ⟨x3_1, rfl, HA, HK1, ⟨m1, rfl⟩⟩ := hrel
  cases gk with
  | zero => exact absurd HA.out (by simp [F78.l0])
  | succ k1 =>
   have H := HA.out
   clear HA
   simp only [F78.l0] at H
   replace H := it_ H; rcases H with ⟨c3b0, H⟩ | ⟨c3b0, H⟩
   rotate_left
   ·obtain rfl := Option.some.inj H
    go_wp2
    go_ret
    exact ⟨er_, dn_⟩

   replace H := itn_ H; rcases H with ⟨c4b0, H⟩
   replace H := it_ H; rcases H with ⟨c6b0, H⟩ | ⟨c6b0, H⟩
   ·obtain rfl := Option.some.inj H
    have p5 : 0 ≤ (x3_1 : Int) := od_
    have q5 : x3_1 < (a0.size : Int) := od_
    have hx5 := bt_at a0 x3_1
    replace p5 := eq_true p5
    replace q5 := eq_true q5
    go_wp2
    go_ret
    exact ⟨er_, dn_⟩
   replace H := it_ H; rcases H with ⟨(c8b0 : decide (126 < (bt a0 x3_1)) = true), H⟩ | ⟨(c8b0 : decide (126 < (bt a0 x3_1)) = false), H⟩
   ·obtain rfl := Option.some.inj H
    have p5 : 0 ≤ (x3_1 : Int) := od_
    have q5 : x3_1 < (a0.size : Int) := od_
    have hx5 := bt_at a0 x3_1
    replace p5 := eq_true p5
    replace q5 := eq_true q5
    have p7 : 0 ≤ (x3_1 : Int) := od_
    have q7 : x3_1 < (a0.size : Int) := od_
    have hx7 := bt_at a0 x3_1
    replace p7 := eq_true p7
    replace q7 := eq_true q7
    go_wp2
    go_ret
    exact ⟨er_, dn_⟩
   have H' := am_ H
   clear H
   have p5 : 0 ≤ (x3_1 : Int) := od_
   have q5 : x3_1 < (a0.size : Int) := od_
   have hx5 := bt_at a0 x3_1
   replace p5 := eq_true p5
   replace q5 := eq_true q5
   have p7 : 0 ≤ (x3_1 : Int) := od_
   have q7 : x3_1 < (a0.size : Int) := od_
   have hx7 := bt_at a0 x3_1
   replace p7 := eq_true p7
   replace q7 := eq_true q7
   go_wp2
   go_roundg k1
   case measure => have := HK1.out; omega
   case rel => exact ⟨(wrap64 (x3_1 + 1)), er_, H', ⟨by have := HK1.out; omega⟩, dn_⟩
/-! ### F79: function 79 -/
def F79.f (l0_0 : List ByteArray) : Option (Bool) := if (l0_0.length : Int) = 1 then (if 0 < (l0_0.length : Int) then (some ((rdOf ByteArray.empty l0_0 0).toList == ([] : List UInt8))) else (none)) else (some false)
theorem F79.calls (A0_0 : Option Addr) (c0_0 : Nat) (l0_0 : List ByteArray) (r : Bool) (w : World) (hr0_0 : Kd.C Kd.string w A0_0 l0_0.length l0_0) (hc0_0 : l0_0.length ≤ c0_0) (h : F79.f l0_0 = some r) :
  Calls Try.prog 79 #[.agg #[.slice A0_0 l0_0.length c0_0]] w fun e w' => e = .returned (.bool r) ∧ Below w.heap.size w w' := by
 have hu122 := Try.underlying122
 have HR0_0 := am_ hr0_0
 have HC0_0 := am_ hc0_0
 clear hr0_0 hc0_0
 have HB := am_ (Below.refl w.heap.size w)
 have H : (if (l0_0.length : Int) = 1 then (if 0 < (l0_0.length : Int) then (some ((rdOf ByteArray.empty l0_0 0).toList == ([] : List UInt8))) else (none)) else (some false)) = some r := h
 clear h
 by_cases c2 : (l0_0.length : Int) = 1
 rotate_left
 ·rw [if_neg c2] at H
  have c2b0 : ((l0_0.length : Int) == 1) = false := beq_eq_false_iff_ne.mpr c2
  have c2b1 : ((l0_0.length : Int) != 1) = true := bne_iff_ne.mpr c2
  obtain rfl := Option.some.inj H
  go_enter Try.func79, Try.ntmps79
  go_wp2_with (first | ((with_reducible refine gate_dst (N := 1) rfl ?_); refine be_ 1 #[.slice A0_0 l0_0.length c0_0] 122 ?_; intro gb158 hg w6 hbox hb; have BK158 := am_ (hbox); have GW158 := am_ (gw_ hg bl_); have GE158 := GW158; replace HB := hs_ w hb; clear hb hbox hg; have hcz7_0 : w6.cell? ⟨gb158, 0, none⟩ = some (.slice A0_0 l0_0.length c0_0) := (blk_cell BK158.out 0).trans rfl; have hfz7_0 := blk_frozen BK158.out 0))
  go_ret
  exact ⟨au1_6, bl_⟩

 rw [if_pos c2] at H
 have c2b0 : ((l0_0.length : Int) == 1) = true := beq_iff_eq.mpr c2
 have c2b1 : ((l0_0.length : Int) != 1) = false := bne_eq_false_iff_eq.mpr c2
 clear c2
 replace H := itn_ H; rcases H with ⟨c3b0, H⟩
 have c3b1 : decide (0 < l0_0.length) = true := n2_ c3b0
 obtain rfl := Option.some.inj H
 go_enter Try.func79, Try.ntmps79
 go_wp2_with (first | ((with_reducible refine gate_dst (N := 1) rfl ?_); refine be_ 1 #[.slice A0_0 l0_0.length c0_0] 122 ?_; intro gb158 hg w4 hbox hb; have BK158 := am_ (hbox); have GW158 := am_ (gw_ hg bl_); have GE158 := GW158; replace HB := hs_ w hb; clear hb hbox hg; have hcz5_0 : w4.cell? ⟨gb158, 0, none⟩ = some (.slice A0_0 l0_0.length c0_0) := (blk_cell BK158.out 0).trans rfl; have hfz5_0 := blk_frozen BK158.out 0; have p159 : 0 ≤ (0 : Int) := (by omega); have q159 : 0 < (l0_0.length : Int) := od_; obtain ⟨ad159, e159, hx159_0⟩ := Kd.at_string HR0_0.out 0 p159 q159; cases e159; have qi159 : (0 < l0_0.length) = True := eq_true (by omega); (try rw [show ((0 : Int)).toNat = 0 from rfl] at hx159_0); (try rw [Addr.add_zero'] at hx159_0); replace hx159_0 := (HB.out.cell (World.block_lt_of_cell? _ _ hx159_0)).trans hx159_0; replace p159 := eq_true p159; replace q159 := eq_true q159))
 go_ret
 exact ⟨au1_6, bl_⟩
/-! ### F44: function 44 -/
mutual
def F44.j0 : Nat → Bool → ByteArray → List (S122) → Option (Bool)
  | 0, _, _, _ => none
  | k + 1, x15, x161000, x161001 => if x15 = true then (some false) else (F44.l0 k 0 x161000 x161001)
def F44.l0 : Nat → Int → ByteArray → List (S122) → Option (Bool)
  | 0, _, _, _ => none
  | k + 1, x3, x161000, x161001 => if x3 < (x161001.length : Int) then (if 0 ≤ x3 then (if (((rd_T122 x161001 x3).f0).length : Int) < 1 then (F44.j2 k x3 ((rd_T122 x161001 x3).f0) true x161000 x161001) else (if (((rd_T122 x161001 x3).f0).length : Int) > 4 then (F44.j2 k x3 ((rd_T122 x161001 x3).f0) true x161000 x161001) else (if (((rd_T122 x161001 x3).f0).length : Int) > 1 then (if 0 ≤ (wrap64 ((((rd_T122 x161001 x3).f0).length : Int) - 1)) then (if (wrap64 ((((rd_T122 x161001 x3).f0).length : Int) - 1)) < (((rd_T122 x161001 x3).f0).length : Int) then (F44.j2 k x3 ((rd_T122 x161001 x3).f0) ((rdOf ByteArray.empty ((rd_T122 x161001 x3).f0) (wrap64 ((((rd_T122 x161001 x3).f0).length : Int) - 1))).toList == ([] : List UInt8)) x161000 x161001) else (none)) else (none)) else (F44.j2 k x3 ((rd_T122 x161001 x3).f0) false x161000 x161001)))) else (none)) else (if (x161001.length : Int) = 0 then (some true) else (if 0 ≤ (wrap64 ((x161001.length : Int) - 1)) then (if (wrap64 ((x161001.length : Int) - 1)) < (x161001.length : Int) then ((F79.f ((rd_T122 x161001 (wrap64 ((x161001.length : Int) - 1))).f0)).bind fun t163 => (some (!t163))) else (none)) else (none)))
def F44.j2 : Nat → Int → List ByteArray → Bool → ByteArray → List (S122) → Option (Bool)
  | 0, _, _, _, _, _ => none
  | k + 1, x3, x4, x50, x161000, x161001 => if x50 = true then (some false) else (F44.l1 k x3 x4 0 x161000 x161001)
def F44.l1 : Nat → Int → List ByteArray → Int → ByteArray → List (S122) → Option (Bool)
  | 0, _, _, _, _, _ => none
  | k + 1, x3, x4, x5, x161000, x161001 => if x5 < (x4.length : Int) then (if 0 ≤ x5 then ((F78.f k (rdOf ByteArray.empty x4 x5)).bind fun t167 => (if t167 = true then (F44.l1 k x3 x4 (wrap64 (x5 + 1)) x161000 x161001) else (some false))) else (none)) else (F44.l0 k (wrap64 (x3 + 1)) x161000 x161001)
end
def F44.f (k : Nat) (a0_0 : ByteArray) (l0_1 : List (S122)) : Option (Bool) := (F77.f k a0_0).bind fun t161 => (if t161 = true then (F44.j0 k (decide ((l0_1.length : Int) > 10)) a0_0 l0_1) else (F44.j0 k true a0_0 l0_1))
theorem F44.mono_l : ∀ k, (∀ y0 y1 y2, LeO (F44.j0 k y0 y1 y2) (F44.j0 (k + 1) y0 y1 y2)) ∧ (∀ y0 y1 y2, LeO (F44.l0 k y0 y1 y2) (F44.l0 (k + 1) y0 y1 y2)) ∧ (∀ y0 y1 y2 y3 y4, LeO (F44.j2 k y0 y1 y2 y3 y4) (F44.j2 (k + 1) y0 y1 y2 y3 y4)) ∧ (∀ y0 y1 y2 y3 y4, LeO (F44.l1 k y0 y1 y2 y3 y4) (F44.l1 (k + 1) y0 y1 y2 y3 y4))
 | 0 => ⟨fun _ _ _ r h => by simp [F44.j0] at h, fun _ _ _ r h => by simp [F44.l0] at h, fun _ _ _ _ _ r h => by simp [F44.j2] at h, fun _ _ _ _ _ r h => by simp [F44.l1] at h⟩
 | k + 1 => by
  obtain ⟨ih0, ih1, ih2, ih3⟩ := F44.mono_l k
  refine ⟨?_, ?_, ?_, ?_⟩
  rotate_left
  ·intro y0 y1 y2
   unfold F44.l0
   repeat' with_reducible first | exact ih0 _ _ _ | exact ih1 _ _ _ | exact ih2 _ _ _ _ _ | exact ih3 _ _ _ _ _ | exact F78.mono _ _ | exact F77.mono _ _ | exact LeO.refl _ | exact LeO.none _ | refine LeO.ite ?_ ?_ | refine LeO.bind ?_ (fun _ => ?_)
  ·intro y0 y1 y2 y3 y4
   unfold F44.j2
   repeat' with_reducible first | exact ih0 _ _ _ | exact ih1 _ _ _ | exact ih2 _ _ _ _ _ | exact ih3 _ _ _ _ _ | exact F78.mono _ _ | exact F77.mono _ _ | exact LeO.refl _ | exact LeO.none _ | refine LeO.ite ?_ ?_ | refine LeO.bind ?_ (fun _ => ?_)
  ·intro y0 y1 y2 y3 y4
   unfold F44.l1
   repeat' with_reducible first | exact ih0 _ _ _ | exact ih1 _ _ _ | exact ih2 _ _ _ _ _ | exact ih3 _ _ _ _ _ | exact F78.mono _ _ | exact F77.mono _ _ | exact LeO.refl _ | exact LeO.none _ | refine LeO.ite ?_ ?_ | refine LeO.bind ?_ (fun _ => ?_)
  intro y0 y1 y2
  unfold F44.j0
  repeat' with_reducible first | exact ih0 _ _ _ | exact ih1 _ _ _ | exact ih2 _ _ _ _ _ | exact ih3 _ _ _ _ _ | exact F78.mono _ _ | exact F77.mono _ _ | exact LeO.refl _ | exact LeO.none _ | refine LeO.ite ?_ ?_ | refine LeO.bind ?_ (fun _ => ?_)
theorem F44.mono : ∀ a0 a1 k, LeO (F44.f k a0 a1) (F44.f (k + 1) a0 a1) := by
 intro a0 a1 k
 obtain ⟨ih0, ih1, ih2, ih3⟩ := F44.mono_l k
 unfold F44.f
 repeat' with_reducible first | exact ih0 _ _ _ | exact ih1 _ _ _ | exact ih2 _ _ _ _ _ | exact ih3 _ _ _ _ _ | exact F78.mono _ _ | exact F77.mono _ _ | exact LeO.refl _ | exact LeO.none _ | refine LeO.ite ?_ ?_ | refine LeO.bind ?_ (fun _ => ?_)
theorem F44.calls (k : Nat) (a0_0 : ByteArray) (A0_1 : Option Addr) (c0_1 : Nat) (l0_1 : List (S122)) (r : Bool) (w : World) (hr0_1 : Kd.C k122 w A0_1 l0_1.length l0_1) (hc0_1 : l0_1.length ≤ c0_1) (h : F44.f k a0_0 l0_1 = some r) :
  Calls Try.prog 44 #[.agg #[.string a0_0, .slice A0_1 l0_1.length c0_1]] w fun e w' => e = .returned (.bool r) ∧ Below w.heap.size w w' := by
 have hu88 := Try.underlying88
 have hu122 := Try.underlying122
 have HR0_1 := am_ hr0_1
 have HC0_1 := am_ hc0_1
 clear hr0_1 hc0_1
 have HB := am_ (Below.refl w.heap.size w)
 have H : ((F77.f k a0_0).bind fun t161 => (if t161 = true then (F44.j0 k (decide ((l0_1.length : Int) > 10)) a0_0 l0_1) else (F44.j0 k true a0_0 l0_1))) = some r := h
 clear h
 have HC2 := am_ H
 clear H
 go_enter Try.func44, Try.ntmps44
 go_upto_region 1 with (first | ((with_reducible refine gate_dst (N := 1) rfl ?_); (try (refine gate_guard (by rfl) ?_; dsimp only)); refine be_ 1 #[.string a0_0, .slice A0_1 l0_1.length c0_1] 88 ?_; intro gb160 hg w3 hbox hb; have BK160 := am_ (hbox); have GW160 := am_ (gw_ hg bl_); have GE160 := GW160; replace HB := hs_ w hb; clear hb hbox hg))
 (try simp only [Act.put, List.setIfInBounds_toArray, List.set_cons_zero, List.set_cons_succ])
 go_cut [15] (fun v15 wc => ∃ (kq : Nat) (x15_1 : Bool), v15 = .bool x15_1 ∧ Aside0 (F44.j0 kq x15_1 a0_0 l0_1 = some r) ∧ Aside0 (kq ≤ k) ∧ Aside0 (wc.heap[gb160]? = some (.cells #[.string a0_0, (.slice A0_1 l0_1.length c0_1)] 88 (0, 0))) ∧ Aside0 (Below w.heap.size w wc))
 case first =>
  have H := HC2.out
  clear HC2
  replace H := bi_ H; rcases H with ⟨t161, A4, H⟩
  replace H := ib_ H; rcases H with ⟨rfl, H⟩ | ⟨rfl, H⟩
  rotate_left
  ·have H' := am_ H
   clear H
   obtain ⟨hcz7_0, hcz7_1, hfz7_0, hfz7_1⟩ := cellsF2 BK160.out
   go_wp2_with (first | (go_at_call 77; (with_reducible refine (F77.calls k a0_0 false _ A4.out).mono ?_); rintro e w' ⟨rfl, ⟨nd, rfl⟩⟩; (try clear A4)))
   go_meet
   case rel => exact ⟨_, (true), er_, H', ⟨au1_28⟩, ⟨bk_ BK160⟩, ⟨bl_⟩⟩
  have H' := am_ H
  clear H
  obtain ⟨hcz6_0, hcz6_1, hfz6_0, hfz6_1⟩ := cellsF2 BK160.out
  go_wp2_with (first | (go_at_call 77; (with_reducible refine (F77.calls k a0_0 true _ A4.out).mono ?_); rintro e w' ⟨rfl, ⟨nd, rfl⟩⟩; (try clear A4)))
  go_meet
  case rel => exact ⟨_, (decide ((l0_1.length : Int) > 10)), er_, H', ⟨au1_28⟩, ⟨bk_ BK160⟩, ⟨bl_⟩⟩
 case rest =>
  clear HC2
  try clear hcz6_0 hcz6_1
  try clear hcz7_0 hcz7_1
  try clear hfz6_0 hfz6_1
  try clear hfz7_0 hfz7_1
  obtain ⟨kq, x15_1, rfl, HA, HJ1, BK160, HB⟩ := hcut
  cases kq with
  | zero => exact absurd HA.out (by simp [F44.j0])
  | succ kj1 =>
   have H := HA.out
   clear HA
   simp only [F44.j0] at H
   replace H := ib_ H; rcases H with ⟨rfl, H⟩ | ⟨rfl, H⟩
   ·obtain rfl := Option.some.inj H
    go_wp2
    go_ret
    exact ⟨au1_6, bl_⟩
   have H' := am_ H
   clear H
   go_wp2
   go_loopg [3] kj1 (fun kq v3 w' => ∃ (x3_2 : Int), v3 = .int .i64 x3_2 ∧ Aside0 (F44.l0 kq x3_2 a0_0 l0_1 = some r) ∧ Aside0 (kq ≤ kj1) ∧ Aside0 (w'.heap[gb160]? = some (.cells #[.string a0_0, (.slice A0_1 l0_1.length c0_1)] 88 (0, 0))) ∧ Aside0 (Below w.heap.size w w'))
   case atStart => exact ⟨(0), er_, H', ⟨Nat.le_refl _⟩, ⟨bk_ BK160⟩, ⟨bl_⟩⟩
   case round =>
    clear H'
    try clear hcz6_0 hcz6_1
    try clear hcz7_0 hcz7_1
    try clear hfz6_0 hfz6_1
    try clear hfz7_0 hfz7_1
    obtain ⟨x3_2, rfl, HA, HK2, BK160, HB⟩ := hrel
    cases gk with
    | zero => exact absurd HA.out (by simp [F44.l0])
    | succ k2 =>
     have H := HA.out
     clear HA
     simp only [F44.l0] at H
     replace H := it_ H; rcases H with ⟨c9b0, H⟩ | ⟨c9b0, H⟩
     rotate_left
     ·by_cases c24 : (l0_1.length : Int) = 0
      ·rw [if_pos c24] at H
       have c24b0 : ((l0_1.length : Int) == 0) = true := beq_iff_eq.mpr c24
       have c24b1 : ((l0_1.length : Int) != 0) = false := bne_eq_false_iff_eq.mpr c24
       clear c24
       obtain rfl := Option.some.inj H
       obtain ⟨hcz25_0, hcz25_1, hfz25_0, hfz25_1⟩ := cellsF2 BK160.out
       go_wp2
       go_ret
       exact ⟨au1_6, bl_⟩
      rw [if_neg c24] at H
      have c24b0 : ((l0_1.length : Int) == 0) = false := beq_eq_false_iff_ne.mpr c24
      have c24b1 : ((l0_1.length : Int) != 0) = true := bne_iff_ne.mpr c24
      have c24b2 : ¬ (l0_1 = []) := fun h_ => c24 (by rw [h_]; rfl)
      obtain ⟨ji26, hji26⟩ : ∃ j_ : Int, (wrap64 ((l0_1.length : Int) - 1)) = j_ := ⟨_, rfl⟩
      replace H : (if 0 ≤ (ji26) then (if (ji26) < (l0_1.length : Int) then ((F79.f ((rd_T122 l0_1 (ji26)).f0)).bind fun t163 => (some (!t163))) else (none)) else (none)) = some r := by first | (rw [hji26] at H; exact H) | (simp only [hji26] at H ⊢; exact H)
      have hji26w : (IntKind.i64.wrap ((l0_1.length : Int) - 1)) = ji26 := (i64_w _).trans hji26
      by_cases c27 : 0 ≤ (ji26)
      rotate_left
      ·rw [if_neg c27] at H
       exact absurd H (by simp)

      rw [if_pos c27] at H
      have c27b0 : decide (0 ≤ (ji26)) = true := decide_eq_true c27
      clear c27
      replace H := itn_ H; rcases H with ⟨c28b0, H⟩
      replace H := bi_ H; rcases H with ⟨t163, A29, H⟩
      obtain rfl := Option.some.inj H
      obtain ⟨hcz30_0, hcz30_1, hfz30_0, hfz30_1⟩ := cellsF2 BK160.out
      have p162 : 0 ≤ ((ji26) : Int) := od_
      have q162 : (ji26) < (l0_1.length : Int) := od_
      obtain ⟨ad162, A162_0, c162_0, e162, hx162_0, hl162_0, hi162_0⟩ := at_T122 HR0_1.out (ji26) p162 q162
      cases e162
      replace hx162_0 := (HB.out.cell (World.block_lt_of_cell? _ _ hx162_0)).trans hx162_0
      have HR162_0 := am_ hi162_0
      have HC162_0 := am_ hl162_0
      clear hi162_0 hl162_0
      replace p162 := eq_true p162
      replace q162 := eq_true q162
      go_wp2_with (first | (go_at_call 79; (with_reducible refine (F79.calls _ _ ((rd_T122 l0_1 (ji26)).f0) t163 _ ?s1 ?s2 A29.out).mono ?_); (case s1 => repeat (first | exact (Kd.C_below HR162_0.out HB.out) | (with_reducible refine Kd.C_alloc ?_ _) | (with_reducible refine Kd.C_drewN ?_ _) | (with_reducible refine Kd.C_drew ?_))); (case s2 => exact HC162_0.out); rintro e w31 ⟨rfl, hb⟩; (try clear A29); replace BK160 := bb_ BK160 hb; replace HB := hs_ w hb; (try clear hb)))
      go_ret
      exact ⟨by first | rfl | (simp [errW_none, errW_some] <;> rfl) | (simp only [← hji26]; first | rfl | (simp [errW_none, errW_some] <;> rfl)) | (simp [*, errW_none, errW_some] <;> rfl), bl_⟩
     replace H := itn_ H; rcases H with ⟨c10b0, H⟩
     have HC11 := am_ H
     clear H
     obtain ⟨hcz12_0, hcz12_1, hfz12_0, hfz12_1⟩ := cellsF2 BK160.out
     have p164 : 0 ≤ (x3_2 : Int) := od_
     have q164 : x3_2 < (l0_1.length : Int) := od_
     obtain ⟨ad164, A164_0, c164_0, e164, hx164_0, hl164_0, hi164_0⟩ := at_T122 HR0_1.out x3_2 p164 q164
     cases e164
     replace hx164_0 := (HB.out.cell (World.block_lt_of_cell? _ _ hx164_0)).trans hx164_0
     have HR164_0 := am_ hi164_0
     have HC164_0 := am_ hl164_0
     clear hi164_0 hl164_0
     replace p164 := eq_true p164
     replace q164 := eq_true q164
     go_upto_region 7 with (fail)
     go_cut [50] (fun v50 wc => ∃ (kq : Nat) (x50_10 : Bool), v50 = .bool x50_10 ∧ Aside0 (F44.j2 kq x3_2 ((rd_T122 l0_1 x3_2).f0) x50_10 a0_0 l0_1 = some r) ∧ Aside0 (kq ≤ k2) ∧ Aside0 (wc.heap[gb160]? = some (.cells #[.string a0_0, (.slice (some ad164) l0_1.length c0_1)] 88 (0, 0))) ∧ Aside0 (Below w.heap.size w wc))
     case first =>
      have H := HC11.out
      clear HC11
      replace H := it_ H; rcases H with ⟨c13b0, H⟩ | ⟨c13b0, H⟩
      ·have c13b1 : decide (((rd_T122 l0_1 x3_2).f0).length < 1) = true := n2_ c13b0
       (first | rw [c13b0] | (simp only [i64_w, i32_w]; rw [c13b0]) | skip)
       have H' := am_ H
       clear H
       go_wp2
       go_meet
       case rel => exact ⟨_, (true), er_, H', ⟨au1_25⟩, ⟨bk_ BK160⟩, ⟨bl_⟩⟩
      have c13b1 : decide (((rd_T122 l0_1 x3_2).f0).length < 1) = false := n2_ c13b0
      (first | rw [c13b0] | (simp only [i64_w, i32_w]; rw [c13b0]) | skip)
      replace H := it_ H; rcases H with ⟨(c14b0 : decide (4 < (((rd_T122 l0_1 x3_2).f0).length : Int)) = true), H⟩ | ⟨(c14b0 : decide (4 < (((rd_T122 l0_1 x3_2).f0).length : Int)) = false), H⟩
      ·have c14b1 : decide (4 < ((rd_T122 l0_1 x3_2).f0).length) = true := n2_ c14b0
       have H' := am_ H
       clear H
       go_wp2
       go_meet
       case rel => exact ⟨_, (true), er_, H', ⟨au1_25⟩, ⟨bk_ BK160⟩, ⟨bl_⟩⟩
      have c14b1 : decide (4 < ((rd_T122 l0_1 x3_2).f0).length) = false := n2_ c14b0
      replace H := it_ H; rcases H with ⟨(c15b0 : decide (1 < (((rd_T122 l0_1 x3_2).f0).length : Int)) = true), H⟩ | ⟨(c15b0 : decide (1 < (((rd_T122 l0_1 x3_2).f0).length : Int)) = false), H⟩
      rotate_left
      ·have c15b1 : decide (1 < ((rd_T122 l0_1 x3_2).f0).length) = false := n2_ c15b0
       have H' := am_ H
       clear H
       go_wp2
       go_meet
       case rel => exact ⟨_, (false), er_, H', ⟨au1_25⟩, ⟨bk_ BK160⟩, ⟨bl_⟩⟩
      have c15b1 : decide (1 < ((rd_T122 l0_1 x3_2).f0).length) = true := n2_ c15b0
      obtain ⟨ji16, hji16⟩ : ∃ j_ : Int, (wrap64 ((((rd_T122 l0_1 x3_2).f0).length : Int) - 1)) = j_ := ⟨_, rfl⟩
      replace H : (if 0 ≤ (ji16) then (if (ji16) < (((rd_T122 l0_1 x3_2).f0).length : Int) then (F44.j2 k2 x3_2 ((rd_T122 l0_1 x3_2).f0) ((rdOf ByteArray.empty ((rd_T122 l0_1 x3_2).f0) (ji16)).toList == ([] : List UInt8)) a0_0 l0_1) else (none)) else (none)) = some r := by first | (rw [hji16] at H; exact H) | (simp only [hji16] at H ⊢; exact H)
      have hji16w : (IntKind.i64.wrap ((((rd_T122 l0_1 x3_2).f0).length : Int) - 1)) = ji16 := (i64_w _).trans hji16
      replace H := itn_ H; rcases H with ⟨c17b0, H⟩
      replace H := itn_ H; rcases H with ⟨c18b0, H⟩
      have H' := am_ H
      clear H
      have p165 : 0 ≤ ((ji16) : Int) := od_
      have q165 : (ji16) < (((rd_T122 l0_1 x3_2).f0).length : Int) := od_
      obtain ⟨ad165, e165, hx165_0⟩ := Kd.at_string HR164_0.out (ji16) p165 q165
      cases e165
      replace hx165_0 := (HB.out.cell (World.block_lt_of_cell? _ _ hx165_0)).trans hx165_0
      replace p165 := eq_true p165
      replace q165 := eq_true q165
      go_wp2
      go_meet
      case rel => exact ⟨_, (((rdOf ByteArray.empty ((rd_T122 l0_1 x3_2).f0) (ji16)).toList == ([] : List UInt8))), (by first | rfl | (simp; done) | (simp only [← hji16] <;> (first | rfl | simp)) | (simp [*]; done)), H', ⟨au1_25⟩, ⟨bk_ BK160⟩, ⟨bl_⟩⟩
     case rest =>
      clear HC11
      try clear c9b0
      try clear c10b0
      try clear c13b0
      try clear c13b1
      try clear c14b0
      try clear c14b1
      try clear c15b0
      try clear c15b1
      try clear c17b0
      try clear c18b0
      try clear hcz12_0 hcz12_1
      try clear hcz6_0 hcz6_1
      try clear hcz7_0 hcz7_1
      try clear hfz12_0 hfz12_1
      try clear hfz6_0 hfz6_1
      try clear hfz7_0 hfz7_1
      try clear hx164_0
      try clear hx165_0
      try clear p164
      try clear p165
      try clear q164
      try clear q165
      obtain ⟨kq, x50_10, rfl, HA, HJ10, BK160, HB⟩ := hcut
      cases kq with
      | zero => exact absurd HA.out (by simp [F44.j2])
      | succ kj10 =>
       have H := HA.out
       clear HA
       simp only [F44.j2] at H
       replace H := ib_ H; rcases H with ⟨rfl, H⟩ | ⟨rfl, H⟩
       ·obtain rfl := Option.some.inj H
        go_wp2
        go_ret
        exact ⟨au1_6, bl_⟩
       have H' := am_ H
       clear H
       go_wp2
       go_loopg [5] kj10 (fun kq v5 w' => ∃ (x5_4 : Int), v5 = .int .i64 x5_4 ∧ Aside0 (F44.l1 kq x3_2 ((rd_T122 l0_1 x3_2).f0) x5_4 a0_0 l0_1 = some r) ∧ Aside0 (kq ≤ kj10) ∧ Aside0 (w'.heap[gb160]? = some (.cells #[.string a0_0, (.slice (some ad164) l0_1.length c0_1)] 88 (0, 0))) ∧ Aside0 (Below w.heap.size w w'))
       case atStart => exact ⟨(0), er_, H', ⟨Nat.le_refl _⟩, ⟨bk_ BK160⟩, ⟨bl_⟩⟩
       case round =>
        clear H'
        try clear c9b0
        try clear c10b0
        try clear c13b0
        try clear c13b1
        try clear c14b0
        try clear c14b1
        try clear c15b0
        try clear c15b1
        try clear c17b0
        try clear c18b0
        try clear hcz12_0 hcz12_1
        try clear hcz6_0 hcz6_1
        try clear hcz7_0 hcz7_1
        try clear hfz12_0 hfz12_1
        try clear hfz6_0 hfz6_1
        try clear hfz7_0 hfz7_1
        try clear hx164_0
        try clear hx165_0
        try clear p164
        try clear p165
        try clear q164
        try clear q165
        obtain ⟨x5_4, rfl, HA, HK4, BK160, HB⟩ := hrel
        cases gk with
        | zero => exact absurd HA.out (by simp [F44.l1])
        | succ k4 =>
         have H := HA.out
         clear HA
         simp only [F44.l1] at H
         replace H := it_ H; rcases H with ⟨c20b0, H⟩ | ⟨c20b0, H⟩
         rotate_left
         ·have H' := am_ H
          clear H
          go_wp2
          go_roundg k4
          case measure => have := HJ1.out; have := HK2.out; have := HJ10.out; have := HK4.out; omega
          case rel => exact ⟨(wrap64 (x3_2 + 1)), er_, H', ⟨au1_29⟩, ⟨bk_ BK160⟩, ⟨bl_⟩⟩
         replace H := itn_ H; rcases H with ⟨c21b0, H⟩
         replace H := bi_ H; rcases H with ⟨t167, A22, H⟩
         replace H := ib_ H; rcases H with ⟨rfl, H⟩ | ⟨rfl, H⟩
         rotate_left
         ·obtain rfl := Option.some.inj H
          have p166 : 0 ≤ (x5_4 : Int) := od_
          have q166 : x5_4 < (((rd_T122 l0_1 x3_2).f0).length : Int) := od_
          obtain ⟨ad166, e166, hx166_0⟩ := Kd.at_string HR164_0.out x5_4 p166 q166
          cases e166
          replace hx166_0 := (HB.out.cell (World.block_lt_of_cell? _ _ hx166_0)).trans hx166_0
          replace p166 := eq_true p166
          replace q166 := eq_true q166
          go_wp2_with (first | (go_at_call 78; (with_reducible refine (F78.calls k4 (rdOf ByteArray.empty ((rd_T122 l0_1 x3_2).f0) x5_4) false _ A22.out).mono ?_); rintro e w' ⟨rfl, ⟨nd, rfl⟩⟩; (try clear A22)))
          go_ret
          exact ⟨au1_6, bl_⟩
         have H' := am_ H
         clear H
         have p166 : 0 ≤ (x5_4 : Int) := od_
         have q166 : x5_4 < (((rd_T122 l0_1 x3_2).f0).length : Int) := od_
         obtain ⟨ad166, e166, hx166_0⟩ := Kd.at_string HR164_0.out x5_4 p166 q166
         cases e166
         replace hx166_0 := (HB.out.cell (World.block_lt_of_cell? _ _ hx166_0)).trans hx166_0
         replace p166 := eq_true p166
         replace q166 := eq_true q166
         go_wp2_with (first | (go_at_call 78; (with_reducible refine (F78.calls k4 (rdOf ByteArray.empty ((rd_T122 l0_1 x3_2).f0) x5_4) true _ A22.out).mono ?_); rintro e w' ⟨rfl, ⟨nd, rfl⟩⟩; (try clear A22)))
         go_roundg k4
         case measure => have := HJ1.out; have := HK2.out; have := HJ10.out; have := HK4.out; omega
         case rel => exact ⟨(wrap64 (x5_4 + 1)), er_, H', ⟨au1_29⟩, ⟨bk_ BK160⟩, ⟨bl_⟩⟩
/-! ### F102: function 102 -/
def F102.f (s0_0 : List Int) (s0_1 : Int) (s0_2 : Int) (s0_3 : Int) (l1 : List ByteArray) : Option (ByteArray × Int × Int × Int) := (F73.f s0_0 s0_1 s0_2 s0_3 (l1.length : Int)).bind fun bt168 => (if 0 ≤ bt168.1 then (if bt168.1 < (l1.length : Int) then (some (rdOf ByteArray.empty l1 bt168.1, bt168.2.1, bt168.2.2.1, bt168.2.2.2)) else (none)) else (none))
theorem F102.calls (g : Nat) (s0_0 : List Int) (s0_1 : Int) (s0_2 : Int) (s0_3 : Int) (A1 : Option Addr) (c1 : Nat) (l1 : List ByteArray) (r1 : ByteArray) (r2 : Int) (r3 : Int) (r4 : Int) (w0 w : World) (hI : IsS116 w0 w g s0_0 s0_1 s0_2 s0_3) (hB : Below w0.heap.size w0 w) (hr1 : Kd.C Kd.string w A1 l1.length l1) (hc1 : l1.length ≤ c1) (hf1 : ∀ ad, A1 = some ad → 0 < l1.length → ad.block ≠ g) (h : F102.f s0_0 s0_1 s0_2 s0_3 l1 = some (r1, r2, r3, r4)) :
  Calls Try.prog 102 #[.pointer (some ⟨g, 0, none⟩), .slice A1 l1.length c1] w fun e w' => e = .returned (.string r1) ∧ IsS116 w0 w' g s0_0 r2 r3 r4 ∧ Below w0.heap.size w0 w' ∧ KeepBut w w' g none := by
 have HR1 := am_ hr1
 have HC1 := am_ hc1
 clear hr1 hc1
 have HI0 := am_ hI
 have HK := am_ (KeepBut.refl w g none)
 have HL := am_ hB.size
 clear hI
 have HW0 := am_ hB.size
 have HB := am_ hB
 clear hB
 have H : ((F73.f s0_0 s0_1 s0_2 s0_3 (l1.length : Int)).bind fun bt168 => (if 0 ≤ bt168.1 then (if bt168.1 < (l1.length : Int) then (some (rdOf ByteArray.empty l1 bt168.1, bt168.2.1, bt168.2.2.1, bt168.2.2.2)) else (none)) else (none))) = some (r1, r2, r3, r4) := h
 clear h
 replace H := bi_ H; rcases H with ⟨⟨t168, t169, t170, t171⟩, A3, H⟩
 by_cases c4 : 0 ≤ t168
 rotate_left
 ·rw [if_neg c4] at H
  exact absurd H (by simp)

 rw [if_pos c4] at H
 have c4b0 : decide (0 ≤ t168) = true := decide_eq_true c4
 clear c4
 replace H := itn_ H; rcases H with ⟨c5b0, H⟩
 simp only [Option.some.injEq, Prod.mk.injEq] at H
 obtain ⟨rfl, rfl, rfl, rfl⟩ := H
 go_enter Try.func102, Try.ntmps102
 go_wp2_with (first | ((with_reducible refine gate_callee (f := 73) rfl ?_); refine gl_ 9 Try.func73 #[.pointer (some ⟨g, 0, none⟩), .int .i64 (l1.length : Int)] ?_ rfl rfl rfl rfl; (with_reducible refine (F73.calls g s0_0 s0_1 s0_2 s0_3 (l1.length : Int) t168 t169 t170 t171 w0 _ ?s1 ?s2 A3.out).mono ?_); (case s1 => exact au1_19); (case s2 => exact au1_21); rintro e w6 ⟨rfl, hi, hb, hk⟩; refine ⟨_, rfl, ?_⟩; replace HK := am_ (KeepBut.trans au1_7 hk (.inl rfl)); replace HB := am_ (hb); replace HI0 := am_ (hi); (try clear hb); (try clear hb2); (try clear hk); (try clear hi); have p172 : 0 ≤ (t168 : Int) := od_; have q172 : t168 < (l1.length : Int) := od_; obtain ⟨ad172, e172, hx172_0⟩ := Kd.at_string HR1.out t168 p172 q172; cases e172; replace hx172_0 := keep_cell HK.out hx172_0 (by first | (rw [add_block]; exact hf1 _ rfl (by omega)) | exact hf1 _ rfl (by omega) | exact hf1 ad172 rfl (by omega)); replace p172 := eq_true p172; replace q172 := eq_true q172))
 go_ret
 exact ⟨au1_6, is1_0_, au1_5, au1_8⟩
/-! ### F103: function 103 -/
def F103.l0 : Nat → Int → List Int → List Int → Int → Int → Int → Int → Int → Int → Int → Option (ByteArray × Int × Int × Int)
  | 0, _, _, _, _, _, _, _, _, _, _ => none
  | k + 1, x2, x7, x1000, x1001, x1002, x1003, x174000, x174001, x174002, x174003 => if x2 > 0 then ((F73.f x1000 x1001 x1002 x1003 6).bind fun bt177 => (if bt177.1 = 0 then (if x7.length < 140737488355328 then (F103.l0 k (wrap64 (x2 - 1)) (x7 ++ [(x174000) % 256]) x1000 bt177.2.1 bt177.2.2.1 bt177.2.2.2 x174000 x174001 x174002 x174003) else (none)) else (if bt177.1 = 1 then (if x7.length < 140737488355328 then (F103.l0 k (wrap64 (x2 - 1)) (x7 ++ [(x174001) % 256]) x1000 bt177.2.1 bt177.2.2.1 bt177.2.2.2 x174000 x174001 x174002 x174003) else (none)) else (if bt177.1 = 2 then (if x7.length < 140737488355328 then (F103.l0 k (wrap64 (x2 - 1)) (x7 ++ [(x174002) % 256]) x1000 bt177.2.1 bt177.2.2.1 bt177.2.2.2 x174000 x174001 x174002 x174003) else (none)) else (if bt177.1 = 3 then (if x7.length < 140737488355328 then (F103.l0 k (wrap64 (x2 - 1)) (x7 ++ [(x174003) % 256]) x1000 bt177.2.1 bt177.2.2.1 bt177.2.2.2 x174000 x174001 x174002 x174003) else (none)) else ((F73.f x1000 bt177.2.1 bt177.2.2.1 bt177.2.2.2 6).bind fun bt193 => (if 0 ≤ bt193.1 then (if bt193.1 < 6 then (if x7.length < 140737488355328 then (F103.l0 k (wrap64 (x2 - 1)) (x7 ++ [bt (⟨#[65, 66, 99, 32, 49, 45]⟩ : ByteArray) bt193.1]) x1000 bt193.2.1 bt193.2.2.1 bt193.2.2.2 x174000 x174001 x174002 x174003) else (none)) else (none)) else (none)))))))) else (some (strOfNums x7, x1001, x1002, x1003))
def F103.f (k : Nat) (s0_0 : List Int) (s0_1 : Int) (s0_2 : Int) (s0_3 : Int) (a1_0 : Int) (a1_1 : Int) (a1_2 : Int) (a1_3 : Int) (a2 : Int) : Option (ByteArray × Int × Int × Int) := F103.l0 k a2 (([] : List Int)) s0_0 s0_1 s0_2 s0_3 a1_0 a1_1 a1_2 a1_3
theorem F103.mono_l : ∀ k, (∀ y0 y1 y2 y3 y4 y5 y6 y7 y8 y9, LeO (F103.l0 k y0 y1 y2 y3 y4 y5 y6 y7 y8 y9) (F103.l0 (k + 1) y0 y1 y2 y3 y4 y5 y6 y7 y8 y9))
 | 0 => fun _ _ _ _ _ _ _ _ _ _ r h => by simp [F103.l0] at h
 | k + 1 => by
  have ih0 := F103.mono_l k
  intro y0 y1 y2 y3 y4 y5 y6 y7 y8 y9
  unfold F103.l0
  repeat' with_reducible first | exact ih0 _ _ _ _ _ _ _ _ _ _ | exact LeO.refl _ | exact LeO.none _ | refine LeO.ite ?_ ?_ | refine LeO.bind ?_ (fun _ => ?_)
theorem F103.mono : ∀ a0 a1 a2 a3 a4 a5 a6 a7 a8 k, LeO (F103.f k a0 a1 a2 a3 a4 a5 a6 a7 a8) (F103.f (k + 1) a0 a1 a2 a3 a4 a5 a6 a7 a8) := by
 intro a0 a1 a2 a3 a4 a5 a6 a7 a8 k
 have ih0 := F103.mono_l k
 unfold F103.f
 repeat' with_reducible first | exact ih0 _ _ _ _ _ _ _ _ _ _ | exact LeO.refl _ | exact LeO.none _ | refine LeO.ite ?_ ?_ | refine LeO.bind ?_ (fun _ => ?_)
theorem F103.calls (k : Nat) (g : Nat) (s0_0 : List Int) (s0_1 : Int) (s0_2 : Int) (s0_3 : Int) (a1_0 : Int) (a1_1 : Int) (a1_2 : Int) (a1_3 : Int) (a2 : Int) (r1 : ByteArray) (r2 : Int) (r3 : Int) (r4 : Int) (w0 w : World) (hI : IsS116 w0 w g s0_0 s0_1 s0_2 s0_3) (hB : Below w0.heap.size w0 w) (h : F103.f k s0_0 s0_1 s0_2 s0_3 a1_0 a1_1 a1_2 a1_3 a2 = some (r1, r2, r3, r4)) :
  Calls Try.prog 103 #[.pointer (some ⟨g, 0, none⟩), .agg #[.int .i64 a1_0, .int .i64 a1_1, .int .i64 a1_2, .int .i64 a1_3], .int .i64 a2] w fun e w' => e = .returned (.string r1) ∧ IsS116 w0 w' g s0_0 r2 r3 r4 ∧ Below w0.heap.size w0 w' ∧ KeepBut w w' g none := by
 have hu45 := Try.underlying45
 have HI0 := am_ hI
 have HK := am_ (KeepBut.refl w g none)
 have HL := am_ hB.size
 clear hI
 have HW0 := am_ hB.size
 have HB := am_ hB
 clear hB
 have H : (F103.l0 k a2 (([] : List Int)) s0_0 s0_1 s0_2 s0_3 a1_0 a1_1 a1_2 a1_3) = some (r1, r2, r3, r4) := h
 clear h
 obtain ⟨y174, hy174⟩ : ∃ y_ : List Int, y_ = (([] : List Int)) := ⟨_, rfl⟩
 replace H : (F103.l0 k a2 y174 s0_0 s0_1 s0_2 s0_3 a1_0 a1_1 a1_2 a1_3) = some (r1, r2, r3, r4) := by first | (rw [hy174]; exact H) | exact H
 have Ny174 := am_ hy174
 clear hy174
 have H' := am_ H
 clear H
 go_enter Try.func103, Try.ntmps103
 go_wp2_with (first | ((with_reducible refine gate_dst (N := 4) rfl ?_); refine be_ 4 #[.int .i64 a1_0, .int .i64 a1_1, .int .i64 a1_2, .int .i64 a1_3] 45 ?_; intro gb173 hg w4 hbox hb; replace HB := am_ (below_step au1_20 hb); have BK173 := am_ (hbox); have GW173 := am_ ((by rw [hg]; exact (keep_size (w := w) (g := g) (row := none) au1_7) : w.heap.size ≤ gb173)); have GE173 := am_ ((Nat.le_trans HW0.out (by rw [hg]; exact (keep_size (w := w) (g := g) (row := none) au1_7) : w.heap.size ≤ gb173) : w0.heap.size ≤ gb173)); replace HK := am_ (KeepBut.trans au1_7 (KeepBut.of_below hb g none) (.inl rfl)); have NB0_173 := am_ (gn_ hg (IsS116.lt (is1_0_ : IsS116 w0 _ g s0_0 s0_1 s0_2 s0_3))); have NB173_0 := am_ (gm_ hg (IsS116.lt (is1_0_ : IsS116 w0 _ g s0_0 s0_1 s0_2 s0_3))); replace HI0 := am_ (IsS116.below is1_0_ hb); clear hb hbox hg) | ((with_reducible refine gate_dst (N := 8) rfl ?_); refine Kd.R_lit (Kd.int .u8) _ 5 ?hg (N := 8) ?hd (xs := ([] : List Int)) (inner := []) (ok := fun _ => True) (okp := fun _ => True) ?hr ?hp (fun _ hk => hk) trivial (Below.refl _ _) (Nat.le_refl _) (by simp) ?_; (case hd => rfl); (case hg => rfl); (case hr => exact hr_); (case hp => exact (Reps.none _ _)); intro v175 w5 ho6 hb hg_ hnew_; clear hg_ hnew_; (first | rw [← Ny174.out] at ho6 | (simp only [Int.reduceToNat] at ho6; rw [← Ny174.out] at ho6)); have HO176 := am_ (Kd.R_lower ho6 (keep_size (w := w) (g := g) (row := none) au1_1)); replace BK173 := bb_ BK173 hb; replace HK := am_ (KeepBut.trans au1_1 (KeepBut.of_below hb g none) (.inl rfl)); replace HB := am_ (below_step au1_14 hb); replace HI0 := am_ (IsS116.below is1_0_ hb); clear hb ho6))
 go_loopg [2, 7] k (fun kq v2 v7 w' => ∃ (x2_1 : Int) (x7_1 : List Int) (x1001_1 : Int) (x1002_1 : Int) (x1003_1 : Int), v2 = .int .i64 x2_1 ∧ Aside0 (F103.l0 kq x2_1 x7_1 s0_0 x1001_1 x1002_1 x1003_1 a1_0 a1_1 a1_2 a1_3 = some (r1, r2, r3, r4)) ∧ Aside0 (kq ≤ k) ∧ Aside0 (Kd.R (Kd.int .u8) 5 w' w.heap.size (fun _ => True) v7 x7_1) ∧ Aside0 (w'.heap[gb173]? = some (.cells #[.int .i64 a1_0, .int .i64 a1_1, .int .i64 a1_2, .int .i64 a1_3] 45 (0, 0))) ∧ Aside0 (IsS116 w0 w' g s0_0 x1001_1 x1002_1 x1003_1) ∧ Aside0 (KeepBut w w' g none) ∧ Aside0 (Below w0.heap.size w0 w'))
 case atStart => exact ⟨(a2), (y174), (s0_1), (s0_2), (s0_3), er_, H', ⟨Nat.le_refl _⟩, ⟨rk_ HO176⟩, ⟨bk_ BK173⟩, ⟨is1_0_⟩, ⟨au1_12⟩, ⟨au1_9⟩⟩
 case round =>
  clear H'
  obtain ⟨x2_1, x7_1, x1001_1, x1002_1, x1003_1, rfl, HA, HK1, HO_7, BK173, HI0, HK, HB⟩ := hrel
  cases gk with
  | zero => exact absurd HA.out (by simp [F103.l0])
  | succ k1 =>
   have H := HA.out
   clear HA
   simp only [F103.l0] at H
   replace H := it_ H; rcases H with ⟨(c7b0 : decide (0 < x2_1) = true), H⟩ | ⟨(c7b0 : decide (0 < x2_1) = false), H⟩
   rotate_left
   ·simp only [Option.some.injEq, Prod.mk.injEq] at H
    obtain ⟨rfl, rfl, rfl, rfl⟩ := H
    have hcv41 := own_string (P := Try.prog) Try.underlying43 Try.underlying5 Try.underlying9 (Kd.own_of_R HO_7.out)
    go_wp2
    go_ret
    exact ⟨au1_6, is1_0_, au1_9, au1_12⟩
   replace H := bi_ H; rcases H with ⟨⟨t177, t178, t179, t180⟩, A8, H⟩
   by_cases c9 : t177 = 0
   ·rw [if_pos c9] at H
    have c9b0 : (t177 == 0) = true := beq_iff_eq.mpr c9
    have c9b1 : (t177 != 0) = false := bne_eq_false_iff_eq.mpr c9
    clear c9
    replace H := iln_ H; rcases H with ⟨LMc10, H⟩
    obtain ⟨y181, hy181⟩ : ∃ y_ : List Int, y_ = (x7_1 ++ [(a1_0) % 256]) := ⟨_, rfl⟩
    replace H : (F103.l0 k1 (wrap64 (x2_1 - 1)) y181 s0_0 t178 t179 t180 a1_0 a1_1 a1_2 a1_3) = some (r1, r2, r3, r4) := by first | (rw [hy181]; exact H) | exact H
    have Ny181 := am_ hy181
    clear hy181
    have H' := am_ H
    clear H
    go_wp2_with (first | ((with_reducible refine gate_callee (f := 73) rfl ?_); refine gl_ 14 Try.func73 #[.pointer (some ⟨g, 0, none⟩), .int .i64 6] ?_ rfl rfl rfl rfl; (with_reducible refine (F73.calls g s0_0 x1001_1 x1002_1 x1003_1 6 t177 t178 t179 t180 w0 _ ?s1 ?s2 A8.out).mono ?_); (case s1 => exact au1_11); (case s2 => exact au1_15); rintro e w11 ⟨rfl, hi, hb, hk⟩; refine ⟨_, rfl, ?_⟩; replace HO_7 := am_ (Kd.R_mono (Kd.R_keep (IsS116.apart (is1_0_ : IsS116 w0 _ g s0_0 x1001_1 x1002_1 x1003_1) (rk_ HO_7) (by decide)) hk (fun _ h => h.2)) (fun _ h => h.1)); replace BK173 := ka_ hk BK173 NB173_0; replace HK := am_ (KeepBut.trans au1_1 hk (.inl rfl)); replace HB := am_ (hb); replace HI0 := am_ (hi); (try clear hb); (try clear hb2); (try clear hk); (try clear hi); have hnb12 := NB173_0.out; have hnc12 := NB0_173.out; obtain ⟨hcz13_0, hcz13_1, hcz13_2, hcz13_3, hfz13_0, hfz13_1, hfz13_2, hfz13_3⟩ := cellsF4 BK173.out) | ((with_reducible refine gate_builtin (b := .append) (xs := #[.tmp 23, .tmp 27]) rfl ?_); at_builtin; refine Kd.R_append (Kd.int .u8) w.heap.size rfl (.tmp 23) (.tmp 27) 43 5 (.int .u8 0) 1 rfl Try.underlying43 info5 rfl (by decide) (by omega) u7 x7_1 ((a1_0) % 256) [.int .u8 ((a1_0) % 256)] (fun _ => True) (fun _ => False) rfl rfl ?aP (fun _ hk => hk.elim) ?aF ?aO (Below.refl _ _) ?aS ?aL ?_; (case aP => exact rfl); (case aF => exact (fun _ _ => trivial)); (case aO => exact (rk_ HO_7)); (case aS => exact au1_26); (case aL => have := LMc10.out; omega); intro v182 w14 ho hb hg hat; rw [← Ny181.out] at ho; have n0_ := am_ (bg_ BK173 hg (Kd.R_ne HO_7.out BK173.out (by decide))); have n1_ := am_ (IsS116.grown is1_0_ hg (IsS116.own_ne HI0.out HO_7.out (by decide))); have n2_ := am_ (below_weaken au1_14 HL.out hb); have n3_ := am_ (KeepBut.trans au1_1 (KeepBut.of_grown hg g) (Kd.R_base2 HO_7.out)); have n4_ := am_ (ho); clear BK173; clear HI0; clear HB; clear HK; clear HO_7; have BK173 := n0_; have HI0 := n1_; have HB := n2_; have HK := n3_; have HO183 := n4_; clear n0_ n1_ n2_ n3_ n4_; clear ho hb hg hat))
    go_roundg k1
    case measure => have := HK1.out; omega
    case rel => exact ⟨(wrap64 (x2_1 - 1)), (y181), (t178), (t179), (t180), er_, H', ⟨by have := HK1.out; omega⟩, ⟨rk_ HO183⟩, ⟨bk_ BK173⟩, ⟨is1_0_⟩, ⟨au1_12⟩, ⟨au1_9⟩⟩
   rw [if_neg c9] at H
   have c9b0 : (t177 == 0) = false := beq_eq_false_iff_ne.mpr c9
   have c9b1 : (t177 != 0) = true := bne_iff_ne.mpr c9
   by_cases c15 : t177 = 1
   ·rw [if_pos c15] at H
    have c15b0 : (t177 == 1) = true := beq_iff_eq.mpr c15
    have c15b1 : (t177 != 1) = false := bne_eq_false_iff_eq.mpr c15
    clear c15
    replace H := iln_ H; rcases H with ⟨LMc16, H⟩
    obtain ⟨y184, hy184⟩ : ∃ y_ : List Int, y_ = (x7_1 ++ [(a1_1) % 256]) := ⟨_, rfl⟩
    replace H : (F103.l0 k1 (wrap64 (x2_1 - 1)) y184 s0_0 t178 t179 t180 a1_0 a1_1 a1_2 a1_3) = some (r1, r2, r3, r4) := by first | (rw [hy184]; exact H) | exact H
    have Ny184 := am_ hy184
    clear hy184
    have H' := am_ H
    clear H
    go_wp2_with (first | ((with_reducible refine gate_callee (f := 73) rfl ?_); refine gl_ 14 Try.func73 #[.pointer (some ⟨g, 0, none⟩), .int .i64 6] ?_ rfl rfl rfl rfl; (with_reducible refine (F73.calls g s0_0 x1001_1 x1002_1 x1003_1 6 t177 t178 t179 t180 w0 _ ?s1 ?s2 A8.out).mono ?_); (case s1 => exact au1_11); (case s2 => exact au1_15); rintro e w17 ⟨rfl, hi, hb, hk⟩; refine ⟨_, rfl, ?_⟩; replace HO_7 := am_ (Kd.R_mono (Kd.R_keep (IsS116.apart (is1_0_ : IsS116 w0 _ g s0_0 x1001_1 x1002_1 x1003_1) (rk_ HO_7) (by decide)) hk (fun _ h => h.2)) (fun _ h => h.1)); replace BK173 := ka_ hk BK173 NB173_0; replace HK := am_ (KeepBut.trans au1_1 hk (.inl rfl)); replace HB := am_ (hb); replace HI0 := am_ (hi); (try clear hb); (try clear hb2); (try clear hk); (try clear hi); have hnb18 := NB173_0.out; have hnc18 := NB0_173.out; obtain ⟨hcz19_0, hcz19_1, hcz19_2, hcz19_3, hfz19_0, hfz19_1, hfz19_2, hfz19_3⟩ := cellsF4 BK173.out) | ((with_reducible refine gate_builtin (b := .append) (xs := #[.tmp 31, .tmp 35]) rfl ?_); at_builtin; refine Kd.R_append (Kd.int .u8) w.heap.size rfl (.tmp 31) (.tmp 35) 43 5 (.int .u8 0) 1 rfl Try.underlying43 info5 rfl (by decide) (by omega) u7 x7_1 ((a1_1) % 256) [.int .u8 ((a1_1) % 256)] (fun _ => True) (fun _ => False) rfl rfl ?aP (fun _ hk => hk.elim) ?aF ?aO (Below.refl _ _) ?aS ?aL ?_; (case aP => exact rfl); (case aF => exact (fun _ _ => trivial)); (case aO => exact (rk_ HO_7)); (case aS => exact au1_26); (case aL => have := LMc16.out; omega); intro v185 w20 ho hb hg hat; rw [← Ny184.out] at ho; have n0_ := am_ (bg_ BK173 hg (Kd.R_ne HO_7.out BK173.out (by decide))); have n1_ := am_ (IsS116.grown is1_0_ hg (IsS116.own_ne HI0.out HO_7.out (by decide))); have n2_ := am_ (below_weaken au1_14 HL.out hb); have n3_ := am_ (KeepBut.trans au1_1 (KeepBut.of_grown hg g) (Kd.R_base2 HO_7.out)); have n4_ := am_ (ho); clear BK173; clear HI0; clear HB; clear HK; clear HO_7; have BK173 := n0_; have HI0 := n1_; have HB := n2_; have HK := n3_; have HO186 := n4_; clear n0_ n1_ n2_ n3_ n4_; clear ho hb hg hat))
    go_roundg k1
    case measure => have := HK1.out; omega
    case rel => exact ⟨(wrap64 (x2_1 - 1)), (y184), (t178), (t179), (t180), er_, H', ⟨by have := HK1.out; omega⟩, ⟨rk_ HO186⟩, ⟨bk_ BK173⟩, ⟨is1_0_⟩, ⟨au1_12⟩, ⟨au1_9⟩⟩
   rw [if_neg c15] at H
   have c15b0 : (t177 == 1) = false := beq_eq_false_iff_ne.mpr c15
   have c15b1 : (t177 != 1) = true := bne_iff_ne.mpr c15
   by_cases c21 : t177 = 2
   ·rw [if_pos c21] at H
    have c21b0 : (t177 == 2) = true := beq_iff_eq.mpr c21
    have c21b1 : (t177 != 2) = false := bne_eq_false_iff_eq.mpr c21
    clear c21
    replace H := iln_ H; rcases H with ⟨LMc22, H⟩
    obtain ⟨y187, hy187⟩ : ∃ y_ : List Int, y_ = (x7_1 ++ [(a1_2) % 256]) := ⟨_, rfl⟩
    replace H : (F103.l0 k1 (wrap64 (x2_1 - 1)) y187 s0_0 t178 t179 t180 a1_0 a1_1 a1_2 a1_3) = some (r1, r2, r3, r4) := by first | (rw [hy187]; exact H) | exact H
    have Ny187 := am_ hy187
    clear hy187
    have H' := am_ H
    clear H
    go_wp2_with (first | ((with_reducible refine gate_callee (f := 73) rfl ?_); refine gl_ 14 Try.func73 #[.pointer (some ⟨g, 0, none⟩), .int .i64 6] ?_ rfl rfl rfl rfl; (with_reducible refine (F73.calls g s0_0 x1001_1 x1002_1 x1003_1 6 t177 t178 t179 t180 w0 _ ?s1 ?s2 A8.out).mono ?_); (case s1 => exact au1_11); (case s2 => exact au1_15); rintro e w23 ⟨rfl, hi, hb, hk⟩; refine ⟨_, rfl, ?_⟩; replace HO_7 := am_ (Kd.R_mono (Kd.R_keep (IsS116.apart (is1_0_ : IsS116 w0 _ g s0_0 x1001_1 x1002_1 x1003_1) (rk_ HO_7) (by decide)) hk (fun _ h => h.2)) (fun _ h => h.1)); replace BK173 := ka_ hk BK173 NB173_0; replace HK := am_ (KeepBut.trans au1_1 hk (.inl rfl)); replace HB := am_ (hb); replace HI0 := am_ (hi); (try clear hb); (try clear hb2); (try clear hk); (try clear hi); have hnb24 := NB173_0.out; have hnc24 := NB0_173.out; obtain ⟨hcz25_0, hcz25_1, hcz25_2, hcz25_3, hfz25_0, hfz25_1, hfz25_2, hfz25_3⟩ := cellsF4 BK173.out) | ((with_reducible refine gate_builtin (b := .append) (xs := #[.tmp 39, .tmp 43]) rfl ?_); at_builtin; refine Kd.R_append (Kd.int .u8) w.heap.size rfl (.tmp 39) (.tmp 43) 43 5 (.int .u8 0) 1 rfl Try.underlying43 info5 rfl (by decide) (by omega) u7 x7_1 ((a1_2) % 256) [.int .u8 ((a1_2) % 256)] (fun _ => True) (fun _ => False) rfl rfl ?aP (fun _ hk => hk.elim) ?aF ?aO (Below.refl _ _) ?aS ?aL ?_; (case aP => exact rfl); (case aF => exact (fun _ _ => trivial)); (case aO => exact (rk_ HO_7)); (case aS => exact au1_26); (case aL => have := LMc22.out; omega); intro v188 w26 ho hb hg hat; rw [← Ny187.out] at ho; have n0_ := am_ (bg_ BK173 hg (Kd.R_ne HO_7.out BK173.out (by decide))); have n1_ := am_ (IsS116.grown is1_0_ hg (IsS116.own_ne HI0.out HO_7.out (by decide))); have n2_ := am_ (below_weaken au1_14 HL.out hb); have n3_ := am_ (KeepBut.trans au1_1 (KeepBut.of_grown hg g) (Kd.R_base2 HO_7.out)); have n4_ := am_ (ho); clear BK173; clear HI0; clear HB; clear HK; clear HO_7; have BK173 := n0_; have HI0 := n1_; have HB := n2_; have HK := n3_; have HO189 := n4_; clear n0_ n1_ n2_ n3_ n4_; clear ho hb hg hat))
    go_roundg k1
    case measure => have := HK1.out; omega
    case rel => exact ⟨(wrap64 (x2_1 - 1)), (y187), (t178), (t179), (t180), er_, H', ⟨by have := HK1.out; omega⟩, ⟨rk_ HO189⟩, ⟨bk_ BK173⟩, ⟨is1_0_⟩, ⟨au1_12⟩, ⟨au1_9⟩⟩
   rw [if_neg c21] at H
   have c21b0 : (t177 == 2) = false := beq_eq_false_iff_ne.mpr c21
   have c21b1 : (t177 != 2) = true := bne_iff_ne.mpr c21
   by_cases c27 : t177 = 3
   ·rw [if_pos c27] at H
    have c27b0 : (t177 == 3) = true := beq_iff_eq.mpr c27
    have c27b1 : (t177 != 3) = false := bne_eq_false_iff_eq.mpr c27
    clear c27
    replace H := iln_ H; rcases H with ⟨LMc28, H⟩
    obtain ⟨y190, hy190⟩ : ∃ y_ : List Int, y_ = (x7_1 ++ [(a1_3) % 256]) := ⟨_, rfl⟩
    replace H : (F103.l0 k1 (wrap64 (x2_1 - 1)) y190 s0_0 t178 t179 t180 a1_0 a1_1 a1_2 a1_3) = some (r1, r2, r3, r4) := by first | (rw [hy190]; exact H) | exact H
    have Ny190 := am_ hy190
    clear hy190
    have H' := am_ H
    clear H
    go_wp2_with (first | ((with_reducible refine gate_callee (f := 73) rfl ?_); refine gl_ 14 Try.func73 #[.pointer (some ⟨g, 0, none⟩), .int .i64 6] ?_ rfl rfl rfl rfl; (with_reducible refine (F73.calls g s0_0 x1001_1 x1002_1 x1003_1 6 t177 t178 t179 t180 w0 _ ?s1 ?s2 A8.out).mono ?_); (case s1 => exact au1_11); (case s2 => exact au1_15); rintro e w29 ⟨rfl, hi, hb, hk⟩; refine ⟨_, rfl, ?_⟩; replace HO_7 := am_ (Kd.R_mono (Kd.R_keep (IsS116.apart (is1_0_ : IsS116 w0 _ g s0_0 x1001_1 x1002_1 x1003_1) (rk_ HO_7) (by decide)) hk (fun _ h => h.2)) (fun _ h => h.1)); replace BK173 := ka_ hk BK173 NB173_0; replace HK := am_ (KeepBut.trans au1_1 hk (.inl rfl)); replace HB := am_ (hb); replace HI0 := am_ (hi); (try clear hb); (try clear hb2); (try clear hk); (try clear hi); have hnb30 := NB173_0.out; have hnc30 := NB0_173.out; obtain ⟨hcz31_0, hcz31_1, hcz31_2, hcz31_3, hfz31_0, hfz31_1, hfz31_2, hfz31_3⟩ := cellsF4 BK173.out) | ((with_reducible refine gate_builtin (b := .append) (xs := #[.tmp 47, .tmp 51]) rfl ?_); at_builtin; refine Kd.R_append (Kd.int .u8) w.heap.size rfl (.tmp 47) (.tmp 51) 43 5 (.int .u8 0) 1 rfl Try.underlying43 info5 rfl (by decide) (by omega) u7 x7_1 ((a1_3) % 256) [.int .u8 ((a1_3) % 256)] (fun _ => True) (fun _ => False) rfl rfl ?aP (fun _ hk => hk.elim) ?aF ?aO (Below.refl _ _) ?aS ?aL ?_; (case aP => exact rfl); (case aF => exact (fun _ _ => trivial)); (case aO => exact (rk_ HO_7)); (case aS => exact au1_26); (case aL => have := LMc28.out; omega); intro v191 w32 ho hb hg hat; rw [← Ny190.out] at ho; have n0_ := am_ (bg_ BK173 hg (Kd.R_ne HO_7.out BK173.out (by decide))); have n1_ := am_ (IsS116.grown is1_0_ hg (IsS116.own_ne HI0.out HO_7.out (by decide))); have n2_ := am_ (below_weaken au1_14 HL.out hb); have n3_ := am_ (KeepBut.trans au1_1 (KeepBut.of_grown hg g) (Kd.R_base2 HO_7.out)); have n4_ := am_ (ho); clear BK173; clear HI0; clear HB; clear HK; clear HO_7; have BK173 := n0_; have HI0 := n1_; have HB := n2_; have HK := n3_; have HO192 := n4_; clear n0_ n1_ n2_ n3_ n4_; clear ho hb hg hat))
    go_roundg k1
    case measure => have := HK1.out; omega
    case rel => exact ⟨(wrap64 (x2_1 - 1)), (y190), (t178), (t179), (t180), er_, H', ⟨by have := HK1.out; omega⟩, ⟨rk_ HO192⟩, ⟨bk_ BK173⟩, ⟨is1_0_⟩, ⟨au1_12⟩, ⟨au1_9⟩⟩
   rw [if_neg c27] at H
   have c27b0 : (t177 == 3) = false := beq_eq_false_iff_ne.mpr c27
   have c27b1 : (t177 != 3) = true := bne_iff_ne.mpr c27
   replace H := bi_ H; rcases H with ⟨⟨t193, t194, t195, t196⟩, A33, H⟩
   replace H := itn_ H; rcases H with ⟨c34b0, H⟩
   replace H := itn_ H; rcases H with ⟨c35b0, H⟩
   replace H := iln_ H; rcases H with ⟨LMc37, H⟩
   obtain ⟨y197, hy197⟩ : ∃ y_ : List Int, y_ = (x7_1 ++ [bt (⟨#[65, 66, 99, 32, 49, 45]⟩ : ByteArray) t193]) := ⟨_, rfl⟩
   replace H : (F103.l0 k1 (wrap64 (x2_1 - 1)) y197 s0_0 t194 t195 t196 a1_0 a1_1 a1_2 a1_3) = some (r1, r2, r3, r4) := by first | (rw [hy197]; exact H) | exact H
   have Ny197 := am_ hy197
   clear hy197
   have H' := am_ H
   clear H
   go_wp2_with (first | ((with_reducible refine gate_callee (f := 73) rfl ?_); refine gl_ 14 Try.func73 #[.pointer (some ⟨g, 0, none⟩), .int .i64 6] ?_ rfl rfl rfl rfl; (with_reducible refine (F73.calls g s0_0 x1001_1 x1002_1 x1003_1 6 t177 t178 t179 t180 w0 _ ?s1 ?s2 A8.out).mono ?_); (case s1 => exact au1_11); (case s2 => exact au1_15); rintro e w38 ⟨rfl, hi, hb, hk⟩; refine ⟨_, rfl, ?_⟩; replace HO_7 := am_ (Kd.R_mono (Kd.R_keep (IsS116.apart (is1_0_ : IsS116 w0 _ g s0_0 x1001_1 x1002_1 x1003_1) (rk_ HO_7) (by decide)) hk (fun _ h => h.2)) (fun _ h => h.1)); replace BK173 := ka_ hk BK173 NB173_0; replace HK := am_ (KeepBut.trans au1_1 hk (.inl rfl)); replace HB := am_ (hb); replace HI0 := am_ (hi); (try clear hb); (try clear hb2); (try clear hk); (try clear hi)) | ((with_reducible refine gate_callee (f := 73) rfl ?_); refine gl_ 17 Try.func73 #[.pointer (some ⟨g, 0, none⟩), .int .i64 6] ?_ rfl rfl rfl rfl; (with_reducible refine (F73.calls g s0_0 t178 t179 t180 6 t193 t194 t195 t196 w0 _ ?s1 ?s2 A33.out).mono ?_); (case s1 => exact au1_11); (case s2 => exact au1_15); rintro e w39 ⟨rfl, hi, hb, hk⟩; refine ⟨_, rfl, ?_⟩; replace HO_7 := am_ (Kd.R_mono (Kd.R_keep (IsS116.apart (is1_0_ : IsS116 w0 _ g s0_0 t178 t179 t180) (rk_ HO_7) (by decide)) hk (fun _ h => h.2)) (fun _ h => h.1)); replace BK173 := ka_ hk BK173 NB173_0; replace HK := am_ (KeepBut.trans au1_1 hk (.inl rfl)); replace HB := am_ (hb); replace HI0 := am_ (hi); (try clear hb); (try clear hb2); (try clear hk); (try clear hi); have p36 : 0 ≤ (t193 : Int) := od_; have q36 : t193 < (6 : Int) := od_; have hx36 := bt_at (⟨#[65, 66, 99, 32, 49, 45]⟩ : ByteArray) t193; replace p36 := eq_true p36; replace q36 := eq_true q36) | ((with_reducible refine gate_builtin (b := .append) (xs := #[.tmp 15, .tmp 19]) rfl ?_); at_builtin; refine Kd.R_append (Kd.int .u8) w.heap.size rfl (.tmp 15) (.tmp 19) 43 5 (.int .u8 0) 1 rfl Try.underlying43 info5 rfl (by decide) (by omega) u7 x7_1 (bt (⟨#[65, 66, 99, 32, 49, 45]⟩ : ByteArray) t193) [.int .u8 (bt (⟨#[65, 66, 99, 32, 49, 45]⟩ : ByteArray) t193)] (fun _ => True) (fun _ => False) rfl rfl ?aP (fun _ hk => hk.elim) ?aF ?aO (Below.refl _ _) ?aS ?aL ?_; (case aP => exact rfl); (case aF => exact (fun _ _ => trivial)); (case aO => exact (rk_ HO_7)); (case aS => exact au1_26); (case aL => have := LMc37.out; omega); intro v198 w40 ho hb hg hat; rw [← Ny197.out] at ho; have n0_ := am_ (bg_ BK173 hg (Kd.R_ne HO_7.out BK173.out (by decide))); have n1_ := am_ (IsS116.grown is1_0_ hg (IsS116.own_ne HI0.out HO_7.out (by decide))); have n2_ := am_ (below_weaken au1_14 HL.out hb); have n3_ := am_ (KeepBut.trans au1_1 (KeepBut.of_grown hg g) (Kd.R_base2 HO_7.out)); have n4_ := am_ (ho); clear BK173; clear HI0; clear HB; clear HK; clear HO_7; have BK173 := n0_; have HI0 := n1_; have HB := n2_; have HK := n3_; have HO199 := n4_; clear n0_ n1_ n2_ n3_ n4_; clear ho hb hg hat))
   go_roundg k1
   case measure => have := HK1.out; omega
   case rel => exact ⟨(wrap64 (x2_1 - 1)), (y197), (t194), (t195), (t196), er_, H', ⟨by have := HK1.out; omega⟩, ⟨rk_ HO199⟩, ⟨bk_ BK173⟩, ⟨is1_0_⟩, ⟨au1_12⟩, ⟨au1_9⟩⟩
end Go.Proofs.Ytlghcbmkhdibdaa.PFnFirstSegments
