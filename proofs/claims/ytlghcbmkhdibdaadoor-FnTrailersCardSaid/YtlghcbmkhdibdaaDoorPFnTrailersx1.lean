-- printed by a program of this session (wip/xp/xprint.py) out of the translation; Lean checks it
import Derived.Test.YtlghcbmkhdibdaaDoorPFnTrailersx0
namespace Go.Proofs.YtlghcbmkhdibdaaDoor.PFnTrailers
open Go.RowKit Go.Proofs.YtlghcbmkhdibdaaDoorW.PrintWords Go.Proofs.YtlghcbmkhdibdaaDoorW.PrintLast Go.Proofs.YtlghcbmkhdibdaaDoorW.PrintMore
attribute [local go_sem] max2_int min2_int max_two min_two max_three min_three max_four min_four   -- for this text's walks alone
set_option linter.unusedVariables false
set_option linter.unusedSimpArgs false
set_option maxHeartbeats 8000000
set_option maxRecDepth 100000

/-- A state of type 111 at block g of W; what its slices lead to came in by w0. -/
def IsS111 (w0 W : World) (g : Nat) (f0 : List Int) (f1 : Int) (f2 : Int) (f3 : Int) : Prop := ∃ A0 c0, W.heap[g]? = some (.cells #[.slice A0 f0.length c0, .int .i64 f1, .int .u64 f2, .int .i64 f3] 111 (0, 0)) ∧ w0.heap.size ≤ g ∧ Kd.C (Kd.int .u8) w0 A0 f0.length f0
theorem IsS111.grown {w0 W : World} {g : Nat} {f0 : List Int} {f1 : Int} {f2 : Int} {f3 : Int} {W1 : World} {row : Option Nat} (h : IsS111 w0 W g f0 f1 f2 f3) (hw : W.grownBy W1 row) (hne : some g ≠ row) : IsS111 w0 W1 g f0 f1 f2 f3 := by
 obtain ⟨A0, c0, hb, hg, eQ⟩ := h
 exact ⟨A0, c0, blk_grown hb hw hne, hg, eQ⟩
theorem IsS111.own_neN {w0 W : World} {g : Nat} {f0 : List Int} {f1 : Int} {f2 : Int} {f3 : Int} {α : Type} {d : Kd α} {e : Nat} {base : Nat} {ok : Nat → Prop} {v : Value} {xs : List α} (h : IsS111 w0 W g f0 f1 f2 f3) (ho : Kd.N d e W base ok v xs) (ht : e ≠ 111) : some g ≠ v.ownBlock := by
 obtain ⟨A0, c0, hb, hg, eQ⟩ := h
 exact Kd.N_ne ho hb ht
theorem IsS111.fresh {w0 W : World} {g : Nat} {f0 : List Int} {f1 : Int} {f2 : Int} {f3 : Int} (h : IsS111 w0 W g f0 f1 f2 f3) : ∀ k, W.heap.size ≤ k → k ≠ g := by
 obtain ⟨A0, c0, hb, hg, eQ⟩ := h
 exact Kd.freshB hb
theorem IsS111.kept {w0 W : World} {g : Nat} {f0 : List Int} {f1 : Int} {f2 : Int} {f3 : Int} {W1 : World} {S : Nat → Prop} (h : IsS111 w0 W g f0 f1 f2 f3) (hk : Kept W W1 S) (hne : ¬ S g) : IsS111 w0 W1 g f0 f1 f2 f3 := by
 obtain ⟨A0, c0, hb, hg, eQ⟩ := h
 exact ⟨A0, c0, blk_kept hb hk hne, hg, eQ⟩
theorem IsS111.below {w0 W : World} {g : Nat} {f0 : List Int} {f1 : Int} {f2 : Int} {f3 : Int} {W1 : World} (h : IsS111 w0 W g f0 f1 f2 f3) (hw : Below W.heap.size W W1) : IsS111 w0 W1 g f0 f1 f2 f3 := h.grown (grown_of_below hw none) (by simp)
theorem IsS111.alloc {w0 W : World} {g : Nat} {f0 : List Int} {f1 : Int} {f2 : Int} {f3 : Int} (h : IsS111 w0 W g f0 f1 f2 f3) (o : Obj) : IsS111 w0 (W.alloc o) g f0 f1 f2 f3 := h.below (below_alloc (Below.refl _ _) o)
theorem IsS111.drewN {w0 W : World} {g : Nat} {f0 : List Int} {f1 : Int} {f2 : Int} {f3 : Int} (h : IsS111 w0 W g f0 f1 f2 f3) (m : Nat) : IsS111 w0 (W.drewN m) g f0 f1 f2 f3 := h
theorem IsS111.drew {w0 W : World} {g : Nat} {f0 : List Int} {f1 : Int} {f2 : Int} {f3 : Int} (h : IsS111 w0 W g f0 f1 f2 f3) : IsS111 w0 W.drew g f0 f1 f2 f3 := h
theorem IsS111.at_ {w0 W : World} {g : Nat} {f0 : List Int} {f1 : Int} {f2 : Int} {f3 : Int} {w' : World} {m : Nat} (hq : W.drewN m = w') (h : IsS111 w0 W g f0 f1 f2 f3) : IsS111 w0 w' g f0 f1 f2 f3 := by subst hq; exact IsS111.drewN h m
theorem IsS111.apart {w0 W : World} {g : Nat} {f0 : List Int} {f1 : Int} {f2 : Int} {f3 : Int} {α : Type} {d : Kd α} {e : Nat} {base : Nat} {ok : Nat → Prop} {v : Value} {xs : List α} (h : IsS111 w0 W g f0 f1 f2 f3) (ho : d.R e W base ok v xs) (ht : ∀ q, q ∈ e :: d.E → q ≠ 111) : d.R e W base (fun k => ok k ∧ k ≠ g) v xs := by
 obtain ⟨A0, c0, hb, hg, eQ⟩ := h
 exact Kd.R_types ho hb ht
theorem IsS111.own_ne {w0 W : World} {g : Nat} {f0 : List Int} {f1 : Int} {f2 : Int} {f3 : Int} {α : Type} {d : Kd α} {e : Nat} {base : Nat} {ok : Nat → Prop} {v : Value} {xs : List α} (h : IsS111 w0 W g f0 f1 f2 f3) (ho : d.R e W base ok v xs) (ht : e ≠ 111) : some g ≠ v.ownBlock := by
 obtain ⟨A0, c0, hb, hg, eQ⟩ := h
 exact Kd.R_ne ho hb ht
theorem IsS111.apartQ {w0 W : World} {g : Nat} {f0 : List Int} {f1 : Int} {f2 : Int} {f3 : Int} {α : Type} {d : Kd α} {e : Nat} {base : Nat} {ok : Nat → Prop} {v : Value} {xs : List α} (h : IsS111 w0 W g f0 f1 f2 f3) (ho : d.Q e W base ok v xs) (ht : ∀ q, q ∈ e :: d.E → q ≠ 111) : d.Q e W base (fun k => ok k ∧ k ≠ g) v xs := by
 obtain ⟨A0, c0, hb, hg, eQ⟩ := h
 exact Kd.Q_types ho hb ht
theorem IsS111.own_neQ {w0 W : World} {g : Nat} {f0 : List Int} {f1 : Int} {f2 : Int} {f3 : Int} {α : Type} {d : Kd α} {e : Nat} {base : Nat} {ok : Nat → Prop} {v : Value} {xs : List α} (h : IsS111 w0 W g f0 f1 f2 f3) (ho : d.Q e W base ok v xs) (ht : e ≠ 111) : some g ≠ v.ownBlock := by
 obtain ⟨A0, c0, hb, hg, eQ⟩ := h
 exact Kd.Q_ne ho hb ht
theorem IsS111.apartS {w0 W : World} {g : Nat} {f0 : List Int} {f1 : Int} {f2 : Int} {f3 : Int} {α : Type} {d : Kd α} {e : Nat} {base : Nat} {ok : Nat → Prop} {v : Value} {xs : List α} (h : IsS111 w0 W g f0 f1 f2 f3) (ho : d.S e W base ok v xs) (ht : ∀ q, q ∈ e :: d.E → q ≠ 111) : d.S e W base (fun k => ok k ∧ k ≠ g) v xs := by
 obtain ⟨A0, c0, hb, hg, eQ⟩ := h
 exact Kd.S_types ho hb ht
theorem IsS111.own_neS {w0 W : World} {g : Nat} {f0 : List Int} {f1 : Int} {f2 : Int} {f3 : Int} {α : Type} {d : Kd α} {e : Nat} {base : Nat} {ok : Nat → Prop} {v : Value} {xs : List α} (h : IsS111 w0 W g f0 f1 f2 f3) (ho : d.S e W base ok v xs) (ht : e ≠ 111) : some g ≠ v.ownBlock := by
 obtain ⟨A0, c0, hb, hg, eQ⟩ := h
 exact Kd.S_ne ho hb ht
theorem IsS111.lt {w0 W : World} {g : Nat} {f0 : List Int} {f1 : Int} {f2 : Int} {f3 : Int} (h : IsS111 w0 W g f0 f1 f2 f3) : g < W.heap.size := by
 obtain ⟨A0, c0, hb, hg, eQ⟩ := h
 exact blk_lt hb
theorem IsS111.ge {w0 W : World} {g : Nat} {f0 : List Int} {f1 : Int} {f2 : Int} {f3 : Int} (h : IsS111 w0 W g f0 f1 f2 f3) : w0.heap.size ≤ g := by
 obtain ⟨A0, c0, hb, hg, eQ⟩ := h
 exact hg
theorem IsS111.ne_blk {w0 W : World} {g : Nat} {f0 : List Int} {f1 : Int} {f2 : Int} {f3 : Int} {a : Nat} {cs : Array Value} {t : TypeId} {fr : Nat × Nat} (h : IsS111 w0 W g f0 f1 f2 f3) (hb2 : W.heap[a]? = some (.cells cs t fr)) (ht : t ≠ 111) : g ≠ a := by
 obtain ⟨A0, c0, hb, hg, eQ⟩ := h
 rintro rfl
 rw [hb] at hb2
 injection hb2 with hb2
 injection hb2 with _ OS
 exact ht OS.symm
theorem IsS111.far {w0 W : World} {g : Nat} {f0 : List Int} {f1 : Int} {f2 : Int} {f3 : Int} {p : Addr} (h : IsS111 w0 W g f0 f1 f2 f3) (hne : g ≠ p.block) (u : Value) : IsS111 w0 (W.setCell p u) g f0 f1 f2 f3 := by
 obtain ⟨A0, c0, hb, hg, eQ⟩ := h
 exact ⟨A0, c0, blk_far hb hne u, hg, eQ⟩
theorem cellS111_0 {W : World} {g : Nat} {A0 : Option Addr} {c0 : Nat} {f0 : List Int} {f1 : Int} {f2 : Int} {f3 : Int} (h : W.heap[g]? = some (.cells #[.slice A0 f0.length c0, .int .i64 f1, .int .u64 f2, .int .i64 f3] 111 (0, 0))) : W.cell? ⟨g, 0, none⟩ = some (.slice A0 f0.length c0) := (blk_cell h 0).trans rfl
theorem cellS111_1 {W : World} {g : Nat} {A0 : Option Addr} {c0 : Nat} {f0 : List Int} {f1 : Int} {f2 : Int} {f3 : Int} (h : W.heap[g]? = some (.cells #[.slice A0 f0.length c0, .int .i64 f1, .int .u64 f2, .int .i64 f3] 111 (0, 0))) : W.cell? ⟨g, 1, none⟩ = some (.int .i64 f1) := (blk_cell h 1).trans rfl
theorem IsS111.set_1 {w0 W : World} {g : Nat} {f0 : List Int} {f1 : Int} {f2 : Int} {f3 : Int} (h : IsS111 w0 W g f0 f1 f2 f3) (x : Int) : IsS111 w0 (W.setCell ⟨g, 1, none⟩ (.int .i64 x)) g f0 x f2 f3 := by
 obtain ⟨A0, c0, hb, hg, eQ⟩ := h
 exact ⟨A0, c0, by simpa using blk_set hb 1 (.int .i64 x), hg, eQ⟩
theorem cellS111_2 {W : World} {g : Nat} {A0 : Option Addr} {c0 : Nat} {f0 : List Int} {f1 : Int} {f2 : Int} {f3 : Int} (h : W.heap[g]? = some (.cells #[.slice A0 f0.length c0, .int .i64 f1, .int .u64 f2, .int .i64 f3] 111 (0, 0))) : W.cell? ⟨g, 2, none⟩ = some (.int .u64 f2) := (blk_cell h 2).trans rfl
theorem IsS111.set_2 {w0 W : World} {g : Nat} {f0 : List Int} {f1 : Int} {f2 : Int} {f3 : Int} (h : IsS111 w0 W g f0 f1 f2 f3) (x : Int) : IsS111 w0 (W.setCell ⟨g, 2, none⟩ (.int .u64 x)) g f0 f1 x f3 := by
 obtain ⟨A0, c0, hb, hg, eQ⟩ := h
 exact ⟨A0, c0, by simpa using blk_set hb 2 (.int .u64 x), hg, eQ⟩
theorem cellS111_3 {W : World} {g : Nat} {A0 : Option Addr} {c0 : Nat} {f0 : List Int} {f1 : Int} {f2 : Int} {f3 : Int} (h : W.heap[g]? = some (.cells #[.slice A0 f0.length c0, .int .i64 f1, .int .u64 f2, .int .i64 f3] 111 (0, 0))) : W.cell? ⟨g, 3, none⟩ = some (.int .i64 f3) := (blk_cell h 3).trans rfl
theorem IsS111.set_3 {w0 W : World} {g : Nat} {f0 : List Int} {f1 : Int} {f2 : Int} {f3 : Int} (h : IsS111 w0 W g f0 f1 f2 f3) (x : Int) : IsS111 w0 (W.setCell ⟨g, 3, none⟩ (.int .i64 x)) g f0 f1 f2 x := by
 obtain ⟨A0, c0, hb, hg, eQ⟩ := h
 exact ⟨A0, c0, by simpa using blk_set hb 3 (.int .i64 x), hg, eQ⟩
theorem IsS111.new (w0 W : World) (A0 : Option Addr) (c0 : Nat) (f0 : List Int) (f1 : Int) (f2 : Int) (f3 : Int) (hB : Below w0.heap.size w0 W) (eQ : Kd.C (Kd.int .u8) w0 A0 f0.length f0) : IsS111 w0 (W.alloc (.cells #[.slice A0 f0.length c0, .int .i64 f1, .int .u64 f2, .int .i64 f3] 111)) W.heap.size f0 f1 f2 f3 := ⟨A0, c0, by simpa using heap_alloc_new W _, hB.size, eQ⟩

theorem is1_0_ {p : Prop} (h : p := by repeat (first | (with_reducible first | exact ay.out | apply IsS111.alloc | apply IsS111.drewN | apply IsS111.drew | apply IsS111.set_1 | apply IsS111.set_2 | apply IsS111.set_3 | refine IsS111.far ?_ (Aside0.out (by assumption)) _) | exact ay.out)) : p := h

theorem au1_0 {p : Prop} (h : p := by repeat (first | (with_reducible first | exact HK.out | apply KeepBut.set_ | apply keep_drewN | apply keep_drew | apply keep_alloc | refine keep_far ?_ IF.out _) | exact HK.out)) : p := h
theorem au1_1 {p : Prop} (h : p := by repeat (first | (with_reducible first | exact HB.out | apply below_alloc | apply pw_below_drewN | apply below_drew1 | refine below_set ?_ (IsS111.ge ay.out)) | exact HB.out)) : p := h
theorem au1_2 {p : Prop} (h : p := by repeat (first | (with_reducible first | exact HK.out | apply KeepBut.set_ | apply keep_drewN | apply keep_drew | apply keep_alloc) | exact HK.out)) : p := h
theorem au1_3 {p : Prop} (h : p := by repeat (first | (with_reducible first | exact HB.out | apply below_alloc | apply pw_below_drewN | apply below_drew1 | refine below_set ?_ (IsS111.ge ay.out) | refine below_set ?_ AS.out) | exact HB.out)) : p := h
theorem au1_4 {p : Prop} (h : p := by repeat (first | (with_reducible first | exact ay.out | apply IsS111.alloc | apply IsS111.drewN | apply IsS111.drew | apply IsS111.set_1 | apply IsS111.set_2 | apply IsS111.set_3 | refine IsS111.far ?_ lR.out _) | exact ay.out)) : p := h
theorem au1_5 {p : Prop} (h : p := by first | rfl | (simp [errW_none, errW_some] <;> rfl) | (simp [*, errW_none, errW_some] <;> rfl)) : p := h
theorem au1_6 {p : Prop} (h : p := by repeat (first | (with_reducible first | exact HK.out | apply KeepBut.set_ | apply keep_drewN | apply keep_drew | apply keep_alloc | refine keep_far ?_ IF.out _) | exact HK.out)) : p := h
theorem au1_7 {p : Prop} (h : p := by repeat (first | (with_reducible first | exact HB.out | apply below_alloc | apply pw_below_drewN | apply below_drew1 | refine below_set ?_ (IsS111.ge ay.out) | refine below_set ?_ AS.out) | exact HB.out)) : p := h
theorem au1_8 {p : Prop} (h : p := by repeat (first | (with_reducible first | exact HB.out | apply below_alloc | apply pw_below_drewN | apply below_drew1 | refine below_set ?_ (IsS111.ge ay.out) | refine below_set ?_ AS.out) | exact HB.out)) : p := h
theorem au1_9 {p : Prop} (h : p := by repeat (first | (with_reducible first | exact HBW.out | apply below_alloc | apply pw_below_drewN | apply below_drew1 | refine below_set ?_ OT.out) | exact HBW.out)) : p := h
theorem au1_10 {p : Prop} (h : p := by rintro w' ⟨s0, s1, s2, s3⟩; go_simp; with_reducible rfl) : p := h
theorem au1_11 {p : Prop} (h : p := by repeat (first | (with_reducible first | exact HK.out | apply KeepBut.set_ | apply keep_drewN | apply keep_drew | apply keep_alloc) | exact HK.out)) : p := h
theorem au1_12 {p : Prop} (h : p := by rintro w' ⟨s0, s1, s2, s3, s4⟩; go_simp; with_reducible rfl) : p := h
theorem au1_13 {p : Prop} (h : p := by repeat (first | (with_reducible first | exact ay.out | apply IsS111.alloc | apply IsS111.drewN | apply IsS111.drew | apply IsS111.set_1 | apply IsS111.set_2 | apply IsS111.set_3) | exact ay.out)) : p := h
theorem au1_14 {p : Prop} (h : p := by have := HJ1.out; have := HK2.out; first | omega | exact Nat.le_refl _) : p := h
theorem au1_16 {p : Prop} (h : p := by repeat (first | (with_reducible first | exact HB.out | apply below_alloc | apply pw_below_drewN | apply below_drew1 | refine below_set ?_ (IsS111.ge ay.out)) | exact HB.out)) : p := h
theorem au1_17 {p : Prop} (h : p := by repeat (first | (with_reducible first | exact HBW.out | apply below_alloc | apply pw_below_drewN | apply below_drew1) | exact HBW.out)) : p := h
theorem au1_18 {p : Prop} (h : p := by have := HJ1.out; have := HK2.out; have := KR.out; have := Fs.out; omega) : p := h
theorem au1_15 {p : Prop} (h : p := by exact (keep_size (w := w) (g := g) (row := none) au1_0)) : p := h

/-! ### F44: function 44 -/
def F44.l0 : Nat → List Int → Int → List Int → Int → Int → Int → Option (List Int × Int × Int × Int)
  | 0, _, _, _, _, _, _ => none
  | k + 1, x0, x4, lS, lT, lU, FD => if x4 < (x0.length : Int) then (if x4 < 64 then (if 0 ≤ x4 then (F44.l0 k x0 (wrap64 (x4 + 1)) lS lT (IntKind.u64.wrap ((Go.bits .xor .u64 lU (IntKind.u64.wrap (rd x0 x4))) * 1099511628211)) FD) else (none)) else (if (wrap64 ((x0.length : Int) / 20)) > 12 then (some (lS, lT, lU, 12)) else (some (lS, lT, lU, wrap64 ((x0.length : Int) / 20))))) else (if (wrap64 ((x0.length : Int) / 20)) > 12 then (some (lS, lT, lU, 12)) else (some (lS, lT, lU, wrap64 ((x0.length : Int) / 20))))
def F44.f (k : Nat) (l0 : List Int) : Option (List Int × Int × Int × Int) := F44.l0 k l0 0 l0 0 88172645463325252 0
theorem F44.mono_l : ∀ k, (∀ y0 y1 y2 y3 y4 y5, LeO (F44.l0 k y0 y1 y2 y3 y4 y5) (F44.l0 (k + 1) y0 y1 y2 y3 y4 y5))
 | 0 => fun _ _ _ _ _ _ r h => by simp [F44.l0] at h
 | k + 1 => by
  have b6 := F44.mono_l k
  intro y0 y1 y2 y3 y4 y5
  unfold F44.l0
  repeat' with_reducible first | exact b6 _ _ _ _ _ _ | exact LeO.refl _ | exact LeO.none _ | refine LeO.ite ?_ ?_ | refine LeO.bind ?_ (fun _ => ?_)
theorem F44.mono : ∀ a0 k, LeO (F44.f k a0) (F44.f (k + 1) a0) := by
 intro a0 k
 have b6 := F44.mono_l k
 unfold F44.f
 repeat' with_reducible first | exact b6 _ _ _ _ _ _ | exact LeO.refl _ | exact LeO.none _ | refine LeO.ite ?_ ?_ | refine LeO.bind ?_ (fun _ => ?_)
def F44.T5 : Bool × List (List Nat × List Nat) := (true, [([], []), ([], []), ([1], [1]), ([2], [2]), ([3], [3]), ([], []), ([], []), ([5, 6], [5, 6]), ([7], [7]), ([8], [8]), ([4, 9], [4, 9]), ([10], [10]), ([0, 0, 1, 2, 3, 4, 5, 6, 7, 8, 9, 10, 11], [0]), ([12, 0, 1, 2, 3, 4, 5, 6, 7, 8, 9, 10, 11], [12]), ([13, 11, 0, 1, 2, 3, 4, 5, 6, 7, 8, 9, 10, 11], [11, 13])])
def F44.B5 : List Nat := [0, 0, 2, 6, 14, 0, 0, 96, 224, 480, 1022, 2046, 4095, 8191, 16383]
theorem F44.tab5 : rtab .any (opsOf Tryd.f44 5) = F44.T5 := by kernel_rfl
theorem F44.bits5 : waitsOk F44.T5.2 F44.B5 = true := by kernel_rfl
theorem F44.calls (k : Nat) (A0 : Option Addr) (c0 : Nat) (l0 : List Int) (r1 : List Int) (r2 : Int) (r3 : Int) (r4 : Int) (w0 w : World) (hB : Below w0.heap.size w0 w) (eQ : Kd.C (Kd.int .u8) w0 A0 l0.length l0) (f9 : l0.length ≤ c0) (h : F44.f k l0 = some (r1, r2, r3, r4)) :
  Calls Tryd.prog 44 #[.slice A0 l0.length c0] w fun e w' => ∃ g_ : Nat, e = .returned (.pointer (some ⟨g_, 0, none⟩)) ∧ IsS111 w0 w' g_ r1 r2 r3 r4 ∧ Below w0.heap.size w0 w' ∧ Below w.heap.size w w' := by
 have a8R := Tryd.underlying111
 have n3 := am_ eQ
 have sV := am_ f9
 clear eQ f9
 have HBW := am_ (Below.refl w.heap.size w)
 have qy := am_ hB.size
 have HB := am_ hB
 clear hB
 have H : (F44.l0 k l0 0 l0 0 88172645463325252 0) = some (r1, r2, r3, r4) := h
 clear h
 have H' := am_ H
 clear H
 go_enter Tryd.func44, Tryd.ntmps44
 go_wp2_with (first | ((with_reducible refine gate_dst (N := 7) rfl ?_); refine be_ 7 #[.slice A0 l0.length c0, .int .i64 0, .int .u64 88172645463325252, .int .i64 0] 111 ?_; intro jm hg w2 hbox hb; replace HB := am_ (below_step bl_ hb); have eZ := am_ (hbox); have OT := am_ ((by rw [hg]; exact (below_size au1_17) : w.heap.size ≤ jm)); have wu := am_ ((Nat.le_trans qy.out (by rw [hg]; exact (below_size au1_17) : w.heap.size ≤ jm) : w0.heap.size ≤ jm)); replace HBW := am_ (below_step HBW.out hb); clear hb hbox hg))
 go_loopg [4] k (fun kq v4 w' => ∃ (aJ : Int) (dN : Int), v4 = .int .i64 aJ ∧ Aside0 (F44.l0 kq l0 aJ l0 0 dN 0 = some (r1, r2, r3, r4)) ∧ Aside0 (kq ≤ k) ∧ Aside0 (w'.heap[jm]? = some (.cells #[(.slice A0 l0.length c0), .int .i64 0, .int .u64 dN, .int .i64 0] 111 (0, 0))) ∧ Aside0 (Below w.heap.size w w') ∧ Aside0 (Below w0.heap.size w0 w'))
 case atStart => exact ⟨(0), (88172645463325252), er_, H', ⟨Nat.le_refl _⟩, ⟨bk_ eZ⟩, ⟨au1_9⟩, ⟨bl_⟩⟩
 case round =>
  clear H'
  obtain ⟨aJ, dN, rfl, HA, dk, eZ, HBW, HB⟩ := hrel
  cases gk with
  | zero => exact absurd HA.out (by simp [F44.l0])
  | succ k1 =>
   have H := HA.out
   clear HA
   simp only [F44.l0] at H
   replace H := it_ H; rcases H with ⟨c3b0, H⟩ | ⟨c3b0, H⟩
   rotate_left
   ·replace H := it_ H; rcases H with ⟨(c11b0 : decide (12 < (wrap64 ((l0.length : Int) / 20))) = true), H⟩ | ⟨(c11b0 : decide (12 < (wrap64 ((l0.length : Int) / 20))) = false), H⟩
    ·simp only [Option.some.injEq, Prod.mk.injEq] at H
     obtain ⟨rfl, rfl, rfl, rfl⟩ := H
     obtain ⟨cQ, cR, dR, dS, cS, cT, dT, dU⟩ := cellsF4 eZ.out
     go_wp2
     go_ret
     exact ⟨_, rfl, (show IsS111 w0 _ jm l0 0 dN 12 from ⟨_, _, bq_ eZ, wu.out, n3.out⟩), bl_, au1_9⟩
    simp only [Option.some.injEq, Prod.mk.injEq] at H
    obtain ⟨rfl, rfl, rfl, rfl⟩ := H
    obtain ⟨fQ, fR, fS, fT, iF, fU, fV, fW⟩ := cellsF4 eZ.out
    go_wp2
    go_ret
    exact ⟨_, rfl, (show IsS111 w0 _ jm l0 0 dN (wrap64 ((l0.length : Int) / 20)) from ⟨_, _, bq_ eZ, wu.out, n3.out⟩), bl_, au1_9⟩

   replace H := it_ H; rcases H with ⟨c4b0, H⟩ | ⟨c4b0, H⟩
   rotate_left
   ·replace H := it_ H; rcases H with ⟨(c8b0 : decide (12 < (wrap64 ((l0.length : Int) / 20))) = true), H⟩ | ⟨(c8b0 : decide (12 < (wrap64 ((l0.length : Int) / 20))) = false), H⟩
    rotate_left
    ·simp only [Option.some.injEq, Prod.mk.injEq] at H
     obtain ⟨rfl, rfl, rfl, rfl⟩ := H
     obtain ⟨oE, wv, Yq, Yr, oF, ww, Ys, Yt⟩ := cellsF4 eZ.out
     go_wp2
     go_ret
     exact ⟨_, rfl, (show IsS111 w0 _ jm l0 0 dN (wrap64 ((l0.length : Int) / 20)) from ⟨_, _, bq_ eZ, wu.out, n3.out⟩), bl_, au1_9⟩
    simp only [Option.some.injEq, Prod.mk.injEq] at H
    obtain ⟨rfl, rfl, rfl, rfl⟩ := H
    obtain ⟨jf, jg, nh, ni, kp, jh, nj, nk⟩ := cellsF4 eZ.out
    go_wp2
    go_ret
    exact ⟨_, rfl, (show IsS111 w0 _ jm l0 0 dN 12 from ⟨_, _, bq_ eZ, wu.out, n3.out⟩), bl_, au1_9⟩
   replace H := itn_ H; rcases H with ⟨c5b0, H⟩
   have H' := am_ H
   clear H
   try go_wp2
   replace eZ := bd_ eZ
   replace HB := am_ (below_drew1 HB.out)
   replace HBW := am_ (below_drew1 HBW.out)
   have KS : 0 ≤ (aJ : Int) := od_
   have KT : aJ < (l0.length : Int) := od_
   obtain ⟨IG, a2Z, oG⟩ := Kd.at_int n3.out aJ KS KT
   have wx := oG
   cases a2Z
   replace oG := pw_cell_below HB.out oG
   replace KS := eq_true KS
   replace KT := eq_true KT
   refine start_ (n := 15) (S := fun w' => w'.cell? ⟨jm, 0, none⟩ = some (.slice (some IG) l0.length c0) ∧ w'.cell? ⟨jm, 1, none⟩ = some (.int .i64 0) ∧ w'.cell? ⟨jm, 2, none⟩ = some (.int .u64 dN) ∧ w'.cell? ⟨jm, 3, none⟩ = some (.int .i64 0) ∧ w'.cell? (IG.add (aJ).toNat) = some (.int .u8 (rd l0 aJ))) (ds := [14]) (bs 15 0) (by kernel_rfl) rfl rfl ⟨(blk_cell eZ.out 0).trans rfl, (blk_cell eZ.out 1).trans rfl, (blk_cell eZ.out 2).trans rfl, (blk_cell eZ.out 3).trans rfl, ((HB.out.cell (World.block_lt_of_cell? _ _ wx)).trans wx)⟩ (fun hHeld => ?_); refine with_tabW F44.tab5 F44.bits5 (fun HT_ HW_ => ?_)
   generalize wr.drew = w6 at eZ HB HBW oG hHeld ⊢
   refine pu_ 0 18 (bs 15 1) HT_ ?_ rfl rfl
   refine pu_ 1 19 (bs 15 3) HT_ ?_ rfl rfl
   refine pu_ 2 20 (bs 15 7) HT_ ?_ rfl rfl
   refine pu_ 3 21 (bs 15 15) HT_ ?_ rfl rfl
   refine pu_ 5 23 (bs 15 47) HT_ ?_ rfl rfl
   refine pu_ 6 24 (bs 15 111) HT_ ?_ rfl rfl
   refine pu_ 7 25 (bs 15 239) HT_ ?_ rfl rfl
   refine tk_ 4 22 (bs 15 255) HT_ HW_ hHeld au1_12 ?_ rfl rfl
   refine tk_ 8 26 (bs 15 511) HT_ HW_ hHeld au1_12 ?_ rfl rfl
   refine pu_ 9 27 (bs 15 1023) HT_ ?_ rfl rfl
   refine pu_ 10 28 (bs 15 2047) HT_ ?_ rfl rfl
   refine pu_ 11 29 (bs 15 4095) HT_ ?_ rfl rfl
   refine pu_ 12 30 (bs 15 8191) HT_ ?_ rfl rfl
   refine pu_ 13 31 (bs 15 16383) HT_ ?_ rfl rfl
   refine last_ (i := 14) (N := none) (bs 15 32767) rfl rfl (one_of HT_.out (by kernel_rfl)) (by decide) (fun K hK => ?_)
   have hs7 : w6.cell? ⟨jm, 2, none⟩ = some (.int .u64 dN) := (blk_cell eZ.out 2).trans rfl
   have b18 := blk_frozen eZ.out 2
   refine skip_ (w1 := ?_) (by rfl) rfl ?_ ?_
   rotate_left
   ·go_simp
    rfl
   refine hK.out _ _ ?_
   clear hK K
   refine done_ (done_of HT_.out (by kernel_rfl)) ?_
   try go_wp2
   go_roundg k1
   case measure => have := dk.out; omega
   case rel => exact ⟨(wrap64 (aJ + 1)), (IntKind.u64.wrap ((Go.bits .xor .u64 dN (IntKind.u64.wrap (rd l0 aJ))) * 1099511628211)), er_, H', ⟨by have := dk.out; omega⟩, ⟨bq_ eZ⟩, ⟨au1_9⟩, ⟨bl_⟩⟩
/-! ### F71: function 71 -/
def F71.l0 : Nat → ByteArray → Int → Option (Bool)
  | 0, _, _ => none
  | k + 1, x0, x3 => if x3 < 3 then (if 0 ≤ x3 then (if x3 < (x0.size : Int) then (if (bt x0 x3) < 65 then (some false) else (if (bt x0 x3) > 90 then (some false) else (F71.l0 k x0 (wrap64 (x3 + 1))))) else (none)) else (none)) else (some true)
def F71.f (k : Nat) (a0 : ByteArray) : Option (Bool) := if (a0.size : Int) = 3 then (F71.l0 k a0 0) else (some false)
theorem F71.mono_l : ∀ k, (∀ y0 y1, LeO (F71.l0 k y0 y1) (F71.l0 (k + 1) y0 y1))
 | 0 => fun _ _ r h => by simp [F71.l0] at h
 | k + 1 => by
  have b6 := F71.mono_l k
  intro y0 y1
  unfold F71.l0
  repeat' with_reducible first | exact b6 _ _ | exact LeO.refl _ | exact LeO.none _ | refine LeO.ite ?_ ?_ | refine LeO.bind ?_ (fun _ => ?_)
theorem F71.mono : ∀ a0 k, LeO (F71.f k a0) (F71.f (k + 1) a0) := by
 intro a0 k
 have b6 := F71.mono_l k
 unfold F71.f
 repeat' with_reducible first | exact b6 _ _ | exact LeO.refl _ | exact LeO.none _ | refine LeO.ite ?_ ?_ | refine LeO.bind ?_ (fun _ => ?_)
theorem F71.calls (k : Nat) (a0 : ByteArray) (r : Bool) (w : World) (h : F71.f k a0 = some r) :
  Calls Tryd.prog 71 #[.string a0] w fun e w' => e = .returned (.bool r) ∧ Drawn0 w w' := by
 have H : (if (a0.size : Int) = 3 then (F71.l0 k a0 0) else (some false)) = some r := h
 clear h
 by_cases c2 : (a0.size : Int) = 3
 rotate_left
 ·rw [if_neg c2] at H
  have c2b0 : ((a0.size : Int) == 3) = false := beq_eq_false_iff_ne.mpr c2
  have c2b1 : ((a0.size : Int) != 3) = true := bne_iff_ne.mpr c2
  obtain rfl := Option.some.inj H
  go_enter Tryd.func71, Tryd.ntmps71
  go_wp2
  go_ret
  exact ⟨er_, dn_⟩

 rw [if_pos c2] at H
 have c2b0 : ((a0.size : Int) == 3) = true := beq_iff_eq.mpr c2
 have c2b1 : ((a0.size : Int) != 3) = false := bne_eq_false_iff_eq.mpr c2
 clear c2
 have H' := am_ H
 clear H
 go_enter Tryd.func71, Tryd.ntmps71
 go_wp2
 go_loopg [3] k (fun kq v3 w' => ∃ (cl : Int), v3 = .int .i64 cl ∧ Aside0 (F71.l0 kq a0 cl = some r) ∧ Aside0 (kq ≤ k) ∧ Drawn0 w w')
 case atStart => exact ⟨(0), er_, H', ⟨Nat.le_refl _⟩, dn_⟩
 case round =>
  clear H'
  try clear c2
  try clear c2b0
  try clear c2b1
  obtain ⟨cl, rfl, HA, dk, ⟨m1, rfl⟩⟩ := hrel
  cases gk with
  | zero => exact absurd HA.out (by simp [F71.l0])
  | succ k1 =>
   have H := HA.out
   clear HA
   simp only [F71.l0] at H
   replace H := it_ H; rcases H with ⟨c3b0, H⟩ | ⟨c3b0, H⟩
   rotate_left
   ·obtain rfl := Option.some.inj H
    go_wp2
    go_ret
    exact ⟨er_, dn_⟩
   replace H := itn_ H; rcases H with ⟨c4b0, H⟩
   replace H := itn_ H; rcases H with ⟨c5b0, H⟩
   replace H := it_ H; rcases H with ⟨c7b0, H⟩ | ⟨c7b0, H⟩
   ·obtain rfl := Option.some.inj H
    have p6 : 0 ≤ (cl : Int) := od_
    have q6 : cl < (a0.size : Int) := od_
    have OA := bt_at a0 cl
    replace p6 := eq_true p6
    replace q6 := eq_true q6
    go_wp2
    go_ret
    exact ⟨er_, dn_⟩
   replace H := it_ H; rcases H with ⟨(c9b0 : decide (90 < (bt a0 cl)) = true), H⟩ | ⟨(c9b0 : decide (90 < (bt a0 cl)) = false), H⟩
   ·obtain rfl := Option.some.inj H
    have p6 : 0 ≤ (cl : Int) := od_
    have q6 : cl < (a0.size : Int) := od_
    have OA := bt_at a0 cl
    replace p6 := eq_true p6
    replace q6 := eq_true q6
    have p8 : 0 ≤ (cl : Int) := od_
    have q8 : cl < (a0.size : Int) := od_
    have OB := bt_at a0 cl
    replace p8 := eq_true p8
    replace q8 := eq_true q8
    go_wp2
    go_ret
    exact ⟨er_, dn_⟩
   have H' := am_ H
   clear H
   have p6 : 0 ≤ (cl : Int) := od_
   have q6 : cl < (a0.size : Int) := od_
   have OA := bt_at a0 cl
   replace p6 := eq_true p6
   replace q6 := eq_true q6
   have p8 : 0 ≤ (cl : Int) := od_
   have q8 : cl < (a0.size : Int) := od_
   have OB := bt_at a0 cl
   replace p8 := eq_true p8
   replace q8 := eq_true q8
   go_wp2
   go_roundg k1
   case measure => have := dk.out; omega
   case rel => exact ⟨(wrap64 (cl + 1)), er_, H', ⟨by have := dk.out; omega⟩, dn_⟩
/-! ### F72: function 72 -/
def F72.l0 : Nat → ByteArray → Int → Option (Bool)
  | 0, _, _ => none
  | k + 1, x0, x3 => if x3 < (x0.size : Int) then (if 0 ≤ x3 then (if (bt x0 x3) < 32 then (some false) else (if (bt x0 x3) > 126 then (some false) else (F72.l0 k x0 (wrap64 (x3 + 1))))) else (none)) else (some true)
def F72.f (k : Nat) (a0 : ByteArray) : Option (Bool) := if (a0.size : Int) > 40 then (some false) else (F72.l0 k a0 0)
theorem F72.mono_l : ∀ k, (∀ y0 y1, LeO (F72.l0 k y0 y1) (F72.l0 (k + 1) y0 y1))
 | 0 => fun _ _ r h => by simp [F72.l0] at h
 | k + 1 => by
  have b6 := F72.mono_l k
  intro y0 y1
  unfold F72.l0
  repeat' with_reducible first | exact b6 _ _ | exact LeO.refl _ | exact LeO.none _ | refine LeO.ite ?_ ?_ | refine LeO.bind ?_ (fun _ => ?_)
theorem F72.mono : ∀ a0 k, LeO (F72.f k a0) (F72.f (k + 1) a0) := by
 intro a0 k
 have b6 := F72.mono_l k
 unfold F72.f
 repeat' with_reducible first | exact b6 _ _ | exact LeO.refl _ | exact LeO.none _ | refine LeO.ite ?_ ?_ | refine LeO.bind ?_ (fun _ => ?_)
theorem F72.calls (k : Nat) (a0 : ByteArray) (r : Bool) (w : World) (h : F72.f k a0 = some r) :
  Calls Tryd.prog 72 #[.string a0] w fun e w' => e = .returned (.bool r) ∧ Drawn0 w w' := by
 have H : (if (a0.size : Int) > 40 then (some false) else (F72.l0 k a0 0)) = some r := h
 clear h
 replace H := it_ H; rcases H with ⟨(c2b0 : decide (40 < (a0.size : Int)) = true), H⟩ | ⟨(c2b0 : decide (40 < (a0.size : Int)) = false), H⟩
 ·have c2b1 : decide (40 < a0.size) = true := n2_ c2b0
  obtain rfl := Option.some.inj H
  go_enter Tryd.func72, Tryd.ntmps72
  go_wp2
  go_ret
  exact ⟨er_, dn_⟩
 have c2b1 : decide (40 < a0.size) = false := n2_ c2b0
 have H' := am_ H
 clear H
 go_enter Tryd.func72, Tryd.ntmps72
 go_wp2
 go_loopg [3] k (fun kq v3 w' => ∃ (cl : Int), v3 = .int .i64 cl ∧ Aside0 (F72.l0 kq a0 cl = some r) ∧ Aside0 (kq ≤ k) ∧ Drawn0 w w')
 case atStart => exact ⟨(0), er_, H', ⟨Nat.le_refl _⟩, dn_⟩
 case round =>
  clear H'
  try clear c2b0
  try clear c2b1
  obtain ⟨cl, rfl, HA, dk, ⟨m1, rfl⟩⟩ := hrel
  cases gk with
  | zero => exact absurd HA.out (by simp [F72.l0])
  | succ k1 =>
   have H := HA.out
   clear HA
   simp only [F72.l0] at H
   replace H := it_ H; rcases H with ⟨c3b0, H⟩ | ⟨c3b0, H⟩
   rotate_left
   ·obtain rfl := Option.some.inj H
    go_wp2
    go_ret
    exact ⟨er_, dn_⟩

   replace H := itn_ H; rcases H with ⟨c4b0, H⟩
   replace H := it_ H; rcases H with ⟨c6b0, H⟩ | ⟨c6b0, H⟩
   ·obtain rfl := Option.some.inj H
    have p5 : 0 ≤ (cl : Int) := od_
    have q5 : cl < (a0.size : Int) := od_
    have wy := bt_at a0 cl
    replace p5 := eq_true p5
    replace q5 := eq_true q5
    go_wp2
    go_ret
    exact ⟨er_, dn_⟩
   replace H := it_ H; rcases H with ⟨(c8b0 : decide (126 < (bt a0 cl)) = true), H⟩ | ⟨(c8b0 : decide (126 < (bt a0 cl)) = false), H⟩
   ·obtain rfl := Option.some.inj H
    have p5 : 0 ≤ (cl : Int) := od_
    have q5 : cl < (a0.size : Int) := od_
    have wy := bt_at a0 cl
    replace p5 := eq_true p5
    replace q5 := eq_true q5
    have p7 : 0 ≤ (cl : Int) := od_
    have q7 : cl < (a0.size : Int) := od_
    have nl := bt_at a0 cl
    replace p7 := eq_true p7
    replace q7 := eq_true q7
    go_wp2
    go_ret
    exact ⟨er_, dn_⟩
   have H' := am_ H
   clear H
   have p5 : 0 ≤ (cl : Int) := od_
   have q5 : cl < (a0.size : Int) := od_
   have wy := bt_at a0 cl
   replace p5 := eq_true p5
   replace q5 := eq_true q5
   have p7 : 0 ≤ (cl : Int) := od_
   have q7 : cl < (a0.size : Int) := od_
   have nl := bt_at a0 cl
   replace p7 := eq_true p7
   replace q7 := eq_true q7
   go_wp2
   go_roundg k1
   case measure => have := dk.out; omega
   case rel => exact ⟨(wrap64 (cl + 1)), er_, H', ⟨by have := dk.out; omega⟩, dn_⟩
/-! ### F73: function 73 -/
def F73.f (gH : List ByteArray) : Option (Bool) := if (gH.length : Int) = 1 then (if 0 < (gH.length : Int) then (some ((rdOf ByteArray.empty gH 0).toList == ([] : List UInt8))) else (none)) else (some false)
theorem F73.calls (zQ : Option Addr) (zR : Nat) (gH : List ByteArray) (r : Bool) (w : World) (IH : Kd.C Kd.string w zQ gH.length gH) (II : gH.length ≤ zR) (h : F73.f gH = some r) :
  Calls Tryd.prog 73 #[.agg #[.slice zQ gH.length zR]] w fun e w' => e = .returned (.bool r) ∧ Below w.heap.size w w' := by
 have sY := Tryd.underlying55
 have OU := am_ IH
 have a8S := am_ II
 clear IH II
 have HB := am_ (Below.refl w.heap.size w)
 have H : (if (gH.length : Int) = 1 then (if 0 < (gH.length : Int) then (some ((rdOf ByteArray.empty gH 0).toList == ([] : List UInt8))) else (none)) else (some false)) = some r := h
 clear h
 by_cases c2 : (gH.length : Int) = 1
 rotate_left
 ·rw [if_neg c2] at H
  have c2b0 : ((gH.length : Int) == 1) = false := beq_eq_false_iff_ne.mpr c2
  have c2b1 : ((gH.length : Int) != 1) = true := bne_iff_ne.mpr c2
  obtain rfl := Option.some.inj H
  go_enter Tryd.func73, Tryd.ntmps73
  go_wp2_with (first | ((with_reducible refine gate_dst (N := 1) rfl ?_); refine be_ 1 #[.slice zQ gH.length zR] 55 ?_; intro AT hg w6 hbox hb; have sZ := am_ (hbox); have AU := am_ (gw_ hg bl_); have OV := AU; replace HB := hs_ w hb; clear hb hbox hg; have jF : w6.cell? ⟨AT, 0, none⟩ = some (.slice zQ gH.length zR) := (blk_cell sZ.out 0).trans rfl; have ly := blk_frozen sZ.out 0))
  go_ret
  exact ⟨au1_5, bl_⟩

 rw [if_pos c2] at H
 have c2b0 : ((gH.length : Int) == 1) = true := beq_iff_eq.mpr c2
 have c2b1 : ((gH.length : Int) != 1) = false := bne_eq_false_iff_eq.mpr c2
 clear c2
 replace H := itn_ H; rcases H with ⟨c3b0, H⟩
 have c3b1 : decide (0 < gH.length) = true := n2_ c3b0
 obtain rfl := Option.some.inj H
 go_enter Tryd.func73, Tryd.ntmps73
 go_wp2_with (first | ((with_reducible refine gate_dst (N := 1) rfl ?_); refine be_ 1 #[.slice zQ gH.length zR] 55 ?_; intro AT hg w4 hbox hb; have sZ := am_ (hbox); have AU := am_ (gw_ hg bl_); have OV := AU; replace HB := hs_ w hb; clear hb hbox hg; have px : w4.cell? ⟨AT, 0, none⟩ = some (.slice zQ gH.length zR) := (blk_cell sZ.out 0).trans rfl; have pz := blk_frozen sZ.out 0; have KU : 0 ≤ (0 : Int) := (by omega); have KV : 0 < (gH.length : Int) := od_; obtain ⟨a8T, a22, lV⟩ := Kd.at_string OU.out 0 KU KV; cases a22; have a8U : (0 < gH.length) = True := eq_true (by omega); (try rw [show ((0 : Int)).toNat = 0 from rfl] at lV); (try rw [Addr.add_zero'] at lV); replace lV := (HB.out.cell (World.block_lt_of_cell? _ _ lV)).trans lV; replace KU := eq_true KU; replace KV := eq_true KV))
 go_ret
 exact ⟨au1_5, bl_⟩
/-! ### F46: function 46 -/
mutual
def F46.j0 : Nat → Bool → ByteArray → List (S55) → Option (Bool)
  | 0, _, _, _ => none
  | k + 1, FE, fc, bE => if FE = true then (some false) else (F46.l0 k 0 fc bE)
def F46.l0 : Nat → Int → ByteArray → List (S55) → Option (Bool)
  | 0, _, _, _ => none
  | k + 1, x3, fc, bE => if x3 < (bE.length : Int) then (if 0 ≤ x3 then (if (((rd_T55 bE x3).f0).length : Int) < 1 then (F46.j2 k x3 ((rd_T55 bE x3).f0) true fc bE) else (if (((rd_T55 bE x3).f0).length : Int) > 4 then (F46.j2 k x3 ((rd_T55 bE x3).f0) true fc bE) else (if (((rd_T55 bE x3).f0).length : Int) > 1 then (if 0 ≤ (wrap64 ((((rd_T55 bE x3).f0).length : Int) - 1)) then (if (wrap64 ((((rd_T55 bE x3).f0).length : Int) - 1)) < (((rd_T55 bE x3).f0).length : Int) then (F46.j2 k x3 ((rd_T55 bE x3).f0) ((rdOf ByteArray.empty ((rd_T55 bE x3).f0) (wrap64 ((((rd_T55 bE x3).f0).length : Int) - 1))).toList == ([] : List UInt8)) fc bE) else (none)) else (none)) else (F46.j2 k x3 ((rd_T55 bE x3).f0) false fc bE)))) else (none)) else (if (bE.length : Int) = 0 then (some true) else (if 0 ≤ (wrap64 ((bE.length : Int) - 1)) then (if (wrap64 ((bE.length : Int) - 1)) < (bE.length : Int) then ((F73.f ((rd_T55 bE (wrap64 ((bE.length : Int) - 1))).f0)).bind fun AV => (some (!AV))) else (none)) else (none)))
def F46.j2 : Nat → Int → List ByteArray → Bool → ByteArray → List (S55) → Option (Bool)
  | 0, _, _, _, _, _ => none
  | k + 1, x3, x4, x50, fc, bE => if x50 = true then (some false) else (F46.l1 k x3 x4 0 fc bE)
def F46.l1 : Nat → Int → List ByteArray → Int → ByteArray → List (S55) → Option (Bool)
  | 0, _, _, _, _, _ => none
  | k + 1, x3, x4, x5, fc, bE => if x5 < (x4.length : Int) then (if 0 ≤ x5 then ((F72.f k (rdOf ByteArray.empty x4 x5)).bind fun OW => (if OW = true then (F46.l1 k x3 x4 (wrap64 (x5 + 1)) fc bE) else (some false))) else (none)) else (F46.l0 k (wrap64 (x3 + 1)) fc bE)
end
def F46.f (k : Nat) (ao : ByteArray) (ah : List (S55)) : Option (Bool) := (F71.f k ao).bind fun FF => (if FF = true then (F46.j0 k (decide ((ah.length : Int) > 10)) ao ah) else (F46.j0 k true ao ah))
theorem F46.mono_l : ∀ k, (∀ y0 y1 y2, LeO (F46.j0 k y0 y1 y2) (F46.j0 (k + 1) y0 y1 y2)) ∧ (∀ y0 y1 y2, LeO (F46.l0 k y0 y1 y2) (F46.l0 (k + 1) y0 y1 y2)) ∧ (∀ y0 y1 y2 y3 y4, LeO (F46.j2 k y0 y1 y2 y3 y4) (F46.j2 (k + 1) y0 y1 y2 y3 y4)) ∧ (∀ y0 y1 y2 y3 y4, LeO (F46.l1 k y0 y1 y2 y3 y4) (F46.l1 (k + 1) y0 y1 y2 y3 y4))
 | 0 => ⟨fun _ _ _ r h => by simp [F46.j0] at h, fun _ _ _ r h => by simp [F46.l0] at h, fun _ _ _ _ _ r h => by simp [F46.j2] at h, fun _ _ _ _ _ r h => by simp [F46.l1] at h⟩
 | k + 1 => by
  obtain ⟨b6, fd, gI, ke⟩ := F46.mono_l k
  refine ⟨?_, ?_, ?_, ?_⟩
  rotate_left
  ·intro y0 y1 y2
   unfold F46.l0
   repeat' with_reducible first | exact b6 _ _ _ | exact fd _ _ _ | exact gI _ _ _ _ _ | exact ke _ _ _ _ _ | exact F72.mono _ _ | exact F71.mono _ _ | exact LeO.refl _ | exact LeO.none _ | refine LeO.ite ?_ ?_ | refine LeO.bind ?_ (fun _ => ?_)
  ·intro y0 y1 y2 y3 y4
   unfold F46.j2
   repeat' with_reducible first | exact b6 _ _ _ | exact fd _ _ _ | exact gI _ _ _ _ _ | exact ke _ _ _ _ _ | exact F72.mono _ _ | exact F71.mono _ _ | exact LeO.refl _ | exact LeO.none _ | refine LeO.ite ?_ ?_ | refine LeO.bind ?_ (fun _ => ?_)
  ·intro y0 y1 y2 y3 y4
   unfold F46.l1
   repeat' with_reducible first | exact b6 _ _ _ | exact fd _ _ _ | exact gI _ _ _ _ _ | exact ke _ _ _ _ _ | exact F72.mono _ _ | exact F71.mono _ _ | exact LeO.refl _ | exact LeO.none _ | refine LeO.ite ?_ ?_ | refine LeO.bind ?_ (fun _ => ?_)
  intro y0 y1 y2
  unfold F46.j0
  repeat' with_reducible first | exact b6 _ _ _ | exact fd _ _ _ | exact gI _ _ _ _ _ | exact ke _ _ _ _ _ | exact F72.mono _ _ | exact F71.mono _ _ | exact LeO.refl _ | exact LeO.none _ | refine LeO.ite ?_ ?_ | refine LeO.bind ?_ (fun _ => ?_)
theorem F46.mono : ∀ a0 a1 k, LeO (F46.f k a0 a1) (F46.f (k + 1) a0 a1) := by
 intro a0 a1 k
 obtain ⟨b6, fd, gI, ke⟩ := F46.mono_l k
 unfold F46.f
 repeat' with_reducible first | exact b6 _ _ _ | exact fd _ _ _ | exact gI _ _ _ _ _ | exact ke _ _ _ _ _ | exact F72.mono _ _ | exact F71.mono _ _ | exact LeO.refl _ | exact LeO.none _ | refine LeO.ite ?_ ?_ | refine LeO.bind ?_ (fun _ => ?_)
theorem F46.calls (k : Nat) (ao : ByteArray) (b7 : Option Addr) (bV : Nat) (ah : List (S55)) (r : Bool) (w : World) (d9 : Kd.C k55 w b7 ah.length ah) (ea : ah.length ≤ bV) (h : F46.f k ao ah = some r) :
  Calls Tryd.prog 46 #[.agg #[.string ao, .slice b7 ah.length bV]] w fun e w' => e = .returned (.bool r) ∧ Below w.heap.size w w' := by
 have jn := Tryd.underlying52
 have sY := Tryd.underlying55
 have gD := am_ d9
 have iG := am_ ea
 clear d9 ea
 have HB := am_ (Below.refl w.heap.size w)
 have H : ((F71.f k ao).bind fun FF => (if FF = true then (F46.j0 k (decide ((ah.length : Int) > 10)) ao ah) else (F46.j0 k true ao ah))) = some r := h
 clear h
 have ie := am_ H
 clear H
 go_enter Tryd.func46, Tryd.ntmps46
 go_upto_region 1 with (first | ((with_reducible refine gate_dst (N := 1) rfl ?_); (try (refine gate_guard (by rfl) ?_; dsimp only)); refine be_ 1 #[.string ao, .slice b7 ah.length bV] 52 ?_; intro wz hg w3 hbox hb; have eK := am_ (hbox); have OX := am_ (gw_ hg bl_); have a8V := OX; replace HB := hs_ w hb; clear hb hbox hg))
 (try simp only [Act.put, List.setIfInBounds_toArray, List.set_cons_zero, List.set_cons_succ])
 go_cut [15] (fun v15 wc => ∃ (kq : Nat) (cU : Bool), v15 = .bool cU ∧ Aside0 (F46.j0 kq cU ao ah = some r) ∧ Aside0 (kq ≤ k) ∧ Aside0 (wc.heap[wz]? = some (.cells #[.string ao, (.slice b7 ah.length bV)] 52 (0, 0))) ∧ Aside0 (Below w.heap.size w wc))
 case first =>
  have H := ie.out
  clear ie
  replace H := bi_ H; rcases H with ⟨FF, A4, H⟩
  replace H := ib_ H; rcases H with ⟨rfl, H⟩ | ⟨rfl, H⟩
  rotate_left
  ·have H' := am_ H
   clear H
   obtain ⟨jF, kr, ly, ks⟩ := cellsF2 eK.out
   go_wp2_with (first | (go_at_call 71; (with_reducible refine (F71.calls k ao false _ A4.out).mono ?_); rintro e w' ⟨rfl, ⟨nd, rfl⟩⟩; (try clear A4)))
   go_meet
   case rel => exact ⟨_, (true), er_, H', ⟨by first | omega | exact Nat.le_refl _⟩, ⟨bk_ eK⟩, ⟨bl_⟩⟩
  have H' := am_ H
  clear H
  obtain ⟨nn, np, nq, nr⟩ := cellsF2 eK.out
  go_wp2_with (first | (go_at_call 71; (with_reducible refine (F71.calls k ao true _ A4.out).mono ?_); rintro e w' ⟨rfl, ⟨nd, rfl⟩⟩; (try clear A4)))
  go_meet
  case rel => exact ⟨_, (decide ((ah.length : Int) > 10)), er_, H', ⟨by first | omega | exact Nat.le_refl _⟩, ⟨bk_ eK⟩, ⟨bl_⟩⟩
 case rest =>
  clear ie
  try clear nn np
  try clear jF kr
  try clear nq nr
  try clear ly ks
  obtain ⟨kq, cU, rfl, HA, HJ1, eK, HB⟩ := hcut
  cases kq with
  | zero => exact absurd HA.out (by simp [F46.j0])
  | succ Ft =>
   have H := HA.out
   clear HA
   simp only [F46.j0] at H
   replace H := ib_ H; rcases H with ⟨rfl, H⟩ | ⟨rfl, H⟩
   ·obtain rfl := Option.some.inj H
    go_wp2
    go_ret
    exact ⟨au1_5, bl_⟩
   have H' := am_ H
   clear H
   go_wp2
   go_loopg [3] Ft (fun kq v3 w' => ∃ (aw : Int), v3 = .int .i64 aw ∧ Aside0 (F46.l0 kq aw ao ah = some r) ∧ Aside0 (kq ≤ Ft) ∧ Aside0 (w'.heap[wz]? = some (.cells #[.string ao, (.slice b7 ah.length bV)] 52 (0, 0))) ∧ Aside0 (Below w.heap.size w w'))
   case atStart => exact ⟨(0), er_, H', ⟨Nat.le_refl _⟩, ⟨bk_ eK⟩, ⟨bl_⟩⟩
   case round =>
    clear H'
    try clear nn np
    try clear jF kr
    try clear nq nr
    try clear ly ks
    obtain ⟨aw, rfl, HA, HK2, eK, HB⟩ := hrel
    cases gk with
    | zero => exact absurd HA.out (by simp [F46.l0])
    | succ k2 =>
     have H := HA.out
     clear HA
     simp only [F46.l0] at H
     replace H := it_ H; rcases H with ⟨c9b0, H⟩ | ⟨c9b0, H⟩
     rotate_left
     ·by_cases oH : (ah.length : Int) = 0
      ·rw [if_pos oH] at H
       have c24b0 : ((ah.length : Int) == 0) = true := beq_iff_eq.mpr oH
       have c24b1 : ((ah.length : Int) != 0) = false := bne_eq_false_iff_eq.mpr oH
       clear oH
       obtain rfl := Option.some.inj H
       obtain ⟨wA, wB, wC, wD⟩ := cellsF2 eK.out
       go_wp2
       go_ret
       exact ⟨au1_5, bl_⟩
      rw [if_neg oH] at H
      have c24b0 : ((ah.length : Int) == 0) = false := beq_eq_false_iff_ne.mpr oH
      have c24b1 : ((ah.length : Int) != 0) = true := bne_iff_ne.mpr oH
      have c24b2 : ¬ (ah = []) := fun h_ => oH (by rw [h_]; rfl)
      obtain ⟨qz, wE⟩ : ∃ j_ : Int, (wrap64 ((ah.length : Int) - 1)) = j_ := ⟨_, rfl⟩
      replace H : (if 0 ≤ (qz) then (if (qz) < (ah.length : Int) then ((F73.f ((rd_T55 ah (qz)).f0)).bind fun AV => (some (!AV))) else (none)) else (none)) = some r := by first | (rw [wE] at H; exact H) | (simp only [wE] at H ⊢; exact H)
      have hji26w : (IntKind.i64.wrap ((ah.length : Int) - 1)) = qz := (i64_w _).trans wE
      by_cases AL : 0 ≤ (qz)
      rotate_left
      ·rw [if_neg AL] at H
       exact absurd H (by simp)

      rw [if_pos AL] at H
      have c27b0 : decide (0 ≤ (qz)) = true := decide_eq_true AL
      clear AL
      replace H := itn_ H; rcases H with ⟨c28b0, H⟩
      replace H := bi_ H; rcases H with ⟨AV, AW, H⟩
      obtain rfl := Option.some.inj H
      obtain ⟨oI, oJ, oK, oL⟩ := cellsF2 eK.out
      have KW : 0 ≤ ((qz) : Int) := od_
      have KX : (qz) < (ah.length : Int) := od_
      obtain ⟨a8W, a24, a25, a26, rn, wF, wG⟩ := at_T55 gD.out (qz) KW KX
      cases a26
      replace rn := (HB.out.cell (World.block_lt_of_cell? _ _ rn)).trans rn
      have FG := am_ wG
      have FH := am_ wF
      clear wG wF
      replace KW := eq_true KW
      replace KX := eq_true KX
      go_wp2_with (first | (go_at_call 73; (with_reducible refine (F73.calls _ _ ((rd_T55 ah (qz)).f0) AV _ ?s1 ?s2 AW.out).mono ?_); (case s1 => repeat (first | exact (Kd.C_below FG.out HB.out) | (with_reducible refine Kd.C_alloc ?_ _) | (with_reducible refine Kd.C_drewN ?_ _) | (with_reducible refine Kd.C_drew ?_))); (case s2 => exact FH.out); rintro e AM ⟨rfl, hb⟩; (try clear AW); replace eK := bb_ eK hb; replace HB := hs_ w hb; (try clear hb)))
      go_ret
      exact ⟨by first | rfl | (simp [errW_none, errW_some] <;> rfl) | (simp only [← wE]; first | rfl | (simp [errW_none, errW_some] <;> rfl)) | (simp [*, errW_none, errW_some] <;> rfl), bl_⟩
     replace H := itn_ H; rcases H with ⟨c10b0, H⟩
     have KY := am_ H
     clear H
     obtain ⟨cQ, cR, cS, cT⟩ := cellsF2 eK.out
     have AX : 0 ≤ (aw : Int) := od_
     have AY : aw < (ah.length : Int) := od_
     obtain ⟨IJ, a27, a28, a29, lW, wH, wI⟩ := at_T55 gD.out aw AX AY
     cases a29
     replace lW := (HB.out.cell (World.block_lt_of_cell? _ _ lW)).trans lW
     have ro := am_ wI
     have Yu := am_ wH
     clear wI wH
     replace AX := eq_true AX
     replace AY := eq_true AY
     go_upto_region 7 with (fail)
     go_cut [50] (fun v50 wc => ∃ (kq : Nat) (ur : Bool), v50 = .bool ur ∧ Aside0 (F46.j2 kq aw ((rd_T55 ah aw).f0) ur ao ah = some r) ∧ Aside0 (kq ≤ k2) ∧ Aside0 (wc.heap[wz]? = some (.cells #[.string ao, (.slice (some IJ) ah.length bV)] 52 (0, 0))) ∧ Aside0 (Below w.heap.size w wc))
     case first =>
      have H := KY.out
      clear KY
      replace H := it_ H; rcases H with ⟨c13b0, H⟩ | ⟨c13b0, H⟩
      ·have c13b1 : decide (((rd_T55 ah aw).f0).length < 1) = true := n2_ c13b0
       (first | rw [c13b0] | (simp only [i64_w, i32_w]; rw [c13b0]) | skip)
       have H' := am_ H
       clear H
       go_wp2
       go_meet
       case rel => exact ⟨_, (true), er_, H', ⟨au1_14⟩, ⟨bk_ eK⟩, ⟨bl_⟩⟩
      have c13b1 : decide (((rd_T55 ah aw).f0).length < 1) = false := n2_ c13b0
      (first | rw [c13b0] | (simp only [i64_w, i32_w]; rw [c13b0]) | skip)
      replace H := it_ H; rcases H with ⟨(c14b0 : decide (4 < (((rd_T55 ah aw).f0).length : Int)) = true), H⟩ | ⟨(c14b0 : decide (4 < (((rd_T55 ah aw).f0).length : Int)) = false), H⟩
      ·have c14b1 : decide (4 < ((rd_T55 ah aw).f0).length) = true := n2_ c14b0
       have H' := am_ H
       clear H
       go_wp2
       go_meet
       case rel => exact ⟨_, (true), er_, H', ⟨au1_14⟩, ⟨bk_ eK⟩, ⟨bl_⟩⟩
      have c14b1 : decide (4 < ((rd_T55 ah aw).f0).length) = false := n2_ c14b0
      replace H := it_ H; rcases H with ⟨(c15b0 : decide (1 < (((rd_T55 ah aw).f0).length : Int)) = true), H⟩ | ⟨(c15b0 : decide (1 < (((rd_T55 ah aw).f0).length : Int)) = false), H⟩
      rotate_left
      ·have c15b1 : decide (1 < ((rd_T55 ah aw).f0).length) = false := n2_ c15b0
       have H' := am_ H
       clear H
       go_wp2
       go_meet
       case rel => exact ⟨_, (false), er_, H', ⟨au1_14⟩, ⟨bk_ eK⟩, ⟨bl_⟩⟩
      have c15b1 : decide (1 < ((rd_T55 ah aw).f0).length) = true := n2_ c15b0
      obtain ⟨s7, wJ⟩ : ∃ j_ : Int, (wrap64 ((((rd_T55 ah aw).f0).length : Int) - 1)) = j_ := ⟨_, rfl⟩
      replace H : (if 0 ≤ (s7) then (if (s7) < (((rd_T55 ah aw).f0).length : Int) then (F46.j2 k2 aw ((rd_T55 ah aw).f0) ((rdOf ByteArray.empty ((rd_T55 ah aw).f0) (s7)).toList == ([] : List UInt8)) ao ah) else (none)) else (none)) = some r := by first | (rw [wJ] at H; exact H) | (simp only [wJ] at H ⊢; exact H)
      have hji16w : (IntKind.i64.wrap ((((rd_T55 ah aw).f0).length : Int) - 1)) = s7 := (i64_w _).trans wJ
      replace H := itn_ H; rcases H with ⟨c17b0, H⟩
      replace H := itn_ H; rcases H with ⟨c18b0, H⟩
      have H' := am_ H
      clear H
      have AZ : 0 ≤ ((s7) : Int) := od_
      have Ba : (s7) < (((rd_T55 ah aw).f0).length : Int) := od_
      obtain ⟨a8X, a3a, lX⟩ := Kd.at_string ro.out (s7) AZ Ba
      cases a3a
      replace lX := (HB.out.cell (World.block_lt_of_cell? _ _ lX)).trans lX
      replace AZ := eq_true AZ
      replace Ba := eq_true Ba
      go_wp2
      go_meet
      case rel => exact ⟨_, (((rdOf ByteArray.empty ((rd_T55 ah aw).f0) (s7)).toList == ([] : List UInt8))), (by first | rfl | (simp; done) | (simp only [← wJ] <;> (first | rfl | simp)) | (simp [*]; done)), H', ⟨au1_14⟩, ⟨bk_ eK⟩, ⟨bl_⟩⟩
     case rest =>
      clear KY
      try clear c9b0
      try clear c10b0
      try clear c13b0
      try clear c13b1
      try clear c14b0
      try clear c14b1
      try clear c15b0
      try clear c15b1
      try clear c17b0
      try clear c18b0
      try clear cQ cR
      try clear nn np
      try clear jF kr
      try clear cS cT
      try clear nq nr
      try clear ly ks
      try clear lW
      try clear lX
      try clear AX
      try clear AZ
      try clear AY
      try clear Ba
      obtain ⟨kq, ur, rfl, HA, KR, eK, HB⟩ := hcut
      cases kq with
      | zero => exact absurd HA.out (by simp [F46.j2])
      | succ OY =>
       have H := HA.out
       clear HA
       simp only [F46.j2] at H
       replace H := ib_ H; rcases H with ⟨rfl, H⟩ | ⟨rfl, H⟩
       ·obtain rfl := Option.some.inj H
        go_wp2
        go_ret
        exact ⟨au1_5, bl_⟩
       have H' := am_ H
       clear H
       go_wp2
       go_loopg [5] OY (fun kq v5 w' => ∃ (cJ : Int), v5 = .int .i64 cJ ∧ Aside0 (F46.l1 kq aw ((rd_T55 ah aw).f0) cJ ao ah = some r) ∧ Aside0 (kq ≤ OY) ∧ Aside0 (w'.heap[wz]? = some (.cells #[.string ao, (.slice (some IJ) ah.length bV)] 52 (0, 0))) ∧ Aside0 (Below w.heap.size w w'))
       case atStart => exact ⟨(0), er_, H', ⟨Nat.le_refl _⟩, ⟨bk_ eK⟩, ⟨bl_⟩⟩
       case round =>
        clear H'
        try clear c9b0
        try clear c10b0
        try clear c13b0
        try clear c13b1
        try clear c14b0
        try clear c14b1
        try clear c15b0
        try clear c15b1
        try clear c17b0
        try clear c18b0
        try clear cQ cR
        try clear nn np
        try clear jF kr
        try clear cS cT
        try clear nq nr
        try clear ly ks
        try clear lW
        try clear lX
        try clear AX
        try clear AZ
        try clear AY
        try clear Ba
        obtain ⟨cJ, rfl, HA, Fs, eK, HB⟩ := hrel
        cases gk with
        | zero => exact absurd HA.out (by simp [F46.l1])
        | succ k4 =>
         have H := HA.out
         clear HA
         simp only [F46.l1] at H
         replace H := it_ H; rcases H with ⟨c20b0, H⟩ | ⟨c20b0, H⟩
         rotate_left
         ·have H' := am_ H
          clear H
          go_wp2
          go_roundg k4
          case measure => have := HJ1.out; have := HK2.out; have := KR.out; have := Fs.out; omega
          case rel => exact ⟨(wrap64 (aw + 1)), er_, H', ⟨au1_18⟩, ⟨bk_ eK⟩, ⟨bl_⟩⟩
         replace H := itn_ H; rcases H with ⟨c21b0, H⟩
         replace H := bi_ H; rcases H with ⟨OW, Yv, H⟩
         replace H := ib_ H; rcases H with ⟨rfl, H⟩ | ⟨rfl, H⟩
         rotate_left
         ·obtain rfl := Option.some.inj H
          have us : 0 ≤ (cJ : Int) := od_
          have ut : cJ < (((rd_T55 ah aw).f0).length : Int) := od_
          obtain ⟨OZ, KZ, jG⟩ := Kd.at_string ro.out cJ us ut
          cases KZ
          replace jG := (HB.out.cell (World.block_lt_of_cell? _ _ jG)).trans jG
          replace us := eq_true us
          replace ut := eq_true ut
          go_wp2_with (first | (go_at_call 72; (with_reducible refine (F72.calls k4 (rdOf ByteArray.empty ((rd_T55 ah aw).f0) cJ) false _ Yv.out).mono ?_); rintro e w' ⟨rfl, ⟨nd, rfl⟩⟩; (try clear Yv)))
          go_ret
          exact ⟨au1_5, bl_⟩
         have H' := am_ H
         clear H
         have us : 0 ≤ (cJ : Int) := od_
         have ut : cJ < (((rd_T55 ah aw).f0).length : Int) := od_
         obtain ⟨OZ, KZ, jG⟩ := Kd.at_string ro.out cJ us ut
         cases KZ
         replace jG := (HB.out.cell (World.block_lt_of_cell? _ _ jG)).trans jG
         replace us := eq_true us
         replace ut := eq_true ut
         go_wp2_with (first | (go_at_call 72; (with_reducible refine (F72.calls k4 (rdOf ByteArray.empty ((rd_T55 ah aw).f0) cJ) true _ Yv.out).mono ?_); rintro e w' ⟨rfl, ⟨nd, rfl⟩⟩; (try clear Yv)))
         go_roundg k4
         case measure => have := HJ1.out; have := HK2.out; have := KR.out; have := Fs.out; omega
         case rel => exact ⟨(wrap64 (cJ + 1)), er_, H', ⟨au1_18⟩, ⟨bk_ eK⟩, ⟨bl_⟩⟩
/-! ### F47: function 47 -/
def F47.f (a0 : ByteArray) : Option (Bool) := if a0.toList = ([73, 88, 72] : List UInt8) then (some true) else (if a0.toList = ([71, 82, 72] : List UInt8) then (some true) else (if a0.toList = ([77, 83, 72] : List UInt8) then (some true) else (if a0.toList = ([77, 83, 84] : List UInt8) then (some true) else (if a0.toList = ([71, 82, 84] : List UInt8) then (some true) else (some (a0.toList == ([73, 88, 84] : List UInt8)))))))
theorem F47.calls (a0 : ByteArray) (r : Bool) (w : World) (h : F47.f a0 = some r) :
  Calls Tryd.prog 47 #[.string a0] w fun e w' => e = .returned (.bool r) ∧ Drawn0 w w' := by
 have H : (if a0.toList = ([73, 88, 72] : List UInt8) then (some true) else (if a0.toList = ([71, 82, 72] : List UInt8) then (some true) else (if a0.toList = ([77, 83, 72] : List UInt8) then (some true) else (if a0.toList = ([77, 83, 84] : List UInt8) then (some true) else (if a0.toList = ([71, 82, 84] : List UInt8) then (some true) else (some (a0.toList == ([73, 88, 84] : List UInt8)))))))) = some r := h
 clear h
 by_cases c2 : a0.toList = ([73, 88, 72] : List UInt8)
 ·rw [if_pos c2] at H
  have c2b0 : (a0.toList == ([73, 88, 72] : List UInt8)) = true := beq_iff_eq.mpr c2
  have c2b1 : (a0.toList != ([73, 88, 72] : List UInt8)) = false := bne_eq_false_iff_eq.mpr c2
  clear c2
  obtain rfl := Option.some.inj H
  go_enter Tryd.func47, Tryd.ntmps47
  go_wp2
  go_ret
  exact ⟨er_, dn_⟩
 rw [if_neg c2] at H
 have c2b0 : (a0.toList == ([73, 88, 72] : List UInt8)) = false := beq_eq_false_iff_ne.mpr c2
 have c2b1 : (a0.toList != ([73, 88, 72] : List UInt8)) = true := bne_iff_ne.mpr c2
 by_cases c3 : a0.toList = ([71, 82, 72] : List UInt8)
 ·rw [if_pos c3] at H
  have c3b0 : (a0.toList == ([71, 82, 72] : List UInt8)) = true := beq_iff_eq.mpr c3
  have c3b1 : (a0.toList != ([71, 82, 72] : List UInt8)) = false := bne_eq_false_iff_eq.mpr c3
  clear c3
  obtain rfl := Option.some.inj H
  go_enter Tryd.func47, Tryd.ntmps47
  go_wp2
  go_ret
  exact ⟨er_, dn_⟩
 rw [if_neg c3] at H
 have c3b0 : (a0.toList == ([71, 82, 72] : List UInt8)) = false := beq_eq_false_iff_ne.mpr c3
 have c3b1 : (a0.toList != ([71, 82, 72] : List UInt8)) = true := bne_iff_ne.mpr c3
 by_cases c4 : a0.toList = ([77, 83, 72] : List UInt8)
 ·rw [if_pos c4] at H
  have c4b0 : (a0.toList == ([77, 83, 72] : List UInt8)) = true := beq_iff_eq.mpr c4
  have c4b1 : (a0.toList != ([77, 83, 72] : List UInt8)) = false := bne_eq_false_iff_eq.mpr c4
  clear c4
  obtain rfl := Option.some.inj H
  go_enter Tryd.func47, Tryd.ntmps47
  go_wp2
  go_ret
  exact ⟨er_, dn_⟩
 rw [if_neg c4] at H
 have c4b0 : (a0.toList == ([77, 83, 72] : List UInt8)) = false := beq_eq_false_iff_ne.mpr c4
 have c4b1 : (a0.toList != ([77, 83, 72] : List UInt8)) = true := bne_iff_ne.mpr c4
 by_cases c5 : a0.toList = ([77, 83, 84] : List UInt8)
 ·rw [if_pos c5] at H
  have c5b0 : (a0.toList == ([77, 83, 84] : List UInt8)) = true := beq_iff_eq.mpr c5
  have c5b1 : (a0.toList != ([77, 83, 84] : List UInt8)) = false := bne_eq_false_iff_eq.mpr c5
  clear c5
  obtain rfl := Option.some.inj H
  go_enter Tryd.func47, Tryd.ntmps47
  go_wp2
  go_ret
  exact ⟨er_, dn_⟩
 rw [if_neg c5] at H
 have c5b0 : (a0.toList == ([77, 83, 84] : List UInt8)) = false := beq_eq_false_iff_ne.mpr c5
 have c5b1 : (a0.toList != ([77, 83, 84] : List UInt8)) = true := bne_iff_ne.mpr c5
 by_cases c6 : a0.toList = ([71, 82, 84] : List UInt8)
 rotate_left
 ·rw [if_neg c6] at H
  have c6b0 : (a0.toList == ([71, 82, 84] : List UInt8)) = false := beq_eq_false_iff_ne.mpr c6
  have c6b1 : (a0.toList != ([71, 82, 84] : List UInt8)) = true := bne_iff_ne.mpr c6
  obtain rfl := Option.some.inj H
  go_enter Tryd.func47, Tryd.ntmps47
  go_wp2
  go_ret
  exact ⟨er_, dn_⟩

 rw [if_pos c6] at H
 have c6b0 : (a0.toList == ([71, 82, 84] : List UInt8)) = true := beq_iff_eq.mpr c6
 have c6b1 : (a0.toList != ([71, 82, 84] : List UInt8)) = false := bne_eq_false_iff_eq.mpr c6
 clear c6
 obtain rfl := Option.some.inj H
 go_enter Tryd.func47, Tryd.ntmps47
 go_wp2
 go_ret
 exact ⟨er_, dn_⟩
/-! ### F68: function 68 -/
def F68.f (ae : List Int) (bh : Int) (am : Int) (bB : Int) (a1 : Int) : Option (Int × Int × Int × Int) := if a1 ≤ 1 then (some (0, bh, am, bB)) else (if bh < (ae.length : Int) then (if 0 ≤ bh then (if (IntKind.u64.wrap (a1)) = 0 then (none) else (some (wrap64 (Int.tmod (IntKind.u64.wrap ((IntKind.u64.wrap (rd ae bh)) + ((Go.bits .xor .u64 (Go.bits .xor .u64 (Go.bits .xor .u64 am (IntKind.u64.wrap (am * 8192))) ((Go.bits .xor .u64 am (IntKind.u64.wrap (am * 8192))) / 128)) (IntKind.u64.wrap ((Go.bits .xor .u64 (Go.bits .xor .u64 am (IntKind.u64.wrap (am * 8192))) ((Go.bits .xor .u64 am (IntKind.u64.wrap (am * 8192))) / 128)) * 131072))) / 1048576))) (IntKind.u64.wrap (a1))), wrap64 (bh + 1), Go.bits .xor .u64 (Go.bits .xor .u64 (Go.bits .xor .u64 am (IntKind.u64.wrap (am * 8192))) ((Go.bits .xor .u64 am (IntKind.u64.wrap (am * 8192))) / 128)) (IntKind.u64.wrap ((Go.bits .xor .u64 (Go.bits .xor .u64 am (IntKind.u64.wrap (am * 8192))) ((Go.bits .xor .u64 am (IntKind.u64.wrap (am * 8192))) / 128)) * 131072)), bB))) else (none)) else (if (IntKind.u64.wrap (a1)) = 0 then (none) else (some (wrap64 (Int.tmod (IntKind.u64.wrap (0 + ((Go.bits .xor .u64 (Go.bits .xor .u64 (Go.bits .xor .u64 am (IntKind.u64.wrap (am * 8192))) ((Go.bits .xor .u64 am (IntKind.u64.wrap (am * 8192))) / 128)) (IntKind.u64.wrap ((Go.bits .xor .u64 (Go.bits .xor .u64 am (IntKind.u64.wrap (am * 8192))) ((Go.bits .xor .u64 am (IntKind.u64.wrap (am * 8192))) / 128)) * 131072))) / 1048576))) (IntKind.u64.wrap (a1))), bh, Go.bits .xor .u64 (Go.bits .xor .u64 (Go.bits .xor .u64 am (IntKind.u64.wrap (am * 8192))) ((Go.bits .xor .u64 am (IntKind.u64.wrap (am * 8192))) / 128)) (IntKind.u64.wrap ((Go.bits .xor .u64 (Go.bits .xor .u64 am (IntKind.u64.wrap (am * 8192))) ((Go.bits .xor .u64 am (IntKind.u64.wrap (am * 8192))) / 128)) * 131072)), bB))))
def F68.T4 : Bool × List (List Nat × List Nat) := (true, [([], []), ([0], [0]), ([1], [1]), ([2], [2]), ([], []), ([4], [4]), ([5], [5]), ([6], [6]), ([7], [7]), ([3, 8], [3, 8])])
def F68.B4 : List Nat := [0, 1, 3, 7, 0, 16, 48, 112, 240, 511]
theorem F68.tab4 : rtab .any (opsOf Tryd.f68 4) = F68.T4 := by kernel_rfl
theorem F68.bits4 : waitsOk F68.T4.2 F68.B4 = true := by kernel_rfl
def F68.T5 : Bool × List (List Nat × List Nat) := (true, [([], []), ([0], [0]), ([1], [1]), ([2], [2]), ([], []), ([4], [4]), ([5], [5]), ([6], [6]), ([3, 7], [3, 7]), ([8], [8]), ([9], [9]), ([10, 0, 1, 2, 3, 4, 5, 6, 7, 8, 9, 10], [10])])
def F68.B5 : List Nat := [0, 1, 3, 7, 0, 16, 48, 112, 255, 511, 1023, 2047]
theorem F68.tab5 : rtab .any (opsOf Tryd.f68 5) = F68.T5 := by kernel_rfl
theorem F68.bits5 : waitsOk F68.T5.2 F68.B5 = true := by kernel_rfl
def F68.T7 : Bool × List (List Nat × List Nat) := (true, [([], []), ([], []), ([1], [1]), ([2], [2]), ([3], [3]), ([], []), ([5], [5]), ([6], [6]), ([7], [7]), ([8], [8]), ([4, 9], [4, 9]), ([0, 0, 1, 2, 3, 4, 5, 6, 7, 8, 9, 10], [0]), ([11, 0, 1, 2, 3, 4, 5, 6, 7, 8, 9, 10], [11]), ([12, 10, 0, 1, 2, 3, 4, 5, 6, 7, 8, 9, 10], [10, 12])])
def F68.B7 : List Nat := [0, 0, 2, 6, 14, 0, 32, 96, 224, 480, 1022, 2047, 4095, 8191]
theorem F68.tab7 : rtab .any (opsOf Tryd.f68 7) = F68.T7 := by kernel_rfl
theorem F68.bits7 : waitsOk F68.T7.2 F68.B7 = true := by kernel_rfl
def F68.T8 : Bool × List (List Nat × List Nat) := (true, [([], []), ([], []), ([1], [1]), ([2], [2]), ([3], [3]), ([], []), ([5], [5]), ([6], [6]), ([7], [7]), ([8], [8]), ([4, 9], [4, 9]), ([0, 0, 1, 2, 3, 4, 5, 6, 7, 8, 9, 10], [0]), ([11, 0, 1, 2, 3, 4, 5, 6, 7, 8, 9, 10], [11]), ([12, 10, 0, 1, 2, 3, 4, 5, 6, 7, 8, 9, 10], [10, 12])])
def F68.B8 : List Nat := [0, 0, 2, 6, 14, 0, 32, 96, 224, 480, 1022, 2047, 4095, 8191]
theorem F68.tab8 : rtab .any (opsOf Tryd.f68 8) = F68.T8 := by kernel_rfl
theorem F68.bits8 : waitsOk F68.T8.2 F68.B8 = true := by kernel_rfl
def F68.T9 : Bool × List (List Nat × List Nat) := (true, [([], []), ([], []), ([1], [1]), ([2], [2]), ([3], [3]), ([], []), ([5], [5]), ([6], [6]), ([7], [7]), ([8], [8]), ([4, 9], [4, 9]), ([0, 0, 1, 2, 3, 4, 5, 6, 7, 8, 9, 10], [0]), ([11, 0, 1, 2, 3, 4, 5, 6, 7, 8, 9, 10], [11]), ([12, 10, 0, 1, 2, 3, 4, 5, 6, 7, 8, 9, 10], [10, 12])])
def F68.B9 : List Nat := [0, 0, 2, 6, 14, 0, 32, 96, 224, 480, 1022, 2047, 4095, 8191]
theorem F68.tab9 : rtab .any (opsOf Tryd.f68 9) = F68.T9 := by kernel_rfl
theorem F68.bits9 : waitsOk F68.T9.2 F68.B9 = true := by kernel_rfl
theorem F68.calls (g : Nat) (ae : List Int) (bh : Int) (am : Int) (bB : Int) (a1 : Int) (r1 : Int) (r2 : Int) (r3 : Int) (r4 : Int) (w0 w : World) (hI : IsS111 w0 w g ae bh am bB) (hB : Below w0.heap.size w0 w) (h : F68.f ae bh am bB a1 = some (r1, r2, r3, r4)) :
  Calls Tryd.prog 68 #[.pointer (some ⟨g, 0, none⟩), .int .i64 a1] w fun e w' => e = .returned (.int .i64 r1) ∧ IsS111 w0 w' g ae r2 r3 r4 ∧ Below w0.heap.size w0 w' ∧ KeepBut w w' g none := by
 have ay := am_ hI
 have HK := am_ (KeepBut.refl w g none)
 have HL := am_ hB.size
 clear hI
 have qy := am_ hB.size
 have HB := am_ hB
 clear hB
 have H : (if a1 ≤ 1 then (some (0, bh, am, bB)) else (if bh < (ae.length : Int) then (if 0 ≤ bh then (if (IntKind.u64.wrap (a1)) = 0 then (none) else (some (wrap64 (Int.tmod (IntKind.u64.wrap ((IntKind.u64.wrap (rd ae bh)) + ((Go.bits .xor .u64 (Go.bits .xor .u64 (Go.bits .xor .u64 am (IntKind.u64.wrap (am * 8192))) ((Go.bits .xor .u64 am (IntKind.u64.wrap (am * 8192))) / 128)) (IntKind.u64.wrap ((Go.bits .xor .u64 (Go.bits .xor .u64 am (IntKind.u64.wrap (am * 8192))) ((Go.bits .xor .u64 am (IntKind.u64.wrap (am * 8192))) / 128)) * 131072))) / 1048576))) (IntKind.u64.wrap (a1))), wrap64 (bh + 1), Go.bits .xor .u64 (Go.bits .xor .u64 (Go.bits .xor .u64 am (IntKind.u64.wrap (am * 8192))) ((Go.bits .xor .u64 am (IntKind.u64.wrap (am * 8192))) / 128)) (IntKind.u64.wrap ((Go.bits .xor .u64 (Go.bits .xor .u64 am (IntKind.u64.wrap (am * 8192))) ((Go.bits .xor .u64 am (IntKind.u64.wrap (am * 8192))) / 128)) * 131072)), bB))) else (none)) else (if (IntKind.u64.wrap (a1)) = 0 then (none) else (some (wrap64 (Int.tmod (IntKind.u64.wrap (0 + ((Go.bits .xor .u64 (Go.bits .xor .u64 (Go.bits .xor .u64 am (IntKind.u64.wrap (am * 8192))) ((Go.bits .xor .u64 am (IntKind.u64.wrap (am * 8192))) / 128)) (IntKind.u64.wrap ((Go.bits .xor .u64 (Go.bits .xor .u64 am (IntKind.u64.wrap (am * 8192))) ((Go.bits .xor .u64 am (IntKind.u64.wrap (am * 8192))) / 128)) * 131072))) / 1048576))) (IntKind.u64.wrap (a1))), bh, Go.bits .xor .u64 (Go.bits .xor .u64 (Go.bits .xor .u64 am (IntKind.u64.wrap (am * 8192))) ((Go.bits .xor .u64 am (IntKind.u64.wrap (am * 8192))) / 128)) (IntKind.u64.wrap ((Go.bits .xor .u64 (Go.bits .xor .u64 am (IntKind.u64.wrap (am * 8192))) ((Go.bits .xor .u64 am (IntKind.u64.wrap (am * 8192))) / 128)) * 131072)), bB))))) = some (r1, r2, r3, r4) := h
 clear h
 replace H := it_ H; rcases H with ⟨c3b0, H⟩ | ⟨c3b0, H⟩
 ·simp only [Option.some.injEq, Prod.mk.injEq] at H
  obtain ⟨rfl, rfl, rfl, rfl⟩ := H
  go_enter Tryd.func68, Tryd.ntmps68
  go_wp2
  go_ret
  exact ⟨au1_5, is1_0_, au1_1, au1_2⟩
 replace H := it_ H; rcases H with ⟨c4b0, H⟩ | ⟨c4b0, H⟩
 rotate_left
 ·by_cases zS : (IntKind.u64.wrap (a1)) = 0
  ·rw [if_pos zS] at H
   exact absurd H (by simp)
  rw [if_neg zS] at H
  have c25b0 : ((IntKind.u64.wrap (a1)) == 0) = false := beq_eq_false_iff_ne.mpr zS
  have c25b1 : ((IntKind.u64.wrap (a1)) != 0) = true := bne_iff_ne.mpr zS
  simp only [Option.some.injEq, Prod.mk.injEq] at H
  obtain ⟨rfl, rfl, rfl, rfl⟩ := H
  go_enter Tryd.func68, Tryd.ntmps68
  try go_wp2
  obtain ⟨wK, wL, n4, O0, Yw⟩ := ay.out
  have iH := cellS111_0 n4
  have jH := cellS111_1 n4
  have jI := cellS111_2 n4
  have FI := cellS111_3 n4
  have jJ := blk_frozen n4 1
  have jK := blk_frozen n4 2
  have FJ := blk_frozen n4 3
  clear n4 O0
  replace ay := am_ (IsS111.drew ay.out)
  replace HK := am_ (keep_drew HK.out)
  replace HB := am_ (below_drew1 HB.out)
  have Bb : w.drew.frozen? ⟨g, 1, none⟩ = false := jJ
  have Bc : w.drew.frozen? ⟨g, 2, none⟩ = false := jK
  have Bd : w.drew.frozen? ⟨g, 3, none⟩ = false := FJ
  have wM : w.drew.cell? ⟨g, 0, none⟩ = some (.slice wK ae.length wL) := iH
  have wN : w.drew.cell? ⟨g, 1, none⟩ = some (.int .i64 bh) := jH
  have wO : w.drew.cell? ⟨g, 2, none⟩ = some (.int .u64 am) := jI
  have wP : w.drew.cell? ⟨g, 3, none⟩ = some (.int .i64 bB) := FI
  refine start_ (n := 10) (S := fun w' => w'.cell? ⟨g, 0, none⟩ = some (.slice wK ae.length wL) ∧ w'.cell? ⟨g, 1, none⟩ = some (.int .i64 bh) ∧ w'.cell? ⟨g, 2, none⟩ = some (.int .u64 am) ∧ w'.cell? ⟨g, 3, none⟩ = some (.int .i64 bB)) (ds := []) (bs 10 0) (by kernel_rfl) rfl rfl ⟨wM, wN, wO, wP⟩ (fun hHeld => ?_); refine with_tabW F68.tab4 F68.bits4 (fun HT_ HW_ => ?_)
  generalize w.drew = Fu at Bb Bc Bd wM wN wO wP ay HK HB hHeld ⊢
  refine pu_ 0 8 (bs 10 1) HT_ ?_ rfl rfl
  refine pu_ 1 9 (bs 10 3) HT_ ?_ rfl rfl
  refine pu_ 2 10 (bs 10 7) HT_ ?_ rfl rfl
  refine pu_ 4 12 (bs 10 23) HT_ ?_ rfl rfl
  refine pu_ 5 13 (bs 10 55) HT_ ?_ rfl rfl
  refine pu_ 6 14 (bs 10 119) HT_ ?_ rfl rfl
  refine tk_ 3 11 (bs 10 127) HT_ HW_ hHeld au1_10 ?_ rfl rfl
  refine tk_ 7 15 (bs 10 255) HT_ HW_ hHeld au1_10 ?_ rfl rfl
  refine pu_ 8 16 (bs 10 511) HT_ ?_ rfl rfl
  refine pu_ 9 17 (bs 10 1023) HT_ ?_ rfl rfl
  refine done_ (done_of HT_.out (by kernel_rfl)) ?_
  try go_wp2
  obtain ⟨wQ, wR, n5, O1, Yx⟩ := ay.out
  have FL := cellS111_0 n5
  have FM := cellS111_1 n5
  have FN := cellS111_2 n5
  have FO := cellS111_3 n5
  have FP := blk_frozen n5 1
  have FQ := blk_frozen n5 2
  have FR := blk_frozen n5 3
  clear n5 O1
  replace ay := am_ (IsS111.drew ay.out)
  replace HK := am_ (keep_drew HK.out)
  replace HB := am_ (below_drew1 HB.out)
  have Be : Fu.drew.frozen? ⟨g, 1, none⟩ = false := FP
  have s8 : Fu.drew.frozen? ⟨g, 2, none⟩ = false := FQ
  have Bf : Fu.drew.frozen? ⟨g, 3, none⟩ = false := FR
  have wS : Fu.drew.cell? ⟨g, 0, none⟩ = some (.slice wQ ae.length wR) := FL
  have wT : Fu.drew.cell? ⟨g, 1, none⟩ = some (.int .i64 bh) := FM
  have rp : Fu.drew.cell? ⟨g, 2, none⟩ = some (.int .u64 am) := FN
  have wU : Fu.drew.cell? ⟨g, 3, none⟩ = some (.int .i64 bB) := FO
  refine start_ (n := 14) (S := fun w' => w'.cell? ⟨g, 0, none⟩ = some (.slice wQ ae.length wR) ∧ w'.cell? ⟨g, 1, none⟩ = some (.int .i64 bh) ∧ w'.cell? ⟨g, 2, none⟩ = some (.int .u64 am) ∧ w'.cell? ⟨g, 3, none⟩ = some (.int .i64 bB)) (ds := [13]) (bs 14 0) (by kernel_rfl) rfl rfl ⟨wS, wT, rp, wU⟩ (fun hHeld => ?_); refine with_tabW F68.tab7 F68.bits7 (fun HT_ HW_ => ?_)
  generalize Fu.drew = K0 at Be s8 Bf wS wT rp wU ay HK HB hHeld ⊢
  refine pu_ 0 37 (bs 14 1) HT_ ?_ rfl rfl
  refine pu_ 1 38 (bs 14 3) HT_ ?_ rfl rfl
  refine pu_ 2 39 (bs 14 7) HT_ ?_ rfl rfl
  refine pu_ 3 40 (bs 14 15) HT_ ?_ rfl rfl
  refine pu_ 5 42 (bs 14 47) HT_ ?_ rfl rfl
  refine pu_ 6 43 (bs 14 111) HT_ ?_ rfl rfl
  refine pu_ 7 44 (bs 14 239) HT_ ?_ rfl rfl
  refine tk_ 4 41 (bs 14 255) HT_ HW_ hHeld au1_10 ?_ rfl rfl
  refine tk_ 8 45 (bs 14 511) HT_ HW_ hHeld au1_10 ?_ rfl rfl
  refine pu_ 9 46 (bs 14 1023) HT_ ?_ rfl rfl
  refine pu_ 10 47 (bs 14 2047) HT_ ?_ rfl rfl
  refine pu_ 11 48 (bs 14 4095) HT_ ?_ rfl rfl
  refine pu_ 12 49 (bs 14 8191) HT_ ?_ rfl rfl
  refine last_ (i := 13) (N := none) (bs 14 16383) rfl rfl (one_of HT_.out (by kernel_rfl)) (by decide) (fun K hK => ?_)
  have b2b : K0.cell? ⟨g, 2, none⟩ = some (.int .u64 am) := rp
  have a8Y := s8
  refine skip_ (w1 := ?_) (by rfl) rfl ?_ ?_
  rotate_left
  ·go_simp
   rfl
  refine hK.out _ _ ?_
  clear hK K
  refine done_ (done_of HT_.out (by kernel_rfl)) ?_
  try go_wp2
  have bI : Aside0 (IsS111 w0 (K0.setCell ⟨g, 2, none⟩ (.int .u64 (Go.bits .xor .u64 am (IntKind.u64.wrap (am * 8192))))) g ae bh (Go.bits .xor .u64 am (IntKind.u64.wrap (am * 8192))) bB) := ⟨is1_0_⟩
  have bZ : Aside0 (KeepBut w (K0.setCell ⟨g, 2, none⟩ (.int .u64 (Go.bits .xor .u64 am (IntKind.u64.wrap (am * 8192))))) g none) := ⟨au1_2⟩
  have n2_ : Aside0 (Below w0.heap.size w0 (K0.setCell ⟨g, 2, none⟩ (.int .u64 (Go.bits .xor .u64 am (IntKind.u64.wrap (am * 8192)))))) := ⟨au1_1⟩
  (try clear ay)
  (try clear HK)
  (try clear HB)
  generalize (K0.setCell ⟨g, 2, none⟩ (.int .u64 (Go.bits .xor .u64 am (IntKind.u64.wrap (am * 8192))))) = AM at bI bZ n2_ ⊢
  have ay := bI
  have HK := bZ
  have HB := n2_
  clear bI bZ n2_
  obtain ⟨wV, wW, n6, O2, Yy⟩ := ay.out
  have lY := cellS111_0 n6
  have oM := cellS111_1 n6
  have rq := cellS111_2 n6
  have FT := cellS111_3 n6
  have oN := blk_frozen n6 1
  have rr := blk_frozen n6 2
  have FU := blk_frozen n6 3
  clear n6 O2
  replace ay := am_ (IsS111.drew ay.out)
  replace HK := am_ (keep_drew HK.out)
  replace HB := am_ (below_drew1 HB.out)
  have Bg : AM.drew.frozen? ⟨g, 1, none⟩ = false := oN
  have s9 : AM.drew.frozen? ⟨g, 2, none⟩ = false := rr
  have Bh : AM.drew.frozen? ⟨g, 3, none⟩ = false := FU
  have wX : AM.drew.cell? ⟨g, 0, none⟩ = some (.slice wV ae.length wW) := lY
  have wY : AM.drew.cell? ⟨g, 1, none⟩ = some (.int .i64 bh) := oM
  have rt : AM.drew.cell? ⟨g, 2, none⟩ = some (.int .u64 (Go.bits .xor .u64 am (IntKind.u64.wrap (am * 8192)))) := rq
  have wZ : AM.drew.cell? ⟨g, 3, none⟩ = some (.int .i64 bB) := FT
  refine start_ (n := 14) (S := fun w' => w'.cell? ⟨g, 0, none⟩ = some (.slice wV ae.length wW) ∧ w'.cell? ⟨g, 1, none⟩ = some (.int .i64 bh) ∧ w'.cell? ⟨g, 2, none⟩ = some (.int .u64 (Go.bits .xor .u64 am (IntKind.u64.wrap (am * 8192)))) ∧ w'.cell? ⟨g, 3, none⟩ = some (.int .i64 bB)) (ds := [13]) (bs 14 0) (by kernel_rfl) rfl rfl ⟨wX, wY, rt, wZ⟩ (fun hHeld => ?_); refine with_tabW F68.tab8 F68.bits8 (fun HT_ HW_ => ?_)
  generalize AM.drew = K1 at Bg s9 Bh wX wY rt wZ ay HK HB hHeld ⊢
  refine pu_ 0 50 (bs 14 1) HT_ ?_ rfl rfl
  refine pu_ 1 51 (bs 14 3) HT_ ?_ rfl rfl
  refine pu_ 2 52 (bs 14 7) HT_ ?_ rfl rfl
  refine pu_ 3 53 (bs 14 15) HT_ ?_ rfl rfl
  refine pu_ 5 55 (bs 14 47) HT_ ?_ rfl rfl
  refine pu_ 6 56 (bs 14 111) HT_ ?_ rfl rfl
  refine pu_ 7 57 (bs 14 239) HT_ ?_ rfl rfl
  refine tk_ 4 54 (bs 14 255) HT_ HW_ hHeld au1_10 ?_ rfl rfl
  refine tk_ 8 58 (bs 14 511) HT_ HW_ hHeld au1_10 ?_ rfl rfl
  refine pu_ 9 59 (bs 14 1023) HT_ ?_ rfl rfl
  refine pu_ 10 60 (bs 14 2047) HT_ ?_ rfl rfl
  refine pu_ 11 61 (bs 14 4095) HT_ ?_ rfl rfl
  refine pu_ 12 62 (bs 14 8191) HT_ ?_ rfl rfl
  refine last_ (i := 13) (N := none) (bs 14 16383) rfl rfl (one_of HT_.out (by kernel_rfl)) (by decide) (fun K hK => ?_)
  have b2c : K1.cell? ⟨g, 2, none⟩ = some (.int .u64 (Go.bits .xor .u64 am (IntKind.u64.wrap (am * 8192)))) := rt
  have a8Z := s9
  refine skip_ (w1 := ?_) (by rfl) rfl ?_ ?_
  rotate_left
  ·go_simp
   rfl
  refine hK.out _ _ ?_
  clear hK K
  refine done_ (done_of HT_.out (by kernel_rfl)) ?_
  try go_wp2
  have bI : Aside0 (IsS111 w0 (K1.setCell ⟨g, 2, none⟩ (.int .u64 (Go.bits .xor .u64 (Go.bits .xor .u64 am (IntKind.u64.wrap (am * 8192))) ((Go.bits .xor .u64 am (IntKind.u64.wrap (am * 8192))) / 128)))) g ae bh (Go.bits .xor .u64 (Go.bits .xor .u64 am (IntKind.u64.wrap (am * 8192))) ((Go.bits .xor .u64 am (IntKind.u64.wrap (am * 8192))) / 128)) bB) := ⟨is1_0_⟩
  have bZ : Aside0 (KeepBut w (K1.setCell ⟨g, 2, none⟩ (.int .u64 (Go.bits .xor .u64 (Go.bits .xor .u64 am (IntKind.u64.wrap (am * 8192))) ((Go.bits .xor .u64 am (IntKind.u64.wrap (am * 8192))) / 128)))) g none) := ⟨au1_2⟩
  have n2_ : Aside0 (Below w0.heap.size w0 (K1.setCell ⟨g, 2, none⟩ (.int .u64 (Go.bits .xor .u64 (Go.bits .xor .u64 am (IntKind.u64.wrap (am * 8192))) ((Go.bits .xor .u64 am (IntKind.u64.wrap (am * 8192))) / 128))))) := ⟨au1_1⟩
  (try clear ay)
  (try clear HK)
  (try clear HB)
  generalize (K1.setCell ⟨g, 2, none⟩ (.int .u64 (Go.bits .xor .u64 (Go.bits .xor .u64 am (IntKind.u64.wrap (am * 8192))) ((Go.bits .xor .u64 am (IntKind.u64.wrap (am * 8192))) / 128)))) = ta at bI bZ n2_ ⊢
  have ay := bI
  have HK := bZ
  have HB := n2_
  clear bI bZ n2_
  obtain ⟨xa, xb, n7, O3, Yz⟩ := ay.out
  have gJ := cellS111_0 n7
  have gK := cellS111_1 n7
  have kN := cellS111_2 n7
  have FV := cellS111_3 n7
  have gL := blk_frozen n7 1
  have kO := blk_frozen n7 2
  have FW := blk_frozen n7 3
  clear n7 O3
  replace ay := am_ (IsS111.drew ay.out)
  replace HK := am_ (keep_drew HK.out)
  replace HB := am_ (below_drew1 HB.out)
  have Bi : ta.drew.frozen? ⟨g, 1, none⟩ = false := gL
  have tb : ta.drew.frozen? ⟨g, 2, none⟩ = false := kO
  have Bj : ta.drew.frozen? ⟨g, 3, none⟩ = false := FW
  have xc : ta.drew.cell? ⟨g, 0, none⟩ = some (.slice xa ae.length xb) := gJ
  have xd : ta.drew.cell? ⟨g, 1, none⟩ = some (.int .i64 bh) := gK
  have ru : ta.drew.cell? ⟨g, 2, none⟩ = some (.int .u64 (Go.bits .xor .u64 (Go.bits .xor .u64 am (IntKind.u64.wrap (am * 8192))) ((Go.bits .xor .u64 am (IntKind.u64.wrap (am * 8192))) / 128))) := kN
  have xe : ta.drew.cell? ⟨g, 3, none⟩ = some (.int .i64 bB) := FV
  refine start_ (n := 14) (S := fun w' => w'.cell? ⟨g, 0, none⟩ = some (.slice xa ae.length xb) ∧ w'.cell? ⟨g, 1, none⟩ = some (.int .i64 bh) ∧ w'.cell? ⟨g, 2, none⟩ = some (.int .u64 (Go.bits .xor .u64 (Go.bits .xor .u64 am (IntKind.u64.wrap (am * 8192))) ((Go.bits .xor .u64 am (IntKind.u64.wrap (am * 8192))) / 128))) ∧ w'.cell? ⟨g, 3, none⟩ = some (.int .i64 bB)) (ds := [13]) (bs 14 0) (by kernel_rfl) rfl rfl ⟨xc, xd, ru, xe⟩ (fun hHeld => ?_); refine with_tabW F68.tab9 F68.bits9 (fun HT_ HW_ => ?_)
  generalize ta.drew = w37 at Bi tb Bj xc xd ru xe ay HK HB hHeld ⊢
  refine pu_ 0 63 (bs 14 1) HT_ ?_ rfl rfl
  refine pu_ 1 64 (bs 14 3) HT_ ?_ rfl rfl
  refine pu_ 2 65 (bs 14 7) HT_ ?_ rfl rfl
  refine pu_ 3 66 (bs 14 15) HT_ ?_ rfl rfl
  refine pu_ 5 68 (bs 14 47) HT_ ?_ rfl rfl
  refine pu_ 6 69 (bs 14 111) HT_ ?_ rfl rfl
  refine pu_ 7 70 (bs 14 239) HT_ ?_ rfl rfl
  refine tk_ 4 67 (bs 14 255) HT_ HW_ hHeld au1_10 ?_ rfl rfl
  refine tk_ 8 71 (bs 14 511) HT_ HW_ hHeld au1_10 ?_ rfl rfl
  refine pu_ 9 72 (bs 14 1023) HT_ ?_ rfl rfl
  refine pu_ 10 73 (bs 14 2047) HT_ ?_ rfl rfl
  refine pu_ 11 74 (bs 14 4095) HT_ ?_ rfl rfl
  refine pu_ 12 75 (bs 14 8191) HT_ ?_ rfl rfl
  refine last_ (i := 13) (N := none) (bs 14 16383) rfl rfl (one_of HT_.out (by kernel_rfl)) (by decide) (fun K hK => ?_)
  have b2d : w37.cell? ⟨g, 2, none⟩ = some (.int .u64 (Go.bits .xor .u64 (Go.bits .xor .u64 am (IntKind.u64.wrap (am * 8192))) ((Go.bits .xor .u64 am (IntKind.u64.wrap (am * 8192))) / 128))) := ru
  have a81 := tb
  refine skip_ (w1 := ?_) (by rfl) rfl ?_ ?_
  rotate_left
  ·go_simp
   rfl
  refine hK.out _ _ ?_
  clear hK K
  refine done_ (done_of HT_.out (by kernel_rfl)) ?_
  obtain ⟨YA, YB, n8, O4, YC⟩ := ay.out
  have YD := cellS111_0 n8
  have YE := cellS111_1 n8
  have YF := cellS111_2 n8
  have YG := cellS111_3 n8
  have YH := blk_frozen n8 1
  have YI := blk_frozen n8 2
  have YJ := blk_frozen n8 3
  clear n8 O4
  try go_wp2
  go_ret
  exact ⟨au1_5, is1_0_, au1_1, au1_2⟩

 replace H := itn_ H; rcases H with ⟨c5b0, H⟩
 by_cases c6 : (IntKind.u64.wrap (a1)) = 0
 ·rw [if_pos c6] at H
  exact absurd H (by simp)
 rw [if_neg c6] at H
 have c6b0 : ((IntKind.u64.wrap (a1)) == 0) = false := beq_eq_false_iff_ne.mpr c6
 have c6b1 : ((IntKind.u64.wrap (a1)) != 0) = true := bne_iff_ne.mpr c6
 simp only [Option.some.injEq, Prod.mk.injEq] at H
 obtain ⟨rfl, rfl, rfl, rfl⟩ := H
 go_enter Tryd.func68, Tryd.ntmps68
 try go_wp2
 obtain ⟨Bk, Bl, tc, a3c, a3d⟩ := ay.out
 have jF := cellS111_0 tc
 have kr := cellS111_1 tc
 have K2 := cellS111_2 tc
 have K3 := cellS111_3 tc
 have ks := blk_frozen tc 1
 have K4 := blk_frozen tc 2
 have K5 := blk_frozen tc 3
 clear tc a3c
 replace ay := am_ (IsS111.drew ay.out)
 replace HK := am_ (keep_drew HK.out)
 replace HB := am_ (below_drew1 HB.out)
 have FX : w.drew.frozen? ⟨g, 1, none⟩ = false := ks
 have FY : w.drew.frozen? ⟨g, 2, none⟩ = false := K4
 have FZ : w.drew.frozen? ⟨g, 3, none⟩ = false := K5
 have Bm : w.drew.cell? ⟨g, 0, none⟩ = some (.slice Bk ae.length Bl) := jF
 have Bn : w.drew.cell? ⟨g, 1, none⟩ = some (.int .i64 bh) := kr
 have Bo : w.drew.cell? ⟨g, 2, none⟩ = some (.int .u64 am) := K2
 have Bp : w.drew.cell? ⟨g, 3, none⟩ = some (.int .i64 bB) := K3
 refine start_ (n := 10) (S := fun w' => w'.cell? ⟨g, 0, none⟩ = some (.slice Bk ae.length Bl) ∧ w'.cell? ⟨g, 1, none⟩ = some (.int .i64 bh) ∧ w'.cell? ⟨g, 2, none⟩ = some (.int .u64 am) ∧ w'.cell? ⟨g, 3, none⟩ = some (.int .i64 bB)) (ds := []) (bs 10 0) (by kernel_rfl) rfl rfl ⟨Bm, Bn, Bo, Bp⟩ (fun hHeld => ?_); refine with_tabW F68.tab4 F68.bits4 (fun HT_ HW_ => ?_)
 generalize w.drew = w8 at FX FY FZ Bm Bn Bo Bp ay HK HB hHeld ⊢
 refine pu_ 0 8 (bs 10 1) HT_ ?_ rfl rfl
 refine pu_ 1 9 (bs 10 3) HT_ ?_ rfl rfl
 refine pu_ 2 10 (bs 10 7) HT_ ?_ rfl rfl
 refine pu_ 4 12 (bs 10 23) HT_ ?_ rfl rfl
 refine pu_ 5 13 (bs 10 55) HT_ ?_ rfl rfl
 refine pu_ 6 14 (bs 10 119) HT_ ?_ rfl rfl
 refine tk_ 3 11 (bs 10 127) HT_ HW_ hHeld au1_10 ?_ rfl rfl
 refine tk_ 7 15 (bs 10 255) HT_ HW_ hHeld au1_10 ?_ rfl rfl
 refine pu_ 8 16 (bs 10 511) HT_ ?_ rfl rfl
 refine pu_ 9 17 (bs 10 1023) HT_ ?_ rfl rfl
 refine done_ (done_of HT_.out (by kernel_rfl)) ?_
 try go_wp2
 obtain ⟨K6, Bq, td, a3e, K7⟩ := ay.out
 have jf := cellS111_0 td
 have jg := cellS111_1 td
 have nh := cellS111_2 td
 have ni := cellS111_3 td
 have jh := blk_frozen td 1
 have nj := blk_frozen td 2
 have nk := blk_frozen td 3
 clear td a3e
 replace ay := am_ (IsS111.drew ay.out)
 replace HK := am_ (keep_drew HK.out)
 replace HB := am_ (below_drew1 HB.out)
 have F0 : w8.drew.frozen? ⟨g, 1, none⟩ = false := jh
 have F1 : w8.drew.frozen? ⟨g, 2, none⟩ = false := nj
 have F3 : w8.drew.frozen? ⟨g, 3, none⟩ = false := nk
 have Br : w8.drew.cell? ⟨g, 0, none⟩ = some (.slice K6 ae.length Bq) := jf
 have Bs : w8.drew.cell? ⟨g, 1, none⟩ = some (.int .i64 bh) := jg
 have Bt : w8.drew.cell? ⟨g, 2, none⟩ = some (.int .u64 am) := nh
 have Bu : w8.drew.cell? ⟨g, 3, none⟩ = some (.int .i64 bB) := ni
 have K8 : 0 ≤ (bh : Int) := od_
 have rv : bh < (ae.length : Int) := od_
 obtain ⟨IK, a3f, oO⟩ := Kd.at_int K7 bh K8 rv
 have xf := oO
 cases a3f
 replace oO := pw_cell_below HB.out oO
 replace K8 := eq_true K8
 replace rv := eq_true rv
 refine start_ (n := 12) (S := fun w' => w'.cell? ⟨g, 0, none⟩ = some (.slice (some IK) ae.length Bq) ∧ w'.cell? ⟨g, 1, none⟩ = some (.int .i64 bh) ∧ w'.cell? ⟨g, 2, none⟩ = some (.int .u64 am) ∧ w'.cell? ⟨g, 3, none⟩ = some (.int .i64 bB) ∧ w'.cell? (IK.add (bh).toNat) = some (.int .u8 (rd ae bh))) (ds := []) (bs 12 0) (by kernel_rfl) rfl rfl ⟨Br, Bs, Bt, Bu, ((HB.out.cell (World.block_lt_of_cell? _ _ xf)).trans xf)⟩ (fun hHeld => ?_); refine with_tabW F68.tab5 F68.bits5 (fun HT_ HW_ => ?_)
 generalize w8.drew = F4 at F0 F1 F3 Br Bs Bt Bu ay HK HB oO hHeld ⊢
 refine pu_ 0 18 (bs 12 1) HT_ ?_ rfl rfl
 refine pu_ 1 19 (bs 12 3) HT_ ?_ rfl rfl
 refine pu_ 2 20 (bs 12 7) HT_ ?_ rfl rfl
 refine pu_ 4 22 (bs 12 23) HT_ ?_ rfl rfl
 refine pu_ 5 23 (bs 12 55) HT_ ?_ rfl rfl
 refine pu_ 6 24 (bs 12 119) HT_ ?_ rfl rfl
 refine tk_ 3 21 (bs 12 127) HT_ HW_ hHeld au1_12 ?_ rfl rfl
 refine tk_ 7 25 (bs 12 255) HT_ HW_ hHeld au1_12 ?_ rfl rfl
 refine pu_ 8 26 (bs 12 511) HT_ ?_ rfl rfl
 refine tk_ 9 27 (bs 12 1023) HT_ HW_ hHeld au1_12 ?_ rfl rfl
 refine pu_ 10 28 (bs 12 2047) HT_ ?_ rfl rfl
 refine pu_ 11 5 (bs 12 4095) HT_ ?_ rfl rfl
 refine done_ (done_of HT_.out (by kernel_rfl)) ?_
 obtain ⟨YK, YL, n9, O5, YM⟩ := ay.out
 have fe := cellS111_0 n9
 have ff := cellS111_1 n9
 have fg := cellS111_2 n9
 have fh := cellS111_3 n9
 have fi := blk_frozen n9 1
 have fj := blk_frozen n9 2
 have fk := blk_frozen n9 3
 clear n9 O5
 try go_wp2
 have bI : Aside0 (IsS111 w0 (F4.setCell ⟨g, 1, none⟩ (.int .i64 (wrap64 (bh + 1)))) g ae (wrap64 (bh + 1)) am bB) := ⟨is1_0_⟩
 have bZ : Aside0 (KeepBut w (F4.setCell ⟨g, 1, none⟩ (.int .i64 (wrap64 (bh + 1)))) g none) := ⟨au1_2⟩
 have n2_ : Aside0 (Below w0.heap.size w0 (F4.setCell ⟨g, 1, none⟩ (.int .i64 (wrap64 (bh + 1))))) := ⟨au1_1⟩
 (try clear ay)
 (try clear HK)
 (try clear HB)
 generalize (F4.setCell ⟨g, 1, none⟩ (.int .i64 (wrap64 (bh + 1)))) = rx at bI bZ n2_ ⊢
 have ay := bI
 have HK := bZ
 have HB := n2_
 clear bI bZ n2_
 obtain ⟨xg, xh, oa, O6, YN⟩ := ay.out
 have fQ := cellS111_0 oa
 have fR := cellS111_1 oa
 have fS := cellS111_2 oa
 have fT := cellS111_3 oa
 have fU := blk_frozen oa 1
 have fV := blk_frozen oa 2
 have fW := blk_frozen oa 3
 clear oa O6
 replace ay := am_ (IsS111.drew ay.out)
 replace HK := am_ (keep_drew HK.out)
 replace HB := am_ (below_drew1 HB.out)
 have Bv : rx.drew.frozen? ⟨g, 1, none⟩ = false := fU
 have te : rx.drew.frozen? ⟨g, 2, none⟩ = false := fV
 have Bw : rx.drew.frozen? ⟨g, 3, none⟩ = false := fW
 have xi : rx.drew.cell? ⟨g, 0, none⟩ = some (.slice xg ae.length xh) := fQ
 have xj : rx.drew.cell? ⟨g, 1, none⟩ = some (.int .i64 (wrap64 (bh + 1))) := fR
 have ry : rx.drew.cell? ⟨g, 2, none⟩ = some (.int .u64 am) := fS
 have xk : rx.drew.cell? ⟨g, 3, none⟩ = some (.int .i64 bB) := fT
 refine start_ (n := 14) (S := fun w' => w'.cell? ⟨g, 0, none⟩ = some (.slice xg ae.length xh) ∧ w'.cell? ⟨g, 1, none⟩ = some (.int .i64 (wrap64 (bh + 1))) ∧ w'.cell? ⟨g, 2, none⟩ = some (.int .u64 am) ∧ w'.cell? ⟨g, 3, none⟩ = some (.int .i64 bB)) (ds := [13]) (bs 14 0) (by kernel_rfl) rfl rfl ⟨xi, xj, ry, xk⟩ (fun hHeld => ?_); refine with_tabW F68.tab7 F68.bits7 (fun HT_ HW_ => ?_)
 generalize rx.drew = AN at Bv te Bw xi xj ry xk ay HK HB hHeld ⊢
 refine pu_ 0 37 (bs 14 1) HT_ ?_ rfl rfl
 refine pu_ 1 38 (bs 14 3) HT_ ?_ rfl rfl
 refine pu_ 2 39 (bs 14 7) HT_ ?_ rfl rfl
 refine pu_ 3 40 (bs 14 15) HT_ ?_ rfl rfl
 refine pu_ 5 42 (bs 14 47) HT_ ?_ rfl rfl
 refine pu_ 6 43 (bs 14 111) HT_ ?_ rfl rfl
 refine pu_ 7 44 (bs 14 239) HT_ ?_ rfl rfl
 refine tk_ 4 41 (bs 14 255) HT_ HW_ hHeld au1_10 ?_ rfl rfl
 refine tk_ 8 45 (bs 14 511) HT_ HW_ hHeld au1_10 ?_ rfl rfl
 refine pu_ 9 46 (bs 14 1023) HT_ ?_ rfl rfl
 refine pu_ 10 47 (bs 14 2047) HT_ ?_ rfl rfl
 refine pu_ 11 48 (bs 14 4095) HT_ ?_ rfl rfl
 refine pu_ 12 49 (bs 14 8191) HT_ ?_ rfl rfl
 refine last_ (i := 13) (N := none) (bs 14 16383) rfl rfl (one_of HT_.out (by kernel_rfl)) (by decide) (fun K hK => ?_)
 have b2e : AN.cell? ⟨g, 2, none⟩ = some (.int .u64 am) := ry
 have a82 := te
 refine skip_ (w1 := ?_) (by rfl) rfl ?_ ?_
 rotate_left
 ·go_simp
  rfl
 refine hK.out _ _ ?_
 clear hK K
 refine done_ (done_of HT_.out (by kernel_rfl)) ?_
 try go_wp2
 have bI : Aside0 (IsS111 w0 (AN.setCell ⟨g, 2, none⟩ (.int .u64 (Go.bits .xor .u64 am (IntKind.u64.wrap (am * 8192))))) g ae (wrap64 (bh + 1)) (Go.bits .xor .u64 am (IntKind.u64.wrap (am * 8192))) bB) := ⟨is1_0_⟩
 have bZ : Aside0 (KeepBut w (AN.setCell ⟨g, 2, none⟩ (.int .u64 (Go.bits .xor .u64 am (IntKind.u64.wrap (am * 8192))))) g none) := ⟨au1_2⟩
 have n2_ : Aside0 (Below w0.heap.size w0 (AN.setCell ⟨g, 2, none⟩ (.int .u64 (Go.bits .xor .u64 am (IntKind.u64.wrap (am * 8192)))))) := ⟨au1_1⟩
 (try clear ay)
 (try clear HK)
 (try clear HB)
 generalize (AN.setCell ⟨g, 2, none⟩ (.int .u64 (Go.bits .xor .u64 am (IntKind.u64.wrap (am * 8192))))) = kP at bI bZ n2_ ⊢
 have ay := bI
 have HK := bZ
 have HB := n2_
 clear bI bZ n2_
 obtain ⟨xl, xm, ob, O7, YO⟩ := ay.out
 have F6 := cellS111_0 ob
 have F7 := cellS111_1 ob
 have F8 := cellS111_2 ob
 have F9 := cellS111_3 ob
 have Ga := blk_frozen ob 1
 have Gb := blk_frozen ob 2
 have Gc := blk_frozen ob 3
 clear ob O7
 replace ay := am_ (IsS111.drew ay.out)
 replace HK := am_ (keep_drew HK.out)
 replace HB := am_ (below_drew1 HB.out)
 have Bx : kP.drew.frozen? ⟨g, 1, none⟩ = false := Ga
 have tf : kP.drew.frozen? ⟨g, 2, none⟩ = false := Gb
 have By : kP.drew.frozen? ⟨g, 3, none⟩ = false := Gc
 have xn : kP.drew.cell? ⟨g, 0, none⟩ = some (.slice xl ae.length xm) := F6
 have xo : kP.drew.cell? ⟨g, 1, none⟩ = some (.int .i64 (wrap64 (bh + 1))) := F7
 have rz : kP.drew.cell? ⟨g, 2, none⟩ = some (.int .u64 (Go.bits .xor .u64 am (IntKind.u64.wrap (am * 8192)))) := F8
 have xq : kP.drew.cell? ⟨g, 3, none⟩ = some (.int .i64 bB) := F9
 refine start_ (n := 14) (S := fun w' => w'.cell? ⟨g, 0, none⟩ = some (.slice xl ae.length xm) ∧ w'.cell? ⟨g, 1, none⟩ = some (.int .i64 (wrap64 (bh + 1))) ∧ w'.cell? ⟨g, 2, none⟩ = some (.int .u64 (Go.bits .xor .u64 am (IntKind.u64.wrap (am * 8192)))) ∧ w'.cell? ⟨g, 3, none⟩ = some (.int .i64 bB)) (ds := [13]) (bs 14 0) (by kernel_rfl) rfl rfl ⟨xn, xo, rz, xq⟩ (fun hHeld => ?_); refine with_tabW F68.tab8 F68.bits8 (fun HT_ HW_ => ?_)
 generalize kP.drew = Fv at Bx tf By xn xo rz xq ay HK HB hHeld ⊢
 refine pu_ 0 50 (bs 14 1) HT_ ?_ rfl rfl
 refine pu_ 1 51 (bs 14 3) HT_ ?_ rfl rfl
 refine pu_ 2 52 (bs 14 7) HT_ ?_ rfl rfl
 refine pu_ 3 53 (bs 14 15) HT_ ?_ rfl rfl
 refine pu_ 5 55 (bs 14 47) HT_ ?_ rfl rfl
 refine pu_ 6 56 (bs 14 111) HT_ ?_ rfl rfl
 refine pu_ 7 57 (bs 14 239) HT_ ?_ rfl rfl
 refine tk_ 4 54 (bs 14 255) HT_ HW_ hHeld au1_10 ?_ rfl rfl
 refine tk_ 8 58 (bs 14 511) HT_ HW_ hHeld au1_10 ?_ rfl rfl
 refine pu_ 9 59 (bs 14 1023) HT_ ?_ rfl rfl
 refine pu_ 10 60 (bs 14 2047) HT_ ?_ rfl rfl
 refine pu_ 11 61 (bs 14 4095) HT_ ?_ rfl rfl
 refine pu_ 12 62 (bs 14 8191) HT_ ?_ rfl rfl
 refine last_ (i := 13) (N := none) (bs 14 16383) rfl rfl (one_of HT_.out (by kernel_rfl)) (by decide) (fun K hK => ?_)
 have b2f : Fv.cell? ⟨g, 2, none⟩ = some (.int .u64 (Go.bits .xor .u64 am (IntKind.u64.wrap (am * 8192)))) := rz
 have a83 := tf
 refine skip_ (w1 := ?_) (by rfl) rfl ?_ ?_
 rotate_left
 ·go_simp
  rfl
 refine hK.out _ _ ?_
 clear hK K
 refine done_ (done_of HT_.out (by kernel_rfl)) ?_
 try go_wp2
 have bI : Aside0 (IsS111 w0 (Fv.setCell ⟨g, 2, none⟩ (.int .u64 (Go.bits .xor .u64 (Go.bits .xor .u64 am (IntKind.u64.wrap (am * 8192))) ((Go.bits .xor .u64 am (IntKind.u64.wrap (am * 8192))) / 128)))) g ae (wrap64 (bh + 1)) (Go.bits .xor .u64 (Go.bits .xor .u64 am (IntKind.u64.wrap (am * 8192))) ((Go.bits .xor .u64 am (IntKind.u64.wrap (am * 8192))) / 128)) bB) := ⟨is1_0_⟩
 have bZ : Aside0 (KeepBut w (Fv.setCell ⟨g, 2, none⟩ (.int .u64 (Go.bits .xor .u64 (Go.bits .xor .u64 am (IntKind.u64.wrap (am * 8192))) ((Go.bits .xor .u64 am (IntKind.u64.wrap (am * 8192))) / 128)))) g none) := ⟨au1_2⟩
 have n2_ : Aside0 (Below w0.heap.size w0 (Fv.setCell ⟨g, 2, none⟩ (.int .u64 (Go.bits .xor .u64 (Go.bits .xor .u64 am (IntKind.u64.wrap (am * 8192))) ((Go.bits .xor .u64 am (IntKind.u64.wrap (am * 8192))) / 128))))) := ⟨au1_1⟩
 (try clear ay)
 (try clear HK)
 (try clear HB)
 generalize (Fv.setCell ⟨g, 2, none⟩ (.int .u64 (Go.bits .xor .u64 (Go.bits .xor .u64 am (IntKind.u64.wrap (am * 8192))) ((Go.bits .xor .u64 am (IntKind.u64.wrap (am * 8192))) / 128)))) = xr at bI bZ n2_ ⊢
 have ay := bI
 have HK := bZ
 have HB := n2_
 clear bI bZ n2_
 obtain ⟨xt, xu, oc, O8, YP⟩ := ay.out
 have lZ := cellS111_0 oc
 have l5 := cellS111_1 oc
 have Gd := cellS111_2 oc
 have Ge := cellS111_3 oc
 have l6 := blk_frozen oc 1
 have Gf := blk_frozen oc 2
 have Gg := blk_frozen oc 3
 clear oc O8
 replace ay := am_ (IsS111.drew ay.out)
 replace HK := am_ (keep_drew HK.out)
 replace HB := am_ (below_drew1 HB.out)
 have Bz : xr.drew.frozen? ⟨g, 1, none⟩ = false := l6
 have th : xr.drew.frozen? ⟨g, 2, none⟩ = false := Gf
 have BA : xr.drew.frozen? ⟨g, 3, none⟩ = false := Gg
 have xv : xr.drew.cell? ⟨g, 0, none⟩ = some (.slice xt ae.length xu) := lZ
 have xw : xr.drew.cell? ⟨g, 1, none⟩ = some (.int .i64 (wrap64 (bh + 1))) := l5
 have rA : xr.drew.cell? ⟨g, 2, none⟩ = some (.int .u64 (Go.bits .xor .u64 (Go.bits .xor .u64 am (IntKind.u64.wrap (am * 8192))) ((Go.bits .xor .u64 am (IntKind.u64.wrap (am * 8192))) / 128))) := Gd
 have xx : xr.drew.cell? ⟨g, 3, none⟩ = some (.int .i64 bB) := Ge
 refine start_ (n := 14) (S := fun w' => w'.cell? ⟨g, 0, none⟩ = some (.slice xt ae.length xu) ∧ w'.cell? ⟨g, 1, none⟩ = some (.int .i64 (wrap64 (bh + 1))) ∧ w'.cell? ⟨g, 2, none⟩ = some (.int .u64 (Go.bits .xor .u64 (Go.bits .xor .u64 am (IntKind.u64.wrap (am * 8192))) ((Go.bits .xor .u64 am (IntKind.u64.wrap (am * 8192))) / 128))) ∧ w'.cell? ⟨g, 3, none⟩ = some (.int .i64 bB)) (ds := [13]) (bs 14 0) (by kernel_rfl) rfl rfl ⟨xv, xw, rA, xx⟩ (fun hHeld => ?_); refine with_tabW F68.tab9 F68.bits9 (fun HT_ HW_ => ?_)
 generalize xr.drew = OC at Bz th BA xv xw rA xx ay HK HB hHeld ⊢
 refine pu_ 0 63 (bs 14 1) HT_ ?_ rfl rfl
 refine pu_ 1 64 (bs 14 3) HT_ ?_ rfl rfl
 refine pu_ 2 65 (bs 14 7) HT_ ?_ rfl rfl
 refine pu_ 3 66 (bs 14 15) HT_ ?_ rfl rfl
 refine pu_ 5 68 (bs 14 47) HT_ ?_ rfl rfl
 refine pu_ 6 69 (bs 14 111) HT_ ?_ rfl rfl
 refine pu_ 7 70 (bs 14 239) HT_ ?_ rfl rfl
 refine tk_ 4 67 (bs 14 255) HT_ HW_ hHeld au1_10 ?_ rfl rfl
 refine tk_ 8 71 (bs 14 511) HT_ HW_ hHeld au1_10 ?_ rfl rfl
 refine pu_ 9 72 (bs 14 1023) HT_ ?_ rfl rfl
 refine pu_ 10 73 (bs 14 2047) HT_ ?_ rfl rfl
 refine pu_ 11 74 (bs 14 4095) HT_ ?_ rfl rfl
 refine pu_ 12 75 (bs 14 8191) HT_ ?_ rfl rfl
 refine last_ (i := 13) (N := none) (bs 14 16383) rfl rfl (one_of HT_.out (by kernel_rfl)) (by decide) (fun K hK => ?_)
 have a3g : OC.cell? ⟨g, 2, none⟩ = some (.int .u64 (Go.bits .xor .u64 (Go.bits .xor .u64 am (IntKind.u64.wrap (am * 8192))) ((Go.bits .xor .u64 am (IntKind.u64.wrap (am * 8192))) / 128))) := rA
 have O9 := th
 refine skip_ (w1 := ?_) (by rfl) rfl ?_ ?_
 rotate_left
 ·go_simp
  rfl
 refine hK.out _ _ ?_
 clear hK K
 refine done_ (done_of HT_.out (by kernel_rfl)) ?_
 obtain ⟨YQ, YR, od, Pa, YS⟩ := ay.out
 have Gh := cellS111_0 od
 have Gi := cellS111_1 od
 have YT := cellS111_2 od
 have YU := cellS111_3 od
 have Gj := blk_frozen od 1
 have YV := blk_frozen od 2
 have YW := blk_frozen od 3
 clear od Pa
 try go_wp2
 go_ret
 exact ⟨au1_5, is1_0_, au1_1, au1_2⟩
/-! ### F67: function 67 -/
def F67.f (ae : List Int) (bh : Int) (am : Int) (bB : Int) (l1 : List ByteArray) : Option (ByteArray × Int × Int × Int) := (F68.f ae bh am bB (l1.length : Int)).bind fun jo => (if 0 ≤ jo.1 then (if jo.1 < (l1.length : Int) then (some (rdOf ByteArray.empty l1 jo.1, jo.2.1, jo.2.2.1, jo.2.2.2)) else (none)) else (none))
theorem F67.calls (g : Nat) (ae : List Int) (bh : Int) (am : Int) (bB : Int) (A1 : Option Addr) (c1 : Nat) (l1 : List ByteArray) (r1 : ByteArray) (r2 : Int) (r3 : Int) (r4 : Int) (w0 w : World) (hI : IsS111 w0 w g ae bh am bB) (hB : Below w0.heap.size w0 w) (hr1 : Kd.C Kd.string w A1 l1.length l1) (hc1 : l1.length ≤ c1) (hf1 : ∀ ad, A1 = some ad → 0 < l1.length → ad.block ≠ g) (h : F67.f ae bh am bB l1 = some (r1, r2, r3, r4)) :
  Calls Tryd.prog 67 #[.pointer (some ⟨g, 0, none⟩), .slice A1 l1.length c1] w fun e w' => e = .returned (.string r1) ∧ IsS111 w0 w' g ae r2 r3 r4 ∧ Below w0.heap.size w0 w' ∧ KeepBut w w' g none := by
 have Pb := am_ hr1
 have ko := am_ hc1
 clear hr1 hc1
 have ay := am_ hI
 have HK := am_ (KeepBut.refl w g none)
 have HL := am_ hB.size
 clear hI
 have qy := am_ hB.size
 have HB := am_ hB
 clear hB
 have H : ((F68.f ae bh am bB (l1.length : Int)).bind fun jo => (if 0 ≤ jo.1 then (if jo.1 < (l1.length : Int) then (some (rdOf ByteArray.empty l1 jo.1, jo.2.1, jo.2.2.1, jo.2.2.2)) else (none)) else (none))) = some (r1, r2, r3, r4) := h
 clear h
 replace H := bi_ H; rcases H with ⟨⟨zT, a3i, a3j, a3k⟩, A3, H⟩
 by_cases c4 : 0 ≤ zT
 rotate_left
 ·rw [if_neg c4] at H
  exact absurd H (by simp)

 rw [if_pos c4] at H
 have c4b0 : decide (0 ≤ zT) = true := decide_eq_true c4
 clear c4
 replace H := itn_ H; rcases H with ⟨c5b0, H⟩
 simp only [Option.some.injEq, Prod.mk.injEq] at H
 obtain ⟨rfl, rfl, rfl, rfl⟩ := H
 go_enter Tryd.func67, Tryd.ntmps67
 go_wp2_with (first | ((with_reducible refine gate_callee (f := 68) rfl ?_); refine gl_ 9 Tryd.func68 #[.pointer (some ⟨g, 0, none⟩), .int .i64 (l1.length : Int)] ?_ rfl rfl rfl rfl; (with_reducible refine (F68.calls g ae bh am bB (l1.length : Int) zT a3i a3j a3k w0 _ ?s1 ?s2 A3.out).mono ?_); (case s1 => exact au1_13); (case s2 => exact au1_16); rintro e w6 ⟨rfl, hi, hb, hk⟩; refine ⟨_, rfl, ?_⟩; replace HK := am_ (KeepBut.trans au1_11 hk (.inl rfl)); replace HB := am_ (hb); replace ay := am_ (hi); clear hb hk hi; have K9 : 0 ≤ (zT : Int) := od_; have La : zT < (l1.length : Int) := od_; obtain ⟨Pc, a3l, xy⟩ := Kd.at_string Pb.out zT K9 La; cases a3l; replace xy := keep_cell HK.out xy (by first | (rw [add_block]; exact hf1 _ rfl (by omega)) | exact hf1 _ rfl (by omega) | exact hf1 Pc rfl (by omega)); replace K9 := eq_true K9; replace La := eq_true La))
 go_ret
 exact ⟨au1_5, is1_0_, au1_1, au1_2⟩
/-! ### F70: function 70 -/
def F70.f (ae : List Int) (bh : Int) (am : Int) (bB : Int) (a1 : Int) : Option (Bool × Int × Int × Int) := (F68.f ae bh am bB a1).bind fun l7 => (some ((l7.1 == 0), l7.2.1, l7.2.2.1, l7.2.2.2))
theorem F70.calls (g : Nat) (ae : List Int) (bh : Int) (am : Int) (bB : Int) (a1 : Int) (r1 : Bool) (r2 : Int) (r3 : Int) (r4 : Int) (w0 w : World) (hI : IsS111 w0 w g ae bh am bB) (hB : Below w0.heap.size w0 w) (h : F70.f ae bh am bB a1 = some (r1, r2, r3, r4)) :
  Calls Tryd.prog 70 #[.pointer (some ⟨g, 0, none⟩), .int .i64 a1] w fun e w' => e = .returned (.bool r1) ∧ IsS111 w0 w' g ae r2 r3 r4 ∧ Below w0.heap.size w0 w' ∧ KeepBut w w' g none := by
 have ay := am_ hI
 have HK := am_ (KeepBut.refl w g none)
 have HL := am_ hB.size
 clear hI
 have qy := am_ hB.size
 have HB := am_ hB
 clear hB
 have H : ((F68.f ae bh am bB a1).bind fun l7 => (some ((l7.1 == 0), l7.2.1, l7.2.2.1, l7.2.2.2))) = some (r1, r2, r3, r4) := h
 clear h
 replace H := bi_ H; rcases H with ⟨⟨a3m, a3n, a3o, a3p⟩, A3, H⟩
 simp only [Option.some.injEq, Prod.mk.injEq] at H
 obtain ⟨rfl, rfl, rfl, rfl⟩ := H
 go_enter Tryd.func70, Tryd.ntmps70
 go_wp2_with (first | ((with_reducible refine gate_callee (f := 68) rfl ?_); refine gl_ 7 Tryd.func68 #[.pointer (some ⟨g, 0, none⟩), .int .i64 a1] ?_ rfl rfl rfl rfl; (with_reducible refine (F68.calls g ae bh am bB a1 a3m a3n a3o a3p w0 _ ?s1 ?s2 A3.out).mono ?_); (case s1 => exact au1_13); (case s2 => exact au1_16); rintro e w4 ⟨rfl, hi, hb, hk⟩; refine ⟨_, rfl, ?_⟩; replace HK := am_ (KeepBut.trans au1_11 hk (.inl rfl)); replace HB := am_ (hb); replace ay := am_ (hi); clear hb hk hi))
 go_ret
 exact ⟨au1_5, is1_0_, au1_1, au1_2⟩

/-! ### F100: function 100 -/
def F100.f  : Option (Int × Int × Int × Int) := some (39, 43, 58, 63)
theorem F100.calls  (r1 : Int) (r2 : Int) (r3 : Int) (r4 : Int) (w : World) (h : F100.f  = some (r1, r2, r3, r4)) :
  Calls Tryd.prog 100 #[] w fun e w' => e = .returned (.agg #[.int .i64 r1, .int .i64 r2, .int .i64 r3, .int .i64 r4]) ∧ Below w.heap.size w w' := by
 have IL := Tryd.underlying140
 have HB := am_ (Below.refl w.heap.size w)
 have H : (some (39, 43, 58, 63)) = some (r1, r2, r3, r4) := h
 clear h
 simp only [Option.some.injEq, Prod.mk.injEq] at H
 obtain ⟨rfl, rfl, rfl, rfl⟩ := H
 go_enter Tryd.func100, Tryd.ntmps100
 go_wp2_with (first | ((with_reducible refine gate_dst (N := 0) rfl ?_); refine be_ 0 #[.int .i64 0, .int .i64 0, .int .i64 0, .int .i64 0] 140 ?_; intro Pd hg w1 hbox hb; have IM := am_ (hbox); have Pe := am_ (gw_ hg bl_); have a84 := Pe; replace HB := hs_ w hb; clear hb hbox hg; obtain ⟨a3q, a3r, a3s, a3t, a3u, a3v, a3w, a3x⟩ := cellsF4 IM.out))
 refine bodyPost_ret (results_cell_row rfl _ _ Pd 140 #[.int .i64 39, .int .i64 43, .int .i64 58, .int .i64 63] (0, 0) _ rfl (bq_ IM) Tryd.underlying140 rfl (by kernel_rfl)) rfl ?_
 exact ⟨au1_5, bl_⟩

/-! ### F101: function 101 -/
def F101.l0 : Nat → Int → List Int → List Int → Int → Int → Int → Int → Int → Int → Int → Option (ByteArray × Int × Int × Int)
  | 0, _, _, _, _, _, _, _, _, _, _ => none
  | k + 1, x2, x7, be, dm, dn, dp, kQ, kR, kS, kT => if x2 > 0 then ((F68.f be dm dn dp 6).bind fun fl => (if fl.1 = 0 then (if x7.length < 140737488355328 then (F101.l0 k (wrap64 (x2 - 1)) (x7 ++ [(kQ) % 256]) be fl.2.1 fl.2.2.1 fl.2.2.2 kQ kR kS kT) else (none)) else (if fl.1 = 1 then (if x7.length < 140737488355328 then (F101.l0 k (wrap64 (x2 - 1)) (x7 ++ [(kR) % 256]) be fl.2.1 fl.2.2.1 fl.2.2.2 kQ kR kS kT) else (none)) else (if fl.1 = 2 then (if x7.length < 140737488355328 then (F101.l0 k (wrap64 (x2 - 1)) (x7 ++ [(kS) % 256]) be fl.2.1 fl.2.2.1 fl.2.2.2 kQ kR kS kT) else (none)) else (if fl.1 = 3 then (if x7.length < 140737488355328 then (F101.l0 k (wrap64 (x2 - 1)) (x7 ++ [(kT) % 256]) be fl.2.1 fl.2.2.1 fl.2.2.2 kQ kR kS kT) else (none)) else ((F68.f be fl.2.1 fl.2.2.1 fl.2.2.2 6).bind fun qL => (if 0 ≤ qL.1 then (if qL.1 < 6 then (if x7.length < 140737488355328 then (F101.l0 k (wrap64 (x2 - 1)) (x7 ++ [bt (⟨#[65, 66, 99, 32, 49, 45]⟩ : ByteArray) qL.1]) be qL.2.1 qL.2.2.1 qL.2.2.2 kQ kR kS kT) else (none)) else (none)) else (none)))))))) else (some (strOfNums x7, dm, dn, dp))
def F101.f (k : Nat) (ae : List Int) (bh : Int) (am : Int) (bB : Int) (kt : Int) (ku : Int) (kv : Int) (kw : Int) (a2 : Int) : Option (ByteArray × Int × Int × Int) := F101.l0 k a2 (([] : List Int)) ae bh am bB kt ku kv kw
theorem F101.mono_l : ∀ k, (∀ y0 y1 y2 y3 y4 y5 y6 y7 y8 y9, LeO (F101.l0 k y0 y1 y2 y3 y4 y5 y6 y7 y8 y9) (F101.l0 (k + 1) y0 y1 y2 y3 y4 y5 y6 y7 y8 y9))
 | 0 => fun _ _ _ _ _ _ _ _ _ _ r h => by simp [F101.l0] at h
 | k + 1 => by
  have b6 := F101.mono_l k
  intro y0 y1 y2 y3 y4 y5 y6 y7 y8 y9
  unfold F101.l0
  repeat' with_reducible first | exact b6 _ _ _ _ _ _ _ _ _ _ | exact LeO.refl _ | exact LeO.none _ | refine LeO.ite ?_ ?_ | refine LeO.bind ?_ (fun _ => ?_)
theorem F101.mono : ∀ a0 a1 a2 a3 a4 a5 a6 a7 a8 k, LeO (F101.f k a0 a1 a2 a3 a4 a5 a6 a7 a8) (F101.f (k + 1) a0 a1 a2 a3 a4 a5 a6 a7 a8) := by
 intro a0 a1 a2 a3 a4 a5 a6 a7 a8 k
 have b6 := F101.mono_l k
 unfold F101.f
 repeat' with_reducible first | exact b6 _ _ _ _ _ _ _ _ _ _ | exact LeO.refl _ | exact LeO.none _ | refine LeO.ite ?_ ?_ | refine LeO.bind ?_ (fun _ => ?_)
theorem F101.calls (k : Nat) (g : Nat) (ae : List Int) (bh : Int) (am : Int) (bB : Int) (kt : Int) (ku : Int) (kv : Int) (kw : Int) (a2 : Int) (r1 : ByteArray) (r2 : Int) (r3 : Int) (r4 : Int) (w0 w : World) (hI : IsS111 w0 w g ae bh am bB) (hB : Below w0.heap.size w0 w) (h : F101.f k ae bh am bB kt ku kv kw a2 = some (r1, r2, r3, r4)) :
  Calls Tryd.prog 101 #[.pointer (some ⟨g, 0, none⟩), .agg #[.int .i64 kt, .int .i64 ku, .int .i64 kv, .int .i64 kw], .int .i64 a2] w fun e w' => e = .returned (.string r1) ∧ IsS111 w0 w' g ae r2 r3 r4 ∧ Below w0.heap.size w0 w' ∧ KeepBut w w' g none := by
 have IL := Tryd.underlying140
 have ay := am_ hI
 have HK := am_ (KeepBut.refl w g none)
 have HL := am_ hB.size
 clear hI
 have qy := am_ hB.size
 have HB := am_ hB
 clear hB
 have H : (F101.l0 k a2 (([] : List Int)) ae bh am bB kt ku kv kw) = some (r1, r2, r3, r4) := h
 clear h
 obtain ⟨Pf, BB⟩ : ∃ y_ : List Int, y_ = (([] : List Int)) := ⟨_, rfl⟩
 replace H : (F101.l0 k a2 Pf ae bh am bB kt ku kv kw) = some (r1, r2, r3, r4) := by first | (rw [BB]; exact H) | exact H
 have IN := am_ BB
 clear BB
 have H' := am_ H
 clear H
 go_enter Tryd.func101, Tryd.ntmps101
 go_wp2_with (first | ((with_reducible refine gate_dst (N := 4) rfl ?_); refine be_ 4 #[.int .i64 kt, .int .i64 ku, .int .i64 kv, .int .i64 kw] 140 ?_; intro xz hg w4 hbox hb; replace HB := am_ (below_step (by repeat (first | (with_reducible first | exact HB.out | apply below_alloc | apply pw_below_drewN | apply below_drew1 | refine below_set ?_ (IsS111.ge ay.out)) | exact HB.out)) hb); have bW := am_ (hbox); have IF := am_ ((by rw [hg]; exact (keep_size (w := w) (g := g) (row := none) au1_11) : w.heap.size ≤ xz)); have AS := am_ ((Nat.le_trans qy.out (by rw [hg]; exact (keep_size (w := w) (g := g) (row := none) au1_11) : w.heap.size ≤ xz) : w0.heap.size ≤ xz)); replace HK := am_ (KeepBut.trans au1_11 (KeepBut.of_below hb g none) (.inl rfl)); have lR := am_ (gn_ hg (IsS111.lt (is1_0_ : IsS111 w0 _ g ae bh am bB))); have fX := am_ (gm_ hg (IsS111.lt (is1_0_ : IsS111 w0 _ g ae bh am bB))); replace ay := am_ (IsS111.below is1_0_ hb); clear hb hbox hg) | ((with_reducible refine gate_dst (N := 8) rfl ?_); refine Kd.R_lit (Kd.int .u8) _ 5 ?hg (N := 8) ?hd (xs := ([] : List Int)) (inner := []) (ok := fun _ => True) (okp := fun _ => True) ?hr ?hp (fun _ hk => hk) trivial (Below.refl _ _) (Nat.le_refl _) (by simp) ?_; (case hd => rfl); (case hg => rfl); (case hr => exact hr_); (case hp => exact (Reps.none _ _)); intro b2g w5 up hb hg_ hnew_; clear hg_ hnew_; (first | rw [← IN.out] at up | (simp only [Int.reduceToNat] at up; rw [← IN.out] at up)); have Pg := am_ (Kd.R_lower up (keep_size (w := w) (g := g) (row := none) au1_0)); replace bW := bb_ bW hb; replace HK := am_ (KeepBut.trans au1_0 (KeepBut.of_below hb g none) (.inl rfl)); replace HB := am_ (below_step au1_7 hb); replace ay := am_ (IsS111.below is1_0_ hb); clear hb up))
 go_loopg [2, 7] k (fun kq v2 v7 w' => ∃ (lz : Int) (nt : List Int) (bx : Int) (bz : Int) (bA : Int), v2 = .int .i64 lz ∧ Aside0 (F101.l0 kq lz nt ae bx bz bA kt ku kv kw = some (r1, r2, r3, r4)) ∧ Aside0 (kq ≤ k) ∧ Aside0 (Kd.R (Kd.int .u8) 5 w' w.heap.size (fun _ => True) v7 nt) ∧ Aside0 (w'.heap[xz]? = some (.cells #[.int .i64 kt, .int .i64 ku, .int .i64 kv, .int .i64 kw] 140 (0, 0))) ∧ Aside0 (IsS111 w0 w' g ae bx bz bA) ∧ Aside0 (KeepBut w w' g none) ∧ Aside0 (Below w0.heap.size w0 w'))
 case atStart => exact ⟨(a2), (Pf), (bh), (am), (bB), er_, H', ⟨Nat.le_refl _⟩, ⟨rk_ Pg⟩, ⟨bk_ bW⟩, ⟨is1_0_⟩, ⟨au1_6⟩, ⟨au1_3⟩⟩
 case round =>
  clear H'
  obtain ⟨lz, nt, bx, bz, bA, rfl, HA, dk, dC, bW, ay, HK, HB⟩ := hrel
  cases gk with
  | zero => exact absurd HA.out (by simp [F101.l0])
  | succ k1 =>
   have H := HA.out
   clear HA
   simp only [F101.l0] at H
   replace H := it_ H; rcases H with ⟨(c7b0 : decide (0 < lz) = true), H⟩ | ⟨(c7b0 : decide (0 < lz) = false), H⟩
   rotate_left
   ·simp only [Option.some.injEq, Prod.mk.injEq] at H
    obtain ⟨rfl, rfl, rfl, rfl⟩ := H
    have a86 := own_string (P := Tryd.prog) Tryd.underlying45 Tryd.underlying5 Tryd.underlying9 (Kd.own_of_R dC.out)
    go_wp2
    go_ret
    exact ⟨au1_5, is1_0_, au1_3, au1_6⟩
   replace H := bi_ H; rcases H with ⟨⟨go, lA, lB, lC⟩, A8, H⟩
   by_cases c9 : go = 0
   ·rw [if_pos c9] at H
    have c9b0 : (go == 0) = true := beq_iff_eq.mpr c9
    have c9b1 : (go != 0) = false := bne_eq_false_iff_eq.mpr c9
    clear c9
    replace H := iln_ H; rcases H with ⟨Ph, H⟩
    obtain ⟨Pi, BC⟩ : ∃ y_ : List Int, y_ = (nt ++ [(kt) % 256]) := ⟨_, rfl⟩
    replace H : (F101.l0 k1 (wrap64 (lz - 1)) Pi ae lA lB lC kt ku kv kw) = some (r1, r2, r3, r4) := by first | (rw [BC]; exact H) | exact H
    have Pj := am_ BC
    clear BC
    have H' := am_ H
    clear H
    go_wp2_with (first | ((with_reducible refine gate_callee (f := 68) rfl ?_); refine gl_ 14 Tryd.func68 #[.pointer (some ⟨g, 0, none⟩), .int .i64 6] ?_ rfl rfl rfl rfl; (with_reducible refine (F68.calls g ae bx bz bA 6 go lA lB lC w0 _ ?s1 ?s2 A8.out).mono ?_); (case s1 => exact au1_4); (case s2 => exact au1_8); rintro e IP ⟨rfl, hi, hb, hk⟩; refine ⟨_, rfl, ?_⟩; replace dC := am_ (Kd.R_mono (Kd.R_keep (IsS111.apart (is1_0_ : IsS111 w0 _ g ae bx bz bA) (rk_ dC) (by decide)) hk (fun _ h => h.2)) (fun _ h => h.1)); replace bW := ka_ hk bW fX; replace HK := am_ (KeepBut.trans au1_0 hk (.inl rfl)); replace HB := am_ (hb); replace ay := am_ (hi); clear hb hk hi; have Pk := fX.out; have Pm := lR.out; obtain ⟨fQ, fR, fS, fT, iF, fU, fV, fW⟩ := cellsF4 bW.out) | ((with_reducible refine gate_builtin (b := .append) (xs := #[.tmp 23, .tmp 27]) rfl ?_); at_builtin; refine Kd.R_append (Kd.int .u8) w.heap.size rfl (.tmp 23) (.tmp 27) 45 5 (.int .u8 0) 1 rfl Tryd.underlying45 info5 rfl (by decide) (by omega) u7 nt ((kt) % 256) [.int .u8 ((kt) % 256)] (fun _ => True) (fun _ => False) rfl rfl ?aP (fun _ hk => hk.elim) ?aF ?aO (Below.refl _ _) ?aS ?aL ?_; (case aP => exact rfl); (case aF => exact (fun _ _ => trivial)); (case aO => exact (rk_ dC)); (case aS => exact au1_15); (case aL => have := Ph.out; omega); intro b2h AN ho hb hg hat; rw [← Pj.out] at ho; replace bW := am_ (bg_ bW hg (Kd.R_ne dC.out bW.out (by decide))); replace HB := am_ (below_weaken au1_7 HL.out hb); replace ay := am_ (IsS111.grown is1_0_ hg (IsS111.own_ne ay.out dC.out (by decide))); replace HK := am_ (KeepBut.trans au1_0 (KeepBut.of_grown hg g) (Kd.R_base2 dC.out)); have Pn := am_ (ho); clear dC; clear ho hb hg hat))
    go_roundg k1
    case measure => have := dk.out; omega
    case rel => exact ⟨(wrap64 (lz - 1)), (Pi), (lA), (lB), (lC), er_, H', ⟨by have := dk.out; omega⟩, ⟨rk_ Pn⟩, ⟨bk_ bW⟩, ⟨is1_0_⟩, ⟨au1_6⟩, ⟨au1_3⟩⟩
   rw [if_neg c9] at H
   have c9b0 : (go == 0) = false := beq_eq_false_iff_ne.mpr c9
   have c9b1 : (go != 0) = true := bne_iff_ne.mpr c9
   by_cases uu : go = 1
   ·rw [if_pos uu] at H
    have c15b0 : (go == 1) = true := beq_iff_eq.mpr uu
    have c15b1 : (go != 1) = false := bne_eq_false_iff_eq.mpr uu
    clear uu
    replace H := iln_ H; rcases H with ⟨Po, H⟩
    obtain ⟨Pp, BD⟩ : ∃ y_ : List Int, y_ = (nt ++ [(ku) % 256]) := ⟨_, rfl⟩
    replace H : (F101.l0 k1 (wrap64 (lz - 1)) Pp ae lA lB lC kt ku kv kw) = some (r1, r2, r3, r4) := by first | (rw [BD]; exact H) | exact H
    have Pq := am_ BD
    clear BD
    have H' := am_ H
    clear H
    go_wp2_with (first | ((with_reducible refine gate_callee (f := 68) rfl ?_); refine gl_ 14 Tryd.func68 #[.pointer (some ⟨g, 0, none⟩), .int .i64 6] ?_ rfl rfl rfl rfl; (with_reducible refine (F68.calls g ae bx bz bA 6 go lA lB lC w0 _ ?s1 ?s2 A8.out).mono ?_); (case s1 => exact au1_4); (case s2 => exact au1_8); rintro e w17 ⟨rfl, hi, hb, hk⟩; refine ⟨_, rfl, ?_⟩; replace dC := am_ (Kd.R_mono (Kd.R_keep (IsS111.apart (is1_0_ : IsS111 w0 _ g ae bx bz bA) (rk_ dC) (by decide)) hk (fun _ h => h.2)) (fun _ h => h.1)); replace bW := ka_ hk bW fX; replace HK := am_ (KeepBut.trans au1_0 hk (.inl rfl)); replace HB := am_ (hb); replace ay := am_ (hi); clear hb hk hi; have IQ := fX.out; have IR := lR.out; obtain ⟨oP, oQ, rC, rD, oR, oS, rE, rF⟩ := cellsF4 bW.out) | ((with_reducible refine gate_builtin (b := .append) (xs := #[.tmp 31, .tmp 35]) rfl ?_); at_builtin; refine Kd.R_append (Kd.int .u8) w.heap.size rfl (.tmp 31) (.tmp 35) 45 5 (.int .u8 0) 1 rfl Tryd.underlying45 info5 rfl (by decide) (by omega) u7 nt ((ku) % 256) [.int .u8 ((ku) % 256)] (fun _ => True) (fun _ => False) rfl rfl ?aP (fun _ hk => hk.elim) ?aF ?aO (Below.refl _ _) ?aS ?aL ?_; (case aP => exact rfl); (case aF => exact (fun _ _ => trivial)); (case aO => exact (rk_ dC)); (case aS => exact au1_15); (case aL => have := Po.out; omega); intro b2i xr ho hb hg hat; rw [← Pq.out] at ho; replace bW := am_ (bg_ bW hg (Kd.R_ne dC.out bW.out (by decide))); replace HB := am_ (below_weaken au1_7 HL.out hb); replace ay := am_ (IsS111.grown is1_0_ hg (IsS111.own_ne ay.out dC.out (by decide))); replace HK := am_ (KeepBut.trans au1_0 (KeepBut.of_grown hg g) (Kd.R_base2 dC.out)); have Pr := am_ (ho); clear dC; clear ho hb hg hat))
    go_roundg k1
    case measure => have := dk.out; omega
    case rel => exact ⟨(wrap64 (lz - 1)), (Pp), (lA), (lB), (lC), er_, H', ⟨by have := dk.out; omega⟩, ⟨rk_ Pr⟩, ⟨bk_ bW⟩, ⟨is1_0_⟩, ⟨au1_6⟩, ⟨au1_3⟩⟩
   rw [if_neg uu] at H
   have c15b0 : (go == 1) = false := beq_eq_false_iff_ne.mpr uu
   have c15b1 : (go != 1) = true := bne_iff_ne.mpr uu
   by_cases lu : go = 2
   ·rw [if_pos lu] at H
    have c21b0 : (go == 2) = true := beq_iff_eq.mpr lu
    have c21b1 : (go != 2) = false := bne_eq_false_iff_eq.mpr lu
    clear lu
    replace H := iln_ H; rcases H with ⟨Ps, H⟩
    obtain ⟨Pt, BE⟩ : ∃ y_ : List Int, y_ = (nt ++ [(kv) % 256]) := ⟨_, rfl⟩
    replace H : (F101.l0 k1 (wrap64 (lz - 1)) Pt ae lA lB lC kt ku kv kw) = some (r1, r2, r3, r4) := by first | (rw [BE]; exact H) | exact H
    have Pu := am_ BE
    clear BE
    have H' := am_ H
    clear H
    go_wp2_with (first | ((with_reducible refine gate_callee (f := 68) rfl ?_); refine gl_ 14 Tryd.func68 #[.pointer (some ⟨g, 0, none⟩), .int .i64 6] ?_ rfl rfl rfl rfl; (with_reducible refine (F68.calls g ae bx bz bA 6 go lA lB lC w0 _ ?s1 ?s2 A8.out).mono ?_); (case s1 => exact au1_4); (case s2 => exact au1_8); rintro e w23 ⟨rfl, hi, hb, hk⟩; refine ⟨_, rfl, ?_⟩; replace dC := am_ (Kd.R_mono (Kd.R_keep (IsS111.apart (is1_0_ : IsS111 w0 _ g ae bx bz bA) (rk_ dC) (by decide)) hk (fun _ h => h.2)) (fun _ h => h.1)); replace bW := ka_ hk bW fX; replace HK := am_ (KeepBut.trans au1_0 hk (.inl rfl)); replace HB := am_ (hb); replace ay := am_ (hi); clear hb hk hi; have Pv := fX.out; have Pw := lR.out; obtain ⟨wA, wB, Gk, Gl, wC, wD, Gm, Gn⟩ := cellsF4 bW.out) | ((with_reducible refine gate_builtin (b := .append) (xs := #[.tmp 39, .tmp 43]) rfl ?_); at_builtin; refine Kd.R_append (Kd.int .u8) w.heap.size rfl (.tmp 39) (.tmp 43) 45 5 (.int .u8 0) 1 rfl Tryd.underlying45 info5 rfl (by decide) (by omega) u7 nt ((kv) % 256) [.int .u8 ((kv) % 256)] (fun _ => True) (fun _ => False) rfl rfl ?aP (fun _ hk => hk.elim) ?aF ?aO (Below.refl _ _) ?aS ?aL ?_; (case aP => exact rfl); (case aF => exact (fun _ _ => trivial)); (case aO => exact (rk_ dC)); (case aS => exact au1_15); (case aL => have := Ps.out; omega); intro b2j w26 ho hb hg hat; rw [← Pu.out] at ho; replace bW := am_ (bg_ bW hg (Kd.R_ne dC.out bW.out (by decide))); replace HB := am_ (below_weaken au1_7 HL.out hb); replace ay := am_ (IsS111.grown is1_0_ hg (IsS111.own_ne ay.out dC.out (by decide))); replace HK := am_ (KeepBut.trans au1_0 (KeepBut.of_grown hg g) (Kd.R_base2 dC.out)); have Px := am_ (ho); clear dC; clear ho hb hg hat))
    go_roundg k1
    case measure => have := dk.out; omega
    case rel => exact ⟨(wrap64 (lz - 1)), (Pt), (lA), (lB), (lC), er_, H', ⟨by have := dk.out; omega⟩, ⟨rk_ Px⟩, ⟨bk_ bW⟩, ⟨is1_0_⟩, ⟨au1_6⟩, ⟨au1_3⟩⟩
   rw [if_neg lu] at H
   have c21b0 : (go == 2) = false := beq_eq_false_iff_ne.mpr lu
   have c21b1 : (go != 2) = true := bne_iff_ne.mpr lu
   by_cases AL : go = 3
   ·rw [if_pos AL] at H
    have c27b0 : (go == 3) = true := beq_iff_eq.mpr AL
    have c27b1 : (go != 3) = false := bne_eq_false_iff_eq.mpr AL
    clear AL
    replace H := iln_ H; rcases H with ⟨Py, H⟩
    obtain ⟨Pz, BF⟩ : ∃ y_ : List Int, y_ = (nt ++ [(kw) % 256]) := ⟨_, rfl⟩
    replace H : (F101.l0 k1 (wrap64 (lz - 1)) Pz ae lA lB lC kt ku kv kw) = some (r1, r2, r3, r4) := by first | (rw [BF]; exact H) | exact H
    have PA := am_ BF
    clear BF
    have H' := am_ H
    clear H
    go_wp2_with (first | ((with_reducible refine gate_callee (f := 68) rfl ?_); refine gl_ 14 Tryd.func68 #[.pointer (some ⟨g, 0, none⟩), .int .i64 6] ?_ rfl rfl rfl rfl; (with_reducible refine (F68.calls g ae bx bz bA 6 go lA lB lC w0 _ ?s1 ?s2 A8.out).mono ?_); (case s1 => exact au1_4); (case s2 => exact au1_8); rintro e K0 ⟨rfl, hi, hb, hk⟩; refine ⟨_, rfl, ?_⟩; replace dC := am_ (Kd.R_mono (Kd.R_keep (IsS111.apart (is1_0_ : IsS111 w0 _ g ae bx bz bA) (rk_ dC) (by decide)) hk (fun _ h => h.2)) (fun _ h => h.1)); replace bW := ka_ hk bW fX; replace HK := am_ (KeepBut.trans au1_0 hk (.inl rfl)); replace HB := am_ (hb); replace ay := am_ (hi); clear hb hk hi; have a87 := fX.out; have a88 := lR.out; obtain ⟨YX, YY, YZ, Y0, Y1, Y2, Y3, Y4⟩ := cellsF4 bW.out) | ((with_reducible refine gate_builtin (b := .append) (xs := #[.tmp 47, .tmp 51]) rfl ?_); at_builtin; refine Kd.R_append (Kd.int .u8) w.heap.size rfl (.tmp 47) (.tmp 51) 45 5 (.int .u8 0) 1 rfl Tryd.underlying45 info5 rfl (by decide) (by omega) u7 nt ((kw) % 256) [.int .u8 ((kw) % 256)] (fun _ => True) (fun _ => False) rfl rfl ?aP (fun _ hk => hk.elim) ?aF ?aO (Below.refl _ _) ?aS ?aL ?_; (case aP => exact rfl); (case aF => exact (fun _ _ => trivial)); (case aO => exact (rk_ dC)); (case aS => exact au1_15); (case aL => have := Py.out; omega); intro b2l w32 ho hb hg hat; rw [← PA.out] at ho; replace bW := am_ (bg_ bW hg (Kd.R_ne dC.out bW.out (by decide))); replace HB := am_ (below_weaken au1_7 HL.out hb); replace ay := am_ (IsS111.grown is1_0_ hg (IsS111.own_ne ay.out dC.out (by decide))); replace HK := am_ (KeepBut.trans au1_0 (KeepBut.of_grown hg g) (Kd.R_base2 dC.out)); have PB := am_ (ho); clear dC; clear ho hb hg hat))
    go_roundg k1
    case measure => have := dk.out; omega
    case rel => exact ⟨(wrap64 (lz - 1)), (Pz), (lA), (lB), (lC), er_, H', ⟨by have := dk.out; omega⟩, ⟨rk_ PB⟩, ⟨bk_ bW⟩, ⟨is1_0_⟩, ⟨au1_6⟩, ⟨au1_3⟩⟩
   rw [if_neg AL] at H
   have c27b0 : (go == 3) = false := beq_eq_false_iff_ne.mpr AL
   have c27b1 : (go != 3) = true := bne_iff_ne.mpr AL
   replace H := bi_ H; rcases H with ⟨⟨uv, Gp, Lb, Lc⟩, Y5, H⟩
   replace H := itn_ H; rcases H with ⟨c34b0, H⟩
   replace H := itn_ H; rcases H with ⟨c35b0, H⟩
   replace H := iln_ H; rcases H with ⟨PC, H⟩
   obtain ⟨PD, BG⟩ : ∃ y_ : List Int, y_ = (nt ++ [bt (⟨#[65, 66, 99, 32, 49, 45]⟩ : ByteArray) uv]) := ⟨_, rfl⟩
   replace H : (F101.l0 k1 (wrap64 (lz - 1)) PD ae Gp Lb Lc kt ku kv kw) = some (r1, r2, r3, r4) := by first | (rw [BG]; exact H) | exact H
   have PE := am_ BG
   clear BG
   have H' := am_ H
   clear H
   go_wp2_with (first | ((with_reducible refine gate_callee (f := 68) rfl ?_); refine gl_ 14 Tryd.func68 #[.pointer (some ⟨g, 0, none⟩), .int .i64 6] ?_ rfl rfl rfl rfl; (with_reducible refine (F68.calls g ae bx bz bA 6 go lA lB lC w0 _ ?s1 ?s2 A8.out).mono ?_); (case s1 => exact au1_4); (case s2 => exact au1_8); rintro e w38 ⟨rfl, hi, hb, hk⟩; refine ⟨_, rfl, ?_⟩; replace dC := am_ (Kd.R_mono (Kd.R_keep (IsS111.apart (is1_0_ : IsS111 w0 _ g ae bx bz bA) (rk_ dC) (by decide)) hk (fun _ h => h.2)) (fun _ h => h.1)); replace bW := ka_ hk bW fX; replace HK := am_ (KeepBut.trans au1_0 hk (.inl rfl)); replace HB := am_ (hb); replace ay := am_ (hi); clear hb hk hi) | ((with_reducible refine gate_callee (f := 68) rfl ?_); refine gl_ 17 Tryd.func68 #[.pointer (some ⟨g, 0, none⟩), .int .i64 6] ?_ rfl rfl rfl rfl; (with_reducible refine (F68.calls g ae lA lB lC 6 uv Gp Lb Lc w0 _ ?s1 ?s2 Y5.out).mono ?_); (case s1 => exact au1_4); (case s2 => exact au1_8); rintro e w39 ⟨rfl, hi, hb, hk⟩; refine ⟨_, rfl, ?_⟩; replace dC := am_ (Kd.R_mono (Kd.R_keep (IsS111.apart (is1_0_ : IsS111 w0 _ g ae lA lB lC) (rk_ dC) (by decide)) hk (fun _ h => h.2)) (fun _ h => h.1)); replace bW := ka_ hk bW fX; replace HK := am_ (KeepBut.trans au1_0 hk (.inl rfl)); replace HB := am_ (hb); replace ay := am_ (hi); clear hb hk hi; have p36 : 0 ≤ (uv : Int) := od_; have q36 : uv < (6 : Int) := od_; have b2m := bt_at (⟨#[65, 66, 99, 32, 49, 45]⟩ : ByteArray) uv; replace p36 := eq_true p36; replace q36 := eq_true q36) | ((with_reducible refine gate_builtin (b := .append) (xs := #[.tmp 15, .tmp 19]) rfl ?_); at_builtin; refine Kd.R_append (Kd.int .u8) w.heap.size rfl (.tmp 15) (.tmp 19) 45 5 (.int .u8 0) 1 rfl Tryd.underlying45 info5 rfl (by decide) (by omega) u7 nt (bt (⟨#[65, 66, 99, 32, 49, 45]⟩ : ByteArray) uv) [.int .u8 (bt (⟨#[65, 66, 99, 32, 49, 45]⟩ : ByteArray) uv)] (fun _ => True) (fun _ => False) rfl rfl ?aP (fun _ hk => hk.elim) ?aF ?aO (Below.refl _ _) ?aS ?aL ?_; (case aP => exact rfl); (case aF => exact (fun _ _ => trivial)); (case aO => exact (rk_ dC)); (case aS => exact au1_15); (case aL => have := PC.out; omega); intro b2n w40 ho hb hg hat; rw [← PE.out] at ho; replace bW := am_ (bg_ bW hg (Kd.R_ne dC.out bW.out (by decide))); replace HB := am_ (below_weaken au1_7 HL.out hb); replace ay := am_ (IsS111.grown is1_0_ hg (IsS111.own_ne ay.out dC.out (by decide))); replace HK := am_ (KeepBut.trans au1_0 (KeepBut.of_grown hg g) (Kd.R_base2 dC.out)); have PF := am_ (ho); clear dC; clear ho hb hg hat))
   go_roundg k1
   case measure => have := dk.out; omega
   case rel => exact ⟨(wrap64 (lz - 1)), (PD), (Gp), (Lb), (Lc), er_, H', ⟨by have := dk.out; omega⟩, ⟨rk_ PF⟩, ⟨bk_ bW⟩, ⟨is1_0_⟩, ⟨au1_6⟩, ⟨au1_3⟩⟩
end Go.Proofs.YtlghcbmkhdibdaaDoor.PFnTrailers
