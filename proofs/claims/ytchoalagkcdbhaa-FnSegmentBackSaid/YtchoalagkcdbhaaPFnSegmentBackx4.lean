-- printed by a program of this session (wip/xp/xprint.py) out of the translation; Lean checks it
import Derived.Test.YtchoalagkcdbhaaPFnSegmentBackx0
import Derived.Test.YtchoalagkcdbhaaPFnSegmentBackx3
namespace Go.Proofs.Ytchoalagkcdbhaa.PFnSegmentBack
open Go.RowKit Go.Proofs.YtchoalagkcdbhaaW.PrintWords Go.Proofs.YtchoalagkcdbhaaW.PrintLast Go.Proofs.YtchoalagkcdbhaaW.PrintMore
attribute [local go_sem] max2_int min2_int max_two min_two max_three min_three max_four min_four   -- for this text's walks alone
set_option linter.unusedVariables false
set_option linter.unusedSimpArgs false
set_option maxHeartbeats 8000000
set_option maxRecDepth 100000

theorem is4_0_ {p : Prop} (h : p := by repeat (first | (with_reducible first | exact HI0.out | apply IsS121.alloc | apply IsS121.drewN | apply IsS121.drew | apply IsS121.set_1 | apply IsS121.set_2 | apply IsS121.set_3 | refine IsS121.far ?_ (Aside0.out (by assumption)) _) | exact HI0.out)) : p := h

theorem au4_0 {p : Prop} (h : p := by first | exact Kd.own_blk (Kd.R_ne HO435.out BK428.out (by decide)) | (rw [add_block]; exact Kd.own_blk (Kd.R_ne HO435.out BK428.out (by decide))) | (show (Addr.add _ _).block ≠ _; rw [add_block]; exact Kd.own_blk (Kd.R_ne HO435.out BK428.out (by decide))) | (dsimp only; exact Kd.own_blk (Kd.R_ne HO435.out BK428.out (by decide)))) : p := h
theorem au4_1 {p : Prop} (h : p := by repeat (first | (with_reducible first | exact HK.out | apply KeepBut.set_ | apply keep_drewN | apply keep_drew | apply keep_alloc | refine keep_far ?_ GW464.out _) | exact HK.out)) : p := h
theorem au4_2 {p : Prop} (h : p := by repeat (first | (with_reducible first | exact HK.out | apply KeepBut.set_ | apply keep_drewN | apply keep_drew | apply keep_alloc | refine keep_far ?_ GW423.out _ | refine keep_far ?_ GW428.out _) | exact HK.out)) : p := h
theorem au4_3 {p : Prop} (h : p := by repeat (first | (with_reducible first | exact HI0.out | apply IsS121.alloc | apply IsS121.drewN | apply IsS121.drew | apply IsS121.set_1 | apply IsS121.set_2 | apply IsS121.set_3 | refine IsS121.far ?_ NB0_423.out _ | refine IsS121.far ?_ NB0_428.out _) | exact HI0.out)) : p := h
theorem au4_4 {p : Prop} (h : p := by repeat (first | (with_reducible first | exact HB.out | apply below_alloc | apply pw_below_drewN | apply below_drew1 | refine below_set ?_ (IsS121.ge HI0.out) | refine below_set ?_ GE423.out | refine below_set ?_ GE428.out) | exact HB.out)) : p := h
theorem au4_5 {p : Prop} (h : p := by repeat (first | (with_reducible first | exact HB.out | apply below_alloc | apply pw_below_drewN | apply below_drew1 | refine below_set ?_ (IsS121.ge HI0.out)) | exact HB.out)) : p := h
theorem au4_6 {p : Prop} (h : p := by repeat (first | (with_reducible first | exact HK.out | apply KeepBut.set_ | apply keep_drewN | apply keep_drew | apply keep_alloc) | exact HK.out)) : p := h
theorem au4_7 {p : Prop} (h : p := by repeat (first | (with_reducible first | exact HK.out | apply KeepBut.set_ | apply keep_drewN | apply keep_drew | apply keep_alloc) | exact HK.out)) : p := h
theorem au4_8 {p : Prop} (h : p := by repeat (first | (with_reducible first | exact HB.out | apply below_alloc | apply pw_below_drewN | apply below_drew1 | refine below_set ?_ (IsS121.ge HI0.out) | refine below_set ?_ GE464.out) | exact HB.out)) : p := h
theorem au4_9 {p : Prop} (h : p := by repeat (first | (with_reducible first | exact HB.out | apply below_alloc | apply pw_below_drewN | apply below_drew1 | refine below_set ?_ (IsS121.ge HI0.out) | refine below_set ?_ GE423.out | refine below_set ?_ GE428.out) | exact HB.out)) : p := h
theorem au4_10 {p : Prop} (h : p := by repeat (first | (with_reducible first | exact HI0.out | apply IsS121.alloc | apply IsS121.drewN | apply IsS121.drew | apply IsS121.set_1 | apply IsS121.set_2 | apply IsS121.set_3 | refine IsS121.far ?_ NB0_464.out _) | exact HI0.out)) : p := h
theorem au4_11 {p : Prop} (h : p := by repeat (first | (with_reducible first | exact HK.out | apply KeepBut.set_ | apply keep_drewN | apply keep_drew | apply keep_alloc | refine keep_far ?_ GW464.out _) | exact HK.out)) : p := h
theorem au4_12 {p : Prop} (h : p := by repeat (first | (with_reducible first | exact HK.out | apply KeepBut.set_ | apply keep_drewN | apply keep_drew | apply keep_alloc | refine keep_far ?_ GW423.out _ | refine keep_far ?_ GW428.out _) | exact HK.out)) : p := h
theorem au4_13 {p : Prop} (h : p := by repeat (first | (with_reducible first | exact HB.out | apply below_alloc | apply pw_below_drewN | apply below_drew1 | refine below_set ?_ (IsS121.ge HI0.out) | refine below_set ?_ GE464.out) | exact HB.out)) : p := h
theorem au4_14 {p : Prop} (h : p := by repeat (first | (with_reducible first | exact HB.out | apply below_alloc | apply pw_below_drewN | apply below_drew1 | refine below_set ?_ (IsS121.ge HI0.out) | refine below_set ?_ GE464.out) | exact HB.out)) : p := h
theorem au4_15 {p : Prop} (h : p := by first | rfl | (simp [errW_none, errW_some] <;> rfl) | (simp [*, errW_none, errW_some] <;> rfl)) : p := h
theorem au4_16 {p : Prop} (h : p := by rintro w' ⟨s0, s1, s2, s3⟩; go_simp; with_reducible rfl) : p := h
theorem au4_17 {p : Prop} (h : p := by repeat (first | (with_reducible first | exact HK.out | apply KeepBut.set_ | apply keep_drewN | apply keep_drew | apply keep_alloc | refine keep_far ?_ GW423.out _) | exact HK.out)) : p := h
theorem au4_18 {p : Prop} (h : p := by repeat (first | (with_reducible first | exact HI0.out | apply IsS121.alloc | apply IsS121.drewN | apply IsS121.drew | apply IsS121.set_1 | apply IsS121.set_2 | apply IsS121.set_3) | exact HI0.out)) : p := h
theorem au4_19 {p : Prop} (h : p := by repeat (first | (with_reducible first | exact HB.out | apply below_alloc | apply pw_below_drewN | apply below_drew1 | refine below_set ?_ (IsS121.ge HI0.out)) | exact HB.out)) : p := h
theorem au4_20 {p : Prop} (h : p := by repeat (first | (with_reducible first | exact HB.out | apply below_alloc | apply pw_below_drewN | apply below_drew1 | refine below_set ?_ (IsS121.ge HI0.out)) | exact HB.out)) : p := h
theorem au4_21 {p : Prop} (h : p := by repeat (first | (with_reducible first | exact HB.out | apply below_alloc | apply pw_below_drewN | apply below_drew1 | refine below_set ?_ (IsS121.ge HI0.out) | refine below_set ?_ GE423.out | refine below_set ?_ GE428.out) | exact HB.out)) : p := h
theorem au4_22 {p : Prop} (h : p := by repeat (first | (with_reducible first | exact HB.out | apply below_alloc | apply pw_below_drewN | apply below_drew1 | refine below_set ?_ (IsS121.ge HI0.out) | refine below_set ?_ GE423.out) | exact HB.out)) : p := h
theorem au4_24 {p : Prop} (h : p := by rintro w' ⟨s0, s1, s2, s3, s4⟩; go_simp; with_reducible rfl) : p := h
theorem au4_23 {p : Prop} (h : p := by exact (keep_size (w := w) (g := g) (row := none) au4_1)) : p := h

/-! ### F72: function 72 -/
def F72.f (s0_0 : List Int) (s0_1 : Int) (s0_2 : Int) (s0_3 : Int) (a1 : Int) : Option (Int × Int × Int × Int) := if a1 ≤ 1 then (some (0, s0_1, s0_2, s0_3)) else (if s0_1 < (s0_0.length : Int) then (if 0 ≤ s0_1 then (if (IntKind.u64.wrap (a1)) = 0 then (none) else (some (wrap64 (Int.tmod (IntKind.u64.wrap ((IntKind.u64.wrap (rd s0_0 s0_1)) + ((Go.bits .xor .u64 (Go.bits .xor .u64 (Go.bits .xor .u64 s0_2 (IntKind.u64.wrap (s0_2 * 8192))) ((Go.bits .xor .u64 s0_2 (IntKind.u64.wrap (s0_2 * 8192))) / 128)) (IntKind.u64.wrap ((Go.bits .xor .u64 (Go.bits .xor .u64 s0_2 (IntKind.u64.wrap (s0_2 * 8192))) ((Go.bits .xor .u64 s0_2 (IntKind.u64.wrap (s0_2 * 8192))) / 128)) * 131072))) / 1048576))) (IntKind.u64.wrap (a1))), wrap64 (s0_1 + 1), Go.bits .xor .u64 (Go.bits .xor .u64 (Go.bits .xor .u64 s0_2 (IntKind.u64.wrap (s0_2 * 8192))) ((Go.bits .xor .u64 s0_2 (IntKind.u64.wrap (s0_2 * 8192))) / 128)) (IntKind.u64.wrap ((Go.bits .xor .u64 (Go.bits .xor .u64 s0_2 (IntKind.u64.wrap (s0_2 * 8192))) ((Go.bits .xor .u64 s0_2 (IntKind.u64.wrap (s0_2 * 8192))) / 128)) * 131072)), s0_3))) else (none)) else (if (IntKind.u64.wrap (a1)) = 0 then (none) else (some (wrap64 (Int.tmod (IntKind.u64.wrap (0 + ((Go.bits .xor .u64 (Go.bits .xor .u64 (Go.bits .xor .u64 s0_2 (IntKind.u64.wrap (s0_2 * 8192))) ((Go.bits .xor .u64 s0_2 (IntKind.u64.wrap (s0_2 * 8192))) / 128)) (IntKind.u64.wrap ((Go.bits .xor .u64 (Go.bits .xor .u64 s0_2 (IntKind.u64.wrap (s0_2 * 8192))) ((Go.bits .xor .u64 s0_2 (IntKind.u64.wrap (s0_2 * 8192))) / 128)) * 131072))) / 1048576))) (IntKind.u64.wrap (a1))), s0_1, Go.bits .xor .u64 (Go.bits .xor .u64 (Go.bits .xor .u64 s0_2 (IntKind.u64.wrap (s0_2 * 8192))) ((Go.bits .xor .u64 s0_2 (IntKind.u64.wrap (s0_2 * 8192))) / 128)) (IntKind.u64.wrap ((Go.bits .xor .u64 (Go.bits .xor .u64 s0_2 (IntKind.u64.wrap (s0_2 * 8192))) ((Go.bits .xor .u64 s0_2 (IntKind.u64.wrap (s0_2 * 8192))) / 128)) * 131072)), s0_3))))
def F72.T4 : Bool × List (List Nat × List Nat) := (true, [([], []), ([0], [0]), ([1], [1]), ([2], [2]), ([], []), ([4], [4]), ([5], [5]), ([6], [6]), ([7], [7]), ([3, 8], [3, 8])])
def F72.B4 : List Nat := [0, 1, 3, 7, 0, 16, 48, 112, 240, 511]
theorem F72.tab4 : rtab .any (opsOf Try.f72 4) = F72.T4 := by kernel_rfl
theorem F72.bits4 : waitsOk F72.T4.2 F72.B4 = true := by kernel_rfl
def F72.T5 : Bool × List (List Nat × List Nat) := (true, [([], []), ([0], [0]), ([1], [1]), ([2], [2]), ([], []), ([4], [4]), ([5], [5]), ([6], [6]), ([3, 7], [3, 7]), ([8], [8]), ([9], [9]), ([10, 0, 1, 2, 3, 4, 5, 6, 7, 8, 9, 10], [10])])
def F72.B5 : List Nat := [0, 1, 3, 7, 0, 16, 48, 112, 255, 511, 1023, 2047]
theorem F72.tab5 : rtab .any (opsOf Try.f72 5) = F72.T5 := by kernel_rfl
theorem F72.bits5 : waitsOk F72.T5.2 F72.B5 = true := by kernel_rfl
def F72.T7 : Bool × List (List Nat × List Nat) := (true, [([], []), ([], []), ([1], [1]), ([2], [2]), ([3], [3]), ([], []), ([5], [5]), ([6], [6]), ([7], [7]), ([8], [8]), ([4, 9], [4, 9]), ([0, 0, 1, 2, 3, 4, 5, 6, 7, 8, 9, 10], [0]), ([11, 0, 1, 2, 3, 4, 5, 6, 7, 8, 9, 10], [11]), ([12, 10, 0, 1, 2, 3, 4, 5, 6, 7, 8, 9, 10], [10, 12])])
def F72.B7 : List Nat := [0, 0, 2, 6, 14, 0, 32, 96, 224, 480, 1022, 2047, 4095, 8191]
theorem F72.tab7 : rtab .any (opsOf Try.f72 7) = F72.T7 := by kernel_rfl
theorem F72.bits7 : waitsOk F72.T7.2 F72.B7 = true := by kernel_rfl
def F72.T8 : Bool × List (List Nat × List Nat) := (true, [([], []), ([], []), ([1], [1]), ([2], [2]), ([3], [3]), ([], []), ([5], [5]), ([6], [6]), ([7], [7]), ([8], [8]), ([4, 9], [4, 9]), ([0, 0, 1, 2, 3, 4, 5, 6, 7, 8, 9, 10], [0]), ([11, 0, 1, 2, 3, 4, 5, 6, 7, 8, 9, 10], [11]), ([12, 10, 0, 1, 2, 3, 4, 5, 6, 7, 8, 9, 10], [10, 12])])
def F72.B8 : List Nat := [0, 0, 2, 6, 14, 0, 32, 96, 224, 480, 1022, 2047, 4095, 8191]
theorem F72.tab8 : rtab .any (opsOf Try.f72 8) = F72.T8 := by kernel_rfl
theorem F72.bits8 : waitsOk F72.T8.2 F72.B8 = true := by kernel_rfl
def F72.T9 : Bool × List (List Nat × List Nat) := (true, [([], []), ([], []), ([1], [1]), ([2], [2]), ([3], [3]), ([], []), ([5], [5]), ([6], [6]), ([7], [7]), ([8], [8]), ([4, 9], [4, 9]), ([0, 0, 1, 2, 3, 4, 5, 6, 7, 8, 9, 10], [0]), ([11, 0, 1, 2, 3, 4, 5, 6, 7, 8, 9, 10], [11]), ([12, 10, 0, 1, 2, 3, 4, 5, 6, 7, 8, 9, 10], [10, 12])])
def F72.B9 : List Nat := [0, 0, 2, 6, 14, 0, 32, 96, 224, 480, 1022, 2047, 4095, 8191]
theorem F72.tab9 : rtab .any (opsOf Try.f72 9) = F72.T9 := by kernel_rfl
theorem F72.bits9 : waitsOk F72.T9.2 F72.B9 = true := by kernel_rfl
theorem F72.calls (g : Nat) (s0_0 : List Int) (s0_1 : Int) (s0_2 : Int) (s0_3 : Int) (a1 : Int) (r1 : Int) (r2 : Int) (r3 : Int) (r4 : Int) (w0 w : World) (hI : IsS121 w0 w g s0_0 s0_1 s0_2 s0_3) (hB : Below w0.heap.size w0 w) (h : F72.f s0_0 s0_1 s0_2 s0_3 a1 = some (r1, r2, r3, r4)) :
  Calls Try.prog 72 #[.pointer (some ⟨g, 0, none⟩), .int .i64 a1] w fun e w' => e = .returned (.int .i64 r1) ∧ IsS121 w0 w' g s0_0 r2 r3 r4 ∧ Below w0.heap.size w0 w' ∧ KeepBut w w' g none := by
 have HI0 := am_ hI
 have HK := am_ (KeepBut.refl w g none)
 have HL := am_ hB.size
 clear hI
 have HW0 := am_ hB.size
 have HB := am_ hB
 clear hB
 have H : (if a1 ≤ 1 then (some (0, s0_1, s0_2, s0_3)) else (if s0_1 < (s0_0.length : Int) then (if 0 ≤ s0_1 then (if (IntKind.u64.wrap (a1)) = 0 then (none) else (some (wrap64 (Int.tmod (IntKind.u64.wrap ((IntKind.u64.wrap (rd s0_0 s0_1)) + ((Go.bits .xor .u64 (Go.bits .xor .u64 (Go.bits .xor .u64 s0_2 (IntKind.u64.wrap (s0_2 * 8192))) ((Go.bits .xor .u64 s0_2 (IntKind.u64.wrap (s0_2 * 8192))) / 128)) (IntKind.u64.wrap ((Go.bits .xor .u64 (Go.bits .xor .u64 s0_2 (IntKind.u64.wrap (s0_2 * 8192))) ((Go.bits .xor .u64 s0_2 (IntKind.u64.wrap (s0_2 * 8192))) / 128)) * 131072))) / 1048576))) (IntKind.u64.wrap (a1))), wrap64 (s0_1 + 1), Go.bits .xor .u64 (Go.bits .xor .u64 (Go.bits .xor .u64 s0_2 (IntKind.u64.wrap (s0_2 * 8192))) ((Go.bits .xor .u64 s0_2 (IntKind.u64.wrap (s0_2 * 8192))) / 128)) (IntKind.u64.wrap ((Go.bits .xor .u64 (Go.bits .xor .u64 s0_2 (IntKind.u64.wrap (s0_2 * 8192))) ((Go.bits .xor .u64 s0_2 (IntKind.u64.wrap (s0_2 * 8192))) / 128)) * 131072)), s0_3))) else (none)) else (if (IntKind.u64.wrap (a1)) = 0 then (none) else (some (wrap64 (Int.tmod (IntKind.u64.wrap (0 + ((Go.bits .xor .u64 (Go.bits .xor .u64 (Go.bits .xor .u64 s0_2 (IntKind.u64.wrap (s0_2 * 8192))) ((Go.bits .xor .u64 s0_2 (IntKind.u64.wrap (s0_2 * 8192))) / 128)) (IntKind.u64.wrap ((Go.bits .xor .u64 (Go.bits .xor .u64 s0_2 (IntKind.u64.wrap (s0_2 * 8192))) ((Go.bits .xor .u64 s0_2 (IntKind.u64.wrap (s0_2 * 8192))) / 128)) * 131072))) / 1048576))) (IntKind.u64.wrap (a1))), s0_1, Go.bits .xor .u64 (Go.bits .xor .u64 (Go.bits .xor .u64 s0_2 (IntKind.u64.wrap (s0_2 * 8192))) ((Go.bits .xor .u64 s0_2 (IntKind.u64.wrap (s0_2 * 8192))) / 128)) (IntKind.u64.wrap ((Go.bits .xor .u64 (Go.bits .xor .u64 s0_2 (IntKind.u64.wrap (s0_2 * 8192))) ((Go.bits .xor .u64 s0_2 (IntKind.u64.wrap (s0_2 * 8192))) / 128)) * 131072)), s0_3))))) = some (r1, r2, r3, r4) := h
 clear h
 replace H := it_ H; rcases H with ⟨c3b0, H⟩ | ⟨c3b0, H⟩
 ·simp only [Option.some.injEq, Prod.mk.injEq] at H
  obtain ⟨rfl, rfl, rfl, rfl⟩ := H
  go_enter Try.func72, Try.ntmps72
  go_wp2
  go_ret
  exact ⟨au4_15, is4_0_, au4_5, au4_7⟩
 replace H := it_ H; rcases H with ⟨c4b0, H⟩ | ⟨c4b0, H⟩
 rotate_left
 ·by_cases c25 : (IntKind.u64.wrap (a1)) = 0
  ·rw [if_pos c25] at H
   exact absurd H (by simp)
  rw [if_neg c25] at H
  have c25b0 : ((IntKind.u64.wrap (a1)) == 0) = false := beq_eq_false_iff_ne.mpr c25
  have c25b1 : ((IntKind.u64.wrap (a1)) != 0) = true := bne_iff_ne.mpr c25
  simp only [Option.some.injEq, Prod.mk.injEq] at H
  obtain ⟨rfl, rfl, rfl, rfl⟩ := H
  go_enter Try.func72, Try.ntmps72
  try go_wp2
  obtain ⟨ASz26_0, cSz26_0, HGz26, hgz26, HSz26_0⟩ := HI0.out
  have hcz26_0 := cellS121_0 HGz26
  have hcz26_1 := cellS121_1 HGz26
  have hcz26_2 := cellS121_2 HGz26
  have hcz26_3 := cellS121_3 HGz26
  have hfz26_1 := blk_frozen HGz26 1
  have hfz26_2 := blk_frozen HGz26 2
  have hfz26_3 := blk_frozen HGz26 3
  clear HGz26 hgz26
  replace HI0 := am_ (IsS121.drew HI0.out)
  replace HK := am_ (keep_drew HK.out)
  replace HB := am_ (below_drew1 HB.out)
  have hdfz26_1 : w.drew.frozen? ⟨g, 1, none⟩ = false := hfz26_1
  have hdfz26_2 : w.drew.frozen? ⟨g, 2, none⟩ = false := hfz26_2
  have hdfz26_3 : w.drew.frozen? ⟨g, 3, none⟩ = false := hfz26_3
  have hdz26_0 : w.drew.cell? ⟨g, 0, none⟩ = some (.slice ASz26_0 s0_0.length cSz26_0) := hcz26_0
  have hdz26_1 : w.drew.cell? ⟨g, 1, none⟩ = some (.int .i64 s0_1) := hcz26_1
  have hdz26_2 : w.drew.cell? ⟨g, 2, none⟩ = some (.int .u64 s0_2) := hcz26_2
  have hdz26_3 : w.drew.cell? ⟨g, 3, none⟩ = some (.int .i64 s0_3) := hcz26_3
  refine start_ (n := 10) (S := fun w' => w'.cell? ⟨g, 0, none⟩ = some (.slice ASz26_0 s0_0.length cSz26_0) ∧ w'.cell? ⟨g, 1, none⟩ = some (.int .i64 s0_1) ∧ w'.cell? ⟨g, 2, none⟩ = some (.int .u64 s0_2) ∧ w'.cell? ⟨g, 3, none⟩ = some (.int .i64 s0_3)) (ds := []) (bs 10 0) (by kernel_rfl) rfl rfl ⟨hdz26_0, hdz26_1, hdz26_2, hdz26_3⟩ (fun hHeld => ?_); refine with_tabW F72.tab4 F72.bits4 (fun HT_ HW_ => ?_)
  generalize w.drew = w27 at hdfz26_1 hdfz26_2 hdfz26_3 hdz26_0 hdz26_1 hdz26_2 hdz26_3 HI0 HK HB hHeld ⊢
  refine pu_ 0 8 (bs 10 1) HT_ ?_ rfl rfl
  refine pu_ 1 9 (bs 10 3) HT_ ?_ rfl rfl
  refine pu_ 2 10 (bs 10 7) HT_ ?_ rfl rfl
  refine pu_ 4 12 (bs 10 23) HT_ ?_ rfl rfl
  refine pu_ 5 13 (bs 10 55) HT_ ?_ rfl rfl
  refine pu_ 6 14 (bs 10 119) HT_ ?_ rfl rfl
  refine tk_ 3 11 (bs 10 127) HT_ HW_ hHeld au4_16 ?_ rfl rfl
  refine tk_ 7 15 (bs 10 255) HT_ HW_ hHeld au4_16 ?_ rfl rfl
  refine pu_ 8 16 (bs 10 511) HT_ ?_ rfl rfl
  refine pu_ 9 17 (bs 10 1023) HT_ ?_ rfl rfl
  refine done_ (done_of HT_.out (by kernel_rfl)) ?_
  try go_wp2
  obtain ⟨ASz28_0, cSz28_0, HGz28, hgz28, HSz28_0⟩ := HI0.out
  have hcz28_0 := cellS121_0 HGz28
  have hcz28_1 := cellS121_1 HGz28
  have hcz28_2 := cellS121_2 HGz28
  have hcz28_3 := cellS121_3 HGz28
  have hfz28_1 := blk_frozen HGz28 1
  have hfz28_2 := blk_frozen HGz28 2
  have hfz28_3 := blk_frozen HGz28 3
  clear HGz28 hgz28
  replace HI0 := am_ (IsS121.drew HI0.out)
  replace HK := am_ (keep_drew HK.out)
  replace HB := am_ (below_drew1 HB.out)
  have hdfz28_1 : w27.drew.frozen? ⟨g, 1, none⟩ = false := hfz28_1
  have hdfz28_2 : w27.drew.frozen? ⟨g, 2, none⟩ = false := hfz28_2
  have hdfz28_3 : w27.drew.frozen? ⟨g, 3, none⟩ = false := hfz28_3
  have hdz28_0 : w27.drew.cell? ⟨g, 0, none⟩ = some (.slice ASz28_0 s0_0.length cSz28_0) := hcz28_0
  have hdz28_1 : w27.drew.cell? ⟨g, 1, none⟩ = some (.int .i64 s0_1) := hcz28_1
  have hdz28_2 : w27.drew.cell? ⟨g, 2, none⟩ = some (.int .u64 s0_2) := hcz28_2
  have hdz28_3 : w27.drew.cell? ⟨g, 3, none⟩ = some (.int .i64 s0_3) := hcz28_3
  refine start_ (n := 14) (S := fun w' => w'.cell? ⟨g, 0, none⟩ = some (.slice ASz28_0 s0_0.length cSz28_0) ∧ w'.cell? ⟨g, 1, none⟩ = some (.int .i64 s0_1) ∧ w'.cell? ⟨g, 2, none⟩ = some (.int .u64 s0_2) ∧ w'.cell? ⟨g, 3, none⟩ = some (.int .i64 s0_3)) (ds := [13]) (bs 14 0) (by kernel_rfl) rfl rfl ⟨hdz28_0, hdz28_1, hdz28_2, hdz28_3⟩ (fun hHeld => ?_); refine with_tabW F72.tab7 F72.bits7 (fun HT_ HW_ => ?_)
  generalize w27.drew = w29 at hdfz28_1 hdfz28_2 hdfz28_3 hdz28_0 hdz28_1 hdz28_2 hdz28_3 HI0 HK HB hHeld ⊢
  refine pu_ 0 37 (bs 14 1) HT_ ?_ rfl rfl
  refine pu_ 1 38 (bs 14 3) HT_ ?_ rfl rfl
  refine pu_ 2 39 (bs 14 7) HT_ ?_ rfl rfl
  refine pu_ 3 40 (bs 14 15) HT_ ?_ rfl rfl
  refine pu_ 5 42 (bs 14 47) HT_ ?_ rfl rfl
  refine pu_ 6 43 (bs 14 111) HT_ ?_ rfl rfl
  refine pu_ 7 44 (bs 14 239) HT_ ?_ rfl rfl
  refine tk_ 4 41 (bs 14 255) HT_ HW_ hHeld au4_16 ?_ rfl rfl
  refine tk_ 8 45 (bs 14 511) HT_ HW_ hHeld au4_16 ?_ rfl rfl
  refine pu_ 9 46 (bs 14 1023) HT_ ?_ rfl rfl
  refine pu_ 10 47 (bs 14 2047) HT_ ?_ rfl rfl
  refine pu_ 11 48 (bs 14 4095) HT_ ?_ rfl rfl
  refine pu_ 12 49 (bs 14 8191) HT_ ?_ rfl rfl
  refine last_ (i := 13) (N := none) (bs 14 16383) rfl rfl (one_of HT_.out (by kernel_rfl)) (by decide) (fun K hK => ?_)
  have hs30 : w29.cell? ⟨g, 2, none⟩ = some (.int .u64 s0_2) := hdz28_2
  have hfs30 := hdfz28_2
  refine skip_ (w1 := ?_) (by rfl) rfl ?_ ?_
  rotate_left
  ·go_simp
   rfl
  refine hK.out _ _ ?_
  clear hK K
  refine done_ (done_of HT_.out (by kernel_rfl)) ?_
  try go_wp2
  have n0_ : Aside0 (IsS121 w0 (w29.setCell ⟨g, 2, none⟩ (.int .u64 (Go.bits .xor .u64 s0_2 (IntKind.u64.wrap (s0_2 * 8192))))) g s0_0 s0_1 (Go.bits .xor .u64 s0_2 (IntKind.u64.wrap (s0_2 * 8192))) s0_3) := ⟨is4_0_⟩
  have n1_ : Aside0 (KeepBut w (w29.setCell ⟨g, 2, none⟩ (.int .u64 (Go.bits .xor .u64 s0_2 (IntKind.u64.wrap (s0_2 * 8192))))) g none) := ⟨au4_7⟩
  have n2_ : Aside0 (Below w0.heap.size w0 (w29.setCell ⟨g, 2, none⟩ (.int .u64 (Go.bits .xor .u64 s0_2 (IntKind.u64.wrap (s0_2 * 8192)))))) := ⟨au4_5⟩
  (try clear HI0)
  (try clear HK)
  (try clear HB)
  generalize (w29.setCell ⟨g, 2, none⟩ (.int .u64 (Go.bits .xor .u64 s0_2 (IntKind.u64.wrap (s0_2 * 8192))))) = w31 at n0_ n1_ n2_ ⊢
  have HI0 := n0_
  have HK := n1_
  have HB := n2_
  clear n0_ n1_ n2_
  obtain ⟨ASz32_0, cSz32_0, HGz32, hgz32, HSz32_0⟩ := HI0.out
  have hcz32_0 := cellS121_0 HGz32
  have hcz32_1 := cellS121_1 HGz32
  have hcz32_2 := cellS121_2 HGz32
  have hcz32_3 := cellS121_3 HGz32
  have hfz32_1 := blk_frozen HGz32 1
  have hfz32_2 := blk_frozen HGz32 2
  have hfz32_3 := blk_frozen HGz32 3
  clear HGz32 hgz32
  replace HI0 := am_ (IsS121.drew HI0.out)
  replace HK := am_ (keep_drew HK.out)
  replace HB := am_ (below_drew1 HB.out)
  have hdfz32_1 : w31.drew.frozen? ⟨g, 1, none⟩ = false := hfz32_1
  have hdfz32_2 : w31.drew.frozen? ⟨g, 2, none⟩ = false := hfz32_2
  have hdfz32_3 : w31.drew.frozen? ⟨g, 3, none⟩ = false := hfz32_3
  have hdz32_0 : w31.drew.cell? ⟨g, 0, none⟩ = some (.slice ASz32_0 s0_0.length cSz32_0) := hcz32_0
  have hdz32_1 : w31.drew.cell? ⟨g, 1, none⟩ = some (.int .i64 s0_1) := hcz32_1
  have hdz32_2 : w31.drew.cell? ⟨g, 2, none⟩ = some (.int .u64 (Go.bits .xor .u64 s0_2 (IntKind.u64.wrap (s0_2 * 8192)))) := hcz32_2
  have hdz32_3 : w31.drew.cell? ⟨g, 3, none⟩ = some (.int .i64 s0_3) := hcz32_3
  refine start_ (n := 14) (S := fun w' => w'.cell? ⟨g, 0, none⟩ = some (.slice ASz32_0 s0_0.length cSz32_0) ∧ w'.cell? ⟨g, 1, none⟩ = some (.int .i64 s0_1) ∧ w'.cell? ⟨g, 2, none⟩ = some (.int .u64 (Go.bits .xor .u64 s0_2 (IntKind.u64.wrap (s0_2 * 8192)))) ∧ w'.cell? ⟨g, 3, none⟩ = some (.int .i64 s0_3)) (ds := [13]) (bs 14 0) (by kernel_rfl) rfl rfl ⟨hdz32_0, hdz32_1, hdz32_2, hdz32_3⟩ (fun hHeld => ?_); refine with_tabW F72.tab8 F72.bits8 (fun HT_ HW_ => ?_)
  generalize w31.drew = w33 at hdfz32_1 hdfz32_2 hdfz32_3 hdz32_0 hdz32_1 hdz32_2 hdz32_3 HI0 HK HB hHeld ⊢
  refine pu_ 0 50 (bs 14 1) HT_ ?_ rfl rfl
  refine pu_ 1 51 (bs 14 3) HT_ ?_ rfl rfl
  refine pu_ 2 52 (bs 14 7) HT_ ?_ rfl rfl
  refine pu_ 3 53 (bs 14 15) HT_ ?_ rfl rfl
  refine pu_ 5 55 (bs 14 47) HT_ ?_ rfl rfl
  refine pu_ 6 56 (bs 14 111) HT_ ?_ rfl rfl
  refine pu_ 7 57 (bs 14 239) HT_ ?_ rfl rfl
  refine tk_ 4 54 (bs 14 255) HT_ HW_ hHeld au4_16 ?_ rfl rfl
  refine tk_ 8 58 (bs 14 511) HT_ HW_ hHeld au4_16 ?_ rfl rfl
  refine pu_ 9 59 (bs 14 1023) HT_ ?_ rfl rfl
  refine pu_ 10 60 (bs 14 2047) HT_ ?_ rfl rfl
  refine pu_ 11 61 (bs 14 4095) HT_ ?_ rfl rfl
  refine pu_ 12 62 (bs 14 8191) HT_ ?_ rfl rfl
  refine last_ (i := 13) (N := none) (bs 14 16383) rfl rfl (one_of HT_.out (by kernel_rfl)) (by decide) (fun K hK => ?_)
  have hs34 : w33.cell? ⟨g, 2, none⟩ = some (.int .u64 (Go.bits .xor .u64 s0_2 (IntKind.u64.wrap (s0_2 * 8192)))) := hdz32_2
  have hfs34 := hdfz32_2
  refine skip_ (w1 := ?_) (by rfl) rfl ?_ ?_
  rotate_left
  ·go_simp
   rfl
  refine hK.out _ _ ?_
  clear hK K
  refine done_ (done_of HT_.out (by kernel_rfl)) ?_
  try go_wp2
  have n0_ : Aside0 (IsS121 w0 (w33.setCell ⟨g, 2, none⟩ (.int .u64 (Go.bits .xor .u64 (Go.bits .xor .u64 s0_2 (IntKind.u64.wrap (s0_2 * 8192))) ((Go.bits .xor .u64 s0_2 (IntKind.u64.wrap (s0_2 * 8192))) / 128)))) g s0_0 s0_1 (Go.bits .xor .u64 (Go.bits .xor .u64 s0_2 (IntKind.u64.wrap (s0_2 * 8192))) ((Go.bits .xor .u64 s0_2 (IntKind.u64.wrap (s0_2 * 8192))) / 128)) s0_3) := ⟨is4_0_⟩
  have n1_ : Aside0 (KeepBut w (w33.setCell ⟨g, 2, none⟩ (.int .u64 (Go.bits .xor .u64 (Go.bits .xor .u64 s0_2 (IntKind.u64.wrap (s0_2 * 8192))) ((Go.bits .xor .u64 s0_2 (IntKind.u64.wrap (s0_2 * 8192))) / 128)))) g none) := ⟨au4_7⟩
  have n2_ : Aside0 (Below w0.heap.size w0 (w33.setCell ⟨g, 2, none⟩ (.int .u64 (Go.bits .xor .u64 (Go.bits .xor .u64 s0_2 (IntKind.u64.wrap (s0_2 * 8192))) ((Go.bits .xor .u64 s0_2 (IntKind.u64.wrap (s0_2 * 8192))) / 128))))) := ⟨au4_5⟩
  (try clear HI0)
  (try clear HK)
  (try clear HB)
  generalize (w33.setCell ⟨g, 2, none⟩ (.int .u64 (Go.bits .xor .u64 (Go.bits .xor .u64 s0_2 (IntKind.u64.wrap (s0_2 * 8192))) ((Go.bits .xor .u64 s0_2 (IntKind.u64.wrap (s0_2 * 8192))) / 128)))) = w35 at n0_ n1_ n2_ ⊢
  have HI0 := n0_
  have HK := n1_
  have HB := n2_
  clear n0_ n1_ n2_
  obtain ⟨ASz36_0, cSz36_0, HGz36, hgz36, HSz36_0⟩ := HI0.out
  have hcz36_0 := cellS121_0 HGz36
  have hcz36_1 := cellS121_1 HGz36
  have hcz36_2 := cellS121_2 HGz36
  have hcz36_3 := cellS121_3 HGz36
  have hfz36_1 := blk_frozen HGz36 1
  have hfz36_2 := blk_frozen HGz36 2
  have hfz36_3 := blk_frozen HGz36 3
  clear HGz36 hgz36
  replace HI0 := am_ (IsS121.drew HI0.out)
  replace HK := am_ (keep_drew HK.out)
  replace HB := am_ (below_drew1 HB.out)
  have hdfz36_1 : w35.drew.frozen? ⟨g, 1, none⟩ = false := hfz36_1
  have hdfz36_2 : w35.drew.frozen? ⟨g, 2, none⟩ = false := hfz36_2
  have hdfz36_3 : w35.drew.frozen? ⟨g, 3, none⟩ = false := hfz36_3
  have hdz36_0 : w35.drew.cell? ⟨g, 0, none⟩ = some (.slice ASz36_0 s0_0.length cSz36_0) := hcz36_0
  have hdz36_1 : w35.drew.cell? ⟨g, 1, none⟩ = some (.int .i64 s0_1) := hcz36_1
  have hdz36_2 : w35.drew.cell? ⟨g, 2, none⟩ = some (.int .u64 (Go.bits .xor .u64 (Go.bits .xor .u64 s0_2 (IntKind.u64.wrap (s0_2 * 8192))) ((Go.bits .xor .u64 s0_2 (IntKind.u64.wrap (s0_2 * 8192))) / 128))) := hcz36_2
  have hdz36_3 : w35.drew.cell? ⟨g, 3, none⟩ = some (.int .i64 s0_3) := hcz36_3
  refine start_ (n := 14) (S := fun w' => w'.cell? ⟨g, 0, none⟩ = some (.slice ASz36_0 s0_0.length cSz36_0) ∧ w'.cell? ⟨g, 1, none⟩ = some (.int .i64 s0_1) ∧ w'.cell? ⟨g, 2, none⟩ = some (.int .u64 (Go.bits .xor .u64 (Go.bits .xor .u64 s0_2 (IntKind.u64.wrap (s0_2 * 8192))) ((Go.bits .xor .u64 s0_2 (IntKind.u64.wrap (s0_2 * 8192))) / 128))) ∧ w'.cell? ⟨g, 3, none⟩ = some (.int .i64 s0_3)) (ds := [13]) (bs 14 0) (by kernel_rfl) rfl rfl ⟨hdz36_0, hdz36_1, hdz36_2, hdz36_3⟩ (fun hHeld => ?_); refine with_tabW F72.tab9 F72.bits9 (fun HT_ HW_ => ?_)
  generalize w35.drew = w37 at hdfz36_1 hdfz36_2 hdfz36_3 hdz36_0 hdz36_1 hdz36_2 hdz36_3 HI0 HK HB hHeld ⊢
  refine pu_ 0 63 (bs 14 1) HT_ ?_ rfl rfl
  refine pu_ 1 64 (bs 14 3) HT_ ?_ rfl rfl
  refine pu_ 2 65 (bs 14 7) HT_ ?_ rfl rfl
  refine pu_ 3 66 (bs 14 15) HT_ ?_ rfl rfl
  refine pu_ 5 68 (bs 14 47) HT_ ?_ rfl rfl
  refine pu_ 6 69 (bs 14 111) HT_ ?_ rfl rfl
  refine pu_ 7 70 (bs 14 239) HT_ ?_ rfl rfl
  refine tk_ 4 67 (bs 14 255) HT_ HW_ hHeld au4_16 ?_ rfl rfl
  refine tk_ 8 71 (bs 14 511) HT_ HW_ hHeld au4_16 ?_ rfl rfl
  refine pu_ 9 72 (bs 14 1023) HT_ ?_ rfl rfl
  refine pu_ 10 73 (bs 14 2047) HT_ ?_ rfl rfl
  refine pu_ 11 74 (bs 14 4095) HT_ ?_ rfl rfl
  refine pu_ 12 75 (bs 14 8191) HT_ ?_ rfl rfl
  refine last_ (i := 13) (N := none) (bs 14 16383) rfl rfl (one_of HT_.out (by kernel_rfl)) (by decide) (fun K hK => ?_)
  have hs38 : w37.cell? ⟨g, 2, none⟩ = some (.int .u64 (Go.bits .xor .u64 (Go.bits .xor .u64 s0_2 (IntKind.u64.wrap (s0_2 * 8192))) ((Go.bits .xor .u64 s0_2 (IntKind.u64.wrap (s0_2 * 8192))) / 128))) := hdz36_2
  have hfs38 := hdfz36_2
  refine skip_ (w1 := ?_) (by rfl) rfl ?_ ?_
  rotate_left
  ·go_simp
   rfl
  refine hK.out _ _ ?_
  clear hK K
  refine done_ (done_of HT_.out (by kernel_rfl)) ?_
  obtain ⟨ASz39_0, cSz39_0, HGz39, hgz39, HSz39_0⟩ := HI0.out
  have hcz39_0 := cellS121_0 HGz39
  have hcz39_1 := cellS121_1 HGz39
  have hcz39_2 := cellS121_2 HGz39
  have hcz39_3 := cellS121_3 HGz39
  have hfz39_1 := blk_frozen HGz39 1
  have hfz39_2 := blk_frozen HGz39 2
  have hfz39_3 := blk_frozen HGz39 3
  clear HGz39 hgz39
  try go_wp2
  go_ret
  exact ⟨au4_15, is4_0_, au4_5, au4_7⟩

 replace H := itn_ H; rcases H with ⟨c5b0, H⟩
 by_cases c6 : (IntKind.u64.wrap (a1)) = 0
 ·rw [if_pos c6] at H
  exact absurd H (by simp)
 rw [if_neg c6] at H
 have c6b0 : ((IntKind.u64.wrap (a1)) == 0) = false := beq_eq_false_iff_ne.mpr c6
 have c6b1 : ((IntKind.u64.wrap (a1)) != 0) = true := bne_iff_ne.mpr c6
 simp only [Option.some.injEq, Prod.mk.injEq] at H
 obtain ⟨rfl, rfl, rfl, rfl⟩ := H
 go_enter Try.func72, Try.ntmps72
 try go_wp2
 obtain ⟨ASz7_0, cSz7_0, HGz7, hgz7, HSz7_0⟩ := HI0.out
 have hcz7_0 := cellS121_0 HGz7
 have hcz7_1 := cellS121_1 HGz7
 have hcz7_2 := cellS121_2 HGz7
 have hcz7_3 := cellS121_3 HGz7
 have hfz7_1 := blk_frozen HGz7 1
 have hfz7_2 := blk_frozen HGz7 2
 have hfz7_3 := blk_frozen HGz7 3
 clear HGz7 hgz7
 replace HI0 := am_ (IsS121.drew HI0.out)
 replace HK := am_ (keep_drew HK.out)
 replace HB := am_ (below_drew1 HB.out)
 have hdfz7_1 : w.drew.frozen? ⟨g, 1, none⟩ = false := hfz7_1
 have hdfz7_2 : w.drew.frozen? ⟨g, 2, none⟩ = false := hfz7_2
 have hdfz7_3 : w.drew.frozen? ⟨g, 3, none⟩ = false := hfz7_3
 have hdz7_0 : w.drew.cell? ⟨g, 0, none⟩ = some (.slice ASz7_0 s0_0.length cSz7_0) := hcz7_0
 have hdz7_1 : w.drew.cell? ⟨g, 1, none⟩ = some (.int .i64 s0_1) := hcz7_1
 have hdz7_2 : w.drew.cell? ⟨g, 2, none⟩ = some (.int .u64 s0_2) := hcz7_2
 have hdz7_3 : w.drew.cell? ⟨g, 3, none⟩ = some (.int .i64 s0_3) := hcz7_3
 refine start_ (n := 10) (S := fun w' => w'.cell? ⟨g, 0, none⟩ = some (.slice ASz7_0 s0_0.length cSz7_0) ∧ w'.cell? ⟨g, 1, none⟩ = some (.int .i64 s0_1) ∧ w'.cell? ⟨g, 2, none⟩ = some (.int .u64 s0_2) ∧ w'.cell? ⟨g, 3, none⟩ = some (.int .i64 s0_3)) (ds := []) (bs 10 0) (by kernel_rfl) rfl rfl ⟨hdz7_0, hdz7_1, hdz7_2, hdz7_3⟩ (fun hHeld => ?_); refine with_tabW F72.tab4 F72.bits4 (fun HT_ HW_ => ?_)
 generalize w.drew = w8 at hdfz7_1 hdfz7_2 hdfz7_3 hdz7_0 hdz7_1 hdz7_2 hdz7_3 HI0 HK HB hHeld ⊢
 refine pu_ 0 8 (bs 10 1) HT_ ?_ rfl rfl
 refine pu_ 1 9 (bs 10 3) HT_ ?_ rfl rfl
 refine pu_ 2 10 (bs 10 7) HT_ ?_ rfl rfl
 refine pu_ 4 12 (bs 10 23) HT_ ?_ rfl rfl
 refine pu_ 5 13 (bs 10 55) HT_ ?_ rfl rfl
 refine pu_ 6 14 (bs 10 119) HT_ ?_ rfl rfl
 refine tk_ 3 11 (bs 10 127) HT_ HW_ hHeld au4_16 ?_ rfl rfl
 refine tk_ 7 15 (bs 10 255) HT_ HW_ hHeld au4_16 ?_ rfl rfl
 refine pu_ 8 16 (bs 10 511) HT_ ?_ rfl rfl
 refine pu_ 9 17 (bs 10 1023) HT_ ?_ rfl rfl
 refine done_ (done_of HT_.out (by kernel_rfl)) ?_
 try go_wp2
 obtain ⟨ASz9_0, cSz9_0, HGz9, hgz9, HSz9_0⟩ := HI0.out
 have hcz9_0 := cellS121_0 HGz9
 have hcz9_1 := cellS121_1 HGz9
 have hcz9_2 := cellS121_2 HGz9
 have hcz9_3 := cellS121_3 HGz9
 have hfz9_1 := blk_frozen HGz9 1
 have hfz9_2 := blk_frozen HGz9 2
 have hfz9_3 := blk_frozen HGz9 3
 clear HGz9 hgz9
 replace HI0 := am_ (IsS121.drew HI0.out)
 replace HK := am_ (keep_drew HK.out)
 replace HB := am_ (below_drew1 HB.out)
 have hdfz9_1 : w8.drew.frozen? ⟨g, 1, none⟩ = false := hfz9_1
 have hdfz9_2 : w8.drew.frozen? ⟨g, 2, none⟩ = false := hfz9_2
 have hdfz9_3 : w8.drew.frozen? ⟨g, 3, none⟩ = false := hfz9_3
 have hdz9_0 : w8.drew.cell? ⟨g, 0, none⟩ = some (.slice ASz9_0 s0_0.length cSz9_0) := hcz9_0
 have hdz9_1 : w8.drew.cell? ⟨g, 1, none⟩ = some (.int .i64 s0_1) := hcz9_1
 have hdz9_2 : w8.drew.cell? ⟨g, 2, none⟩ = some (.int .u64 s0_2) := hcz9_2
 have hdz9_3 : w8.drew.cell? ⟨g, 3, none⟩ = some (.int .i64 s0_3) := hcz9_3
 have p409 : 0 ≤ (s0_1 : Int) := od_
 have q409 : s0_1 < (s0_0.length : Int) := od_
 obtain ⟨ad409, e409, hx409_0⟩ := Kd.at_int HSz9_0 s0_1 p409 q409
 have hw409_0 := hx409_0
 cases e409
 replace hx409_0 := pw_cell_below HB.out hx409_0
 replace p409 := eq_true p409
 replace q409 := eq_true q409
 refine start_ (n := 12) (S := fun w' => w'.cell? ⟨g, 0, none⟩ = some (.slice (some ad409) s0_0.length cSz9_0) ∧ w'.cell? ⟨g, 1, none⟩ = some (.int .i64 s0_1) ∧ w'.cell? ⟨g, 2, none⟩ = some (.int .u64 s0_2) ∧ w'.cell? ⟨g, 3, none⟩ = some (.int .i64 s0_3) ∧ w'.cell? (ad409.add (s0_1).toNat) = some (.int .u8 (rd s0_0 s0_1))) (ds := []) (bs 12 0) (by kernel_rfl) rfl rfl ⟨hdz9_0, hdz9_1, hdz9_2, hdz9_3, ((HB.out.cell (World.block_lt_of_cell? _ _ hw409_0)).trans hw409_0)⟩ (fun hHeld => ?_); refine with_tabW F72.tab5 F72.bits5 (fun HT_ HW_ => ?_)
 generalize w8.drew = w10 at hdfz9_1 hdfz9_2 hdfz9_3 hdz9_0 hdz9_1 hdz9_2 hdz9_3 HI0 HK HB hx409_0 hHeld ⊢
 refine pu_ 0 18 (bs 12 1) HT_ ?_ rfl rfl
 refine pu_ 1 19 (bs 12 3) HT_ ?_ rfl rfl
 refine pu_ 2 20 (bs 12 7) HT_ ?_ rfl rfl
 refine pu_ 4 22 (bs 12 23) HT_ ?_ rfl rfl
 refine pu_ 5 23 (bs 12 55) HT_ ?_ rfl rfl
 refine pu_ 6 24 (bs 12 119) HT_ ?_ rfl rfl
 refine tk_ 3 21 (bs 12 127) HT_ HW_ hHeld au4_24 ?_ rfl rfl
 refine tk_ 7 25 (bs 12 255) HT_ HW_ hHeld au4_24 ?_ rfl rfl
 refine pu_ 8 26 (bs 12 511) HT_ ?_ rfl rfl
 refine tk_ 9 27 (bs 12 1023) HT_ HW_ hHeld au4_24 ?_ rfl rfl
 refine pu_ 10 28 (bs 12 2047) HT_ ?_ rfl rfl
 refine pu_ 11 5 (bs 12 4095) HT_ ?_ rfl rfl
 refine done_ (done_of HT_.out (by kernel_rfl)) ?_
 obtain ⟨ASz11_0, cSz11_0, HGz11, hgz11, HSz11_0⟩ := HI0.out
 have hcz11_0 := cellS121_0 HGz11
 have hcz11_1 := cellS121_1 HGz11
 have hcz11_2 := cellS121_2 HGz11
 have hcz11_3 := cellS121_3 HGz11
 have hfz11_1 := blk_frozen HGz11 1
 have hfz11_2 := blk_frozen HGz11 2
 have hfz11_3 := blk_frozen HGz11 3
 clear HGz11 hgz11
 try go_wp2
 have n0_ : Aside0 (IsS121 w0 (w10.setCell ⟨g, 1, none⟩ (.int .i64 (wrap64 (s0_1 + 1)))) g s0_0 (wrap64 (s0_1 + 1)) s0_2 s0_3) := ⟨is4_0_⟩
 have n1_ : Aside0 (KeepBut w (w10.setCell ⟨g, 1, none⟩ (.int .i64 (wrap64 (s0_1 + 1)))) g none) := ⟨au4_7⟩
 have n2_ : Aside0 (Below w0.heap.size w0 (w10.setCell ⟨g, 1, none⟩ (.int .i64 (wrap64 (s0_1 + 1))))) := ⟨au4_5⟩
 (try clear HI0)
 (try clear HK)
 (try clear HB)
 generalize (w10.setCell ⟨g, 1, none⟩ (.int .i64 (wrap64 (s0_1 + 1)))) = w12 at n0_ n1_ n2_ ⊢
 have HI0 := n0_
 have HK := n1_
 have HB := n2_
 clear n0_ n1_ n2_
 obtain ⟨ASz13_0, cSz13_0, HGz13, hgz13, HSz13_0⟩ := HI0.out
 have hcz13_0 := cellS121_0 HGz13
 have hcz13_1 := cellS121_1 HGz13
 have hcz13_2 := cellS121_2 HGz13
 have hcz13_3 := cellS121_3 HGz13
 have hfz13_1 := blk_frozen HGz13 1
 have hfz13_2 := blk_frozen HGz13 2
 have hfz13_3 := blk_frozen HGz13 3
 clear HGz13 hgz13
 replace HI0 := am_ (IsS121.drew HI0.out)
 replace HK := am_ (keep_drew HK.out)
 replace HB := am_ (below_drew1 HB.out)
 have hdfz13_1 : w12.drew.frozen? ⟨g, 1, none⟩ = false := hfz13_1
 have hdfz13_2 : w12.drew.frozen? ⟨g, 2, none⟩ = false := hfz13_2
 have hdfz13_3 : w12.drew.frozen? ⟨g, 3, none⟩ = false := hfz13_3
 have hdz13_0 : w12.drew.cell? ⟨g, 0, none⟩ = some (.slice ASz13_0 s0_0.length cSz13_0) := hcz13_0
 have hdz13_1 : w12.drew.cell? ⟨g, 1, none⟩ = some (.int .i64 (wrap64 (s0_1 + 1))) := hcz13_1
 have hdz13_2 : w12.drew.cell? ⟨g, 2, none⟩ = some (.int .u64 s0_2) := hcz13_2
 have hdz13_3 : w12.drew.cell? ⟨g, 3, none⟩ = some (.int .i64 s0_3) := hcz13_3
 refine start_ (n := 14) (S := fun w' => w'.cell? ⟨g, 0, none⟩ = some (.slice ASz13_0 s0_0.length cSz13_0) ∧ w'.cell? ⟨g, 1, none⟩ = some (.int .i64 (wrap64 (s0_1 + 1))) ∧ w'.cell? ⟨g, 2, none⟩ = some (.int .u64 s0_2) ∧ w'.cell? ⟨g, 3, none⟩ = some (.int .i64 s0_3)) (ds := [13]) (bs 14 0) (by kernel_rfl) rfl rfl ⟨hdz13_0, hdz13_1, hdz13_2, hdz13_3⟩ (fun hHeld => ?_); refine with_tabW F72.tab7 F72.bits7 (fun HT_ HW_ => ?_)
 generalize w12.drew = w14 at hdfz13_1 hdfz13_2 hdfz13_3 hdz13_0 hdz13_1 hdz13_2 hdz13_3 HI0 HK HB hHeld ⊢
 refine pu_ 0 37 (bs 14 1) HT_ ?_ rfl rfl
 refine pu_ 1 38 (bs 14 3) HT_ ?_ rfl rfl
 refine pu_ 2 39 (bs 14 7) HT_ ?_ rfl rfl
 refine pu_ 3 40 (bs 14 15) HT_ ?_ rfl rfl
 refine pu_ 5 42 (bs 14 47) HT_ ?_ rfl rfl
 refine pu_ 6 43 (bs 14 111) HT_ ?_ rfl rfl
 refine pu_ 7 44 (bs 14 239) HT_ ?_ rfl rfl
 refine tk_ 4 41 (bs 14 255) HT_ HW_ hHeld au4_16 ?_ rfl rfl
 refine tk_ 8 45 (bs 14 511) HT_ HW_ hHeld au4_16 ?_ rfl rfl
 refine pu_ 9 46 (bs 14 1023) HT_ ?_ rfl rfl
 refine pu_ 10 47 (bs 14 2047) HT_ ?_ rfl rfl
 refine pu_ 11 48 (bs 14 4095) HT_ ?_ rfl rfl
 refine pu_ 12 49 (bs 14 8191) HT_ ?_ rfl rfl
 refine last_ (i := 13) (N := none) (bs 14 16383) rfl rfl (one_of HT_.out (by kernel_rfl)) (by decide) (fun K hK => ?_)
 have hs15 : w14.cell? ⟨g, 2, none⟩ = some (.int .u64 s0_2) := hdz13_2
 have hfs15 := hdfz13_2
 refine skip_ (w1 := ?_) (by rfl) rfl ?_ ?_
 rotate_left
 ·go_simp
  rfl
 refine hK.out _ _ ?_
 clear hK K
 refine done_ (done_of HT_.out (by kernel_rfl)) ?_
 try go_wp2
 have n0_ : Aside0 (IsS121 w0 (w14.setCell ⟨g, 2, none⟩ (.int .u64 (Go.bits .xor .u64 s0_2 (IntKind.u64.wrap (s0_2 * 8192))))) g s0_0 (wrap64 (s0_1 + 1)) (Go.bits .xor .u64 s0_2 (IntKind.u64.wrap (s0_2 * 8192))) s0_3) := ⟨is4_0_⟩
 have n1_ : Aside0 (KeepBut w (w14.setCell ⟨g, 2, none⟩ (.int .u64 (Go.bits .xor .u64 s0_2 (IntKind.u64.wrap (s0_2 * 8192))))) g none) := ⟨au4_7⟩
 have n2_ : Aside0 (Below w0.heap.size w0 (w14.setCell ⟨g, 2, none⟩ (.int .u64 (Go.bits .xor .u64 s0_2 (IntKind.u64.wrap (s0_2 * 8192)))))) := ⟨au4_5⟩
 (try clear HI0)
 (try clear HK)
 (try clear HB)
 generalize (w14.setCell ⟨g, 2, none⟩ (.int .u64 (Go.bits .xor .u64 s0_2 (IntKind.u64.wrap (s0_2 * 8192))))) = w16 at n0_ n1_ n2_ ⊢
 have HI0 := n0_
 have HK := n1_
 have HB := n2_
 clear n0_ n1_ n2_
 obtain ⟨ASz17_0, cSz17_0, HGz17, hgz17, HSz17_0⟩ := HI0.out
 have hcz17_0 := cellS121_0 HGz17
 have hcz17_1 := cellS121_1 HGz17
 have hcz17_2 := cellS121_2 HGz17
 have hcz17_3 := cellS121_3 HGz17
 have hfz17_1 := blk_frozen HGz17 1
 have hfz17_2 := blk_frozen HGz17 2
 have hfz17_3 := blk_frozen HGz17 3
 clear HGz17 hgz17
 replace HI0 := am_ (IsS121.drew HI0.out)
 replace HK := am_ (keep_drew HK.out)
 replace HB := am_ (below_drew1 HB.out)
 have hdfz17_1 : w16.drew.frozen? ⟨g, 1, none⟩ = false := hfz17_1
 have hdfz17_2 : w16.drew.frozen? ⟨g, 2, none⟩ = false := hfz17_2
 have hdfz17_3 : w16.drew.frozen? ⟨g, 3, none⟩ = false := hfz17_3
 have hdz17_0 : w16.drew.cell? ⟨g, 0, none⟩ = some (.slice ASz17_0 s0_0.length cSz17_0) := hcz17_0
 have hdz17_1 : w16.drew.cell? ⟨g, 1, none⟩ = some (.int .i64 (wrap64 (s0_1 + 1))) := hcz17_1
 have hdz17_2 : w16.drew.cell? ⟨g, 2, none⟩ = some (.int .u64 (Go.bits .xor .u64 s0_2 (IntKind.u64.wrap (s0_2 * 8192)))) := hcz17_2
 have hdz17_3 : w16.drew.cell? ⟨g, 3, none⟩ = some (.int .i64 s0_3) := hcz17_3
 refine start_ (n := 14) (S := fun w' => w'.cell? ⟨g, 0, none⟩ = some (.slice ASz17_0 s0_0.length cSz17_0) ∧ w'.cell? ⟨g, 1, none⟩ = some (.int .i64 (wrap64 (s0_1 + 1))) ∧ w'.cell? ⟨g, 2, none⟩ = some (.int .u64 (Go.bits .xor .u64 s0_2 (IntKind.u64.wrap (s0_2 * 8192)))) ∧ w'.cell? ⟨g, 3, none⟩ = some (.int .i64 s0_3)) (ds := [13]) (bs 14 0) (by kernel_rfl) rfl rfl ⟨hdz17_0, hdz17_1, hdz17_2, hdz17_3⟩ (fun hHeld => ?_); refine with_tabW F72.tab8 F72.bits8 (fun HT_ HW_ => ?_)
 generalize w16.drew = w18 at hdfz17_1 hdfz17_2 hdfz17_3 hdz17_0 hdz17_1 hdz17_2 hdz17_3 HI0 HK HB hHeld ⊢
 refine pu_ 0 50 (bs 14 1) HT_ ?_ rfl rfl
 refine pu_ 1 51 (bs 14 3) HT_ ?_ rfl rfl
 refine pu_ 2 52 (bs 14 7) HT_ ?_ rfl rfl
 refine pu_ 3 53 (bs 14 15) HT_ ?_ rfl rfl
 refine pu_ 5 55 (bs 14 47) HT_ ?_ rfl rfl
 refine pu_ 6 56 (bs 14 111) HT_ ?_ rfl rfl
 refine pu_ 7 57 (bs 14 239) HT_ ?_ rfl rfl
 refine tk_ 4 54 (bs 14 255) HT_ HW_ hHeld au4_16 ?_ rfl rfl
 refine tk_ 8 58 (bs 14 511) HT_ HW_ hHeld au4_16 ?_ rfl rfl
 refine pu_ 9 59 (bs 14 1023) HT_ ?_ rfl rfl
 refine pu_ 10 60 (bs 14 2047) HT_ ?_ rfl rfl
 refine pu_ 11 61 (bs 14 4095) HT_ ?_ rfl rfl
 refine pu_ 12 62 (bs 14 8191) HT_ ?_ rfl rfl
 refine last_ (i := 13) (N := none) (bs 14 16383) rfl rfl (one_of HT_.out (by kernel_rfl)) (by decide) (fun K hK => ?_)
 have hs19 : w18.cell? ⟨g, 2, none⟩ = some (.int .u64 (Go.bits .xor .u64 s0_2 (IntKind.u64.wrap (s0_2 * 8192)))) := hdz17_2
 have hfs19 := hdfz17_2
 refine skip_ (w1 := ?_) (by rfl) rfl ?_ ?_
 rotate_left
 ·go_simp
  rfl
 refine hK.out _ _ ?_
 clear hK K
 refine done_ (done_of HT_.out (by kernel_rfl)) ?_
 try go_wp2
 have n0_ : Aside0 (IsS121 w0 (w18.setCell ⟨g, 2, none⟩ (.int .u64 (Go.bits .xor .u64 (Go.bits .xor .u64 s0_2 (IntKind.u64.wrap (s0_2 * 8192))) ((Go.bits .xor .u64 s0_2 (IntKind.u64.wrap (s0_2 * 8192))) / 128)))) g s0_0 (wrap64 (s0_1 + 1)) (Go.bits .xor .u64 (Go.bits .xor .u64 s0_2 (IntKind.u64.wrap (s0_2 * 8192))) ((Go.bits .xor .u64 s0_2 (IntKind.u64.wrap (s0_2 * 8192))) / 128)) s0_3) := ⟨is4_0_⟩
 have n1_ : Aside0 (KeepBut w (w18.setCell ⟨g, 2, none⟩ (.int .u64 (Go.bits .xor .u64 (Go.bits .xor .u64 s0_2 (IntKind.u64.wrap (s0_2 * 8192))) ((Go.bits .xor .u64 s0_2 (IntKind.u64.wrap (s0_2 * 8192))) / 128)))) g none) := ⟨au4_7⟩
 have n2_ : Aside0 (Below w0.heap.size w0 (w18.setCell ⟨g, 2, none⟩ (.int .u64 (Go.bits .xor .u64 (Go.bits .xor .u64 s0_2 (IntKind.u64.wrap (s0_2 * 8192))) ((Go.bits .xor .u64 s0_2 (IntKind.u64.wrap (s0_2 * 8192))) / 128))))) := ⟨au4_5⟩
 (try clear HI0)
 (try clear HK)
 (try clear HB)
 generalize (w18.setCell ⟨g, 2, none⟩ (.int .u64 (Go.bits .xor .u64 (Go.bits .xor .u64 s0_2 (IntKind.u64.wrap (s0_2 * 8192))) ((Go.bits .xor .u64 s0_2 (IntKind.u64.wrap (s0_2 * 8192))) / 128)))) = w20 at n0_ n1_ n2_ ⊢
 have HI0 := n0_
 have HK := n1_
 have HB := n2_
 clear n0_ n1_ n2_
 obtain ⟨ASz21_0, cSz21_0, HGz21, hgz21, HSz21_0⟩ := HI0.out
 have hcz21_0 := cellS121_0 HGz21
 have hcz21_1 := cellS121_1 HGz21
 have hcz21_2 := cellS121_2 HGz21
 have hcz21_3 := cellS121_3 HGz21
 have hfz21_1 := blk_frozen HGz21 1
 have hfz21_2 := blk_frozen HGz21 2
 have hfz21_3 := blk_frozen HGz21 3
 clear HGz21 hgz21
 replace HI0 := am_ (IsS121.drew HI0.out)
 replace HK := am_ (keep_drew HK.out)
 replace HB := am_ (below_drew1 HB.out)
 have hdfz21_1 : w20.drew.frozen? ⟨g, 1, none⟩ = false := hfz21_1
 have hdfz21_2 : w20.drew.frozen? ⟨g, 2, none⟩ = false := hfz21_2
 have hdfz21_3 : w20.drew.frozen? ⟨g, 3, none⟩ = false := hfz21_3
 have hdz21_0 : w20.drew.cell? ⟨g, 0, none⟩ = some (.slice ASz21_0 s0_0.length cSz21_0) := hcz21_0
 have hdz21_1 : w20.drew.cell? ⟨g, 1, none⟩ = some (.int .i64 (wrap64 (s0_1 + 1))) := hcz21_1
 have hdz21_2 : w20.drew.cell? ⟨g, 2, none⟩ = some (.int .u64 (Go.bits .xor .u64 (Go.bits .xor .u64 s0_2 (IntKind.u64.wrap (s0_2 * 8192))) ((Go.bits .xor .u64 s0_2 (IntKind.u64.wrap (s0_2 * 8192))) / 128))) := hcz21_2
 have hdz21_3 : w20.drew.cell? ⟨g, 3, none⟩ = some (.int .i64 s0_3) := hcz21_3
 refine start_ (n := 14) (S := fun w' => w'.cell? ⟨g, 0, none⟩ = some (.slice ASz21_0 s0_0.length cSz21_0) ∧ w'.cell? ⟨g, 1, none⟩ = some (.int .i64 (wrap64 (s0_1 + 1))) ∧ w'.cell? ⟨g, 2, none⟩ = some (.int .u64 (Go.bits .xor .u64 (Go.bits .xor .u64 s0_2 (IntKind.u64.wrap (s0_2 * 8192))) ((Go.bits .xor .u64 s0_2 (IntKind.u64.wrap (s0_2 * 8192))) / 128))) ∧ w'.cell? ⟨g, 3, none⟩ = some (.int .i64 s0_3)) (ds := [13]) (bs 14 0) (by kernel_rfl) rfl rfl ⟨hdz21_0, hdz21_1, hdz21_2, hdz21_3⟩ (fun hHeld => ?_); refine with_tabW F72.tab9 F72.bits9 (fun HT_ HW_ => ?_)
 generalize w20.drew = w22 at hdfz21_1 hdfz21_2 hdfz21_3 hdz21_0 hdz21_1 hdz21_2 hdz21_3 HI0 HK HB hHeld ⊢
 refine pu_ 0 63 (bs 14 1) HT_ ?_ rfl rfl
 refine pu_ 1 64 (bs 14 3) HT_ ?_ rfl rfl
 refine pu_ 2 65 (bs 14 7) HT_ ?_ rfl rfl
 refine pu_ 3 66 (bs 14 15) HT_ ?_ rfl rfl
 refine pu_ 5 68 (bs 14 47) HT_ ?_ rfl rfl
 refine pu_ 6 69 (bs 14 111) HT_ ?_ rfl rfl
 refine pu_ 7 70 (bs 14 239) HT_ ?_ rfl rfl
 refine tk_ 4 67 (bs 14 255) HT_ HW_ hHeld au4_16 ?_ rfl rfl
 refine tk_ 8 71 (bs 14 511) HT_ HW_ hHeld au4_16 ?_ rfl rfl
 refine pu_ 9 72 (bs 14 1023) HT_ ?_ rfl rfl
 refine pu_ 10 73 (bs 14 2047) HT_ ?_ rfl rfl
 refine pu_ 11 74 (bs 14 4095) HT_ ?_ rfl rfl
 refine pu_ 12 75 (bs 14 8191) HT_ ?_ rfl rfl
 refine last_ (i := 13) (N := none) (bs 14 16383) rfl rfl (one_of HT_.out (by kernel_rfl)) (by decide) (fun K hK => ?_)
 have hs23 : w22.cell? ⟨g, 2, none⟩ = some (.int .u64 (Go.bits .xor .u64 (Go.bits .xor .u64 s0_2 (IntKind.u64.wrap (s0_2 * 8192))) ((Go.bits .xor .u64 s0_2 (IntKind.u64.wrap (s0_2 * 8192))) / 128))) := hdz21_2
 have hfs23 := hdfz21_2
 refine skip_ (w1 := ?_) (by rfl) rfl ?_ ?_
 rotate_left
 ·go_simp
  rfl
 refine hK.out _ _ ?_
 clear hK K
 refine done_ (done_of HT_.out (by kernel_rfl)) ?_
 obtain ⟨ASz24_0, cSz24_0, HGz24, hgz24, HSz24_0⟩ := HI0.out
 have hcz24_0 := cellS121_0 HGz24
 have hcz24_1 := cellS121_1 HGz24
 have hcz24_2 := cellS121_2 HGz24
 have hcz24_3 := cellS121_3 HGz24
 have hfz24_1 := blk_frozen HGz24 1
 have hfz24_2 := blk_frozen HGz24 2
 have hfz24_3 := blk_frozen HGz24 3
 clear HGz24 hgz24
 try go_wp2
 go_ret
 exact ⟨au4_15, is4_0_, au4_5, au4_7⟩
/-! ### F98: function 98 -/
def F98.f (s0_0 : List Int) (s0_1 : Int) (s0_2 : Int) (s0_3 : Int) (a1 : Int) : Option (Bool × Int × Int × Int) := (F72.f s0_0 s0_1 s0_2 s0_3 a1).bind fun bt410 => (some ((bt410.1 == 0), bt410.2.1, bt410.2.2.1, bt410.2.2.2))
theorem F98.calls (g : Nat) (s0_0 : List Int) (s0_1 : Int) (s0_2 : Int) (s0_3 : Int) (a1 : Int) (r1 : Bool) (r2 : Int) (r3 : Int) (r4 : Int) (w0 w : World) (hI : IsS121 w0 w g s0_0 s0_1 s0_2 s0_3) (hB : Below w0.heap.size w0 w) (h : F98.f s0_0 s0_1 s0_2 s0_3 a1 = some (r1, r2, r3, r4)) :
  Calls Try.prog 98 #[.pointer (some ⟨g, 0, none⟩), .int .i64 a1] w fun e w' => e = .returned (.bool r1) ∧ IsS121 w0 w' g s0_0 r2 r3 r4 ∧ Below w0.heap.size w0 w' ∧ KeepBut w w' g none := by
 have HI0 := am_ hI
 have HK := am_ (KeepBut.refl w g none)
 have HL := am_ hB.size
 clear hI
 have HW0 := am_ hB.size
 have HB := am_ hB
 clear hB
 have H : ((F72.f s0_0 s0_1 s0_2 s0_3 a1).bind fun bt410 => (some ((bt410.1 == 0), bt410.2.1, bt410.2.2.1, bt410.2.2.2))) = some (r1, r2, r3, r4) := h
 clear h
 replace H := bi_ H; rcases H with ⟨⟨t410, t411, t412, t413⟩, A3, H⟩
 simp only [Option.some.injEq, Prod.mk.injEq] at H
 obtain ⟨rfl, rfl, rfl, rfl⟩ := H
 go_enter Try.func98, Try.ntmps98
 go_wp2_with (first | ((with_reducible refine gate_callee (f := 72) rfl ?_); refine gl_ 7 Try.func72 #[.pointer (some ⟨g, 0, none⟩), .int .i64 a1] ?_ rfl rfl rfl rfl; (with_reducible refine (F72.calls g s0_0 s0_1 s0_2 s0_3 a1 t410 t411 t412 t413 w0 _ ?s1 ?s2 A3.out).mono ?_); (case s1 => exact au4_18); (case s2 => exact au4_20); rintro e w4 ⟨rfl, hi, hb, hk⟩; refine ⟨_, rfl, ?_⟩; replace HK := am_ (KeepBut.trans au4_6 hk (.inl rfl)); replace HB := am_ (hb); replace HI0 := am_ (hi); (try clear hb); (try clear hb2); (try clear hk); (try clear hi)))
 go_ret
 exact ⟨au4_15, is4_0_, au4_5, au4_7⟩

/-! ### F107: function 107 -/
def F107.f  : Option (Int × Int × Int × Int) := some (39, 43, 58, 63)
theorem F107.calls  (r1 : Int) (r2 : Int) (r3 : Int) (r4 : Int) (w : World) (h : F107.f  = some (r1, r2, r3, r4)) :
  Calls Try.prog 107 #[] w fun e w' => e = .returned (.agg #[.int .i64 r1, .int .i64 r2, .int .i64 r3, .int .i64 r4]) ∧ Below w.heap.size w w' := by
 have hu23 := Try.underlying23
 have HB := am_ (Below.refl w.heap.size w)
 have H : (some (39, 43, 58, 63)) = some (r1, r2, r3, r4) := h
 clear h
 simp only [Option.some.injEq, Prod.mk.injEq] at H
 obtain ⟨rfl, rfl, rfl, rfl⟩ := H
 go_enter Try.func107, Try.ntmps107
 go_wp2_with (first | ((with_reducible refine gate_dst (N := 0) rfl ?_); refine be_ 0 #[.int .i64 0, .int .i64 0, .int .i64 0, .int .i64 0] 23 ?_; intro gb414 hg w1 hbox hb; have BK414 := am_ (hbox); have GW414 := am_ (gw_ hg bl_); have GE414 := GW414; replace HB := hs_ w hb; clear hb hbox hg; obtain ⟨hcz2_0, hcz2_1, hcz2_2, hcz2_3, hfz2_0, hfz2_1, hfz2_2, hfz2_3⟩ := cellsF4 BK414.out))
 refine bodyPost_ret (results_cell_row rfl _ _ gb414 23 #[.int .i64 39, .int .i64 43, .int .i64 58, .int .i64 63] (0, 0) _ rfl (bq_ BK414) Try.underlying23 rfl (by kernel_rfl)) rfl ?_
 exact ⟨au4_15, bl_⟩

/-! ### F108: function 108 -/
def F108.f (s0_0 : List Int) (s0_1 : Int) (s0_2 : Int) (s0_3 : Int) : Option (Int × Int × Int × Int) := (some (([0, 1, (-1), 2, 1000, 1001, 2147483648, 2147483647, (-2147483648), 4611686018427387904, 9223372036854775807, (-9223372036854775808), 1000000, 1000001] : List Int) : List Int)).bind fun y415 => ((F72.f s0_0 s0_1 s0_2 s0_3 14).bind fun bt418 => (if 0 ≤ bt418.1 then (if bt418.1 < (y415.length : Int) then (some (rd y415 bt418.1, bt418.2.1, bt418.2.2.1, bt418.2.2.2)) else (none)) else (none)))
theorem F108.calls (g : Nat) (s0_0 : List Int) (s0_1 : Int) (s0_2 : Int) (s0_3 : Int) (r1 : Int) (r2 : Int) (r3 : Int) (r4 : Int) (w0 w : World) (hI : IsS121 w0 w g s0_0 s0_1 s0_2 s0_3) (hB : Below w0.heap.size w0 w) (h : F108.f s0_0 s0_1 s0_2 s0_3 = some (r1, r2, r3, r4)) :
  Calls Try.prog 108 #[.pointer (some ⟨g, 0, none⟩)] w fun e w' => e = .returned (.int .i64 r1) ∧ IsS121 w0 w' g s0_0 r2 r3 r4 ∧ Below w0.heap.size w0 w' ∧ KeepBut w w' g none := by
 have HI0 := am_ hI
 have HK := am_ (KeepBut.refl w g none)
 have HL := am_ hB.size
 clear hI
 have HW0 := am_ hB.size
 have HB := am_ hB
 clear hB
 have H : ((some (([0, 1, (-1), 2, 1000, 1001, 2147483648, 2147483647, (-2147483648), 4611686018427387904, 9223372036854775807, (-9223372036854775808), 1000000, 1000001] : List Int) : List Int)).bind fun y415 => ((F72.f s0_0 s0_1 s0_2 s0_3 14).bind fun bt418 => (if 0 ≤ bt418.1 then (if bt418.1 < (y415.length : Int) then (some (rd y415 bt418.1, bt418.2.1, bt418.2.2.1, bt418.2.2.2)) else (none)) else (none)))) = some (r1, r2, r3, r4) := h
 clear h
 obtain ⟨y415, hy415⟩ : ∃ y_ : List Int, y_ = (([0, 1, (-1), 2, 1000, 1001, 2147483648, 2147483647, (-2147483648), 4611686018427387904, 9223372036854775807, (-9223372036854775808), 1000000, 1000001] : List Int)) := ⟨_, rfl⟩
 replace H : ((F72.f s0_0 s0_1 s0_2 s0_3 14).bind fun bt418 => (if 0 ≤ bt418.1 then (if bt418.1 < (y415.length : Int) then (some (rd y415 bt418.1, bt418.2.1, bt418.2.2.1, bt418.2.2.2)) else (none)) else (none))) = some (r1, r2, r3, r4) := by first | (rw [hy415]; exact H) | exact H
 have Ny415 := am_ hy415
 clear hy415
 replace H := bi_ H; rcases H with ⟨⟨t418, t419, t420, t421⟩, A2, H⟩
 by_cases c3 : 0 ≤ t418
 rotate_left
 ·rw [if_neg c3] at H
  exact absurd H (by simp)

 rw [if_pos c3] at H
 have c3b0 : decide (0 ≤ t418) = true := decide_eq_true c3
 clear c3
 replace H := itn_ H; rcases H with ⟨c4b0, H⟩
 simp only [Option.some.injEq, Prod.mk.injEq] at H
 obtain ⟨rfl, rfl, rfl, rfl⟩ := H
 go_enter Try.func108, Try.ntmps108
 go_wp2_with (first | ((with_reducible refine gate_dst (N := 3) rfl ?_); refine Kd.R_lit (Kd.int .i64) _ 2 ?hg (N := 3) ?hd (xs := ([0, 1, (-1), 2, 1000, 1001, 2147483648, 2147483647, (-2147483648), 4611686018427387904, 9223372036854775807, (-9223372036854775808), 1000000, 1000001] : List Int)) (inner := [.int .i64 0, .int .i64 1, .int .i64 (-1), .int .i64 2, .int .i64 1000, .int .i64 1001, .int .i64 2147483648, .int .i64 2147483647, .int .i64 (-2147483648), .int .i64 4611686018427387904, .int .i64 9223372036854775807, .int .i64 (-9223372036854775808), .int .i64 1000000, .int .i64 1000001]) (ok := fun _ => True) (okp := fun _ => True) ?hr ?hp (fun _ hk => hk) trivial (Below.refl _ _) (Nat.le_refl _) (by simp) ?_; (case hd => rfl); (case hg => rfl); (case hr => exact hr_); (case hp => exact (Reps.one (show Kd.M (Kd.int .i64) _ _ _ 0 [.int .i64 0] from rfl) (Reps.one (show Kd.M (Kd.int .i64) _ _ _ 1 [.int .i64 1] from rfl) (Reps.one (show Kd.M (Kd.int .i64) _ _ _ (-1) [.int .i64 (-1)] from rfl) (Reps.one (show Kd.M (Kd.int .i64) _ _ _ 2 [.int .i64 2] from rfl) (Reps.one (show Kd.M (Kd.int .i64) _ _ _ 1000 [.int .i64 1000] from rfl) (Reps.one (show Kd.M (Kd.int .i64) _ _ _ 1001 [.int .i64 1001] from rfl) (Reps.one (show Kd.M (Kd.int .i64) _ _ _ 2147483648 [.int .i64 2147483648] from rfl) (Reps.one (show Kd.M (Kd.int .i64) _ _ _ 2147483647 [.int .i64 2147483647] from rfl) (Reps.one (show Kd.M (Kd.int .i64) _ _ _ (-2147483648) [.int .i64 (-2147483648)] from rfl) (Reps.one (show Kd.M (Kd.int .i64) _ _ _ 4611686018427387904 [.int .i64 4611686018427387904] from rfl) (Reps.one (show Kd.M (Kd.int .i64) _ _ _ 9223372036854775807 [.int .i64 9223372036854775807] from rfl) (Reps.one (show Kd.M (Kd.int .i64) _ _ _ (-9223372036854775808) [.int .i64 (-9223372036854775808)] from rfl) (Reps.one (show Kd.M (Kd.int .i64) _ _ _ 1000000 [.int .i64 1000000] from rfl) (Reps.one (show Kd.M (Kd.int .i64) _ _ _ 1000001 [.int .i64 1000001] from rfl) (Reps.none _ _)))))))))))))))); intro v416 w5 ho6 hb hg_ hnew_; clear hg_ hnew_; (first | rw [← Ny415.out] at ho6 | (simp only [Int.reduceToNat] at ho6; rw [← Ny415.out] at ho6)); have HO417 := am_ (Kd.R_lower ho6 (keep_size (w := w) (g := g) (row := none) au4_6)); replace HK := am_ (KeepBut.trans au4_6 (KeepBut.of_below hb g none) (.inl rfl)); replace HB := am_ (below_step au4_19 hb); replace HI0 := am_ (IsS121.below is4_0_ hb); clear hb ho6) | ((with_reducible refine gate_callee (f := 72) rfl ?_); refine gl_ 5 Try.func72 #[.pointer (some ⟨g, 0, none⟩), .int .i64 14] ?_ rfl rfl rfl rfl; (with_reducible refine (F72.calls g s0_0 s0_1 s0_2 s0_3 14 t418 t419 t420 t421 w0 _ ?s1 ?s2 A2.out).mono ?_); (case s1 => exact au4_18); (case s2 => exact au4_20); rintro e w7 ⟨rfl, hi, hb, hk⟩; refine ⟨_, rfl, ?_⟩; replace HO417 := am_ (Kd.R_mono (Kd.R_keep (IsS121.apart (is4_0_ : IsS121 w0 _ g s0_0 s0_1 s0_2 s0_3) (rk_ HO417) (by decide)) hk (fun _ h => h.2)) (fun _ h => h.1)); replace HK := am_ (KeepBut.trans au4_6 hk (.inl rfl)); replace HB := am_ (hb); replace HI0 := am_ (hi); (try clear hb); (try clear hb2); (try clear hk); (try clear hi); obtain ⟨Ao8, co8, eo8⟩ := Kd.R_slice HO417.out; subst eo8; have p422 : 0 ≤ (t418 : Int) := od_; have q422 : t418 < (y415.length : Int) := od_; obtain ⟨ad422, e422, hx422_0⟩ := Kd.at_int (Kd.R_reads' HO417.out).2.2 t418 p422 q422; cases e422; replace p422 := eq_true p422; replace q422 := eq_true q422))
 go_ret
 exact ⟨au4_15, is4_0_, au4_5, au4_7⟩
/-! ### F65: function 65 -/
def F65.j0 : Nat → List Int → Int → Int → Int → Int → Int → Int → Int → Option (Int × Int × Int × Int × Int × Int × Int)
  | 0, _, _, _, _, _, _, _, _ => none
  | k + 1, x1000, x1001, x1002, x1003, x429000, x429001, x429002, x429003 => (F98.f x1000 x1001 x1002 x1003 30).bind fun bt444 => (if bt444.1 = true then ((F72.f x1000 bt444.2.1 bt444.2.2.1 bt444.2.2.2 3).bind fun bt448 => (if bt448.1 = 0 then (some (x429000, x429001, x429002, x429001, bt448.2.1, bt448.2.2.1, bt448.2.2.2)) else (if bt448.1 = 1 then ((some (([32, 127, 65, 48, 45, 300] : List Int) : List Int)).bind fun y452 => ((F72.f x1000 bt448.2.1 bt448.2.2.1 bt448.2.2.2 6).bind fun bt455 => (if 0 ≤ bt455.1 then (if bt455.1 < (y452.length : Int) then (some (x429000, x429001, rd y452 bt455.1, x429003, bt455.2.1, bt455.2.2.1, bt455.2.2.2)) else (none)) else (none)))) else ((F108.f x1000 bt448.2.1 bt448.2.2.1 bt448.2.2.2).bind fun bt460 => (some (bt460.1, x429001, x429002, x429003, bt460.2.1, bt460.2.2.1, bt460.2.2.2)))))) else (some (x429000, x429001, x429002, x429003, bt444.2.1, bt444.2.2.1, bt444.2.2.2)))
def F65.f (k : Nat) (s0_0 : List Int) (s0_1 : Int) (s0_2 : Int) (s0_3 : Int) : Option (Int × Int × Int × Int × Int × Int × Int) := (F107.f).bind fun bt424 => ((F98.f s0_0 s0_1 s0_2 s0_3 4).bind fun bt429 => (if bt429.1 = true then ((some (([33, 35, 36, 37, 38, 42, 47, 61, 64, 94, 124, 126] : List Int) : List Int)).bind fun y433 => ((F72.f s0_0 bt429.2.1 bt429.2.2.1 bt429.2.2.2 9).bind fun bt436 => (if 0 ≤ bt436.1 then (if bt436.1 < (y433.length : Int) then (if 0 ≤ (wrap64 (bt436.1 + 1)) then (if (wrap64 (bt436.1 + 1)) < (y433.length : Int) then (if 0 ≤ (wrap64 (bt436.1 + 2)) then (if (wrap64 (bt436.1 + 2)) < (y433.length : Int) then (if 0 ≤ (wrap64 (bt436.1 + 3)) then (if (wrap64 (bt436.1 + 3)) < (y433.length : Int) then (F65.j0 k s0_0 bt436.2.1 bt436.2.2.1 bt436.2.2.2 (rd y433 bt436.1) (rd y433 (wrap64 (bt436.1 + 1))) (rd y433 (wrap64 (bt436.1 + 2))) (rd y433 (wrap64 (bt436.1 + 3)))) else (none)) else (none)) else (none)) else (none)) else (none)) else (none)) else (none)) else (none)))) else (F65.j0 k s0_0 bt429.2.1 bt429.2.2.1 bt429.2.2.2 bt424.1 bt424.2.1 bt424.2.2.1 bt424.2.2.2)))
theorem F65.mono_l : ∀ k, (∀ y0 y1 y2 y3 y4 y5 y6 y7, LeO (F65.j0 k y0 y1 y2 y3 y4 y5 y6 y7) (F65.j0 (k + 1) y0 y1 y2 y3 y4 y5 y6 y7))
 | 0 => fun _ _ _ _ _ _ _ _ r h => by simp [F65.j0] at h
 | k + 1 => by
  have ih0 := F65.mono_l k
  intro y0 y1 y2 y3 y4 y5 y6 y7
  unfold F65.j0
  repeat' with_reducible first | exact ih0 _ _ _ _ _ _ _ _ | exact LeO.refl _ | exact LeO.none _ | refine LeO.ite ?_ ?_ | refine LeO.bind ?_ (fun _ => ?_)
theorem F65.mono : ∀ a0 a1 a2 a3 k, LeO (F65.f k a0 a1 a2 a3) (F65.f (k + 1) a0 a1 a2 a3) := by
 intro a0 a1 a2 a3 k
 have ih0 := F65.mono_l k
 unfold F65.f
 repeat' with_reducible first | exact ih0 _ _ _ _ _ _ _ _ | exact LeO.refl _ | exact LeO.none _ | refine LeO.ite ?_ ?_ | refine LeO.bind ?_ (fun _ => ?_)
def F65.T5 : Bool × List (List Nat × List Nat) := (true, [([], []), ([], []), ([0, 1], [0, 1]), ([2], [2]), ([], []), ([], []), ([5], [5]), ([4, 6], [4, 6]), ([7], [7]), ([], []), ([], []), ([10], [10]), ([9, 11], [9, 11]), ([12], [12]), ([], []), ([], []), ([15], [15]), ([14, 16], [14, 16]), ([17], [17]), ([3, 8, 13, 18], [3, 8, 13, 18]), ([19, 0, 1, 2, 3, 4, 5, 6, 7, 8, 9, 10, 11, 12, 13, 14, 15, 16, 17, 18, 19], [19])])
def F65.B5 : List Nat := [0, 0, 3, 7, 0, 0, 32, 112, 240, 0, 0, 1024, 3584, 7680, 0, 0, 32768, 114688, 245760, 524287, 1048575]
theorem F65.tab5 : rtab .any (opsOf Try.f65 5) = F65.T5 := by kernel_rfl
theorem F65.bits5 : waitsOk F65.T5.2 F65.B5 = true := by kernel_rfl
theorem F65.calls (k : Nat) (g : Nat) (s0_0 : List Int) (s0_1 : Int) (s0_2 : Int) (s0_3 : Int) (r1 : Int) (r2 : Int) (r3 : Int) (r4 : Int) (r5 : Int) (r6 : Int) (r7 : Int) (w0 w : World) (hI : IsS121 w0 w g s0_0 s0_1 s0_2 s0_3) (hB : Below w0.heap.size w0 w) (h : F65.f k s0_0 s0_1 s0_2 s0_3 = some (r1, r2, r3, r4, r5, r6, r7)) :
  Calls Try.prog 65 #[.pointer (some ⟨g, 0, none⟩)] w fun e w' => e = .returned (.agg #[.int .i64 r1, .int .i64 r2, .int .i64 r3, .int .i64 r4]) ∧ IsS121 w0 w' g s0_0 r5 r6 r7 ∧ Below w0.heap.size w0 w' ∧ KeepBut w w' g none := by
 have hu23 := Try.underlying23
 have HI0 := am_ hI
 have HK := am_ (KeepBut.refl w g none)
 have HL := am_ hB.size
 clear hI
 have HW0 := am_ hB.size
 have HB := am_ hB
 clear hB
 have H : ((F107.f).bind fun bt424 => ((F98.f s0_0 s0_1 s0_2 s0_3 4).bind fun bt429 => (if bt429.1 = true then ((some (([33, 35, 36, 37, 38, 42, 47, 61, 64, 94, 124, 126] : List Int) : List Int)).bind fun y433 => ((F72.f s0_0 bt429.2.1 bt429.2.2.1 bt429.2.2.2 9).bind fun bt436 => (if 0 ≤ bt436.1 then (if bt436.1 < (y433.length : Int) then (if 0 ≤ (wrap64 (bt436.1 + 1)) then (if (wrap64 (bt436.1 + 1)) < (y433.length : Int) then (if 0 ≤ (wrap64 (bt436.1 + 2)) then (if (wrap64 (bt436.1 + 2)) < (y433.length : Int) then (if 0 ≤ (wrap64 (bt436.1 + 3)) then (if (wrap64 (bt436.1 + 3)) < (y433.length : Int) then (F65.j0 k s0_0 bt436.2.1 bt436.2.2.1 bt436.2.2.2 (rd y433 bt436.1) (rd y433 (wrap64 (bt436.1 + 1))) (rd y433 (wrap64 (bt436.1 + 2))) (rd y433 (wrap64 (bt436.1 + 3)))) else (none)) else (none)) else (none)) else (none)) else (none)) else (none)) else (none)) else (none)))) else (F65.j0 k s0_0 bt429.2.1 bt429.2.2.1 bt429.2.2.2 bt424.1 bt424.2.1 bt424.2.2.1 bt424.2.2.2)))) = some (r1, r2, r3, r4, r5, r6, r7) := h
 clear h
 replace H := bi_ H; rcases H with ⟨⟨t424, t425, t426, t427⟩, A2, H⟩
 replace H := bi_ H; rcases H with ⟨⟨t429, t430, t431, t432⟩, A3, H⟩
 have HC4 := am_ H
 clear H
 go_enter Try.func65, Try.ntmps65
 go_upto_if 8 with (first | ((with_reducible refine gate_dst (N := 2) rfl ?_); refine be_ 2 #[.int .i64 0, .int .i64 0, .int .i64 0, .int .i64 0] 23 ?_; intro gb423 hg w5 hbox hb; replace HB := am_ (below_step au4_19 hb); have BK423 := am_ (hbox); have GW423 := am_ ((by rw [hg]; exact (keep_size (w := w) (g := g) (row := none) au4_6) : w.heap.size ≤ gb423)); have GE423 := am_ ((Nat.le_trans HW0.out (by rw [hg]; exact (keep_size (w := w) (g := g) (row := none) au4_6) : w.heap.size ≤ gb423) : w0.heap.size ≤ gb423)); replace HK := am_ (KeepBut.trans au4_6 (KeepBut.of_below hb g none) (.inl rfl)); have NB0_423 := am_ (gn_ hg (IsS121.lt (is4_0_ : IsS121 w0 _ g s0_0 s0_1 s0_2 s0_3))); have NB423_0 := am_ (gm_ hg (IsS121.lt (is4_0_ : IsS121 w0 _ g s0_0 s0_1 s0_2 s0_3))); replace HI0 := am_ (IsS121.below is4_0_ hb); clear hb hbox hg) | ((with_reducible refine gate_callee (f := 107) rfl ?_); refine gl_ 6 Try.func107 #[] ?_ rfl rfl rfl rfl; (with_reducible refine (F107.calls  t424 t425 t426 t427 _ A2.out).mono ?_); rintro e w6 ⟨rfl, hb⟩; refine ⟨_, rfl, ?_⟩; replace BK423 := bb_ BK423 hb; replace HK := am_ (KeepBut.trans au4_17 (KeepBut.of_below hb g none) (.inl rfl)); replace HB := am_ (below_step au4_22 hb); replace HI0 := am_ (IsS121.below is4_0_ hb); (try clear hb); (try clear hb2); (try clear hk); (try clear hi)) | ((with_reducible refine gate_dst (N := 3) rfl ?_); refine be_ 3 #[.int .i64 0, .int .i64 0, .int .i64 0, .int .i64 0] 23 ?_; intro gb428 hg w7 hbox hb; replace HB := am_ (below_step au4_22 hb); have BK428 := am_ (hbox); have GW428 := am_ ((by rw [hg]; exact (keep_size (w := w) (g := g) (row := none) au4_17) : w.heap.size ≤ gb428)); have GE428 := am_ ((Nat.le_trans HW0.out (by rw [hg]; exact (keep_size (w := w) (g := g) (row := none) au4_17) : w.heap.size ≤ gb428) : w0.heap.size ≤ gb428)); replace HK := am_ (KeepBut.trans au4_17 (KeepBut.of_below hb g none) (.inl rfl)); have NB423_428 := am_ (gn_ hg (blkl_ BK423)); have NB428_423 := am_ (gm_ hg (blkl_ BK423)); replace BK423 := bb_ BK423 hb; have NB0_428 := am_ (gn_ hg (IsS121.lt (is4_0_ : IsS121 w0 _ g s0_0 s0_1 s0_2 s0_3))); have NB428_0 := am_ (gm_ hg (IsS121.lt (is4_0_ : IsS121 w0 _ g s0_0 s0_1 s0_2 s0_3))); replace HI0 := am_ (IsS121.below is4_0_ hb); clear hb hbox hg; have hnb8 := NB428_423.out; have hnc8 := NB423_428.out; have hnb9 := NB428_0.out; have hnc9 := NB0_428.out; obtain ⟨hcz10_0, hcz10_1, hcz10_2, hcz10_3, hfz10_0, hfz10_1, hfz10_2, hfz10_3⟩ := cellsF4 BK428.out) | ((with_reducible refine gate_callee (f := 98) rfl ?_); refine gl_ 8 Try.func98 #[.pointer (some ⟨g, 0, none⟩), .int .i64 4] ?_ rfl rfl rfl rfl; (with_reducible refine (F98.calls g s0_0 s0_1 s0_2 s0_3 4 t429 t430 t431 t432 w0 _ ?s1 ?s2 A3.out).mono ?_); (case s1 => exact au4_3); (case s2 => exact au4_4); rintro e w11 ⟨rfl, hi, hb, hk⟩; refine ⟨_, rfl, ?_⟩; replace BK423 := ka_ hk BK423 NB423_0; replace BK428 := am_ (KeepBut.blk hk (g' := gb428) (o := .cells #[.int .i64 t424, .int .i64 t425, .int .i64 t426, .int .i64 t427] 23 (0, 0)) (bq_ BK428) NB428_0.out (by simp)); replace HK := am_ (KeepBut.trans au4_2 hk (.inl rfl)); replace HB := am_ (hb); replace HI0 := am_ (hi); (try clear hb); (try clear hb2); (try clear hk); (try clear hi)))
 (try simp only [Act.put, List.setIfInBounds_toArray, List.set_cons_zero, List.set_cons_succ])
 go_cut [] (fun wc => ∃ (kq : Nat) (x1001_3 : Int) (x1002_3 : Int) (x1003_3 : Int) (x429000_3 : Int) (x429001_3 : Int) (x429002_3 : Int) (x429003_3 : Int), Aside0 (F65.j0 kq s0_0 x1001_3 x1002_3 x1003_3 x429000_3 x429001_3 x429002_3 x429003_3 = some (r1, r2, r3, r4, r5, r6, r7)) ∧ Aside0 (kq ≤ k) ∧ Aside0 (wc.heap[gb423]? = some (.cells #[.int .i64 0, .int .i64 0, .int .i64 0, .int .i64 0] 23 (0, 0))) ∧ Aside0 (wc.heap[gb428]? = some (.cells #[.int .i64 x429000_3, .int .i64 x429001_3, .int .i64 x429002_3, .int .i64 x429003_3] 23 (0, 0))) ∧ Aside0 (IsS121 w0 wc g s0_0 x1001_3 x1002_3 x1003_3) ∧ Aside0 (KeepBut w wc g none) ∧ Aside0 (Below w0.heap.size w0 wc))
 case first =>
  have H := HC4.out
  clear HC4
  replace H := ib_ H; rcases H with ⟨rfl, H⟩ | ⟨rfl, H⟩
  rotate_left
  ·have H' := am_ H
   clear H
   go_wp2
   go_meet
   case rel => exact ⟨_, (t430), (t431), (t432), (t424), (t425), (t426), (t427), H', ⟨by first | omega | exact Nat.le_refl _⟩, ⟨bk_ BK423⟩, ⟨bk_ BK428⟩, ⟨is4_0_⟩, ⟨au4_12⟩, ⟨au4_9⟩⟩
  obtain ⟨y433, hy433⟩ : ∃ y_ : List Int, y_ = (([33, 35, 36, 37, 38, 42, 47, 61, 64, 94, 124, 126] : List Int)) := ⟨_, rfl⟩
  replace H : ((F72.f s0_0 t430 t431 t432 9).bind fun bt436 => (if 0 ≤ bt436.1 then (if bt436.1 < (y433.length : Int) then (if 0 ≤ (wrap64 (bt436.1 + 1)) then (if (wrap64 (bt436.1 + 1)) < (y433.length : Int) then (if 0 ≤ (wrap64 (bt436.1 + 2)) then (if (wrap64 (bt436.1 + 2)) < (y433.length : Int) then (if 0 ≤ (wrap64 (bt436.1 + 3)) then (if (wrap64 (bt436.1 + 3)) < (y433.length : Int) then (F65.j0 k s0_0 bt436.2.1 bt436.2.2.1 bt436.2.2.2 (rd y433 bt436.1) (rd y433 (wrap64 (bt436.1 + 1))) (rd y433 (wrap64 (bt436.1 + 2))) (rd y433 (wrap64 (bt436.1 + 3)))) else (none)) else (none)) else (none)) else (none)) else (none)) else (none)) else (none)) else (none))) = some (r1, r2, r3, r4, r5, r6, r7) := by first | (rw [hy433]; exact H) | exact H
  have Ny433 := am_ hy433
  clear hy433
  replace H := bi_ H; rcases H with ⟨⟨t436, t437, t438, t439⟩, A13, H⟩
  replace H := itn_ H; rcases H with ⟨c14b0, H⟩
  (first | rw [c14b0] | (simp only [i64_w, i32_w]; rw [c14b0]) | skip)
  replace H := itn_ H; rcases H with ⟨c15b0, H⟩
  obtain ⟨ji16, hji16⟩ : ∃ j_ : Int, (wrap64 (t436 + 1)) = j_ := ⟨_, rfl⟩
  replace H : (if 0 ≤ (ji16) then (if (ji16) < (y433.length : Int) then (if 0 ≤ (wrap64 (t436 + 2)) then (if (wrap64 (t436 + 2)) < (y433.length : Int) then (if 0 ≤ (wrap64 (t436 + 3)) then (if (wrap64 (t436 + 3)) < (y433.length : Int) then (F65.j0 k s0_0 t437 t438 t439 (rd y433 t436) (rd y433 (ji16)) (rd y433 (wrap64 (t436 + 2))) (rd y433 (wrap64 (t436 + 3)))) else (none)) else (none)) else (none)) else (none)) else (none)) else (none)) = some (r1, r2, r3, r4, r5, r6, r7) := by first | (rw [hji16] at H; exact H) | (simp only [hji16] at H ⊢; exact H)
  (try rw [hji16] at A13)
  have hji16w : (IntKind.i64.wrap (t436 + 1)) = ji16 := (i64_w _).trans hji16
  replace H := itn_ H; rcases H with ⟨c17b0, H⟩
  replace H := itn_ H; rcases H with ⟨c18b0, H⟩
  obtain ⟨ji19, hji19⟩ : ∃ j_ : Int, (wrap64 (t436 + 2)) = j_ := ⟨_, rfl⟩
  replace H : (if 0 ≤ (ji19) then (if (ji19) < (y433.length : Int) then (if 0 ≤ (wrap64 (t436 + 3)) then (if (wrap64 (t436 + 3)) < (y433.length : Int) then (F65.j0 k s0_0 t437 t438 t439 (rd y433 t436) (rd y433 (ji16)) (rd y433 (ji19)) (rd y433 (wrap64 (t436 + 3)))) else (none)) else (none)) else (none)) else (none)) = some (r1, r2, r3, r4, r5, r6, r7) := by first | (rw [hji19] at H; exact H) | (simp only [hji19] at H ⊢; exact H)
  (try rw [hji19] at A13)
  have hji19w : (IntKind.i64.wrap (t436 + 2)) = ji19 := (i64_w _).trans hji19
  replace H := itn_ H; rcases H with ⟨c20b0, H⟩
  replace H := itn_ H; rcases H with ⟨c21b0, H⟩
  obtain ⟨ji22, hji22⟩ : ∃ j_ : Int, (wrap64 (t436 + 3)) = j_ := ⟨_, rfl⟩
  replace H : (if 0 ≤ (ji22) then (if (ji22) < (y433.length : Int) then (F65.j0 k s0_0 t437 t438 t439 (rd y433 t436) (rd y433 (ji16)) (rd y433 (ji19)) (rd y433 (ji22))) else (none)) else (none)) = some (r1, r2, r3, r4, r5, r6, r7) := by first | (rw [hji22] at H; exact H) | (simp only [hji22] at H ⊢; exact H)
  (try rw [hji22] at A13)
  have hji22w : (IntKind.i64.wrap (t436 + 3)) = ji22 := (i64_w _).trans hji22
  replace H := itn_ H; rcases H with ⟨c23b0, H⟩
  replace H := itn_ H; rcases H with ⟨c24b0, H⟩
  have H' := am_ H
  clear H
  try go_wp2_with (first | ((with_reducible refine gate_dst (N := 9) rfl ?_); refine Kd.R_lit (Kd.int .i64) _ 2 ?hg (N := 9) ?hd (xs := ([33, 35, 36, 37, 38, 42, 47, 61, 64, 94, 124, 126] : List Int)) (inner := [.int .i64 33, .int .i64 35, .int .i64 36, .int .i64 37, .int .i64 38, .int .i64 42, .int .i64 47, .int .i64 61, .int .i64 64, .int .i64 94, .int .i64 124, .int .i64 126]) (ok := fun _ => True) (okp := fun _ => True) ?hr ?hp (fun _ hk => hk) trivial (Below.refl _ _) (Nat.le_refl _) (by simp) ?_; (case hd => rfl); (case hg => rfl); (case hr => exact hr_); (case hp => exact (Reps.one (show Kd.M (Kd.int .i64) _ _ _ 33 [.int .i64 33] from rfl) (Reps.one (show Kd.M (Kd.int .i64) _ _ _ 35 [.int .i64 35] from rfl) (Reps.one (show Kd.M (Kd.int .i64) _ _ _ 36 [.int .i64 36] from rfl) (Reps.one (show Kd.M (Kd.int .i64) _ _ _ 37 [.int .i64 37] from rfl) (Reps.one (show Kd.M (Kd.int .i64) _ _ _ 38 [.int .i64 38] from rfl) (Reps.one (show Kd.M (Kd.int .i64) _ _ _ 42 [.int .i64 42] from rfl) (Reps.one (show Kd.M (Kd.int .i64) _ _ _ 47 [.int .i64 47] from rfl) (Reps.one (show Kd.M (Kd.int .i64) _ _ _ 61 [.int .i64 61] from rfl) (Reps.one (show Kd.M (Kd.int .i64) _ _ _ 64 [.int .i64 64] from rfl) (Reps.one (show Kd.M (Kd.int .i64) _ _ _ 94 [.int .i64 94] from rfl) (Reps.one (show Kd.M (Kd.int .i64) _ _ _ 124 [.int .i64 124] from rfl) (Reps.one (show Kd.M (Kd.int .i64) _ _ _ 126 [.int .i64 126] from rfl) (Reps.none _ _)))))))))))))); intro v434 w25 ho26 hb hg_ hnew_; clear hg_ hnew_; (first | rw [← Ny433.out] at ho26 | (simp only [Int.reduceToNat] at ho26; rw [← Ny433.out] at ho26)); have HO435 := am_ (Kd.R_lower ho26 (keep_size (w := w) (g := g) (row := none) au4_2)); replace BK423 := bb_ BK423 hb; replace BK428 := bb_ BK428 hb; replace HK := am_ (KeepBut.trans au4_2 (KeepBut.of_below hb g none) (.inl rfl)); replace HB := am_ (below_step au4_21 hb); replace HI0 := am_ (IsS121.below is4_0_ hb); clear hb ho26) | ((with_reducible refine gate_callee (f := 72) rfl ?_); refine gl_ 11 Try.func72 #[.pointer (some ⟨g, 0, none⟩), .int .i64 9] ?_ rfl rfl rfl rfl; (with_reducible refine (F72.calls g s0_0 t430 t431 t432 9 t436 t437 t438 t439 w0 _ ?s1 ?s2 A13.out).mono ?_); (case s1 => exact au4_3); (case s2 => exact au4_4); rintro e w27 ⟨rfl, hi, hb, hk⟩; refine ⟨_, rfl, ?_⟩; replace BK423 := ka_ hk BK423 NB423_0; replace BK428 := ka_ hk BK428 NB428_0; replace HO435 := am_ (Kd.R_mono (Kd.R_keep (IsS121.apart (is4_0_ : IsS121 w0 _ g s0_0 t430 t431 t432) (rk_ HO435) (by decide)) hk (fun _ h => h.2)) (fun _ h => h.1)); replace HK := am_ (KeepBut.trans au4_2 hk (.inl rfl)); replace HB := am_ (hb); replace HI0 := am_ (hi); (try clear hb); (try clear hb2); (try clear hk); (try clear hi)))
  replace HO435 := am_ (Kd.R_drew HO435.out)
  replace BK423 := bd_ BK423
  replace BK428 := bd_ BK428
  replace HI0 := am_ (IsS121.drew HI0.out)
  replace HK := am_ (keep_drew HK.out)
  replace HB := am_ (below_drew1 HB.out)
  obtain ⟨Ao29, co29, eo29⟩ := Kd.R_slice HO435.out
  (first | subst eo29 | (injection eo29 with f1_ f2_ f3_; have f4_ := f1_.symm; have f5_ := f3_.symm; clear f1_ f2_ f3_; subst f4_; subst f5_))
  have p440 : 0 ≤ (t436 : Int) := od_
  have q440 : t436 < (y433.length : Int) := od_
  obtain ⟨ad440, e440, hx440_0⟩ := Kd.at_int (Kd.R_reads' HO435.out).2.2 t436 p440 q440
  cases e440
  replace p440 := eq_true p440
  replace q440 := eq_true q440
  have p441 : 0 ≤ ((ji16) : Int) := od_
  have q441 : (ji16) < (y433.length : Int) := od_
  obtain ⟨ad441, e441, hx441_0⟩ := Kd.at_int (Kd.R_reads' HO435.out).2.2 (ji16) p441 q441
  obtain rfl : ad440 = ad441 := (by injection e441)
  replace p441 := eq_true p441
  replace q441 := eq_true q441
  have p442 : 0 ≤ ((ji19) : Int) := od_
  have q442 : (ji19) < (y433.length : Int) := od_
  obtain ⟨ad442, e442, hx442_0⟩ := Kd.at_int (Kd.R_reads' HO435.out).2.2 (ji19) p442 q442
  obtain rfl : ad440 = ad442 := (by injection e442)
  replace p442 := eq_true p442
  replace q442 := eq_true q442
  have p443 : 0 ≤ ((ji22) : Int) := od_
  have q443 : (ji22) < (y433.length : Int) := od_
  obtain ⟨ad443, e443, hx443_0⟩ := Kd.at_int (Kd.R_reads' HO435.out).2.2 (ji22) p443 q443
  obtain rfl : ad440 = ad443 := (by injection e443)
  replace p443 := eq_true p443
  replace q443 := eq_true q443
  refine start_ (n := 21) (S := fun w' => w'.cell? (ad440.add (t436).toNat) = some (.int .i64 (rd y433 t436)) ∧ w'.cell? (ad440.add ((ji16)).toNat) = some (.int .i64 (rd y433 (ji16))) ∧ w'.cell? (ad440.add ((ji19)).toNat) = some (.int .i64 (rd y433 (ji19))) ∧ w'.cell? (ad440.add ((ji22)).toNat) = some (.int .i64 (rd y433 (ji22)))) (ds := []) (bs 21 0) (by kernel_rfl) rfl rfl ⟨hx440_0, hx441_0, hx442_0, hx443_0⟩ (fun hHeld => ?_); refine with_tabW F65.tab5 F65.bits5 (fun HT_ HW_ => ?_)
  generalize w27.drew = w28 at HO435 BK423 BK428 HI0 HK HB hx440_0 hx441_0 hx442_0 hx443_0 hHeld ⊢
  refine pu_ 0 12 (bs 21 1) HT_ ?_ rfl rfl
  refine pu_ 1 13 (bs 21 3) HT_ ?_ rfl rfl
  refine pu_ 2 14 (bs 21 7) HT_ ?_ rfl rfl
  refine pu_ 4 16 (bs 21 23) HT_ ?_ rfl rfl
  refine pu_ 5 17 (bs 21 55) HT_ ?_ rfl rfl
  refine pu_ 6 18 (bs 21 119) HT_ ?_ rfl rfl
  refine pu_ 7 19 (bs 21 247) HT_ ?_ rfl rfl
  refine pu_ 9 21 (bs 21 759) HT_ ?_ rfl rfl
  refine pu_ 10 22 (bs 21 1783) HT_ ?_ rfl rfl
  refine pu_ 11 23 (bs 21 3831) HT_ ?_ rfl rfl
  refine pu_ 12 24 (bs 21 7927) HT_ ?_ rfl rfl
  refine pu_ 14 26 (bs 21 24311) HT_ ?_ rfl rfl
  refine pu_ 15 27 (bs 21 57079) HT_ ?_ rfl rfl
  refine pu_ 16 28 (bs 21 122615) HT_ ?_ rfl rfl
  refine pu_ 17 29 (bs 21 253687) HT_ ?_ rfl rfl
  refine tk_ 3 15 (bs 21 253695) HT_ HW_ hHeld au4_16 ?_ rfl rfl
  refine tk_ 8 20 (bs 21 253951) HT_ HW_ hHeld au4_16 ?_ rfl rfl
  refine tk_ 13 25 (bs 21 262143) HT_ HW_ hHeld au4_16 ?_ rfl rfl
  refine tk_ 18 30 (bs 21 524287) HT_ HW_ hHeld au4_16 ?_ rfl rfl
  refine pu_ 19 31 (bs 21 1048575) HT_ ?_ rfl rfl
  refine one_ (i := 20) (N := none) (bs 21 2097151) rfl rfl (one_of HT_.out (by kernel_rfl)) (by decide) (fun K hK => ?_)
  have hs30 : w28.cell? ⟨gb428, 0, none⟩ = some (.int .i64 t424) := (blk_cell BK428.out 0).trans rfl
  have hfs30 := blk_frozen BK428.out 0
  have hns30_0 := NB423_428.out
  have hms30_0 := NB428_423.out
  have hs31 : w28.cell? ⟨gb428, 1, none⟩ = some (.int .i64 t425) := (blk_cell BK428.out 1).trans rfl
  have hfs31 := blk_frozen BK428.out 1
  have hns31_0 := NB423_428.out
  have hms31_0 := NB428_423.out
  have hs32 : w28.cell? ⟨gb428, 2, none⟩ = some (.int .i64 t426) := (blk_cell BK428.out 2).trans rfl
  have hfs32 := blk_frozen BK428.out 2
  have hns32_0 := NB423_428.out
  have hms32_0 := NB428_423.out
  have hs33 : w28.cell? ⟨gb428, 3, none⟩ = some (.int .i64 t427) := (blk_cell BK428.out 3).trans rfl
  have hfs33 := blk_frozen BK428.out 3
  have hns33_0 := NB423_428.out
  have hms33_0 := NB428_423.out
  refine skip_ (w1 := ?_) (by rfl) rfl ?_ ?_
  rotate_left
  ·go_simp
   rfl
  refine hK.out _ _ ⟨((cell_far (p := ⟨gb428, _, none⟩) au4_0 _).trans (((cell_far (p := ⟨gb428, _, none⟩) au4_0 _).trans (((cell_far (p := ⟨gb428, _, none⟩) au4_0 _).trans (((cell_far (p := ⟨gb428, _, none⟩) au4_0 _).trans (hHeld.1)))))))), ((cell_far (p := ⟨gb428, _, none⟩) au4_0 _).trans (((cell_far (p := ⟨gb428, _, none⟩) au4_0 _).trans (((cell_far (p := ⟨gb428, _, none⟩) au4_0 _).trans (((cell_far (p := ⟨gb428, _, none⟩) au4_0 _).trans (hHeld.2.1)))))))), ((cell_far (p := ⟨gb428, _, none⟩) au4_0 _).trans (((cell_far (p := ⟨gb428, _, none⟩) au4_0 _).trans (((cell_far (p := ⟨gb428, _, none⟩) au4_0 _).trans (((cell_far (p := ⟨gb428, _, none⟩) au4_0 _).trans (hHeld.2.2.1)))))))), ((cell_far (p := ⟨gb428, _, none⟩) au4_0 _).trans (((cell_far (p := ⟨gb428, _, none⟩) au4_0 _).trans (((cell_far (p := ⟨gb428, _, none⟩) au4_0 _).trans (((cell_far (p := ⟨gb428, _, none⟩) au4_0 _).trans (hHeld.2.2.2))))))))⟩ (fun hHeld => ?_)
  clear hK K
  refine done_ (done_of HT_.out (by kernel_rfl)) ?_
  try go_wp2
  go_meet
  case rel => exact ⟨_, (t437), (t438), (t439), (rd y433 t436), (rd y433 (ji16)), (rd y433 (ji19)), (rd y433 (ji22)), H', ⟨by first | omega | exact Nat.le_refl _⟩, ⟨bf_ BK423⟩, ⟨bq_ BK428⟩, ⟨is4_0_⟩, ⟨au4_12⟩, ⟨au4_9⟩⟩
 case rest =>
  clear HC4
  try clear c14b0
  try clear c15b0
  try clear c17b0
  try clear c18b0
  try clear c20b0
  try clear c21b0
  try clear c23b0
  try clear c24b0
  try clear hcz10_0 hcz10_1 hcz10_2 hcz10_3
  try clear hfz10_0 hfz10_1 hfz10_2 hfz10_3
  try clear hx440_0
  try clear hx441_0
  try clear hx442_0
  try clear hx443_0
  try clear p440
  try clear p441
  try clear p442
  try clear p443
  try clear q440
  try clear q441
  try clear q442
  try clear q443
  obtain ⟨kq, x1001_3, x1002_3, x1003_3, x429000_3, x429001_3, x429002_3, x429003_3, HA, HJ3, BK423, BK428, HI0, HK, HB⟩ := hcut
  cases kq with
  | zero => exact absurd HA.out (by simp [F65.j0])
  | succ kj3 =>
   have H := HA.out
   clear HA
   simp only [F65.j0] at H
   replace H := bi_ H; rcases H with ⟨⟨t444, t445, t446, t447⟩, A34, H⟩
   replace H := ib_ H; rcases H with ⟨rfl, H⟩ | ⟨rfl, H⟩
   rotate_left
   ·simp only [Option.some.injEq, Prod.mk.injEq] at H
    obtain ⟨rfl, rfl, rfl, rfl, rfl, rfl, rfl⟩ := H
    go_wp2_with (first | ((with_reducible refine gate_callee (f := 98) rfl ?_); refine gl_ 33 Try.func98 #[.pointer (some ⟨g, 0, none⟩), .int .i64 30] ?_ rfl rfl rfl rfl; (with_reducible refine (F98.calls g s0_0 x1001_3 x1002_3 x1003_3 30 false t445 t446 t447 w0 _ ?s1 ?s2 A34.out).mono ?_); (case s1 => exact au4_3); (case s2 => exact au4_4); rintro e w69 ⟨rfl, hi, hb, hk⟩; refine ⟨_, rfl, ?_⟩; replace BK423 := ka_ hk BK423 NB423_0; replace BK428 := ka_ hk BK428 NB428_0; replace HK := am_ (KeepBut.trans au4_2 hk (.inl rfl)); replace HB := am_ (hb); replace HI0 := am_ (hi); (try clear hb); (try clear hb2); (try clear hk); (try clear hi); have hnb70 := NB428_423.out; have hnc70 := NB423_428.out; have hnb71 := NB428_0.out; have hnc71 := NB0_428.out; obtain ⟨hcz72_0, hcz72_1, hcz72_2, hcz72_3, hfz72_0, hfz72_1, hfz72_2, hfz72_3⟩ := cellsF4 BK428.out; have hnb73 := NB423_0.out; have hnc73 := NB0_423.out; obtain ⟨hcz74_0, hcz74_1, hcz74_2, hcz74_3, hfz74_0, hfz74_1, hfz74_2, hfz74_3⟩ := cellsF4 BK423.out))
    refine bodyPost_ret (results_cell_row rfl _ _ gb423 23 #[.int .i64 x429000_3, .int .i64 x429001_3, .int .i64 x429002_3, .int .i64 x429003_3] (0, 0) _ rfl (bq_ BK423) Try.underlying23 rfl (by kernel_rfl)) rfl ?_
    exact ⟨au4_15, is4_0_, au4_9, au4_12⟩

   replace H := bi_ H; rcases H with ⟨⟨t448, t449, t450, t451⟩, A36, H⟩
   by_cases c37 : t448 = 0
   ·rw [if_pos c37] at H
    have c37b0 : (t448 == 0) = true := beq_iff_eq.mpr c37
    have c37b1 : (t448 != 0) = false := bne_eq_false_iff_eq.mpr c37
    clear c37
    simp only [Option.some.injEq, Prod.mk.injEq] at H
    obtain ⟨rfl, rfl, rfl, rfl, rfl, rfl, rfl⟩ := H
    go_wp2_with (first | ((with_reducible refine gate_callee (f := 98) rfl ?_); refine gl_ 33 Try.func98 #[.pointer (some ⟨g, 0, none⟩), .int .i64 30] ?_ rfl rfl rfl rfl; (with_reducible refine (F98.calls g s0_0 x1001_3 x1002_3 x1003_3 30 true t445 t446 t447 w0 _ ?s1 ?s2 A34.out).mono ?_); (case s1 => exact au4_3); (case s2 => exact au4_4); rintro e w38 ⟨rfl, hi, hb, hk⟩; refine ⟨_, rfl, ?_⟩; replace BK423 := ka_ hk BK423 NB423_0; replace BK428 := ka_ hk BK428 NB428_0; replace HK := am_ (KeepBut.trans au4_2 hk (.inl rfl)); replace HB := am_ (hb); replace HI0 := am_ (hi); (try clear hb); (try clear hb2); (try clear hk); (try clear hi)) | ((with_reducible refine gate_callee (f := 72) rfl ?_); refine gl_ 35 Try.func72 #[.pointer (some ⟨g, 0, none⟩), .int .i64 3] ?_ rfl rfl rfl rfl; (with_reducible refine (F72.calls g s0_0 t445 t446 t447 3 t448 t449 t450 t451 w0 _ ?s1 ?s2 A36.out).mono ?_); (case s1 => exact au4_3); (case s2 => exact au4_4); rintro e w39 ⟨rfl, hi, hb, hk⟩; refine ⟨_, rfl, ?_⟩; replace BK423 := ka_ hk BK423 NB423_0; replace BK428 := ka_ hk BK428 NB428_0; replace HK := am_ (KeepBut.trans au4_2 hk (.inl rfl)); replace HB := am_ (hb); replace HI0 := am_ (hi); (try clear hb); (try clear hb2); (try clear hk); (try clear hi); have hnb40 := NB428_423.out; have hnc40 := NB423_428.out; have hnb41 := NB428_0.out; have hnc41 := NB0_428.out; obtain ⟨hcz42_0, hcz42_1, hcz42_2, hcz42_3, hfz42_0, hfz42_1, hfz42_2, hfz42_3⟩ := cellsF4 BK428.out; have hnb43 := NB423_0.out; have hnc43 := NB0_423.out; obtain ⟨hcz44_0, hcz44_1, hcz44_2, hcz44_3, hfz44_0, hfz44_1, hfz44_2, hfz44_3⟩ := cellsF4 BK423.out))
    refine bodyPost_ret (results_cell_row rfl _ _ gb423 23 #[.int .i64 x429000_3, .int .i64 x429001_3, .int .i64 x429002_3, .int .i64 x429001_3] (0, 0) _ rfl (bq_ BK423) Try.underlying23 rfl (by kernel_rfl)) rfl ?_
    exact ⟨au4_15, is4_0_, au4_9, au4_12⟩
   rw [if_neg c37] at H
   have c37b0 : (t448 == 0) = false := beq_eq_false_iff_ne.mpr c37
   have c37b1 : (t448 != 0) = true := bne_iff_ne.mpr c37
   by_cases c45 : t448 = 1
   rotate_left
   ·rw [if_neg c45] at H
    have c45b0 : (t448 == 1) = false := beq_eq_false_iff_ne.mpr c45
    have c45b1 : (t448 != 1) = true := bne_iff_ne.mpr c45
    replace H := bi_ H; rcases H with ⟨⟨t460, t461, t462, t463⟩, A60, H⟩
    simp only [Option.some.injEq, Prod.mk.injEq] at H
    obtain ⟨rfl, rfl, rfl, rfl, rfl, rfl, rfl⟩ := H
    go_wp2_with (first | ((with_reducible refine gate_callee (f := 98) rfl ?_); refine gl_ 33 Try.func98 #[.pointer (some ⟨g, 0, none⟩), .int .i64 30] ?_ rfl rfl rfl rfl; (with_reducible refine (F98.calls g s0_0 x1001_3 x1002_3 x1003_3 30 true t445 t446 t447 w0 _ ?s1 ?s2 A34.out).mono ?_); (case s1 => exact au4_3); (case s2 => exact au4_4); rintro e w61 ⟨rfl, hi, hb, hk⟩; refine ⟨_, rfl, ?_⟩; replace BK423 := ka_ hk BK423 NB423_0; replace BK428 := ka_ hk BK428 NB428_0; replace HK := am_ (KeepBut.trans au4_2 hk (.inl rfl)); replace HB := am_ (hb); replace HI0 := am_ (hi); (try clear hb); (try clear hb2); (try clear hk); (try clear hi)) | ((with_reducible refine gate_callee (f := 72) rfl ?_); refine gl_ 35 Try.func72 #[.pointer (some ⟨g, 0, none⟩), .int .i64 3] ?_ rfl rfl rfl rfl; (with_reducible refine (F72.calls g s0_0 t445 t446 t447 3 t448 t449 t450 t451 w0 _ ?s1 ?s2 A36.out).mono ?_); (case s1 => exact au4_3); (case s2 => exact au4_4); rintro e w62 ⟨rfl, hi, hb, hk⟩; refine ⟨_, rfl, ?_⟩; replace BK423 := ka_ hk BK423 NB423_0; replace BK428 := ka_ hk BK428 NB428_0; replace HK := am_ (KeepBut.trans au4_2 hk (.inl rfl)); replace HB := am_ (hb); replace HI0 := am_ (hi); (try clear hb); (try clear hb2); (try clear hk); (try clear hi)) | ((with_reducible refine gate_callee (f := 108) rfl ?_); refine gl_ 37 Try.func108 #[.pointer (some ⟨g, 0, none⟩)] ?_ rfl rfl rfl rfl; (with_reducible refine (F108.calls g s0_0 t449 t450 t451 t460 t461 t462 t463 w0 _ ?s1 ?s2 A60.out).mono ?_); (case s1 => exact au4_3); (case s2 => exact au4_4); rintro e w63 ⟨rfl, hi, hb, hk⟩; refine ⟨_, rfl, ?_⟩; replace BK423 := ka_ hk BK423 NB423_0; replace BK428 := ka_ hk BK428 NB428_0; replace HK := am_ (KeepBut.trans au4_2 hk (.inl rfl)); replace HB := am_ (hb); replace HI0 := am_ (hi); (try clear hb); (try clear hb2); (try clear hk); (try clear hi); have hnb64 := NB428_423.out; have hnc64 := NB423_428.out; have hnb65 := NB428_0.out; have hnc65 := NB0_428.out; obtain ⟨hcz66_0, hcz66_1, hcz66_2, hcz66_3, hfz66_0, hfz66_1, hfz66_2, hfz66_3⟩ := cellsF4 BK428.out; have hnb67 := NB423_0.out; have hnc67 := NB0_423.out; obtain ⟨hcz68_0, hcz68_1, hcz68_2, hcz68_3, hfz68_0, hfz68_1, hfz68_2, hfz68_3⟩ := cellsF4 BK423.out))
    refine bodyPost_ret (results_cell_row rfl _ _ gb423 23 #[.int .i64 t460, .int .i64 x429001_3, .int .i64 x429002_3, .int .i64 x429003_3] (0, 0) _ rfl (bq_ BK423) Try.underlying23 rfl (by kernel_rfl)) rfl ?_
    exact ⟨au4_15, is4_0_, au4_9, au4_12⟩
   rw [if_pos c45] at H
   have c45b0 : (t448 == 1) = true := beq_iff_eq.mpr c45
   have c45b1 : (t448 != 1) = false := bne_eq_false_iff_eq.mpr c45
   clear c45
   obtain ⟨y452, hy452⟩ : ∃ y_ : List Int, y_ = (([32, 127, 65, 48, 45, 300] : List Int)) := ⟨_, rfl⟩
   replace H : ((F72.f s0_0 t449 t450 t451 6).bind fun bt455 => (if 0 ≤ bt455.1 then (if bt455.1 < (y452.length : Int) then (some (x429000_3, x429001_3, rd y452 bt455.1, x429003_3, bt455.2.1, bt455.2.2.1, bt455.2.2.2)) else (none)) else (none))) = some (r1, r2, r3, r4, r5, r6, r7) := by first | (rw [hy452]; exact H) | exact H
   have Ny452 := am_ hy452
   clear hy452
   replace H := bi_ H; rcases H with ⟨⟨t455, t456, t457, t458⟩, A46, H⟩
   replace H := itn_ H; rcases H with ⟨c47b0, H⟩
   replace H := itn_ H; rcases H with ⟨c48b0, H⟩
   simp only [Option.some.injEq, Prod.mk.injEq] at H
   obtain ⟨rfl, rfl, rfl, rfl, rfl, rfl, rfl⟩ := H
   go_wp2_with (first | ((with_reducible refine gate_callee (f := 98) rfl ?_); refine gl_ 33 Try.func98 #[.pointer (some ⟨g, 0, none⟩), .int .i64 30] ?_ rfl rfl rfl rfl; (with_reducible refine (F98.calls g s0_0 x1001_3 x1002_3 x1003_3 30 true t445 t446 t447 w0 _ ?s1 ?s2 A34.out).mono ?_); (case s1 => exact au4_3); (case s2 => exact au4_4); rintro e w49 ⟨rfl, hi, hb, hk⟩; refine ⟨_, rfl, ?_⟩; replace BK423 := ka_ hk BK423 NB423_0; replace BK428 := ka_ hk BK428 NB428_0; replace HK := am_ (KeepBut.trans au4_2 hk (.inl rfl)); replace HB := am_ (hb); replace HI0 := am_ (hi); (try clear hb); (try clear hb2); (try clear hk); (try clear hi)) | ((with_reducible refine gate_callee (f := 72) rfl ?_); refine gl_ 35 Try.func72 #[.pointer (some ⟨g, 0, none⟩), .int .i64 3] ?_ rfl rfl rfl rfl; (with_reducible refine (F72.calls g s0_0 t445 t446 t447 3 t448 t449 t450 t451 w0 _ ?s1 ?s2 A36.out).mono ?_); (case s1 => exact au4_3); (case s2 => exact au4_4); rintro e w50 ⟨rfl, hi, hb, hk⟩; refine ⟨_, rfl, ?_⟩; replace BK423 := ka_ hk BK423 NB423_0; replace BK428 := ka_ hk BK428 NB428_0; replace HK := am_ (KeepBut.trans au4_2 hk (.inl rfl)); replace HB := am_ (hb); replace HI0 := am_ (hi); (try clear hb); (try clear hb2); (try clear hk); (try clear hi)) | ((with_reducible refine gate_dst (N := 46) rfl ?_); refine Kd.R_lit (Kd.int .i64) _ 2 ?hg (N := 46) ?hd (xs := ([32, 127, 65, 48, 45, 300] : List Int)) (inner := [.int .i64 32, .int .i64 127, .int .i64 65, .int .i64 48, .int .i64 45, .int .i64 300]) (ok := fun _ => True) (okp := fun _ => True) ?hr ?hp (fun _ hk => hk) trivial (Below.refl _ _) (Nat.le_refl _) (by simp) ?_; (case hd => rfl); (case hg => rfl); (case hr => exact hr_); (case hp => exact (Reps.one (show Kd.M (Kd.int .i64) _ _ _ 32 [.int .i64 32] from rfl) (Reps.one (show Kd.M (Kd.int .i64) _ _ _ 127 [.int .i64 127] from rfl) (Reps.one (show Kd.M (Kd.int .i64) _ _ _ 65 [.int .i64 65] from rfl) (Reps.one (show Kd.M (Kd.int .i64) _ _ _ 48 [.int .i64 48] from rfl) (Reps.one (show Kd.M (Kd.int .i64) _ _ _ 45 [.int .i64 45] from rfl) (Reps.one (show Kd.M (Kd.int .i64) _ _ _ 300 [.int .i64 300] from rfl) (Reps.none _ _)))))))); intro v453 w51 ho52 hb hg_ hnew_; clear hg_ hnew_; (first | rw [← Ny452.out] at ho52 | (simp only [Int.reduceToNat] at ho52; rw [← Ny452.out] at ho52)); have HO454 := am_ (Kd.R_lower ho52 (keep_size (w := w) (g := g) (row := none) au4_2)); replace BK423 := bb_ BK423 hb; replace BK428 := bb_ BK428 hb; replace HK := am_ (KeepBut.trans au4_2 (KeepBut.of_below hb g none) (.inl rfl)); replace HB := am_ (below_step au4_21 hb); replace HI0 := am_ (IsS121.below is4_0_ hb); clear hb ho52) | ((with_reducible refine gate_callee (f := 72) rfl ?_); refine gl_ 48 Try.func72 #[.pointer (some ⟨g, 0, none⟩), .int .i64 6] ?_ rfl rfl rfl rfl; (with_reducible refine (F72.calls g s0_0 t449 t450 t451 6 t455 t456 t457 t458 w0 _ ?s1 ?s2 A46.out).mono ?_); (case s1 => exact au4_3); (case s2 => exact au4_4); rintro e w53 ⟨rfl, hi, hb, hk⟩; refine ⟨_, rfl, ?_⟩; replace BK423 := ka_ hk BK423 NB423_0; replace BK428 := ka_ hk BK428 NB428_0; replace HO454 := am_ (Kd.R_mono (Kd.R_keep (IsS121.apart (is4_0_ : IsS121 w0 _ g s0_0 t449 t450 t451) (rk_ HO454) (by decide)) hk (fun _ h => h.2)) (fun _ h => h.1)); replace HK := am_ (KeepBut.trans au4_2 hk (.inl rfl)); replace HB := am_ (hb); replace HI0 := am_ (hi); (try clear hb); (try clear hb2); (try clear hk); (try clear hi); obtain ⟨Ao54, co54, eo54⟩ := Kd.R_slice HO454.out; subst eo54; have p459 : 0 ≤ (t455 : Int) := od_; have q459 : t455 < (y452.length : Int) := od_; obtain ⟨ad459, e459, hx459_0⟩ := Kd.at_int (Kd.R_reads' HO454.out).2.2 t455 p459 q459; cases e459; replace p459 := eq_true p459; replace q459 := eq_true q459; have hnb55 := NB428_423.out; have hnc55 := NB423_428.out; have hnb56 := NB428_0.out; have hnc56 := NB0_428.out; obtain ⟨hcz57_0, hcz57_1, hcz57_2, hcz57_3, hfz57_0, hfz57_1, hfz57_2, hfz57_3⟩ := cellsF4 BK428.out; have hnb58 := NB423_0.out; have hnc58 := NB0_423.out; obtain ⟨hcz59_0, hcz59_1, hcz59_2, hcz59_3, hfz59_0, hfz59_1, hfz59_2, hfz59_3⟩ := cellsF4 BK423.out))
   refine bodyPost_ret (results_cell_row rfl _ _ gb423 23 #[.int .i64 x429000_3, .int .i64 x429001_3, .int .i64 (rd y452 t455), .int .i64 x429003_3] (0, 0) _ rfl (bq_ BK423) Try.underlying23 rfl (by kernel_rfl)) rfl ?_
   exact ⟨au4_15, is4_0_, au4_9, au4_12⟩
/-! ### F71: function 71 -/
def F71.l0 : Nat → Int → List Int → List Int → Int → Int → Int → Int → Int → Int → Int → Option (ByteArray × Int × Int × Int)
  | 0, _, _, _, _, _, _, _, _, _, _ => none
  | k + 1, x2, x7, x1000, x1001, x1002, x1003, x465000, x465001, x465002, x465003 => if x2 > 0 then ((F72.f x1000 x1001 x1002 x1003 6).bind fun bt468 => (if bt468.1 = 0 then (if x7.length < 140737488355328 then (F71.l0 k (wrap64 (x2 - 1)) (x7 ++ [(x465000) % 256]) x1000 bt468.2.1 bt468.2.2.1 bt468.2.2.2 x465000 x465001 x465002 x465003) else (none)) else (if bt468.1 = 1 then (if x7.length < 140737488355328 then (F71.l0 k (wrap64 (x2 - 1)) (x7 ++ [(x465001) % 256]) x1000 bt468.2.1 bt468.2.2.1 bt468.2.2.2 x465000 x465001 x465002 x465003) else (none)) else (if bt468.1 = 2 then (if x7.length < 140737488355328 then (F71.l0 k (wrap64 (x2 - 1)) (x7 ++ [(x465002) % 256]) x1000 bt468.2.1 bt468.2.2.1 bt468.2.2.2 x465000 x465001 x465002 x465003) else (none)) else (if bt468.1 = 3 then (if x7.length < 140737488355328 then (F71.l0 k (wrap64 (x2 - 1)) (x7 ++ [(x465003) % 256]) x1000 bt468.2.1 bt468.2.2.1 bt468.2.2.2 x465000 x465001 x465002 x465003) else (none)) else ((F72.f x1000 bt468.2.1 bt468.2.2.1 bt468.2.2.2 6).bind fun bt484 => (if 0 ≤ bt484.1 then (if bt484.1 < 6 then (if x7.length < 140737488355328 then (F71.l0 k (wrap64 (x2 - 1)) (x7 ++ [bt (⟨#[65, 66, 99, 32, 49, 45]⟩ : ByteArray) bt484.1]) x1000 bt484.2.1 bt484.2.2.1 bt484.2.2.2 x465000 x465001 x465002 x465003) else (none)) else (none)) else (none)))))))) else (some (strOfNums x7, x1001, x1002, x1003))
def F71.f (k : Nat) (s0_0 : List Int) (s0_1 : Int) (s0_2 : Int) (s0_3 : Int) (a1_0 : Int) (a1_1 : Int) (a1_2 : Int) (a1_3 : Int) (a2 : Int) : Option (ByteArray × Int × Int × Int) := F71.l0 k a2 (([] : List Int)) s0_0 s0_1 s0_2 s0_3 a1_0 a1_1 a1_2 a1_3
theorem F71.mono_l : ∀ k, (∀ y0 y1 y2 y3 y4 y5 y6 y7 y8 y9, LeO (F71.l0 k y0 y1 y2 y3 y4 y5 y6 y7 y8 y9) (F71.l0 (k + 1) y0 y1 y2 y3 y4 y5 y6 y7 y8 y9))
 | 0 => fun _ _ _ _ _ _ _ _ _ _ r h => by simp [F71.l0] at h
 | k + 1 => by
  have ih0 := F71.mono_l k
  intro y0 y1 y2 y3 y4 y5 y6 y7 y8 y9
  unfold F71.l0
  repeat' with_reducible first | exact ih0 _ _ _ _ _ _ _ _ _ _ | exact LeO.refl _ | exact LeO.none _ | refine LeO.ite ?_ ?_ | refine LeO.bind ?_ (fun _ => ?_)
theorem F71.mono : ∀ a0 a1 a2 a3 a4 a5 a6 a7 a8 k, LeO (F71.f k a0 a1 a2 a3 a4 a5 a6 a7 a8) (F71.f (k + 1) a0 a1 a2 a3 a4 a5 a6 a7 a8) := by
 intro a0 a1 a2 a3 a4 a5 a6 a7 a8 k
 have ih0 := F71.mono_l k
 unfold F71.f
 repeat' with_reducible first | exact ih0 _ _ _ _ _ _ _ _ _ _ | exact LeO.refl _ | exact LeO.none _ | refine LeO.ite ?_ ?_ | refine LeO.bind ?_ (fun _ => ?_)
theorem F71.calls (k : Nat) (g : Nat) (s0_0 : List Int) (s0_1 : Int) (s0_2 : Int) (s0_3 : Int) (a1_0 : Int) (a1_1 : Int) (a1_2 : Int) (a1_3 : Int) (a2 : Int) (r1 : ByteArray) (r2 : Int) (r3 : Int) (r4 : Int) (w0 w : World) (hI : IsS121 w0 w g s0_0 s0_1 s0_2 s0_3) (hB : Below w0.heap.size w0 w) (h : F71.f k s0_0 s0_1 s0_2 s0_3 a1_0 a1_1 a1_2 a1_3 a2 = some (r1, r2, r3, r4)) :
  Calls Try.prog 71 #[.pointer (some ⟨g, 0, none⟩), .agg #[.int .i64 a1_0, .int .i64 a1_1, .int .i64 a1_2, .int .i64 a1_3], .int .i64 a2] w fun e w' => e = .returned (.string r1) ∧ IsS121 w0 w' g s0_0 r2 r3 r4 ∧ Below w0.heap.size w0 w' ∧ KeepBut w w' g none := by
 have hu23 := Try.underlying23
 have HI0 := am_ hI
 have HK := am_ (KeepBut.refl w g none)
 have HL := am_ hB.size
 clear hI
 have HW0 := am_ hB.size
 have HB := am_ hB
 clear hB
 have H : (F71.l0 k a2 (([] : List Int)) s0_0 s0_1 s0_2 s0_3 a1_0 a1_1 a1_2 a1_3) = some (r1, r2, r3, r4) := h
 clear h
 obtain ⟨y465, hy465⟩ : ∃ y_ : List Int, y_ = (([] : List Int)) := ⟨_, rfl⟩
 replace H : (F71.l0 k a2 y465 s0_0 s0_1 s0_2 s0_3 a1_0 a1_1 a1_2 a1_3) = some (r1, r2, r3, r4) := by first | (rw [hy465]; exact H) | exact H
 have Ny465 := am_ hy465
 clear hy465
 have H' := am_ H
 clear H
 go_enter Try.func71, Try.ntmps71
 go_wp2_with (first | ((with_reducible refine gate_dst (N := 4) rfl ?_); refine be_ 4 #[.int .i64 a1_0, .int .i64 a1_1, .int .i64 a1_2, .int .i64 a1_3] 23 ?_; intro gb464 hg w4 hbox hb; replace HB := am_ (below_step au4_19 hb); have BK464 := am_ (hbox); have GW464 := am_ ((by rw [hg]; exact (keep_size (w := w) (g := g) (row := none) au4_6) : w.heap.size ≤ gb464)); have GE464 := am_ ((Nat.le_trans HW0.out (by rw [hg]; exact (keep_size (w := w) (g := g) (row := none) au4_6) : w.heap.size ≤ gb464) : w0.heap.size ≤ gb464)); replace HK := am_ (KeepBut.trans au4_6 (KeepBut.of_below hb g none) (.inl rfl)); have NB0_464 := am_ (gn_ hg (IsS121.lt (is4_0_ : IsS121 w0 _ g s0_0 s0_1 s0_2 s0_3))); have NB464_0 := am_ (gm_ hg (IsS121.lt (is4_0_ : IsS121 w0 _ g s0_0 s0_1 s0_2 s0_3))); replace HI0 := am_ (IsS121.below is4_0_ hb); clear hb hbox hg) | ((with_reducible refine gate_dst (N := 8) rfl ?_); refine Kd.R_lit (Kd.int .u8) _ 5 ?hg (N := 8) ?hd (xs := ([] : List Int)) (inner := []) (ok := fun _ => True) (okp := fun _ => True) ?hr ?hp (fun _ hk => hk) trivial (Below.refl _ _) (Nat.le_refl _) (by simp) ?_; (case hd => rfl); (case hg => rfl); (case hr => exact hr_); (case hp => exact (Reps.none _ _)); intro v466 w5 ho6 hb hg_ hnew_; clear hg_ hnew_; (first | rw [← Ny465.out] at ho6 | (simp only [Int.reduceToNat] at ho6; rw [← Ny465.out] at ho6)); have HO467 := am_ (Kd.R_lower ho6 (keep_size (w := w) (g := g) (row := none) au4_1)); replace BK464 := bb_ BK464 hb; replace HK := am_ (KeepBut.trans au4_1 (KeepBut.of_below hb g none) (.inl rfl)); replace HB := am_ (below_step au4_13 hb); replace HI0 := am_ (IsS121.below is4_0_ hb); clear hb ho6))
 go_loopg [2, 7] k (fun kq v2 v7 w' => ∃ (x2_1 : Int) (x7_1 : List Int) (x1001_1 : Int) (x1002_1 : Int) (x1003_1 : Int), v2 = .int .i64 x2_1 ∧ Aside0 (F71.l0 kq x2_1 x7_1 s0_0 x1001_1 x1002_1 x1003_1 a1_0 a1_1 a1_2 a1_3 = some (r1, r2, r3, r4)) ∧ Aside0 (kq ≤ k) ∧ Aside0 (Kd.R (Kd.int .u8) 5 w' w.heap.size (fun _ => True) v7 x7_1) ∧ Aside0 (w'.heap[gb464]? = some (.cells #[.int .i64 a1_0, .int .i64 a1_1, .int .i64 a1_2, .int .i64 a1_3] 23 (0, 0))) ∧ Aside0 (IsS121 w0 w' g s0_0 x1001_1 x1002_1 x1003_1) ∧ Aside0 (KeepBut w w' g none) ∧ Aside0 (Below w0.heap.size w0 w'))
 case atStart => exact ⟨(a2), (y465), (s0_1), (s0_2), (s0_3), er_, H', ⟨Nat.le_refl _⟩, ⟨rk_ HO467⟩, ⟨bk_ BK464⟩, ⟨is4_0_⟩, ⟨au4_11⟩, ⟨au4_8⟩⟩
 case round =>
  clear H'
  obtain ⟨x2_1, x7_1, x1001_1, x1002_1, x1003_1, rfl, HA, HK1, HO_7, BK464, HI0, HK, HB⟩ := hrel
  cases gk with
  | zero => exact absurd HA.out (by simp [F71.l0])
  | succ k1 =>
   have H := HA.out
   clear HA
   simp only [F71.l0] at H
   replace H := it_ H; rcases H with ⟨(c7b0 : decide (0 < x2_1) = true), H⟩ | ⟨(c7b0 : decide (0 < x2_1) = false), H⟩
   rotate_left
   ·simp only [Option.some.injEq, Prod.mk.injEq] at H
    obtain ⟨rfl, rfl, rfl, rfl⟩ := H
    have hcv41 := own_string (P := Try.prog) Try.underlying36 Try.underlying5 Try.underlying9 (Kd.own_of_R HO_7.out)
    go_wp2
    go_ret
    exact ⟨au4_15, is4_0_, au4_8, au4_11⟩

   replace H := bi_ H; rcases H with ⟨⟨t468, t469, t470, t471⟩, A8, H⟩
   by_cases c9 : t468 = 0
   ·rw [if_pos c9] at H
    have c9b0 : (t468 == 0) = true := beq_iff_eq.mpr c9
    have c9b1 : (t468 != 0) = false := bne_eq_false_iff_eq.mpr c9
    clear c9
    replace H := iln_ H; rcases H with ⟨LMc10, H⟩
    obtain ⟨y472, hy472⟩ : ∃ y_ : List Int, y_ = (x7_1 ++ [(a1_0) % 256]) := ⟨_, rfl⟩
    replace H : (F71.l0 k1 (wrap64 (x2_1 - 1)) y472 s0_0 t469 t470 t471 a1_0 a1_1 a1_2 a1_3) = some (r1, r2, r3, r4) := by first | (rw [hy472]; exact H) | exact H
    have Ny472 := am_ hy472
    clear hy472
    have H' := am_ H
    clear H
    go_wp2_with (first | ((with_reducible refine gate_callee (f := 72) rfl ?_); refine gl_ 14 Try.func72 #[.pointer (some ⟨g, 0, none⟩), .int .i64 6] ?_ rfl rfl rfl rfl; (with_reducible refine (F72.calls g s0_0 x1001_1 x1002_1 x1003_1 6 t468 t469 t470 t471 w0 _ ?s1 ?s2 A8.out).mono ?_); (case s1 => exact au4_10); (case s2 => exact au4_14); rintro e w11 ⟨rfl, hi, hb, hk⟩; refine ⟨_, rfl, ?_⟩; replace HO_7 := am_ (Kd.R_mono (Kd.R_keep (IsS121.apart (is4_0_ : IsS121 w0 _ g s0_0 x1001_1 x1002_1 x1003_1) (rk_ HO_7) (by decide)) hk (fun _ h => h.2)) (fun _ h => h.1)); replace BK464 := ka_ hk BK464 NB464_0; replace HK := am_ (KeepBut.trans au4_1 hk (.inl rfl)); replace HB := am_ (hb); replace HI0 := am_ (hi); (try clear hb); (try clear hb2); (try clear hk); (try clear hi); have hnb12 := NB464_0.out; have hnc12 := NB0_464.out; obtain ⟨hcz13_0, hcz13_1, hcz13_2, hcz13_3, hfz13_0, hfz13_1, hfz13_2, hfz13_3⟩ := cellsF4 BK464.out) | ((with_reducible refine gate_builtin (b := .append) (xs := #[.tmp 23, .tmp 27]) rfl ?_); at_builtin; refine Kd.R_append (Kd.int .u8) w.heap.size rfl (.tmp 23) (.tmp 27) 36 5 (.int .u8 0) 1 rfl Try.underlying36 info5 rfl (by decide) (by omega) u7 x7_1 ((a1_0) % 256) [.int .u8 ((a1_0) % 256)] (fun _ => True) (fun _ => False) rfl rfl ?aP (fun _ hk => hk.elim) ?aF ?aO (Below.refl _ _) ?aS ?aL ?_; (case aP => exact rfl); (case aF => exact (fun _ _ => trivial)); (case aO => exact (rk_ HO_7)); (case aS => exact au4_23); (case aL => have := LMc10.out; omega); intro v473 w14 ho hb hg hat; rw [← Ny472.out] at ho; have n0_ := am_ (bg_ BK464 hg (Kd.R_ne HO_7.out BK464.out (by decide))); have n1_ := am_ (IsS121.grown is4_0_ hg (IsS121.own_ne HI0.out HO_7.out (by decide))); have n2_ := am_ (below_weaken au4_13 HL.out hb); have n3_ := am_ (KeepBut.trans au4_1 (KeepBut.of_grown hg g) (Kd.R_base2 HO_7.out)); have n4_ := am_ (ho); clear BK464; clear HI0; clear HB; clear HK; clear HO_7; have BK464 := n0_; have HI0 := n1_; have HB := n2_; have HK := n3_; have HO474 := n4_; clear n0_ n1_ n2_ n3_ n4_; clear ho hb hg hat))
    go_roundg k1
    case measure => have := HK1.out; omega
    case rel => exact ⟨(wrap64 (x2_1 - 1)), (y472), (t469), (t470), (t471), er_, H', ⟨by have := HK1.out; omega⟩, ⟨rk_ HO474⟩, ⟨bk_ BK464⟩, ⟨is4_0_⟩, ⟨au4_11⟩, ⟨au4_8⟩⟩
   rw [if_neg c9] at H
   have c9b0 : (t468 == 0) = false := beq_eq_false_iff_ne.mpr c9
   have c9b1 : (t468 != 0) = true := bne_iff_ne.mpr c9
   by_cases c15 : t468 = 1
   ·rw [if_pos c15] at H
    have c15b0 : (t468 == 1) = true := beq_iff_eq.mpr c15
    have c15b1 : (t468 != 1) = false := bne_eq_false_iff_eq.mpr c15
    clear c15
    replace H := iln_ H; rcases H with ⟨LMc16, H⟩
    obtain ⟨y475, hy475⟩ : ∃ y_ : List Int, y_ = (x7_1 ++ [(a1_1) % 256]) := ⟨_, rfl⟩
    replace H : (F71.l0 k1 (wrap64 (x2_1 - 1)) y475 s0_0 t469 t470 t471 a1_0 a1_1 a1_2 a1_3) = some (r1, r2, r3, r4) := by first | (rw [hy475]; exact H) | exact H
    have Ny475 := am_ hy475
    clear hy475
    have H' := am_ H
    clear H
    go_wp2_with (first | ((with_reducible refine gate_callee (f := 72) rfl ?_); refine gl_ 14 Try.func72 #[.pointer (some ⟨g, 0, none⟩), .int .i64 6] ?_ rfl rfl rfl rfl; (with_reducible refine (F72.calls g s0_0 x1001_1 x1002_1 x1003_1 6 t468 t469 t470 t471 w0 _ ?s1 ?s2 A8.out).mono ?_); (case s1 => exact au4_10); (case s2 => exact au4_14); rintro e w17 ⟨rfl, hi, hb, hk⟩; refine ⟨_, rfl, ?_⟩; replace HO_7 := am_ (Kd.R_mono (Kd.R_keep (IsS121.apart (is4_0_ : IsS121 w0 _ g s0_0 x1001_1 x1002_1 x1003_1) (rk_ HO_7) (by decide)) hk (fun _ h => h.2)) (fun _ h => h.1)); replace BK464 := ka_ hk BK464 NB464_0; replace HK := am_ (KeepBut.trans au4_1 hk (.inl rfl)); replace HB := am_ (hb); replace HI0 := am_ (hi); (try clear hb); (try clear hb2); (try clear hk); (try clear hi); have hnb18 := NB464_0.out; have hnc18 := NB0_464.out; obtain ⟨hcz19_0, hcz19_1, hcz19_2, hcz19_3, hfz19_0, hfz19_1, hfz19_2, hfz19_3⟩ := cellsF4 BK464.out) | ((with_reducible refine gate_builtin (b := .append) (xs := #[.tmp 31, .tmp 35]) rfl ?_); at_builtin; refine Kd.R_append (Kd.int .u8) w.heap.size rfl (.tmp 31) (.tmp 35) 36 5 (.int .u8 0) 1 rfl Try.underlying36 info5 rfl (by decide) (by omega) u7 x7_1 ((a1_1) % 256) [.int .u8 ((a1_1) % 256)] (fun _ => True) (fun _ => False) rfl rfl ?aP (fun _ hk => hk.elim) ?aF ?aO (Below.refl _ _) ?aS ?aL ?_; (case aP => exact rfl); (case aF => exact (fun _ _ => trivial)); (case aO => exact (rk_ HO_7)); (case aS => exact au4_23); (case aL => have := LMc16.out; omega); intro v476 w20 ho hb hg hat; rw [← Ny475.out] at ho; have n0_ := am_ (bg_ BK464 hg (Kd.R_ne HO_7.out BK464.out (by decide))); have n1_ := am_ (IsS121.grown is4_0_ hg (IsS121.own_ne HI0.out HO_7.out (by decide))); have n2_ := am_ (below_weaken au4_13 HL.out hb); have n3_ := am_ (KeepBut.trans au4_1 (KeepBut.of_grown hg g) (Kd.R_base2 HO_7.out)); have n4_ := am_ (ho); clear BK464; clear HI0; clear HB; clear HK; clear HO_7; have BK464 := n0_; have HI0 := n1_; have HB := n2_; have HK := n3_; have HO477 := n4_; clear n0_ n1_ n2_ n3_ n4_; clear ho hb hg hat))
    go_roundg k1
    case measure => have := HK1.out; omega
    case rel => exact ⟨(wrap64 (x2_1 - 1)), (y475), (t469), (t470), (t471), er_, H', ⟨by have := HK1.out; omega⟩, ⟨rk_ HO477⟩, ⟨bk_ BK464⟩, ⟨is4_0_⟩, ⟨au4_11⟩, ⟨au4_8⟩⟩
   rw [if_neg c15] at H
   have c15b0 : (t468 == 1) = false := beq_eq_false_iff_ne.mpr c15
   have c15b1 : (t468 != 1) = true := bne_iff_ne.mpr c15
   by_cases c21 : t468 = 2
   ·rw [if_pos c21] at H
    have c21b0 : (t468 == 2) = true := beq_iff_eq.mpr c21
    have c21b1 : (t468 != 2) = false := bne_eq_false_iff_eq.mpr c21
    clear c21
    replace H := iln_ H; rcases H with ⟨LMc22, H⟩
    obtain ⟨y478, hy478⟩ : ∃ y_ : List Int, y_ = (x7_1 ++ [(a1_2) % 256]) := ⟨_, rfl⟩
    replace H : (F71.l0 k1 (wrap64 (x2_1 - 1)) y478 s0_0 t469 t470 t471 a1_0 a1_1 a1_2 a1_3) = some (r1, r2, r3, r4) := by first | (rw [hy478]; exact H) | exact H
    have Ny478 := am_ hy478
    clear hy478
    have H' := am_ H
    clear H
    go_wp2_with (first | ((with_reducible refine gate_callee (f := 72) rfl ?_); refine gl_ 14 Try.func72 #[.pointer (some ⟨g, 0, none⟩), .int .i64 6] ?_ rfl rfl rfl rfl; (with_reducible refine (F72.calls g s0_0 x1001_1 x1002_1 x1003_1 6 t468 t469 t470 t471 w0 _ ?s1 ?s2 A8.out).mono ?_); (case s1 => exact au4_10); (case s2 => exact au4_14); rintro e w23 ⟨rfl, hi, hb, hk⟩; refine ⟨_, rfl, ?_⟩; replace HO_7 := am_ (Kd.R_mono (Kd.R_keep (IsS121.apart (is4_0_ : IsS121 w0 _ g s0_0 x1001_1 x1002_1 x1003_1) (rk_ HO_7) (by decide)) hk (fun _ h => h.2)) (fun _ h => h.1)); replace BK464 := ka_ hk BK464 NB464_0; replace HK := am_ (KeepBut.trans au4_1 hk (.inl rfl)); replace HB := am_ (hb); replace HI0 := am_ (hi); (try clear hb); (try clear hb2); (try clear hk); (try clear hi); have hnb24 := NB464_0.out; have hnc24 := NB0_464.out; obtain ⟨hcz25_0, hcz25_1, hcz25_2, hcz25_3, hfz25_0, hfz25_1, hfz25_2, hfz25_3⟩ := cellsF4 BK464.out) | ((with_reducible refine gate_builtin (b := .append) (xs := #[.tmp 39, .tmp 43]) rfl ?_); at_builtin; refine Kd.R_append (Kd.int .u8) w.heap.size rfl (.tmp 39) (.tmp 43) 36 5 (.int .u8 0) 1 rfl Try.underlying36 info5 rfl (by decide) (by omega) u7 x7_1 ((a1_2) % 256) [.int .u8 ((a1_2) % 256)] (fun _ => True) (fun _ => False) rfl rfl ?aP (fun _ hk => hk.elim) ?aF ?aO (Below.refl _ _) ?aS ?aL ?_; (case aP => exact rfl); (case aF => exact (fun _ _ => trivial)); (case aO => exact (rk_ HO_7)); (case aS => exact au4_23); (case aL => have := LMc22.out; omega); intro v479 w26 ho hb hg hat; rw [← Ny478.out] at ho; have n0_ := am_ (bg_ BK464 hg (Kd.R_ne HO_7.out BK464.out (by decide))); have n1_ := am_ (IsS121.grown is4_0_ hg (IsS121.own_ne HI0.out HO_7.out (by decide))); have n2_ := am_ (below_weaken au4_13 HL.out hb); have n3_ := am_ (KeepBut.trans au4_1 (KeepBut.of_grown hg g) (Kd.R_base2 HO_7.out)); have n4_ := am_ (ho); clear BK464; clear HI0; clear HB; clear HK; clear HO_7; have BK464 := n0_; have HI0 := n1_; have HB := n2_; have HK := n3_; have HO480 := n4_; clear n0_ n1_ n2_ n3_ n4_; clear ho hb hg hat))
    go_roundg k1
    case measure => have := HK1.out; omega
    case rel => exact ⟨(wrap64 (x2_1 - 1)), (y478), (t469), (t470), (t471), er_, H', ⟨by have := HK1.out; omega⟩, ⟨rk_ HO480⟩, ⟨bk_ BK464⟩, ⟨is4_0_⟩, ⟨au4_11⟩, ⟨au4_8⟩⟩
   rw [if_neg c21] at H
   have c21b0 : (t468 == 2) = false := beq_eq_false_iff_ne.mpr c21
   have c21b1 : (t468 != 2) = true := bne_iff_ne.mpr c21
   by_cases c27 : t468 = 3
   ·rw [if_pos c27] at H
    have c27b0 : (t468 == 3) = true := beq_iff_eq.mpr c27
    have c27b1 : (t468 != 3) = false := bne_eq_false_iff_eq.mpr c27
    clear c27
    replace H := iln_ H; rcases H with ⟨LMc28, H⟩
    obtain ⟨y481, hy481⟩ : ∃ y_ : List Int, y_ = (x7_1 ++ [(a1_3) % 256]) := ⟨_, rfl⟩
    replace H : (F71.l0 k1 (wrap64 (x2_1 - 1)) y481 s0_0 t469 t470 t471 a1_0 a1_1 a1_2 a1_3) = some (r1, r2, r3, r4) := by first | (rw [hy481]; exact H) | exact H
    have Ny481 := am_ hy481
    clear hy481
    have H' := am_ H
    clear H
    go_wp2_with (first | ((with_reducible refine gate_callee (f := 72) rfl ?_); refine gl_ 14 Try.func72 #[.pointer (some ⟨g, 0, none⟩), .int .i64 6] ?_ rfl rfl rfl rfl; (with_reducible refine (F72.calls g s0_0 x1001_1 x1002_1 x1003_1 6 t468 t469 t470 t471 w0 _ ?s1 ?s2 A8.out).mono ?_); (case s1 => exact au4_10); (case s2 => exact au4_14); rintro e w29 ⟨rfl, hi, hb, hk⟩; refine ⟨_, rfl, ?_⟩; replace HO_7 := am_ (Kd.R_mono (Kd.R_keep (IsS121.apart (is4_0_ : IsS121 w0 _ g s0_0 x1001_1 x1002_1 x1003_1) (rk_ HO_7) (by decide)) hk (fun _ h => h.2)) (fun _ h => h.1)); replace BK464 := ka_ hk BK464 NB464_0; replace HK := am_ (KeepBut.trans au4_1 hk (.inl rfl)); replace HB := am_ (hb); replace HI0 := am_ (hi); (try clear hb); (try clear hb2); (try clear hk); (try clear hi); have hnb30 := NB464_0.out; have hnc30 := NB0_464.out; obtain ⟨hcz31_0, hcz31_1, hcz31_2, hcz31_3, hfz31_0, hfz31_1, hfz31_2, hfz31_3⟩ := cellsF4 BK464.out) | ((with_reducible refine gate_builtin (b := .append) (xs := #[.tmp 47, .tmp 51]) rfl ?_); at_builtin; refine Kd.R_append (Kd.int .u8) w.heap.size rfl (.tmp 47) (.tmp 51) 36 5 (.int .u8 0) 1 rfl Try.underlying36 info5 rfl (by decide) (by omega) u7 x7_1 ((a1_3) % 256) [.int .u8 ((a1_3) % 256)] (fun _ => True) (fun _ => False) rfl rfl ?aP (fun _ hk => hk.elim) ?aF ?aO (Below.refl _ _) ?aS ?aL ?_; (case aP => exact rfl); (case aF => exact (fun _ _ => trivial)); (case aO => exact (rk_ HO_7)); (case aS => exact au4_23); (case aL => have := LMc28.out; omega); intro v482 w32 ho hb hg hat; rw [← Ny481.out] at ho; have n0_ := am_ (bg_ BK464 hg (Kd.R_ne HO_7.out BK464.out (by decide))); have n1_ := am_ (IsS121.grown is4_0_ hg (IsS121.own_ne HI0.out HO_7.out (by decide))); have n2_ := am_ (below_weaken au4_13 HL.out hb); have n3_ := am_ (KeepBut.trans au4_1 (KeepBut.of_grown hg g) (Kd.R_base2 HO_7.out)); have n4_ := am_ (ho); clear BK464; clear HI0; clear HB; clear HK; clear HO_7; have BK464 := n0_; have HI0 := n1_; have HB := n2_; have HK := n3_; have HO483 := n4_; clear n0_ n1_ n2_ n3_ n4_; clear ho hb hg hat))
    go_roundg k1
    case measure => have := HK1.out; omega
    case rel => exact ⟨(wrap64 (x2_1 - 1)), (y481), (t469), (t470), (t471), er_, H', ⟨by have := HK1.out; omega⟩, ⟨rk_ HO483⟩, ⟨bk_ BK464⟩, ⟨is4_0_⟩, ⟨au4_11⟩, ⟨au4_8⟩⟩
   rw [if_neg c27] at H
   have c27b0 : (t468 == 3) = false := beq_eq_false_iff_ne.mpr c27
   have c27b1 : (t468 != 3) = true := bne_iff_ne.mpr c27
   replace H := bi_ H; rcases H with ⟨⟨t484, t485, t486, t487⟩, A33, H⟩
   replace H := itn_ H; rcases H with ⟨c34b0, H⟩
   replace H := itn_ H; rcases H with ⟨c35b0, H⟩
   replace H := iln_ H; rcases H with ⟨LMc37, H⟩
   obtain ⟨y488, hy488⟩ : ∃ y_ : List Int, y_ = (x7_1 ++ [bt (⟨#[65, 66, 99, 32, 49, 45]⟩ : ByteArray) t484]) := ⟨_, rfl⟩
   replace H : (F71.l0 k1 (wrap64 (x2_1 - 1)) y488 s0_0 t485 t486 t487 a1_0 a1_1 a1_2 a1_3) = some (r1, r2, r3, r4) := by first | (rw [hy488]; exact H) | exact H
   have Ny488 := am_ hy488
   clear hy488
   have H' := am_ H
   clear H
   go_wp2_with (first | ((with_reducible refine gate_callee (f := 72) rfl ?_); refine gl_ 14 Try.func72 #[.pointer (some ⟨g, 0, none⟩), .int .i64 6] ?_ rfl rfl rfl rfl; (with_reducible refine (F72.calls g s0_0 x1001_1 x1002_1 x1003_1 6 t468 t469 t470 t471 w0 _ ?s1 ?s2 A8.out).mono ?_); (case s1 => exact au4_10); (case s2 => exact au4_14); rintro e w38 ⟨rfl, hi, hb, hk⟩; refine ⟨_, rfl, ?_⟩; replace HO_7 := am_ (Kd.R_mono (Kd.R_keep (IsS121.apart (is4_0_ : IsS121 w0 _ g s0_0 x1001_1 x1002_1 x1003_1) (rk_ HO_7) (by decide)) hk (fun _ h => h.2)) (fun _ h => h.1)); replace BK464 := ka_ hk BK464 NB464_0; replace HK := am_ (KeepBut.trans au4_1 hk (.inl rfl)); replace HB := am_ (hb); replace HI0 := am_ (hi); (try clear hb); (try clear hb2); (try clear hk); (try clear hi)) | ((with_reducible refine gate_callee (f := 72) rfl ?_); refine gl_ 17 Try.func72 #[.pointer (some ⟨g, 0, none⟩), .int .i64 6] ?_ rfl rfl rfl rfl; (with_reducible refine (F72.calls g s0_0 t469 t470 t471 6 t484 t485 t486 t487 w0 _ ?s1 ?s2 A33.out).mono ?_); (case s1 => exact au4_10); (case s2 => exact au4_14); rintro e w39 ⟨rfl, hi, hb, hk⟩; refine ⟨_, rfl, ?_⟩; replace HO_7 := am_ (Kd.R_mono (Kd.R_keep (IsS121.apart (is4_0_ : IsS121 w0 _ g s0_0 t469 t470 t471) (rk_ HO_7) (by decide)) hk (fun _ h => h.2)) (fun _ h => h.1)); replace BK464 := ka_ hk BK464 NB464_0; replace HK := am_ (KeepBut.trans au4_1 hk (.inl rfl)); replace HB := am_ (hb); replace HI0 := am_ (hi); (try clear hb); (try clear hb2); (try clear hk); (try clear hi); have p36 : 0 ≤ (t484 : Int) := od_; have q36 : t484 < (6 : Int) := od_; have hx36 := bt_at (⟨#[65, 66, 99, 32, 49, 45]⟩ : ByteArray) t484; replace p36 := eq_true p36; replace q36 := eq_true q36) | ((with_reducible refine gate_builtin (b := .append) (xs := #[.tmp 15, .tmp 19]) rfl ?_); at_builtin; refine Kd.R_append (Kd.int .u8) w.heap.size rfl (.tmp 15) (.tmp 19) 36 5 (.int .u8 0) 1 rfl Try.underlying36 info5 rfl (by decide) (by omega) u7 x7_1 (bt (⟨#[65, 66, 99, 32, 49, 45]⟩ : ByteArray) t484) [.int .u8 (bt (⟨#[65, 66, 99, 32, 49, 45]⟩ : ByteArray) t484)] (fun _ => True) (fun _ => False) rfl rfl ?aP (fun _ hk => hk.elim) ?aF ?aO (Below.refl _ _) ?aS ?aL ?_; (case aP => exact rfl); (case aF => exact (fun _ _ => trivial)); (case aO => exact (rk_ HO_7)); (case aS => exact au4_23); (case aL => have := LMc37.out; omega); intro v489 w40 ho hb hg hat; rw [← Ny488.out] at ho; have n0_ := am_ (bg_ BK464 hg (Kd.R_ne HO_7.out BK464.out (by decide))); have n1_ := am_ (IsS121.grown is4_0_ hg (IsS121.own_ne HI0.out HO_7.out (by decide))); have n2_ := am_ (below_weaken au4_13 HL.out hb); have n3_ := am_ (KeepBut.trans au4_1 (KeepBut.of_grown hg g) (Kd.R_base2 HO_7.out)); have n4_ := am_ (ho); clear BK464; clear HI0; clear HB; clear HK; clear HO_7; have BK464 := n0_; have HI0 := n1_; have HB := n2_; have HK := n3_; have HO490 := n4_; clear n0_ n1_ n2_ n3_ n4_; clear ho hb hg hat))
   go_roundg k1
   case measure => have := HK1.out; omega
   case rel => exact ⟨(wrap64 (x2_1 - 1)), (y488), (t485), (t486), (t487), er_, H', ⟨by have := HK1.out; omega⟩, ⟨rk_ HO490⟩, ⟨bk_ BK464⟩, ⟨is4_0_⟩, ⟨au4_11⟩, ⟨au4_8⟩⟩
/-! ### F119: function 119 -/
def F119.f (s0_0 : List Int) (s0_1 : Int) (s0_2 : Int) (s0_3 : Int) (l1 : List ByteArray) : Option (ByteArray × Int × Int × Int) := (F72.f s0_0 s0_1 s0_2 s0_3 (l1.length : Int)).bind fun bt491 => (if 0 ≤ bt491.1 then (if bt491.1 < (l1.length : Int) then (some (rdOf ByteArray.empty l1 bt491.1, bt491.2.1, bt491.2.2.1, bt491.2.2.2)) else (none)) else (none))
theorem F119.calls (g : Nat) (s0_0 : List Int) (s0_1 : Int) (s0_2 : Int) (s0_3 : Int) (A1 : Option Addr) (c1 : Nat) (l1 : List ByteArray) (r1 : ByteArray) (r2 : Int) (r3 : Int) (r4 : Int) (w0 w : World) (hI : IsS121 w0 w g s0_0 s0_1 s0_2 s0_3) (hB : Below w0.heap.size w0 w) (hr1 : Kd.C Kd.string w A1 l1.length l1) (hc1 : l1.length ≤ c1) (hf1 : ∀ ad, A1 = some ad → 0 < l1.length → ad.block ≠ g) (h : F119.f s0_0 s0_1 s0_2 s0_3 l1 = some (r1, r2, r3, r4)) :
  Calls Try.prog 119 #[.pointer (some ⟨g, 0, none⟩), .slice A1 l1.length c1] w fun e w' => e = .returned (.string r1) ∧ IsS121 w0 w' g s0_0 r2 r3 r4 ∧ Below w0.heap.size w0 w' ∧ KeepBut w w' g none := by
 have HR1 := am_ hr1
 have HC1 := am_ hc1
 clear hr1 hc1
 have HI0 := am_ hI
 have HK := am_ (KeepBut.refl w g none)
 have HL := am_ hB.size
 clear hI
 have HW0 := am_ hB.size
 have HB := am_ hB
 clear hB
 have H : ((F72.f s0_0 s0_1 s0_2 s0_3 (l1.length : Int)).bind fun bt491 => (if 0 ≤ bt491.1 then (if bt491.1 < (l1.length : Int) then (some (rdOf ByteArray.empty l1 bt491.1, bt491.2.1, bt491.2.2.1, bt491.2.2.2)) else (none)) else (none))) = some (r1, r2, r3, r4) := h
 clear h
 replace H := bi_ H; rcases H with ⟨⟨t491, t492, t493, t494⟩, A3, H⟩
 replace H := itn_ H; rcases H with ⟨c4b0, H⟩
 replace H := itn_ H; rcases H with ⟨c5b0, H⟩
 simp only [Option.some.injEq, Prod.mk.injEq] at H
 obtain ⟨rfl, rfl, rfl, rfl⟩ := H
 go_enter Try.func119, Try.ntmps119
 go_wp2_with (first | ((with_reducible refine gate_callee (f := 72) rfl ?_); refine gl_ 9 Try.func72 #[.pointer (some ⟨g, 0, none⟩), .int .i64 (l1.length : Int)] ?_ rfl rfl rfl rfl; (with_reducible refine (F72.calls g s0_0 s0_1 s0_2 s0_3 (l1.length : Int) t491 t492 t493 t494 w0 _ ?s1 ?s2 A3.out).mono ?_); (case s1 => exact au4_18); (case s2 => exact au4_20); rintro e w6 ⟨rfl, hi, hb, hk⟩; refine ⟨_, rfl, ?_⟩; replace HK := am_ (KeepBut.trans au4_6 hk (.inl rfl)); replace HB := am_ (hb); replace HI0 := am_ (hi); (try clear hb); (try clear hb2); (try clear hk); (try clear hi); have p495 : 0 ≤ (t491 : Int) := od_; have q495 : t491 < (l1.length : Int) := od_; obtain ⟨ad495, e495, hx495_0⟩ := Kd.at_string HR1.out t491 p495 q495; cases e495; replace hx495_0 := keep_cell HK.out hx495_0 (by first | (rw [add_block]; exact hf1 _ rfl (by omega)) | exact hf1 _ rfl (by omega) | exact hf1 ad495 rfl (by omega)); replace p495 := eq_true p495; replace q495 := eq_true q495))
 go_ret
 exact ⟨au4_15, is4_0_, au4_5, au4_7⟩
end Go.Proofs.Ytchoalagkcdbhaa.PFnSegmentBack
