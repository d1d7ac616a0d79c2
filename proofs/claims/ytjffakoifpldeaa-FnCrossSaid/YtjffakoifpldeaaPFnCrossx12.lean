-- printed by a program of this session (wip/xp/xprint.py) out of the translation; Lean checks it
import Derived.Test.YtjffakoifpldeaaPFnCrossx0
import Derived.Test.YtjffakoifpldeaaPFnCrossx11
namespace Go.Proofs.Ytjffakoifpldeaa.PFnCross
open Go.RowKit Go.Proofs.YtjffakoifpldeaaW.PrintWords Go.Proofs.YtjffakoifpldeaaW.PrintLast Go.Proofs.YtjffakoifpldeaaW.PrintMore
attribute [local go_sem] max2_int min2_int max_two min_two max_three min_three max_four min_four   -- for this text's walks alone
set_option linter.unusedVariables false
set_option linter.unusedSimpArgs false

theorem au12_0 {p : Prop} (h : p := by repeat (first | (with_reducible first | exact HI0.out | apply IsS116.alloc | apply IsS116.drewN | apply IsS116.drew | apply IsS116.set_1 | apply IsS116.set_2 | apply IsS116.set_3) | exact HI0.out)) : p := h
theorem au12_1 {p : Prop} (h : p := by repeat (first | (with_reducible first | exact HB.out | apply below_alloc | apply pw_below_drewN | apply below_drew1 | refine below_set ?_ (IsS116.ge HI0.out)) | exact HB.out)) : p := h
theorem au12_2 {p : Prop} (h : p := by repeat (first | (with_reducible first | exact HK.out | apply KeepBut.set_ | apply keep_drewN | apply keep_drew | apply keep_alloc) | exact HK.out)) : p := h
theorem au12_3 {p : Prop} (h : p := by rintro w' ⟨s0, s1, s2, s3⟩; go_simp; with_reducible rfl) : p := h
theorem au12_4 {p : Prop} (h : p := by first | rfl | (simp [errW_none, errW_some] <;> rfl) | (simp [*, errW_none, errW_some] <;> rfl)) : p := h
theorem au12_5 {p : Prop} (h : p := by rintro w' ⟨s0, s1, s2, s3, s4⟩; go_simp; with_reducible rfl) : p := h

/-! ### spec_l01Src_n: function 101 -/
def spec_l01Src_n.f (s0_0 : List Int) (s0_1 : Int) (s0_2 : Int) (s0_3 : Int) (a1 : Int) : Option (Int × Int × Int × Int) := if a1 ≤ 1 then (some (0, s0_1, s0_2, s0_3)) else (if s0_1 < (s0_0.length : Int) then (if 0 ≤ s0_1 then (if (IntKind.u64.wrap (a1)) = 0 then (none) else (some (wrap64 (Int.tmod (IntKind.u64.wrap ((IntKind.u64.wrap (rd s0_0 s0_1)) + ((Go.bits .xor .u64 (Go.bits .xor .u64 (Go.bits .xor .u64 s0_2 (IntKind.u64.wrap (s0_2 * 8192))) ((Go.bits .xor .u64 s0_2 (IntKind.u64.wrap (s0_2 * 8192))) / 128)) (IntKind.u64.wrap ((Go.bits .xor .u64 (Go.bits .xor .u64 s0_2 (IntKind.u64.wrap (s0_2 * 8192))) ((Go.bits .xor .u64 s0_2 (IntKind.u64.wrap (s0_2 * 8192))) / 128)) * 131072))) / 1048576))) (IntKind.u64.wrap (a1))), wrap64 (s0_1 + 1), Go.bits .xor .u64 (Go.bits .xor .u64 (Go.bits .xor .u64 s0_2 (IntKind.u64.wrap (s0_2 * 8192))) ((Go.bits .xor .u64 s0_2 (IntKind.u64.wrap (s0_2 * 8192))) / 128)) (IntKind.u64.wrap ((Go.bits .xor .u64 (Go.bits .xor .u64 s0_2 (IntKind.u64.wrap (s0_2 * 8192))) ((Go.bits .xor .u64 s0_2 (IntKind.u64.wrap (s0_2 * 8192))) / 128)) * 131072)), s0_3))) else (none)) else (if (IntKind.u64.wrap (a1)) = 0 then (none) else (some (wrap64 (Int.tmod (IntKind.u64.wrap (0 + ((Go.bits .xor .u64 (Go.bits .xor .u64 (Go.bits .xor .u64 s0_2 (IntKind.u64.wrap (s0_2 * 8192))) ((Go.bits .xor .u64 s0_2 (IntKind.u64.wrap (s0_2 * 8192))) / 128)) (IntKind.u64.wrap ((Go.bits .xor .u64 (Go.bits .xor .u64 s0_2 (IntKind.u64.wrap (s0_2 * 8192))) ((Go.bits .xor .u64 s0_2 (IntKind.u64.wrap (s0_2 * 8192))) / 128)) * 131072))) / 1048576))) (IntKind.u64.wrap (a1))), s0_1, Go.bits .xor .u64 (Go.bits .xor .u64 (Go.bits .xor .u64 s0_2 (IntKind.u64.wrap (s0_2 * 8192))) ((Go.bits .xor .u64 s0_2 (IntKind.u64.wrap (s0_2 * 8192))) / 128)) (IntKind.u64.wrap ((Go.bits .xor .u64 (Go.bits .xor .u64 s0_2 (IntKind.u64.wrap (s0_2 * 8192))) ((Go.bits .xor .u64 s0_2 (IntKind.u64.wrap (s0_2 * 8192))) / 128)) * 131072)), s0_3))))
def spec_l01Src_n.T4 : Bool × List (List Nat × List Nat) := (true, [([], []), ([0], [0]), ([1], [1]), ([2], [2]), ([], []), ([4], [4]), ([5], [5]), ([6], [6]), ([7], [7]), ([3, 8], [3, 8])])
def spec_l01Src_n.B4 : List Nat := [0, 1, 3, 7, 0, 16, 48, 112, 240, 511]
theorem spec_l01Src_n.tab4 : rtab .any (opsOf Try.f101 4) = spec_l01Src_n.T4 := by kernel_rfl
theorem spec_l01Src_n.bits4 : waitsOk spec_l01Src_n.T4.2 spec_l01Src_n.B4 = true := by kernel_rfl
def spec_l01Src_n.T5 : Bool × List (List Nat × List Nat) := (true, [([], []), ([0], [0]), ([1], [1]), ([2], [2]), ([], []), ([4], [4]), ([5], [5]), ([6], [6]), ([3, 7], [3, 7]), ([8], [8]), ([9], [9]), ([10, 0, 1, 2, 3, 4, 5, 6, 7, 8, 9, 10], [10])])
def spec_l01Src_n.B5 : List Nat := [0, 1, 3, 7, 0, 16, 48, 112, 255, 511, 1023, 2047]
theorem spec_l01Src_n.tab5 : rtab .any (opsOf Try.f101 5) = spec_l01Src_n.T5 := by kernel_rfl
theorem spec_l01Src_n.bits5 : waitsOk spec_l01Src_n.T5.2 spec_l01Src_n.B5 = true := by kernel_rfl
def spec_l01Src_n.T7 : Bool × List (List Nat × List Nat) := (true, [([], []), ([], []), ([1], [1]), ([2], [2]), ([3], [3]), ([], []), ([5], [5]), ([6], [6]), ([7], [7]), ([8], [8]), ([4, 9], [4, 9]), ([0, 0, 1, 2, 3, 4, 5, 6, 7, 8, 9, 10], [0]), ([11, 0, 1, 2, 3, 4, 5, 6, 7, 8, 9, 10], [11]), ([12, 10, 0, 1, 2, 3, 4, 5, 6, 7, 8, 9, 10], [10, 12])])
def spec_l01Src_n.B7 : List Nat := [0, 0, 2, 6, 14, 0, 32, 96, 224, 480, 1022, 2047, 4095, 8191]
theorem spec_l01Src_n.tab7 : rtab .any (opsOf Try.f101 7) = spec_l01Src_n.T7 := by kernel_rfl
theorem spec_l01Src_n.bits7 : waitsOk spec_l01Src_n.T7.2 spec_l01Src_n.B7 = true := by kernel_rfl
def spec_l01Src_n.T8 : Bool × List (List Nat × List Nat) := (true, [([], []), ([], []), ([1], [1]), ([2], [2]), ([3], [3]), ([], []), ([5], [5]), ([6], [6]), ([7], [7]), ([8], [8]), ([4, 9], [4, 9]), ([0, 0, 1, 2, 3, 4, 5, 6, 7, 8, 9, 10], [0]), ([11, 0, 1, 2, 3, 4, 5, 6, 7, 8, 9, 10], [11]), ([12, 10, 0, 1, 2, 3, 4, 5, 6, 7, 8, 9, 10], [10, 12])])
def spec_l01Src_n.B8 : List Nat := [0, 0, 2, 6, 14, 0, 32, 96, 224, 480, 1022, 2047, 4095, 8191]
theorem spec_l01Src_n.tab8 : rtab .any (opsOf Try.f101 8) = spec_l01Src_n.T8 := by kernel_rfl
theorem spec_l01Src_n.bits8 : waitsOk spec_l01Src_n.T8.2 spec_l01Src_n.B8 = true := by kernel_rfl
def spec_l01Src_n.T9 : Bool × List (List Nat × List Nat) := (true, [([], []), ([], []), ([1], [1]), ([2], [2]), ([3], [3]), ([], []), ([5], [5]), ([6], [6]), ([7], [7]), ([8], [8]), ([4, 9], [4, 9]), ([0, 0, 1, 2, 3, 4, 5, 6, 7, 8, 9, 10], [0]), ([11, 0, 1, 2, 3, 4, 5, 6, 7, 8, 9, 10], [11]), ([12, 10, 0, 1, 2, 3, 4, 5, 6, 7, 8, 9, 10], [10, 12])])
def spec_l01Src_n.B9 : List Nat := [0, 0, 2, 6, 14, 0, 32, 96, 224, 480, 1022, 2047, 4095, 8191]
theorem spec_l01Src_n.tab9 : rtab .any (opsOf Try.f101 9) = spec_l01Src_n.T9 := by kernel_rfl
theorem spec_l01Src_n.bits9 : waitsOk spec_l01Src_n.T9.2 spec_l01Src_n.B9 = true := by kernel_rfl
set_option maxHeartbeats 8000000 in
set_option maxRecDepth 100000 in
theorem spec_l01Src_n.calls (g : Nat) (s0_0 : List Int) (s0_1 : Int) (s0_2 : Int) (s0_3 : Int) (a1 : Int) (r1 : Int) (r2 : Int) (r3 : Int) (r4 : Int) (w0 w : World) (hI : IsS116 w0 w g s0_0 s0_1 s0_2 s0_3) (hB : Below w0.heap.size w0 w) (h : spec_l01Src_n.f s0_0 s0_1 s0_2 s0_3 a1 = some (r1, r2, r3, r4)) :
    Calls Try.prog 101 #[.pointer (some ⟨g, 0, none⟩), .int .i64 a1] w fun e w' => e = .returned (.int .i64 r1) ∧ IsS116 w0 w' g s0_0 r2 r3 r4 ∧ Below w0.heap.size w0 w' ∧ KeepBut w w' g none := by
  have HI0 := Aside0.mk hI
  have HK := Aside0.mk (KeepBut.refl w g none)
  have HL := Aside0.mk hB.size
  clear hI
  have HW0 := Aside0.mk hB.size
  have HB := Aside0.mk hB
  clear hB
  have H : (if a1 ≤ 1 then (some (0, s0_1, s0_2, s0_3)) else (if s0_1 < (s0_0.length : Int) then (if 0 ≤ s0_1 then (if (IntKind.u64.wrap (a1)) = 0 then (none) else (some (wrap64 (Int.tmod (IntKind.u64.wrap ((IntKind.u64.wrap (rd s0_0 s0_1)) + ((Go.bits .xor .u64 (Go.bits .xor .u64 (Go.bits .xor .u64 s0_2 (IntKind.u64.wrap (s0_2 * 8192))) ((Go.bits .xor .u64 s0_2 (IntKind.u64.wrap (s0_2 * 8192))) / 128)) (IntKind.u64.wrap ((Go.bits .xor .u64 (Go.bits .xor .u64 s0_2 (IntKind.u64.wrap (s0_2 * 8192))) ((Go.bits .xor .u64 s0_2 (IntKind.u64.wrap (s0_2 * 8192))) / 128)) * 131072))) / 1048576))) (IntKind.u64.wrap (a1))), wrap64 (s0_1 + 1), Go.bits .xor .u64 (Go.bits .xor .u64 (Go.bits .xor .u64 s0_2 (IntKind.u64.wrap (s0_2 * 8192))) ((Go.bits .xor .u64 s0_2 (IntKind.u64.wrap (s0_2 * 8192))) / 128)) (IntKind.u64.wrap ((Go.bits .xor .u64 (Go.bits .xor .u64 s0_2 (IntKind.u64.wrap (s0_2 * 8192))) ((Go.bits .xor .u64 s0_2 (IntKind.u64.wrap (s0_2 * 8192))) / 128)) * 131072)), s0_3))) else (none)) else (if (IntKind.u64.wrap (a1)) = 0 then (none) else (some (wrap64 (Int.tmod (IntKind.u64.wrap (0 + ((Go.bits .xor .u64 (Go.bits .xor .u64 (Go.bits .xor .u64 s0_2 (IntKind.u64.wrap (s0_2 * 8192))) ((Go.bits .xor .u64 s0_2 (IntKind.u64.wrap (s0_2 * 8192))) / 128)) (IntKind.u64.wrap ((Go.bits .xor .u64 (Go.bits .xor .u64 s0_2 (IntKind.u64.wrap (s0_2 * 8192))) ((Go.bits .xor .u64 s0_2 (IntKind.u64.wrap (s0_2 * 8192))) / 128)) * 131072))) / 1048576))) (IntKind.u64.wrap (a1))), s0_1, Go.bits .xor .u64 (Go.bits .xor .u64 (Go.bits .xor .u64 s0_2 (IntKind.u64.wrap (s0_2 * 8192))) ((Go.bits .xor .u64 s0_2 (IntKind.u64.wrap (s0_2 * 8192))) / 128)) (IntKind.u64.wrap ((Go.bits .xor .u64 (Go.bits .xor .u64 s0_2 (IntKind.u64.wrap (s0_2 * 8192))) ((Go.bits .xor .u64 s0_2 (IntKind.u64.wrap (s0_2 * 8192))) / 128)) * 131072)), s0_3))))) = some (r1, r2, r3, r4) := h
  clear h
  by_cases c3 : a1 ≤ 1
  · rw [if_pos c3] at H
    have c3b0 : decide (a1 ≤ 1) = true := decide_eq_true c3
    clear c3
    simp only [Option.some.injEq, Prod.mk.injEq] at H
    obtain ⟨rfl, rfl, rfl, rfl⟩ := H
    go_enter Try.func101, Try.ntmps101
    go_wp2
    go_ret
    exact ⟨au12_4, au12_0, au12_1, au12_2⟩
  · rw [if_neg c3] at H
    have c3b0 : decide (a1 ≤ 1) = false := decide_eq_false c3
    clear c3
    by_cases c4 : s0_1 < (s0_0.length : Int)
    · rw [if_pos c4] at H
      have c4b0 : decide (s0_1 < (s0_0.length : Int)) = true := decide_eq_true c4
      clear c4
      by_cases c5 : 0 ≤ s0_1
      · rw [if_pos c5] at H
        have c5b0 : decide (0 ≤ s0_1) = true := decide_eq_true c5
        clear c5
        by_cases c6 : (IntKind.u64.wrap (a1)) = 0
        · rw [if_pos c6] at H
          exact absurd H (by simp)
        · rw [if_neg c6] at H
          have c6b0 : ((IntKind.u64.wrap (a1)) == 0) = false := beq_eq_false_iff_ne.mpr c6
          have c6b1 : ((IntKind.u64.wrap (a1)) != 0) = true := bne_iff_ne.mpr c6
          simp only [Option.some.injEq, Prod.mk.injEq] at H
          obtain ⟨rfl, rfl, rfl, rfl⟩ := H
          go_enter Try.func101, Try.ntmps101
          try go_wp2
          obtain ⟨ASz7_0, cSz7_0, HGz7, hgz7, HSz7_0⟩ := HI0.out
          have hcz7_0 := cellS116_0 HGz7
          have hcz7_1 := cellS116_1 HGz7
          have hcz7_2 := cellS116_2 HGz7
          have hcz7_3 := cellS116_3 HGz7
          have hfz7_1 := blk_frozen HGz7 1
          have hfz7_2 := blk_frozen HGz7 2
          have hfz7_3 := blk_frozen HGz7 3
          clear HGz7 hgz7
          have n0_ := Aside0.mk (IsS116.drew HI0.out)
          have n1_ := Aside0.mk (keep_drew HK.out)
          have n2_ := Aside0.mk (below_drew1 HB.out)
          clear HI0
          clear HK
          clear HB
          have HI0 := n0_
          have HK := n1_
          have HB := n2_
          clear n0_ n1_ n2_
          have hdfz7_1 : w.drew.frozen? ⟨g, 1, none⟩ = false := hfz7_1
          have hdfz7_2 : w.drew.frozen? ⟨g, 2, none⟩ = false := hfz7_2
          have hdfz7_3 : w.drew.frozen? ⟨g, 3, none⟩ = false := hfz7_3
          have hdz7_0 : w.drew.cell? ⟨g, 0, none⟩ = some (.slice ASz7_0 s0_0.length cSz7_0) := hcz7_0
          have hdz7_1 : w.drew.cell? ⟨g, 1, none⟩ = some (.int .i64 s0_1) := hcz7_1
          have hdz7_2 : w.drew.cell? ⟨g, 2, none⟩ = some (.int .u64 s0_2) := hcz7_2
          have hdz7_3 : w.drew.cell? ⟨g, 3, none⟩ = some (.int .i64 s0_3) := hcz7_3
          refine start_ (n := 10) (S := fun w' => w'.cell? ⟨g, 0, none⟩ = some (.slice ASz7_0 s0_0.length cSz7_0) ∧ w'.cell? ⟨g, 1, none⟩ = some (.int .i64 s0_1) ∧ w'.cell? ⟨g, 2, none⟩ = some (.int .u64 s0_2) ∧ w'.cell? ⟨g, 3, none⟩ = some (.int .i64 s0_3)) (ds := []) (bs 10 0) (by kernel_rfl) rfl rfl ⟨hdz7_0, hdz7_1, hdz7_2, hdz7_3⟩ (fun hHeld => ?_); refine with_tabW spec_l01Src_n.tab4 spec_l01Src_n.bits4 (fun HT_ HW_ => ?_)
          generalize w.drew = w8 at hdfz7_1 hdfz7_2 hdfz7_3 hdz7_0 hdz7_1 hdz7_2 hdz7_3 HI0 HK HB hHeld ⊢
          refine pu_ 0 8 (bs 10 1) HT_ ?_ rfl rfl
          refine pu_ 1 9 (bs 10 3) HT_ ?_ rfl rfl
          refine pu_ 2 10 (bs 10 7) HT_ ?_ rfl rfl
          refine pu_ 4 12 (bs 10 23) HT_ ?_ rfl rfl
          refine pu_ 5 13 (bs 10 55) HT_ ?_ rfl rfl
          refine pu_ 6 14 (bs 10 119) HT_ ?_ rfl rfl
          refine tk_ 3 11 (bs 10 127) HT_ HW_ hHeld au12_3 ?_ rfl rfl
          refine tk_ 7 15 (bs 10 255) HT_ HW_ hHeld au12_3 ?_ rfl rfl
          refine pu_ 8 16 (bs 10 511) HT_ ?_ rfl rfl
          refine pu_ 9 17 (bs 10 1023) HT_ ?_ rfl rfl
          refine done_ (done_of HT_.out (by kernel_rfl)) ?_
          try go_wp2
          obtain ⟨ASz9_0, cSz9_0, HGz9, hgz9, HSz9_0⟩ := HI0.out
          have hcz9_0 := cellS116_0 HGz9
          have hcz9_1 := cellS116_1 HGz9
          have hcz9_2 := cellS116_2 HGz9
          have hcz9_3 := cellS116_3 HGz9
          have hfz9_1 := blk_frozen HGz9 1
          have hfz9_2 := blk_frozen HGz9 2
          have hfz9_3 := blk_frozen HGz9 3
          clear HGz9 hgz9
          have n0_ := Aside0.mk (IsS116.drew HI0.out)
          have n1_ := Aside0.mk (keep_drew HK.out)
          have n2_ := Aside0.mk (below_drew1 HB.out)
          clear HI0
          clear HK
          clear HB
          have HI0 := n0_
          have HK := n1_
          have HB := n2_
          clear n0_ n1_ n2_
          have hdfz9_1 : w8.drew.frozen? ⟨g, 1, none⟩ = false := hfz9_1
          have hdfz9_2 : w8.drew.frozen? ⟨g, 2, none⟩ = false := hfz9_2
          have hdfz9_3 : w8.drew.frozen? ⟨g, 3, none⟩ = false := hfz9_3
          have hdz9_0 : w8.drew.cell? ⟨g, 0, none⟩ = some (.slice ASz9_0 s0_0.length cSz9_0) := hcz9_0
          have hdz9_1 : w8.drew.cell? ⟨g, 1, none⟩ = some (.int .i64 s0_1) := hcz9_1
          have hdz9_2 : w8.drew.cell? ⟨g, 2, none⟩ = some (.int .u64 s0_2) := hcz9_2
          have hdz9_3 : w8.drew.cell? ⟨g, 3, none⟩ = some (.int .i64 s0_3) := hcz9_3
          have p249 : 0 ≤ (s0_1 : Int) := of_decide_eq_true as_
          have q249 : s0_1 < (s0_0.length : Int) := of_decide_eq_true as_
          obtain ⟨ad249, e249, hx249_0⟩ := Kd.at_int HSz9_0 s0_1 p249 q249
          have hw249_0 := hx249_0
          cases e249
          replace hx249_0 := pw_cell_below HB.out hx249_0
          replace p249 := eq_true p249
          replace q249 := eq_true q249
          refine start_ (n := 12) (S := fun w' => w'.cell? ⟨g, 0, none⟩ = some (.slice (some ad249) s0_0.length cSz9_0) ∧ w'.cell? ⟨g, 1, none⟩ = some (.int .i64 s0_1) ∧ w'.cell? ⟨g, 2, none⟩ = some (.int .u64 s0_2) ∧ w'.cell? ⟨g, 3, none⟩ = some (.int .i64 s0_3) ∧ w'.cell? (ad249.add (s0_1).toNat) = some (.int .u8 (rd s0_0 s0_1))) (ds := []) (bs 12 0) (by kernel_rfl) rfl rfl ⟨hdz9_0, hdz9_1, hdz9_2, hdz9_3, ((HB.out.cell (World.block_lt_of_cell? _ _ hw249_0)).trans hw249_0)⟩ (fun hHeld => ?_); refine with_tabW spec_l01Src_n.tab5 spec_l01Src_n.bits5 (fun HT_ HW_ => ?_)
          generalize w8.drew = w10 at hdfz9_1 hdfz9_2 hdfz9_3 hdz9_0 hdz9_1 hdz9_2 hdz9_3 HI0 HK HB hx249_0 hHeld ⊢
          refine pu_ 0 18 (bs 12 1) HT_ ?_ rfl rfl
          refine pu_ 1 19 (bs 12 3) HT_ ?_ rfl rfl
          refine pu_ 2 20 (bs 12 7) HT_ ?_ rfl rfl
          refine pu_ 4 22 (bs 12 23) HT_ ?_ rfl rfl
          refine pu_ 5 23 (bs 12 55) HT_ ?_ rfl rfl
          refine pu_ 6 24 (bs 12 119) HT_ ?_ rfl rfl
          refine tk_ 3 21 (bs 12 127) HT_ HW_ hHeld au12_5 ?_ rfl rfl
          refine tk_ 7 25 (bs 12 255) HT_ HW_ hHeld au12_5 ?_ rfl rfl
          refine pu_ 8 26 (bs 12 511) HT_ ?_ rfl rfl
          refine tk_ 9 27 (bs 12 1023) HT_ HW_ hHeld au12_5 ?_ rfl rfl
          refine pu_ 10 28 (bs 12 2047) HT_ ?_ rfl rfl
          refine pu_ 11 5 (bs 12 4095) HT_ ?_ rfl rfl
          refine done_ (done_of HT_.out (by kernel_rfl)) ?_
          obtain ⟨ASz11_0, cSz11_0, HGz11, hgz11, HSz11_0⟩ := HI0.out
          have hcz11_0 := cellS116_0 HGz11
          have hcz11_1 := cellS116_1 HGz11
          have hcz11_2 := cellS116_2 HGz11
          have hcz11_3 := cellS116_3 HGz11
          have hfz11_1 := blk_frozen HGz11 1
          have hfz11_2 := blk_frozen HGz11 2
          have hfz11_3 := blk_frozen HGz11 3
          clear HGz11 hgz11
          try go_wp2
          have n0_ : Aside0 (IsS116 w0 (w10.setCell ⟨g, 1, none⟩ (.int .i64 (wrap64 (s0_1 + 1)))) g s0_0 (wrap64 (s0_1 + 1)) s0_2 s0_3) := ⟨au12_0⟩
          have n1_ : Aside0 (KeepBut w (w10.setCell ⟨g, 1, none⟩ (.int .i64 (wrap64 (s0_1 + 1)))) g none) := ⟨au12_2⟩
          have n2_ : Aside0 (Below w0.heap.size w0 (w10.setCell ⟨g, 1, none⟩ (.int .i64 (wrap64 (s0_1 + 1))))) := ⟨au12_1⟩
          (try clear HI0)
          (try clear HK)
          (try clear HB)
          generalize (w10.setCell ⟨g, 1, none⟩ (.int .i64 (wrap64 (s0_1 + 1)))) = w12 at n0_ n1_ n2_ ⊢
          have HI0 := n0_
          have HK := n1_
          have HB := n2_
          clear n0_ n1_ n2_
          obtain ⟨ASz13_0, cSz13_0, HGz13, hgz13, HSz13_0⟩ := HI0.out
          have hcz13_0 := cellS116_0 HGz13
          have hcz13_1 := cellS116_1 HGz13
          have hcz13_2 := cellS116_2 HGz13
          have hcz13_3 := cellS116_3 HGz13
          have hfz13_1 := blk_frozen HGz13 1
          have hfz13_2 := blk_frozen HGz13 2
          have hfz13_3 := blk_frozen HGz13 3
          clear HGz13 hgz13
          have n0_ := Aside0.mk (IsS116.drew HI0.out)
          have n1_ := Aside0.mk (keep_drew HK.out)
          have n2_ := Aside0.mk (below_drew1 HB.out)
          clear HI0
          clear HK
          clear HB
          have HI0 := n0_
          have HK := n1_
          have HB := n2_
          clear n0_ n1_ n2_
          have hdfz13_1 : w12.drew.frozen? ⟨g, 1, none⟩ = false := hfz13_1
          have hdfz13_2 : w12.drew.frozen? ⟨g, 2, none⟩ = false := hfz13_2
          have hdfz13_3 : w12.drew.frozen? ⟨g, 3, none⟩ = false := hfz13_3
          have hdz13_0 : w12.drew.cell? ⟨g, 0, none⟩ = some (.slice ASz13_0 s0_0.length cSz13_0) := hcz13_0
          have hdz13_1 : w12.drew.cell? ⟨g, 1, none⟩ = some (.int .i64 (wrap64 (s0_1 + 1))) := hcz13_1
          have hdz13_2 : w12.drew.cell? ⟨g, 2, none⟩ = some (.int .u64 s0_2) := hcz13_2
          have hdz13_3 : w12.drew.cell? ⟨g, 3, none⟩ = some (.int .i64 s0_3) := hcz13_3
          refine start_ (n := 14) (S := fun w' => w'.cell? ⟨g, 0, none⟩ = some (.slice ASz13_0 s0_0.length cSz13_0) ∧ w'.cell? ⟨g, 1, none⟩ = some (.int .i64 (wrap64 (s0_1 + 1))) ∧ w'.cell? ⟨g, 2, none⟩ = some (.int .u64 s0_2) ∧ w'.cell? ⟨g, 3, none⟩ = some (.int .i64 s0_3)) (ds := [13]) (bs 14 0) (by kernel_rfl) rfl rfl ⟨hdz13_0, hdz13_1, hdz13_2, hdz13_3⟩ (fun hHeld => ?_); refine with_tabW spec_l01Src_n.tab7 spec_l01Src_n.bits7 (fun HT_ HW_ => ?_)
          generalize w12.drew = w14 at hdfz13_1 hdfz13_2 hdfz13_3 hdz13_0 hdz13_1 hdz13_2 hdz13_3 HI0 HK HB hHeld ⊢
          refine pu_ 0 37 (bs 14 1) HT_ ?_ rfl rfl
          refine pu_ 1 38 (bs 14 3) HT_ ?_ rfl rfl
          refine pu_ 2 39 (bs 14 7) HT_ ?_ rfl rfl
          refine pu_ 3 40 (bs 14 15) HT_ ?_ rfl rfl
          refine pu_ 5 42 (bs 14 47) HT_ ?_ rfl rfl
          refine pu_ 6 43 (bs 14 111) HT_ ?_ rfl rfl
          refine pu_ 7 44 (bs 14 239) HT_ ?_ rfl rfl
          refine tk_ 4 41 (bs 14 255) HT_ HW_ hHeld au12_3 ?_ rfl rfl
          refine tk_ 8 45 (bs 14 511) HT_ HW_ hHeld au12_3 ?_ rfl rfl
          refine pu_ 9 46 (bs 14 1023) HT_ ?_ rfl rfl
          refine pu_ 10 47 (bs 14 2047) HT_ ?_ rfl rfl
          refine pu_ 11 48 (bs 14 4095) HT_ ?_ rfl rfl
          refine pu_ 12 49 (bs 14 8191) HT_ ?_ rfl rfl
          refine last_ (i := 13) (N := none) (bs 14 16383) rfl rfl (one_of HT_.out (by kernel_rfl)) (by decide) (fun K hK => ?_)
          have hs15 : w14.cell? ⟨g, 2, none⟩ = some (.int .u64 s0_2) := hdz13_2
          have hfs15 := hdfz13_2
          refine skip_ (w1 := ?_) (by rfl) rfl ?_ ?_
          rotate_left
          · go_simp
            rfl
          refine hK.out _ _ ?_
          clear hK K
          refine done_ (done_of HT_.out (by kernel_rfl)) ?_
          try go_wp2
          have n0_ : Aside0 (IsS116 w0 (w14.setCell ⟨g, 2, none⟩ (.int .u64 (Go.bits .xor .u64 s0_2 (IntKind.u64.wrap (s0_2 * 8192))))) g s0_0 (wrap64 (s0_1 + 1)) (Go.bits .xor .u64 s0_2 (IntKind.u64.wrap (s0_2 * 8192))) s0_3) := ⟨au12_0⟩
          have n1_ : Aside0 (KeepBut w (w14.setCell ⟨g, 2, none⟩ (.int .u64 (Go.bits .xor .u64 s0_2 (IntKind.u64.wrap (s0_2 * 8192))))) g none) := ⟨au12_2⟩
          have n2_ : Aside0 (Below w0.heap.size w0 (w14.setCell ⟨g, 2, none⟩ (.int .u64 (Go.bits .xor .u64 s0_2 (IntKind.u64.wrap (s0_2 * 8192)))))) := ⟨au12_1⟩
          (try clear HI0)
          (try clear HK)
          (try clear HB)
          generalize (w14.setCell ⟨g, 2, none⟩ (.int .u64 (Go.bits .xor .u64 s0_2 (IntKind.u64.wrap (s0_2 * 8192))))) = w16 at n0_ n1_ n2_ ⊢
          have HI0 := n0_
          have HK := n1_
          have HB := n2_
          clear n0_ n1_ n2_
          obtain ⟨ASz17_0, cSz17_0, HGz17, hgz17, HSz17_0⟩ := HI0.out
          have hcz17_0 := cellS116_0 HGz17
          have hcz17_1 := cellS116_1 HGz17
          have hcz17_2 := cellS116_2 HGz17
          have hcz17_3 := cellS116_3 HGz17
          have hfz17_1 := blk_frozen HGz17 1
          have hfz17_2 := blk_frozen HGz17 2
          have hfz17_3 := blk_frozen HGz17 3
          clear HGz17 hgz17
          have n0_ := Aside0.mk (IsS116.drew HI0.out)
          have n1_ := Aside0.mk (keep_drew HK.out)
          have n2_ := Aside0.mk (below_drew1 HB.out)
          clear HI0
          clear HK
          clear HB
          have HI0 := n0_
          have HK := n1_
          have HB := n2_
          clear n0_ n1_ n2_
          have hdfz17_1 : w16.drew.frozen? ⟨g, 1, none⟩ = false := hfz17_1
          have hdfz17_2 : w16.drew.frozen? ⟨g, 2, none⟩ = false := hfz17_2
          have hdfz17_3 : w16.drew.frozen? ⟨g, 3, none⟩ = false := hfz17_3
          have hdz17_0 : w16.drew.cell? ⟨g, 0, none⟩ = some (.slice ASz17_0 s0_0.length cSz17_0) := hcz17_0
          have hdz17_1 : w16.drew.cell? ⟨g, 1, none⟩ = some (.int .i64 (wrap64 (s0_1 + 1))) := hcz17_1
          have hdz17_2 : w16.drew.cell? ⟨g, 2, none⟩ = some (.int .u64 (Go.bits .xor .u64 s0_2 (IntKind.u64.wrap (s0_2 * 8192)))) := hcz17_2
          have hdz17_3 : w16.drew.cell? ⟨g, 3, none⟩ = some (.int .i64 s0_3) := hcz17_3
          refine start_ (n := 14) (S := fun w' => w'.cell? ⟨g, 0, none⟩ = some (.slice ASz17_0 s0_0.length cSz17_0) ∧ w'.cell? ⟨g, 1, none⟩ = some (.int .i64 (wrap64 (s0_1 + 1))) ∧ w'.cell? ⟨g, 2, none⟩ = some (.int .u64 (Go.bits .xor .u64 s0_2 (IntKind.u64.wrap (s0_2 * 8192)))) ∧ w'.cell? ⟨g, 3, none⟩ = some (.int .i64 s0_3)) (ds := [13]) (bs 14 0) (by kernel_rfl) rfl rfl ⟨hdz17_0, hdz17_1, hdz17_2, hdz17_3⟩ (fun hHeld => ?_); refine with_tabW spec_l01Src_n.tab8 spec_l01Src_n.bits8 (fun HT_ HW_ => ?_)
          generalize w16.drew = w18 at hdfz17_1 hdfz17_2 hdfz17_3 hdz17_0 hdz17_1 hdz17_2 hdz17_3 HI0 HK HB hHeld ⊢
          refine pu_ 0 50 (bs 14 1) HT_ ?_ rfl rfl
          refine pu_ 1 51 (bs 14 3) HT_ ?_ rfl rfl
          refine pu_ 2 52 (bs 14 7) HT_ ?_ rfl rfl
          refine pu_ 3 53 (bs 14 15) HT_ ?_ rfl rfl
          refine pu_ 5 55 (bs 14 47) HT_ ?_ rfl rfl
          refine pu_ 6 56 (bs 14 111) HT_ ?_ rfl rfl
          refine pu_ 7 57 (bs 14 239) HT_ ?_ rfl rfl
          refine tk_ 4 54 (bs 14 255) HT_ HW_ hHeld au12_3 ?_ rfl rfl
          refine tk_ 8 58 (bs 14 511) HT_ HW_ hHeld au12_3 ?_ rfl rfl
          refine pu_ 9 59 (bs 14 1023) HT_ ?_ rfl rfl
          refine pu_ 10 60 (bs 14 2047) HT_ ?_ rfl rfl
          refine pu_ 11 61 (bs 14 4095) HT_ ?_ rfl rfl
          refine pu_ 12 62 (bs 14 8191) HT_ ?_ rfl rfl
          refine last_ (i := 13) (N := none) (bs 14 16383) rfl rfl (one_of HT_.out (by kernel_rfl)) (by decide) (fun K hK => ?_)
          have hs19 : w18.cell? ⟨g, 2, none⟩ = some (.int .u64 (Go.bits .xor .u64 s0_2 (IntKind.u64.wrap (s0_2 * 8192)))) := hdz17_2
          have hfs19 := hdfz17_2
          refine skip_ (w1 := ?_) (by rfl) rfl ?_ ?_
          rotate_left
          · go_simp
            rfl
          refine hK.out _ _ ?_
          clear hK K
          refine done_ (done_of HT_.out (by kernel_rfl)) ?_
          try go_wp2
          have n0_ : Aside0 (IsS116 w0 (w18.setCell ⟨g, 2, none⟩ (.int .u64 (Go.bits .xor .u64 (Go.bits .xor .u64 s0_2 (IntKind.u64.wrap (s0_2 * 8192))) ((Go.bits .xor .u64 s0_2 (IntKind.u64.wrap (s0_2 * 8192))) / 128)))) g s0_0 (wrap64 (s0_1 + 1)) (Go.bits .xor .u64 (Go.bits .xor .u64 s0_2 (IntKind.u64.wrap (s0_2 * 8192))) ((Go.bits .xor .u64 s0_2 (IntKind.u64.wrap (s0_2 * 8192))) / 128)) s0_3) := ⟨au12_0⟩
          have n1_ : Aside0 (KeepBut w (w18.setCell ⟨g, 2, none⟩ (.int .u64 (Go.bits .xor .u64 (Go.bits .xor .u64 s0_2 (IntKind.u64.wrap (s0_2 * 8192))) ((Go.bits .xor .u64 s0_2 (IntKind.u64.wrap (s0_2 * 8192))) / 128)))) g none) := ⟨au12_2⟩
          have n2_ : Aside0 (Below w0.heap.size w0 (w18.setCell ⟨g, 2, none⟩ (.int .u64 (Go.bits .xor .u64 (Go.bits .xor .u64 s0_2 (IntKind.u64.wrap (s0_2 * 8192))) ((Go.bits .xor .u64 s0_2 (IntKind.u64.wrap (s0_2 * 8192))) / 128))))) := ⟨au12_1⟩
          (try clear HI0)
          (try clear HK)
          (try clear HB)
          generalize (w18.setCell ⟨g, 2, none⟩ (.int .u64 (Go.bits .xor .u64 (Go.bits .xor .u64 s0_2 (IntKind.u64.wrap (s0_2 * 8192))) ((Go.bits .xor .u64 s0_2 (IntKind.u64.wrap (s0_2 * 8192))) / 128)))) = w20 at n0_ n1_ n2_ ⊢
          have HI0 := n0_
          have HK := n1_
          have HB := n2_
          clear n0_ n1_ n2_
          obtain ⟨ASz21_0, cSz21_0, HGz21, hgz21, HSz21_0⟩ := HI0.out
          have hcz21_0 := cellS116_0 HGz21
          have hcz21_1 := cellS116_1 HGz21
          have hcz21_2 := cellS116_2 HGz21
          have hcz21_3 := cellS116_3 HGz21
          have hfz21_1 := blk_frozen HGz21 1
          have hfz21_2 := blk_frozen HGz21 2
          have hfz21_3 := blk_frozen HGz21 3
          clear HGz21 hgz21
          have n0_ := Aside0.mk (IsS116.drew HI0.out)
          have n1_ := Aside0.mk (keep_drew HK.out)
          have n2_ := Aside0.mk (below_drew1 HB.out)
          clear HI0
          clear HK
          clear HB
          have HI0 := n0_
          have HK := n1_
          have HB := n2_
          clear n0_ n1_ n2_
          have hdfz21_1 : w20.drew.frozen? ⟨g, 1, none⟩ = false := hfz21_1
          have hdfz21_2 : w20.drew.frozen? ⟨g, 2, none⟩ = false := hfz21_2
          have hdfz21_3 : w20.drew.frozen? ⟨g, 3, none⟩ = false := hfz21_3
          have hdz21_0 : w20.drew.cell? ⟨g, 0, none⟩ = some (.slice ASz21_0 s0_0.length cSz21_0) := hcz21_0
          have hdz21_1 : w20.drew.cell? ⟨g, 1, none⟩ = some (.int .i64 (wrap64 (s0_1 + 1))) := hcz21_1
          have hdz21_2 : w20.drew.cell? ⟨g, 2, none⟩ = some (.int .u64 (Go.bits .xor .u64 (Go.bits .xor .u64 s0_2 (IntKind.u64.wrap (s0_2 * 8192))) ((Go.bits .xor .u64 s0_2 (IntKind.u64.wrap (s0_2 * 8192))) / 128))) := hcz21_2
          have hdz21_3 : w20.drew.cell? ⟨g, 3, none⟩ = some (.int .i64 s0_3) := hcz21_3
          refine start_ (n := 14) (S := fun w' => w'.cell? ⟨g, 0, none⟩ = some (.slice ASz21_0 s0_0.length cSz21_0) ∧ w'.cell? ⟨g, 1, none⟩ = some (.int .i64 (wrap64 (s0_1 + 1))) ∧ w'.cell? ⟨g, 2, none⟩ = some (.int .u64 (Go.bits .xor .u64 (Go.bits .xor .u64 s0_2 (IntKind.u64.wrap (s0_2 * 8192))) ((Go.bits .xor .u64 s0_2 (IntKind.u64.wrap (s0_2 * 8192))) / 128))) ∧ w'.cell? ⟨g, 3, none⟩ = some (.int .i64 s0_3)) (ds := [13]) (bs 14 0) (by kernel_rfl) rfl rfl ⟨hdz21_0, hdz21_1, hdz21_2, hdz21_3⟩ (fun hHeld => ?_); refine with_tabW spec_l01Src_n.tab9 spec_l01Src_n.bits9 (fun HT_ HW_ => ?_)
          generalize w20.drew = w22 at hdfz21_1 hdfz21_2 hdfz21_3 hdz21_0 hdz21_1 hdz21_2 hdz21_3 HI0 HK HB hHeld ⊢
          refine pu_ 0 63 (bs 14 1) HT_ ?_ rfl rfl
          refine pu_ 1 64 (bs 14 3) HT_ ?_ rfl rfl
          refine pu_ 2 65 (bs 14 7) HT_ ?_ rfl rfl
          refine pu_ 3 66 (bs 14 15) HT_ ?_ rfl rfl
          refine pu_ 5 68 (bs 14 47) HT_ ?_ rfl rfl
          refine pu_ 6 69 (bs 14 111) HT_ ?_ rfl rfl
          refine pu_ 7 70 (bs 14 239) HT_ ?_ rfl rfl
          refine tk_ 4 67 (bs 14 255) HT_ HW_ hHeld au12_3 ?_ rfl rfl
          refine tk_ 8 71 (bs 14 511) HT_ HW_ hHeld au12_3 ?_ rfl rfl
          refine pu_ 9 72 (bs 14 1023) HT_ ?_ rfl rfl
          refine pu_ 10 73 (bs 14 2047) HT_ ?_ rfl rfl
          refine pu_ 11 74 (bs 14 4095) HT_ ?_ rfl rfl
          refine pu_ 12 75 (bs 14 8191) HT_ ?_ rfl rfl
          refine last_ (i := 13) (N := none) (bs 14 16383) rfl rfl (one_of HT_.out (by kernel_rfl)) (by decide) (fun K hK => ?_)
          have hs23 : w22.cell? ⟨g, 2, none⟩ = some (.int .u64 (Go.bits .xor .u64 (Go.bits .xor .u64 s0_2 (IntKind.u64.wrap (s0_2 * 8192))) ((Go.bits .xor .u64 s0_2 (IntKind.u64.wrap (s0_2 * 8192))) / 128))) := hdz21_2
          have hfs23 := hdfz21_2
          refine skip_ (w1 := ?_) (by rfl) rfl ?_ ?_
          rotate_left
          · go_simp
            rfl
          refine hK.out _ _ ?_
          clear hK K
          refine done_ (done_of HT_.out (by kernel_rfl)) ?_
          obtain ⟨ASz24_0, cSz24_0, HGz24, hgz24, HSz24_0⟩ := HI0.out
          have hcz24_0 := cellS116_0 HGz24
          have hcz24_1 := cellS116_1 HGz24
          have hcz24_2 := cellS116_2 HGz24
          have hcz24_3 := cellS116_3 HGz24
          have hfz24_1 := blk_frozen HGz24 1
          have hfz24_2 := blk_frozen HGz24 2
          have hfz24_3 := blk_frozen HGz24 3
          clear HGz24 hgz24
          try go_wp2
          go_ret
          exact ⟨au12_4, au12_0, au12_1, au12_2⟩
      · rw [if_neg c5] at H
        exact absurd H (by simp)
    · rw [if_neg c4] at H
      have c4b0 : decide (s0_1 < (s0_0.length : Int)) = false := decide_eq_false c4
      clear c4
      by_cases c25 : (IntKind.u64.wrap (a1)) = 0
      · rw [if_pos c25] at H
        exact absurd H (by simp)
      · rw [if_neg c25] at H
        have c25b0 : ((IntKind.u64.wrap (a1)) == 0) = false := beq_eq_false_iff_ne.mpr c25
        have c25b1 : ((IntKind.u64.wrap (a1)) != 0) = true := bne_iff_ne.mpr c25
        simp only [Option.some.injEq, Prod.mk.injEq] at H
        obtain ⟨rfl, rfl, rfl, rfl⟩ := H
        go_enter Try.func101, Try.ntmps101
        try go_wp2
        obtain ⟨ASz26_0, cSz26_0, HGz26, hgz26, HSz26_0⟩ := HI0.out
        have hcz26_0 := cellS116_0 HGz26
        have hcz26_1 := cellS116_1 HGz26
        have hcz26_2 := cellS116_2 HGz26
        have hcz26_3 := cellS116_3 HGz26
        have hfz26_1 := blk_frozen HGz26 1
        have hfz26_2 := blk_frozen HGz26 2
        have hfz26_3 := blk_frozen HGz26 3
        clear HGz26 hgz26
        have n0_ := Aside0.mk (IsS116.drew HI0.out)
        have n1_ := Aside0.mk (keep_drew HK.out)
        have n2_ := Aside0.mk (below_drew1 HB.out)
        clear HI0
        clear HK
        clear HB
        have HI0 := n0_
        have HK := n1_
        have HB := n2_
        clear n0_ n1_ n2_
        have hdfz26_1 : w.drew.frozen? ⟨g, 1, none⟩ = false := hfz26_1
        have hdfz26_2 : w.drew.frozen? ⟨g, 2, none⟩ = false := hfz26_2
        have hdfz26_3 : w.drew.frozen? ⟨g, 3, none⟩ = false := hfz26_3
        have hdz26_0 : w.drew.cell? ⟨g, 0, none⟩ = some (.slice ASz26_0 s0_0.length cSz26_0) := hcz26_0
        have hdz26_1 : w.drew.cell? ⟨g, 1, none⟩ = some (.int .i64 s0_1) := hcz26_1
        have hdz26_2 : w.drew.cell? ⟨g, 2, none⟩ = some (.int .u64 s0_2) := hcz26_2
        have hdz26_3 : w.drew.cell? ⟨g, 3, none⟩ = some (.int .i64 s0_3) := hcz26_3
        refine start_ (n := 10) (S := fun w' => w'.cell? ⟨g, 0, none⟩ = some (.slice ASz26_0 s0_0.length cSz26_0) ∧ w'.cell? ⟨g, 1, none⟩ = some (.int .i64 s0_1) ∧ w'.cell? ⟨g, 2, none⟩ = some (.int .u64 s0_2) ∧ w'.cell? ⟨g, 3, none⟩ = some (.int .i64 s0_3)) (ds := []) (bs 10 0) (by kernel_rfl) rfl rfl ⟨hdz26_0, hdz26_1, hdz26_2, hdz26_3⟩ (fun hHeld => ?_); refine with_tabW spec_l01Src_n.tab4 spec_l01Src_n.bits4 (fun HT_ HW_ => ?_)
        generalize w.drew = w27 at hdfz26_1 hdfz26_2 hdfz26_3 hdz26_0 hdz26_1 hdz26_2 hdz26_3 HI0 HK HB hHeld ⊢
        refine pu_ 0 8 (bs 10 1) HT_ ?_ rfl rfl
        refine pu_ 1 9 (bs 10 3) HT_ ?_ rfl rfl
        refine pu_ 2 10 (bs 10 7) HT_ ?_ rfl rfl
        refine pu_ 4 12 (bs 10 23) HT_ ?_ rfl rfl
        refine pu_ 5 13 (bs 10 55) HT_ ?_ rfl rfl
        refine pu_ 6 14 (bs 10 119) HT_ ?_ rfl rfl
        refine tk_ 3 11 (bs 10 127) HT_ HW_ hHeld au12_3 ?_ rfl rfl
        refine tk_ 7 15 (bs 10 255) HT_ HW_ hHeld au12_3 ?_ rfl rfl
        refine pu_ 8 16 (bs 10 511) HT_ ?_ rfl rfl
        refine pu_ 9 17 (bs 10 1023) HT_ ?_ rfl rfl
        refine done_ (done_of HT_.out (by kernel_rfl)) ?_
        try go_wp2
        obtain ⟨ASz28_0, cSz28_0, HGz28, hgz28, HSz28_0⟩ := HI0.out
        have hcz28_0 := cellS116_0 HGz28
        have hcz28_1 := cellS116_1 HGz28
        have hcz28_2 := cellS116_2 HGz28
        have hcz28_3 := cellS116_3 HGz28
        have hfz28_1 := blk_frozen HGz28 1
        have hfz28_2 := blk_frozen HGz28 2
        have hfz28_3 := blk_frozen HGz28 3
        clear HGz28 hgz28
        have n0_ := Aside0.mk (IsS116.drew HI0.out)
        have n1_ := Aside0.mk (keep_drew HK.out)
        have n2_ := Aside0.mk (below_drew1 HB.out)
        clear HI0
        clear HK
        clear HB
        have HI0 := n0_
        have HK := n1_
        have HB := n2_
        clear n0_ n1_ n2_
        have hdfz28_1 : w27.drew.frozen? ⟨g, 1, none⟩ = false := hfz28_1
        have hdfz28_2 : w27.drew.frozen? ⟨g, 2, none⟩ = false := hfz28_2
        have hdfz28_3 : w27.drew.frozen? ⟨g, 3, none⟩ = false := hfz28_3
        have hdz28_0 : w27.drew.cell? ⟨g, 0, none⟩ = some (.slice ASz28_0 s0_0.length cSz28_0) := hcz28_0
        have hdz28_1 : w27.drew.cell? ⟨g, 1, none⟩ = some (.int .i64 s0_1) := hcz28_1
        have hdz28_2 : w27.drew.cell? ⟨g, 2, none⟩ = some (.int .u64 s0_2) := hcz28_2
        have hdz28_3 : w27.drew.cell? ⟨g, 3, none⟩ = some (.int .i64 s0_3) := hcz28_3
        refine start_ (n := 14) (S := fun w' => w'.cell? ⟨g, 0, none⟩ = some (.slice ASz28_0 s0_0.length cSz28_0) ∧ w'.cell? ⟨g, 1, none⟩ = some (.int .i64 s0_1) ∧ w'.cell? ⟨g, 2, none⟩ = some (.int .u64 s0_2) ∧ w'.cell? ⟨g, 3, none⟩ = some (.int .i64 s0_3)) (ds := [13]) (bs 14 0) (by kernel_rfl) rfl rfl ⟨hdz28_0, hdz28_1, hdz28_2, hdz28_3⟩ (fun hHeld => ?_); refine with_tabW spec_l01Src_n.tab7 spec_l01Src_n.bits7 (fun HT_ HW_ => ?_)
        generalize w27.drew = w29 at hdfz28_1 hdfz28_2 hdfz28_3 hdz28_0 hdz28_1 hdz28_2 hdz28_3 HI0 HK HB hHeld ⊢
        refine pu_ 0 37 (bs 14 1) HT_ ?_ rfl rfl
        refine pu_ 1 38 (bs 14 3) HT_ ?_ rfl rfl
        refine pu_ 2 39 (bs 14 7) HT_ ?_ rfl rfl
        refine pu_ 3 40 (bs 14 15) HT_ ?_ rfl rfl
        refine pu_ 5 42 (bs 14 47) HT_ ?_ rfl rfl
        refine pu_ 6 43 (bs 14 111) HT_ ?_ rfl rfl
        refine pu_ 7 44 (bs 14 239) HT_ ?_ rfl rfl
        refine tk_ 4 41 (bs 14 255) HT_ HW_ hHeld au12_3 ?_ rfl rfl
        refine tk_ 8 45 (bs 14 511) HT_ HW_ hHeld au12_3 ?_ rfl rfl
        refine pu_ 9 46 (bs 14 1023) HT_ ?_ rfl rfl
        refine pu_ 10 47 (bs 14 2047) HT_ ?_ rfl rfl
        refine pu_ 11 48 (bs 14 4095) HT_ ?_ rfl rfl
        refine pu_ 12 49 (bs 14 8191) HT_ ?_ rfl rfl
        refine last_ (i := 13) (N := none) (bs 14 16383) rfl rfl (one_of HT_.out (by kernel_rfl)) (by decide) (fun K hK => ?_)
        have hs30 : w29.cell? ⟨g, 2, none⟩ = some (.int .u64 s0_2) := hdz28_2
        have hfs30 := hdfz28_2
        refine skip_ (w1 := ?_) (by rfl) rfl ?_ ?_
        rotate_left
        · go_simp
          rfl
        refine hK.out _ _ ?_
        clear hK K
        refine done_ (done_of HT_.out (by kernel_rfl)) ?_
        try go_wp2
        have n0_ : Aside0 (IsS116 w0 (w29.setCell ⟨g, 2, none⟩ (.int .u64 (Go.bits .xor .u64 s0_2 (IntKind.u64.wrap (s0_2 * 8192))))) g s0_0 s0_1 (Go.bits .xor .u64 s0_2 (IntKind.u64.wrap (s0_2 * 8192))) s0_3) := ⟨au12_0⟩
        have n1_ : Aside0 (KeepBut w (w29.setCell ⟨g, 2, none⟩ (.int .u64 (Go.bits .xor .u64 s0_2 (IntKind.u64.wrap (s0_2 * 8192))))) g none) := ⟨au12_2⟩
        have n2_ : Aside0 (Below w0.heap.size w0 (w29.setCell ⟨g, 2, none⟩ (.int .u64 (Go.bits .xor .u64 s0_2 (IntKind.u64.wrap (s0_2 * 8192)))))) := ⟨au12_1⟩
        (try clear HI0)
        (try clear HK)
        (try clear HB)
        generalize (w29.setCell ⟨g, 2, none⟩ (.int .u64 (Go.bits .xor .u64 s0_2 (IntKind.u64.wrap (s0_2 * 8192))))) = w31 at n0_ n1_ n2_ ⊢
        have HI0 := n0_
        have HK := n1_
        have HB := n2_
        clear n0_ n1_ n2_
        obtain ⟨ASz32_0, cSz32_0, HGz32, hgz32, HSz32_0⟩ := HI0.out
        have hcz32_0 := cellS116_0 HGz32
        have hcz32_1 := cellS116_1 HGz32
        have hcz32_2 := cellS116_2 HGz32
        have hcz32_3 := cellS116_3 HGz32
        have hfz32_1 := blk_frozen HGz32 1
        have hfz32_2 := blk_frozen HGz32 2
        have hfz32_3 := blk_frozen HGz32 3
        clear HGz32 hgz32
        have n0_ := Aside0.mk (IsS116.drew HI0.out)
        have n1_ := Aside0.mk (keep_drew HK.out)
        have n2_ := Aside0.mk (below_drew1 HB.out)
        clear HI0
        clear HK
        clear HB
        have HI0 := n0_
        have HK := n1_
        have HB := n2_
        clear n0_ n1_ n2_
        have hdfz32_1 : w31.drew.frozen? ⟨g, 1, none⟩ = false := hfz32_1
        have hdfz32_2 : w31.drew.frozen? ⟨g, 2, none⟩ = false := hfz32_2
        have hdfz32_3 : w31.drew.frozen? ⟨g, 3, none⟩ = false := hfz32_3
        have hdz32_0 : w31.drew.cell? ⟨g, 0, none⟩ = some (.slice ASz32_0 s0_0.length cSz32_0) := hcz32_0
        have hdz32_1 : w31.drew.cell? ⟨g, 1, none⟩ = some (.int .i64 s0_1) := hcz32_1
        have hdz32_2 : w31.drew.cell? ⟨g, 2, none⟩ = some (.int .u64 (Go.bits .xor .u64 s0_2 (IntKind.u64.wrap (s0_2 * 8192)))) := hcz32_2
        have hdz32_3 : w31.drew.cell? ⟨g, 3, none⟩ = some (.int .i64 s0_3) := hcz32_3
        refine start_ (n := 14) (S := fun w' => w'.cell? ⟨g, 0, none⟩ = some (.slice ASz32_0 s0_0.length cSz32_0) ∧ w'.cell? ⟨g, 1, none⟩ = some (.int .i64 s0_1) ∧ w'.cell? ⟨g, 2, none⟩ = some (.int .u64 (Go.bits .xor .u64 s0_2 (IntKind.u64.wrap (s0_2 * 8192)))) ∧ w'.cell? ⟨g, 3, none⟩ = some (.int .i64 s0_3)) (ds := [13]) (bs 14 0) (by kernel_rfl) rfl rfl ⟨hdz32_0, hdz32_1, hdz32_2, hdz32_3⟩ (fun hHeld => ?_); refine with_tabW spec_l01Src_n.tab8 spec_l01Src_n.bits8 (fun HT_ HW_ => ?_)
        generalize w31.drew = w33 at hdfz32_1 hdfz32_2 hdfz32_3 hdz32_0 hdz32_1 hdz32_2 hdz32_3 HI0 HK HB hHeld ⊢
        refine pu_ 0 50 (bs 14 1) HT_ ?_ rfl rfl
        refine pu_ 1 51 (bs 14 3) HT_ ?_ rfl rfl
        refine pu_ 2 52 (bs 14 7) HT_ ?_ rfl rfl
        refine pu_ 3 53 (bs 14 15) HT_ ?_ rfl rfl
        refine pu_ 5 55 (bs 14 47) HT_ ?_ rfl rfl
        refine pu_ 6 56 (bs 14 111) HT_ ?_ rfl rfl
        refine pu_ 7 57 (bs 14 239) HT_ ?_ rfl rfl
        refine tk_ 4 54 (bs 14 255) HT_ HW_ hHeld au12_3 ?_ rfl rfl
        refine tk_ 8 58 (bs 14 511) HT_ HW_ hHeld au12_3 ?_ rfl rfl
        refine pu_ 9 59 (bs 14 1023) HT_ ?_ rfl rfl
        refine pu_ 10 60 (bs 14 2047) HT_ ?_ rfl rfl
        refine pu_ 11 61 (bs 14 4095) HT_ ?_ rfl rfl
        refine pu_ 12 62 (bs 14 8191) HT_ ?_ rfl rfl
        refine last_ (i := 13) (N := none) (bs 14 16383) rfl rfl (one_of HT_.out (by kernel_rfl)) (by decide) (fun K hK => ?_)
        have hs34 : w33.cell? ⟨g, 2, none⟩ = some (.int .u64 (Go.bits .xor .u64 s0_2 (IntKind.u64.wrap (s0_2 * 8192)))) := hdz32_2
        have hfs34 := hdfz32_2
        refine skip_ (w1 := ?_) (by rfl) rfl ?_ ?_
        rotate_left
        · go_simp
          rfl
        refine hK.out _ _ ?_
        clear hK K
        refine done_ (done_of HT_.out (by kernel_rfl)) ?_
        try go_wp2
        have n0_ : Aside0 (IsS116 w0 (w33.setCell ⟨g, 2, none⟩ (.int .u64 (Go.bits .xor .u64 (Go.bits .xor .u64 s0_2 (IntKind.u64.wrap (s0_2 * 8192))) ((Go.bits .xor .u64 s0_2 (IntKind.u64.wrap (s0_2 * 8192))) / 128)))) g s0_0 s0_1 (Go.bits .xor .u64 (Go.bits .xor .u64 s0_2 (IntKind.u64.wrap (s0_2 * 8192))) ((Go.bits .xor .u64 s0_2 (IntKind.u64.wrap (s0_2 * 8192))) / 128)) s0_3) := ⟨au12_0⟩
        have n1_ : Aside0 (KeepBut w (w33.setCell ⟨g, 2, none⟩ (.int .u64 (Go.bits .xor .u64 (Go.bits .xor .u64 s0_2 (IntKind.u64.wrap (s0_2 * 8192))) ((Go.bits .xor .u64 s0_2 (IntKind.u64.wrap (s0_2 * 8192))) / 128)))) g none) := ⟨au12_2⟩
        have n2_ : Aside0 (Below w0.heap.size w0 (w33.setCell ⟨g, 2, none⟩ (.int .u64 (Go.bits .xor .u64 (Go.bits .xor .u64 s0_2 (IntKind.u64.wrap (s0_2 * 8192))) ((Go.bits .xor .u64 s0_2 (IntKind.u64.wrap (s0_2 * 8192))) / 128))))) := ⟨au12_1⟩
        (try clear HI0)
        (try clear HK)
        (try clear HB)
        generalize (w33.setCell ⟨g, 2, none⟩ (.int .u64 (Go.bits .xor .u64 (Go.bits .xor .u64 s0_2 (IntKind.u64.wrap (s0_2 * 8192))) ((Go.bits .xor .u64 s0_2 (IntKind.u64.wrap (s0_2 * 8192))) / 128)))) = w35 at n0_ n1_ n2_ ⊢
        have HI0 := n0_
        have HK := n1_
        have HB := n2_
        clear n0_ n1_ n2_
        obtain ⟨ASz36_0, cSz36_0, HGz36, hgz36, HSz36_0⟩ := HI0.out
        have hcz36_0 := cellS116_0 HGz36
        have hcz36_1 := cellS116_1 HGz36
        have hcz36_2 := cellS116_2 HGz36
        have hcz36_3 := cellS116_3 HGz36
        have hfz36_1 := blk_frozen HGz36 1
        have hfz36_2 := blk_frozen HGz36 2
        have hfz36_3 := blk_frozen HGz36 3
        clear HGz36 hgz36
        have n0_ := Aside0.mk (IsS116.drew HI0.out)
        have n1_ := Aside0.mk (keep_drew HK.out)
        have n2_ := Aside0.mk (below_drew1 HB.out)
        clear HI0
        clear HK
        clear HB
        have HI0 := n0_
        have HK := n1_
        have HB := n2_
        clear n0_ n1_ n2_
        have hdfz36_1 : w35.drew.frozen? ⟨g, 1, none⟩ = false := hfz36_1
        have hdfz36_2 : w35.drew.frozen? ⟨g, 2, none⟩ = false := hfz36_2
        have hdfz36_3 : w35.drew.frozen? ⟨g, 3, none⟩ = false := hfz36_3
        have hdz36_0 : w35.drew.cell? ⟨g, 0, none⟩ = some (.slice ASz36_0 s0_0.length cSz36_0) := hcz36_0
        have hdz36_1 : w35.drew.cell? ⟨g, 1, none⟩ = some (.int .i64 s0_1) := hcz36_1
        have hdz36_2 : w35.drew.cell? ⟨g, 2, none⟩ = some (.int .u64 (Go.bits .xor .u64 (Go.bits .xor .u64 s0_2 (IntKind.u64.wrap (s0_2 * 8192))) ((Go.bits .xor .u64 s0_2 (IntKind.u64.wrap (s0_2 * 8192))) / 128))) := hcz36_2
        have hdz36_3 : w35.drew.cell? ⟨g, 3, none⟩ = some (.int .i64 s0_3) := hcz36_3
        refine start_ (n := 14) (S := fun w' => w'.cell? ⟨g, 0, none⟩ = some (.slice ASz36_0 s0_0.length cSz36_0) ∧ w'.cell? ⟨g, 1, none⟩ = some (.int .i64 s0_1) ∧ w'.cell? ⟨g, 2, none⟩ = some (.int .u64 (Go.bits .xor .u64 (Go.bits .xor .u64 s0_2 (IntKind.u64.wrap (s0_2 * 8192))) ((Go.bits .xor .u64 s0_2 (IntKind.u64.wrap (s0_2 * 8192))) / 128))) ∧ w'.cell? ⟨g, 3, none⟩ = some (.int .i64 s0_3)) (ds := [13]) (bs 14 0) (by kernel_rfl) rfl rfl ⟨hdz36_0, hdz36_1, hdz36_2, hdz36_3⟩ (fun hHeld => ?_); refine with_tabW spec_l01Src_n.tab9 spec_l01Src_n.bits9 (fun HT_ HW_ => ?_)
        generalize w35.drew = w37 at hdfz36_1 hdfz36_2 hdfz36_3 hdz36_0 hdz36_1 hdz36_2 hdz36_3 HI0 HK HB hHeld ⊢
        refine pu_ 0 63 (bs 14 1) HT_ ?_ rfl rfl
        refine pu_ 1 64 (bs 14 3) HT_ ?_ rfl rfl
        refine pu_ 2 65 (bs 14 7) HT_ ?_ rfl rfl
        refine pu_ 3 66 (bs 14 15) HT_ ?_ rfl rfl
        refine pu_ 5 68 (bs 14 47) HT_ ?_ rfl rfl
        refine pu_ 6 69 (bs 14 111) HT_ ?_ rfl rfl
        refine pu_ 7 70 (bs 14 239) HT_ ?_ rfl rfl
        refine tk_ 4 67 (bs 14 255) HT_ HW_ hHeld au12_3 ?_ rfl rfl
        refine tk_ 8 71 (bs 14 511) HT_ HW_ hHeld au12_3 ?_ rfl rfl
        refine pu_ 9 72 (bs 14 1023) HT_ ?_ rfl rfl
        refine pu_ 10 73 (bs 14 2047) HT_ ?_ rfl rfl
        refine pu_ 11 74 (bs 14 4095) HT_ ?_ rfl rfl
        refine pu_ 12 75 (bs 14 8191) HT_ ?_ rfl rfl
        refine last_ (i := 13) (N := none) (bs 14 16383) rfl rfl (one_of HT_.out (by kernel_rfl)) (by decide) (fun K hK => ?_)
        have hs38 : w37.cell? ⟨g, 2, none⟩ = some (.int .u64 (Go.bits .xor .u64 (Go.bits .xor .u64 s0_2 (IntKind.u64.wrap (s0_2 * 8192))) ((Go.bits .xor .u64 s0_2 (IntKind.u64.wrap (s0_2 * 8192))) / 128))) := hdz36_2
        have hfs38 := hdfz36_2
        refine skip_ (w1 := ?_) (by rfl) rfl ?_ ?_
        rotate_left
        · go_simp
          rfl
        refine hK.out _ _ ?_
        clear hK K
        refine done_ (done_of HT_.out (by kernel_rfl)) ?_
        obtain ⟨ASz39_0, cSz39_0, HGz39, hgz39, HSz39_0⟩ := HI0.out
        have hcz39_0 := cellS116_0 HGz39
        have hcz39_1 := cellS116_1 HGz39
        have hcz39_2 := cellS116_2 HGz39
        have hcz39_3 := cellS116_3 HGz39
        have hfz39_1 := blk_frozen HGz39 1
        have hfz39_2 := blk_frozen HGz39 2
        have hfz39_3 := blk_frozen HGz39 3
        clear HGz39 hgz39
        try go_wp2
        go_ret
        exact ⟨au12_4, au12_0, au12_1, au12_2⟩

end Go.Proofs.Ytjffakoifpldeaa.PFnCross
