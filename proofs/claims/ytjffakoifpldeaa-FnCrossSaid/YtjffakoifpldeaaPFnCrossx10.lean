-- printed by a program of this session (wip/xp/xprint.py) out of the translation; Lean checks it
import Derived.Test.YtjffakoifpldeaaPFnCrossx0
import Derived.Test.YtjffakoifpldeaaPFnCrossx4
namespace Go.Proofs.Ytjffakoifpldeaa.PFnCross
open Go.RowKit Go.Proofs.YtjffakoifpldeaaW.PrintWords Go.Proofs.YtjffakoifpldeaaW.PrintLast Go.Proofs.YtjffakoifpldeaaW.PrintMore
attribute [local go_sem] max2_int min2_int max_two min_two max_three min_three max_four min_four   -- for this text's walks alone
set_option linter.unusedVariables false
set_option linter.unusedSimpArgs false

theorem au10_0 {p : Prop} (h : p := by rintro w' ⟨s0, s1, s2, s3, s4, s5⟩; go_simp; with_reducible rfl) : p := h
theorem au10_1 {p : Prop} (h : p := by (try simp only [List.map_toArray, List.map_cons, List.map_nil]); first | done | (simp only [hji6]; rfl) | rfl | (simp only [List.length_drop, List.length_take]; rfl)) : p := h
theorem au10_2 {p : Prop} (h : p := by first | rfl | (simp [errW_none, errW_some] <;> rfl) | (simp [*, errW_none, errW_some] <;> rfl)) : p := h
theorem au10_3 {p : Prop} (h : p := by first | rfl | (simp; done) | (simp only [← hji6] <;> (first | rfl | simp)) | (simp [*]; done)) : p := h

/-! ### impl_Cross_69__impl_crossOrder: function 69 -/
def impl_Cross_69__impl_crossOrder.l0 : Nat → List (S37) → Int → Int → Int → ByteArray → ByteArray → ByteArray → Option (Int × Bool)
  | 0, _, _, _, _, _, _, _ => none
  | k + 1, x0, x8, x9, x10, x224000, x224001, x224002 => if x9 < x10 then (if 0 ≤ (wrap64 ((IntKind.u64.wrap (wrap64 (x9 + x10))) / 2)) then (if (wrap64 ((IntKind.u64.wrap (wrap64 (x9 + x10))) / 2)) < (x0.length : Int) then ((impl_crossOrder.f k ((rd_T37 x0 (wrap64 ((IntKind.u64.wrap (wrap64 (x9 + x10))) / 2))).f0) ((rd_T37 x0 (wrap64 ((IntKind.u64.wrap (wrap64 (x9 + x10))) / 2))).f1) ((rd_T37 x0 (wrap64 ((IntKind.u64.wrap (wrap64 (x9 + x10))) / 2))).f2) x224000 x224001 x224002).bind fun t225 => (if t225 < 0 then (impl_Cross_69__impl_crossOrder.l0 k x0 x8 (wrap64 ((wrap64 ((IntKind.u64.wrap (wrap64 (x9 + x10))) / 2)) + 1)) x10 x224000 x224001 x224002) else (impl_Cross_69__impl_crossOrder.l0 k x0 x8 x9 (wrap64 ((IntKind.u64.wrap (wrap64 (x9 + x10))) / 2)) x224000 x224001 x224002))) else (none)) else (none)) else (if x9 < x8 then (if 0 ≤ x9 then (if x9 < (x0.length : Int) then ((impl_crossOrder.f k ((rd_T37 x0 x9).f0) ((rd_T37 x0 x9).f1) ((rd_T37 x0 x9).f2) x224000 x224001 x224002).bind fun t227 => (some (x9, (t227 == 0)))) else (none)) else (none)) else (some (x9, false)))
def impl_Cross_69__impl_crossOrder.f (k : Nat) (l0 : List (S37)) (a1_0 : ByteArray) (a1_1 : ByteArray) (a1_2 : ByteArray)  : Option (Int × Bool) := impl_Cross_69__impl_crossOrder.l0 k l0 (l0.length : Int) 0 (l0.length : Int) a1_0 a1_1 a1_2
theorem impl_Cross_69__impl_crossOrder.mono_l : ∀ k, (∀ y0 y1 y2 y3 y4 y5 y6, LeO (impl_Cross_69__impl_crossOrder.l0 k y0 y1 y2 y3 y4 y5 y6) (impl_Cross_69__impl_crossOrder.l0 (k + 1) y0 y1 y2 y3 y4 y5 y6))
  | 0 => fun _ _ _ _ _ _ _ r h => by simp [impl_Cross_69__impl_crossOrder.l0] at h
  | k + 1 => by
    have ih0 := impl_Cross_69__impl_crossOrder.mono_l k
    · intro y0 y1 y2 y3 y4 y5 y6
      unfold impl_Cross_69__impl_crossOrder.l0
      repeat' first
      | (with_reducible exact ih0 _ _ _ _ _ _ _)
      | (with_reducible exact impl_crossOrder.mono _ _ _ _ _ _ _)
      | (with_reducible exact LeO.refl _)
      | (with_reducible exact LeO.none _)
      | (with_reducible refine LeO.ite ?_ ?_)
      | (with_reducible refine LeO.bind ?_ (fun _ => ?_))
      | exact ih0 _ _ _ _ _ _ _
      | exact impl_crossOrder.mono _ _ _ _ _ _ _
      | exact LeO.none _
      | refine LeO.ite ?_ ?_
      | refine LeO.bind ?_ (fun _ => ?_)
theorem impl_Cross_69__impl_crossOrder.mono : ∀ a0 a1 a2 a3 k, LeO (impl_Cross_69__impl_crossOrder.f k a0 a1 a2 a3) (impl_Cross_69__impl_crossOrder.f (k + 1) a0 a1 a2 a3) := by
  intro a0 a1 a2 a3 k
  have ih0 := impl_Cross_69__impl_crossOrder.mono_l k
  unfold impl_Cross_69__impl_crossOrder.f
  repeat' first
      | (with_reducible exact ih0 _ _ _ _ _ _ _)
      | (with_reducible exact impl_crossOrder.mono _ _ _ _ _ _ _)
      | (with_reducible exact LeO.refl _)
      | (with_reducible exact LeO.none _)
      | (with_reducible refine LeO.ite ?_ ?_)
      | (with_reducible refine LeO.bind ?_ (fun _ => ?_))
      | exact ih0 _ _ _ _ _ _ _
      | exact impl_crossOrder.mono _ _ _ _ _ _ _
      | exact LeO.none _
      | refine LeO.ite ?_ ?_
      | refine LeO.bind ?_ (fun _ => ?_)
def impl_Cross_69__impl_crossOrder.T5 : Bool × List (List Nat × List Nat) := (true, [([], []), ([], []), ([], []), ([1, 2], [1, 2]), ([3], [3]), ([], []), ([0, 4, 5], [0, 4, 5]), ([6], [6])])
def impl_Cross_69__impl_crossOrder.B5 : List Nat := [0, 0, 0, 6, 14, 0, 63, 127]
theorem impl_Cross_69__impl_crossOrder.tab5 : rtab .any (opsOf Try.f69 5) = impl_Cross_69__impl_crossOrder.T5 := by kernel_rfl
theorem impl_Cross_69__impl_crossOrder.bits5 : waitsOk impl_Cross_69__impl_crossOrder.T5.2 impl_Cross_69__impl_crossOrder.B5 = true := by kernel_rfl
def impl_Cross_69__impl_crossOrder.T8 : Bool × List (List Nat × List Nat) := (true, [([], []), ([], []), ([], []), ([1, 2], [1, 2]), ([3], [3]), ([4], [4]), ([4], [4]), ([4], [4]), ([6, 7, 4], [4, 6, 7]), ([8, 4], [4, 8]), ([4], [4]), ([5, 9, 10, 4, 4], [4, 5, 9, 10]), ([11, 4], [4, 11]), ([4, 12], [4, 12]), ([0, 11, 0], [0]), ([13, 14, 0, 1, 2, 3, 4, 5, 6, 7, 8, 9, 10, 11, 12, 13, 14], [13])])
def impl_Cross_69__impl_crossOrder.B8 : List Nat := [0, 0, 0, 6, 14, 30, 30, 30, 222, 478, 30, 2046, 4094, 8190, 4095, 32767]
theorem impl_Cross_69__impl_crossOrder.tab8 : rtab .any (opsOf Try.f69 8) = impl_Cross_69__impl_crossOrder.T8 := by kernel_rfl
theorem impl_Cross_69__impl_crossOrder.bits8 : waitsOk impl_Cross_69__impl_crossOrder.T8.2 impl_Cross_69__impl_crossOrder.B8 = true := by kernel_rfl
set_option maxHeartbeats 8000000 in
set_option maxRecDepth 100000 in
theorem impl_Cross_69__impl_crossOrder.calls (k : Nat) (A0 : Option Addr) (c0 : Nat) (l0 : List (S37)) (a1_0 : ByteArray) (a1_1 : ByteArray) (a1_2 : ByteArray)  (r1 : Int) (r2 : Bool) (w : World) (hr0 : Kd.C k37 w A0 l0.length l0) (hc0 : l0.length ≤ c0) (h : impl_Cross_69__impl_crossOrder.f k l0 a1_0 a1_1 a1_2 = some (r1, r2)) :
    Calls Try.prog 69 #[.slice A0 l0.length c0, .agg #[.string a1_0, .string a1_1, .string a1_2], .func (.func 57) #[] #[]] w fun e w' => e = .returned (.tuple #[.int .i64 r1, .bool r2]) ∧ Below w.heap.size w w' := by
  have hu37 := Try.underlying37
  have HR0 := Aside0.mk hr0
  have HC0 := Aside0.mk hc0
  clear hr0 hc0
  have HB := Aside0.mk (Below.refl w.heap.size w)
  have H : (impl_Cross_69__impl_crossOrder.l0 k l0 (l0.length : Int) 0 (l0.length : Int) a1_0 a1_1 a1_2) = some (r1, r2) := h
  clear h
  have H' := Aside0.mk H
  clear H
  go_enter Try.func69, Try.ntmps69
  go_wp2_with (first | ((with_reducible refine gate_dst (N := 4) rfl ?_); refine box_event ?hg (N := 4) ?hd (cs := #[.string a1_0, .string a1_1, .string a1_2]) (t := 37) ?hr ?_; (case hd => rfl); (case hg => rfl); (case hr => exact hr_); intro gb223 hg w4 hbox hb; have n0_ := Aside0.mk (below_step bl_ hb); have n1_ := Aside0.mk (hbox); have n2_ := Aside0.mk (gw_ hg bl_); have n3_ := Aside0.mk (gw_ hg bl_); clear HB; have HB := n0_; have BK223 := n1_; have GW223 := n2_; have GE223 := n3_; clear n0_ n1_ n2_ n3_; clear hb hbox hg))
  go_loopg [9, 10] k (fun kq v9 v10 w' => ∃ (x9_1 : Int) (x10_1 : Int), v9 = .int .i64 x9_1 ∧ v10 = .int .i64 x10_1 ∧ Aside0 (impl_Cross_69__impl_crossOrder.l0 kq l0 (l0.length : Int) x9_1 x10_1 a1_0 a1_1 a1_2 = some (r1, r2)) ∧ Aside0 (kq ≤ k) ∧ Aside0 (w'.heap[gb223]? = some (.cells #[.string a1_0, .string a1_1, .string a1_2] 37 (0, 0))) ∧ Aside0 (Below w.heap.size w w'))
  case atStart => exact ⟨(0), ((l0.length : Int)), er_, er_, H', ⟨Nat.le_refl _⟩, ⟨bk_ BK223⟩, ⟨bl_⟩⟩
  case round =>
    clear H'
    try clear p2
    obtain ⟨x9_1, x10_1, rfl, rfl, HA, HK1, BK223, HB⟩ := hrel
    cases gk with
    | zero => exact absurd HA.out (by simp [impl_Cross_69__impl_crossOrder.l0])
    | succ k1 =>
      have H := HA.out
      clear HA
      simp only [impl_Cross_69__impl_crossOrder.l0] at H
      by_cases c5 : x9_1 < x10_1
      · rw [if_pos c5] at H
        have c5b0 : decide (x9_1 < x10_1) = true := decide_eq_true c5
        clear c5
        obtain ⟨ji6, hji6⟩ : ∃ j_ : Int, (wrap64 ((IntKind.u64.wrap (wrap64 (x9_1 + x10_1))) / 2)) = j_ := ⟨_, rfl⟩
        replace H : (if 0 ≤ (ji6) then (if (ji6) < (l0.length : Int) then ((impl_crossOrder.f k1 ((rd_T37 l0 (ji6)).f0) ((rd_T37 l0 (ji6)).f1) ((rd_T37 l0 (ji6)).f2) a1_0 a1_1 a1_2).bind fun t225 => (if t225 < 0 then (impl_Cross_69__impl_crossOrder.l0 k1 l0 (l0.length : Int) (wrap64 ((ji6) + 1)) x10_1 a1_0 a1_1 a1_2) else (impl_Cross_69__impl_crossOrder.l0 k1 l0 (l0.length : Int) x9_1 ji6 a1_0 a1_1 a1_2))) else (none)) else (none)) = some (r1, r2) := by first | (rw [hji6] at H; exact H) | (simp only [hji6] at H ⊢; exact H)
        have hji6w : (IntKind.i64.wrap ((IntKind.u64.wrap (wrap64 (x9_1 + x10_1))) / 2)) = ji6 := (i64_w _).trans hji6
        by_cases c7 : 0 ≤ (ji6)
        · rw [if_pos c7] at H
          have c7b0 : decide (0 ≤ (ji6)) = true := decide_eq_true c7
          clear c7
          by_cases c8 : (ji6) < (l0.length : Int)
          · rw [if_pos c8] at H
            have c8b0 : decide ((ji6) < (l0.length : Int)) = true := decide_eq_true c8
            clear c8
            replace H := Option.bind_eq_some_iff.mp H
            obtain ⟨t225, A90, H⟩ := H
            replace H : (if t225 < 0 then (impl_Cross_69__impl_crossOrder.l0 k1 l0 (l0.length : Int) (wrap64 ((ji6) + 1)) x10_1 a1_0 a1_1 a1_2) else (impl_Cross_69__impl_crossOrder.l0 k1 l0 (l0.length : Int) x9_1 ji6 a1_0 a1_1 a1_2)) = some (r1, r2) := H
            have A9 := Aside0.mk A90
            clear A90
            by_cases c10 : t225 < 0
            · rw [if_pos c10] at H
              have c10b0 : decide (t225 < 0) = true := decide_eq_true c10
              clear c10
              have H' := Aside0.mk H
              clear H
              try go_wp2
              have n0_ := Aside0.mk (blk_drew BK223.out)
              have n1_ := Aside0.mk (below_drew1 HB.out)
              clear BK223
              clear HB
              have BK223 := n0_
              have HB := n1_
              clear n0_ n1_
              have p224 : 0 ≤ ((ji6) : Int) := of_decide_eq_true as_
              have q224 : (ji6) < (l0.length : Int) := of_decide_eq_true as_
              obtain ⟨ad224, e224, hx224_0, hx224_1, hx224_2⟩ := at_T37 HR0.out (ji6) p224 q224
              have hw224_2 := hx224_2
              have hw224_1 := hx224_1
              have hw224_0 := hx224_0
              cases e224
              replace hx224_0 := (HB.out.cell (World.block_lt_of_cell? _ _ hx224_0)).trans hx224_0
              replace hx224_1 := (HB.out.cell (World.block_lt_of_cell? _ _ hx224_1)).trans hx224_1
              replace hx224_2 := (HB.out.cell (World.block_lt_of_cell? _ _ hx224_2)).trans hx224_2
              replace p224 := eq_true p224
              replace q224 := eq_true q224
              refine start_ (n := 8) (S := fun w' => w'.cell? ⟨gb223, 0, none⟩ = some (.string a1_0) ∧ w'.cell? ⟨gb223, 1, none⟩ = some (.string a1_1) ∧ w'.cell? ⟨gb223, 2, none⟩ = some (.string a1_2) ∧ w'.cell? (ad224.add (((ji6)).toNat * 3)) = some (.string ((rd_T37 l0 (ji6)).f0)) ∧ w'.cell? ⟨(ad224.add (((ji6)).toNat * 3)).block, (ad224.add (((ji6)).toNat * 3)).off + 1, none⟩ = some (.string ((rd_T37 l0 (ji6)).f1)) ∧ w'.cell? ⟨(ad224.add (((ji6)).toNat * 3)).block, (ad224.add (((ji6)).toNat * 3)).off + 2, none⟩ = some (.string ((rd_T37 l0 (ji6)).f2))) (ds := []) (bs 8 0) (by kernel_rfl) rfl rfl ⟨(blk_cell BK223.out 0).trans rfl, (blk_cell BK223.out 1).trans rfl, (blk_cell BK223.out 2).trans rfl, ((HB.out.cell (World.block_lt_of_cell? _ _ hw224_0)).trans hw224_0), ((HB.out.cell (World.block_lt_of_cell? _ _ hw224_1)).trans hw224_1), ((HB.out.cell (World.block_lt_of_cell? _ _ hw224_2)).trans hw224_2)⟩ (fun hHeld => ?_); refine with_tabW impl_Cross_69__impl_crossOrder.tab5 impl_Cross_69__impl_crossOrder.bits5 (fun HT_ HW_ => ?_)
              generalize wr.drew = w11 at BK223 HB hx224_0 hx224_1 hx224_2 hHeld ⊢
              refine pu_ 0 24 (bs 8 1) HT_ ?_ rfl rfl
              refine pu_ 1 25 (bs 8 3) HT_ ?_ rfl rfl
              refine pu_ 2 26 (bs 8 7) HT_ ?_ rfl rfl
              refine pu_ 3 27 (bs 8 15) HT_ ?_ rfl rfl
              refine tk_ 4 28 (bs 8 31) HT_ HW_ hHeld au10_0 ?_ rfl rfl
              refine tk_ 5 29 (bs 8 63) HT_ HW_ hHeld au10_0 ?_ rfl rfl
              refine one_ (i := 6) (N := some 30) (bs 8 127) rfl rfl (one_of HT_.out (by kernel_rfl)) (by decide) (fun K hK => ?_)
              refine goesV_ Try.func57 (by kernel_rfl) rfl #[.agg #[.string ((rd_T37 l0 (ji6)).f0), .string ((rd_T37 l0 (ji6)).f1), .string ((rd_T37 l0 (ji6)).f2)], .agg #[.string a1_0, .string a1_1, .string a1_2]] (by rfl) rfl rfl rfl au10_1 ?_
              with_reducible refine (impl_crossOrder.calls k1 ((rd_T37 l0 (ji6)).f0) ((rd_T37 l0 (ji6)).f1) ((rd_T37 l0 (ji6)).f2) a1_0 a1_1 a1_2 t225 _ A9.out).mono ?_
              rintro e w12 ⟨rfl, hb⟩
              refine ⟨_, rfl, ?_⟩
              have n0_ := Aside0.mk (blkb_ BK223 hb)
              have n1_ := Aside0.mk (below_step bl_ hb)
              clear BK223
              clear HB
              have BK223 := n0_
              have HB := n1_
              clear n0_ n1_
              (try clear hb)
              (try clear hb2)
              (try clear hk)
              (try clear hi)
              refine hK.out _ _ ⟨(blk_cell BK223.out 0).trans rfl, (blk_cell BK223.out 1).trans rfl, (blk_cell BK223.out 2).trans rfl, ((HB.out.cell (World.block_lt_of_cell? _ _ hw224_0)).trans hw224_0), ((HB.out.cell (World.block_lt_of_cell? _ _ hw224_1)).trans hw224_1), ((HB.out.cell (World.block_lt_of_cell? _ _ hw224_2)).trans hw224_2)⟩ (fun hHeld => ?_)
              clear hK K
              refine norm_ (a' := ?_) ?_ ?_
              rotate_left
              · show Act.put _ (some 30) _ = _
                simp only [Act.put, List.setIfInBounds_toArray, List.set_cons_zero, List.set_cons_succ, i64_w, i32_w]
                rfl
              refine pu_ 7 31 (bs 8 255) HT_ ?_ rfl rfl
              refine done_ (done_of HT_.out (by kernel_rfl)) ?_
              try go_wp2
              go_roundg k1
              case measure => have := HK1.out; omega
              case rel => exact ⟨(wrap64 ((ji6) + 1)), (x10_1), au10_3, er_, H', ⟨by have := HK1.out; omega⟩, ⟨bk_ BK223⟩, ⟨bl_⟩⟩
            · rw [if_neg c10] at H
              have c10b0 : decide (t225 < 0) = false := decide_eq_false c10
              clear c10
              have H' := Aside0.mk H
              clear H
              try go_wp2
              have n0_ := Aside0.mk (blk_drew BK223.out)
              have n1_ := Aside0.mk (below_drew1 HB.out)
              clear BK223
              clear HB
              have BK223 := n0_
              have HB := n1_
              clear n0_ n1_
              have p224 : 0 ≤ ((ji6) : Int) := of_decide_eq_true as_
              have q224 : (ji6) < (l0.length : Int) := of_decide_eq_true as_
              obtain ⟨ad224, e224, hx224_0, hx224_1, hx224_2⟩ := at_T37 HR0.out (ji6) p224 q224
              have hw224_2 := hx224_2
              have hw224_1 := hx224_1
              have hw224_0 := hx224_0
              cases e224
              replace hx224_0 := (HB.out.cell (World.block_lt_of_cell? _ _ hx224_0)).trans hx224_0
              replace hx224_1 := (HB.out.cell (World.block_lt_of_cell? _ _ hx224_1)).trans hx224_1
              replace hx224_2 := (HB.out.cell (World.block_lt_of_cell? _ _ hx224_2)).trans hx224_2
              replace p224 := eq_true p224
              replace q224 := eq_true q224
              refine start_ (n := 8) (S := fun w' => w'.cell? ⟨gb223, 0, none⟩ = some (.string a1_0) ∧ w'.cell? ⟨gb223, 1, none⟩ = some (.string a1_1) ∧ w'.cell? ⟨gb223, 2, none⟩ = some (.string a1_2) ∧ w'.cell? (ad224.add (((ji6)).toNat * 3)) = some (.string ((rd_T37 l0 (ji6)).f0)) ∧ w'.cell? ⟨(ad224.add (((ji6)).toNat * 3)).block, (ad224.add (((ji6)).toNat * 3)).off + 1, none⟩ = some (.string ((rd_T37 l0 (ji6)).f1)) ∧ w'.cell? ⟨(ad224.add (((ji6)).toNat * 3)).block, (ad224.add (((ji6)).toNat * 3)).off + 2, none⟩ = some (.string ((rd_T37 l0 (ji6)).f2))) (ds := []) (bs 8 0) (by kernel_rfl) rfl rfl ⟨(blk_cell BK223.out 0).trans rfl, (blk_cell BK223.out 1).trans rfl, (blk_cell BK223.out 2).trans rfl, ((HB.out.cell (World.block_lt_of_cell? _ _ hw224_0)).trans hw224_0), ((HB.out.cell (World.block_lt_of_cell? _ _ hw224_1)).trans hw224_1), ((HB.out.cell (World.block_lt_of_cell? _ _ hw224_2)).trans hw224_2)⟩ (fun hHeld => ?_); refine with_tabW impl_Cross_69__impl_crossOrder.tab5 impl_Cross_69__impl_crossOrder.bits5 (fun HT_ HW_ => ?_)
              generalize wr.drew = w13 at BK223 HB hx224_0 hx224_1 hx224_2 hHeld ⊢
              refine pu_ 0 24 (bs 8 1) HT_ ?_ rfl rfl
              refine pu_ 1 25 (bs 8 3) HT_ ?_ rfl rfl
              refine pu_ 2 26 (bs 8 7) HT_ ?_ rfl rfl
              refine pu_ 3 27 (bs 8 15) HT_ ?_ rfl rfl
              refine tk_ 4 28 (bs 8 31) HT_ HW_ hHeld au10_0 ?_ rfl rfl
              refine tk_ 5 29 (bs 8 63) HT_ HW_ hHeld au10_0 ?_ rfl rfl
              refine one_ (i := 6) (N := some 30) (bs 8 127) rfl rfl (one_of HT_.out (by kernel_rfl)) (by decide) (fun K hK => ?_)
              refine goesV_ Try.func57 (by kernel_rfl) rfl #[.agg #[.string ((rd_T37 l0 (ji6)).f0), .string ((rd_T37 l0 (ji6)).f1), .string ((rd_T37 l0 (ji6)).f2)], .agg #[.string a1_0, .string a1_1, .string a1_2]] (by rfl) rfl rfl rfl au10_1 ?_
              with_reducible refine (impl_crossOrder.calls k1 ((rd_T37 l0 (ji6)).f0) ((rd_T37 l0 (ji6)).f1) ((rd_T37 l0 (ji6)).f2) a1_0 a1_1 a1_2 t225 _ A9.out).mono ?_
              rintro e w14 ⟨rfl, hb⟩
              refine ⟨_, rfl, ?_⟩
              have n0_ := Aside0.mk (blkb_ BK223 hb)
              have n1_ := Aside0.mk (below_step bl_ hb)
              clear BK223
              clear HB
              have BK223 := n0_
              have HB := n1_
              clear n0_ n1_
              (try clear hb)
              (try clear hb2)
              (try clear hk)
              (try clear hi)
              refine hK.out _ _ ⟨(blk_cell BK223.out 0).trans rfl, (blk_cell BK223.out 1).trans rfl, (blk_cell BK223.out 2).trans rfl, ((HB.out.cell (World.block_lt_of_cell? _ _ hw224_0)).trans hw224_0), ((HB.out.cell (World.block_lt_of_cell? _ _ hw224_1)).trans hw224_1), ((HB.out.cell (World.block_lt_of_cell? _ _ hw224_2)).trans hw224_2)⟩ (fun hHeld => ?_)
              clear hK K
              refine norm_ (a' := ?_) ?_ ?_
              rotate_left
              · show Act.put _ (some 30) _ = _
                simp only [Act.put, List.setIfInBounds_toArray, List.set_cons_zero, List.set_cons_succ, i64_w, i32_w]
                rfl
              refine pu_ 7 31 (bs 8 255) HT_ ?_ rfl rfl
              refine done_ (done_of HT_.out (by kernel_rfl)) ?_
              try go_wp2
              go_roundg k1
              case measure => have := HK1.out; omega
              case rel => exact ⟨(x9_1), (ji6), er_, au10_3, H', ⟨by have := HK1.out; omega⟩, ⟨bk_ BK223⟩, ⟨bl_⟩⟩
          · rw [if_neg c8] at H
            exact absurd H (by simp)
        · rw [if_neg c7] at H
          exact absurd H (by simp)
      · rw [if_neg c5] at H
        have c5b0 : decide (x9_1 < x10_1) = false := decide_eq_false c5
        clear c5
        by_cases c15 : x9_1 < (l0.length : Int)
        · rw [if_pos c15] at H
          have c15b0 : decide (x9_1 < (l0.length : Int)) = true := decide_eq_true c15
          clear c15
          by_cases c16 : 0 ≤ x9_1
          · rw [if_pos c16] at H
            have c16b0 : decide (0 ≤ x9_1) = true := decide_eq_true c16
            clear c16
            by_cases c17 : x9_1 < (l0.length : Int)
            · rw [if_pos c17] at H
              have c17b0 : decide (x9_1 < (l0.length : Int)) = true := decide_eq_true c17
              clear c17
              replace H := Option.bind_eq_some_iff.mp H
              obtain ⟨t227, A180, H⟩ := H
              replace H : (some (x9_1, (t227 == 0))) = some (r1, r2) := H
              have A18 := Aside0.mk A180
              clear A180
              simp only [Option.some.injEq, Prod.mk.injEq] at H
              obtain ⟨rfl, rfl⟩ := H
              try go_wp2
              have n0_ := Aside0.mk (blk_drew BK223.out)
              have n1_ := Aside0.mk (below_drew1 HB.out)
              clear BK223
              clear HB
              have BK223 := n0_
              have HB := n1_
              clear n0_ n1_
              have p226 : 0 ≤ (x9_1 : Int) := of_decide_eq_true as_
              have q226 : x9_1 < (l0.length : Int) := of_decide_eq_true as_
              obtain ⟨ad226, e226, hx226_0, hx226_1, hx226_2⟩ := at_T37 HR0.out x9_1 p226 q226
              have hw226_2 := hx226_2
              have hw226_1 := hx226_1
              have hw226_0 := hx226_0
              cases e226
              replace hx226_0 := (HB.out.cell (World.block_lt_of_cell? _ _ hx226_0)).trans hx226_0
              replace hx226_1 := (HB.out.cell (World.block_lt_of_cell? _ _ hx226_1)).trans hx226_1
              replace hx226_2 := (HB.out.cell (World.block_lt_of_cell? _ _ hx226_2)).trans hx226_2
              replace p226 := eq_true p226
              replace q226 := eq_true q226
              refine start_ (n := 16) (S := fun w' => w'.cell? ⟨gb223, 0, none⟩ = some (.string a1_0) ∧ w'.cell? ⟨gb223, 1, none⟩ = some (.string a1_1) ∧ w'.cell? ⟨gb223, 2, none⟩ = some (.string a1_2) ∧ w'.cell? (ad226.add ((x9_1).toNat * 3)) = some (.string ((rd_T37 l0 x9_1).f0)) ∧ w'.cell? ⟨(ad226.add ((x9_1).toNat * 3)).block, (ad226.add ((x9_1).toNat * 3)).off + 1, none⟩ = some (.string ((rd_T37 l0 x9_1).f1)) ∧ w'.cell? ⟨(ad226.add ((x9_1).toNat * 3)).block, (ad226.add ((x9_1).toNat * 3)).off + 2, none⟩ = some (.string ((rd_T37 l0 x9_1).f2))) (ds := []) (bs 16 0) (by kernel_rfl) rfl rfl ⟨(blk_cell BK223.out 0).trans rfl, (blk_cell BK223.out 1).trans rfl, (blk_cell BK223.out 2).trans rfl, ((HB.out.cell (World.block_lt_of_cell? _ _ hw226_0)).trans hw226_0), ((HB.out.cell (World.block_lt_of_cell? _ _ hw226_1)).trans hw226_1), ((HB.out.cell (World.block_lt_of_cell? _ _ hw226_2)).trans hw226_2)⟩ (fun hHeld => ?_); refine with_tabW impl_Cross_69__impl_crossOrder.tab8 impl_Cross_69__impl_crossOrder.bits8 (fun HT_ HW_ => ?_)
              generalize wr.drew = w19 at BK223 HB hx226_0 hx226_1 hx226_2 hHeld ⊢
              refine pu_ 0 35 (bs 16 1) HT_ ?_ rfl rfl
              refine pu_ 1 36 (bs 16 3) HT_ ?_ rfl rfl
              refine pu_ 2 37 (bs 16 7) HT_ ?_ rfl rfl
              refine pu_ 3 38 (bs 16 15) HT_ ?_ rfl rfl
              refine pu_ 4 39 (bs 16 31) HT_ ?_ rfl rfl
              refine pu_ 5 40 (bs 16 63) HT_ ?_ rfl rfl
              refine pu_ 6 41 (bs 16 127) HT_ ?_ rfl rfl
              refine pu_ 7 42 (bs 16 255) HT_ ?_ rfl rfl
              refine pu_ 8 43 (bs 16 511) HT_ ?_ rfl rfl
              refine tk_ 9 44 (bs 16 1023) HT_ HW_ hHeld au10_0 ?_ rfl rfl
              refine tk_ 10 45 (bs 16 2047) HT_ HW_ hHeld au10_0 ?_ rfl rfl
              refine one_ (i := 11) (N := some 46) (bs 16 4095) rfl rfl (one_of HT_.out (by kernel_rfl)) (by decide) (fun K hK => ?_)
              refine goesV_ Try.func57 (by kernel_rfl) rfl #[.agg #[.string ((rd_T37 l0 x9_1).f0), .string ((rd_T37 l0 x9_1).f1), .string ((rd_T37 l0 x9_1).f2)], .agg #[.string a1_0, .string a1_1, .string a1_2]] (by rfl) rfl rfl rfl ar_ ?_
              with_reducible refine (impl_crossOrder.calls k1 ((rd_T37 l0 x9_1).f0) ((rd_T37 l0 x9_1).f1) ((rd_T37 l0 x9_1).f2) a1_0 a1_1 a1_2 t227 _ A18.out).mono ?_
              rintro e w20 ⟨rfl, hb⟩
              refine ⟨_, rfl, ?_⟩
              have n0_ := Aside0.mk (blkb_ BK223 hb)
              have n1_ := Aside0.mk (below_step bl_ hb)
              clear BK223
              clear HB
              have BK223 := n0_
              have HB := n1_
              clear n0_ n1_
              (try clear hb)
              (try clear hb2)
              (try clear hk)
              (try clear hi)
              refine hK.out _ _ ⟨(blk_cell BK223.out 0).trans rfl, (blk_cell BK223.out 1).trans rfl, (blk_cell BK223.out 2).trans rfl, ((HB.out.cell (World.block_lt_of_cell? _ _ hw226_0)).trans hw226_0), ((HB.out.cell (World.block_lt_of_cell? _ _ hw226_1)).trans hw226_1), ((HB.out.cell (World.block_lt_of_cell? _ _ hw226_2)).trans hw226_2)⟩ (fun hHeld => ?_)
              clear hK K
              refine norm_ (a' := ?_) ?_ ?_
              rotate_left
              · show Act.put _ (some 46) _ = _
                simp only [Act.put, List.setIfInBounds_toArray, List.set_cons_zero, List.set_cons_succ, i64_w, i32_w]
                rfl
              refine pu_ 12 47 (bs 16 8191) HT_ ?_ rfl rfl
              refine pu_ 13 48 (bs 16 16383) HT_ ?_ rfl rfl
              refine pu_ 14 6 (bs 16 32767) HT_ ?_ rfl rfl
              refine pu_ 15 7 (bs 16 65535) HT_ ?_ rfl rfl
              refine done_ (done_of HT_.out (by kernel_rfl)) ?_
              try go_wp2
              go_ret2
              exact ⟨au10_2, bl_⟩
            · rw [if_neg c17] at H
              exact absurd H (by simp)
          · rw [if_neg c16] at H
            exact absurd H (by simp)
        · rw [if_neg c15] at H
          have c15b0 : decide (x9_1 < (l0.length : Int)) = false := decide_eq_false c15
          clear c15
          simp only [Option.some.injEq, Prod.mk.injEq] at H
          obtain ⟨rfl, rfl⟩ := H
          try go_wp2
          have n0_ := Aside0.mk (blk_drew BK223.out)
          have n1_ := Aside0.mk (below_drew1 HB.out)
          clear BK223
          clear HB
          have BK223 := n0_
          have HB := n1_
          clear n0_ n1_
          refine start_ (n := 16) (S := fun w' => True) (ds := []) (bs 16 0) (by kernel_rfl) rfl rfl trivial (fun hHeld => ?_); refine with_tabW impl_Cross_69__impl_crossOrder.tab8 impl_Cross_69__impl_crossOrder.bits8 (fun HT_ HW_ => ?_)
          generalize wr.drew = w21 at BK223 HB hHeld ⊢
          refine pu_ 0 35 (bs 16 1) HT_ ?_ rfl rfl
          refine pu_ 1 36 (bs 16 3) HT_ ?_ rfl rfl
          refine pu_ 2 37 (bs 16 7) HT_ ?_ rfl rfl
          refine pu_ 3 38 (bs 16 15) HT_ ?_ rfl rfl
          refine pu_ 4 39 (bs 16 31) HT_ ?_ rfl rfl
          refine pv_ 5 40 (bs 16 63) HT_ ?_ rfl rfl
          refine pv_ 6 41 (bs 16 127) HT_ ?_ rfl rfl
          refine pv_ 7 42 (bs 16 255) HT_ ?_ rfl rfl
          refine pv_ 8 43 (bs 16 511) HT_ ?_ rfl rfl
          refine pv_ 9 44 (bs 16 1023) HT_ ?_ rfl rfl
          refine pv_ 10 45 (bs 16 2047) HT_ ?_ rfl rfl
          refine pv_ 11 46 (bs 16 4095) HT_ ?_ rfl rfl
          refine pv_ 12 47 (bs 16 8191) HT_ ?_ rfl rfl
          refine pu_ 13 48 (bs 16 16383) HT_ ?_ rfl rfl
          refine pu_ 14 6 (bs 16 32767) HT_ ?_ rfl rfl
          refine pu_ 15 7 (bs 16 65535) HT_ ?_ rfl rfl
          refine done_ (done_of HT_.out (by kernel_rfl)) ?_
          try go_wp2
          go_ret2
          exact ⟨au10_2, bl_⟩

end Go.Proofs.Ytjffakoifpldeaa.PFnCross
