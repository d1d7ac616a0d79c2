-- printed by a program of this session (wip/xp/xprint.py) out of the translation; Lean checks it
import Derived.Test.YtjffakoifpldeaaPFnTakeOncex0
import Derived.Test.YtjffakoifpldeaaPFnTakeOncex7
import Derived.Test.YtjffakoifpldeaaPFnTakeOncex10
import Derived.Test.YtjffakoifpldeaaPFnTakeOncex11
import Derived.Test.YtjffakoifpldeaaPFnTakeOncex12
namespace Go.Proofs.Ytjffakoifpldeaa.PFnTakeOnce
open Go.RowKit Go.Proofs.YtjffakoifpldeaaW.PrintWords Go.Proofs.YtjffakoifpldeaaW.PrintLast Go.Proofs.YtjffakoifpldeaaW.PrintMore
attribute [local go_sem] max2_int min2_int max_two min_two max_three min_three max_four min_four   -- for this text's walks alone
set_option linter.unusedVariables false
set_option linter.unusedSimpArgs false

theorem au13_0 {p : Prop} (h : p := by repeat (first | (with_reducible first | exact HK.out | apply KeepBut.set_ | apply keep_drewN | apply keep_drew | apply keep_alloc | refine keep_far ?_ GW282.out _ | refine keep_far ?_ GW296.out _) | exact HK.out)) : p := h
theorem au13_1 {p : Prop} (h : p := by first | exact Kd.own_blk (Kd.R_ne HO_4.out BK323.out (by decide)) | (rw [add_block]; exact Kd.own_blk (Kd.R_ne HO_4.out BK323.out (by decide))) | (show (Addr.add _ _).block ≠ _; rw [add_block]; exact Kd.own_blk (Kd.R_ne HO_4.out BK323.out (by decide))) | (dsimp only; exact Kd.own_blk (Kd.R_ne HO_4.out BK323.out (by decide)))) : p := h
theorem au13_2 {p : Prop} (h : p := by repeat (first | (with_reducible first | exact HI0.out | apply IsS116.alloc | apply IsS116.drewN | apply IsS116.drew | apply IsS116.set_1 | apply IsS116.set_2 | apply IsS116.set_3 | refine IsS116.far ?_ NB0_282.out _ | refine IsS116.far ?_ NB0_296.out _) | exact HI0.out)) : p := h
theorem au13_3 {p : Prop} (h : p := by repeat (first | (with_reducible first | exact HB.out | apply below_alloc | apply pw_below_drewN | apply below_drew1 | refine below_set ?_ (IsS116.ge HI0.out) | refine below_set ?_ GE282.out | refine below_set ?_ GE296.out) | exact HB.out)) : p := h
theorem au13_4 {p : Prop} (h : p := by repeat (first | (with_reducible first | exact HK.out | apply KeepBut.set_ | apply keep_drewN | apply keep_drew | apply keep_alloc | refine keep_far ?_ GW282.out _ | refine keep_far ?_ GW296.out _ | refine keep_far ?_ GW323.out _) | exact HK.out)) : p := h
theorem au13_5 {p : Prop} (h : p := by repeat (first | (with_reducible first | exact HI0.out | apply IsS116.alloc | apply IsS116.drewN | apply IsS116.drew | apply IsS116.set_1 | apply IsS116.set_2 | apply IsS116.set_3 | refine IsS116.far ?_ NB0_282.out _ | refine IsS116.far ?_ NB0_296.out _ | refine IsS116.far ?_ NB0_323.out _) | exact HI0.out)) : p := h
theorem au13_6 {p : Prop} (h : p := by repeat (first | (with_reducible first | exact HI0.out | apply IsS116.alloc | apply IsS116.drewN | apply IsS116.drew | apply IsS116.set_1 | apply IsS116.set_2 | apply IsS116.set_3 | refine IsS116.far ?_ NB0_282.out _ | refine IsS116.far ?_ NB0_296.out _) | exact HI0.out)) : p := h
theorem au13_7 {p : Prop} (h : p := by repeat (first | (with_reducible first | exact HB.out | apply below_alloc | apply pw_below_drewN | apply below_drew1 | refine below_set ?_ (IsS116.ge HI0.out) | refine below_set ?_ GE282.out | refine below_set ?_ GE296.out | refine below_set ?_ GE323.out) | exact HB.out)) : p := h
theorem au13_8 {p : Prop} (h : p := by repeat (first | (with_reducible first | exact HB.out | apply below_alloc | apply pw_below_drewN | apply below_drew1 | refine below_set ?_ (IsS116.ge HI0.out) | refine below_set ?_ GE282.out | refine below_set ?_ GE296.out) | exact HB.out)) : p := h
theorem au13_9 {p : Prop} (h : p := by repeat (first | (with_reducible first | exact HI0.out | apply IsS116.alloc | apply IsS116.drewN | apply IsS116.drew | apply IsS116.set_1 | apply IsS116.set_2 | apply IsS116.set_3 | refine IsS116.far ?_ NB0_282.out _ | refine IsS116.far ?_ NB0_296.out _) | exact HI0.out)) : p := h
theorem au13_10 {p : Prop} (h : p := by repeat (first | (with_reducible first | exact HB.out | apply below_alloc | apply pw_below_drewN | apply below_drew1 | refine below_set ?_ (IsS116.ge HI0.out) | refine below_set ?_ GE282.out | refine below_set ?_ GE296.out) | exact HB.out)) : p := h
theorem au13_11 {p : Prop} (h : p := by repeat (first | (with_reducible first | exact HK.out | apply KeepBut.set_ | apply keep_drewN | apply keep_drew | apply keep_alloc | refine keep_far ?_ GW282.out _ | refine keep_far ?_ GW296.out _) | exact HK.out)) : p := h
theorem au13_12 {p : Prop} (h : p := by repeat (first | (with_reducible first | exact HK.out | apply KeepBut.set_ | apply keep_drewN | apply keep_drew | apply keep_alloc | refine keep_far ?_ GW282.out _) | exact HK.out)) : p := h
theorem au13_13 {p : Prop} (h : p := by (with_reducible repeat (first | refine blk_drewN ?_ _ | refine blk_drew ?_ | refine blk_alloc ?_ _)); refine blk_put (cs := #[.string x297000_1, .int .i64 x297001_1, .int .i64 x297002_1, .slice none 0 0]) ?_ 3 _ rfl; (with_reducible repeat (first | refine blk_drewN ?_ _ | refine blk_drew ?_ | refine blk_alloc ?_ _)); refine blk_put (cs := #[.string x297000_1, .int .i64 x297001_1, .int .i64 0, .slice none 0 0]) ?_ 2 _ rfl; (with_reducible repeat (first | refine blk_drewN ?_ _ | refine blk_drew ?_ | refine blk_alloc ?_ _)); refine blk_put (cs := #[.string x297000_1, .int .i64 0, .int .i64 0, .slice none 0 0]) ?_ 1 _ rfl; (with_reducible repeat (first | refine blk_drewN ?_ _ | refine blk_drew ?_ | refine blk_alloc ?_ _)); refine blk_put (cs := #[.string (⟨#[]⟩ : ByteArray), .int .i64 0, .int .i64 0, .slice none 0 0]) ?_ 0 _ rfl; (with_reducible repeat (first | refine blk_drewN ?_ _ | refine blk_drew ?_ | refine blk_alloc ?_ _)); refine blk_far ?_ NB282_296.out _; (with_reducible repeat (first | refine blk_drewN ?_ _ | refine blk_drew ?_ | refine blk_alloc ?_ _)); exact BK282.out) : p := h
theorem au13_14 {p : Prop} (h : p := by repeat (first | exact (Kd.R_reads' HO_297003.out).2.2 | (with_reducible refine Kd.C_alloc ?_ _) | (with_reducible refine Kd.C_drewN ?_ _) | (with_reducible refine Kd.C_drew ?_))) : p := h
theorem au13_15 {p : Prop} (h : p := by first | (rw [add_block]; exact Kd.own_blk (IsS116.own_ne HI0.out HO_4.out (by decide))) | (show (Addr.add _ _).block ≠ _; rw [add_block]; exact Kd.own_blk (IsS116.own_ne HI0.out HO_4.out (by decide))) | exact Kd.own_blk (IsS116.own_ne HI0.out HO_4.out (by decide))) : p := h
theorem au13_16 {p : Prop} (h : p := by (with_reducible repeat (first | apply Kd.R_alloc | apply Kd.R_drewN | apply Kd.R_drew)); exact Kd.R_mono HO_297003.out (fun _ hk => hk.2)) : p := h
theorem au13_17 {p : Prop} (h : p := by (with_reducible repeat (first | apply Kd.R_alloc | apply Kd.R_drewN | apply Kd.R_drew)); exact Kd.R_mono HO317.out (fun _ hk => hk.2)) : p := h
theorem au13_18 {p : Prop} (h : p := by first | rfl | (simp [errW_none, errW_some] <;> rfl) | (simp [*, errW_none, errW_some] <;> rfl)) : p := h
theorem au13_19 {p : Prop} (h : p := by repeat (first | (with_reducible first | exact HI0.out | apply IsS116.alloc | apply IsS116.drewN | apply IsS116.drew | apply IsS116.set_1 | apply IsS116.set_2 | apply IsS116.set_3 | refine IsS116.far ?_ NB0_282.out _) | exact HI0.out)) : p := h
theorem au13_20 {p : Prop} (h : p := by simp only [putAll, Act.put, List.setIfInBounds_toArray, List.set_cons_zero, List.set_cons_succ]) : p := h
theorem au13_21 {p : Prop} (h : p := by repeat (first | (with_reducible first | exact HB.out | apply below_alloc | apply pw_below_drewN | apply below_drew1 | refine below_set ?_ (IsS116.ge HI0.out) | refine below_set ?_ GE282.out) | exact HB.out)) : p := h
theorem au13_22 {p : Prop} (h : p := by repeat (first | (with_reducible first | exact HI0.out | apply IsS116.alloc | apply IsS116.drewN | apply IsS116.drew | apply IsS116.set_1 | apply IsS116.set_2 | apply IsS116.set_3 | refine IsS116.far ?_ NB0_282.out _ | refine IsS116.far ?_ NB0_296.out _ | refine IsS116.far ?_ NB0_323.out _) | exact HI0.out)) : p := h
theorem au13_23 {p : Prop} (h : p := by repeat (first | (with_reducible first | exact HI0.out | apply IsS116.alloc | apply IsS116.drewN | apply IsS116.drew | apply IsS116.set_1 | apply IsS116.set_2 | apply IsS116.set_3 | refine IsS116.far ?_ NB0_282.out _ | refine IsS116.far ?_ NB0_296.out _ | refine IsS116.far ?_ NB0_323.out _) | exact HI0.out)) : p := h
theorem au13_24 {p : Prop} (h : p := by repeat (first | (with_reducible first | exact HK.out | apply KeepBut.set_ | apply keep_drewN | apply keep_drew | apply keep_alloc) | exact HK.out)) : p := h
theorem au13_25 {p : Prop} (h : p := by repeat (first | (with_reducible first | exact HB.out | apply below_alloc | apply pw_below_drewN | apply below_drew1 | refine below_set ?_ (IsS116.ge HI0.out) | refine below_set ?_ GE282.out | refine below_set ?_ GE296.out | refine below_set ?_ GE323.out) | exact HB.out)) : p := h
theorem au13_26 {p : Prop} (h : p := by repeat (first | (with_reducible first | exact HB.out | apply below_alloc | apply pw_below_drewN | apply below_drew1 | refine below_set ?_ (IsS116.ge HI0.out) | refine below_set ?_ GE282.out | refine below_set ?_ GE296.out | refine below_set ?_ GE323.out) | exact HB.out)) : p := h
theorem au13_27 {p : Prop} (h : p := by repeat (first | (with_reducible first | exact HK.out | apply KeepBut.set_ | apply keep_drewN | apply keep_drew | apply keep_alloc | refine keep_far ?_ GW282.out _ | refine keep_far ?_ GW296.out _ | refine keep_far ?_ GW323.out _) | exact HK.out)) : p := h
theorem au13_28 {p : Prop} (h : p := by rintro w' ⟨s0, s1, s2, s3, s4⟩; go_simp; with_reducible rfl) : p := h
theorem au13_29 {p : Prop} (h : p := by rintro w' ⟨s0, s1, s2, s3⟩; go_simp; with_reducible rfl) : p := h
theorem au13_30 {p : Prop} (h : p := by exact (Kd.R_reads' HO_297003.out).2.1) : p := h

/-! ### spec_l01Src_l07Partner: function 100 -/
def spec_l01Src_l07Partner.l0 : Nat → List Int → Int → List Int → Int → Int → Int → ByteArray → Int → Int → List (S62) → Option (ByteArray × Int × Int × (List (S62)) × Int × Int × Int)
  | 0, _, _, _, _, _, _, _, _, _, _ => none
  | k + 1, x4, x5, x1000, x1001, x1002, x1003, x297000, x297001, x297002, x297003 => if x5 < (x4.length : Int) then (if 0 ≤ x5 then ((spec_l01Src_n.f x1000 x1001 x1002 x1003 14).bind fun bt308 => ((spec_PartnerTake.f k x297000 x297001 x297002 x297003 (rd x4 x5) bt308.1).bind fun bt312 => (if bt312.2.2.2.2.2.2.2.2 = 0 then (spec_l01Src_l07Partner.l0 k x4 (wrap64 (x5 + 1)) x1000 bt308.2.1 bt308.2.2.1 bt308.2.2.2 bt312.1 bt312.2.1 bt312.2.2.1 bt312.2.2.2.1) else (spec_l01Src_l07Partner.l0 k x4 (wrap64 (x5 + 1)) x1000 bt308.2.1 bt308.2.2.1 bt308.2.2.2 x297000 x297001 x297002 x297003)))) else (none)) else ((spec_l01Src_one.f x1000 x1001 x1002 x1003 12).bind fun bt324 => (if bt324.1 = true then ((spec_l01Src_n.f x1000 bt324.2.1 bt324.2.2.1 bt324.2.2.2 6).bind fun bt328 => (if bt328.1 = 0 then (some ((⟨#[97]⟩ : ByteArray), x297001, x297002, x297003, bt328.2.1, bt328.2.2.1, bt328.2.2.2)) else (if bt328.1 = 1 then ((spec_l01Src_n.f x1000 bt328.2.1 bt328.2.2.1 bt328.2.2.2 2).bind fun bt332 => (some (x297000, x297001, wrap64 (999999 + bt332.1), x297003, bt332.2.1, bt332.2.2.1, bt332.2.2.2))) else (if bt328.1 = 2 then (some (x297000, wrap64 (x297001 + 1), x297002, x297003, bt328.2.1, bt328.2.2.1, bt328.2.2.2)) else (if bt328.1 = 3 then ((spec_l01Src_n.f x1000 bt328.2.1 bt328.2.2.1 bt328.2.2.2 3).bind fun bt336 => (some (x297000, wrap64 (999999 - bt336.1), x297002, ([] : List (S62)), bt336.2.1, bt336.2.2.1, bt336.2.2.2))) else (if bt328.1 = 4 then ((spec_l01Src_n.f x1000 bt328.2.1 bt328.2.2.1 bt328.2.2.2 2).bind fun bt340 => (if x297003.length < 5864062014805 then (some (x297000, x297001, x297002, (x297003 ++ [(⟨wrap64 ((wrap64 (x297001 + 31)) + bt340.1), 1, 0⟩ : S62)]), bt340.2.1, bt340.2.2.1, bt340.2.2.2)) else (none))) else ((spec_l01Src_n.f x1000 bt328.2.1 bt328.2.2.1 bt328.2.2.2 2).bind fun bt347 => (if x297003.length < 5864062014805 then (some (x297000, x297001, x297002, (x297003 ++ [(⟨wrap64 (x297001 + 31), 1, wrap64 (13 + bt347.1)⟩ : S62)]), bt347.2.1, bt347.2.2.1, bt347.2.2.2)) else (none))))))))) else (some (x297000, x297001, x297002, x297003, bt324.2.1, bt324.2.2.1, bt324.2.2.2))))
def spec_l01Src_l07Partner.f (k : Nat) (s0_0 : List Int) (s0_1 : Int) (s0_2 : Int) (s0_3 : Int) : Option (ByteArray × Int × Int × (List (S62)) × Int × Int × Int) := (spec_l01Src_pick.f s0_0 s0_1 s0_2 s0_3 (([(⟨#[65, 67, 77, 69]⟩ : ByteArray), (⟨#[66, 79, 76, 84]⟩ : ByteArray), (⟨#[67, 45, 49]⟩ : ByteArray)] : List ByteArray))).bind fun bt286 => ((spec_PartnerNew.f k bt286.1).bind fun bt290 => ((spec_l01Src_n.f s0_0 bt286.2.1 bt286.2.2.1 bt286.2.2.2 12).bind fun bt297 => ((spec_l01Src_l07Numbers.f k s0_0 bt297.2.1 bt297.2.2.1 bt297.2.2.2 bt297.1).bind fun bt301 => (spec_l01Src_l07Partner.l0 k bt301.1 0 s0_0 bt301.2.1 bt301.2.2.1 bt301.2.2.2 bt290.1 bt290.2.1 bt290.2.2.1 bt290.2.2.2))))
theorem spec_l01Src_l07Partner.mono_l : ∀ k, (∀ y0 y1 y2 y3 y4 y5 y6 y7 y8 y9, LeO (spec_l01Src_l07Partner.l0 k y0 y1 y2 y3 y4 y5 y6 y7 y8 y9) (spec_l01Src_l07Partner.l0 (k + 1) y0 y1 y2 y3 y4 y5 y6 y7 y8 y9))
  | 0 => fun _ _ _ _ _ _ _ _ _ _ r h => by simp [spec_l01Src_l07Partner.l0] at h
  | k + 1 => by
    have ih0 := spec_l01Src_l07Partner.mono_l k
    · intro y0 y1 y2 y3 y4 y5 y6 y7 y8 y9
      unfold spec_l01Src_l07Partner.l0
      repeat' first
      | (with_reducible exact ih0 _ _ _ _ _ _ _ _ _ _)
      | (with_reducible exact spec_PartnerNew.mono _ _)
      | (with_reducible exact spec_PartnerTake.mono _ _ _ _ _ _ _)
      | (with_reducible exact spec_l01Src_l07Numbers.mono _ _ _ _ _ _)
      | (with_reducible exact LeO.refl _)
      | (with_reducible exact LeO.none _)
      | (with_reducible refine LeO.ite ?_ ?_)
      | (with_reducible refine LeO.bind ?_ (fun _ => ?_))
      | exact ih0 _ _ _ _ _ _ _ _ _ _
      | exact spec_PartnerNew.mono _ _
      | exact spec_PartnerTake.mono _ _ _ _ _ _ _
      | exact spec_l01Src_l07Numbers.mono _ _ _ _ _ _
      | exact LeO.none _
      | refine LeO.ite ?_ ?_
      | refine LeO.bind ?_ (fun _ => ?_)
theorem spec_l01Src_l07Partner.mono : ∀ a0 a1 a2 a3 k, LeO (spec_l01Src_l07Partner.f k a0 a1 a2 a3) (spec_l01Src_l07Partner.f (k + 1) a0 a1 a2 a3) := by
  intro a0 a1 a2 a3 k
  have ih0 := spec_l01Src_l07Partner.mono_l k
  unfold spec_l01Src_l07Partner.f
  repeat' first
      | (with_reducible exact ih0 _ _ _ _ _ _ _ _ _ _)
      | (with_reducible exact spec_PartnerNew.mono _ _)
      | (with_reducible exact spec_PartnerTake.mono _ _ _ _ _ _ _)
      | (with_reducible exact spec_l01Src_l07Numbers.mono _ _ _ _ _ _)
      | (with_reducible exact LeO.refl _)
      | (with_reducible exact LeO.none _)
      | (with_reducible refine LeO.ite ?_ ?_)
      | (with_reducible refine LeO.bind ?_ (fun _ => ?_))
      | exact ih0 _ _ _ _ _ _ _ _ _ _
      | exact spec_PartnerNew.mono _ _
      | exact spec_PartnerTake.mono _ _ _ _ _ _ _
      | exact spec_l01Src_l07Numbers.mono _ _ _ _ _ _
      | exact LeO.none _
      | refine LeO.ite ?_ ?_
      | refine LeO.bind ?_ (fun _ => ?_)
def spec_l01Src_l07Partner.T6 : Bool × List (List Nat × List Nat) := (true, [([], []), ([], []), ([], []), ([1, 2], [1, 2]), ([3], [3]), ([], []), ([5], [5]), ([0, 4, 6, 6], [0, 4, 6]), ([], []), ([8, 7, 7, 0, 1, 2, 3, 4, 5, 6, 7, 8], [7, 8])])
def spec_l01Src_l07Partner.B6 : List Nat := [0, 0, 0, 6, 14, 0, 32, 127, 0, 511]
theorem spec_l01Src_l07Partner.tab6 : rtab .any (opsOf Try.f100 6) = spec_l01Src_l07Partner.T6 := by kernel_rfl
theorem spec_l01Src_l07Partner.bits6 : waitsOk spec_l01Src_l07Partner.T6.2 spec_l01Src_l07Partner.B6 = true := by kernel_rfl
def spec_l01Src_l07Partner.T11 : Bool × List (List Nat × List Nat) := (true, [([], []), ([0], [0]), ([], []), ([2], [2]), ([3], [3]), ([], []), ([5], [5]), ([6], [6]), ([4, 7], [4, 7]), ([8], [8]), ([1, 9, 6], [1, 9]), ([0, 1, 2, 3, 4, 5, 6, 7, 8, 9, 10], []), ([11, 10, 10, 0, 1, 2, 3, 4, 5, 6, 7, 8, 9, 10], [10, 11])])
def spec_l01Src_l07Partner.B11 : List Nat := [0, 1, 0, 4, 12, 0, 32, 96, 252, 508, 1023, 2047, 4095]
theorem spec_l01Src_l07Partner.tab11 : rtab .any (opsOf Try.f100 11) = spec_l01Src_l07Partner.T11 := by kernel_rfl
theorem spec_l01Src_l07Partner.bits11 : waitsOk spec_l01Src_l07Partner.T11.2 spec_l01Src_l07Partner.B11 = true := by kernel_rfl
def spec_l01Src_l07Partner.T22 : Bool × List (List Nat × List Nat) := (true, [([], []), ([0], [0]), ([], []), ([2], [2]), ([3], [3]), ([], []), ([5], [5]), ([4, 6], [4, 6]), ([7], [7]), ([8], [8]), ([1, 9, 6], [1, 9]), ([0, 1, 2, 3, 4, 5, 6, 7, 8, 9, 10], []), ([11, 10, 10, 0, 1, 2, 3, 4, 5, 6, 7, 8, 9, 10], [10, 11])])
def spec_l01Src_l07Partner.B22 : List Nat := [0, 1, 0, 4, 12, 0, 32, 124, 252, 508, 1023, 2047, 4095]
theorem spec_l01Src_l07Partner.tab22 : rtab .any (opsOf Try.f100 22) = spec_l01Src_l07Partner.T22 := by kernel_rfl
theorem spec_l01Src_l07Partner.bits22 : waitsOk spec_l01Src_l07Partner.T22.2 spec_l01Src_l07Partner.B22 = true := by kernel_rfl
set_option maxHeartbeats 8000000 in
set_option maxRecDepth 100000 in
theorem spec_l01Src_l07Partner.calls (k : Nat) (g : Nat) (s0_0 : List Int) (s0_1 : Int) (s0_2 : Int) (s0_3 : Int) (r1 : ByteArray) (r2 : Int) (r3 : Int) (r4 : List (S62)) (r5 : Int) (r6 : Int) (r7 : Int) (w0 w : World) (hI : IsS116 w0 w g s0_0 s0_1 s0_2 s0_3) (hB : Below w0.heap.size w0 w) (h : spec_l01Src_l07Partner.f k s0_0 s0_1 s0_2 s0_3 = some (r1, r2, r3, r4, r5, r6, r7)) :
    Calls Try.prog 100 #[.pointer (some ⟨g, 0, none⟩)] w fun e w' => ∃ v3_ : Value, e = .returned (.agg #[.string r1, .int .i64 r2, .int .i64 r3, v3_]) ∧ Kd.R k62 62 w' w.heap.size (fun _ => True) v3_ r4 ∧ IsS116 w0 w' g s0_0 r5 r6 r7 ∧ Below w0.heap.size w0 w' ∧ KeepBut w w' g none := by
  have hu51 := Try.underlying51
  have hu64 := Try.underlying64
  have hu62 := Try.underlying62
  have HI0 := Aside0.mk hI
  have HK := Aside0.mk (KeepBut.refl w g none)
  have HL := Aside0.mk hB.size
  clear hI
  have HW0 := Aside0.mk hB.size
  have HB := Aside0.mk hB
  clear hB
  have H : ((spec_l01Src_pick.f s0_0 s0_1 s0_2 s0_3 (([(⟨#[65, 67, 77, 69]⟩ : ByteArray), (⟨#[66, 79, 76, 84]⟩ : ByteArray), (⟨#[67, 45, 49]⟩ : ByteArray)] : List ByteArray))).bind fun bt286 => ((spec_PartnerNew.f k bt286.1).bind fun bt290 => ((spec_l01Src_n.f s0_0 bt286.2.1 bt286.2.2.1 bt286.2.2.2 12).bind fun bt297 => ((spec_l01Src_l07Numbers.f k s0_0 bt297.2.1 bt297.2.2.1 bt297.2.2.2 bt297.1).bind fun bt301 => (spec_l01Src_l07Partner.l0 k bt301.1 0 s0_0 bt301.2.1 bt301.2.2.1 bt301.2.2.2 bt290.1 bt290.2.1 bt290.2.2.1 bt290.2.2.2))))) = some (r1, r2, r3, r4, r5, r6, r7) := h
  clear h
  obtain ⟨y283, hy283⟩ : ∃ y_ : List ByteArray, y_ = (([(⟨#[65, 67, 77, 69]⟩ : ByteArray), (⟨#[66, 79, 76, 84]⟩ : ByteArray), (⟨#[67, 45, 49]⟩ : ByteArray)] : List ByteArray)) := ⟨_, rfl⟩
  replace H : ((spec_l01Src_pick.f s0_0 s0_1 s0_2 s0_3 y283).bind fun bt286 => ((spec_PartnerNew.f k bt286.1).bind fun bt290 => ((spec_l01Src_n.f s0_0 bt286.2.1 bt286.2.2.1 bt286.2.2.2 12).bind fun bt297 => ((spec_l01Src_l07Numbers.f k s0_0 bt297.2.1 bt297.2.2.1 bt297.2.2.2 bt297.1).bind fun bt301 => (spec_l01Src_l07Partner.l0 k bt301.1 0 s0_0 bt301.2.1 bt301.2.2.1 bt301.2.2.2 bt290.1 bt290.2.1 bt290.2.2.1 bt290.2.2.2))))) = some (r1, r2, r3, r4, r5, r6, r7) := by first | (rw [hy283]; with_reducible exact H) | (have H2_ := (Option.bind_some _ _).symm.trans H; rw [hy283]; with_reducible exact H2_) | (have H2_ := (Option.bind_some _ _).symm.trans H; with_reducible exact H2_) | with_reducible exact H | (rw [hy283]; exact H) | exact H
  have Ny283 := Aside0.mk hy283
  clear hy283
  replace H := Option.bind_eq_some_iff.mp H
  obtain ⟨⟨t286, t287, t288, t289⟩, A20, H⟩ := H
  replace H : ((spec_PartnerNew.f k t286).bind fun bt290 => ((spec_l01Src_n.f s0_0 t287 t288 t289 12).bind fun bt297 => ((spec_l01Src_l07Numbers.f k s0_0 bt297.2.1 bt297.2.2.1 bt297.2.2.2 bt297.1).bind fun bt301 => (spec_l01Src_l07Partner.l0 k bt301.1 0 s0_0 bt301.2.1 bt301.2.2.1 bt301.2.2.2 bt290.1 bt290.2.1 bt290.2.2.1 bt290.2.2.2)))) = some (r1, r2, r3, r4, r5, r6, r7) := H
  have A2 := Aside0.mk A20
  clear A20
  replace H := Option.bind_eq_some_iff.mp H
  obtain ⟨⟨t290, t291, t292, t293⟩, A30, H⟩ := H
  replace H : ((spec_l01Src_n.f s0_0 t287 t288 t289 12).bind fun bt297 => ((spec_l01Src_l07Numbers.f k s0_0 bt297.2.1 bt297.2.2.1 bt297.2.2.2 bt297.1).bind fun bt301 => (spec_l01Src_l07Partner.l0 k bt301.1 0 s0_0 bt301.2.1 bt301.2.2.1 bt301.2.2.2 t290 t291 t292 t293))) = some (r1, r2, r3, r4, r5, r6, r7) := H
  have A3 := Aside0.mk A30
  clear A30
  replace H := Option.bind_eq_some_iff.mp H
  obtain ⟨⟨t297, t298, t299, t300⟩, A40, H⟩ := H
  replace H : ((spec_l01Src_l07Numbers.f k s0_0 t298 t299 t300 t297).bind fun bt301 => (spec_l01Src_l07Partner.l0 k bt301.1 0 s0_0 bt301.2.1 bt301.2.2.1 bt301.2.2.2 t290 t291 t292 t293)) = some (r1, r2, r3, r4, r5, r6, r7) := H
  have A4 := Aside0.mk A40
  clear A40
  replace H := Option.bind_eq_some_iff.mp H
  obtain ⟨⟨t301, t304, t305, t306⟩, A50, H⟩ := H
  replace H : (spec_l01Src_l07Partner.l0 k t301 0 s0_0 t304 t305 t306 t290 t291 t292 t293) = some (r1, r2, r3, r4, r5, r6, r7) := H
  have A5 := Aside0.mk A50
  clear A50
  have H' := Aside0.mk H
  clear H
  go_enter Try.func100, Try.ntmps100
  go_wp2_with (first | ((with_reducible refine gate_dst (N := 2) rfl ?_); refine box_event ?hg (N := 2) ?hd (cs := #[.string (⟨#[]⟩ : ByteArray), .int .i64 0, .int .i64 0, .slice none 0 0]) (t := 51) ?hr ?_; (case hd => rfl); (case hg => rfl); (case hr => exact hr_); intro gb282 hg w6 hbox hb; have n0_ := Aside0.mk (IsS116.below (by repeat (first | (with_reducible first | exact HI0.out | apply IsS116.alloc | apply IsS116.drewN | apply IsS116.drew | apply IsS116.set_1 | apply IsS116.set_2 | apply IsS116.set_3) | exact HI0.out)) hb); have n1_ := Aside0.mk (KeepBut.trans au13_24 (KeepBut.of_below hb g none) (.inl rfl)); have n2_ := Aside0.mk (below_step (by repeat (first | (with_reducible first | exact HB.out | apply below_alloc | apply pw_below_drewN | apply below_drew1 | refine below_set ?_ (IsS116.ge HI0.out)) | exact HB.out)) hb); have n3_ := Aside0.mk (hbox); have n4_ := Aside0.mk ((by rw [hg]; exact (keep_size (w := w) (g := g) (row := none) au13_24) : w.heap.size ≤ gb282)); have n5_ := Aside0.mk ((Nat.le_trans HW0.out (by rw [hg]; exact (keep_size (w := w) (g := g) (row := none) au13_24) : w.heap.size ≤ gb282) : w0.heap.size ≤ gb282)); have n6_ := Aside0.mk ((by rw [hg]; exact Nat.ne_of_lt (IsS116.lt (show IsS116 w0 _ g s0_0 s0_1 s0_2 s0_3 from by repeat (first | (with_reducible first | exact HI0.out | apply IsS116.alloc | apply IsS116.drewN | apply IsS116.drew | apply IsS116.set_1 | apply IsS116.set_2 | apply IsS116.set_3) | exact HI0.out))) : g ≠ gb282)); have n7_ := Aside0.mk ((by rw [hg]; exact Nat.ne_of_gt (IsS116.lt (show IsS116 w0 _ g s0_0 s0_1 s0_2 s0_3 from by repeat (first | (with_reducible first | exact HI0.out | apply IsS116.alloc | apply IsS116.drewN | apply IsS116.drew | apply IsS116.set_1 | apply IsS116.set_2 | apply IsS116.set_3) | exact HI0.out))) : gb282 ≠ g)); clear HI0; clear HK; clear HB; have HI0 := n0_; have HK := n1_; have HB := n2_; have BK282 := n3_; have GW282 := n4_; have GE282 := n5_; have NB0_282 := n6_; have NB282_0 := n7_; clear n0_ n1_ n2_ n3_ n4_ n5_ n6_ n7_; clear hb hbox hg) | ((with_reducible refine gate_dst (N := 8) rfl ?_); refine Kd.R_lit Kd.string _ 9 ?hg (N := 8) ?hd (xs := ([(⟨#[65, 67, 77, 69]⟩ : ByteArray), (⟨#[66, 79, 76, 84]⟩ : ByteArray), (⟨#[67, 45, 49]⟩ : ByteArray)] : List ByteArray)) (inner := [.string (⟨#[65, 67, 77, 69]⟩ : ByteArray), .string (⟨#[66, 79, 76, 84]⟩ : ByteArray), .string (⟨#[67, 45, 49]⟩ : ByteArray)]) (ok := fun _ => True) (okp := fun _ => True) ?hr ?hp (fun _ hk => hk) trivial (Below.refl _ _) (Nat.le_refl _) (by simp) ?_; (case hd => rfl); (case hg => rfl); (case hr => exact hr_); (case hp => exact (Reps.one (show Kd.M Kd.string _ _ _ (⟨#[65, 67, 77, 69]⟩ : ByteArray) [.string (⟨#[65, 67, 77, 69]⟩ : ByteArray)] from rfl) (Reps.one (show Kd.M Kd.string _ _ _ (⟨#[66, 79, 76, 84]⟩ : ByteArray) [.string (⟨#[66, 79, 76, 84]⟩ : ByteArray)] from rfl) (Reps.one (show Kd.M Kd.string _ _ _ (⟨#[67, 45, 49]⟩ : ByteArray) [.string (⟨#[67, 45, 49]⟩ : ByteArray)] from rfl) (Reps.none _ _))))); intro v284 w7 ho8 hb hg_ hnew_; clear hg_ hnew_; (first | rw [← Ny283.out] at ho8 | (simp only [Int.reduceToNat] at ho8; rw [← Ny283.out] at ho8)); have n0_ := Aside0.mk (Kd.R_lower ho8 (keep_size (w := w) (g := g) (row := none) au13_12)); have n1_ := Aside0.mk (IsS116.below au13_19 hb); have n2_ := Aside0.mk (blkb_ BK282 hb); have n3_ := Aside0.mk (KeepBut.trans au13_12 (KeepBut.of_below hb g none) (.inl rfl)); have n4_ := Aside0.mk (below_step au13_21 hb); clear HI0; clear BK282; clear HK; clear HB; have HO285 := n0_; have HI0 := n1_; have BK282 := n2_; have HK := n3_; have HB := n4_; clear n0_ n1_ n2_ n3_ n4_; clear hb ho8; obtain ⟨Ao9, co9, eo9⟩ := Kd.R_slice HO285.out; subst eo9) | (go_at_call 75; (with_reducible refine (spec_l01Src_pick.calls g s0_0 s0_1 s0_2 s0_3 _ _ y283 t286 t287 t288 t289 w0 _ ?side1 ?side2 ?side3 ?side4 ?side5 A2.out).mono ?_); (case side1 => repeat (first | (with_reducible first | exact HI0.out | apply IsS116.alloc | apply IsS116.drewN | apply IsS116.drew | apply IsS116.set_1 | apply IsS116.set_2 | apply IsS116.set_3 | refine IsS116.far ?_ NB0_282.out _) | exact HI0.out)); (case side2 => repeat (first | (with_reducible first | exact HB.out | apply below_alloc | apply pw_below_drewN | apply below_drew1 | refine below_set ?_ (IsS116.ge HI0.out) | refine below_set ?_ GE282.out) | exact HB.out)); (case side3 => repeat (first | exact (Kd.R_reads' HO285.out).2.2 | (with_reducible refine Kd.C_alloc ?_ _) | (with_reducible refine Kd.C_drewN ?_ _) | (with_reducible refine Kd.C_drew ?_))); (case side4 => exact (Kd.R_reads' HO285.out).2.1); (case side5 => exact far_slice (IsS116.own_ne HI0.out HO285.out (by decide))); rintro e w10 ⟨rfl, hi, hb, hk⟩; (try clear A2); have n0_ := Aside0.mk (KeepBut.blk hk (g' := gb282) (o := .cells #[.string (⟨#[]⟩ : ByteArray), .int .i64 0, .int .i64 0, .slice none 0 0] 51 (0, 0)) (bk_ BK282) NB282_0.out (by simp)); have n1_ := Aside0.mk (Kd.R_mono (Kd.R_keep (IsS116.apart (show IsS116 w0 _ g s0_0 s0_1 s0_2 s0_3 from by repeat (first | (with_reducible first | exact HI0.out | apply IsS116.alloc | apply IsS116.drewN | apply IsS116.drew | apply IsS116.set_1 | apply IsS116.set_2 | apply IsS116.set_3 | refine IsS116.far ?_ NB0_282.out _) | exact HI0.out)) (rk_ HO285) (by decide)) hk (fun _ h => h.2)) (fun _ h => h.1)); have n2_ := Aside0.mk (KeepBut.trans au13_12 hk (.inl rfl)); have n3_ := Aside0.mk (hb); have n4_ := Aside0.mk (hi); clear BK282; clear HO285; clear HK; clear HB; clear HI0; have BK282 := n0_; have HO285 := n1_; have HK := n2_; have HB := n3_; have HI0 := n4_; clear n0_ n1_ n2_ n3_ n4_; (try clear hb); (try clear hb2); (try clear hk); (try clear hi)) | (go_at_call 84; (with_reducible refine (spec_PartnerNew.calls k t286 t290 t291 t292 t293 _ A3.out).mono ?_); rintro e w11 ⟨v294, rfl, ho0, hb⟩; (try clear A3); have n0_ := Aside0.mk (Kd.R_below (rk_ HO285) hb); have n1_ := Aside0.mk (Kd.R_lower ho0 (keep_size (w := w) (g := g) (row := none) au13_12)); have n2_ := Aside0.mk (IsS116.below au13_19 hb); have n3_ := Aside0.mk (blkb_ BK282 hb); have n4_ := Aside0.mk (KeepBut.trans au13_12 (KeepBut.of_below hb g none) (.inl rfl)); have n5_ := Aside0.mk (below_step au13_21 hb); clear HO285; clear HI0; clear BK282; clear HK; clear HB; have HO285 := n0_; have HO295 := n1_; have HI0 := n2_; have BK282 := n3_; have HK := n4_; have HB := n5_; clear n0_ n1_ n2_ n3_ n4_ n5_; (try clear hb); (try clear hb2); (try clear hk); (try clear hi); (try clear ho0)) | ((with_reducible refine gate_dst (N := 3) rfl ?_); refine box_event ?hg (N := 3) ?hd (cs := #[.string (⟨#[]⟩ : ByteArray), .int .i64 0, .int .i64 0, .slice none 0 0]) (t := 51) ?hr ?_; (case hd => rfl); (case hg => rfl); (case hr => exact hr_); intro gb296 hg w12 hbox hb; have n0_ := Aside0.mk (Kd.R_below (rk_ HO285) hb); have n1_ := Aside0.mk (Kd.R_below (rk_ HO295) hb); have n2_ := Aside0.mk (IsS116.below au13_19 hb); have n3_ := Aside0.mk (blkb_ BK282 hb); have n4_ := Aside0.mk (KeepBut.trans au13_12 (KeepBut.of_below hb g none) (.inl rfl)); have n5_ := Aside0.mk (below_step au13_21 hb); have n6_ := Aside0.mk (hbox); have n7_ := Aside0.mk ((by rw [hg]; exact (keep_size (w := w) (g := g) (row := none) au13_12) : w.heap.size ≤ gb296)); have n8_ := Aside0.mk ((Nat.le_trans HW0.out (by rw [hg]; exact (keep_size (w := w) (g := g) (row := none) au13_12) : w.heap.size ≤ gb296) : w0.heap.size ≤ gb296)); have n9_ := Aside0.mk (gn_ hg (blkl_ BK282)); have n10_ := Aside0.mk (gm_ hg (blkl_ BK282)); have n11_ := Aside0.mk ((by rw [hg]; exact Nat.ne_of_lt (IsS116.lt (show IsS116 w0 _ g s0_0 t287 t288 t289 from by repeat (first | (with_reducible first | exact HI0.out | apply IsS116.alloc | apply IsS116.drewN | apply IsS116.drew | apply IsS116.set_1 | apply IsS116.set_2 | apply IsS116.set_3 | refine IsS116.far ?_ NB0_282.out _) | exact HI0.out))) : g ≠ gb296)); have n12_ := Aside0.mk ((by rw [hg]; exact Nat.ne_of_gt (IsS116.lt (show IsS116 w0 _ g s0_0 t287 t288 t289 from by repeat (first | (with_reducible first | exact HI0.out | apply IsS116.alloc | apply IsS116.drewN | apply IsS116.drew | apply IsS116.set_1 | apply IsS116.set_2 | apply IsS116.set_3 | refine IsS116.far ?_ NB0_282.out _) | exact HI0.out))) : gb296 ≠ g)); clear HO285; clear HO295; clear HI0; clear BK282; clear HK; clear HB; have HO285 := n0_; have HO295 := n1_; have HI0 := n2_; have BK282 := n3_; have HK := n4_; have HB := n5_; have BK296 := n6_; have GW296 := n7_; have GE296 := n8_; have NB282_296 := n9_; have NB296_282 := n10_; have NB0_296 := n11_; have NB296_0 := n12_; clear n0_ n1_ n2_ n3_ n4_ n5_ n6_ n7_ n8_ n9_ n10_ n11_ n12_; clear hb hbox hg; have hnb13 := NB296_282.out; have hnc13 := NB282_296.out; have hnb14 := NB296_0.out; have hnc14 := NB0_296.out; obtain ⟨hcz15_0, hcz15_1, hcz15_2, hcz15_3, hfz15_0, hfz15_1, hfz15_2, hfz15_3⟩ := cellsF4 BK296.out; obtain ⟨Ao16, co16, eo16⟩ := Kd.R_slice HO295.out; subst eo16) | (go_at_call 101; (with_reducible refine (spec_l01Src_n.calls g s0_0 t287 t288 t289 12 t297 t298 t299 t300 w0 _ ?side1 ?side2 A4.out).mono ?_); (case side1 => exact au13_2); (case side2 => exact au13_3); rintro e w17 ⟨rfl, hi, hb, hk⟩; (try clear A4); have n0_ := Aside0.mk (KeepBut.blk hk (g' := gb282) (o := .cells #[.string (⟨#[]⟩ : ByteArray), .int .i64 0, .int .i64 0, .slice none 0 0] 51 (0, 0)) (by (with_reducible repeat (first | refine blk_drewN ?_ _ | refine blk_drew ?_ | refine blk_alloc ?_ _)); refine blk_far ?_ NB282_296.out _; (with_reducible repeat (first | refine blk_drewN ?_ _ | refine blk_drew ?_ | refine blk_alloc ?_ _)); refine blk_far ?_ NB282_296.out _; (with_reducible repeat (first | refine blk_drewN ?_ _ | refine blk_drew ?_ | refine blk_alloc ?_ _)); refine blk_far ?_ NB282_296.out _; (with_reducible repeat (first | refine blk_drewN ?_ _ | refine blk_drew ?_ | refine blk_alloc ?_ _)); refine blk_far ?_ NB282_296.out _; (with_reducible repeat (first | refine blk_drewN ?_ _ | refine blk_drew ?_ | refine blk_alloc ?_ _)); exact BK282.out) NB282_0.out (by simp)); have n1_ := Aside0.mk (Kd.R_mono (Kd.R_keep (IsS116.apart (show IsS116 w0 _ g s0_0 t287 t288 t289 from by repeat (first | (with_reducible first | exact HI0.out | apply IsS116.alloc | apply IsS116.drewN | apply IsS116.drew | apply IsS116.set_1 | apply IsS116.set_2 | apply IsS116.set_3 | refine IsS116.far ?_ NB0_282.out _ | refine IsS116.far ?_ NB0_296.out _) | exact HI0.out)) (by (with_reducible repeat (first | apply Kd.R_alloc | apply Kd.R_drewN | apply Kd.R_drew)); exact (Kd.R_mono (Kd.R_far (p := ⟨gb296, 3, none⟩) (Kd.R_far (p := ⟨gb296, 2, none⟩) (Kd.R_far (p := ⟨gb296, 1, none⟩) (Kd.R_far (p := ⟨gb296, 0, none⟩) (Kd.R_types HO285.out BK296.out (by decide)) (fun _ hk => hk.2) (.string t290)) (fun _ hk => hk.2) (.int .i64 t291)) (fun _ hk => hk.2) (.int .i64 t292)) (fun _ hk => hk.2) (.slice Ao16 t293.length co16)) (fun _ h_ => h_.1))) (by decide)) hk (fun _ h => h.2)) (fun _ h => h.1)); have n2_ := Aside0.mk (Kd.R_mono (Kd.R_keep (IsS116.apart (show IsS116 w0 _ g s0_0 t287 t288 t289 from by repeat (first | (with_reducible first | exact HI0.out | apply IsS116.alloc | apply IsS116.drewN | apply IsS116.drew | apply IsS116.set_1 | apply IsS116.set_2 | apply IsS116.set_3 | refine IsS116.far ?_ NB0_282.out _ | refine IsS116.far ?_ NB0_296.out _) | exact HI0.out)) (by (with_reducible repeat (first | apply Kd.R_alloc | apply Kd.R_drewN | apply Kd.R_drew)); exact (Kd.R_mono (Kd.R_far (p := ⟨gb296, 3, none⟩) (Kd.R_far (p := ⟨gb296, 2, none⟩) (Kd.R_far (p := ⟨gb296, 1, none⟩) (Kd.R_far (p := ⟨gb296, 0, none⟩) (Kd.R_types HO295.out BK296.out (by decide)) (fun _ hk => hk.2) (.string t290)) (fun _ hk => hk.2) (.int .i64 t291)) (fun _ hk => hk.2) (.int .i64 t292)) (fun _ hk => hk.2) (.slice Ao16 t293.length co16)) (fun _ h_ => h_.1))) (by decide)) hk (fun _ h => h.2)) (fun _ h => h.1)); have n3_ := Aside0.mk (KeepBut.blk hk (g' := gb296) (o := .cells #[.string t290, .int .i64 t291, .int .i64 t292, .slice Ao16 t293.length co16] 51 (0, 0)) (by (with_reducible repeat (first | refine blk_drewN ?_ _ | refine blk_drew ?_ | refine blk_alloc ?_ _)); refine blk_put (cs := #[.string t290, .int .i64 t291, .int .i64 t292, .slice none 0 0]) ?_ 3 _ rfl; (with_reducible repeat (first | refine blk_drewN ?_ _ | refine blk_drew ?_ | refine blk_alloc ?_ _)); refine blk_put (cs := #[.string t290, .int .i64 t291, .int .i64 0, .slice none 0 0]) ?_ 2 _ rfl; (with_reducible repeat (first | refine blk_drewN ?_ _ | refine blk_drew ?_ | refine blk_alloc ?_ _)); refine blk_put (cs := #[.string t290, .int .i64 0, .int .i64 0, .slice none 0 0]) ?_ 1 _ rfl; (with_reducible repeat (first | refine blk_drewN ?_ _ | refine blk_drew ?_ | refine blk_alloc ?_ _)); refine blk_put (cs := #[.string (⟨#[]⟩ : ByteArray), .int .i64 0, .int .i64 0, .slice none 0 0]) ?_ 0 _ rfl; (with_reducible repeat (first | refine blk_drewN ?_ _ | refine blk_drew ?_ | refine blk_alloc ?_ _)); exact BK296.out) NB296_0.out (by simp)); have n4_ := Aside0.mk (KeepBut.trans au13_0 hk (.inl rfl)); have n5_ := Aside0.mk (hb); have n6_ := Aside0.mk (hi); clear BK282; clear HO285; clear HO295; clear BK296; clear HK; clear HB; clear HI0; have BK282 := n0_; have HO285 := n1_; have HO295 := n2_; have BK296 := n3_; have HK := n4_; have HB := n5_; have HI0 := n6_; clear n0_ n1_ n2_ n3_ n4_ n5_ n6_; (try clear hb); (try clear hb2); (try clear hk); (try clear hi)) | (go_at_call 103; (with_reducible refine (spec_l01Src_l07Numbers.calls k g s0_0 t298 t299 t300 t297 t301 t304 t305 t306 w0 _ ?side1 ?side2 A5.out).mono ?_); (case side1 => exact au13_2); (case side2 => exact au13_3); rintro e w18 ⟨v302, rfl, ho0, hi, hb, hk⟩; (try clear A5); have n0_ := Aside0.mk (KeepBut.blk hk (g' := gb282) (o := .cells #[.string (⟨#[]⟩ : ByteArray), .int .i64 0, .int .i64 0, .slice none 0 0] 51 (0, 0)) (bk_ BK282) NB282_0.out (by simp)); have n1_ := Aside0.mk (Kd.R_mono (Kd.R_keep (IsS116.apart (show IsS116 w0 _ g s0_0 t298 t299 t300 from by repeat (first | (with_reducible first | exact HI0.out | apply IsS116.alloc | apply IsS116.drewN | apply IsS116.drew | apply IsS116.set_1 | apply IsS116.set_2 | apply IsS116.set_3 | refine IsS116.far ?_ NB0_282.out _ | refine IsS116.far ?_ NB0_296.out _) | exact HI0.out)) (rk_ HO285) (by decide)) hk (fun _ h => h.2)) (fun _ h => h.1)); have n2_ := Aside0.mk (Kd.R_mono (Kd.R_keep (IsS116.apart (show IsS116 w0 _ g s0_0 t298 t299 t300 from by repeat (first | (with_reducible first | exact HI0.out | apply IsS116.alloc | apply IsS116.drewN | apply IsS116.drew | apply IsS116.set_1 | apply IsS116.set_2 | apply IsS116.set_3 | refine IsS116.far ?_ NB0_282.out _ | refine IsS116.far ?_ NB0_296.out _) | exact HI0.out)) (rk_ HO295) (by decide)) hk (fun _ h => h.2)) (fun _ h => h.1)); have n3_ := Aside0.mk (KeepBut.blk hk (g' := gb296) (o := .cells #[.string t290, .int .i64 t291, .int .i64 t292, .slice Ao16 t293.length co16] 51 (0, 0)) (bk_ BK296) NB296_0.out (by simp)); have n4_ := Aside0.mk (Kd.R_lower ho0 (keep_size (w := w) (g := g) (row := none) au13_0)); have n5_ := Aside0.mk (KeepBut.trans au13_0 hk (.inl rfl)); have n6_ := Aside0.mk (hb); have n7_ := Aside0.mk (hi); clear BK282; clear HO285; clear HO295; clear BK296; clear HK; clear HB; clear HI0; have BK282 := n0_; have HO285 := n1_; have HO295 := n2_; have BK296 := n3_; have HO303 := n4_; have HK := n5_; have HB := n6_; have HI0 := n7_; clear n0_ n1_ n2_ n3_ n4_ n5_ n6_ n7_; (try clear hb); (try clear hb2); (try clear hk); (try clear hi); (try clear ho0)))
  go_loopg [5] k (fun kq v5 w' => ∃ (x5_1 : Int) (x1001_1 : Int) (x1002_1 : Int) (x1003_1 : Int) (x297000_1 : ByteArray) (x297001_1 : Int) (x297002_1 : Int) (x297003_1 : List (S62)) (u297003 : Value), v5 = .int .i64 x5_1 ∧ Aside0 (spec_l01Src_l07Partner.l0 kq t301 x5_1 s0_0 x1001_1 x1002_1 x1003_1 x297000_1 x297001_1 x297002_1 x297003_1 = some (r1, r2, r3, r4, r5, r6, r7)) ∧ Aside0 (kq ≤ k) ∧ Aside0 (Kd.R (Kd.int .i64) 2 w' w.heap.size (fun _ => True) v302 t301) ∧ Aside0 (Kd.R k62 62 w' w.heap.size (fun _ => True) u297003 x297003_1) ∧ Aside0 (w'.heap[gb282]? = some (.cells #[.string (⟨#[]⟩ : ByteArray), .int .i64 0, .int .i64 0, (.slice none 0 0)] 51 (0, 0))) ∧ Aside0 (w'.heap[gb296]? = some (.cells #[.string x297000_1, .int .i64 x297001_1, .int .i64 x297002_1, u297003] 51 (0, 0))) ∧ Aside0 (IsS116 w0 w' g s0_0 x1001_1 x1002_1 x1003_1) ∧ Aside0 (KeepBut w w' g none) ∧ Aside0 (Below w0.heap.size w0 w'))
  case atStart => exact ⟨(0), (t304), (t305), (t306), (t290), (t291), (t292), (t293), (.slice Ao16 t293.length co16), er_, H', ⟨Nat.le_refl _⟩, ⟨rk_ HO303⟩, ⟨rk_ HO295⟩, ⟨bk_ BK282⟩, ⟨bk_ BK296⟩, ⟨au13_9⟩, ⟨au13_11⟩, ⟨au13_10⟩⟩
  case round =>
    clear H'
    try clear c1
    try clear p2
    try clear c10
    try clear c13
    try clear c14
    try clear hcz15_0
    try clear hcz15_1
    try clear hcz15_2
    try clear hcz15_3
    try clear hfz15_0
    try clear hfz15_1
    try clear hfz15_2
    try clear hfz15_3
    obtain ⟨x5_1, x1001_1, x1002_1, x1003_1, x297000_1, x297001_1, x297002_1, x297003_1, u297003, rfl, HA, HK1, HO_4, HO_297003, BK282, BK296, HI0, HK, HB⟩ := hrel
    cases gk with
    | zero => exact absurd HA.out (by simp [spec_l01Src_l07Partner.l0])
    | succ k1 =>
      have H := HA.out
      clear HA
      simp only [spec_l01Src_l07Partner.l0] at H
      by_cases c19 : x5_1 < (t301.length : Int)
      · rw [if_pos c19] at H
        have c19b0 : decide (x5_1 < (t301.length : Int)) = true := decide_eq_true c19
        clear c19
        by_cases c20 : 0 ≤ x5_1
        · rw [if_pos c20] at H
          have c20b0 : decide (0 ≤ x5_1) = true := decide_eq_true c20
          clear c20
          replace H := Option.bind_eq_some_iff.mp H
          obtain ⟨⟨t308, t309, t310, t311⟩, A210, H⟩ := H
          replace H : ((spec_PartnerTake.f k1 x297000_1 x297001_1 x297002_1 x297003_1 (rd t301 x5_1) t308).bind fun bt312 => (if bt312.2.2.2.2.2.2.2.2 = 0 then (spec_l01Src_l07Partner.l0 k1 t301 (wrap64 (x5_1 + 1)) s0_0 t309 t310 t311 bt312.1 bt312.2.1 bt312.2.2.1 bt312.2.2.2.1) else (spec_l01Src_l07Partner.l0 k1 t301 (wrap64 (x5_1 + 1)) s0_0 t309 t310 t311 x297000_1 x297001_1 x297002_1 x297003_1))) = some (r1, r2, r3, r4, r5, r6, r7) := H
          have A21 := Aside0.mk A210
          clear A210
          replace H := Option.bind_eq_some_iff.mp H
          obtain ⟨⟨t312, t313, t314, t315, t318, t319, t320, t321, t322⟩, A220, H⟩ := H
          replace H : (if t322 = 0 then (spec_l01Src_l07Partner.l0 k1 t301 (wrap64 (x5_1 + 1)) s0_0 t309 t310 t311 t312 t313 t314 t315) else (spec_l01Src_l07Partner.l0 k1 t301 (wrap64 (x5_1 + 1)) s0_0 t309 t310 t311 x297000_1 x297001_1 x297002_1 x297003_1)) = some (r1, r2, r3, r4, r5, r6, r7) := H
          have A22 := Aside0.mk A220
          clear A220
          by_cases c23 : t322 = 0
          · rw [if_pos c23] at H
            have c23b0 : (t322 == 0) = true := beq_iff_eq.mpr c23
            have c23b1 : (t322 != 0) = false := bne_eq_false_iff_eq.mpr c23
            clear c23
            have H' := Aside0.mk H
            clear H
            obtain ⟨Ao24, co24, eo24⟩ := Kd.R_slice HO_4.out
            subst eo24
            obtain ⟨Ao25, co25, eo25⟩ := Kd.R_slice HO_297003.out
            subst eo25
            try go_wp2
            have n0_ := Aside0.mk (Kd.R_drew HO_4.out)
            have n1_ := Aside0.mk (Kd.R_drew HO_297003.out)
            have n2_ := Aside0.mk (blk_drew BK282.out)
            have n3_ := Aside0.mk (blk_drew BK296.out)
            have n4_ := Aside0.mk (IsS116.drew HI0.out)
            have n5_ := Aside0.mk (keep_drew HK.out)
            have n6_ := Aside0.mk (below_drew1 HB.out)
            clear HO_4
            clear HO_297003
            clear BK282
            clear BK296
            clear HI0
            clear HK
            clear HB
            have HO_4 := n0_
            have HO_297003 := n1_
            have BK282 := n2_
            have BK296 := n3_
            have HI0 := n4_
            have HK := n5_
            have HB := n6_
            clear n0_ n1_ n2_ n3_ n4_ n5_ n6_
            have p307 : 0 ≤ (x5_1 : Int) := of_decide_eq_true as_
            have q307 : x5_1 < (t301.length : Int) := of_decide_eq_true as_
            obtain ⟨ad307, e307, hx307_0⟩ := Kd.at_int (Kd.R_reads' HO_4.out).2.2 x5_1 p307 q307
            cases e307
            replace p307 := eq_true p307
            replace q307 := eq_true q307
            refine start_ (n := 10) (S := fun w' => w'.cell? ⟨gb296, 0, none⟩ = some (.string x297000_1) ∧ w'.cell? ⟨gb296, 1, none⟩ = some (.int .i64 x297001_1) ∧ w'.cell? ⟨gb296, 2, none⟩ = some (.int .i64 x297002_1) ∧ w'.cell? ⟨gb296, 3, none⟩ = some (.slice Ao25 x297003_1.length co25) ∧ w'.cell? (ad307.add (x5_1).toNat) = some (.int .i64 (rd t301 x5_1))) (ds := []) (bs 10 0) (by kernel_rfl) rfl rfl ⟨(blk_cell BK296.out 0).trans rfl, (blk_cell BK296.out 1).trans rfl, (blk_cell BK296.out 2).trans rfl, (blk_cell BK296.out 3).trans rfl, hx307_0⟩ (fun hHeld => ?_); refine with_tabW spec_l01Src_l07Partner.tab6 spec_l01Src_l07Partner.bits6 (fun HT_ HW_ => ?_)
            generalize wr.drew = w26 at HO_4 HO_297003 BK282 BK296 HI0 HK HB hx307_0 hHeld ⊢
            refine pu_ 1 22 (bs 10 2) HT_ ?_ rfl rfl
            refine pu_ 2 23 (bs 10 6) HT_ ?_ rfl rfl
            refine pu_ 3 24 (bs 10 14) HT_ ?_ rfl rfl
            refine pu_ 5 26 (bs 10 46) HT_ ?_ rfl rfl
            refine tk_ 0 21 (bs 10 47) HT_ HW_ hHeld au13_28 ?_ rfl rfl
            refine tk_ 4 25 (bs 10 63) HT_ HW_ hHeld au13_28 ?_ rfl rfl
            refine join_ (σ := Value × Nat) 1 (bs 10 511) (fun s_ => [(27, .int .i64 t308), (28, .agg #[.string t312, .int .i64 t313, .int .i64 t314, s_.1, .int .i64 t318, .int .i64 t319, .int .i64 t320, .int .i64 t321, .int .i64 t322]), (6, .pointer (some ⟨s_.2, 0, none⟩))]) (fun s_ w' => (w'.cell? ⟨gb296, 0, none⟩ = some (.string x297000_1) ∧ w'.cell? ⟨gb296, 1, none⟩ = some (.int .i64 x297001_1) ∧ w'.cell? ⟨gb296, 2, none⟩ = some (.int .i64 x297002_1) ∧ w'.cell? ⟨gb296, 3, none⟩ = some (.slice Ao25 x297003_1.length co25) ∧ w'.cell? (ad307.add (x5_1).toNat) = some (.int .i64 (rd t301 x5_1))) ∧ (Kd.R k62 62 w' w.heap.size (fun k_ => some k_ ≠ (.slice Ao25 x297003_1.length co25 : Value).ownBlock) s_.1 t315) ∧ (Kd.R k62 62 w' w.heap.size (fun k_ => some k_ ≠ (s_.1 : Value).ownBlock) (.slice Ao25 x297003_1.length co25) x297003_1) ∧ (Kd.R (Kd.int .i64) 2 w' w.heap.size (fun _ => True) (.slice (some ad307) t301.length co24) t301) ∧ (w'.heap[gb282]? = some (.cells #[.string (⟨#[]⟩ : ByteArray), .int .i64 0, .int .i64 0, .slice none 0 0] 51 (0, 0))) ∧ (w'.heap[gb296]? = some (.cells #[.string x297000_1, .int .i64 x297001_1, .int .i64 x297002_1, .slice Ao25 x297003_1.length co25] 51 (0, 0))) ∧ (w'.heap[s_.2]? = some (.cells #[.string (⟨#[]⟩ : ByteArray), .int .i64 0, .int .i64 0, .slice none 0 0, .int .i64 0, .int .i64 0, .int .i64 0, .int .i64 0, .int .i64 0] 64 (0, 0))) ∧ (w.heap.size ≤ s_.2) ∧ (w0.heap.size ≤ s_.2) ∧ (g ≠ s_.2) ∧ (s_.2 ≠ g) ∧ (gb282 ≠ s_.2) ∧ (s_.2 ≠ gb282) ∧ (gb296 ≠ s_.2) ∧ (s_.2 ≠ gb296) ∧ (IsS116 w0 w' g s0_0 t309 t310 t311) ∧ (KeepBut w w' g none) ∧ (Below w0.heap.size w0 w')) ?_ ?_
            rotate_left
            · intro hCont
              refine two_ (i := 6) (j := 8) (Ni := some 27) (Nj := some 6) (bs 10 127) (bs 10 319) rfl rfl rfl rfl (two_of HT_.out (by kernel_rfl)) (by decide) (by decide) (fun K hK => ?_) (fun K hK => ?_)
              · skip
                refine gr_ Try.func101 #[.pointer (some ⟨g, 0, none⟩), .int .i64 14] (by rfl) ?_ rfl rfl rfl
                with_reducible refine (spec_l01Src_n.calls g s0_0 x1001_1 x1002_1 x1003_1 14 t308 t309 t310 t311 w0 _ ?side1 ?side2 A21.out).mono ?_
                (case side1 => exact au13_2)
                (case side2 => exact au13_3)
                rintro e w27 ⟨rfl, hi, hb, hk⟩
                have HS4_ := keep_cell hk (hHeld.2.2.2.2) au13_15
                refine ⟨_, rfl, ?_⟩
                have n0_ := Aside0.mk (Kd.R_mono (Kd.R_keep (IsS116.apart (show IsS116 w0 _ g s0_0 x1001_1 x1002_1 x1003_1 from by repeat (first | (with_reducible first | exact HI0.out | apply IsS116.alloc | apply IsS116.drewN | apply IsS116.drew | apply IsS116.set_1 | apply IsS116.set_2 | apply IsS116.set_3 | refine IsS116.far ?_ NB0_282.out _ | refine IsS116.far ?_ NB0_296.out _) | exact HI0.out)) (rk_ HO_4) (by decide)) hk (fun _ h => h.2)) (fun _ h => h.1))
                have n1_ := Aside0.mk (Kd.R_mono (Kd.R_keep (IsS116.apart (show IsS116 w0 _ g s0_0 x1001_1 x1002_1 x1003_1 from by repeat (first | (with_reducible first | exact HI0.out | apply IsS116.alloc | apply IsS116.drewN | apply IsS116.drew | apply IsS116.set_1 | apply IsS116.set_2 | apply IsS116.set_3 | refine IsS116.far ?_ NB0_282.out _ | refine IsS116.far ?_ NB0_296.out _) | exact HI0.out)) (rk_ HO_297003) (by decide)) hk (fun _ h => h.2)) (fun _ h => h.1))
                have n2_ := Aside0.mk (KeepBut.blk hk (g' := gb282) (o := .cells #[.string (⟨#[]⟩ : ByteArray), .int .i64 0, .int .i64 0, .slice none 0 0] 51 (0, 0)) (bk_ BK282) NB282_0.out (by simp))
                have n3_ := Aside0.mk (KeepBut.blk hk (g' := gb296) (o := .cells #[.string x297000_1, .int .i64 x297001_1, .int .i64 x297002_1, .slice Ao25 x297003_1.length co25] 51 (0, 0)) (bk_ BK296) NB296_0.out (by simp))
                have n4_ := Aside0.mk (KeepBut.trans au13_0 hk (.inl rfl))
                have n5_ := Aside0.mk (hb)
                have n6_ := Aside0.mk (hi)
                clear HO_4
                clear HO_297003
                clear BK282
                clear BK296
                clear HK
                clear HB
                clear HI0
                have HO_4 := n0_
                have HO_297003 := n1_
                have BK282 := n2_
                have BK296 := n3_
                have HK := n4_
                have HB := n5_
                have HI0 := n6_
                clear n0_ n1_ n2_ n3_ n4_ n5_ n6_
                (try clear hb)
                (try clear hb2)
                (try clear hk)
                (try clear hi)
                refine hK.out _ _ ⟨(blk_cell BK296.out 0).trans rfl, (blk_cell BK296.out 1).trans rfl, (blk_cell BK296.out 2).trans rfl, (blk_cell BK296.out 3).trans rfl, HS4_⟩ (fun hHeld => ?_)
                clear hK K
                refine norm_ (a' := ?_) ?_ ?_
                rotate_left
                · show Act.put _ (some 27) _ = _
                  simp only [Act.put, List.setIfInBounds_toArray, List.set_cons_zero, List.set_cons_succ, i64_w, i32_w]
                  rfl
                refine two_ (i := 7) (j := 8) (Ni := some 28) (Nj := some 6) (bs 10 255) (bs 10 383) rfl rfl rfl rfl (two_of HT_.out (by kernel_rfl)) (by decide) (by decide) (fun K hK => ?_) (fun K hK => ?_)
                · skip
                  refine gr_ Try.func44 #[.agg #[.string x297000_1, .int .i64 x297001_1, .int .i64 x297002_1, .slice Ao25 x297003_1.length co25], .int .i64 (rd t301 x5_1), .int .i64 t308] (by rfl) ?_ rfl rfl rfl
                  with_reducible refine (spec_PartnerTake.calls k1 x297000_1 x297001_1 x297002_1 _ _ x297003_1 (rd t301 x5_1) t308 t312 t313 t314 t315 t318 t319 t320 t321 t322 _ ?side1 ?side2 A22.out).mono ?_
                  (case side1 => exact au13_14)
                  (case side2 => exact au13_30)
                  rintro e w28 ⟨v316, rfl, ho0, hb⟩
                  have HS4_ := (hb.cell (World.block_lt_of_cell? _ _ (hHeld.2.2.2.2))).trans (hHeld.2.2.2.2)
                  refine ⟨_, rfl, ?_⟩
                  have n0_ := Aside0.mk (Kd.R_below (rk_ HO_4) hb)
                  have n1_ := Aside0.mk (Kd.R_elder' (rk_ HO_297003) (Kd.R_base ho0) hb)
                  have n2_ := Aside0.mk (Kd.R_lower (Kd.R_new' ho0 (Kd.R_lt (rk_ HO_297003))) (keep_size (w := w) (g := g) (row := none) au13_0))
                  have n3_ := Aside0.mk (blkb_ BK282 hb)
                  have n4_ := Aside0.mk (blkb_ BK296 hb)
                  have n5_ := Aside0.mk (IsS116.below au13_6 hb)
                  have n6_ := Aside0.mk (KeepBut.trans au13_0 (KeepBut.of_below hb g none) (.inl rfl))
                  have n7_ := Aside0.mk (below_step au13_8 hb)
                  clear HO_4
                  clear HO_297003
                  clear BK282
                  clear BK296
                  clear HI0
                  clear HK
                  clear HB
                  have HO_4 := n0_
                  have HO_297003 := n1_
                  have HO317 := n2_
                  have BK282 := n3_
                  have BK296 := n4_
                  have HI0 := n5_
                  have HK := n6_
                  have HB := n7_
                  clear n0_ n1_ n2_ n3_ n4_ n5_ n6_ n7_
                  (try clear hb)
                  (try clear hb2)
                  (try clear hk)
                  (try clear hi)
                  (try clear ho0)
                  refine hK.out _ _ ⟨(blk_cell BK296.out 0).trans rfl, (blk_cell BK296.out 1).trans rfl, (blk_cell BK296.out 2).trans rfl, (blk_cell BK296.out 3).trans rfl, HS4_⟩ (fun hHeld => ?_)
                  clear hK K
                  refine norm_ (a' := ?_) ?_ ?_
                  rotate_left
                  · show Act.put _ (some 28) _ = _
                    simp only [Act.put, List.setIfInBounds_toArray, List.set_cons_zero, List.set_cons_succ, i64_w, i32_w]
                    rfl
                  refine one_ (i := 8) (N := some 6) (bs 10 511) rfl rfl (one_of HT_.out (by kernel_rfl)) (by decide) (fun K hK => ?_)
                  refine box_step ?hg (N := 6) ?hd (cs := #[.string (⟨#[]⟩ : ByteArray), .int .i64 0, .int .i64 0, .slice none 0 0, .int .i64 0, .int .i64 0, .int .i64 0, .int .i64 0, .int .i64 0]) (t := 64) ?hr ?_; (case hd => rfl); (case hg => rfl); (case hr => exact hr_)
                  intro gb323 hg w29 hbox hb
                  have HS4_ := (hb.cell (World.block_lt_of_cell? _ _ (hHeld.2.2.2.2))).trans (hHeld.2.2.2.2)
                  have n0_ := Aside0.mk (Kd.R_below (rk_ HO_4) hb)
                  have n1_ := Aside0.mk (Kd.R_below (rk_ HO_297003) hb)
                  have n2_ := Aside0.mk (Kd.R_below (rk_ HO317) hb)
                  have n3_ := Aside0.mk (blkb_ BK282 hb)
                  have n4_ := Aside0.mk (blkb_ BK296 hb)
                  have n5_ := Aside0.mk (IsS116.below au13_6 hb)
                  have n6_ := Aside0.mk (KeepBut.trans au13_0 (KeepBut.of_below hb g none) (.inl rfl))
                  have n7_ := Aside0.mk (below_step au13_8 hb)
                  have n8_ := Aside0.mk (hbox)
                  have n9_ := Aside0.mk ((by rw [hg]; exact (keep_size (w := w) (g := g) (row := none) au13_0) : w.heap.size ≤ gb323))
                  have n10_ := Aside0.mk ((Nat.le_trans HW0.out (by rw [hg]; exact (keep_size (w := w) (g := g) (row := none) au13_0) : w.heap.size ≤ gb323) : w0.heap.size ≤ gb323))
                  have n11_ := Aside0.mk (gn_ hg (blkl_ BK282))
                  have n12_ := Aside0.mk (gm_ hg (blkl_ BK282))
                  have n13_ := Aside0.mk (gn_ hg (blkl_ BK296))
                  have n14_ := Aside0.mk (gm_ hg (blkl_ BK296))
                  have n15_ := Aside0.mk ((by rw [hg]; exact Nat.ne_of_lt (IsS116.lt (show IsS116 w0 _ g s0_0 t309 t310 t311 from by repeat (first | (with_reducible first | exact HI0.out | apply IsS116.alloc | apply IsS116.drewN | apply IsS116.drew | apply IsS116.set_1 | apply IsS116.set_2 | apply IsS116.set_3 | refine IsS116.far ?_ NB0_282.out _ | refine IsS116.far ?_ NB0_296.out _) | exact HI0.out))) : g ≠ gb323))
                  have n16_ := Aside0.mk ((by rw [hg]; exact Nat.ne_of_gt (IsS116.lt (show IsS116 w0 _ g s0_0 t309 t310 t311 from by repeat (first | (with_reducible first | exact HI0.out | apply IsS116.alloc | apply IsS116.drewN | apply IsS116.drew | apply IsS116.set_1 | apply IsS116.set_2 | apply IsS116.set_3 | refine IsS116.far ?_ NB0_282.out _ | refine IsS116.far ?_ NB0_296.out _) | exact HI0.out))) : gb323 ≠ g))
                  clear HO_4
                  clear HO_297003
                  clear HO317
                  clear BK282
                  clear BK296
                  clear HI0
                  clear HK
                  clear HB
                  have HO_4 := n0_
                  have HO_297003 := n1_
                  have HO317 := n2_
                  have BK282 := n3_
                  have BK296 := n4_
                  have HI0 := n5_
                  have HK := n6_
                  have HB := n7_
                  have BK323 := n8_
                  have GW323 := n9_
                  have GE323 := n10_
                  have NB282_323 := n11_
                  have NB323_282 := n12_
                  have NB296_323 := n13_
                  have NB323_296 := n14_
                  have NB0_323 := n15_
                  have NB323_0 := n16_
                  clear n0_ n1_ n2_ n3_ n4_ n5_ n6_ n7_ n8_ n9_ n10_ n11_ n12_ n13_ n14_ n15_ n16_
                  clear hb hbox hg
                  refine hK.out _ _ ⟨(blk_cell BK296.out 0).trans rfl, (blk_cell BK296.out 1).trans rfl, (blk_cell BK296.out 2).trans rfl, (blk_cell BK296.out 3).trans rfl, HS4_⟩ (fun hHeld => ?_)
                  clear hK K
                  refine norm_ (a' := ?_) ?_ ?_
                  rotate_left
                  · show Act.put _ (some 6) _ = _
                    simp only [Act.put, List.setIfInBounds_toArray, List.set_cons_zero, List.set_cons_succ, i64_w, i32_w]
                    rfl
                  exact norm_ au13_20 (hCont (v316, gb323) _ ⟨hHeld, au13_17, au13_16, (rk_ HO_4), (bk_ BK282), (bk_ BK296), (bk_ BK323), GW323.out, GE323.out, NB0_323.out, NB323_0.out, NB282_323.out, NB323_282.out, NB296_323.out, NB323_296.out, au13_5, au13_4, au13_7⟩)
                · skip
                  refine box_step ?hg (N := 6) ?hd (cs := #[.string (⟨#[]⟩ : ByteArray), .int .i64 0, .int .i64 0, .slice none 0 0, .int .i64 0, .int .i64 0, .int .i64 0, .int .i64 0, .int .i64 0]) (t := 64) ?hr ?_; (case hd => rfl); (case hg => rfl); (case hr => exact hr_)
                  intro gb323 hg w28 hbox hb
                  have HS4_ := (hb.cell (World.block_lt_of_cell? _ _ (hHeld.2.2.2.2))).trans (hHeld.2.2.2.2)
                  have n0_ := Aside0.mk (Kd.R_below (rk_ HO_4) hb)
                  have n1_ := Aside0.mk (Kd.R_below (rk_ HO_297003) hb)
                  have n2_ := Aside0.mk (blkb_ BK282 hb)
                  have n3_ := Aside0.mk (blkb_ BK296 hb)
                  have n4_ := Aside0.mk (IsS116.below au13_6 hb)
                  have n5_ := Aside0.mk (KeepBut.trans au13_0 (KeepBut.of_below hb g none) (.inl rfl))
                  have n6_ := Aside0.mk (below_step au13_8 hb)
                  have n7_ := Aside0.mk (hbox)
                  have n8_ := Aside0.mk ((by rw [hg]; exact (keep_size (w := w) (g := g) (row := none) au13_0) : w.heap.size ≤ gb323))
                  have n9_ := Aside0.mk ((Nat.le_trans HW0.out (by rw [hg]; exact (keep_size (w := w) (g := g) (row := none) au13_0) : w.heap.size ≤ gb323) : w0.heap.size ≤ gb323))
                  have n10_ := Aside0.mk (gn_ hg (blkl_ BK282))
                  have n11_ := Aside0.mk (gm_ hg (blkl_ BK282))
                  have n12_ := Aside0.mk (gn_ hg (blkl_ BK296))
                  have n13_ := Aside0.mk (gm_ hg (blkl_ BK296))
                  have n14_ := Aside0.mk ((by rw [hg]; exact Nat.ne_of_lt (IsS116.lt (show IsS116 w0 _ g s0_0 t309 t310 t311 from by repeat (first | (with_reducible first | exact HI0.out | apply IsS116.alloc | apply IsS116.drewN | apply IsS116.drew | apply IsS116.set_1 | apply IsS116.set_2 | apply IsS116.set_3 | refine IsS116.far ?_ NB0_282.out _ | refine IsS116.far ?_ NB0_296.out _) | exact HI0.out))) : g ≠ gb323))
                  have n15_ := Aside0.mk ((by rw [hg]; exact Nat.ne_of_gt (IsS116.lt (show IsS116 w0 _ g s0_0 t309 t310 t311 from by repeat (first | (with_reducible first | exact HI0.out | apply IsS116.alloc | apply IsS116.drewN | apply IsS116.drew | apply IsS116.set_1 | apply IsS116.set_2 | apply IsS116.set_3 | refine IsS116.far ?_ NB0_282.out _ | refine IsS116.far ?_ NB0_296.out _) | exact HI0.out))) : gb323 ≠ g))
                  clear HO_4
                  clear HO_297003
                  clear BK282
                  clear BK296
                  clear HI0
                  clear HK
                  clear HB
                  have HO_4 := n0_
                  have HO_297003 := n1_
                  have BK282 := n2_
                  have BK296 := n3_
                  have HI0 := n4_
                  have HK := n5_
                  have HB := n6_
                  have BK323 := n7_
                  have GW323 := n8_
                  have GE323 := n9_
                  have NB282_323 := n10_
                  have NB323_282 := n11_
                  have NB296_323 := n12_
                  have NB323_296 := n13_
                  have NB0_323 := n14_
                  have NB323_0 := n15_
                  clear n0_ n1_ n2_ n3_ n4_ n5_ n6_ n7_ n8_ n9_ n10_ n11_ n12_ n13_ n14_ n15_
                  clear hb hbox hg
                  refine hK.out _ _ ⟨(blk_cell BK296.out 0).trans rfl, (blk_cell BK296.out 1).trans rfl, (blk_cell BK296.out 2).trans rfl, (blk_cell BK296.out 3).trans rfl, HS4_⟩ (fun hHeld => ?_)
                  clear hK K
                  refine norm_ (a' := ?_) ?_ ?_
                  rotate_left
                  · show Act.put _ (some 6) _ = _
                    simp only [Act.put, List.setIfInBounds_toArray, List.set_cons_zero, List.set_cons_succ, i64_w, i32_w]
                    rfl
                  refine one_ (i := 7) (N := some 28) (bs 10 511) rfl rfl (one_of HT_.out (by kernel_rfl)) (by decide) (fun K hK => ?_)
                  refine gr_ Try.func44 #[.agg #[.string x297000_1, .int .i64 x297001_1, .int .i64 x297002_1, .slice Ao25 x297003_1.length co25], .int .i64 (rd t301 x5_1), .int .i64 t308] (by rfl) ?_ rfl rfl rfl
                  with_reducible refine (spec_PartnerTake.calls k1 x297000_1 x297001_1 x297002_1 _ _ x297003_1 (rd t301 x5_1) t308 t312 t313 t314 t315 t318 t319 t320 t321 t322 _ ?side1 ?side2 A22.out).mono ?_
                  (case side1 => exact au13_14)
                  (case side2 => exact au13_30)
                  rintro e w29 ⟨v316, rfl, ho0, hb⟩
                  have HS4_ := (hb.cell (World.block_lt_of_cell? _ _ (hHeld.2.2.2.2))).trans (hHeld.2.2.2.2)
                  refine ⟨_, rfl, ?_⟩
                  have n0_ := Aside0.mk (Kd.R_below (rk_ HO_4) hb)
                  have n1_ := Aside0.mk (Kd.R_elder' (rk_ HO_297003) (Kd.R_base ho0) hb)
                  have n2_ := Aside0.mk (Kd.R_lower (Kd.R_new' ho0 (Kd.R_lt (rk_ HO_297003))) (keep_size (w := w) (g := g) (row := none) au13_4))
                  have n3_ := Aside0.mk (blkb_ BK282 hb)
                  have n4_ := Aside0.mk (blkb_ BK296 hb)
                  have n5_ := Aside0.mk (IsS116.below au13_5 hb)
                  have n6_ := Aside0.mk (blkb_ BK323 hb)
                  have n7_ := Aside0.mk (KeepBut.trans au13_4 (KeepBut.of_below hb g none) (.inl rfl))
                  have n8_ := Aside0.mk (below_step au13_7 hb)
                  clear HO_4
                  clear HO_297003
                  clear BK282
                  clear BK296
                  clear HI0
                  clear BK323
                  clear HK
                  clear HB
                  have HO_4 := n0_
                  have HO_297003 := n1_
                  have HO317 := n2_
                  have BK282 := n3_
                  have BK296 := n4_
                  have HI0 := n5_
                  have BK323 := n6_
                  have HK := n7_
                  have HB := n8_
                  clear n0_ n1_ n2_ n3_ n4_ n5_ n6_ n7_ n8_
                  (try clear hb)
                  (try clear hb2)
                  (try clear hk)
                  (try clear hi)
                  (try clear ho0)
                  refine hK.out _ _ ⟨(blk_cell BK296.out 0).trans rfl, (blk_cell BK296.out 1).trans rfl, (blk_cell BK296.out 2).trans rfl, (blk_cell BK296.out 3).trans rfl, HS4_⟩ (fun hHeld => ?_)
                  clear hK K
                  refine norm_ (a' := ?_) ?_ ?_
                  rotate_left
                  · show Act.put _ (some 28) _ = _
                    simp only [Act.put, List.setIfInBounds_toArray, List.set_cons_zero, List.set_cons_succ, i64_w, i32_w]
                    rfl
                  exact norm_ au13_20 (hCont (v316, gb323) _ ⟨hHeld, au13_17, au13_16, (rk_ HO_4), (bk_ BK282), (bk_ BK296), (bk_ BK323), GW323.out, GE323.out, NB0_323.out, NB323_0.out, NB282_323.out, NB323_282.out, NB296_323.out, NB323_296.out, au13_5, au13_4, au13_7⟩)
              · skip
                refine box_step ?hg (N := 6) ?hd (cs := #[.string (⟨#[]⟩ : ByteArray), .int .i64 0, .int .i64 0, .slice none 0 0, .int .i64 0, .int .i64 0, .int .i64 0, .int .i64 0, .int .i64 0]) (t := 64) ?hr ?_; (case hd => rfl); (case hg => rfl); (case hr => exact hr_)
                intro gb323 hg w27 hbox hb
                have HS4_ := (hb.cell (World.block_lt_of_cell? _ _ (hHeld.2.2.2.2))).trans (hHeld.2.2.2.2)
                have n0_ := Aside0.mk (Kd.R_below (rk_ HO_4) hb)
                have n1_ := Aside0.mk (Kd.R_below (rk_ HO_297003) hb)
                have n2_ := Aside0.mk (blkb_ BK282 hb)
                have n3_ := Aside0.mk (blkb_ BK296 hb)
                have n4_ := Aside0.mk (IsS116.below au13_6 hb)
                have n5_ := Aside0.mk (KeepBut.trans au13_0 (KeepBut.of_below hb g none) (.inl rfl))
                have n6_ := Aside0.mk (below_step au13_8 hb)
                have n7_ := Aside0.mk (hbox)
                have n8_ := Aside0.mk ((by rw [hg]; exact (keep_size (w := w) (g := g) (row := none) au13_0) : w.heap.size ≤ gb323))
                have n9_ := Aside0.mk ((Nat.le_trans HW0.out (by rw [hg]; exact (keep_size (w := w) (g := g) (row := none) au13_0) : w.heap.size ≤ gb323) : w0.heap.size ≤ gb323))
                have n10_ := Aside0.mk (gn_ hg (blkl_ BK282))
                have n11_ := Aside0.mk (gm_ hg (blkl_ BK282))
                have n12_ := Aside0.mk (gn_ hg (blkl_ BK296))
                have n13_ := Aside0.mk (gm_ hg (blkl_ BK296))
                have n14_ := Aside0.mk ((by rw [hg]; exact Nat.ne_of_lt (IsS116.lt (show IsS116 w0 _ g s0_0 x1001_1 x1002_1 x1003_1 from by repeat (first | (with_reducible first | exact HI0.out | apply IsS116.alloc | apply IsS116.drewN | apply IsS116.drew | apply IsS116.set_1 | apply IsS116.set_2 | apply IsS116.set_3 | refine IsS116.far ?_ NB0_282.out _ | refine IsS116.far ?_ NB0_296.out _) | exact HI0.out))) : g ≠ gb323))
                have n15_ := Aside0.mk ((by rw [hg]; exact Nat.ne_of_gt (IsS116.lt (show IsS116 w0 _ g s0_0 x1001_1 x1002_1 x1003_1 from by repeat (first | (with_reducible first | exact HI0.out | apply IsS116.alloc | apply IsS116.drewN | apply IsS116.drew | apply IsS116.set_1 | apply IsS116.set_2 | apply IsS116.set_3 | refine IsS116.far ?_ NB0_282.out _ | refine IsS116.far ?_ NB0_296.out _) | exact HI0.out))) : gb323 ≠ g))
                clear HO_4
                clear HO_297003
                clear BK282
                clear BK296
                clear HI0
                clear HK
                clear HB
                have HO_4 := n0_
                have HO_297003 := n1_
                have BK282 := n2_
                have BK296 := n3_
                have HI0 := n4_
                have HK := n5_
                have HB := n6_
                have BK323 := n7_
                have GW323 := n8_
                have GE323 := n9_
                have NB282_323 := n10_
                have NB323_282 := n11_
                have NB296_323 := n12_
                have NB323_296 := n13_
                have NB0_323 := n14_
                have NB323_0 := n15_
                clear n0_ n1_ n2_ n3_ n4_ n5_ n6_ n7_ n8_ n9_ n10_ n11_ n12_ n13_ n14_ n15_
                clear hb hbox hg
                refine hK.out _ _ ⟨(blk_cell BK296.out 0).trans rfl, (blk_cell BK296.out 1).trans rfl, (blk_cell BK296.out 2).trans rfl, (blk_cell BK296.out 3).trans rfl, HS4_⟩ (fun hHeld => ?_)
                clear hK K
                refine norm_ (a' := ?_) ?_ ?_
                rotate_left
                · show Act.put _ (some 6) _ = _
                  simp only [Act.put, List.setIfInBounds_toArray, List.set_cons_zero, List.set_cons_succ, i64_w, i32_w]
                  rfl
                refine one_ (i := 6) (N := some 27) (bs 10 383) rfl rfl (one_of HT_.out (by kernel_rfl)) (by decide) (fun K hK => ?_)
                refine gr_ Try.func101 #[.pointer (some ⟨g, 0, none⟩), .int .i64 14] (by rfl) ?_ rfl rfl rfl
                with_reducible refine (spec_l01Src_n.calls g s0_0 x1001_1 x1002_1 x1003_1 14 t308 t309 t310 t311 w0 _ ?side1 ?side2 A21.out).mono ?_
                (case side1 => exact au13_23)
                (case side2 => exact au13_26)
                rintro e w28 ⟨rfl, hi, hb, hk⟩
                have HS4_ := keep_cell hk (hHeld.2.2.2.2) au13_15
                refine ⟨_, rfl, ?_⟩
                have n0_ := Aside0.mk (Kd.R_mono (Kd.R_keep (IsS116.apart (show IsS116 w0 _ g s0_0 x1001_1 x1002_1 x1003_1 from by repeat (first | (with_reducible first | exact HI0.out | apply IsS116.alloc | apply IsS116.drewN | apply IsS116.drew | apply IsS116.set_1 | apply IsS116.set_2 | apply IsS116.set_3 | refine IsS116.far ?_ NB0_282.out _ | refine IsS116.far ?_ NB0_296.out _ | refine IsS116.far ?_ NB0_323.out _) | exact HI0.out)) (rk_ HO_4) (by decide)) hk (fun _ h => h.2)) (fun _ h => h.1))
                have n1_ := Aside0.mk (Kd.R_mono (Kd.R_keep (IsS116.apart (show IsS116 w0 _ g s0_0 x1001_1 x1002_1 x1003_1 from by repeat (first | (with_reducible first | exact HI0.out | apply IsS116.alloc | apply IsS116.drewN | apply IsS116.drew | apply IsS116.set_1 | apply IsS116.set_2 | apply IsS116.set_3 | refine IsS116.far ?_ NB0_282.out _ | refine IsS116.far ?_ NB0_296.out _ | refine IsS116.far ?_ NB0_323.out _) | exact HI0.out)) (rk_ HO_297003) (by decide)) hk (fun _ h => h.2)) (fun _ h => h.1))
                have n2_ := Aside0.mk (KeepBut.blk hk (g' := gb282) (o := .cells #[.string (⟨#[]⟩ : ByteArray), .int .i64 0, .int .i64 0, .slice none 0 0] 51 (0, 0)) (bk_ BK282) NB282_0.out (by simp))
                have n3_ := Aside0.mk (KeepBut.blk hk (g' := gb296) (o := .cells #[.string x297000_1, .int .i64 x297001_1, .int .i64 x297002_1, .slice Ao25 x297003_1.length co25] 51 (0, 0)) (bk_ BK296) NB296_0.out (by simp))
                have n4_ := Aside0.mk (KeepBut.blk hk (g' := gb323) (o := .cells #[.string (⟨#[]⟩ : ByteArray), .int .i64 0, .int .i64 0, .slice none 0 0, .int .i64 0, .int .i64 0, .int .i64 0, .int .i64 0, .int .i64 0] 64 (0, 0)) (bk_ BK323) NB323_0.out (by simp))
                have n5_ := Aside0.mk (KeepBut.trans au13_4 hk (.inl rfl))
                have n6_ := Aside0.mk (hb)
                have n7_ := Aside0.mk (hi)
                clear HO_4
                clear HO_297003
                clear BK282
                clear BK296
                clear BK323
                clear HK
                clear HB
                clear HI0
                have HO_4 := n0_
                have HO_297003 := n1_
                have BK282 := n2_
                have BK296 := n3_
                have BK323 := n4_
                have HK := n5_
                have HB := n6_
                have HI0 := n7_
                clear n0_ n1_ n2_ n3_ n4_ n5_ n6_ n7_
                (try clear hb)
                (try clear hb2)
                (try clear hk)
                (try clear hi)
                refine hK.out _ _ ⟨(blk_cell BK296.out 0).trans rfl, (blk_cell BK296.out 1).trans rfl, (blk_cell BK296.out 2).trans rfl, (blk_cell BK296.out 3).trans rfl, HS4_⟩ (fun hHeld => ?_)
                clear hK K
                refine norm_ (a' := ?_) ?_ ?_
                rotate_left
                · show Act.put _ (some 27) _ = _
                  simp only [Act.put, List.setIfInBounds_toArray, List.set_cons_zero, List.set_cons_succ, i64_w, i32_w]
                  rfl
                refine one_ (i := 7) (N := some 28) (bs 10 511) rfl rfl (one_of HT_.out (by kernel_rfl)) (by decide) (fun K hK => ?_)
                refine gr_ Try.func44 #[.agg #[.string x297000_1, .int .i64 x297001_1, .int .i64 x297002_1, .slice Ao25 x297003_1.length co25], .int .i64 (rd t301 x5_1), .int .i64 t308] (by rfl) ?_ rfl rfl rfl
                with_reducible refine (spec_PartnerTake.calls k1 x297000_1 x297001_1 x297002_1 _ _ x297003_1 (rd t301 x5_1) t308 t312 t313 t314 t315 t318 t319 t320 t321 t322 _ ?side1 ?side2 A22.out).mono ?_
                (case side1 => exact au13_14)
                (case side2 => exact au13_30)
                rintro e w29 ⟨v316, rfl, ho0, hb⟩
                have HS4_ := (hb.cell (World.block_lt_of_cell? _ _ (hHeld.2.2.2.2))).trans (hHeld.2.2.2.2)
                refine ⟨_, rfl, ?_⟩
                have n0_ := Aside0.mk (Kd.R_below (rk_ HO_4) hb)
                have n1_ := Aside0.mk (Kd.R_elder' (rk_ HO_297003) (Kd.R_base ho0) hb)
                have n2_ := Aside0.mk (Kd.R_lower (Kd.R_new' ho0 (Kd.R_lt (rk_ HO_297003))) (keep_size (w := w) (g := g) (row := none) au13_4))
                have n3_ := Aside0.mk (blkb_ BK282 hb)
                have n4_ := Aside0.mk (blkb_ BK296 hb)
                have n5_ := Aside0.mk (IsS116.below au13_5 hb)
                have n6_ := Aside0.mk (blkb_ BK323 hb)
                have n7_ := Aside0.mk (KeepBut.trans au13_4 (KeepBut.of_below hb g none) (.inl rfl))
                have n8_ := Aside0.mk (below_step au13_7 hb)
                clear HO_4
                clear HO_297003
                clear BK282
                clear BK296
                clear HI0
                clear BK323
                clear HK
                clear HB
                have HO_4 := n0_
                have HO_297003 := n1_
                have HO317 := n2_
                have BK282 := n3_
                have BK296 := n4_
                have HI0 := n5_
                have BK323 := n6_
                have HK := n7_
                have HB := n8_
                clear n0_ n1_ n2_ n3_ n4_ n5_ n6_ n7_ n8_
                (try clear hb)
                (try clear hb2)
                (try clear hk)
                (try clear hi)
                (try clear ho0)
                refine hK.out _ _ ⟨(blk_cell BK296.out 0).trans rfl, (blk_cell BK296.out 1).trans rfl, (blk_cell BK296.out 2).trans rfl, (blk_cell BK296.out 3).trans rfl, HS4_⟩ (fun hHeld => ?_)
                clear hK K
                refine norm_ (a' := ?_) ?_ ?_
                rotate_left
                · show Act.put _ (some 28) _ = _
                  simp only [Act.put, List.setIfInBounds_toArray, List.set_cons_zero, List.set_cons_succ, i64_w, i32_w]
                  rfl
                exact norm_ au13_20 (hCont (v316, gb323) _ ⟨hHeld, au13_17, au13_16, (rk_ HO_4), (bk_ BK282), (bk_ BK296), (bk_ BK323), GW323.out, GE323.out, NB0_323.out, NB323_0.out, NB282_323.out, NB323_282.out, NB296_323.out, NB323_296.out, au13_5, au13_4, au13_7⟩)
            rintro ⟨v316, gb323⟩ w30 ⟨hS_, h0_, h1_, h2_, h3_, h4_, h5_, h6_, h7_, h8_, h9_, h10_, h11_, h12_, h13_, h14_, h15_, h16_⟩
            have n0_ : Aside0 (Kd.R k62 62 w30 w.heap.size (fun k_ => some k_ ≠ (.slice Ao25 x297003_1.length co25 : Value).ownBlock) v316 t315) := ⟨h0_⟩
            have n1_ : Aside0 (Kd.R k62 62 w30 w.heap.size (fun k_ => some k_ ≠ (v316 : Value).ownBlock) (.slice Ao25 x297003_1.length co25) x297003_1) := ⟨h1_⟩
            have n2_ : Aside0 (Kd.R (Kd.int .i64) 2 w30 w.heap.size (fun _ => True) (.slice (some ad307) t301.length co24) t301) := ⟨h2_⟩
            have n3_ : Aside0 (w30.heap[gb282]? = some (.cells #[.string (⟨#[]⟩ : ByteArray), .int .i64 0, .int .i64 0, .slice none 0 0] 51 (0, 0))) := ⟨h3_⟩
            have n4_ : Aside0 (w30.heap[gb296]? = some (.cells #[.string x297000_1, .int .i64 x297001_1, .int .i64 x297002_1, .slice Ao25 x297003_1.length co25] 51 (0, 0))) := ⟨h4_⟩
            have n5_ : Aside0 (w30.heap[gb323]? = some (.cells #[.string (⟨#[]⟩ : ByteArray), .int .i64 0, .int .i64 0, .slice none 0 0, .int .i64 0, .int .i64 0, .int .i64 0, .int .i64 0, .int .i64 0] 64 (0, 0))) := ⟨h5_⟩
            have n6_ : Aside0 (w.heap.size ≤ gb323) := ⟨h6_⟩
            have n7_ : Aside0 (w0.heap.size ≤ gb323) := ⟨h7_⟩
            have n8_ : Aside0 (g ≠ gb323) := ⟨h8_⟩
            have n9_ : Aside0 (gb323 ≠ g) := ⟨h9_⟩
            have n10_ : Aside0 (gb282 ≠ gb323) := ⟨h10_⟩
            have n11_ : Aside0 (gb323 ≠ gb282) := ⟨h11_⟩
            have n12_ : Aside0 (gb296 ≠ gb323) := ⟨h12_⟩
            have n13_ : Aside0 (gb323 ≠ gb296) := ⟨h13_⟩
            have n14_ : Aside0 (IsS116 w0 w30 g s0_0 t309 t310 t311) := ⟨h14_⟩
            have n15_ : Aside0 (KeepBut w w30 g none) := ⟨h15_⟩
            have n16_ : Aside0 (Below w0.heap.size w0 w30) := ⟨h16_⟩
            clear HO_4
            clear HO_297003
            clear BK282
            clear BK296
            clear HI0
            clear HK
            clear HB
            clear h0_ h1_ h2_ h3_ h4_ h5_ h6_ h7_ h8_ h9_ h10_ h11_ h12_ h13_ h14_ h15_ h16_
            have HO317 := n0_
            have HO_297003 := n1_
            have HO_4 := n2_
            have BK282 := n3_
            have BK296 := n4_
            have BK323 := n5_
            have GW323 := n6_
            have GE323 := n7_
            have NB0_323 := n8_
            have NB323_0 := n9_
            have NB282_323 := n10_
            have NB323_282 := n11_
            have NB296_323 := n12_
            have NB323_296 := n13_
            have HI0 := n14_
            have HK := n15_
            have HB := n16_
            clear n0_ n1_ n2_ n3_ n4_ n5_ n6_ n7_ n8_ n9_ n10_ n11_ n12_ n13_ n14_ n15_ n16_
            have hHeld : w30.cell? ⟨gb296, 0, none⟩ = some (.string x297000_1) ∧ w30.cell? ⟨gb296, 1, none⟩ = some (.int .i64 x297001_1) ∧ w30.cell? ⟨gb296, 2, none⟩ = some (.int .i64 x297002_1) ∧ w30.cell? ⟨gb296, 3, none⟩ = some (.slice Ao25 x297003_1.length co25) ∧ w30.cell? (ad307.add (x5_1).toNat) = some (.int .i64 (rd t301 x5_1)) := hS_
            obtain ⟨Ao34, co34, eo34⟩ := Kd.R_slice HO317.out
            (first | subst eo34 | (injection eo34 with f1_ f2_ f3_; have f4_ := f1_.symm; have f5_ := f3_.symm; clear f1_ f2_ f3_; subst f4_; subst f5_))
            refine norm_ (a' := ?_) ?_ ?_
            rotate_left
            · simp only [putAll, Act.put, List.setIfInBounds_toArray, List.set_cons_zero, List.set_cons_succ]
              rfl
            refine one_ (i := 9) (N := none) (bs 10 1023) rfl rfl (one_of HT_.out (by kernel_rfl)) (by decide) (fun K hK => ?_)
            have hs31 : w30.cell? ⟨gb323, 0, none⟩ = some (.string (⟨#[]⟩ : ByteArray)) := (blk_cell BK323.out 0).trans rfl
            have hfs31 := blk_frozen BK323.out 0
            have hns31_0 := NB282_323.out
            have hns31_1 := NB296_323.out
            have hms31_0 := NB323_282.out
            have hms31_1 := NB323_296.out
            have hs32 : w30.cell? ⟨gb323, 1, none⟩ = some (.int .i64 0) := (blk_cell BK323.out 1).trans rfl
            have hfs32 := blk_frozen BK323.out 1
            have hns32_0 := NB282_323.out
            have hns32_1 := NB296_323.out
            have hms32_0 := NB323_282.out
            have hms32_1 := NB323_296.out
            have hs33 : w30.cell? ⟨gb323, 2, none⟩ = some (.int .i64 0) := (blk_cell BK323.out 2).trans rfl
            have hfs33 := blk_frozen BK323.out 2
            have hns33_0 := NB282_323.out
            have hns33_1 := NB296_323.out
            have hms33_0 := NB323_282.out
            have hms33_1 := NB323_296.out
            have hs35 : w30.cell? ⟨gb323, 3, none⟩ = some (.slice none 0 0) := (blk_cell BK323.out 3).trans rfl
            have hfs35 := blk_frozen BK323.out 3
            have hns35_0 := NB282_323.out
            have hns35_1 := NB296_323.out
            have hms35_0 := NB323_282.out
            have hms35_1 := NB323_296.out
            have hs36 : w30.cell? ⟨gb323, 4, none⟩ = some (.int .i64 0) := (blk_cell BK323.out 4).trans rfl
            have hfs36 := blk_frozen BK323.out 4
            have hns36_0 := NB282_323.out
            have hns36_1 := NB296_323.out
            have hms36_0 := NB323_282.out
            have hms36_1 := NB323_296.out
            have hs37 : w30.cell? ⟨gb323, 5, none⟩ = some (.int .i64 0) := (blk_cell BK323.out 5).trans rfl
            have hfs37 := blk_frozen BK323.out 5
            have hns37_0 := NB282_323.out
            have hns37_1 := NB296_323.out
            have hms37_0 := NB323_282.out
            have hms37_1 := NB323_296.out
            have hs38 : w30.cell? ⟨gb323, 6, none⟩ = some (.int .i64 0) := (blk_cell BK323.out 6).trans rfl
            have hfs38 := blk_frozen BK323.out 6
            have hns38_0 := NB282_323.out
            have hns38_1 := NB296_323.out
            have hms38_0 := NB323_282.out
            have hms38_1 := NB323_296.out
            have hs39 : w30.cell? ⟨gb323, 7, none⟩ = some (.int .i64 0) := (blk_cell BK323.out 7).trans rfl
            have hfs39 := blk_frozen BK323.out 7
            have hns39_0 := NB282_323.out
            have hns39_1 := NB296_323.out
            have hms39_0 := NB323_282.out
            have hms39_1 := NB323_296.out
            have hs40 : w30.cell? ⟨gb323, 8, none⟩ = some (.int .i64 0) := (blk_cell BK323.out 8).trans rfl
            have hfs40 := blk_frozen BK323.out 8
            have hns40_0 := NB282_323.out
            have hns40_1 := NB296_323.out
            have hms40_0 := NB323_282.out
            have hms40_1 := NB323_296.out
            refine skip_ (w1 := ?_) (by rfl) rfl ?_ ?_
            rotate_left
            · go_simp
              rfl
            refine hK.out _ _ ⟨((cell_far (p := ⟨gb323, _, none⟩) NB296_323.out _).trans (((cell_far (p := ⟨gb323, _, none⟩) NB296_323.out _).trans (((cell_far (p := ⟨gb323, _, none⟩) NB296_323.out _).trans (((cell_far (p := ⟨gb323, _, none⟩) NB296_323.out _).trans (((cell_far (p := ⟨gb323, _, none⟩) NB296_323.out _).trans (((cell_far (p := ⟨gb323, _, none⟩) NB296_323.out _).trans (((cell_far (p := ⟨gb323, _, none⟩) NB296_323.out _).trans (((cell_far (p := ⟨gb323, _, none⟩) NB296_323.out _).trans (((cell_far (p := ⟨gb323, _, none⟩) NB296_323.out _).trans (hHeld.1)))))))))))))))))), ((cell_far (p := ⟨gb323, _, none⟩) NB296_323.out _).trans (((cell_far (p := ⟨gb323, _, none⟩) NB296_323.out _).trans (((cell_far (p := ⟨gb323, _, none⟩) NB296_323.out _).trans (((cell_far (p := ⟨gb323, _, none⟩) NB296_323.out _).trans (((cell_far (p := ⟨gb323, _, none⟩) NB296_323.out _).trans (((cell_far (p := ⟨gb323, _, none⟩) NB296_323.out _).trans (((cell_far (p := ⟨gb323, _, none⟩) NB296_323.out _).trans (((cell_far (p := ⟨gb323, _, none⟩) NB296_323.out _).trans (((cell_far (p := ⟨gb323, _, none⟩) NB296_323.out _).trans (hHeld.2.1)))))))))))))))))), ((cell_far (p := ⟨gb323, _, none⟩) NB296_323.out _).trans (((cell_far (p := ⟨gb323, _, none⟩) NB296_323.out _).trans (((cell_far (p := ⟨gb323, _, none⟩) NB296_323.out _).trans (((cell_far (p := ⟨gb323, _, none⟩) NB296_323.out _).trans (((cell_far (p := ⟨gb323, _, none⟩) NB296_323.out _).trans (((cell_far (p := ⟨gb323, _, none⟩) NB296_323.out _).trans (((cell_far (p := ⟨gb323, _, none⟩) NB296_323.out _).trans (((cell_far (p := ⟨gb323, _, none⟩) NB296_323.out _).trans (((cell_far (p := ⟨gb323, _, none⟩) NB296_323.out _).trans (hHeld.2.2.1)))))))))))))))))), ((cell_far (p := ⟨gb323, _, none⟩) NB296_323.out _).trans (((cell_far (p := ⟨gb323, _, none⟩) NB296_323.out _).trans (((cell_far (p := ⟨gb323, _, none⟩) NB296_323.out _).trans (((cell_far (p := ⟨gb323, _, none⟩) NB296_323.out _).trans (((cell_far (p := ⟨gb323, _, none⟩) NB296_323.out _).trans (((cell_far (p := ⟨gb323, _, none⟩) NB296_323.out _).trans (((cell_far (p := ⟨gb323, _, none⟩) NB296_323.out _).trans (((cell_far (p := ⟨gb323, _, none⟩) NB296_323.out _).trans (((cell_far (p := ⟨gb323, _, none⟩) NB296_323.out _).trans (hHeld.2.2.2.1)))))))))))))))))), ((cell_far (p := ⟨gb323, _, none⟩) au13_1 _).trans (((cell_far (p := ⟨gb323, _, none⟩) au13_1 _).trans (((cell_far (p := ⟨gb323, _, none⟩) au13_1 _).trans (((cell_far (p := ⟨gb323, _, none⟩) au13_1 _).trans (((cell_far (p := ⟨gb323, _, none⟩) au13_1 _).trans (((cell_far (p := ⟨gb323, _, none⟩) au13_1 _).trans (((cell_far (p := ⟨gb323, _, none⟩) au13_1 _).trans (((cell_far (p := ⟨gb323, _, none⟩) au13_1 _).trans (((cell_far (p := ⟨gb323, _, none⟩) au13_1 _).trans (hHeld.2.2.2.2))))))))))))))))))⟩ (fun hHeld => ?_)
            clear hK K
            refine done_ (done_of HT_.out (by kernel_rfl)) ?_
            have hnb41 := NB323_282.out
            have hnc41 := NB282_323.out
            have hnb42 := NB323_296.out
            have hnc42 := NB296_323.out
            have hnb43 := NB323_0.out
            have hnc43 := NB0_323.out
            obtain ⟨hcz44_0, hcz44_1, hcz44_2, hcz44_3, hcz44_4, hcz44_5, hcz44_6, hcz44_7, hcz44_8, hfz44_0, hfz44_1, hfz44_2, hfz44_3, hfz44_4, hfz44_5, hfz44_6, hfz44_7, hfz44_8⟩ := cellsF9 BK323.out
            have hnb45 := NB296_282.out
            have hnc45 := NB282_296.out
            have hnb46 := NB296_0.out
            have hnc46 := NB0_296.out
            obtain ⟨hcz47_0, hcz47_1, hcz47_2, hcz47_3, hfz47_0, hfz47_1, hfz47_2, hfz47_3⟩ := cellsF4 BK296.out
            try go_wp2
            go_roundg k1
            case measure => have := HK1.out; omega
            case rel => exact ⟨(wrap64 (x5_1 + 1)), (t309), (t310), (t311), (t312), (t313), (t314), (t315), (.slice Ao34 t315.length co34), er_, H', ⟨by have := HK1.out; omega⟩, ⟨by (with_reducible repeat (first | apply Kd.R_alloc | apply Kd.R_drewN | apply Kd.R_drew)); exact Kd.R_mono (Kd.R_far (p := ⟨gb296, 3, none⟩) (Kd.R_far (p := ⟨gb296, 2, none⟩) (Kd.R_far (p := ⟨gb296, 1, none⟩) (Kd.R_far (p := ⟨gb296, 0, none⟩) (Kd.R_far (p := ⟨gb323, 8, none⟩) (Kd.R_far (p := ⟨gb323, 7, none⟩) (Kd.R_far (p := ⟨gb323, 6, none⟩) (Kd.R_far (p := ⟨gb323, 5, none⟩) (Kd.R_far (p := ⟨gb323, 4, none⟩) (Kd.R_far (p := ⟨gb323, 3, none⟩) (Kd.R_far (p := ⟨gb323, 2, none⟩) (Kd.R_far (p := ⟨gb323, 1, none⟩) (Kd.R_far (p := ⟨gb323, 0, none⟩) (Kd.R_types (Kd.R_types HO_4.out BK323.out (by decide)) BK296.out (by decide)) (fun _ hk => hk.1.2) (.string t312)) (fun _ hk => hk.1.2) (.int .i64 t313)) (fun _ hk => hk.1.2) (.int .i64 t314)) (fun _ hk => hk.1.2) (.slice Ao34 t315.length co34)) (fun _ hk => hk.1.2) (.int .i64 t318)) (fun _ hk => hk.1.2) (.int .i64 t319)) (fun _ hk => hk.1.2) (.int .i64 t320)) (fun _ hk => hk.1.2) (.int .i64 t321)) (fun _ hk => hk.1.2) (.int .i64 t322)) (fun _ hk => hk.2) (.string t312)) (fun _ hk => hk.2) (.int .i64 t313)) (fun _ hk => hk.2) (.int .i64 t314)) (fun _ hk => hk.2) (.slice Ao34 t315.length co34)) (fun _ hk => trivial)⟩, ⟨by (with_reducible repeat (first | apply Kd.R_alloc | apply Kd.R_drewN | apply Kd.R_drew)); exact Kd.R_mono (Kd.R_far (p := ⟨gb296, 3, none⟩) (Kd.R_far (p := ⟨gb296, 2, none⟩) (Kd.R_far (p := ⟨gb296, 1, none⟩) (Kd.R_far (p := ⟨gb296, 0, none⟩) (Kd.R_far (p := ⟨gb323, 8, none⟩) (Kd.R_far (p := ⟨gb323, 7, none⟩) (Kd.R_far (p := ⟨gb323, 6, none⟩) (Kd.R_far (p := ⟨gb323, 5, none⟩) (Kd.R_far (p := ⟨gb323, 4, none⟩) (Kd.R_far (p := ⟨gb323, 3, none⟩) (Kd.R_far (p := ⟨gb323, 2, none⟩) (Kd.R_far (p := ⟨gb323, 1, none⟩) (Kd.R_far (p := ⟨gb323, 0, none⟩) (Kd.R_types (Kd.R_types HO317.out BK323.out (by decide)) BK296.out (by decide)) (fun _ hk => hk.1.2) (.string t312)) (fun _ hk => hk.1.2) (.int .i64 t313)) (fun _ hk => hk.1.2) (.int .i64 t314)) (fun _ hk => hk.1.2) (.slice Ao34 t315.length co34)) (fun _ hk => hk.1.2) (.int .i64 t318)) (fun _ hk => hk.1.2) (.int .i64 t319)) (fun _ hk => hk.1.2) (.int .i64 t320)) (fun _ hk => hk.1.2) (.int .i64 t321)) (fun _ hk => hk.1.2) (.int .i64 t322)) (fun _ hk => hk.2) (.string t312)) (fun _ hk => hk.2) (.int .i64 t313)) (fun _ hk => hk.2) (.int .i64 t314)) (fun _ hk => hk.2) (.slice Ao34 t315.length co34)) (fun _ hk => trivial)⟩, ⟨by (with_reducible repeat (first | refine blk_drewN ?_ _ | refine blk_drew ?_ | refine blk_alloc ?_ _)); refine blk_far ?_ NB282_296.out _; (with_reducible repeat (first | refine blk_drewN ?_ _ | refine blk_drew ?_ | refine blk_alloc ?_ _)); refine blk_far ?_ NB282_296.out _; (with_reducible repeat (first | refine blk_drewN ?_ _ | refine blk_drew ?_ | refine blk_alloc ?_ _)); refine blk_far ?_ NB282_296.out _; (with_reducible repeat (first | refine blk_drewN ?_ _ | refine blk_drew ?_ | refine blk_alloc ?_ _)); refine blk_far ?_ NB282_296.out _; (with_reducible repeat (first | refine blk_drewN ?_ _ | refine blk_drew ?_ | refine blk_alloc ?_ _)); refine blk_far ?_ NB282_323.out _; (with_reducible repeat (first | refine blk_drewN ?_ _ | refine blk_drew ?_ | refine blk_alloc ?_ _)); refine blk_far ?_ NB282_323.out _; (with_reducible repeat (first | refine blk_drewN ?_ _ | refine blk_drew ?_ | refine blk_alloc ?_ _)); refine blk_far ?_ NB282_323.out _; (with_reducible repeat (first | refine blk_drewN ?_ _ | refine blk_drew ?_ | refine blk_alloc ?_ _)); refine blk_far ?_ NB282_323.out _; (with_reducible repeat (first | refine blk_drewN ?_ _ | refine blk_drew ?_ | refine blk_alloc ?_ _)); refine blk_far ?_ NB282_323.out _; (with_reducible repeat (first | refine blk_drewN ?_ _ | refine blk_drew ?_ | refine blk_alloc ?_ _)); refine blk_far ?_ NB282_323.out _; (with_reducible repeat (first | refine blk_drewN ?_ _ | refine blk_drew ?_ | refine blk_alloc ?_ _)); refine blk_far ?_ NB282_323.out _; (with_reducible repeat (first | refine blk_drewN ?_ _ | refine blk_drew ?_ | refine blk_alloc ?_ _)); refine blk_far ?_ NB282_323.out _; (with_reducible repeat (first | refine blk_drewN ?_ _ | refine blk_drew ?_ | refine blk_alloc ?_ _)); refine blk_far ?_ NB282_323.out _; (with_reducible repeat (first | refine blk_drewN ?_ _ | refine blk_drew ?_ | refine blk_alloc ?_ _)); exact BK282.out⟩, ⟨by (with_reducible repeat (first | refine blk_drewN ?_ _ | refine blk_drew ?_ | refine blk_alloc ?_ _)); refine blk_put (cs := #[.string t312, .int .i64 t313, .int .i64 t314, .slice Ao25 x297003_1.length co25]) ?_ 3 _ rfl; (with_reducible repeat (first | refine blk_drewN ?_ _ | refine blk_drew ?_ | refine blk_alloc ?_ _)); refine blk_put (cs := #[.string t312, .int .i64 t313, .int .i64 x297002_1, .slice Ao25 x297003_1.length co25]) ?_ 2 _ rfl; (with_reducible repeat (first | refine blk_drewN ?_ _ | refine blk_drew ?_ | refine blk_alloc ?_ _)); refine blk_put (cs := #[.string t312, .int .i64 x297001_1, .int .i64 x297002_1, .slice Ao25 x297003_1.length co25]) ?_ 1 _ rfl; (with_reducible repeat (first | refine blk_drewN ?_ _ | refine blk_drew ?_ | refine blk_alloc ?_ _)); refine blk_put (cs := #[.string x297000_1, .int .i64 x297001_1, .int .i64 x297002_1, .slice Ao25 x297003_1.length co25]) ?_ 0 _ rfl; (with_reducible repeat (first | refine blk_drewN ?_ _ | refine blk_drew ?_ | refine blk_alloc ?_ _)); refine blk_far ?_ NB296_323.out _; (with_reducible repeat (first | refine blk_drewN ?_ _ | refine blk_drew ?_ | refine blk_alloc ?_ _)); refine blk_far ?_ NB296_323.out _; (with_reducible repeat (first | refine blk_drewN ?_ _ | refine blk_drew ?_ | refine blk_alloc ?_ _)); refine blk_far ?_ NB296_323.out _; (with_reducible repeat (first | refine blk_drewN ?_ _ | refine blk_drew ?_ | refine blk_alloc ?_ _)); refine blk_far ?_ NB296_323.out _; (with_reducible repeat (first | refine blk_drewN ?_ _ | refine blk_drew ?_ | refine blk_alloc ?_ _)); refine blk_far ?_ NB296_323.out _; (with_reducible repeat (first | refine blk_drewN ?_ _ | refine blk_drew ?_ | refine blk_alloc ?_ _)); refine blk_far ?_ NB296_323.out _; (with_reducible repeat (first | refine blk_drewN ?_ _ | refine blk_drew ?_ | refine blk_alloc ?_ _)); refine blk_far ?_ NB296_323.out _; (with_reducible repeat (first | refine blk_drewN ?_ _ | refine blk_drew ?_ | refine blk_alloc ?_ _)); refine blk_far ?_ NB296_323.out _; (with_reducible repeat (first | refine blk_drewN ?_ _ | refine blk_drew ?_ | refine blk_alloc ?_ _)); refine blk_far ?_ NB296_323.out _; (with_reducible repeat (first | refine blk_drewN ?_ _ | refine blk_drew ?_ | refine blk_alloc ?_ _)); exact BK296.out⟩, ⟨au13_22⟩, ⟨au13_27⟩, ⟨au13_25⟩⟩
          · rw [if_neg c23] at H
            have c23b0 : (t322 == 0) = false := beq_eq_false_iff_ne.mpr c23
            have c23b1 : (t322 != 0) = true := bne_iff_ne.mpr c23
            have H' := Aside0.mk H
            clear H
            obtain ⟨Ao48, co48, eo48⟩ := Kd.R_slice HO_4.out
            subst eo48
            obtain ⟨Ao49, co49, eo49⟩ := Kd.R_slice HO_297003.out
            subst eo49
            try go_wp2
            have n0_ := Aside0.mk (Kd.R_drew HO_4.out)
            have n1_ := Aside0.mk (Kd.R_drew HO_297003.out)
            have n2_ := Aside0.mk (blk_drew BK282.out)
            have n3_ := Aside0.mk (blk_drew BK296.out)
            have n4_ := Aside0.mk (IsS116.drew HI0.out)
            have n5_ := Aside0.mk (keep_drew HK.out)
            have n6_ := Aside0.mk (below_drew1 HB.out)
            clear HO_4
            clear HO_297003
            clear BK282
            clear BK296
            clear HI0
            clear HK
            clear HB
            have HO_4 := n0_
            have HO_297003 := n1_
            have BK282 := n2_
            have BK296 := n3_
            have HI0 := n4_
            have HK := n5_
            have HB := n6_
            clear n0_ n1_ n2_ n3_ n4_ n5_ n6_
            have p307 : 0 ≤ (x5_1 : Int) := of_decide_eq_true as_
            have q307 : x5_1 < (t301.length : Int) := of_decide_eq_true as_
            obtain ⟨ad307, e307, hx307_0⟩ := Kd.at_int (Kd.R_reads' HO_4.out).2.2 x5_1 p307 q307
            cases e307
            replace p307 := eq_true p307
            replace q307 := eq_true q307
            refine start_ (n := 10) (S := fun w' => w'.cell? ⟨gb296, 0, none⟩ = some (.string x297000_1) ∧ w'.cell? ⟨gb296, 1, none⟩ = some (.int .i64 x297001_1) ∧ w'.cell? ⟨gb296, 2, none⟩ = some (.int .i64 x297002_1) ∧ w'.cell? ⟨gb296, 3, none⟩ = some (.slice Ao49 x297003_1.length co49) ∧ w'.cell? (ad307.add (x5_1).toNat) = some (.int .i64 (rd t301 x5_1))) (ds := []) (bs 10 0) (by kernel_rfl) rfl rfl ⟨(blk_cell BK296.out 0).trans rfl, (blk_cell BK296.out 1).trans rfl, (blk_cell BK296.out 2).trans rfl, (blk_cell BK296.out 3).trans rfl, hx307_0⟩ (fun hHeld => ?_); refine with_tabW spec_l01Src_l07Partner.tab6 spec_l01Src_l07Partner.bits6 (fun HT_ HW_ => ?_)
            generalize wr.drew = w50 at HO_4 HO_297003 BK282 BK296 HI0 HK HB hx307_0 hHeld ⊢
            refine pu_ 1 22 (bs 10 2) HT_ ?_ rfl rfl
            refine pu_ 2 23 (bs 10 6) HT_ ?_ rfl rfl
            refine pu_ 3 24 (bs 10 14) HT_ ?_ rfl rfl
            refine pu_ 5 26 (bs 10 46) HT_ ?_ rfl rfl
            refine tk_ 0 21 (bs 10 47) HT_ HW_ hHeld au13_28 ?_ rfl rfl
            refine tk_ 4 25 (bs 10 63) HT_ HW_ hHeld au13_28 ?_ rfl rfl
            refine join_ (σ := Value × Nat) 1 (bs 10 511) (fun s_ => [(27, .int .i64 t308), (28, .agg #[.string t312, .int .i64 t313, .int .i64 t314, s_.1, .int .i64 t318, .int .i64 t319, .int .i64 t320, .int .i64 t321, .int .i64 t322]), (6, .pointer (some ⟨s_.2, 0, none⟩))]) (fun s_ w' => (w'.cell? ⟨gb296, 0, none⟩ = some (.string x297000_1) ∧ w'.cell? ⟨gb296, 1, none⟩ = some (.int .i64 x297001_1) ∧ w'.cell? ⟨gb296, 2, none⟩ = some (.int .i64 x297002_1) ∧ w'.cell? ⟨gb296, 3, none⟩ = some (.slice Ao49 x297003_1.length co49) ∧ w'.cell? (ad307.add (x5_1).toNat) = some (.int .i64 (rd t301 x5_1))) ∧ (Kd.R k62 62 w' w.heap.size (fun k_ => some k_ ≠ (.slice Ao49 x297003_1.length co49 : Value).ownBlock) s_.1 t315) ∧ (Kd.R k62 62 w' w.heap.size (fun k_ => some k_ ≠ (s_.1 : Value).ownBlock) (.slice Ao49 x297003_1.length co49) x297003_1) ∧ (Kd.R (Kd.int .i64) 2 w' w.heap.size (fun _ => True) (.slice (some ad307) t301.length co48) t301) ∧ (w'.heap[gb282]? = some (.cells #[.string (⟨#[]⟩ : ByteArray), .int .i64 0, .int .i64 0, .slice none 0 0] 51 (0, 0))) ∧ (w'.heap[gb296]? = some (.cells #[.string x297000_1, .int .i64 x297001_1, .int .i64 x297002_1, .slice Ao49 x297003_1.length co49] 51 (0, 0))) ∧ (w'.heap[s_.2]? = some (.cells #[.string (⟨#[]⟩ : ByteArray), .int .i64 0, .int .i64 0, .slice none 0 0, .int .i64 0, .int .i64 0, .int .i64 0, .int .i64 0, .int .i64 0] 64 (0, 0))) ∧ (w.heap.size ≤ s_.2) ∧ (w0.heap.size ≤ s_.2) ∧ (g ≠ s_.2) ∧ (s_.2 ≠ g) ∧ (gb282 ≠ s_.2) ∧ (s_.2 ≠ gb282) ∧ (gb296 ≠ s_.2) ∧ (s_.2 ≠ gb296) ∧ (IsS116 w0 w' g s0_0 t309 t310 t311) ∧ (KeepBut w w' g none) ∧ (Below w0.heap.size w0 w')) ?_ ?_
            rotate_left
            · intro hCont
              refine two_ (i := 6) (j := 8) (Ni := some 27) (Nj := some 6) (bs 10 127) (bs 10 319) rfl rfl rfl rfl (two_of HT_.out (by kernel_rfl)) (by decide) (by decide) (fun K hK => ?_) (fun K hK => ?_)
              · skip
                refine gr_ Try.func101 #[.pointer (some ⟨g, 0, none⟩), .int .i64 14] (by rfl) ?_ rfl rfl rfl
                with_reducible refine (spec_l01Src_n.calls g s0_0 x1001_1 x1002_1 x1003_1 14 t308 t309 t310 t311 w0 _ ?side1 ?side2 A21.out).mono ?_
                (case side1 => exact au13_2)
                (case side2 => exact au13_3)
                rintro e w51 ⟨rfl, hi, hb, hk⟩
                have HS4_ := keep_cell hk (hHeld.2.2.2.2) au13_15
                refine ⟨_, rfl, ?_⟩
                have n0_ := Aside0.mk (Kd.R_mono (Kd.R_keep (IsS116.apart (show IsS116 w0 _ g s0_0 x1001_1 x1002_1 x1003_1 from by repeat (first | (with_reducible first | exact HI0.out | apply IsS116.alloc | apply IsS116.drewN | apply IsS116.drew | apply IsS116.set_1 | apply IsS116.set_2 | apply IsS116.set_3 | refine IsS116.far ?_ NB0_282.out _ | refine IsS116.far ?_ NB0_296.out _) | exact HI0.out)) (rk_ HO_4) (by decide)) hk (fun _ h => h.2)) (fun _ h => h.1))
                have n1_ := Aside0.mk (Kd.R_mono (Kd.R_keep (IsS116.apart (show IsS116 w0 _ g s0_0 x1001_1 x1002_1 x1003_1 from by repeat (first | (with_reducible first | exact HI0.out | apply IsS116.alloc | apply IsS116.drewN | apply IsS116.drew | apply IsS116.set_1 | apply IsS116.set_2 | apply IsS116.set_3 | refine IsS116.far ?_ NB0_282.out _ | refine IsS116.far ?_ NB0_296.out _) | exact HI0.out)) (rk_ HO_297003) (by decide)) hk (fun _ h => h.2)) (fun _ h => h.1))
                have n2_ := Aside0.mk (KeepBut.blk hk (g' := gb282) (o := .cells #[.string (⟨#[]⟩ : ByteArray), .int .i64 0, .int .i64 0, .slice none 0 0] 51 (0, 0)) (bk_ BK282) NB282_0.out (by simp))
                have n3_ := Aside0.mk (KeepBut.blk hk (g' := gb296) (o := .cells #[.string x297000_1, .int .i64 x297001_1, .int .i64 x297002_1, .slice Ao49 x297003_1.length co49] 51 (0, 0)) (bk_ BK296) NB296_0.out (by simp))
                have n4_ := Aside0.mk (KeepBut.trans au13_0 hk (.inl rfl))
                have n5_ := Aside0.mk (hb)
                have n6_ := Aside0.mk (hi)
                clear HO_4
                clear HO_297003
                clear BK282
                clear BK296
                clear HK
                clear HB
                clear HI0
                have HO_4 := n0_
                have HO_297003 := n1_
                have BK282 := n2_
                have BK296 := n3_
                have HK := n4_
                have HB := n5_
                have HI0 := n6_
                clear n0_ n1_ n2_ n3_ n4_ n5_ n6_
                (try clear hb)
                (try clear hb2)
                (try clear hk)
                (try clear hi)
                refine hK.out _ _ ⟨(blk_cell BK296.out 0).trans rfl, (blk_cell BK296.out 1).trans rfl, (blk_cell BK296.out 2).trans rfl, (blk_cell BK296.out 3).trans rfl, HS4_⟩ (fun hHeld => ?_)
                clear hK K
                refine norm_ (a' := ?_) ?_ ?_
                rotate_left
                · show Act.put _ (some 27) _ = _
                  simp only [Act.put, List.setIfInBounds_toArray, List.set_cons_zero, List.set_cons_succ, i64_w, i32_w]
                  rfl
                refine two_ (i := 7) (j := 8) (Ni := some 28) (Nj := some 6) (bs 10 255) (bs 10 383) rfl rfl rfl rfl (two_of HT_.out (by kernel_rfl)) (by decide) (by decide) (fun K hK => ?_) (fun K hK => ?_)
                · skip
                  refine gr_ Try.func44 #[.agg #[.string x297000_1, .int .i64 x297001_1, .int .i64 x297002_1, .slice Ao49 x297003_1.length co49], .int .i64 (rd t301 x5_1), .int .i64 t308] (by rfl) ?_ rfl rfl rfl
                  with_reducible refine (spec_PartnerTake.calls k1 x297000_1 x297001_1 x297002_1 _ _ x297003_1 (rd t301 x5_1) t308 t312 t313 t314 t315 t318 t319 t320 t321 t322 _ ?side1 ?side2 A22.out).mono ?_
                  (case side1 => exact au13_14)
                  (case side2 => exact au13_30)
                  rintro e w52 ⟨v316, rfl, ho0, hb⟩
                  have HS4_ := (hb.cell (World.block_lt_of_cell? _ _ (hHeld.2.2.2.2))).trans (hHeld.2.2.2.2)
                  refine ⟨_, rfl, ?_⟩
                  have n0_ := Aside0.mk (Kd.R_below (rk_ HO_4) hb)
                  have n1_ := Aside0.mk (Kd.R_elder' (rk_ HO_297003) (Kd.R_base ho0) hb)
                  have n2_ := Aside0.mk (Kd.R_lower (Kd.R_new' ho0 (Kd.R_lt (rk_ HO_297003))) (keep_size (w := w) (g := g) (row := none) au13_0))
                  have n3_ := Aside0.mk (blkb_ BK282 hb)
                  have n4_ := Aside0.mk (blkb_ BK296 hb)
                  have n5_ := Aside0.mk (IsS116.below au13_6 hb)
                  have n6_ := Aside0.mk (KeepBut.trans au13_0 (KeepBut.of_below hb g none) (.inl rfl))
                  have n7_ := Aside0.mk (below_step au13_8 hb)
                  clear HO_4
                  clear HO_297003
                  clear BK282
                  clear BK296
                  clear HI0
                  clear HK
                  clear HB
                  have HO_4 := n0_
                  have HO_297003 := n1_
                  have HO317 := n2_
                  have BK282 := n3_
                  have BK296 := n4_
                  have HI0 := n5_
                  have HK := n6_
                  have HB := n7_
                  clear n0_ n1_ n2_ n3_ n4_ n5_ n6_ n7_
                  (try clear hb)
                  (try clear hb2)
                  (try clear hk)
                  (try clear hi)
                  (try clear ho0)
                  refine hK.out _ _ ⟨(blk_cell BK296.out 0).trans rfl, (blk_cell BK296.out 1).trans rfl, (blk_cell BK296.out 2).trans rfl, (blk_cell BK296.out 3).trans rfl, HS4_⟩ (fun hHeld => ?_)
                  clear hK K
                  refine norm_ (a' := ?_) ?_ ?_
                  rotate_left
                  · show Act.put _ (some 28) _ = _
                    simp only [Act.put, List.setIfInBounds_toArray, List.set_cons_zero, List.set_cons_succ, i64_w, i32_w]
                    rfl
                  refine one_ (i := 8) (N := some 6) (bs 10 511) rfl rfl (one_of HT_.out (by kernel_rfl)) (by decide) (fun K hK => ?_)
                  refine box_step ?hg (N := 6) ?hd (cs := #[.string (⟨#[]⟩ : ByteArray), .int .i64 0, .int .i64 0, .slice none 0 0, .int .i64 0, .int .i64 0, .int .i64 0, .int .i64 0, .int .i64 0]) (t := 64) ?hr ?_; (case hd => rfl); (case hg => rfl); (case hr => exact hr_)
                  intro gb323 hg w53 hbox hb
                  have HS4_ := (hb.cell (World.block_lt_of_cell? _ _ (hHeld.2.2.2.2))).trans (hHeld.2.2.2.2)
                  have n0_ := Aside0.mk (Kd.R_below (rk_ HO_4) hb)
                  have n1_ := Aside0.mk (Kd.R_below (rk_ HO_297003) hb)
                  have n2_ := Aside0.mk (Kd.R_below (rk_ HO317) hb)
                  have n3_ := Aside0.mk (blkb_ BK282 hb)
                  have n4_ := Aside0.mk (blkb_ BK296 hb)
                  have n5_ := Aside0.mk (IsS116.below au13_6 hb)
                  have n6_ := Aside0.mk (KeepBut.trans au13_0 (KeepBut.of_below hb g none) (.inl rfl))
                  have n7_ := Aside0.mk (below_step au13_8 hb)
                  have n8_ := Aside0.mk (hbox)
                  have n9_ := Aside0.mk ((by rw [hg]; exact (keep_size (w := w) (g := g) (row := none) au13_0) : w.heap.size ≤ gb323))
                  have n10_ := Aside0.mk ((Nat.le_trans HW0.out (by rw [hg]; exact (keep_size (w := w) (g := g) (row := none) au13_0) : w.heap.size ≤ gb323) : w0.heap.size ≤ gb323))
                  have n11_ := Aside0.mk (gn_ hg (blkl_ BK282))
                  have n12_ := Aside0.mk (gm_ hg (blkl_ BK282))
                  have n13_ := Aside0.mk (gn_ hg (blkl_ BK296))
                  have n14_ := Aside0.mk (gm_ hg (blkl_ BK296))
                  have n15_ := Aside0.mk ((by rw [hg]; exact Nat.ne_of_lt (IsS116.lt (show IsS116 w0 _ g s0_0 t309 t310 t311 from by repeat (first | (with_reducible first | exact HI0.out | apply IsS116.alloc | apply IsS116.drewN | apply IsS116.drew | apply IsS116.set_1 | apply IsS116.set_2 | apply IsS116.set_3 | refine IsS116.far ?_ NB0_282.out _ | refine IsS116.far ?_ NB0_296.out _) | exact HI0.out))) : g ≠ gb323))
                  have n16_ := Aside0.mk ((by rw [hg]; exact Nat.ne_of_gt (IsS116.lt (show IsS116 w0 _ g s0_0 t309 t310 t311 from by repeat (first | (with_reducible first | exact HI0.out | apply IsS116.alloc | apply IsS116.drewN | apply IsS116.drew | apply IsS116.set_1 | apply IsS116.set_2 | apply IsS116.set_3 | refine IsS116.far ?_ NB0_282.out _ | refine IsS116.far ?_ NB0_296.out _) | exact HI0.out))) : gb323 ≠ g))
                  clear HO_4
                  clear HO_297003
                  clear HO317
                  clear BK282
                  clear BK296
                  clear HI0
                  clear HK
                  clear HB
                  have HO_4 := n0_
                  have HO_297003 := n1_
                  have HO317 := n2_
                  have BK282 := n3_
                  have BK296 := n4_
                  have HI0 := n5_
                  have HK := n6_
                  have HB := n7_
                  have BK323 := n8_
                  have GW323 := n9_
                  have GE323 := n10_
                  have NB282_323 := n11_
                  have NB323_282 := n12_
                  have NB296_323 := n13_
                  have NB323_296 := n14_
                  have NB0_323 := n15_
                  have NB323_0 := n16_
                  clear n0_ n1_ n2_ n3_ n4_ n5_ n6_ n7_ n8_ n9_ n10_ n11_ n12_ n13_ n14_ n15_ n16_
                  clear hb hbox hg
                  refine hK.out _ _ ⟨(blk_cell BK296.out 0).trans rfl, (blk_cell BK296.out 1).trans rfl, (blk_cell BK296.out 2).trans rfl, (blk_cell BK296.out 3).trans rfl, HS4_⟩ (fun hHeld => ?_)
                  clear hK K
                  refine norm_ (a' := ?_) ?_ ?_
                  rotate_left
                  · show Act.put _ (some 6) _ = _
                    simp only [Act.put, List.setIfInBounds_toArray, List.set_cons_zero, List.set_cons_succ, i64_w, i32_w]
                    rfl
                  exact norm_ au13_20 (hCont (v316, gb323) _ ⟨hHeld, au13_17, au13_16, (rk_ HO_4), (bk_ BK282), (bk_ BK296), (bk_ BK323), GW323.out, GE323.out, NB0_323.out, NB323_0.out, NB282_323.out, NB323_282.out, NB296_323.out, NB323_296.out, au13_5, au13_4, au13_7⟩)
                · skip
                  refine box_step ?hg (N := 6) ?hd (cs := #[.string (⟨#[]⟩ : ByteArray), .int .i64 0, .int .i64 0, .slice none 0 0, .int .i64 0, .int .i64 0, .int .i64 0, .int .i64 0, .int .i64 0]) (t := 64) ?hr ?_; (case hd => rfl); (case hg => rfl); (case hr => exact hr_)
                  intro gb323 hg w52 hbox hb
                  have HS4_ := (hb.cell (World.block_lt_of_cell? _ _ (hHeld.2.2.2.2))).trans (hHeld.2.2.2.2)
                  have n0_ := Aside0.mk (Kd.R_below (rk_ HO_4) hb)
                  have n1_ := Aside0.mk (Kd.R_below (rk_ HO_297003) hb)
                  have n2_ := Aside0.mk (blkb_ BK282 hb)
                  have n3_ := Aside0.mk (blkb_ BK296 hb)
                  have n4_ := Aside0.mk (IsS116.below au13_6 hb)
                  have n5_ := Aside0.mk (KeepBut.trans au13_0 (KeepBut.of_below hb g none) (.inl rfl))
                  have n6_ := Aside0.mk (below_step au13_8 hb)
                  have n7_ := Aside0.mk (hbox)
                  have n8_ := Aside0.mk ((by rw [hg]; exact (keep_size (w := w) (g := g) (row := none) au13_0) : w.heap.size ≤ gb323))
                  have n9_ := Aside0.mk ((Nat.le_trans HW0.out (by rw [hg]; exact (keep_size (w := w) (g := g) (row := none) au13_0) : w.heap.size ≤ gb323) : w0.heap.size ≤ gb323))
                  have n10_ := Aside0.mk (gn_ hg (blkl_ BK282))
                  have n11_ := Aside0.mk (gm_ hg (blkl_ BK282))
                  have n12_ := Aside0.mk (gn_ hg (blkl_ BK296))
                  have n13_ := Aside0.mk (gm_ hg (blkl_ BK296))
                  have n14_ := Aside0.mk ((by rw [hg]; exact Nat.ne_of_lt (IsS116.lt (show IsS116 w0 _ g s0_0 t309 t310 t311 from by repeat (first | (with_reducible first | exact HI0.out | apply IsS116.alloc | apply IsS116.drewN | apply IsS116.drew | apply IsS116.set_1 | apply IsS116.set_2 | apply IsS116.set_3 | refine IsS116.far ?_ NB0_282.out _ | refine IsS116.far ?_ NB0_296.out _) | exact HI0.out))) : g ≠ gb323))
                  have n15_ := Aside0.mk ((by rw [hg]; exact Nat.ne_of_gt (IsS116.lt (show IsS116 w0 _ g s0_0 t309 t310 t311 from by repeat (first | (with_reducible first | exact HI0.out | apply IsS116.alloc | apply IsS116.drewN | apply IsS116.drew | apply IsS116.set_1 | apply IsS116.set_2 | apply IsS116.set_3 | refine IsS116.far ?_ NB0_282.out _ | refine IsS116.far ?_ NB0_296.out _) | exact HI0.out))) : gb323 ≠ g))
                  clear HO_4
                  clear HO_297003
                  clear BK282
                  clear BK296
                  clear HI0
                  clear HK
                  clear HB
                  have HO_4 := n0_
                  have HO_297003 := n1_
                  have BK282 := n2_
                  have BK296 := n3_
                  have HI0 := n4_
                  have HK := n5_
                  have HB := n6_
                  have BK323 := n7_
                  have GW323 := n8_
                  have GE323 := n9_
                  have NB282_323 := n10_
                  have NB323_282 := n11_
                  have NB296_323 := n12_
                  have NB323_296 := n13_
                  have NB0_323 := n14_
                  have NB323_0 := n15_
                  clear n0_ n1_ n2_ n3_ n4_ n5_ n6_ n7_ n8_ n9_ n10_ n11_ n12_ n13_ n14_ n15_
                  clear hb hbox hg
                  refine hK.out _ _ ⟨(blk_cell BK296.out 0).trans rfl, (blk_cell BK296.out 1).trans rfl, (blk_cell BK296.out 2).trans rfl, (blk_cell BK296.out 3).trans rfl, HS4_⟩ (fun hHeld => ?_)
                  clear hK K
                  refine norm_ (a' := ?_) ?_ ?_
                  rotate_left
                  · show Act.put _ (some 6) _ = _
                    simp only [Act.put, List.setIfInBounds_toArray, List.set_cons_zero, List.set_cons_succ, i64_w, i32_w]
                    rfl
                  refine one_ (i := 7) (N := some 28) (bs 10 511) rfl rfl (one_of HT_.out (by kernel_rfl)) (by decide) (fun K hK => ?_)
                  refine gr_ Try.func44 #[.agg #[.string x297000_1, .int .i64 x297001_1, .int .i64 x297002_1, .slice Ao49 x297003_1.length co49], .int .i64 (rd t301 x5_1), .int .i64 t308] (by rfl) ?_ rfl rfl rfl
                  with_reducible refine (spec_PartnerTake.calls k1 x297000_1 x297001_1 x297002_1 _ _ x297003_1 (rd t301 x5_1) t308 t312 t313 t314 t315 t318 t319 t320 t321 t322 _ ?side1 ?side2 A22.out).mono ?_
                  (case side1 => exact au13_14)
                  (case side2 => exact au13_30)
                  rintro e w53 ⟨v316, rfl, ho0, hb⟩
                  have HS4_ := (hb.cell (World.block_lt_of_cell? _ _ (hHeld.2.2.2.2))).trans (hHeld.2.2.2.2)
                  refine ⟨_, rfl, ?_⟩
                  have n0_ := Aside0.mk (Kd.R_below (rk_ HO_4) hb)
                  have n1_ := Aside0.mk (Kd.R_elder' (rk_ HO_297003) (Kd.R_base ho0) hb)
                  have n2_ := Aside0.mk (Kd.R_lower (Kd.R_new' ho0 (Kd.R_lt (rk_ HO_297003))) (keep_size (w := w) (g := g) (row := none) au13_4))
                  have n3_ := Aside0.mk (blkb_ BK282 hb)
                  have n4_ := Aside0.mk (blkb_ BK296 hb)
                  have n5_ := Aside0.mk (IsS116.below au13_5 hb)
                  have n6_ := Aside0.mk (blkb_ BK323 hb)
                  have n7_ := Aside0.mk (KeepBut.trans au13_4 (KeepBut.of_below hb g none) (.inl rfl))
                  have n8_ := Aside0.mk (below_step au13_7 hb)
                  clear HO_4
                  clear HO_297003
                  clear BK282
                  clear BK296
                  clear HI0
                  clear BK323
                  clear HK
                  clear HB
                  have HO_4 := n0_
                  have HO_297003 := n1_
                  have HO317 := n2_
                  have BK282 := n3_
                  have BK296 := n4_
                  have HI0 := n5_
                  have BK323 := n6_
                  have HK := n7_
                  have HB := n8_
                  clear n0_ n1_ n2_ n3_ n4_ n5_ n6_ n7_ n8_
                  (try clear hb)
                  (try clear hb2)
                  (try clear hk)
                  (try clear hi)
                  (try clear ho0)
                  refine hK.out _ _ ⟨(blk_cell BK296.out 0).trans rfl, (blk_cell BK296.out 1).trans rfl, (blk_cell BK296.out 2).trans rfl, (blk_cell BK296.out 3).trans rfl, HS4_⟩ (fun hHeld => ?_)
                  clear hK K
                  refine norm_ (a' := ?_) ?_ ?_
                  rotate_left
                  · show Act.put _ (some 28) _ = _
                    simp only [Act.put, List.setIfInBounds_toArray, List.set_cons_zero, List.set_cons_succ, i64_w, i32_w]
                    rfl
                  exact norm_ au13_20 (hCont (v316, gb323) _ ⟨hHeld, au13_17, au13_16, (rk_ HO_4), (bk_ BK282), (bk_ BK296), (bk_ BK323), GW323.out, GE323.out, NB0_323.out, NB323_0.out, NB282_323.out, NB323_282.out, NB296_323.out, NB323_296.out, au13_5, au13_4, au13_7⟩)
              · skip
                refine box_step ?hg (N := 6) ?hd (cs := #[.string (⟨#[]⟩ : ByteArray), .int .i64 0, .int .i64 0, .slice none 0 0, .int .i64 0, .int .i64 0, .int .i64 0, .int .i64 0, .int .i64 0]) (t := 64) ?hr ?_; (case hd => rfl); (case hg => rfl); (case hr => exact hr_)
                intro gb323 hg w51 hbox hb
                have HS4_ := (hb.cell (World.block_lt_of_cell? _ _ (hHeld.2.2.2.2))).trans (hHeld.2.2.2.2)
                have n0_ := Aside0.mk (Kd.R_below (rk_ HO_4) hb)
                have n1_ := Aside0.mk (Kd.R_below (rk_ HO_297003) hb)
                have n2_ := Aside0.mk (blkb_ BK282 hb)
                have n3_ := Aside0.mk (blkb_ BK296 hb)
                have n4_ := Aside0.mk (IsS116.below au13_6 hb)
                have n5_ := Aside0.mk (KeepBut.trans au13_0 (KeepBut.of_below hb g none) (.inl rfl))
                have n6_ := Aside0.mk (below_step au13_8 hb)
                have n7_ := Aside0.mk (hbox)
                have n8_ := Aside0.mk ((by rw [hg]; exact (keep_size (w := w) (g := g) (row := none) au13_0) : w.heap.size ≤ gb323))
                have n9_ := Aside0.mk ((Nat.le_trans HW0.out (by rw [hg]; exact (keep_size (w := w) (g := g) (row := none) au13_0) : w.heap.size ≤ gb323) : w0.heap.size ≤ gb323))
                have n10_ := Aside0.mk (gn_ hg (blkl_ BK282))
                have n11_ := Aside0.mk (gm_ hg (blkl_ BK282))
                have n12_ := Aside0.mk (gn_ hg (blkl_ BK296))
                have n13_ := Aside0.mk (gm_ hg (blkl_ BK296))
                have n14_ := Aside0.mk ((by rw [hg]; exact Nat.ne_of_lt (IsS116.lt (show IsS116 w0 _ g s0_0 x1001_1 x1002_1 x1003_1 from by repeat (first | (with_reducible first | exact HI0.out | apply IsS116.alloc | apply IsS116.drewN | apply IsS116.drew | apply IsS116.set_1 | apply IsS116.set_2 | apply IsS116.set_3 | refine IsS116.far ?_ NB0_282.out _ | refine IsS116.far ?_ NB0_296.out _) | exact HI0.out))) : g ≠ gb323))
                have n15_ := Aside0.mk ((by rw [hg]; exact Nat.ne_of_gt (IsS116.lt (show IsS116 w0 _ g s0_0 x1001_1 x1002_1 x1003_1 from by repeat (first | (with_reducible first | exact HI0.out | apply IsS116.alloc | apply IsS116.drewN | apply IsS116.drew | apply IsS116.set_1 | apply IsS116.set_2 | apply IsS116.set_3 | refine IsS116.far ?_ NB0_282.out _ | refine IsS116.far ?_ NB0_296.out _) | exact HI0.out))) : gb323 ≠ g))
                clear HO_4
                clear HO_297003
                clear BK282
                clear BK296
                clear HI0
                clear HK
                clear HB
                have HO_4 := n0_
                have HO_297003 := n1_
                have BK282 := n2_
                have BK296 := n3_
                have HI0 := n4_
                have HK := n5_
                have HB := n6_
                have BK323 := n7_
                have GW323 := n8_
                have GE323 := n9_
                have NB282_323 := n10_
                have NB323_282 := n11_
                have NB296_323 := n12_
                have NB323_296 := n13_
                have NB0_323 := n14_
                have NB323_0 := n15_
                clear n0_ n1_ n2_ n3_ n4_ n5_ n6_ n7_ n8_ n9_ n10_ n11_ n12_ n13_ n14_ n15_
                clear hb hbox hg
                refine hK.out _ _ ⟨(blk_cell BK296.out 0).trans rfl, (blk_cell BK296.out 1).trans rfl, (blk_cell BK296.out 2).trans rfl, (blk_cell BK296.out 3).trans rfl, HS4_⟩ (fun hHeld => ?_)
                clear hK K
                refine norm_ (a' := ?_) ?_ ?_
                rotate_left
                · show Act.put _ (some 6) _ = _
                  simp only [Act.put, List.setIfInBounds_toArray, List.set_cons_zero, List.set_cons_succ, i64_w, i32_w]
                  rfl
                refine one_ (i := 6) (N := some 27) (bs 10 383) rfl rfl (one_of HT_.out (by kernel_rfl)) (by decide) (fun K hK => ?_)
                refine gr_ Try.func101 #[.pointer (some ⟨g, 0, none⟩), .int .i64 14] (by rfl) ?_ rfl rfl rfl
                with_reducible refine (spec_l01Src_n.calls g s0_0 x1001_1 x1002_1 x1003_1 14 t308 t309 t310 t311 w0 _ ?side1 ?side2 A21.out).mono ?_
                (case side1 => exact au13_23)
                (case side2 => exact au13_26)
                rintro e w52 ⟨rfl, hi, hb, hk⟩
                have HS4_ := keep_cell hk (hHeld.2.2.2.2) au13_15
                refine ⟨_, rfl, ?_⟩
                have n0_ := Aside0.mk (Kd.R_mono (Kd.R_keep (IsS116.apart (show IsS116 w0 _ g s0_0 x1001_1 x1002_1 x1003_1 from by repeat (first | (with_reducible first | exact HI0.out | apply IsS116.alloc | apply IsS116.drewN | apply IsS116.drew | apply IsS116.set_1 | apply IsS116.set_2 | apply IsS116.set_3 | refine IsS116.far ?_ NB0_282.out _ | refine IsS116.far ?_ NB0_296.out _ | refine IsS116.far ?_ NB0_323.out _) | exact HI0.out)) (rk_ HO_4) (by decide)) hk (fun _ h => h.2)) (fun _ h => h.1))
                have n1_ := Aside0.mk (Kd.R_mono (Kd.R_keep (IsS116.apart (show IsS116 w0 _ g s0_0 x1001_1 x1002_1 x1003_1 from by repeat (first | (with_reducible first | exact HI0.out | apply IsS116.alloc | apply IsS116.drewN | apply IsS116.drew | apply IsS116.set_1 | apply IsS116.set_2 | apply IsS116.set_3 | refine IsS116.far ?_ NB0_282.out _ | refine IsS116.far ?_ NB0_296.out _ | refine IsS116.far ?_ NB0_323.out _) | exact HI0.out)) (rk_ HO_297003) (by decide)) hk (fun _ h => h.2)) (fun _ h => h.1))
                have n2_ := Aside0.mk (KeepBut.blk hk (g' := gb282) (o := .cells #[.string (⟨#[]⟩ : ByteArray), .int .i64 0, .int .i64 0, .slice none 0 0] 51 (0, 0)) (bk_ BK282) NB282_0.out (by simp))
                have n3_ := Aside0.mk (KeepBut.blk hk (g' := gb296) (o := .cells #[.string x297000_1, .int .i64 x297001_1, .int .i64 x297002_1, .slice Ao49 x297003_1.length co49] 51 (0, 0)) (bk_ BK296) NB296_0.out (by simp))
                have n4_ := Aside0.mk (KeepBut.blk hk (g' := gb323) (o := .cells #[.string (⟨#[]⟩ : ByteArray), .int .i64 0, .int .i64 0, .slice none 0 0, .int .i64 0, .int .i64 0, .int .i64 0, .int .i64 0, .int .i64 0] 64 (0, 0)) (bk_ BK323) NB323_0.out (by simp))
                have n5_ := Aside0.mk (KeepBut.trans au13_4 hk (.inl rfl))
                have n6_ := Aside0.mk (hb)
                have n7_ := Aside0.mk (hi)
                clear HO_4
                clear HO_297003
                clear BK282
                clear BK296
                clear BK323
                clear HK
                clear HB
                clear HI0
                have HO_4 := n0_
                have HO_297003 := n1_
                have BK282 := n2_
                have BK296 := n3_
                have BK323 := n4_
                have HK := n5_
                have HB := n6_
                have HI0 := n7_
                clear n0_ n1_ n2_ n3_ n4_ n5_ n6_ n7_
                (try clear hb)
                (try clear hb2)
                (try clear hk)
                (try clear hi)
                refine hK.out _ _ ⟨(blk_cell BK296.out 0).trans rfl, (blk_cell BK296.out 1).trans rfl, (blk_cell BK296.out 2).trans rfl, (blk_cell BK296.out 3).trans rfl, HS4_⟩ (fun hHeld => ?_)
                clear hK K
                refine norm_ (a' := ?_) ?_ ?_
                rotate_left
                · show Act.put _ (some 27) _ = _
                  simp only [Act.put, List.setIfInBounds_toArray, List.set_cons_zero, List.set_cons_succ, i64_w, i32_w]
                  rfl
                refine one_ (i := 7) (N := some 28) (bs 10 511) rfl rfl (one_of HT_.out (by kernel_rfl)) (by decide) (fun K hK => ?_)
                refine gr_ Try.func44 #[.agg #[.string x297000_1, .int .i64 x297001_1, .int .i64 x297002_1, .slice Ao49 x297003_1.length co49], .int .i64 (rd t301 x5_1), .int .i64 t308] (by rfl) ?_ rfl rfl rfl
                with_reducible refine (spec_PartnerTake.calls k1 x297000_1 x297001_1 x297002_1 _ _ x297003_1 (rd t301 x5_1) t308 t312 t313 t314 t315 t318 t319 t320 t321 t322 _ ?side1 ?side2 A22.out).mono ?_
                (case side1 => exact au13_14)
                (case side2 => exact au13_30)
                rintro e w53 ⟨v316, rfl, ho0, hb⟩
                have HS4_ := (hb.cell (World.block_lt_of_cell? _ _ (hHeld.2.2.2.2))).trans (hHeld.2.2.2.2)
                refine ⟨_, rfl, ?_⟩
                have n0_ := Aside0.mk (Kd.R_below (rk_ HO_4) hb)
                have n1_ := Aside0.mk (Kd.R_elder' (rk_ HO_297003) (Kd.R_base ho0) hb)
                have n2_ := Aside0.mk (Kd.R_lower (Kd.R_new' ho0 (Kd.R_lt (rk_ HO_297003))) (keep_size (w := w) (g := g) (row := none) au13_4))
                have n3_ := Aside0.mk (blkb_ BK282 hb)
                have n4_ := Aside0.mk (blkb_ BK296 hb)
                have n5_ := Aside0.mk (IsS116.below au13_5 hb)
                have n6_ := Aside0.mk (blkb_ BK323 hb)
                have n7_ := Aside0.mk (KeepBut.trans au13_4 (KeepBut.of_below hb g none) (.inl rfl))
                have n8_ := Aside0.mk (below_step au13_7 hb)
                clear HO_4
                clear HO_297003
                clear BK282
                clear BK296
                clear HI0
                clear BK323
                clear HK
                clear HB
                have HO_4 := n0_
                have HO_297003 := n1_
                have HO317 := n2_
                have BK282 := n3_
                have BK296 := n4_
                have HI0 := n5_
                have BK323 := n6_
                have HK := n7_
                have HB := n8_
                clear n0_ n1_ n2_ n3_ n4_ n5_ n6_ n7_ n8_
                (try clear hb)
                (try clear hb2)
                (try clear hk)
                (try clear hi)
                (try clear ho0)
                refine hK.out _ _ ⟨(blk_cell BK296.out 0).trans rfl, (blk_cell BK296.out 1).trans rfl, (blk_cell BK296.out 2).trans rfl, (blk_cell BK296.out 3).trans rfl, HS4_⟩ (fun hHeld => ?_)
                clear hK K
                refine norm_ (a' := ?_) ?_ ?_
                rotate_left
                · show Act.put _ (some 28) _ = _
                  simp only [Act.put, List.setIfInBounds_toArray, List.set_cons_zero, List.set_cons_succ, i64_w, i32_w]
                  rfl
                exact norm_ au13_20 (hCont (v316, gb323) _ ⟨hHeld, au13_17, au13_16, (rk_ HO_4), (bk_ BK282), (bk_ BK296), (bk_ BK323), GW323.out, GE323.out, NB0_323.out, NB323_0.out, NB282_323.out, NB323_282.out, NB296_323.out, NB323_296.out, au13_5, au13_4, au13_7⟩)
            rintro ⟨v316, gb323⟩ w54 ⟨hS_, h0_, h1_, h2_, h3_, h4_, h5_, h6_, h7_, h8_, h9_, h10_, h11_, h12_, h13_, h14_, h15_, h16_⟩
            have n0_ : Aside0 (Kd.R k62 62 w54 w.heap.size (fun k_ => some k_ ≠ (.slice Ao49 x297003_1.length co49 : Value).ownBlock) v316 t315) := ⟨h0_⟩
            have n1_ : Aside0 (Kd.R k62 62 w54 w.heap.size (fun k_ => some k_ ≠ (v316 : Value).ownBlock) (.slice Ao49 x297003_1.length co49) x297003_1) := ⟨h1_⟩
            have n2_ : Aside0 (Kd.R (Kd.int .i64) 2 w54 w.heap.size (fun _ => True) (.slice (some ad307) t301.length co48) t301) := ⟨h2_⟩
            have n3_ : Aside0 (w54.heap[gb282]? = some (.cells #[.string (⟨#[]⟩ : ByteArray), .int .i64 0, .int .i64 0, .slice none 0 0] 51 (0, 0))) := ⟨h3_⟩
            have n4_ : Aside0 (w54.heap[gb296]? = some (.cells #[.string x297000_1, .int .i64 x297001_1, .int .i64 x297002_1, .slice Ao49 x297003_1.length co49] 51 (0, 0))) := ⟨h4_⟩
            have n5_ : Aside0 (w54.heap[gb323]? = some (.cells #[.string (⟨#[]⟩ : ByteArray), .int .i64 0, .int .i64 0, .slice none 0 0, .int .i64 0, .int .i64 0, .int .i64 0, .int .i64 0, .int .i64 0] 64 (0, 0))) := ⟨h5_⟩
            have n6_ : Aside0 (w.heap.size ≤ gb323) := ⟨h6_⟩
            have n7_ : Aside0 (w0.heap.size ≤ gb323) := ⟨h7_⟩
            have n8_ : Aside0 (g ≠ gb323) := ⟨h8_⟩
            have n9_ : Aside0 (gb323 ≠ g) := ⟨h9_⟩
            have n10_ : Aside0 (gb282 ≠ gb323) := ⟨h10_⟩
            have n11_ : Aside0 (gb323 ≠ gb282) := ⟨h11_⟩
            have n12_ : Aside0 (gb296 ≠ gb323) := ⟨h12_⟩
            have n13_ : Aside0 (gb323 ≠ gb296) := ⟨h13_⟩
            have n14_ : Aside0 (IsS116 w0 w54 g s0_0 t309 t310 t311) := ⟨h14_⟩
            have n15_ : Aside0 (KeepBut w w54 g none) := ⟨h15_⟩
            have n16_ : Aside0 (Below w0.heap.size w0 w54) := ⟨h16_⟩
            clear HO_4
            clear HO_297003
            clear BK282
            clear BK296
            clear HI0
            clear HK
            clear HB
            clear h0_ h1_ h2_ h3_ h4_ h5_ h6_ h7_ h8_ h9_ h10_ h11_ h12_ h13_ h14_ h15_ h16_
            have HO317 := n0_
            have HO_297003 := n1_
            have HO_4 := n2_
            have BK282 := n3_
            have BK296 := n4_
            have BK323 := n5_
            have GW323 := n6_
            have GE323 := n7_
            have NB0_323 := n8_
            have NB323_0 := n9_
            have NB282_323 := n10_
            have NB323_282 := n11_
            have NB296_323 := n12_
            have NB323_296 := n13_
            have HI0 := n14_
            have HK := n15_
            have HB := n16_
            clear n0_ n1_ n2_ n3_ n4_ n5_ n6_ n7_ n8_ n9_ n10_ n11_ n12_ n13_ n14_ n15_ n16_
            have hHeld : w54.cell? ⟨gb296, 0, none⟩ = some (.string x297000_1) ∧ w54.cell? ⟨gb296, 1, none⟩ = some (.int .i64 x297001_1) ∧ w54.cell? ⟨gb296, 2, none⟩ = some (.int .i64 x297002_1) ∧ w54.cell? ⟨gb296, 3, none⟩ = some (.slice Ao49 x297003_1.length co49) ∧ w54.cell? (ad307.add (x5_1).toNat) = some (.int .i64 (rd t301 x5_1)) := hS_
            obtain ⟨Ao58, co58, eo58⟩ := Kd.R_slice HO317.out
            (first | subst eo58 | (injection eo58 with f1_ f2_ f3_; have f4_ := f1_.symm; have f5_ := f3_.symm; clear f1_ f2_ f3_; subst f4_; subst f5_))
            refine norm_ (a' := ?_) ?_ ?_
            rotate_left
            · simp only [putAll, Act.put, List.setIfInBounds_toArray, List.set_cons_zero, List.set_cons_succ]
              rfl
            refine one_ (i := 9) (N := none) (bs 10 1023) rfl rfl (one_of HT_.out (by kernel_rfl)) (by decide) (fun K hK => ?_)
            have hs55 : w54.cell? ⟨gb323, 0, none⟩ = some (.string (⟨#[]⟩ : ByteArray)) := (blk_cell BK323.out 0).trans rfl
            have hfs55 := blk_frozen BK323.out 0
            have hns55_0 := NB282_323.out
            have hns55_1 := NB296_323.out
            have hms55_0 := NB323_282.out
            have hms55_1 := NB323_296.out
            have hs56 : w54.cell? ⟨gb323, 1, none⟩ = some (.int .i64 0) := (blk_cell BK323.out 1).trans rfl
            have hfs56 := blk_frozen BK323.out 1
            have hns56_0 := NB282_323.out
            have hns56_1 := NB296_323.out
            have hms56_0 := NB323_282.out
            have hms56_1 := NB323_296.out
            have hs57 : w54.cell? ⟨gb323, 2, none⟩ = some (.int .i64 0) := (blk_cell BK323.out 2).trans rfl
            have hfs57 := blk_frozen BK323.out 2
            have hns57_0 := NB282_323.out
            have hns57_1 := NB296_323.out
            have hms57_0 := NB323_282.out
            have hms57_1 := NB323_296.out
            have hs59 : w54.cell? ⟨gb323, 3, none⟩ = some (.slice none 0 0) := (blk_cell BK323.out 3).trans rfl
            have hfs59 := blk_frozen BK323.out 3
            have hns59_0 := NB282_323.out
            have hns59_1 := NB296_323.out
            have hms59_0 := NB323_282.out
            have hms59_1 := NB323_296.out
            have hs60 : w54.cell? ⟨gb323, 4, none⟩ = some (.int .i64 0) := (blk_cell BK323.out 4).trans rfl
            have hfs60 := blk_frozen BK323.out 4
            have hns60_0 := NB282_323.out
            have hns60_1 := NB296_323.out
            have hms60_0 := NB323_282.out
            have hms60_1 := NB323_296.out
            have hs61 : w54.cell? ⟨gb323, 5, none⟩ = some (.int .i64 0) := (blk_cell BK323.out 5).trans rfl
            have hfs61 := blk_frozen BK323.out 5
            have hns61_0 := NB282_323.out
            have hns61_1 := NB296_323.out
            have hms61_0 := NB323_282.out
            have hms61_1 := NB323_296.out
            have hs62 : w54.cell? ⟨gb323, 6, none⟩ = some (.int .i64 0) := (blk_cell BK323.out 6).trans rfl
            have hfs62 := blk_frozen BK323.out 6
            have hns62_0 := NB282_323.out
            have hns62_1 := NB296_323.out
            have hms62_0 := NB323_282.out
            have hms62_1 := NB323_296.out
            have hs63 : w54.cell? ⟨gb323, 7, none⟩ = some (.int .i64 0) := (blk_cell BK323.out 7).trans rfl
            have hfs63 := blk_frozen BK323.out 7
            have hns63_0 := NB282_323.out
            have hns63_1 := NB296_323.out
            have hms63_0 := NB323_282.out
            have hms63_1 := NB323_296.out
            have hs64 : w54.cell? ⟨gb323, 8, none⟩ = some (.int .i64 0) := (blk_cell BK323.out 8).trans rfl
            have hfs64 := blk_frozen BK323.out 8
            have hns64_0 := NB282_323.out
            have hns64_1 := NB296_323.out
            have hms64_0 := NB323_282.out
            have hms64_1 := NB323_296.out
            refine skip_ (w1 := ?_) (by rfl) rfl ?_ ?_
            rotate_left
            · go_simp
              rfl
            refine hK.out _ _ ⟨((cell_far (p := ⟨gb323, _, none⟩) NB296_323.out _).trans (((cell_far (p := ⟨gb323, _, none⟩) NB296_323.out _).trans (((cell_far (p := ⟨gb323, _, none⟩) NB296_323.out _).trans (((cell_far (p := ⟨gb323, _, none⟩) NB296_323.out _).trans (((cell_far (p := ⟨gb323, _, none⟩) NB296_323.out _).trans (((cell_far (p := ⟨gb323, _, none⟩) NB296_323.out _).trans (((cell_far (p := ⟨gb323, _, none⟩) NB296_323.out _).trans (((cell_far (p := ⟨gb323, _, none⟩) NB296_323.out _).trans (((cell_far (p := ⟨gb323, _, none⟩) NB296_323.out _).trans (hHeld.1)))))))))))))))))), ((cell_far (p := ⟨gb323, _, none⟩) NB296_323.out _).trans (((cell_far (p := ⟨gb323, _, none⟩) NB296_323.out _).trans (((cell_far (p := ⟨gb323, _, none⟩) NB296_323.out _).trans (((cell_far (p := ⟨gb323, _, none⟩) NB296_323.out _).trans (((cell_far (p := ⟨gb323, _, none⟩) NB296_323.out _).trans (((cell_far (p := ⟨gb323, _, none⟩) NB296_323.out _).trans (((cell_far (p := ⟨gb323, _, none⟩) NB296_323.out _).trans (((cell_far (p := ⟨gb323, _, none⟩) NB296_323.out _).trans (((cell_far (p := ⟨gb323, _, none⟩) NB296_323.out _).trans (hHeld.2.1)))))))))))))))))), ((cell_far (p := ⟨gb323, _, none⟩) NB296_323.out _).trans (((cell_far (p := ⟨gb323, _, none⟩) NB296_323.out _).trans (((cell_far (p := ⟨gb323, _, none⟩) NB296_323.out _).trans (((cell_far (p := ⟨gb323, _, none⟩) NB296_323.out _).trans (((cell_far (p := ⟨gb323, _, none⟩) NB296_323.out _).trans (((cell_far (p := ⟨gb323, _, none⟩) NB296_323.out _).trans (((cell_far (p := ⟨gb323, _, none⟩) NB296_323.out _).trans (((cell_far (p := ⟨gb323, _, none⟩) NB296_323.out _).trans (((cell_far (p := ⟨gb323, _, none⟩) NB296_323.out _).trans (hHeld.2.2.1)))))))))))))))))), ((cell_far (p := ⟨gb323, _, none⟩) NB296_323.out _).trans (((cell_far (p := ⟨gb323, _, none⟩) NB296_323.out _).trans (((cell_far (p := ⟨gb323, _, none⟩) NB296_323.out _).trans (((cell_far (p := ⟨gb323, _, none⟩) NB296_323.out _).trans (((cell_far (p := ⟨gb323, _, none⟩) NB296_323.out _).trans (((cell_far (p := ⟨gb323, _, none⟩) NB296_323.out _).trans (((cell_far (p := ⟨gb323, _, none⟩) NB296_323.out _).trans (((cell_far (p := ⟨gb323, _, none⟩) NB296_323.out _).trans (((cell_far (p := ⟨gb323, _, none⟩) NB296_323.out _).trans (hHeld.2.2.2.1)))))))))))))))))), ((cell_far (p := ⟨gb323, _, none⟩) au13_1 _).trans (((cell_far (p := ⟨gb323, _, none⟩) au13_1 _).trans (((cell_far (p := ⟨gb323, _, none⟩) au13_1 _).trans (((cell_far (p := ⟨gb323, _, none⟩) au13_1 _).trans (((cell_far (p := ⟨gb323, _, none⟩) au13_1 _).trans (((cell_far (p := ⟨gb323, _, none⟩) au13_1 _).trans (((cell_far (p := ⟨gb323, _, none⟩) au13_1 _).trans (((cell_far (p := ⟨gb323, _, none⟩) au13_1 _).trans (((cell_far (p := ⟨gb323, _, none⟩) au13_1 _).trans (hHeld.2.2.2.2))))))))))))))))))⟩ (fun hHeld => ?_)
            clear hK K
            refine done_ (done_of HT_.out (by kernel_rfl)) ?_
            have hnb65 := NB323_282.out
            have hnc65 := NB282_323.out
            have hnb66 := NB323_296.out
            have hnc66 := NB296_323.out
            have hnb67 := NB323_0.out
            have hnc67 := NB0_323.out
            obtain ⟨hcz68_0, hcz68_1, hcz68_2, hcz68_3, hcz68_4, hcz68_5, hcz68_6, hcz68_7, hcz68_8, hfz68_0, hfz68_1, hfz68_2, hfz68_3, hfz68_4, hfz68_5, hfz68_6, hfz68_7, hfz68_8⟩ := cellsF9 BK323.out
            try go_wp2
            go_roundg k1
            case measure => have := HK1.out; omega
            case rel => exact ⟨(wrap64 (x5_1 + 1)), (t309), (t310), (t311), (x297000_1), (x297001_1), (x297002_1), (x297003_1), (.slice Ao49 x297003_1.length co49), er_, H', ⟨by have := HK1.out; omega⟩, ⟨by (with_reducible repeat (first | apply Kd.R_alloc | apply Kd.R_drewN | apply Kd.R_drew)); exact Kd.R_mono (Kd.R_far (p := ⟨gb323, 8, none⟩) (Kd.R_far (p := ⟨gb323, 7, none⟩) (Kd.R_far (p := ⟨gb323, 6, none⟩) (Kd.R_far (p := ⟨gb323, 5, none⟩) (Kd.R_far (p := ⟨gb323, 4, none⟩) (Kd.R_far (p := ⟨gb323, 3, none⟩) (Kd.R_far (p := ⟨gb323, 2, none⟩) (Kd.R_far (p := ⟨gb323, 1, none⟩) (Kd.R_far (p := ⟨gb323, 0, none⟩) (Kd.R_types HO_4.out BK323.out (by decide)) (fun _ hk => hk.2) (.string t312)) (fun _ hk => hk.2) (.int .i64 t313)) (fun _ hk => hk.2) (.int .i64 t314)) (fun _ hk => hk.2) (.slice Ao58 t315.length co58)) (fun _ hk => hk.2) (.int .i64 t318)) (fun _ hk => hk.2) (.int .i64 t319)) (fun _ hk => hk.2) (.int .i64 t320)) (fun _ hk => hk.2) (.int .i64 t321)) (fun _ hk => hk.2) (.int .i64 t322)) (fun _ hk => trivial)⟩, ⟨by (with_reducible repeat (first | apply Kd.R_alloc | apply Kd.R_drewN | apply Kd.R_drew)); exact Kd.R_mono (Kd.R_far (p := ⟨gb323, 8, none⟩) (Kd.R_far (p := ⟨gb323, 7, none⟩) (Kd.R_far (p := ⟨gb323, 6, none⟩) (Kd.R_far (p := ⟨gb323, 5, none⟩) (Kd.R_far (p := ⟨gb323, 4, none⟩) (Kd.R_far (p := ⟨gb323, 3, none⟩) (Kd.R_far (p := ⟨gb323, 2, none⟩) (Kd.R_far (p := ⟨gb323, 1, none⟩) (Kd.R_far (p := ⟨gb323, 0, none⟩) (Kd.R_types HO_297003.out BK323.out (by decide)) (fun _ hk => hk.2) (.string t312)) (fun _ hk => hk.2) (.int .i64 t313)) (fun _ hk => hk.2) (.int .i64 t314)) (fun _ hk => hk.2) (.slice Ao58 t315.length co58)) (fun _ hk => hk.2) (.int .i64 t318)) (fun _ hk => hk.2) (.int .i64 t319)) (fun _ hk => hk.2) (.int .i64 t320)) (fun _ hk => hk.2) (.int .i64 t321)) (fun _ hk => hk.2) (.int .i64 t322)) (fun _ hk => trivial)⟩, ⟨by (with_reducible repeat (first | refine blk_drewN ?_ _ | refine blk_drew ?_ | refine blk_alloc ?_ _)); refine blk_far ?_ NB282_323.out _; (with_reducible repeat (first | refine blk_drewN ?_ _ | refine blk_drew ?_ | refine blk_alloc ?_ _)); refine blk_far ?_ NB282_323.out _; (with_reducible repeat (first | refine blk_drewN ?_ _ | refine blk_drew ?_ | refine blk_alloc ?_ _)); refine blk_far ?_ NB282_323.out _; (with_reducible repeat (first | refine blk_drewN ?_ _ | refine blk_drew ?_ | refine blk_alloc ?_ _)); refine blk_far ?_ NB282_323.out _; (with_reducible repeat (first | refine blk_drewN ?_ _ | refine blk_drew ?_ | refine blk_alloc ?_ _)); refine blk_far ?_ NB282_323.out _; (with_reducible repeat (first | refine blk_drewN ?_ _ | refine blk_drew ?_ | refine blk_alloc ?_ _)); refine blk_far ?_ NB282_323.out _; (with_reducible repeat (first | refine blk_drewN ?_ _ | refine blk_drew ?_ | refine blk_alloc ?_ _)); refine blk_far ?_ NB282_323.out _; (with_reducible repeat (first | refine blk_drewN ?_ _ | refine blk_drew ?_ | refine blk_alloc ?_ _)); refine blk_far ?_ NB282_323.out _; (with_reducible repeat (first | refine blk_drewN ?_ _ | refine blk_drew ?_ | refine blk_alloc ?_ _)); refine blk_far ?_ NB282_323.out _; (with_reducible repeat (first | refine blk_drewN ?_ _ | refine blk_drew ?_ | refine blk_alloc ?_ _)); exact BK282.out⟩, ⟨by (with_reducible repeat (first | refine blk_drewN ?_ _ | refine blk_drew ?_ | refine blk_alloc ?_ _)); refine blk_far ?_ NB296_323.out _; (with_reducible repeat (first | refine blk_drewN ?_ _ | refine blk_drew ?_ | refine blk_alloc ?_ _)); refine blk_far ?_ NB296_323.out _; (with_reducible repeat (first | refine blk_drewN ?_ _ | refine blk_drew ?_ | refine blk_alloc ?_ _)); refine blk_far ?_ NB296_323.out _; (with_reducible repeat (first | refine blk_drewN ?_ _ | refine blk_drew ?_ | refine blk_alloc ?_ _)); refine blk_far ?_ NB296_323.out _; (with_reducible repeat (first | refine blk_drewN ?_ _ | refine blk_drew ?_ | refine blk_alloc ?_ _)); refine blk_far ?_ NB296_323.out _; (with_reducible repeat (first | refine blk_drewN ?_ _ | refine blk_drew ?_ | refine blk_alloc ?_ _)); refine blk_far ?_ NB296_323.out _; (with_reducible repeat (first | refine blk_drewN ?_ _ | refine blk_drew ?_ | refine blk_alloc ?_ _)); refine blk_far ?_ NB296_323.out _; (with_reducible repeat (first | refine blk_drewN ?_ _ | refine blk_drew ?_ | refine blk_alloc ?_ _)); refine blk_far ?_ NB296_323.out _; (with_reducible repeat (first | refine blk_drewN ?_ _ | refine blk_drew ?_ | refine blk_alloc ?_ _)); refine blk_far ?_ NB296_323.out _; (with_reducible repeat (first | refine blk_drewN ?_ _ | refine blk_drew ?_ | refine blk_alloc ?_ _)); exact BK296.out⟩, ⟨au13_22⟩, ⟨au13_27⟩, ⟨au13_25⟩⟩
        · rw [if_neg c20] at H
          exact absurd H (by simp)
      · rw [if_neg c19] at H
        have c19b0 : decide (x5_1 < (t301.length : Int)) = false := decide_eq_false c19
        clear c19
        replace H := Option.bind_eq_some_iff.mp H
        obtain ⟨⟨t324, t325, t326, t327⟩, A690, H⟩ := H
        replace H : (if t324 = true then ((spec_l01Src_n.f s0_0 t325 t326 t327 6).bind fun bt328 => (if bt328.1 = 0 then (some ((⟨#[97]⟩ : ByteArray), x297001_1, x297002_1, x297003_1, bt328.2.1, bt328.2.2.1, bt328.2.2.2)) else (if bt328.1 = 1 then ((spec_l01Src_n.f s0_0 bt328.2.1 bt328.2.2.1 bt328.2.2.2 2).bind fun bt332 => (some (x297000_1, x297001_1, wrap64 (999999 + bt332.1), x297003_1, bt332.2.1, bt332.2.2.1, bt332.2.2.2))) else (if bt328.1 = 2 then (some (x297000_1, wrap64 (x297001_1 + 1), x297002_1, x297003_1, bt328.2.1, bt328.2.2.1, bt328.2.2.2)) else (if bt328.1 = 3 then ((spec_l01Src_n.f s0_0 bt328.2.1 bt328.2.2.1 bt328.2.2.2 3).bind fun bt336 => (some (x297000_1, wrap64 (999999 - bt336.1), x297002_1, ([] : List (S62)), bt336.2.1, bt336.2.2.1, bt336.2.2.2))) else (if bt328.1 = 4 then ((spec_l01Src_n.f s0_0 bt328.2.1 bt328.2.2.1 bt328.2.2.2 2).bind fun bt340 => (if x297003_1.length < 5864062014805 then (some (x297000_1, x297001_1, x297002_1, (x297003_1 ++ [(⟨wrap64 ((wrap64 (x297001_1 + 31)) + bt340.1), 1, 0⟩ : S62)]), bt340.2.1, bt340.2.2.1, bt340.2.2.2)) else (none))) else ((spec_l01Src_n.f s0_0 bt328.2.1 bt328.2.2.1 bt328.2.2.2 2).bind fun bt347 => (if x297003_1.length < 5864062014805 then (some (x297000_1, x297001_1, x297002_1, (x297003_1 ++ [(⟨wrap64 (x297001_1 + 31), 1, wrap64 (13 + bt347.1)⟩ : S62)]), bt347.2.1, bt347.2.2.1, bt347.2.2.2)) else (none))))))))) else (some (x297000_1, x297001_1, x297002_1, x297003_1, t325, t326, t327))) = some (r1, r2, r3, r4, r5, r6, r7) := H
        have A69 := Aside0.mk A690
        clear A690
        by_cases c70 : t324 = true
        · subst c70
          have H1 : ((spec_l01Src_n.f s0_0 t325 t326 t327 6).bind fun bt328 => (if bt328.1 = 0 then (some ((⟨#[97]⟩ : ByteArray), x297001_1, x297002_1, x297003_1, bt328.2.1, bt328.2.2.1, bt328.2.2.2)) else (if bt328.1 = 1 then ((spec_l01Src_n.f s0_0 bt328.2.1 bt328.2.2.1 bt328.2.2.2 2).bind fun bt332 => (some (x297000_1, x297001_1, wrap64 (999999 + bt332.1), x297003_1, bt332.2.1, bt332.2.2.1, bt332.2.2.2))) else (if bt328.1 = 2 then (some (x297000_1, wrap64 (x297001_1 + 1), x297002_1, x297003_1, bt328.2.1, bt328.2.2.1, bt328.2.2.2)) else (if bt328.1 = 3 then ((spec_l01Src_n.f s0_0 bt328.2.1 bt328.2.2.1 bt328.2.2.2 3).bind fun bt336 => (some (x297000_1, wrap64 (999999 - bt336.1), x297002_1, ([] : List (S62)), bt336.2.1, bt336.2.2.1, bt336.2.2.2))) else (if bt328.1 = 4 then ((spec_l01Src_n.f s0_0 bt328.2.1 bt328.2.2.1 bt328.2.2.2 2).bind fun bt340 => (if x297003_1.length < 5864062014805 then (some (x297000_1, x297001_1, x297002_1, (x297003_1 ++ [(⟨wrap64 ((wrap64 (x297001_1 + 31)) + bt340.1), 1, 0⟩ : S62)]), bt340.2.1, bt340.2.2.1, bt340.2.2.2)) else (none))) else ((spec_l01Src_n.f s0_0 bt328.2.1 bt328.2.2.1 bt328.2.2.2 2).bind fun bt347 => (if x297003_1.length < 5864062014805 then (some (x297000_1, x297001_1, x297002_1, (x297003_1 ++ [(⟨wrap64 (x297001_1 + 31), 1, wrap64 (13 + bt347.1)⟩ : S62)]), bt347.2.1, bt347.2.2.1, bt347.2.2.2)) else (none))))))))) = some (r1, r2, r3, r4, r5, r6, r7) := by rw [if_pos rfl] at H; exact H
          clear H
          have H := H1
          clear H1
          replace H := Option.bind_eq_some_iff.mp H
          obtain ⟨⟨t328, t329, t330, t331⟩, A710, H⟩ := H
          replace H : (if t328 = 0 then (some ((⟨#[97]⟩ : ByteArray), x297001_1, x297002_1, x297003_1, t329, t330, t331)) else (if t328 = 1 then ((spec_l01Src_n.f s0_0 t329 t330 t331 2).bind fun bt332 => (some (x297000_1, x297001_1, wrap64 (999999 + bt332.1), x297003_1, bt332.2.1, bt332.2.2.1, bt332.2.2.2))) else (if t328 = 2 then (some (x297000_1, wrap64 (x297001_1 + 1), x297002_1, x297003_1, t329, t330, t331)) else (if t328 = 3 then ((spec_l01Src_n.f s0_0 t329 t330 t331 3).bind fun bt336 => (some (x297000_1, wrap64 (999999 - bt336.1), x297002_1, ([] : List (S62)), bt336.2.1, bt336.2.2.1, bt336.2.2.2))) else (if t328 = 4 then ((spec_l01Src_n.f s0_0 t329 t330 t331 2).bind fun bt340 => (if x297003_1.length < 5864062014805 then (some (x297000_1, x297001_1, x297002_1, (x297003_1 ++ [(⟨wrap64 ((wrap64 (x297001_1 + 31)) + bt340.1), 1, 0⟩ : S62)]), bt340.2.1, bt340.2.2.1, bt340.2.2.2)) else (none))) else ((spec_l01Src_n.f s0_0 t329 t330 t331 2).bind fun bt347 => (if x297003_1.length < 5864062014805 then (some (x297000_1, x297001_1, x297002_1, (x297003_1 ++ [(⟨wrap64 (x297001_1 + 31), 1, wrap64 (13 + bt347.1)⟩ : S62)]), bt347.2.1, bt347.2.2.1, bt347.2.2.2)) else (none)))))))) = some (r1, r2, r3, r4, r5, r6, r7) := H
          have A71 := Aside0.mk A710
          clear A710
          by_cases c72 : t328 = 0
          · rw [if_pos c72] at H
            have c72b0 : (t328 == 0) = true := beq_iff_eq.mpr c72
            have c72b1 : (t328 != 0) = false := bne_eq_false_iff_eq.mpr c72
            clear c72
            simp only [Option.some.injEq, Prod.mk.injEq] at H
            obtain ⟨rfl, rfl, rfl, rfl, rfl, rfl, rfl⟩ := H
            obtain ⟨Ao73, co73, eo73⟩ := Kd.R_slice HO_4.out
            subst eo73
            go_wp2_with (first | (go_at_call 74; (with_reducible refine (spec_l01Src_one.calls g s0_0 x1001_1 x1002_1 x1003_1 12 true t325 t326 t327 w0 _ ?side1 ?side2 A69.out).mono ?_); (case side1 => exact au13_2); (case side2 => exact au13_3); rintro e w74 ⟨rfl, hi, hb, hk⟩; (try clear A69); have n0_ := Aside0.mk (Kd.R_mono (Kd.R_keep (IsS116.apart (show IsS116 w0 _ g s0_0 x1001_1 x1002_1 x1003_1 from by repeat (first | (with_reducible first | exact HI0.out | apply IsS116.alloc | apply IsS116.drewN | apply IsS116.drew | apply IsS116.set_1 | apply IsS116.set_2 | apply IsS116.set_3 | refine IsS116.far ?_ NB0_282.out _ | refine IsS116.far ?_ NB0_296.out _) | exact HI0.out)) (rk_ HO_4) (by decide)) hk (fun _ h => h.2)) (fun _ h => h.1)); have n1_ := Aside0.mk (Kd.R_mono (Kd.R_keep (IsS116.apart (show IsS116 w0 _ g s0_0 x1001_1 x1002_1 x1003_1 from by repeat (first | (with_reducible first | exact HI0.out | apply IsS116.alloc | apply IsS116.drewN | apply IsS116.drew | apply IsS116.set_1 | apply IsS116.set_2 | apply IsS116.set_3 | refine IsS116.far ?_ NB0_282.out _ | refine IsS116.far ?_ NB0_296.out _) | exact HI0.out)) (rk_ HO_297003) (by decide)) hk (fun _ h => h.2)) (fun _ h => h.1)); have n2_ := Aside0.mk (KeepBut.blk hk (g' := gb282) (o := .cells #[.string (⟨#[]⟩ : ByteArray), .int .i64 0, .int .i64 0, .slice none 0 0] 51 (0, 0)) (bk_ BK282) NB282_0.out (by simp)); have n3_ := Aside0.mk (KeepBut.blk hk (g' := gb296) (o := .cells #[.string x297000_1, .int .i64 x297001_1, .int .i64 x297002_1, u297003] 51 (0, 0)) (bk_ BK296) NB296_0.out (by simp)); have n4_ := Aside0.mk (KeepBut.trans au13_0 hk (.inl rfl)); have n5_ := Aside0.mk (hb); have n6_ := Aside0.mk (hi); clear HO_4; clear HO_297003; clear BK282; clear BK296; clear HK; clear HB; clear HI0; have HO_4 := n0_; have HO_297003 := n1_; have BK282 := n2_; have BK296 := n3_; have HK := n4_; have HB := n5_; have HI0 := n6_; clear n0_ n1_ n2_ n3_ n4_ n5_ n6_; (try clear hb); (try clear hb2); (try clear hk); (try clear hi)) | (go_at_call 101; (with_reducible refine (spec_l01Src_n.calls g s0_0 t325 t326 t327 6 t328 t329 t330 t331 w0 _ ?side1 ?side2 A71.out).mono ?_); (case side1 => exact au13_2); (case side2 => exact au13_3); rintro e w75 ⟨rfl, hi, hb, hk⟩; (try clear A71); have n0_ := Aside0.mk (Kd.R_mono (Kd.R_keep (IsS116.apart (show IsS116 w0 _ g s0_0 t325 t326 t327 from by repeat (first | (with_reducible first | exact HI0.out | apply IsS116.alloc | apply IsS116.drewN | apply IsS116.drew | apply IsS116.set_1 | apply IsS116.set_2 | apply IsS116.set_3 | refine IsS116.far ?_ NB0_282.out _ | refine IsS116.far ?_ NB0_296.out _) | exact HI0.out)) (rk_ HO_4) (by decide)) hk (fun _ h => h.2)) (fun _ h => h.1)); have n1_ := Aside0.mk (Kd.R_mono (Kd.R_keep (IsS116.apart (show IsS116 w0 _ g s0_0 t325 t326 t327 from by repeat (first | (with_reducible first | exact HI0.out | apply IsS116.alloc | apply IsS116.drewN | apply IsS116.drew | apply IsS116.set_1 | apply IsS116.set_2 | apply IsS116.set_3 | refine IsS116.far ?_ NB0_282.out _ | refine IsS116.far ?_ NB0_296.out _) | exact HI0.out)) (rk_ HO_297003) (by decide)) hk (fun _ h => h.2)) (fun _ h => h.1)); have n2_ := Aside0.mk (KeepBut.blk hk (g' := gb282) (o := .cells #[.string (⟨#[]⟩ : ByteArray), .int .i64 0, .int .i64 0, .slice none 0 0] 51 (0, 0)) (bk_ BK282) NB282_0.out (by simp)); have n3_ := Aside0.mk (KeepBut.blk hk (g' := gb296) (o := .cells #[.string x297000_1, .int .i64 x297001_1, .int .i64 x297002_1, u297003] 51 (0, 0)) (bk_ BK296) NB296_0.out (by simp)); have n4_ := Aside0.mk (KeepBut.trans au13_0 hk (.inl rfl)); have n5_ := Aside0.mk (hb); have n6_ := Aside0.mk (hi); clear HO_4; clear HO_297003; clear BK282; clear BK296; clear HK; clear HB; clear HI0; have HO_4 := n0_; have HO_297003 := n1_; have BK282 := n2_; have BK296 := n3_; have HK := n4_; have HB := n5_; have HI0 := n6_; clear n0_ n1_ n2_ n3_ n4_ n5_ n6_; (try clear hb); (try clear hb2); (try clear hk); (try clear hi); have hnb76 := NB296_282.out; have hnc76 := NB282_296.out; have hnb77 := NB296_0.out; have hnc77 := NB0_296.out; obtain ⟨hcz78_0, hcz78_1, hcz78_2, hcz78_3, hfz78_0, hfz78_1, hfz78_2, hfz78_3⟩ := cellsF4 BK296.out; have hnb79 := NB282_0.out; have hnc79 := NB0_282.out; obtain ⟨hcz80_0, hcz80_1, hcz80_2, hcz80_3, hfz80_0, hfz80_1, hfz80_2, hfz80_3⟩ := cellsF4 BK282.out; obtain ⟨Ao81, co81, eo81⟩ := Kd.R_slice HO_297003.out; subst eo81))
            refine bodyPost_ret (results_cell_row rfl _ _ gb282 51 #[.string (⟨#[97]⟩ : ByteArray), .int .i64 x297001_1, .int .i64 x297002_1, .slice Ao81 x297003_1.length co81] (0, 0) _ rfl (by (with_reducible repeat (first | refine blk_drewN ?_ _ | refine blk_drew ?_ | refine blk_alloc ?_ _)); refine blk_put (cs := #[.string (⟨#[97]⟩ : ByteArray), .int .i64 x297001_1, .int .i64 x297002_1, .slice none 0 0]) ?_ 3 _ rfl; (with_reducible repeat (first | refine blk_drewN ?_ _ | refine blk_drew ?_ | refine blk_alloc ?_ _)); refine blk_put (cs := #[.string (⟨#[97]⟩ : ByteArray), .int .i64 x297001_1, .int .i64 0, .slice none 0 0]) ?_ 2 _ rfl; (with_reducible repeat (first | refine blk_drewN ?_ _ | refine blk_drew ?_ | refine blk_alloc ?_ _)); refine blk_put (cs := #[.string (⟨#[97]⟩ : ByteArray), .int .i64 0, .int .i64 0, .slice none 0 0]) ?_ 1 _ rfl; (with_reducible repeat (first | refine blk_drewN ?_ _ | refine blk_drew ?_ | refine blk_alloc ?_ _)); refine blk_put (cs := #[.string (⟨#[]⟩ : ByteArray), .int .i64 0, .int .i64 0, .slice none 0 0]) ?_ 0 _ rfl; (with_reducible repeat (first | refine blk_drewN ?_ _ | refine blk_drew ?_ | refine blk_alloc ?_ _)); refine blk_far ?_ NB282_296.out _; (with_reducible repeat (first | refine blk_drewN ?_ _ | refine blk_drew ?_ | refine blk_alloc ?_ _)); exact BK282.out) Try.underlying51 rfl (by kernel_rfl)) rfl ?_
            exact ⟨_, au13_18, by (with_reducible repeat (first | apply Kd.R_alloc | apply Kd.R_drewN | apply Kd.R_drew)); exact Kd.R_mono (Kd.R_far (p := ⟨gb282, 3, none⟩) (Kd.R_far (p := ⟨gb282, 2, none⟩) (Kd.R_far (p := ⟨gb282, 1, none⟩) (Kd.R_far (p := ⟨gb282, 0, none⟩) (Kd.R_far (p := ⟨gb296, 0, none⟩) (Kd.R_types (Kd.R_types HO_297003.out BK296.out (by decide)) BK282.out (by decide)) (fun _ hk => hk.1.2) (.string (⟨#[97]⟩ : ByteArray))) (fun _ hk => hk.2) (.string (⟨#[97]⟩ : ByteArray))) (fun _ hk => hk.2) (.int .i64 x297001_1)) (fun _ hk => hk.2) (.int .i64 x297002_1)) (fun _ hk => hk.2) (.slice Ao81 x297003_1.length co81)) (fun _ hk => trivial), au13_9, au13_10, au13_11⟩
          · rw [if_neg c72] at H
            have c72b0 : (t328 == 0) = false := beq_eq_false_iff_ne.mpr c72
            have c72b1 : (t328 != 0) = true := bne_iff_ne.mpr c72
            by_cases c82 : t328 = 1
            · rw [if_pos c82] at H
              have c82b0 : (t328 == 1) = true := beq_iff_eq.mpr c82
              have c82b1 : (t328 != 1) = false := bne_eq_false_iff_eq.mpr c82
              clear c82
              replace H := Option.bind_eq_some_iff.mp H
              obtain ⟨⟨t332, t333, t334, t335⟩, A830, H⟩ := H
              replace H : (some (x297000_1, x297001_1, wrap64 (999999 + t332), x297003_1, t333, t334, t335)) = some (r1, r2, r3, r4, r5, r6, r7) := H
              have A83 := Aside0.mk A830
              clear A830
              simp only [Option.some.injEq, Prod.mk.injEq] at H
              obtain ⟨rfl, rfl, rfl, rfl, rfl, rfl, rfl⟩ := H
              obtain ⟨Ao84, co84, eo84⟩ := Kd.R_slice HO_4.out
              subst eo84
              go_wp2_with (first | (go_at_call 74; (with_reducible refine (spec_l01Src_one.calls g s0_0 x1001_1 x1002_1 x1003_1 12 true t325 t326 t327 w0 _ ?side1 ?side2 A69.out).mono ?_); (case side1 => exact au13_2); (case side2 => exact au13_3); rintro e w85 ⟨rfl, hi, hb, hk⟩; (try clear A69); have n0_ := Aside0.mk (Kd.R_mono (Kd.R_keep (IsS116.apart (show IsS116 w0 _ g s0_0 x1001_1 x1002_1 x1003_1 from by repeat (first | (with_reducible first | exact HI0.out | apply IsS116.alloc | apply IsS116.drewN | apply IsS116.drew | apply IsS116.set_1 | apply IsS116.set_2 | apply IsS116.set_3 | refine IsS116.far ?_ NB0_282.out _ | refine IsS116.far ?_ NB0_296.out _) | exact HI0.out)) (rk_ HO_4) (by decide)) hk (fun _ h => h.2)) (fun _ h => h.1)); have n1_ := Aside0.mk (Kd.R_mono (Kd.R_keep (IsS116.apart (show IsS116 w0 _ g s0_0 x1001_1 x1002_1 x1003_1 from by repeat (first | (with_reducible first | exact HI0.out | apply IsS116.alloc | apply IsS116.drewN | apply IsS116.drew | apply IsS116.set_1 | apply IsS116.set_2 | apply IsS116.set_3 | refine IsS116.far ?_ NB0_282.out _ | refine IsS116.far ?_ NB0_296.out _) | exact HI0.out)) (rk_ HO_297003) (by decide)) hk (fun _ h => h.2)) (fun _ h => h.1)); have n2_ := Aside0.mk (KeepBut.blk hk (g' := gb282) (o := .cells #[.string (⟨#[]⟩ : ByteArray), .int .i64 0, .int .i64 0, .slice none 0 0] 51 (0, 0)) (bk_ BK282) NB282_0.out (by simp)); have n3_ := Aside0.mk (KeepBut.blk hk (g' := gb296) (o := .cells #[.string x297000_1, .int .i64 x297001_1, .int .i64 x297002_1, u297003] 51 (0, 0)) (bk_ BK296) NB296_0.out (by simp)); have n4_ := Aside0.mk (KeepBut.trans au13_0 hk (.inl rfl)); have n5_ := Aside0.mk (hb); have n6_ := Aside0.mk (hi); clear HO_4; clear HO_297003; clear BK282; clear BK296; clear HK; clear HB; clear HI0; have HO_4 := n0_; have HO_297003 := n1_; have BK282 := n2_; have BK296 := n3_; have HK := n4_; have HB := n5_; have HI0 := n6_; clear n0_ n1_ n2_ n3_ n4_ n5_ n6_; (try clear hb); (try clear hb2); (try clear hk); (try clear hi)) | (go_at_call 101; (with_reducible refine (spec_l01Src_n.calls g s0_0 t325 t326 t327 6 t328 t329 t330 t331 w0 _ ?side1 ?side2 A71.out).mono ?_); (case side1 => exact au13_2); (case side2 => exact au13_3); rintro e w86 ⟨rfl, hi, hb, hk⟩; (try clear A71); have n0_ := Aside0.mk (Kd.R_mono (Kd.R_keep (IsS116.apart (show IsS116 w0 _ g s0_0 t325 t326 t327 from by repeat (first | (with_reducible first | exact HI0.out | apply IsS116.alloc | apply IsS116.drewN | apply IsS116.drew | apply IsS116.set_1 | apply IsS116.set_2 | apply IsS116.set_3 | refine IsS116.far ?_ NB0_282.out _ | refine IsS116.far ?_ NB0_296.out _) | exact HI0.out)) (rk_ HO_4) (by decide)) hk (fun _ h => h.2)) (fun _ h => h.1)); have n1_ := Aside0.mk (Kd.R_mono (Kd.R_keep (IsS116.apart (show IsS116 w0 _ g s0_0 t325 t326 t327 from by repeat (first | (with_reducible first | exact HI0.out | apply IsS116.alloc | apply IsS116.drewN | apply IsS116.drew | apply IsS116.set_1 | apply IsS116.set_2 | apply IsS116.set_3 | refine IsS116.far ?_ NB0_282.out _ | refine IsS116.far ?_ NB0_296.out _) | exact HI0.out)) (rk_ HO_297003) (by decide)) hk (fun _ h => h.2)) (fun _ h => h.1)); have n2_ := Aside0.mk (KeepBut.blk hk (g' := gb282) (o := .cells #[.string (⟨#[]⟩ : ByteArray), .int .i64 0, .int .i64 0, .slice none 0 0] 51 (0, 0)) (bk_ BK282) NB282_0.out (by simp)); have n3_ := Aside0.mk (KeepBut.blk hk (g' := gb296) (o := .cells #[.string x297000_1, .int .i64 x297001_1, .int .i64 x297002_1, u297003] 51 (0, 0)) (bk_ BK296) NB296_0.out (by simp)); have n4_ := Aside0.mk (KeepBut.trans au13_0 hk (.inl rfl)); have n5_ := Aside0.mk (hb); have n6_ := Aside0.mk (hi); clear HO_4; clear HO_297003; clear BK282; clear BK296; clear HK; clear HB; clear HI0; have HO_4 := n0_; have HO_297003 := n1_; have BK282 := n2_; have BK296 := n3_; have HK := n4_; have HB := n5_; have HI0 := n6_; clear n0_ n1_ n2_ n3_ n4_ n5_ n6_; (try clear hb); (try clear hb2); (try clear hk); (try clear hi)) | (go_at_call 101; (with_reducible refine (spec_l01Src_n.calls g s0_0 t329 t330 t331 2 t332 t333 t334 t335 w0 _ ?side1 ?side2 A83.out).mono ?_); (case side1 => exact au13_2); (case side2 => exact au13_3); rintro e w87 ⟨rfl, hi, hb, hk⟩; (try clear A83); have n0_ := Aside0.mk (Kd.R_mono (Kd.R_keep (IsS116.apart (show IsS116 w0 _ g s0_0 t329 t330 t331 from by repeat (first | (with_reducible first | exact HI0.out | apply IsS116.alloc | apply IsS116.drewN | apply IsS116.drew | apply IsS116.set_1 | apply IsS116.set_2 | apply IsS116.set_3 | refine IsS116.far ?_ NB0_282.out _ | refine IsS116.far ?_ NB0_296.out _) | exact HI0.out)) (rk_ HO_4) (by decide)) hk (fun _ h => h.2)) (fun _ h => h.1)); have n1_ := Aside0.mk (Kd.R_mono (Kd.R_keep (IsS116.apart (show IsS116 w0 _ g s0_0 t329 t330 t331 from by repeat (first | (with_reducible first | exact HI0.out | apply IsS116.alloc | apply IsS116.drewN | apply IsS116.drew | apply IsS116.set_1 | apply IsS116.set_2 | apply IsS116.set_3 | refine IsS116.far ?_ NB0_282.out _ | refine IsS116.far ?_ NB0_296.out _) | exact HI0.out)) (rk_ HO_297003) (by decide)) hk (fun _ h => h.2)) (fun _ h => h.1)); have n2_ := Aside0.mk (KeepBut.blk hk (g' := gb282) (o := .cells #[.string (⟨#[]⟩ : ByteArray), .int .i64 0, .int .i64 0, .slice none 0 0] 51 (0, 0)) (bk_ BK282) NB282_0.out (by simp)); have n3_ := Aside0.mk (KeepBut.blk hk (g' := gb296) (o := .cells #[.string x297000_1, .int .i64 x297001_1, .int .i64 x297002_1, u297003] 51 (0, 0)) (bk_ BK296) NB296_0.out (by simp)); have n4_ := Aside0.mk (KeepBut.trans au13_0 hk (.inl rfl)); have n5_ := Aside0.mk (hb); have n6_ := Aside0.mk (hi); clear HO_4; clear HO_297003; clear BK282; clear BK296; clear HK; clear HB; clear HI0; have HO_4 := n0_; have HO_297003 := n1_; have BK282 := n2_; have BK296 := n3_; have HK := n4_; have HB := n5_; have HI0 := n6_; clear n0_ n1_ n2_ n3_ n4_ n5_ n6_; (try clear hb); (try clear hb2); (try clear hk); (try clear hi); have hnb88 := NB296_282.out; have hnc88 := NB282_296.out; have hnb89 := NB296_0.out; have hnc89 := NB0_296.out; obtain ⟨hcz90_0, hcz90_1, hcz90_2, hcz90_3, hfz90_0, hfz90_1, hfz90_2, hfz90_3⟩ := cellsF4 BK296.out; have hnb91 := NB282_0.out; have hnc91 := NB0_282.out; obtain ⟨hcz92_0, hcz92_1, hcz92_2, hcz92_3, hfz92_0, hfz92_1, hfz92_2, hfz92_3⟩ := cellsF4 BK282.out; obtain ⟨Ao93, co93, eo93⟩ := Kd.R_slice HO_297003.out; subst eo93))
              refine bodyPost_ret (results_cell_row rfl _ _ gb282 51 #[.string x297000_1, .int .i64 x297001_1, .int .i64 (wrap64 (999999 + t332)), .slice Ao93 x297003_1.length co93] (0, 0) _ rfl (by (with_reducible repeat (first | refine blk_drewN ?_ _ | refine blk_drew ?_ | refine blk_alloc ?_ _)); refine blk_put (cs := #[.string x297000_1, .int .i64 x297001_1, .int .i64 (wrap64 (999999 + t332)), .slice none 0 0]) ?_ 3 _ rfl; (with_reducible repeat (first | refine blk_drewN ?_ _ | refine blk_drew ?_ | refine blk_alloc ?_ _)); refine blk_put (cs := #[.string x297000_1, .int .i64 x297001_1, .int .i64 0, .slice none 0 0]) ?_ 2 _ rfl; (with_reducible repeat (first | refine blk_drewN ?_ _ | refine blk_drew ?_ | refine blk_alloc ?_ _)); refine blk_put (cs := #[.string x297000_1, .int .i64 0, .int .i64 0, .slice none 0 0]) ?_ 1 _ rfl; (with_reducible repeat (first | refine blk_drewN ?_ _ | refine blk_drew ?_ | refine blk_alloc ?_ _)); refine blk_put (cs := #[.string (⟨#[]⟩ : ByteArray), .int .i64 0, .int .i64 0, .slice none 0 0]) ?_ 0 _ rfl; (with_reducible repeat (first | refine blk_drewN ?_ _ | refine blk_drew ?_ | refine blk_alloc ?_ _)); refine blk_far ?_ NB282_296.out _; (with_reducible repeat (first | refine blk_drewN ?_ _ | refine blk_drew ?_ | refine blk_alloc ?_ _)); exact BK282.out) Try.underlying51 rfl (by kernel_rfl)) rfl ?_
              exact ⟨_, au13_18, by (with_reducible repeat (first | apply Kd.R_alloc | apply Kd.R_drewN | apply Kd.R_drew)); exact Kd.R_mono (Kd.R_far (p := ⟨gb282, 3, none⟩) (Kd.R_far (p := ⟨gb282, 2, none⟩) (Kd.R_far (p := ⟨gb282, 1, none⟩) (Kd.R_far (p := ⟨gb282, 0, none⟩) (Kd.R_far (p := ⟨gb296, 2, none⟩) (Kd.R_types (Kd.R_types HO_297003.out BK296.out (by decide)) BK282.out (by decide)) (fun _ hk => hk.1.2) (.int .i64 (wrap64 (999999 + t332)))) (fun _ hk => hk.2) (.string x297000_1)) (fun _ hk => hk.2) (.int .i64 x297001_1)) (fun _ hk => hk.2) (.int .i64 (wrap64 (999999 + t332)))) (fun _ hk => hk.2) (.slice Ao93 x297003_1.length co93)) (fun _ hk => trivial), au13_9, au13_10, au13_11⟩
            · rw [if_neg c82] at H
              have c82b0 : (t328 == 1) = false := beq_eq_false_iff_ne.mpr c82
              have c82b1 : (t328 != 1) = true := bne_iff_ne.mpr c82
              by_cases c94 : t328 = 2
              · rw [if_pos c94] at H
                have c94b0 : (t328 == 2) = true := beq_iff_eq.mpr c94
                have c94b1 : (t328 != 2) = false := bne_eq_false_iff_eq.mpr c94
                clear c94
                simp only [Option.some.injEq, Prod.mk.injEq] at H
                obtain ⟨rfl, rfl, rfl, rfl, rfl, rfl, rfl⟩ := H
                obtain ⟨Ao95, co95, eo95⟩ := Kd.R_slice HO_4.out
                subst eo95
                go_wp2_with (first | (go_at_call 74; (with_reducible refine (spec_l01Src_one.calls g s0_0 x1001_1 x1002_1 x1003_1 12 true t325 t326 t327 w0 _ ?side1 ?side2 A69.out).mono ?_); (case side1 => exact au13_2); (case side2 => exact au13_3); rintro e w96 ⟨rfl, hi, hb, hk⟩; (try clear A69); have n0_ := Aside0.mk (Kd.R_mono (Kd.R_keep (IsS116.apart (show IsS116 w0 _ g s0_0 x1001_1 x1002_1 x1003_1 from by repeat (first | (with_reducible first | exact HI0.out | apply IsS116.alloc | apply IsS116.drewN | apply IsS116.drew | apply IsS116.set_1 | apply IsS116.set_2 | apply IsS116.set_3 | refine IsS116.far ?_ NB0_282.out _ | refine IsS116.far ?_ NB0_296.out _) | exact HI0.out)) (rk_ HO_4) (by decide)) hk (fun _ h => h.2)) (fun _ h => h.1)); have n1_ := Aside0.mk (Kd.R_mono (Kd.R_keep (IsS116.apart (show IsS116 w0 _ g s0_0 x1001_1 x1002_1 x1003_1 from by repeat (first | (with_reducible first | exact HI0.out | apply IsS116.alloc | apply IsS116.drewN | apply IsS116.drew | apply IsS116.set_1 | apply IsS116.set_2 | apply IsS116.set_3 | refine IsS116.far ?_ NB0_282.out _ | refine IsS116.far ?_ NB0_296.out _) | exact HI0.out)) (rk_ HO_297003) (by decide)) hk (fun _ h => h.2)) (fun _ h => h.1)); have n2_ := Aside0.mk (KeepBut.blk hk (g' := gb282) (o := .cells #[.string (⟨#[]⟩ : ByteArray), .int .i64 0, .int .i64 0, .slice none 0 0] 51 (0, 0)) (bk_ BK282) NB282_0.out (by simp)); have n3_ := Aside0.mk (KeepBut.blk hk (g' := gb296) (o := .cells #[.string x297000_1, .int .i64 x297001_1, .int .i64 x297002_1, u297003] 51 (0, 0)) (bk_ BK296) NB296_0.out (by simp)); have n4_ := Aside0.mk (KeepBut.trans au13_0 hk (.inl rfl)); have n5_ := Aside0.mk (hb); have n6_ := Aside0.mk (hi); clear HO_4; clear HO_297003; clear BK282; clear BK296; clear HK; clear HB; clear HI0; have HO_4 := n0_; have HO_297003 := n1_; have BK282 := n2_; have BK296 := n3_; have HK := n4_; have HB := n5_; have HI0 := n6_; clear n0_ n1_ n2_ n3_ n4_ n5_ n6_; (try clear hb); (try clear hb2); (try clear hk); (try clear hi)) | (go_at_call 101; (with_reducible refine (spec_l01Src_n.calls g s0_0 t325 t326 t327 6 t328 t329 t330 t331 w0 _ ?side1 ?side2 A71.out).mono ?_); (case side1 => exact au13_2); (case side2 => exact au13_3); rintro e w97 ⟨rfl, hi, hb, hk⟩; (try clear A71); have n0_ := Aside0.mk (Kd.R_mono (Kd.R_keep (IsS116.apart (show IsS116 w0 _ g s0_0 t325 t326 t327 from by repeat (first | (with_reducible first | exact HI0.out | apply IsS116.alloc | apply IsS116.drewN | apply IsS116.drew | apply IsS116.set_1 | apply IsS116.set_2 | apply IsS116.set_3 | refine IsS116.far ?_ NB0_282.out _ | refine IsS116.far ?_ NB0_296.out _) | exact HI0.out)) (rk_ HO_4) (by decide)) hk (fun _ h => h.2)) (fun _ h => h.1)); have n1_ := Aside0.mk (Kd.R_mono (Kd.R_keep (IsS116.apart (show IsS116 w0 _ g s0_0 t325 t326 t327 from by repeat (first | (with_reducible first | exact HI0.out | apply IsS116.alloc | apply IsS116.drewN | apply IsS116.drew | apply IsS116.set_1 | apply IsS116.set_2 | apply IsS116.set_3 | refine IsS116.far ?_ NB0_282.out _ | refine IsS116.far ?_ NB0_296.out _) | exact HI0.out)) (rk_ HO_297003) (by decide)) hk (fun _ h => h.2)) (fun _ h => h.1)); have n2_ := Aside0.mk (KeepBut.blk hk (g' := gb282) (o := .cells #[.string (⟨#[]⟩ : ByteArray), .int .i64 0, .int .i64 0, .slice none 0 0] 51 (0, 0)) (bk_ BK282) NB282_0.out (by simp)); have n3_ := Aside0.mk (KeepBut.blk hk (g' := gb296) (o := .cells #[.string x297000_1, .int .i64 x297001_1, .int .i64 x297002_1, u297003] 51 (0, 0)) (bk_ BK296) NB296_0.out (by simp)); have n4_ := Aside0.mk (KeepBut.trans au13_0 hk (.inl rfl)); have n5_ := Aside0.mk (hb); have n6_ := Aside0.mk (hi); clear HO_4; clear HO_297003; clear BK282; clear BK296; clear HK; clear HB; clear HI0; have HO_4 := n0_; have HO_297003 := n1_; have BK282 := n2_; have BK296 := n3_; have HK := n4_; have HB := n5_; have HI0 := n6_; clear n0_ n1_ n2_ n3_ n4_ n5_ n6_; (try clear hb); (try clear hb2); (try clear hk); (try clear hi); have hnb98 := NB296_282.out; have hnc98 := NB282_296.out; have hnb99 := NB296_0.out; have hnc99 := NB0_296.out; obtain ⟨hcz100_0, hcz100_1, hcz100_2, hcz100_3, hfz100_0, hfz100_1, hfz100_2, hfz100_3⟩ := cellsF4 BK296.out; have hnb101 := NB282_0.out; have hnc101 := NB0_282.out; obtain ⟨hcz102_0, hcz102_1, hcz102_2, hcz102_3, hfz102_0, hfz102_1, hfz102_2, hfz102_3⟩ := cellsF4 BK282.out; obtain ⟨Ao103, co103, eo103⟩ := Kd.R_slice HO_297003.out; subst eo103))
                refine bodyPost_ret (results_cell_row rfl _ _ gb282 51 #[.string x297000_1, .int .i64 (wrap64 (x297001_1 + 1)), .int .i64 x297002_1, .slice Ao103 x297003_1.length co103] (0, 0) _ rfl (by (with_reducible repeat (first | refine blk_drewN ?_ _ | refine blk_drew ?_ | refine blk_alloc ?_ _)); refine blk_put (cs := #[.string x297000_1, .int .i64 (wrap64 (x297001_1 + 1)), .int .i64 x297002_1, .slice none 0 0]) ?_ 3 _ rfl; (with_reducible repeat (first | refine blk_drewN ?_ _ | refine blk_drew ?_ | refine blk_alloc ?_ _)); refine blk_put (cs := #[.string x297000_1, .int .i64 (wrap64 (x297001_1 + 1)), .int .i64 0, .slice none 0 0]) ?_ 2 _ rfl; (with_reducible repeat (first | refine blk_drewN ?_ _ | refine blk_drew ?_ | refine blk_alloc ?_ _)); refine blk_put (cs := #[.string x297000_1, .int .i64 0, .int .i64 0, .slice none 0 0]) ?_ 1 _ rfl; (with_reducible repeat (first | refine blk_drewN ?_ _ | refine blk_drew ?_ | refine blk_alloc ?_ _)); refine blk_put (cs := #[.string (⟨#[]⟩ : ByteArray), .int .i64 0, .int .i64 0, .slice none 0 0]) ?_ 0 _ rfl; (with_reducible repeat (first | refine blk_drewN ?_ _ | refine blk_drew ?_ | refine blk_alloc ?_ _)); refine blk_far ?_ NB282_296.out _; (with_reducible repeat (first | refine blk_drewN ?_ _ | refine blk_drew ?_ | refine blk_alloc ?_ _)); exact BK282.out) Try.underlying51 rfl (by kernel_rfl)) rfl ?_
                exact ⟨_, au13_18, by (with_reducible repeat (first | apply Kd.R_alloc | apply Kd.R_drewN | apply Kd.R_drew)); exact Kd.R_mono (Kd.R_far (p := ⟨gb282, 3, none⟩) (Kd.R_far (p := ⟨gb282, 2, none⟩) (Kd.R_far (p := ⟨gb282, 1, none⟩) (Kd.R_far (p := ⟨gb282, 0, none⟩) (Kd.R_far (p := ⟨gb296, 1, none⟩) (Kd.R_types (Kd.R_types HO_297003.out BK296.out (by decide)) BK282.out (by decide)) (fun _ hk => hk.1.2) (.int .i64 (wrap64 (x297001_1 + 1)))) (fun _ hk => hk.2) (.string x297000_1)) (fun _ hk => hk.2) (.int .i64 (wrap64 (x297001_1 + 1)))) (fun _ hk => hk.2) (.int .i64 x297002_1)) (fun _ hk => hk.2) (.slice Ao103 x297003_1.length co103)) (fun _ hk => trivial), au13_9, au13_10, au13_11⟩
              · rw [if_neg c94] at H
                have c94b0 : (t328 == 2) = false := beq_eq_false_iff_ne.mpr c94
                have c94b1 : (t328 != 2) = true := bne_iff_ne.mpr c94
                by_cases c104 : t328 = 3
                · rw [if_pos c104] at H
                  have c104b0 : (t328 == 3) = true := beq_iff_eq.mpr c104
                  have c104b1 : (t328 != 3) = false := bne_eq_false_iff_eq.mpr c104
                  clear c104
                  replace H := Option.bind_eq_some_iff.mp H
                  obtain ⟨⟨t336, t337, t338, t339⟩, A1050, H⟩ := H
                  replace H : (some (x297000_1, wrap64 (999999 - t336), x297002_1, ([] : List (S62)), t337, t338, t339)) = some (r1, r2, r3, r4, r5, r6, r7) := H
                  have A105 := Aside0.mk A1050
                  clear A1050
                  simp only [Option.some.injEq, Prod.mk.injEq] at H
                  obtain ⟨rfl, rfl, rfl, rfl, rfl, rfl, rfl⟩ := H
                  obtain ⟨Ao106, co106, eo106⟩ := Kd.R_slice HO_4.out
                  subst eo106
                  go_wp2_with (first | (go_at_call 74; (with_reducible refine (spec_l01Src_one.calls g s0_0 x1001_1 x1002_1 x1003_1 12 true t325 t326 t327 w0 _ ?side1 ?side2 A69.out).mono ?_); (case side1 => exact au13_2); (case side2 => exact au13_3); rintro e w107 ⟨rfl, hi, hb, hk⟩; (try clear A69); have n0_ := Aside0.mk (Kd.R_mono (Kd.R_keep (IsS116.apart (show IsS116 w0 _ g s0_0 x1001_1 x1002_1 x1003_1 from by repeat (first | (with_reducible first | exact HI0.out | apply IsS116.alloc | apply IsS116.drewN | apply IsS116.drew | apply IsS116.set_1 | apply IsS116.set_2 | apply IsS116.set_3 | refine IsS116.far ?_ NB0_282.out _ | refine IsS116.far ?_ NB0_296.out _) | exact HI0.out)) (rk_ HO_4) (by decide)) hk (fun _ h => h.2)) (fun _ h => h.1)); have n1_ := Aside0.mk (Kd.R_mono (Kd.R_keep (IsS116.apart (show IsS116 w0 _ g s0_0 x1001_1 x1002_1 x1003_1 from by repeat (first | (with_reducible first | exact HI0.out | apply IsS116.alloc | apply IsS116.drewN | apply IsS116.drew | apply IsS116.set_1 | apply IsS116.set_2 | apply IsS116.set_3 | refine IsS116.far ?_ NB0_282.out _ | refine IsS116.far ?_ NB0_296.out _) | exact HI0.out)) (rk_ HO_297003) (by decide)) hk (fun _ h => h.2)) (fun _ h => h.1)); have n2_ := Aside0.mk (KeepBut.blk hk (g' := gb282) (o := .cells #[.string (⟨#[]⟩ : ByteArray), .int .i64 0, .int .i64 0, .slice none 0 0] 51 (0, 0)) (bk_ BK282) NB282_0.out (by simp)); have n3_ := Aside0.mk (KeepBut.blk hk (g' := gb296) (o := .cells #[.string x297000_1, .int .i64 x297001_1, .int .i64 x297002_1, u297003] 51 (0, 0)) (bk_ BK296) NB296_0.out (by simp)); have n4_ := Aside0.mk (KeepBut.trans au13_0 hk (.inl rfl)); have n5_ := Aside0.mk (hb); have n6_ := Aside0.mk (hi); clear HO_4; clear HO_297003; clear BK282; clear BK296; clear HK; clear HB; clear HI0; have HO_4 := n0_; have HO_297003 := n1_; have BK282 := n2_; have BK296 := n3_; have HK := n4_; have HB := n5_; have HI0 := n6_; clear n0_ n1_ n2_ n3_ n4_ n5_ n6_; (try clear hb); (try clear hb2); (try clear hk); (try clear hi)) | (go_at_call 101; (with_reducible refine (spec_l01Src_n.calls g s0_0 t325 t326 t327 6 t328 t329 t330 t331 w0 _ ?side1 ?side2 A71.out).mono ?_); (case side1 => exact au13_2); (case side2 => exact au13_3); rintro e w108 ⟨rfl, hi, hb, hk⟩; (try clear A71); have n0_ := Aside0.mk (Kd.R_mono (Kd.R_keep (IsS116.apart (show IsS116 w0 _ g s0_0 t325 t326 t327 from by repeat (first | (with_reducible first | exact HI0.out | apply IsS116.alloc | apply IsS116.drewN | apply IsS116.drew | apply IsS116.set_1 | apply IsS116.set_2 | apply IsS116.set_3 | refine IsS116.far ?_ NB0_282.out _ | refine IsS116.far ?_ NB0_296.out _) | exact HI0.out)) (rk_ HO_4) (by decide)) hk (fun _ h => h.2)) (fun _ h => h.1)); have n1_ := Aside0.mk (Kd.R_mono (Kd.R_keep (IsS116.apart (show IsS116 w0 _ g s0_0 t325 t326 t327 from by repeat (first | (with_reducible first | exact HI0.out | apply IsS116.alloc | apply IsS116.drewN | apply IsS116.drew | apply IsS116.set_1 | apply IsS116.set_2 | apply IsS116.set_3 | refine IsS116.far ?_ NB0_282.out _ | refine IsS116.far ?_ NB0_296.out _) | exact HI0.out)) (rk_ HO_297003) (by decide)) hk (fun _ h => h.2)) (fun _ h => h.1)); have n2_ := Aside0.mk (KeepBut.blk hk (g' := gb282) (o := .cells #[.string (⟨#[]⟩ : ByteArray), .int .i64 0, .int .i64 0, .slice none 0 0] 51 (0, 0)) (bk_ BK282) NB282_0.out (by simp)); have n3_ := Aside0.mk (KeepBut.blk hk (g' := gb296) (o := .cells #[.string x297000_1, .int .i64 x297001_1, .int .i64 x297002_1, u297003] 51 (0, 0)) (bk_ BK296) NB296_0.out (by simp)); have n4_ := Aside0.mk (KeepBut.trans au13_0 hk (.inl rfl)); have n5_ := Aside0.mk (hb); have n6_ := Aside0.mk (hi); clear HO_4; clear HO_297003; clear BK282; clear BK296; clear HK; clear HB; clear HI0; have HO_4 := n0_; have HO_297003 := n1_; have BK282 := n2_; have BK296 := n3_; have HK := n4_; have HB := n5_; have HI0 := n6_; clear n0_ n1_ n2_ n3_ n4_ n5_ n6_; (try clear hb); (try clear hb2); (try clear hk); (try clear hi)) | (go_at_call 101; (with_reducible refine (spec_l01Src_n.calls g s0_0 t329 t330 t331 3 t336 t337 t338 t339 w0 _ ?side1 ?side2 A105.out).mono ?_); (case side1 => exact au13_2); (case side2 => exact au13_3); rintro e w109 ⟨rfl, hi, hb, hk⟩; (try clear A105); have n0_ := Aside0.mk (Kd.R_mono (Kd.R_keep (IsS116.apart (show IsS116 w0 _ g s0_0 t329 t330 t331 from by repeat (first | (with_reducible first | exact HI0.out | apply IsS116.alloc | apply IsS116.drewN | apply IsS116.drew | apply IsS116.set_1 | apply IsS116.set_2 | apply IsS116.set_3 | refine IsS116.far ?_ NB0_282.out _ | refine IsS116.far ?_ NB0_296.out _) | exact HI0.out)) (rk_ HO_4) (by decide)) hk (fun _ h => h.2)) (fun _ h => h.1)); have n1_ := Aside0.mk (Kd.R_mono (Kd.R_keep (IsS116.apart (show IsS116 w0 _ g s0_0 t329 t330 t331 from by repeat (first | (with_reducible first | exact HI0.out | apply IsS116.alloc | apply IsS116.drewN | apply IsS116.drew | apply IsS116.set_1 | apply IsS116.set_2 | apply IsS116.set_3 | refine IsS116.far ?_ NB0_282.out _ | refine IsS116.far ?_ NB0_296.out _) | exact HI0.out)) (rk_ HO_297003) (by decide)) hk (fun _ h => h.2)) (fun _ h => h.1)); have n2_ := Aside0.mk (KeepBut.blk hk (g' := gb282) (o := .cells #[.string (⟨#[]⟩ : ByteArray), .int .i64 0, .int .i64 0, .slice none 0 0] 51 (0, 0)) (bk_ BK282) NB282_0.out (by simp)); have n3_ := Aside0.mk (KeepBut.blk hk (g' := gb296) (o := .cells #[.string x297000_1, .int .i64 x297001_1, .int .i64 x297002_1, u297003] 51 (0, 0)) (bk_ BK296) NB296_0.out (by simp)); have n4_ := Aside0.mk (KeepBut.trans au13_0 hk (.inl rfl)); have n5_ := Aside0.mk (hb); have n6_ := Aside0.mk (hi); clear HO_4; clear HO_297003; clear BK282; clear BK296; clear HK; clear HB; clear HI0; have HO_4 := n0_; have HO_297003 := n1_; have BK282 := n2_; have BK296 := n3_; have HK := n4_; have HB := n5_; have HI0 := n6_; clear n0_ n1_ n2_ n3_ n4_ n5_ n6_; (try clear hb); (try clear hb2); (try clear hk); (try clear hi); have hnb110 := NB296_282.out; have hnc110 := NB282_296.out; have hnb111 := NB296_0.out; have hnc111 := NB0_296.out; obtain ⟨hcz112_0, hcz112_1, hcz112_2, hcz112_3, hfz112_0, hfz112_1, hfz112_2, hfz112_3⟩ := cellsF4 BK296.out; have hnb113 := NB282_0.out; have hnc113 := NB0_282.out; obtain ⟨hcz114_0, hcz114_1, hcz114_2, hcz114_3, hfz114_0, hfz114_1, hfz114_2, hfz114_3⟩ := cellsF4 BK282.out))
                  refine bodyPost_ret (results_cell_row rfl _ _ gb282 51 #[.string x297000_1, .int .i64 (wrap64 (999999 - t336)), .int .i64 x297002_1, .slice none 0 0] (0, 0) _ rfl (by (with_reducible repeat (first | refine blk_drewN ?_ _ | refine blk_drew ?_ | refine blk_alloc ?_ _)); refine blk_put (cs := #[.string x297000_1, .int .i64 (wrap64 (999999 - t336)), .int .i64 x297002_1, .slice none 0 0]) ?_ 3 _ rfl; (with_reducible repeat (first | refine blk_drewN ?_ _ | refine blk_drew ?_ | refine blk_alloc ?_ _)); refine blk_put (cs := #[.string x297000_1, .int .i64 (wrap64 (999999 - t336)), .int .i64 0, .slice none 0 0]) ?_ 2 _ rfl; (with_reducible repeat (first | refine blk_drewN ?_ _ | refine blk_drew ?_ | refine blk_alloc ?_ _)); refine blk_put (cs := #[.string x297000_1, .int .i64 0, .int .i64 0, .slice none 0 0]) ?_ 1 _ rfl; (with_reducible repeat (first | refine blk_drewN ?_ _ | refine blk_drew ?_ | refine blk_alloc ?_ _)); refine blk_put (cs := #[.string (⟨#[]⟩ : ByteArray), .int .i64 0, .int .i64 0, .slice none 0 0]) ?_ 0 _ rfl; (with_reducible repeat (first | refine blk_drewN ?_ _ | refine blk_drew ?_ | refine blk_alloc ?_ _)); refine blk_far ?_ NB282_296.out _; (with_reducible repeat (first | refine blk_drewN ?_ _ | refine blk_drew ?_ | refine blk_alloc ?_ _)); refine blk_far ?_ NB282_296.out _; (with_reducible repeat (first | refine blk_drewN ?_ _ | refine blk_drew ?_ | refine blk_alloc ?_ _)); exact BK282.out) Try.underlying51 rfl (by kernel_rfl)) rfl ?_
                  exact ⟨_, au13_18, by first | exact Kd.R_nil _ _ _ _ _ | exact Kd.N_nil _ _ _ _ _ | exact Kd.V_nil _ _ _ _ _ | exact Kd.Q_nil _ _ _ _ _ | exact Kd.S_nil _ _ _ _ _, au13_9, au13_10, au13_11⟩
                · rw [if_neg c104] at H
                  have c104b0 : (t328 == 3) = false := beq_eq_false_iff_ne.mpr c104
                  have c104b1 : (t328 != 3) = true := bne_iff_ne.mpr c104
                  by_cases c115 : t328 = 4
                  · rw [if_pos c115] at H
                    have c115b0 : (t328 == 4) = true := beq_iff_eq.mpr c115
                    have c115b1 : (t328 != 4) = false := bne_eq_false_iff_eq.mpr c115
                    clear c115
                    replace H := Option.bind_eq_some_iff.mp H
                    obtain ⟨⟨t340, t341, t342, t343⟩, A1160, H⟩ := H
                    replace H : (if x297003_1.length < 5864062014805 then (some (x297000_1, x297001_1, x297002_1, (x297003_1 ++ [(⟨wrap64 ((wrap64 (x297001_1 + 31)) + t340), 1, 0⟩ : S62)]), t341, t342, t343)) else (none)) = some (r1, r2, r3, r4, r5, r6, r7) := H
                    have A116 := Aside0.mk A1160
                    clear A1160
                    by_cases c117 : x297003_1.length < 5864062014805
                    · rw [if_pos c117] at H
                      have LMc117 := Aside0.mk c117
                      clear c117
                      obtain ⟨y344, hy344⟩ : ∃ y_ : List (S62), y_ = (x297003_1 ++ [(⟨wrap64 ((wrap64 (x297001_1 + 31)) + t340), 1, 0⟩ : S62)]) := ⟨_, rfl⟩
                      replace H : (some (x297000_1, x297001_1, x297002_1, y344, t341, t342, t343)) = some (r1, r2, r3, r4, r5, r6, r7) := by first | (rw [hy344]; with_reducible exact H) | (have H2_ := (Option.bind_some _ _).symm.trans H; rw [hy344]; with_reducible exact H2_) | (have H2_ := (Option.bind_some _ _).symm.trans H; with_reducible exact H2_) | with_reducible exact H | (rw [hy344]; exact H) | exact H
                      have Ny344 := Aside0.mk hy344
                      clear hy344
                      simp only [Option.some.injEq, Prod.mk.injEq] at H
                      obtain ⟨rfl, rfl, rfl, rfl, rfl, rfl, rfl⟩ := H
                      obtain ⟨Ao118, co118, eo118⟩ := Kd.R_slice HO_4.out
                      subst eo118
                      try go_wp2_with (first | (go_at_call 74; (with_reducible refine (spec_l01Src_one.calls g s0_0 x1001_1 x1002_1 x1003_1 12 true t325 t326 t327 w0 _ ?side1 ?side2 A69.out).mono ?_); (case side1 => exact au13_2); (case side2 => exact au13_3); rintro e w119 ⟨rfl, hi, hb, hk⟩; (try clear A69); have n0_ := Aside0.mk (Kd.R_mono (Kd.R_keep (IsS116.apart (show IsS116 w0 _ g s0_0 x1001_1 x1002_1 x1003_1 from by repeat (first | (with_reducible first | exact HI0.out | apply IsS116.alloc | apply IsS116.drewN | apply IsS116.drew | apply IsS116.set_1 | apply IsS116.set_2 | apply IsS116.set_3 | refine IsS116.far ?_ NB0_282.out _ | refine IsS116.far ?_ NB0_296.out _) | exact HI0.out)) (rk_ HO_4) (by decide)) hk (fun _ h => h.2)) (fun _ h => h.1)); have n1_ := Aside0.mk (Kd.R_mono (Kd.R_keep (IsS116.apart (show IsS116 w0 _ g s0_0 x1001_1 x1002_1 x1003_1 from by repeat (first | (with_reducible first | exact HI0.out | apply IsS116.alloc | apply IsS116.drewN | apply IsS116.drew | apply IsS116.set_1 | apply IsS116.set_2 | apply IsS116.set_3 | refine IsS116.far ?_ NB0_282.out _ | refine IsS116.far ?_ NB0_296.out _) | exact HI0.out)) (rk_ HO_297003) (by decide)) hk (fun _ h => h.2)) (fun _ h => h.1)); have n2_ := Aside0.mk (KeepBut.blk hk (g' := gb282) (o := .cells #[.string (⟨#[]⟩ : ByteArray), .int .i64 0, .int .i64 0, .slice none 0 0] 51 (0, 0)) (bk_ BK282) NB282_0.out (by simp)); have n3_ := Aside0.mk (KeepBut.blk hk (g' := gb296) (o := .cells #[.string x297000_1, .int .i64 x297001_1, .int .i64 x297002_1, u297003] 51 (0, 0)) (bk_ BK296) NB296_0.out (by simp)); have n4_ := Aside0.mk (KeepBut.trans au13_0 hk (.inl rfl)); have n5_ := Aside0.mk (hb); have n6_ := Aside0.mk (hi); clear HO_4; clear HO_297003; clear BK282; clear BK296; clear HK; clear HB; clear HI0; have HO_4 := n0_; have HO_297003 := n1_; have BK282 := n2_; have BK296 := n3_; have HK := n4_; have HB := n5_; have HI0 := n6_; clear n0_ n1_ n2_ n3_ n4_ n5_ n6_; (try clear hb); (try clear hb2); (try clear hk); (try clear hi)) | (go_at_call 101; (with_reducible refine (spec_l01Src_n.calls g s0_0 t325 t326 t327 6 t328 t329 t330 t331 w0 _ ?side1 ?side2 A71.out).mono ?_); (case side1 => exact au13_2); (case side2 => exact au13_3); rintro e w120 ⟨rfl, hi, hb, hk⟩; (try clear A71); have n0_ := Aside0.mk (Kd.R_mono (Kd.R_keep (IsS116.apart (show IsS116 w0 _ g s0_0 t325 t326 t327 from by repeat (first | (with_reducible first | exact HI0.out | apply IsS116.alloc | apply IsS116.drewN | apply IsS116.drew | apply IsS116.set_1 | apply IsS116.set_2 | apply IsS116.set_3 | refine IsS116.far ?_ NB0_282.out _ | refine IsS116.far ?_ NB0_296.out _) | exact HI0.out)) (rk_ HO_4) (by decide)) hk (fun _ h => h.2)) (fun _ h => h.1)); have n1_ := Aside0.mk (Kd.R_mono (Kd.R_keep (IsS116.apart (show IsS116 w0 _ g s0_0 t325 t326 t327 from by repeat (first | (with_reducible first | exact HI0.out | apply IsS116.alloc | apply IsS116.drewN | apply IsS116.drew | apply IsS116.set_1 | apply IsS116.set_2 | apply IsS116.set_3 | refine IsS116.far ?_ NB0_282.out _ | refine IsS116.far ?_ NB0_296.out _) | exact HI0.out)) (rk_ HO_297003) (by decide)) hk (fun _ h => h.2)) (fun _ h => h.1)); have n2_ := Aside0.mk (KeepBut.blk hk (g' := gb282) (o := .cells #[.string (⟨#[]⟩ : ByteArray), .int .i64 0, .int .i64 0, .slice none 0 0] 51 (0, 0)) (bk_ BK282) NB282_0.out (by simp)); have n3_ := Aside0.mk (KeepBut.blk hk (g' := gb296) (o := .cells #[.string x297000_1, .int .i64 x297001_1, .int .i64 x297002_1, u297003] 51 (0, 0)) (bk_ BK296) NB296_0.out (by simp)); have n4_ := Aside0.mk (KeepBut.trans au13_0 hk (.inl rfl)); have n5_ := Aside0.mk (hb); have n6_ := Aside0.mk (hi); clear HO_4; clear HO_297003; clear BK282; clear BK296; clear HK; clear HB; clear HI0; have HO_4 := n0_; have HO_297003 := n1_; have BK282 := n2_; have BK296 := n3_; have HK := n4_; have HB := n5_; have HI0 := n6_; clear n0_ n1_ n2_ n3_ n4_ n5_ n6_; (try clear hb); (try clear hb2); (try clear hk); (try clear hi)))
                      have n0_ := Aside0.mk (Kd.R_drew HO_4.out)
                      have n1_ := Aside0.mk (Kd.R_drew HO_297003.out)
                      have n2_ := Aside0.mk (blk_drew BK282.out)
                      have n3_ := Aside0.mk (blk_drew BK296.out)
                      have n4_ := Aside0.mk (IsS116.drew HI0.out)
                      have n5_ := Aside0.mk (keep_drew HK.out)
                      have n6_ := Aside0.mk (below_drew1 HB.out)
                      clear HO_4
                      clear HO_297003
                      clear BK282
                      clear BK296
                      clear HI0
                      clear HK
                      clear HB
                      have HO_4 := n0_
                      have HO_297003 := n1_
                      have BK282 := n2_
                      have BK296 := n3_
                      have HI0 := n4_
                      have HK := n5_
                      have HB := n6_
                      clear n0_ n1_ n2_ n3_ n4_ n5_ n6_
                      refine start_ (n := 13) (S := fun w' => w'.cell? ⟨gb296, 0, none⟩ = some (.string x297000_1) ∧ w'.cell? ⟨gb296, 1, none⟩ = some (.int .i64 x297001_1) ∧ w'.cell? ⟨gb296, 2, none⟩ = some (.int .i64 x297002_1) ∧ w'.cell? ⟨gb296, 3, none⟩ = some (u297003)) (ds := [12]) (bs 13 0) (by kernel_rfl) rfl rfl ⟨(blk_cell BK296.out 0).trans rfl, (blk_cell BK296.out 1).trans rfl, (blk_cell BK296.out 2).trans rfl, (blk_cell BK296.out 3).trans rfl⟩ (fun hHeld => ?_); refine with_tabW spec_l01Src_l07Partner.tab22 spec_l01Src_l07Partner.bits22 (fun HT_ HW_ => ?_)
                      generalize w120.drew = w121 at HO_4 HO_297003 BK282 BK296 HI0 HK HB hHeld ⊢
                      refine pu_ 0 74 (bs 13 1) HT_ ?_ rfl rfl
                      refine pu_ 2 76 (bs 13 5) HT_ ?_ rfl rfl
                      refine pu_ 5 79 (bs 13 37) HT_ ?_ rfl rfl
                      refine tk_ 1 75 (bs 13 39) HT_ HW_ hHeld au13_29 ?_ rfl rfl
                      refine tk_ 3 77 (bs 13 47) HT_ HW_ hHeld au13_29 ?_ rfl rfl
                      refine pu_ 4 78 (bs 13 63) HT_ ?_ rfl rfl
                      refine one_ (i := 6) (N := some 80) (bs 13 127) rfl rfl (one_of HT_.out (by kernel_rfl)) (by decide) (fun K hK => ?_)
                      refine gr_ Try.func101 #[.pointer (some ⟨g, 0, none⟩), .int .i64 2] (by rfl) ?_ rfl rfl rfl
                      with_reducible refine (spec_l01Src_n.calls g s0_0 t329 t330 t331 2 t340 t341 t342 t343 w0 _ ?side1 ?side2 A116.out).mono ?_
                      (case side1 => exact au13_2)
                      (case side2 => exact au13_3)
                      rintro e w122 ⟨rfl, hi, hb, hk⟩
                      refine ⟨_, rfl, ?_⟩
                      have n0_ := Aside0.mk (Kd.R_mono (Kd.R_keep (IsS116.apart (show IsS116 w0 _ g s0_0 t329 t330 t331 from by repeat (first | (with_reducible first | exact HI0.out | apply IsS116.alloc | apply IsS116.drewN | apply IsS116.drew | apply IsS116.set_1 | apply IsS116.set_2 | apply IsS116.set_3 | refine IsS116.far ?_ NB0_282.out _ | refine IsS116.far ?_ NB0_296.out _) | exact HI0.out)) (rk_ HO_4) (by decide)) hk (fun _ h => h.2)) (fun _ h => h.1))
                      have n1_ := Aside0.mk (Kd.R_mono (Kd.R_keep (IsS116.apart (show IsS116 w0 _ g s0_0 t329 t330 t331 from by repeat (first | (with_reducible first | exact HI0.out | apply IsS116.alloc | apply IsS116.drewN | apply IsS116.drew | apply IsS116.set_1 | apply IsS116.set_2 | apply IsS116.set_3 | refine IsS116.far ?_ NB0_282.out _ | refine IsS116.far ?_ NB0_296.out _) | exact HI0.out)) (rk_ HO_297003) (by decide)) hk (fun _ h => h.2)) (fun _ h => h.1))
                      have n2_ := Aside0.mk (KeepBut.blk hk (g' := gb282) (o := .cells #[.string (⟨#[]⟩ : ByteArray), .int .i64 0, .int .i64 0, .slice none 0 0] 51 (0, 0)) (bk_ BK282) NB282_0.out (by simp))
                      have n3_ := Aside0.mk (KeepBut.blk hk (g' := gb296) (o := .cells #[.string x297000_1, .int .i64 x297001_1, .int .i64 x297002_1, u297003] 51 (0, 0)) (bk_ BK296) NB296_0.out (by simp))
                      have n4_ := Aside0.mk (KeepBut.trans au13_0 hk (.inl rfl))
                      have n5_ := Aside0.mk (hb)
                      have n6_ := Aside0.mk (hi)
                      clear HO_4
                      clear HO_297003
                      clear BK282
                      clear BK296
                      clear HK
                      clear HB
                      clear HI0
                      have HO_4 := n0_
                      have HO_297003 := n1_
                      have BK282 := n2_
                      have BK296 := n3_
                      have HK := n4_
                      have HB := n5_
                      have HI0 := n6_
                      clear n0_ n1_ n2_ n3_ n4_ n5_ n6_
                      (try clear hb)
                      (try clear hb2)
                      (try clear hk)
                      (try clear hi)
                      refine hK.out _ _ ⟨(blk_cell BK296.out 0).trans rfl, (blk_cell BK296.out 1).trans rfl, (blk_cell BK296.out 2).trans rfl, (blk_cell BK296.out 3).trans rfl⟩ (fun hHeld => ?_)
                      clear hK K
                      refine norm_ (a' := ?_) ?_ ?_
                      rotate_left
                      · show Act.put _ (some 80) _ = _
                        simp only [Act.put, List.setIfInBounds_toArray, List.set_cons_zero, List.set_cons_succ, i64_w, i32_w]
                        rfl
                      refine pu_ 7 81 (bs 13 255) HT_ ?_ rfl rfl
                      refine pu_ 8 82 (bs 13 511) HT_ ?_ rfl rfl
                      refine one_ (i := 9) (N := some 83) (bs 13 1023) rfl rfl (one_of HT_.out (by kernel_rfl)) (by decide) (fun K hK => ?_)
                      refine value_ (w1 := ?_) (v := ?_) (by rfl) rfl ?_ ?_
                      rotate_left 2
                      · go_simp
                        constructor
                        · rfl
                        · rfl
                      refine hK.out _ _ ⟨(blk_cell (blk_alloc BK296.out _) 0).trans rfl, (blk_cell (blk_alloc BK296.out _) 1).trans rfl, (blk_cell (blk_alloc BK296.out _) 2).trans rfl, (blk_cell (blk_alloc BK296.out _) 3).trans rfl⟩ (fun hHeld => ?_)
                      clear hK K
                      refine norm_ (a' := ?_) ?_ ?_
                      rotate_left
                      · show Act.put _ (some 83) _ = _
                        simp only [Act.put, List.setIfInBounds_toArray, List.set_cons_zero, List.set_cons_succ, i64_w, i32_w]
                        rfl
                      refine one_ (i := 10) (N := some 84) (bs 13 2047) rfl rfl (one_of HT_.out (by kernel_rfl)) (by decide) (fun K hK => ?_)
                      refine Kd.R_append_step k62 w.heap.size (by rfl) (.tmp 75) (.tmp 83) 49 62 (.agg #[(.int .i64 0), (.int .i64 0), (.int .i64 0)]) 24 rfl Try.underlying49 info62 rfl (by decide) (by omega) u297003 x297003_1 (⟨wrap64 ((wrap64 (x297001_1 + 31)) + t340), 1, 0⟩ : S62) [.int .i64 (wrap64 ((wrap64 (x297001_1 + 31)) + t340)), .int .i64 1, .int .i64 0] (fun _ => True) (fun _ => False) rfl rfl ?aP (fun _ hk => hk.elim) ?aF ?aO (Below.refl _ _) ?aS ?aL ?_
                      (case aP => exact k62_mkM _ _ _ (⟨wrap64 ((wrap64 (x297001_1 + 31)) + t340), 1, 0⟩ : S62))
                      (case aF => exact (fun _ _ => trivial))
                      (case aO => exact (rk_ HO_297003))
                      (case aS => exact (keep_size (w := w) (g := g) (row := none) au13_0))
                      (case aL => have := LMc117.out; omega)
                      intro v345 w123 ho hb hg hat
                      rw [← Ny344.out] at ho
                      have n0_ := Aside0.mk (Kd.R_over' (rk_ HO_4) (Kd.R_typed (rk_ HO_297003)) (by decide) hg)
                      have n1_ := Aside0.mk (blk_grown (g := gb282) (o := .cells #[.string (⟨#[]⟩ : ByteArray), .int .i64 0, .int .i64 0, .slice none 0 0] 51 (0, 0)) (bk_ BK282) hg (Kd.R_ne HO_297003.out BK282.out (by decide)))
                      have n2_ := Aside0.mk (blk_grown (g := gb296) (o := .cells #[.string x297000_1, .int .i64 x297001_1, .int .i64 x297002_1, u297003] 51 (0, 0)) (bk_ BK296) hg (Kd.R_ne HO_297003.out BK296.out (by decide)))
                      have n3_ := Aside0.mk (IsS116.grown au13_6 hg (IsS116.own_ne HI0.out HO_297003.out (by decide)))
                      have n4_ := Aside0.mk (below_weaken au13_8 HL.out hb)
                      have n5_ := Aside0.mk (KeepBut.trans au13_0 (KeepBut.of_grown hg g) (Kd.R_base2 HO_297003.out))
                      have n6_ := Aside0.mk (ho)
                      clear HO_4
                      clear BK282
                      clear BK296
                      clear HI0
                      clear HB
                      clear HK
                      clear HO_297003
                      have HO_4 := n0_
                      have BK282 := n1_
                      have BK296 := n2_
                      have HI0 := n3_
                      have HB := n4_
                      have HK := n5_
                      have HO346 := n6_
                      clear n0_ n1_ n2_ n3_ n4_ n5_ n6_
                      clear ho hb hg hat
                      obtain ⟨Ao124, co124, eo124⟩ := Kd.R_slice HO346.out
                      (first | subst eo124 | (injection eo124 with f1_ f2_ f3_; have f4_ := f1_.symm; have f5_ := f3_.symm; clear f1_ f2_ f3_; subst f4_; subst f5_))
                      refine hK.out _ _ ⟨(blk_cell BK296.out 0).trans rfl, (blk_cell BK296.out 1).trans rfl, (blk_cell BK296.out 2).trans rfl, (blk_cell BK296.out 3).trans rfl⟩ (fun hHeld => ?_)
                      clear hK K
                      refine norm_ (a' := ?_) ?_ ?_
                      rotate_left
                      · show Act.put _ (some 84) _ = _
                        simp only [Act.put, List.setIfInBounds_toArray, List.set_cons_zero, List.set_cons_succ, i64_w, i32_w]
                        rfl
                      refine pu_ 11 85 (bs 13 4095) HT_ ?_ rfl rfl
                      refine last_ (i := 12) (N := none) (bs 13 8191) rfl rfl (one_of HT_.out (by kernel_rfl)) (by decide) (fun K hK => ?_)
                      have hs125 : w123.cell? ⟨gb296, 3, none⟩ = some (u297003) := (blk_cell BK296.out 3).trans rfl
                      have hfs125 := blk_frozen BK296.out 3
                      have hns125_0 := NB282_296.out
                      have hms125_0 := NB296_282.out
                      refine skip_ (w1 := ?_) (by rfl) rfl ?_ ?_
                      rotate_left
                      · go_simp
                        rfl
                      refine hK.out _ _ ?_
                      clear hK K
                      refine done_ (done_of HT_.out (by kernel_rfl)) ?_
                      have hnb126 := NB296_282.out
                      have hnc126 := NB282_296.out
                      have hnb127 := NB296_0.out
                      have hnc127 := NB0_296.out
                      obtain ⟨hcz128_0, hcz128_1, hcz128_2, hcz128_3, hfz128_0, hfz128_1, hfz128_2, hfz128_3⟩ := cellsF4 BK296.out
                      have hnb129 := NB282_0.out
                      have hnc129 := NB0_282.out
                      obtain ⟨hcz130_0, hcz130_1, hcz130_2, hcz130_3, hfz130_0, hfz130_1, hfz130_2, hfz130_3⟩ := cellsF4 BK282.out
                      try go_wp2
                      refine bodyPost_ret (results_cell_row rfl _ _ gb282 51 #[.string x297000_1, .int .i64 x297001_1, .int .i64 x297002_1, .slice Ao124 y344.length co124] (0, 0) _ rfl au13_13 Try.underlying51 rfl (by kernel_rfl)) rfl ?_
                      exact ⟨_, au13_18, by (with_reducible repeat (first | apply Kd.R_alloc | apply Kd.R_drewN | apply Kd.R_drew)); exact Kd.R_mono (Kd.R_far (p := ⟨gb282, 3, none⟩) (Kd.R_far (p := ⟨gb282, 2, none⟩) (Kd.R_far (p := ⟨gb282, 1, none⟩) (Kd.R_far (p := ⟨gb282, 0, none⟩) (Kd.R_far (p := ⟨gb296, 3, none⟩) (Kd.R_types (Kd.R_types HO346.out BK296.out (by decide)) BK282.out (by decide)) (fun _ hk => hk.1.2) (.slice Ao124 y344.length co124)) (fun _ hk => hk.2) (.string x297000_1)) (fun _ hk => hk.2) (.int .i64 x297001_1)) (fun _ hk => hk.2) (.int .i64 x297002_1)) (fun _ hk => hk.2) (.slice Ao124 y344.length co124)) (fun _ hk => trivial), au13_9, au13_10, au13_11⟩
                    · rw [if_neg c117] at H
                      exact absurd H (by simp)
                  · rw [if_neg c115] at H
                    have c115b0 : (t328 == 4) = false := beq_eq_false_iff_ne.mpr c115
                    have c115b1 : (t328 != 4) = true := bne_iff_ne.mpr c115
                    replace H := Option.bind_eq_some_iff.mp H
                    obtain ⟨⟨t347, t348, t349, t350⟩, A1310, H⟩ := H
                    replace H : (if x297003_1.length < 5864062014805 then (some (x297000_1, x297001_1, x297002_1, (x297003_1 ++ [(⟨wrap64 (x297001_1 + 31), 1, wrap64 (13 + t347)⟩ : S62)]), t348, t349, t350)) else (none)) = some (r1, r2, r3, r4, r5, r6, r7) := H
                    have A131 := Aside0.mk A1310
                    clear A1310
                    by_cases c132 : x297003_1.length < 5864062014805
                    · rw [if_pos c132] at H
                      have LMc132 := Aside0.mk c132
                      clear c132
                      obtain ⟨y351, hy351⟩ : ∃ y_ : List (S62), y_ = (x297003_1 ++ [(⟨wrap64 (x297001_1 + 31), 1, wrap64 (13 + t347)⟩ : S62)]) := ⟨_, rfl⟩
                      replace H : (some (x297000_1, x297001_1, x297002_1, y351, t348, t349, t350)) = some (r1, r2, r3, r4, r5, r6, r7) := by first | (rw [hy351]; with_reducible exact H) | (have H2_ := (Option.bind_some _ _).symm.trans H; rw [hy351]; with_reducible exact H2_) | (have H2_ := (Option.bind_some _ _).symm.trans H; with_reducible exact H2_) | with_reducible exact H | (rw [hy351]; exact H) | exact H
                      have Ny351 := Aside0.mk hy351
                      clear hy351
                      simp only [Option.some.injEq, Prod.mk.injEq] at H
                      obtain ⟨rfl, rfl, rfl, rfl, rfl, rfl, rfl⟩ := H
                      obtain ⟨Ao133, co133, eo133⟩ := Kd.R_slice HO_4.out
                      subst eo133
                      try go_wp2_with (first | (go_at_call 74; (with_reducible refine (spec_l01Src_one.calls g s0_0 x1001_1 x1002_1 x1003_1 12 true t325 t326 t327 w0 _ ?side1 ?side2 A69.out).mono ?_); (case side1 => exact au13_2); (case side2 => exact au13_3); rintro e w134 ⟨rfl, hi, hb, hk⟩; (try clear A69); have n0_ := Aside0.mk (Kd.R_mono (Kd.R_keep (IsS116.apart (show IsS116 w0 _ g s0_0 x1001_1 x1002_1 x1003_1 from by repeat (first | (with_reducible first | exact HI0.out | apply IsS116.alloc | apply IsS116.drewN | apply IsS116.drew | apply IsS116.set_1 | apply IsS116.set_2 | apply IsS116.set_3 | refine IsS116.far ?_ NB0_282.out _ | refine IsS116.far ?_ NB0_296.out _) | exact HI0.out)) (rk_ HO_4) (by decide)) hk (fun _ h => h.2)) (fun _ h => h.1)); have n1_ := Aside0.mk (Kd.R_mono (Kd.R_keep (IsS116.apart (show IsS116 w0 _ g s0_0 x1001_1 x1002_1 x1003_1 from by repeat (first | (with_reducible first | exact HI0.out | apply IsS116.alloc | apply IsS116.drewN | apply IsS116.drew | apply IsS116.set_1 | apply IsS116.set_2 | apply IsS116.set_3 | refine IsS116.far ?_ NB0_282.out _ | refine IsS116.far ?_ NB0_296.out _) | exact HI0.out)) (rk_ HO_297003) (by decide)) hk (fun _ h => h.2)) (fun _ h => h.1)); have n2_ := Aside0.mk (KeepBut.blk hk (g' := gb282) (o := .cells #[.string (⟨#[]⟩ : ByteArray), .int .i64 0, .int .i64 0, .slice none 0 0] 51 (0, 0)) (bk_ BK282) NB282_0.out (by simp)); have n3_ := Aside0.mk (KeepBut.blk hk (g' := gb296) (o := .cells #[.string x297000_1, .int .i64 x297001_1, .int .i64 x297002_1, u297003] 51 (0, 0)) (bk_ BK296) NB296_0.out (by simp)); have n4_ := Aside0.mk (KeepBut.trans au13_0 hk (.inl rfl)); have n5_ := Aside0.mk (hb); have n6_ := Aside0.mk (hi); clear HO_4; clear HO_297003; clear BK282; clear BK296; clear HK; clear HB; clear HI0; have HO_4 := n0_; have HO_297003 := n1_; have BK282 := n2_; have BK296 := n3_; have HK := n4_; have HB := n5_; have HI0 := n6_; clear n0_ n1_ n2_ n3_ n4_ n5_ n6_; (try clear hb); (try clear hb2); (try clear hk); (try clear hi)) | (go_at_call 101; (with_reducible refine (spec_l01Src_n.calls g s0_0 t325 t326 t327 6 t328 t329 t330 t331 w0 _ ?side1 ?side2 A71.out).mono ?_); (case side1 => exact au13_2); (case side2 => exact au13_3); rintro e w135 ⟨rfl, hi, hb, hk⟩; (try clear A71); have n0_ := Aside0.mk (Kd.R_mono (Kd.R_keep (IsS116.apart (show IsS116 w0 _ g s0_0 t325 t326 t327 from by repeat (first | (with_reducible first | exact HI0.out | apply IsS116.alloc | apply IsS116.drewN | apply IsS116.drew | apply IsS116.set_1 | apply IsS116.set_2 | apply IsS116.set_3 | refine IsS116.far ?_ NB0_282.out _ | refine IsS116.far ?_ NB0_296.out _) | exact HI0.out)) (rk_ HO_4) (by decide)) hk (fun _ h => h.2)) (fun _ h => h.1)); have n1_ := Aside0.mk (Kd.R_mono (Kd.R_keep (IsS116.apart (show IsS116 w0 _ g s0_0 t325 t326 t327 from by repeat (first | (with_reducible first | exact HI0.out | apply IsS116.alloc | apply IsS116.drewN | apply IsS116.drew | apply IsS116.set_1 | apply IsS116.set_2 | apply IsS116.set_3 | refine IsS116.far ?_ NB0_282.out _ | refine IsS116.far ?_ NB0_296.out _) | exact HI0.out)) (rk_ HO_297003) (by decide)) hk (fun _ h => h.2)) (fun _ h => h.1)); have n2_ := Aside0.mk (KeepBut.blk hk (g' := gb282) (o := .cells #[.string (⟨#[]⟩ : ByteArray), .int .i64 0, .int .i64 0, .slice none 0 0] 51 (0, 0)) (bk_ BK282) NB282_0.out (by simp)); have n3_ := Aside0.mk (KeepBut.blk hk (g' := gb296) (o := .cells #[.string x297000_1, .int .i64 x297001_1, .int .i64 x297002_1, u297003] 51 (0, 0)) (bk_ BK296) NB296_0.out (by simp)); have n4_ := Aside0.mk (KeepBut.trans au13_0 hk (.inl rfl)); have n5_ := Aside0.mk (hb); have n6_ := Aside0.mk (hi); clear HO_4; clear HO_297003; clear BK282; clear BK296; clear HK; clear HB; clear HI0; have HO_4 := n0_; have HO_297003 := n1_; have BK282 := n2_; have BK296 := n3_; have HK := n4_; have HB := n5_; have HI0 := n6_; clear n0_ n1_ n2_ n3_ n4_ n5_ n6_; (try clear hb); (try clear hb2); (try clear hk); (try clear hi)))
                      have n0_ := Aside0.mk (Kd.R_drew HO_4.out)
                      have n1_ := Aside0.mk (Kd.R_drew HO_297003.out)
                      have n2_ := Aside0.mk (blk_drew BK282.out)
                      have n3_ := Aside0.mk (blk_drew BK296.out)
                      have n4_ := Aside0.mk (IsS116.drew HI0.out)
                      have n5_ := Aside0.mk (keep_drew HK.out)
                      have n6_ := Aside0.mk (below_drew1 HB.out)
                      clear HO_4
                      clear HO_297003
                      clear BK282
                      clear BK296
                      clear HI0
                      clear HK
                      clear HB
                      have HO_4 := n0_
                      have HO_297003 := n1_
                      have BK282 := n2_
                      have BK296 := n3_
                      have HI0 := n4_
                      have HK := n5_
                      have HB := n6_
                      clear n0_ n1_ n2_ n3_ n4_ n5_ n6_
                      refine start_ (n := 13) (S := fun w' => w'.cell? ⟨gb296, 0, none⟩ = some (.string x297000_1) ∧ w'.cell? ⟨gb296, 1, none⟩ = some (.int .i64 x297001_1) ∧ w'.cell? ⟨gb296, 2, none⟩ = some (.int .i64 x297002_1) ∧ w'.cell? ⟨gb296, 3, none⟩ = some (u297003)) (ds := [12]) (bs 13 0) (by kernel_rfl) rfl rfl ⟨(blk_cell BK296.out 0).trans rfl, (blk_cell BK296.out 1).trans rfl, (blk_cell BK296.out 2).trans rfl, (blk_cell BK296.out 3).trans rfl⟩ (fun hHeld => ?_); refine with_tabW spec_l01Src_l07Partner.tab11 spec_l01Src_l07Partner.bits11 (fun HT_ HW_ => ?_)
                      generalize w135.drew = w136 at HO_4 HO_297003 BK282 BK296 HI0 HK HB hHeld ⊢
                      refine pu_ 0 38 (bs 13 1) HT_ ?_ rfl rfl
                      refine pu_ 2 40 (bs 13 5) HT_ ?_ rfl rfl
                      refine pu_ 5 43 (bs 13 37) HT_ ?_ rfl rfl
                      refine tk_ 1 39 (bs 13 39) HT_ HW_ hHeld au13_29 ?_ rfl rfl
                      refine tk_ 3 41 (bs 13 47) HT_ HW_ hHeld au13_29 ?_ rfl rfl
                      refine pu_ 4 42 (bs 13 63) HT_ ?_ rfl rfl
                      refine one_ (i := 6) (N := some 44) (bs 13 127) rfl rfl (one_of HT_.out (by kernel_rfl)) (by decide) (fun K hK => ?_)
                      refine gr_ Try.func101 #[.pointer (some ⟨g, 0, none⟩), .int .i64 2] (by rfl) ?_ rfl rfl rfl
                      with_reducible refine (spec_l01Src_n.calls g s0_0 t329 t330 t331 2 t347 t348 t349 t350 w0 _ ?side1 ?side2 A131.out).mono ?_
                      (case side1 => exact au13_2)
                      (case side2 => exact au13_3)
                      rintro e w137 ⟨rfl, hi, hb, hk⟩
                      refine ⟨_, rfl, ?_⟩
                      have n0_ := Aside0.mk (Kd.R_mono (Kd.R_keep (IsS116.apart (show IsS116 w0 _ g s0_0 t329 t330 t331 from by repeat (first | (with_reducible first | exact HI0.out | apply IsS116.alloc | apply IsS116.drewN | apply IsS116.drew | apply IsS116.set_1 | apply IsS116.set_2 | apply IsS116.set_3 | refine IsS116.far ?_ NB0_282.out _ | refine IsS116.far ?_ NB0_296.out _) | exact HI0.out)) (rk_ HO_4) (by decide)) hk (fun _ h => h.2)) (fun _ h => h.1))
                      have n1_ := Aside0.mk (Kd.R_mono (Kd.R_keep (IsS116.apart (show IsS116 w0 _ g s0_0 t329 t330 t331 from by repeat (first | (with_reducible first | exact HI0.out | apply IsS116.alloc | apply IsS116.drewN | apply IsS116.drew | apply IsS116.set_1 | apply IsS116.set_2 | apply IsS116.set_3 | refine IsS116.far ?_ NB0_282.out _ | refine IsS116.far ?_ NB0_296.out _) | exact HI0.out)) (rk_ HO_297003) (by decide)) hk (fun _ h => h.2)) (fun _ h => h.1))
                      have n2_ := Aside0.mk (KeepBut.blk hk (g' := gb282) (o := .cells #[.string (⟨#[]⟩ : ByteArray), .int .i64 0, .int .i64 0, .slice none 0 0] 51 (0, 0)) (bk_ BK282) NB282_0.out (by simp))
                      have n3_ := Aside0.mk (KeepBut.blk hk (g' := gb296) (o := .cells #[.string x297000_1, .int .i64 x297001_1, .int .i64 x297002_1, u297003] 51 (0, 0)) (bk_ BK296) NB296_0.out (by simp))
                      have n4_ := Aside0.mk (KeepBut.trans au13_0 hk (.inl rfl))
                      have n5_ := Aside0.mk (hb)
                      have n6_ := Aside0.mk (hi)
                      clear HO_4
                      clear HO_297003
                      clear BK282
                      clear BK296
                      clear HK
                      clear HB
                      clear HI0
                      have HO_4 := n0_
                      have HO_297003 := n1_
                      have BK282 := n2_
                      have BK296 := n3_
                      have HK := n4_
                      have HB := n5_
                      have HI0 := n6_
                      clear n0_ n1_ n2_ n3_ n4_ n5_ n6_
                      (try clear hb)
                      (try clear hb2)
                      (try clear hk)
                      (try clear hi)
                      refine hK.out _ _ ⟨(blk_cell BK296.out 0).trans rfl, (blk_cell BK296.out 1).trans rfl, (blk_cell BK296.out 2).trans rfl, (blk_cell BK296.out 3).trans rfl⟩ (fun hHeld => ?_)
                      clear hK K
                      refine norm_ (a' := ?_) ?_ ?_
                      rotate_left
                      · show Act.put _ (some 44) _ = _
                        simp only [Act.put, List.setIfInBounds_toArray, List.set_cons_zero, List.set_cons_succ, i64_w, i32_w]
                        rfl
                      refine pu_ 7 45 (bs 13 255) HT_ ?_ rfl rfl
                      refine pu_ 8 46 (bs 13 511) HT_ ?_ rfl rfl
                      refine one_ (i := 9) (N := some 47) (bs 13 1023) rfl rfl (one_of HT_.out (by kernel_rfl)) (by decide) (fun K hK => ?_)
                      refine value_ (w1 := ?_) (v := ?_) (by rfl) rfl ?_ ?_
                      rotate_left 2
                      · go_simp
                        constructor
                        · rfl
                        · rfl
                      refine hK.out _ _ ⟨(blk_cell (blk_alloc BK296.out _) 0).trans rfl, (blk_cell (blk_alloc BK296.out _) 1).trans rfl, (blk_cell (blk_alloc BK296.out _) 2).trans rfl, (blk_cell (blk_alloc BK296.out _) 3).trans rfl⟩ (fun hHeld => ?_)
                      clear hK K
                      refine norm_ (a' := ?_) ?_ ?_
                      rotate_left
                      · show Act.put _ (some 47) _ = _
                        simp only [Act.put, List.setIfInBounds_toArray, List.set_cons_zero, List.set_cons_succ, i64_w, i32_w]
                        rfl
                      refine one_ (i := 10) (N := some 48) (bs 13 2047) rfl rfl (one_of HT_.out (by kernel_rfl)) (by decide) (fun K hK => ?_)
                      refine Kd.R_append_step k62 w.heap.size (by rfl) (.tmp 39) (.tmp 47) 49 62 (.agg #[(.int .i64 0), (.int .i64 0), (.int .i64 0)]) 24 rfl Try.underlying49 info62 rfl (by decide) (by omega) u297003 x297003_1 (⟨wrap64 (x297001_1 + 31), 1, wrap64 (13 + t347)⟩ : S62) [.int .i64 (wrap64 (x297001_1 + 31)), .int .i64 1, .int .i64 (wrap64 (13 + t347))] (fun _ => True) (fun _ => False) rfl rfl ?aP (fun _ hk => hk.elim) ?aF ?aO (Below.refl _ _) ?aS ?aL ?_
                      (case aP => exact k62_mkM _ _ _ (⟨wrap64 (x297001_1 + 31), 1, wrap64 (13 + t347)⟩ : S62))
                      (case aF => exact (fun _ _ => trivial))
                      (case aO => exact (rk_ HO_297003))
                      (case aS => exact (keep_size (w := w) (g := g) (row := none) au13_0))
                      (case aL => have := LMc132.out; omega)
                      intro v352 w138 ho hb hg hat
                      rw [← Ny351.out] at ho
                      have n0_ := Aside0.mk (Kd.R_over' (rk_ HO_4) (Kd.R_typed (rk_ HO_297003)) (by decide) hg)
                      have n1_ := Aside0.mk (blk_grown (g := gb282) (o := .cells #[.string (⟨#[]⟩ : ByteArray), .int .i64 0, .int .i64 0, .slice none 0 0] 51 (0, 0)) (bk_ BK282) hg (Kd.R_ne HO_297003.out BK282.out (by decide)))
                      have n2_ := Aside0.mk (blk_grown (g := gb296) (o := .cells #[.string x297000_1, .int .i64 x297001_1, .int .i64 x297002_1, u297003] 51 (0, 0)) (bk_ BK296) hg (Kd.R_ne HO_297003.out BK296.out (by decide)))
                      have n3_ := Aside0.mk (IsS116.grown au13_6 hg (IsS116.own_ne HI0.out HO_297003.out (by decide)))
                      have n4_ := Aside0.mk (below_weaken au13_8 HL.out hb)
                      have n5_ := Aside0.mk (KeepBut.trans au13_0 (KeepBut.of_grown hg g) (Kd.R_base2 HO_297003.out))
                      have n6_ := Aside0.mk (ho)
                      clear HO_4
                      clear BK282
                      clear BK296
                      clear HI0
                      clear HB
                      clear HK
                      clear HO_297003
                      have HO_4 := n0_
                      have BK282 := n1_
                      have BK296 := n2_
                      have HI0 := n3_
                      have HB := n4_
                      have HK := n5_
                      have HO353 := n6_
                      clear n0_ n1_ n2_ n3_ n4_ n5_ n6_
                      clear ho hb hg hat
                      obtain ⟨Ao139, co139, eo139⟩ := Kd.R_slice HO353.out
                      (first | subst eo139 | (injection eo139 with f1_ f2_ f3_; have f4_ := f1_.symm; have f5_ := f3_.symm; clear f1_ f2_ f3_; subst f4_; subst f5_))
                      refine hK.out _ _ ⟨(blk_cell BK296.out 0).trans rfl, (blk_cell BK296.out 1).trans rfl, (blk_cell BK296.out 2).trans rfl, (blk_cell BK296.out 3).trans rfl⟩ (fun hHeld => ?_)
                      clear hK K
                      refine norm_ (a' := ?_) ?_ ?_
                      rotate_left
                      · show Act.put _ (some 48) _ = _
                        simp only [Act.put, List.setIfInBounds_toArray, List.set_cons_zero, List.set_cons_succ, i64_w, i32_w]
                        rfl
                      refine pu_ 11 49 (bs 13 4095) HT_ ?_ rfl rfl
                      refine last_ (i := 12) (N := none) (bs 13 8191) rfl rfl (one_of HT_.out (by kernel_rfl)) (by decide) (fun K hK => ?_)
                      have hs140 : w138.cell? ⟨gb296, 3, none⟩ = some (u297003) := (blk_cell BK296.out 3).trans rfl
                      have hfs140 := blk_frozen BK296.out 3
                      have hns140_0 := NB282_296.out
                      have hms140_0 := NB296_282.out
                      refine skip_ (w1 := ?_) (by rfl) rfl ?_ ?_
                      rotate_left
                      · go_simp
                        rfl
                      refine hK.out _ _ ?_
                      clear hK K
                      refine done_ (done_of HT_.out (by kernel_rfl)) ?_
                      have hnb141 := NB296_282.out
                      have hnc141 := NB282_296.out
                      have hnb142 := NB296_0.out
                      have hnc142 := NB0_296.out
                      obtain ⟨hcz143_0, hcz143_1, hcz143_2, hcz143_3, hfz143_0, hfz143_1, hfz143_2, hfz143_3⟩ := cellsF4 BK296.out
                      have hnb144 := NB282_0.out
                      have hnc144 := NB0_282.out
                      obtain ⟨hcz145_0, hcz145_1, hcz145_2, hcz145_3, hfz145_0, hfz145_1, hfz145_2, hfz145_3⟩ := cellsF4 BK282.out
                      try go_wp2
                      refine bodyPost_ret (results_cell_row rfl _ _ gb282 51 #[.string x297000_1, .int .i64 x297001_1, .int .i64 x297002_1, .slice Ao139 y351.length co139] (0, 0) _ rfl au13_13 Try.underlying51 rfl (by kernel_rfl)) rfl ?_
                      exact ⟨_, au13_18, by (with_reducible repeat (first | apply Kd.R_alloc | apply Kd.R_drewN | apply Kd.R_drew)); exact Kd.R_mono (Kd.R_far (p := ⟨gb282, 3, none⟩) (Kd.R_far (p := ⟨gb282, 2, none⟩) (Kd.R_far (p := ⟨gb282, 1, none⟩) (Kd.R_far (p := ⟨gb282, 0, none⟩) (Kd.R_far (p := ⟨gb296, 3, none⟩) (Kd.R_types (Kd.R_types HO353.out BK296.out (by decide)) BK282.out (by decide)) (fun _ hk => hk.1.2) (.slice Ao139 y351.length co139)) (fun _ hk => hk.2) (.string x297000_1)) (fun _ hk => hk.2) (.int .i64 x297001_1)) (fun _ hk => hk.2) (.int .i64 x297002_1)) (fun _ hk => hk.2) (.slice Ao139 y351.length co139)) (fun _ hk => trivial), au13_9, au13_10, au13_11⟩
                    · rw [if_neg c132] at H
                      exact absurd H (by simp)
        · replace c70 := Bool.eq_false_iff.mpr c70
          subst c70
          have H1 : (some (x297000_1, x297001_1, x297002_1, x297003_1, t325, t326, t327)) = some (r1, r2, r3, r4, r5, r6, r7) := by rw [if_neg (show ¬ (false = true) by decide)] at H; exact H
          clear H
          have H := H1
          clear H1
          simp only [Option.some.injEq, Prod.mk.injEq] at H
          obtain ⟨rfl, rfl, rfl, rfl, rfl, rfl, rfl⟩ := H
          obtain ⟨Ao146, co146, eo146⟩ := Kd.R_slice HO_4.out
          subst eo146
          go_wp2_with (first | (go_at_call 74; (with_reducible refine (spec_l01Src_one.calls g s0_0 x1001_1 x1002_1 x1003_1 12 false t325 t326 t327 w0 _ ?side1 ?side2 A69.out).mono ?_); (case side1 => exact au13_2); (case side2 => exact au13_3); rintro e w147 ⟨rfl, hi, hb, hk⟩; (try clear A69); have n0_ := Aside0.mk (Kd.R_mono (Kd.R_keep (IsS116.apart (show IsS116 w0 _ g s0_0 x1001_1 x1002_1 x1003_1 from by repeat (first | (with_reducible first | exact HI0.out | apply IsS116.alloc | apply IsS116.drewN | apply IsS116.drew | apply IsS116.set_1 | apply IsS116.set_2 | apply IsS116.set_3 | refine IsS116.far ?_ NB0_282.out _ | refine IsS116.far ?_ NB0_296.out _) | exact HI0.out)) (rk_ HO_4) (by decide)) hk (fun _ h => h.2)) (fun _ h => h.1)); have n1_ := Aside0.mk (Kd.R_mono (Kd.R_keep (IsS116.apart (show IsS116 w0 _ g s0_0 x1001_1 x1002_1 x1003_1 from by repeat (first | (with_reducible first | exact HI0.out | apply IsS116.alloc | apply IsS116.drewN | apply IsS116.drew | apply IsS116.set_1 | apply IsS116.set_2 | apply IsS116.set_3 | refine IsS116.far ?_ NB0_282.out _ | refine IsS116.far ?_ NB0_296.out _) | exact HI0.out)) (rk_ HO_297003) (by decide)) hk (fun _ h => h.2)) (fun _ h => h.1)); have n2_ := Aside0.mk (KeepBut.blk hk (g' := gb282) (o := .cells #[.string (⟨#[]⟩ : ByteArray), .int .i64 0, .int .i64 0, .slice none 0 0] 51 (0, 0)) (bk_ BK282) NB282_0.out (by simp)); have n3_ := Aside0.mk (KeepBut.blk hk (g' := gb296) (o := .cells #[.string x297000_1, .int .i64 x297001_1, .int .i64 x297002_1, u297003] 51 (0, 0)) (bk_ BK296) NB296_0.out (by simp)); have n4_ := Aside0.mk (KeepBut.trans au13_0 hk (.inl rfl)); have n5_ := Aside0.mk (hb); have n6_ := Aside0.mk (hi); clear HO_4; clear HO_297003; clear BK282; clear BK296; clear HK; clear HB; clear HI0; have HO_4 := n0_; have HO_297003 := n1_; have BK282 := n2_; have BK296 := n3_; have HK := n4_; have HB := n5_; have HI0 := n6_; clear n0_ n1_ n2_ n3_ n4_ n5_ n6_; (try clear hb); (try clear hb2); (try clear hk); (try clear hi); have hnb148 := NB296_282.out; have hnc148 := NB282_296.out; have hnb149 := NB296_0.out; have hnc149 := NB0_296.out; obtain ⟨hcz150_0, hcz150_1, hcz150_2, hcz150_3, hfz150_0, hfz150_1, hfz150_2, hfz150_3⟩ := cellsF4 BK296.out; have hnb151 := NB282_0.out; have hnc151 := NB0_282.out; obtain ⟨hcz152_0, hcz152_1, hcz152_2, hcz152_3, hfz152_0, hfz152_1, hfz152_2, hfz152_3⟩ := cellsF4 BK282.out; obtain ⟨Ao153, co153, eo153⟩ := Kd.R_slice HO_297003.out; subst eo153))
          refine bodyPost_ret (results_cell_row rfl _ _ gb282 51 #[.string x297000_1, .int .i64 x297001_1, .int .i64 x297002_1, .slice Ao153 x297003_1.length co153] (0, 0) _ rfl (by (with_reducible repeat (first | refine blk_drewN ?_ _ | refine blk_drew ?_ | refine blk_alloc ?_ _)); refine blk_put (cs := #[.string x297000_1, .int .i64 x297001_1, .int .i64 x297002_1, .slice none 0 0]) ?_ 3 _ rfl; (with_reducible repeat (first | refine blk_drewN ?_ _ | refine blk_drew ?_ | refine blk_alloc ?_ _)); refine blk_put (cs := #[.string x297000_1, .int .i64 x297001_1, .int .i64 0, .slice none 0 0]) ?_ 2 _ rfl; (with_reducible repeat (first | refine blk_drewN ?_ _ | refine blk_drew ?_ | refine blk_alloc ?_ _)); refine blk_put (cs := #[.string x297000_1, .int .i64 0, .int .i64 0, .slice none 0 0]) ?_ 1 _ rfl; (with_reducible repeat (first | refine blk_drewN ?_ _ | refine blk_drew ?_ | refine blk_alloc ?_ _)); refine blk_put (cs := #[.string (⟨#[]⟩ : ByteArray), .int .i64 0, .int .i64 0, .slice none 0 0]) ?_ 0 _ rfl; (with_reducible repeat (first | refine blk_drewN ?_ _ | refine blk_drew ?_ | refine blk_alloc ?_ _)); exact BK282.out) Try.underlying51 rfl (by kernel_rfl)) rfl ?_
          exact ⟨_, au13_18, by (with_reducible repeat (first | apply Kd.R_alloc | apply Kd.R_drewN | apply Kd.R_drew)); exact Kd.R_mono (Kd.R_far (p := ⟨gb282, 3, none⟩) (Kd.R_far (p := ⟨gb282, 2, none⟩) (Kd.R_far (p := ⟨gb282, 1, none⟩) (Kd.R_far (p := ⟨gb282, 0, none⟩) (Kd.R_types HO_297003.out BK282.out (by decide)) (fun _ hk => hk.2) (.string x297000_1)) (fun _ hk => hk.2) (.int .i64 x297001_1)) (fun _ hk => hk.2) (.int .i64 x297002_1)) (fun _ hk => hk.2) (.slice Ao153 x297003_1.length co153)) (fun _ hk => trivial), au13_9, au13_10, au13_11⟩

end Go.Proofs.Ytjffakoifpldeaa.PFnTakeOnce
