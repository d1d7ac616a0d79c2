-- printed by a program of this session (wip/xp/xprint.py) out of the translation; Lean checks it
import Derived.Test.YtkmpfgpamlfldaaPFnExactTableOfx0
namespace Go.Proofs.Ytkmpfgpamlfldaa.PFnExactTableOf
open Go.RowKit Go.Proofs.YtkmpfgpamlfldaaW.PrintWords Go.Proofs.YtkmpfgpamlfldaaW.PrintLast Go.Proofs.YtkmpfgpamlfldaaW.PrintMore
attribute [local go_sem] max2_int min2_int max_two min_two max_three min_three max_four min_four   -- for this text's walks alone
set_option linter.unusedVariables false
set_option linter.unusedSimpArgs false

/-! ### spec_TableOf: function 32 -/
def spec_TableOf.j0 : Nat → Int → Bool → ByteArray → Int → Int → ByteArray → ByteArray → Int → Int → ByteArray → ByteArray → Int → Int → ByteArray → Option ((List (S76)))
  | 0, _, _, _, _, _, _, _, _, _, _, _, _, _, _ => none
  | k + 1, x9, x16, x102000, x102001, x102002, x102003, x103000, x103001, x103002, x103003, x104000, x104001, x104002, x104003 => if x16 = true then (some (([(⟨x103000, x103001, x103002, x103003⟩ : S76), (⟨(⟨#[76, 73, 78]⟩ : ByteArray), 1, 20, (⟨#[110, 113, 63, 116]⟩ : ByteArray)⟩ : S76)] : List (S76)))) else (if x9 = 3 then (some (([(⟨x103000, x103001, x103002, x103003⟩ : S76), (⟨x104000, x104001, x104002, x104003⟩ : S76), (⟨(⟨#[76, 73, 78]⟩ : ByteArray), 1, 20, (⟨#[110, 113]⟩ : ByteArray)⟩ : S76)] : List (S76)))) else (if x9 = 5 then (some (([(⟨x102000, x102001, x102002, x102003⟩ : S76), (⟨(⟨#[73, 84, 77]⟩ : ByteArray), 1, 20, (⟨#[114, 110]⟩ : ByteArray)⟩ : S76)] : List (S76)))) else (if x9 = 6 then (some (([(⟨x102000, x102001, x102002, x102003⟩ : S76), (⟨(⟨#[73, 84, 77]⟩ : ByteArray), 1, 20, (⟨#[114, 122, 63, 116]⟩ : ByteArray)⟩ : S76)] : List (S76)))) else (if x9 = 7 then (some (([(⟨x102000, x102001, x102002, x102003⟩ : S76), (⟨(⟨#[65, 67, 75]⟩ : ByteArray), 1, 1, (⟨#[110, 110, 63, 110]⟩ : ByteArray)⟩ : S76)] : List (S76)))) else (some (([] : List (S76))))))))
def spec_TableOf.f (k : Nat) (a0 : Int) : Option ((List (S76))) := if a0 = 1 then (some (([(⟨(⟨#[68, 79, 67]⟩ : ByteArray), 1, 1, (⟨#[114, 100]⟩ : ByteArray)⟩ : S76), (⟨(⟨#[78, 79, 84]⟩ : ByteArray), 0, 2, (⟨#[116]⟩ : ByteArray)⟩ : S76), (⟨(⟨#[76, 73, 78]⟩ : ByteArray), 1, 20, (⟨#[110, 114, 113, 63, 110]⟩ : ByteArray)⟩ : S76)] : List (S76)))) else (if a0 = 2 then (spec_TableOf.j0 k a0 (a0 == 2) (⟨#[68, 79, 67]⟩ : ByteArray) 1 1 (⟨#[114, 100]⟩ : ByteArray) (⟨#[68, 79, 67]⟩ : ByteArray) 1 1 (⟨#[114, 114, 100]⟩ : ByteArray) (⟨#[78, 79, 84]⟩ : ByteArray) 0 2 (⟨#[116]⟩ : ByteArray)) else (spec_TableOf.j0 k a0 (a0 == 4) (⟨#[68, 79, 67]⟩ : ByteArray) 1 1 (⟨#[114, 100]⟩ : ByteArray) (⟨#[68, 79, 67]⟩ : ByteArray) 1 1 (⟨#[114, 114, 100]⟩ : ByteArray) (⟨#[78, 79, 84]⟩ : ByteArray) 0 2 (⟨#[116]⟩ : ByteArray)))
theorem spec_TableOf.mono_l : ∀ k, (∀ y0 y1 y2 y3 y4 y5 y6 y7 y8 y9 y10 y11 y12 y13, LeO (spec_TableOf.j0 k y0 y1 y2 y3 y4 y5 y6 y7 y8 y9 y10 y11 y12 y13) (spec_TableOf.j0 (k + 1) y0 y1 y2 y3 y4 y5 y6 y7 y8 y9 y10 y11 y12 y13))
  | 0 => fun _ _ _ _ _ _ _ _ _ _ _ _ _ _ r h => by simp [spec_TableOf.j0] at h
  | k + 1 => by
    have ih0 := spec_TableOf.mono_l k
    · intro y0 y1 y2 y3 y4 y5 y6 y7 y8 y9 y10 y11 y12 y13
      unfold spec_TableOf.j0
      repeat' first
      | (with_reducible exact ih0 _ _ _ _ _ _ _ _ _ _ _ _ _ _)
      | (with_reducible exact LeO.refl _)
      | (with_reducible exact LeO.none _)
      | (with_reducible refine LeO.ite ?_ ?_)
      | (with_reducible refine LeO.bind ?_ (fun _ => ?_))
      | exact ih0 _ _ _ _ _ _ _ _ _ _ _ _ _ _
      | exact LeO.none _
      | refine LeO.ite ?_ ?_
      | refine LeO.bind ?_ (fun _ => ?_)
theorem spec_TableOf.mono : ∀ a0 k, LeO (spec_TableOf.f k a0) (spec_TableOf.f (k + 1) a0) := by
  intro a0 k
  have ih0 := spec_TableOf.mono_l k
  unfold spec_TableOf.f
  repeat' first
      | (with_reducible exact ih0 _ _ _ _ _ _ _ _ _ _ _ _ _ _)
      | (with_reducible exact LeO.refl _)
      | (with_reducible exact LeO.none _)
      | (with_reducible refine LeO.ite ?_ ?_)
      | (with_reducible refine LeO.bind ?_ (fun _ => ?_))
      | exact ih0 _ _ _ _ _ _ _ _ _ _ _ _ _ _
      | exact LeO.none _
      | refine LeO.ite ?_ ?_
      | refine LeO.bind ?_ (fun _ => ?_)
set_option maxHeartbeats 8000000 in
set_option maxRecDepth 100000 in
theorem spec_TableOf.calls (k : Nat) (a0 : Int) (r : List (S76)) (w : World) (h : spec_TableOf.f k a0 = some r) :
    Calls Try.prog 32 #[.int .i64 a0] w fun e w' => ∃ v0_ : Value, e = .returned (v0_) ∧ Kd.R k76 76 w' w.heap.size (fun _ => True) v0_ r ∧ Below w.heap.size w w' := by
  have hu76 := Try.underlying76
  have HB := Aside0.mk (Below.refl w.heap.size w)
  have H : (if a0 = 1 then (some (([(⟨(⟨#[68, 79, 67]⟩ : ByteArray), 1, 1, (⟨#[114, 100]⟩ : ByteArray)⟩ : S76), (⟨(⟨#[78, 79, 84]⟩ : ByteArray), 0, 2, (⟨#[116]⟩ : ByteArray)⟩ : S76), (⟨(⟨#[76, 73, 78]⟩ : ByteArray), 1, 20, (⟨#[110, 114, 113, 63, 110]⟩ : ByteArray)⟩ : S76)] : List (S76)))) else (if a0 = 2 then (spec_TableOf.j0 k a0 (a0 == 2) (⟨#[68, 79, 67]⟩ : ByteArray) 1 1 (⟨#[114, 100]⟩ : ByteArray) (⟨#[68, 79, 67]⟩ : ByteArray) 1 1 (⟨#[114, 114, 100]⟩ : ByteArray) (⟨#[78, 79, 84]⟩ : ByteArray) 0 2 (⟨#[116]⟩ : ByteArray)) else (spec_TableOf.j0 k a0 (a0 == 4) (⟨#[68, 79, 67]⟩ : ByteArray) 1 1 (⟨#[114, 100]⟩ : ByteArray) (⟨#[68, 79, 67]⟩ : ByteArray) 1 1 (⟨#[114, 114, 100]⟩ : ByteArray) (⟨#[78, 79, 84]⟩ : ByteArray) 0 2 (⟨#[116]⟩ : ByteArray)))) = some r := h
  clear h
  by_cases c2 : a0 = 1
  · rw [if_pos c2] at H
    have c2b0 : (a0 == 1) = true := beq_iff_eq.mpr c2
    have c2b1 : (a0 != 1) = false := bne_eq_false_iff_eq.mpr c2
    clear c2
    obtain ⟨y104, hy104⟩ : ∃ y_ : List (S76), y_ = (([(⟨(⟨#[68, 79, 67]⟩ : ByteArray), 1, 1, (⟨#[114, 100]⟩ : ByteArray)⟩ : S76), (⟨(⟨#[78, 79, 84]⟩ : ByteArray), 0, 2, (⟨#[116]⟩ : ByteArray)⟩ : S76), (⟨(⟨#[76, 73, 78]⟩ : ByteArray), 1, 20, (⟨#[110, 114, 113, 63, 110]⟩ : ByteArray)⟩ : S76)] : List (S76))) := ⟨_, rfl⟩
    replace H : (some y104) = some r := by first | (rw [hy104]; with_reducible exact H) | (have H2_ := (Option.bind_some _ _).symm.trans H; rw [hy104]; with_reducible exact H2_) | (have H2_ := (Option.bind_some _ _).symm.trans H; with_reducible exact H2_) | with_reducible exact H | (rw [hy104]; exact H) | exact H
    have Ny104 := Aside0.mk hy104
    clear hy104
    obtain rfl := Option.some.inj H
    go_enter Try.func32, Try.ntmps32
    go_wp2_with (first | ((with_reducible refine gate_dst (N := 3) rfl ?_); refine box_event ?hg (N := 3) ?hd (cs := #[.string (⟨#[]⟩ : ByteArray), .int .i64 0, .int .i64 0, .string (⟨#[]⟩ : ByteArray)]) (t := 76) ?hr ?_; (case hd => rfl); (case hg => rfl); (case hr => first | (go_simp; done) | (go_simp; rfl)); intro gb101 hg w3 hbox hb; have n0_ := Aside0.mk (below_step (by repeat (first | (with_reducible first | exact HB.out | apply below_alloc | apply pw_below_drewN | apply below_drew1) | exact HB.out)) hb); have n1_ := Aside0.mk (hbox); have n2_ := Aside0.mk ((by rw [hg]; exact (below_size (by repeat (first | (with_reducible first | exact HB.out | apply below_alloc | apply pw_below_drewN | apply below_drew1) | exact HB.out))) : w.heap.size ≤ gb101)); have n3_ := Aside0.mk ((by rw [hg]; exact (below_size (by repeat (first | (with_reducible first | exact HB.out | apply below_alloc | apply pw_below_drewN | apply below_drew1) | exact HB.out))) : w.heap.size ≤ gb101)); clear HB; have HB := n0_; have BK101 := n1_; have GW101 := n2_; have GE101 := n3_; clear n0_ n1_ n2_ n3_; clear hb hbox hg; have hcz4_0 : w3.cell? ⟨gb101, 0, none⟩ = some (.string (⟨#[]⟩ : ByteArray)) := (blk_cell BK101.out 0).trans rfl; have hcz4_1 : w3.cell? ⟨gb101, 1, none⟩ = some (.int .i64 0) := (blk_cell BK101.out 1).trans rfl; have hcz4_2 : w3.cell? ⟨gb101, 2, none⟩ = some (.int .i64 0) := (blk_cell BK101.out 2).trans rfl; have hcz4_3 : w3.cell? ⟨gb101, 3, none⟩ = some (.string (⟨#[]⟩ : ByteArray)) := (blk_cell BK101.out 3).trans rfl; have hfz4_0 := blk_frozen BK101.out 0; have hfz4_1 := blk_frozen BK101.out 1; have hfz4_2 := blk_frozen BK101.out 2; have hfz4_3 := blk_frozen BK101.out 3) | ((with_reducible refine gate_dst (N := 4) rfl ?_); refine box_event ?hg (N := 4) ?hd (cs := #[.string (⟨#[]⟩ : ByteArray), .int .i64 0, .int .i64 0, .string (⟨#[]⟩ : ByteArray)]) (t := 76) ?hr ?_; (case hd => rfl); (case hg => rfl); (case hr => first | (go_simp; done) | (go_simp; rfl)); intro gb102 hg w5 hbox hb; have n0_ := Aside0.mk (blk_below (g := gb101) (o := .cells #[.string (⟨#[68, 79, 67]⟩ : ByteArray), .int .i64 1, .int .i64 1, .string (⟨#[114, 100]⟩ : ByteArray)] 76 (0, 0)) (by (with_reducible repeat (first | refine blk_drewN ?_ _ | refine blk_drew ?_ | refine blk_alloc ?_ _)); refine blk_put (cs := #[.string (⟨#[68, 79, 67]⟩ : ByteArray), .int .i64 1, .int .i64 1, .string (⟨#[]⟩ : ByteArray)]) ?_ 3 _ rfl; (with_reducible repeat (first | refine blk_drewN ?_ _ | refine blk_drew ?_ | refine blk_alloc ?_ _)); refine blk_put (cs := #[.string (⟨#[68, 79, 67]⟩ : ByteArray), .int .i64 1, .int .i64 0, .string (⟨#[]⟩ : ByteArray)]) ?_ 2 _ rfl; (with_reducible repeat (first | refine blk_drewN ?_ _ | refine blk_drew ?_ | refine blk_alloc ?_ _)); refine blk_put (cs := #[.string (⟨#[68, 79, 67]⟩ : ByteArray), .int .i64 0, .int .i64 0, .string (⟨#[]⟩ : ByteArray)]) ?_ 1 _ rfl; (with_reducible repeat (first | refine blk_drewN ?_ _ | refine blk_drew ?_ | refine blk_alloc ?_ _)); refine blk_put (cs := #[.string (⟨#[]⟩ : ByteArray), .int .i64 0, .int .i64 0, .string (⟨#[]⟩ : ByteArray)]) ?_ 0 _ rfl; (with_reducible repeat (first | refine blk_drewN ?_ _ | refine blk_drew ?_ | refine blk_alloc ?_ _)); exact BK101.out) hb); have n1_ := Aside0.mk (below_step (by repeat (first | (with_reducible first | exact HB.out | apply below_alloc | apply pw_below_drewN | apply below_drew1 | refine below_set ?_ GE101.out) | exact HB.out)) hb); have n2_ := Aside0.mk (hbox); have n3_ := Aside0.mk ((by rw [hg]; exact (below_size (by repeat (first | (with_reducible first | exact HB.out | apply below_alloc | apply pw_below_drewN | apply below_drew1 | refine below_set ?_ GE101.out) | exact HB.out))) : w.heap.size ≤ gb102)); have n4_ := Aside0.mk ((by rw [hg]; exact (below_size (by repeat (first | (with_reducible first | exact HB.out | apply below_alloc | apply pw_below_drewN | apply below_drew1 | refine below_set ?_ GE101.out) | exact HB.out))) : w.heap.size ≤ gb102)); have n5_ := Aside0.mk ((by rw [hg]; exact Nat.ne_of_lt (blk_lt (g := gb101) (o := .cells #[.string (⟨#[68, 79, 67]⟩ : ByteArray), .int .i64 1, .int .i64 1, .string (⟨#[114, 100]⟩ : ByteArray)] 76 (0, 0)) (by (with_reducible repeat (first | refine blk_drewN ?_ _ | refine blk_drew ?_ | refine blk_alloc ?_ _)); refine blk_put (cs := #[.string (⟨#[68, 79, 67]⟩ : ByteArray), .int .i64 1, .int .i64 1, .string (⟨#[]⟩ : ByteArray)]) ?_ 3 _ rfl; (with_reducible repeat (first | refine blk_drewN ?_ _ | refine blk_drew ?_ | refine blk_alloc ?_ _)); refine blk_put (cs := #[.string (⟨#[68, 79, 67]⟩ : ByteArray), .int .i64 1, .int .i64 0, .string (⟨#[]⟩ : ByteArray)]) ?_ 2 _ rfl; (with_reducible repeat (first | refine blk_drewN ?_ _ | refine blk_drew ?_ | refine blk_alloc ?_ _)); refine blk_put (cs := #[.string (⟨#[68, 79, 67]⟩ : ByteArray), .int .i64 0, .int .i64 0, .string (⟨#[]⟩ : ByteArray)]) ?_ 1 _ rfl; (with_reducible repeat (first | refine blk_drewN ?_ _ | refine blk_drew ?_ | refine blk_alloc ?_ _)); refine blk_put (cs := #[.string (⟨#[]⟩ : ByteArray), .int .i64 0, .int .i64 0, .string (⟨#[]⟩ : ByteArray)]) ?_ 0 _ rfl; (with_reducible repeat (first | refine blk_drewN ?_ _ | refine blk_drew ?_ | refine blk_alloc ?_ _)); exact BK101.out)) : gb101 ≠ gb102)); have n6_ := Aside0.mk ((by rw [hg]; exact Nat.ne_of_gt (blk_lt (g := gb101) (o := .cells #[.string (⟨#[68, 79, 67]⟩ : ByteArray), .int .i64 1, .int .i64 1, .string (⟨#[114, 100]⟩ : ByteArray)] 76 (0, 0)) (by (with_reducible repeat (first | refine blk_drewN ?_ _ | refine blk_drew ?_ | refine blk_alloc ?_ _)); refine blk_put (cs := #[.string (⟨#[68, 79, 67]⟩ : ByteArray), .int .i64 1, .int .i64 1, .string (⟨#[]⟩ : ByteArray)]) ?_ 3 _ rfl; (with_reducible repeat (first | refine blk_drewN ?_ _ | refine blk_drew ?_ | refine blk_alloc ?_ _)); refine blk_put (cs := #[.string (⟨#[68, 79, 67]⟩ : ByteArray), .int .i64 1, .int .i64 0, .string (⟨#[]⟩ : ByteArray)]) ?_ 2 _ rfl; (with_reducible repeat (first | refine blk_drewN ?_ _ | refine blk_drew ?_ | refine blk_alloc ?_ _)); refine blk_put (cs := #[.string (⟨#[68, 79, 67]⟩ : ByteArray), .int .i64 0, .int .i64 0, .string (⟨#[]⟩ : ByteArray)]) ?_ 1 _ rfl; (with_reducible repeat (first | refine blk_drewN ?_ _ | refine blk_drew ?_ | refine blk_alloc ?_ _)); refine blk_put (cs := #[.string (⟨#[]⟩ : ByteArray), .int .i64 0, .int .i64 0, .string (⟨#[]⟩ : ByteArray)]) ?_ 0 _ rfl; (with_reducible repeat (first | refine blk_drewN ?_ _ | refine blk_drew ?_ | refine blk_alloc ?_ _)); exact BK101.out)) : gb102 ≠ gb101)); clear BK101; clear HB; have BK101 := n0_; have HB := n1_; have BK102 := n2_; have GW102 := n3_; have GE102 := n4_; have NB101_102 := n5_; have NB102_101 := n6_; clear n0_ n1_ n2_ n3_ n4_ n5_ n6_; clear hb hbox hg; have hnb6 := NB102_101.out; have hnc6 := NB101_102.out; have hcz7_0 : w5.cell? ⟨gb102, 0, none⟩ = some (.string (⟨#[]⟩ : ByteArray)) := (blk_cell BK102.out 0).trans rfl; have hcz7_1 : w5.cell? ⟨gb102, 1, none⟩ = some (.int .i64 0) := (blk_cell BK102.out 1).trans rfl; have hcz7_2 : w5.cell? ⟨gb102, 2, none⟩ = some (.int .i64 0) := (blk_cell BK102.out 2).trans rfl; have hcz7_3 : w5.cell? ⟨gb102, 3, none⟩ = some (.string (⟨#[]⟩ : ByteArray)) := (blk_cell BK102.out 3).trans rfl; have hfz7_0 := blk_frozen BK102.out 0; have hfz7_1 := blk_frozen BK102.out 1; have hfz7_2 := blk_frozen BK102.out 2; have hfz7_3 := blk_frozen BK102.out 3) | ((with_reducible refine gate_dst (N := 5) rfl ?_); refine box_event ?hg (N := 5) ?hd (cs := #[.string (⟨#[]⟩ : ByteArray), .int .i64 0, .int .i64 0, .string (⟨#[]⟩ : ByteArray)]) (t := 76) ?hr ?_; (case hd => rfl); (case hg => rfl); (case hr => first | (go_simp; done) | (go_simp; rfl)); intro gb103 hg w8 hbox hb; have n0_ := Aside0.mk (blk_below (g := gb101) (o := .cells #[.string (⟨#[68, 79, 67]⟩ : ByteArray), .int .i64 1, .int .i64 1, .string (⟨#[114, 100]⟩ : ByteArray)] 76 (0, 0)) (by (with_reducible repeat (first | refine blk_drewN ?_ _ | refine blk_drew ?_ | refine blk_alloc ?_ _)); refine blk_far ?_ NB101_102.out _; (with_reducible repeat (first | refine blk_drewN ?_ _ | refine blk_drew ?_ | refine blk_alloc ?_ _)); refine blk_far ?_ NB101_102.out _; (with_reducible repeat (first | refine blk_drewN ?_ _ | refine blk_drew ?_ | refine blk_alloc ?_ _)); refine blk_far ?_ NB101_102.out _; (with_reducible repeat (first | refine blk_drewN ?_ _ | refine blk_drew ?_ | refine blk_alloc ?_ _)); refine blk_far ?_ NB101_102.out _; (with_reducible repeat (first | refine blk_drewN ?_ _ | refine blk_drew ?_ | refine blk_alloc ?_ _)); exact BK101.out) hb); have n1_ := Aside0.mk (blk_below (g := gb102) (o := .cells #[.string (⟨#[68, 79, 67]⟩ : ByteArray), .int .i64 1, .int .i64 1, .string (⟨#[114, 114, 100]⟩ : ByteArray)] 76 (0, 0)) (by (with_reducible repeat (first | refine blk_drewN ?_ _ | refine blk_drew ?_ | refine blk_alloc ?_ _)); refine blk_put (cs := #[.string (⟨#[68, 79, 67]⟩ : ByteArray), .int .i64 1, .int .i64 1, .string (⟨#[]⟩ : ByteArray)]) ?_ 3 _ rfl; (with_reducible repeat (first | refine blk_drewN ?_ _ | refine blk_drew ?_ | refine blk_alloc ?_ _)); refine blk_put (cs := #[.string (⟨#[68, 79, 67]⟩ : ByteArray), .int .i64 1, .int .i64 0, .string (⟨#[]⟩ : ByteArray)]) ?_ 2 _ rfl; (with_reducible repeat (first | refine blk_drewN ?_ _ | refine blk_drew ?_ | refine blk_alloc ?_ _)); refine blk_put (cs := #[.string (⟨#[68, 79, 67]⟩ : ByteArray), .int .i64 0, .int .i64 0, .string (⟨#[]⟩ : ByteArray)]) ?_ 1 _ rfl; (with_reducible repeat (first | refine blk_drewN ?_ _ | refine blk_drew ?_ | refine blk_alloc ?_ _)); refine blk_put (cs := #[.string (⟨#[]⟩ : ByteArray), .int .i64 0, .int .i64 0, .string (⟨#[]⟩ : ByteArray)]) ?_ 0 _ rfl; (with_reducible repeat (first | refine blk_drewN ?_ _ | refine blk_drew ?_ | refine blk_alloc ?_ _)); exact BK102.out) hb); have n2_ := Aside0.mk (below_step (by repeat (first | (with_reducible first | exact HB.out | apply below_alloc | apply pw_below_drewN | apply below_drew1 | refine below_set ?_ GE101.out | refine below_set ?_ GE102.out) | exact HB.out)) hb); have n3_ := Aside0.mk (hbox); have n4_ := Aside0.mk ((by rw [hg]; exact (below_size (by repeat (first | (with_reducible first | exact HB.out | apply below_alloc | apply pw_below_drewN | apply below_drew1 | refine below_set ?_ GE101.out | refine below_set ?_ GE102.out) | exact HB.out))) : w.heap.size ≤ gb103)); have n5_ := Aside0.mk ((by rw [hg]; exact (below_size (by repeat (first | (with_reducible first | exact HB.out | apply below_alloc | apply pw_below_drewN | apply below_drew1 | refine below_set ?_ GE101.out | refine below_set ?_ GE102.out) | exact HB.out))) : w.heap.size ≤ gb103)); have n6_ := Aside0.mk ((by rw [hg]; exact Nat.ne_of_lt (blk_lt (g := gb101) (o := .cells #[.string (⟨#[68, 79, 67]⟩ : ByteArray), .int .i64 1, .int .i64 1, .string (⟨#[114, 100]⟩ : ByteArray)] 76 (0, 0)) (by (with_reducible repeat (first | refine blk_drewN ?_ _ | refine blk_drew ?_ | refine blk_alloc ?_ _)); refine blk_far ?_ NB101_102.out _; (with_reducible repeat (first | refine blk_drewN ?_ _ | refine blk_drew ?_ | refine blk_alloc ?_ _)); refine blk_far ?_ NB101_102.out _; (with_reducible repeat (first | refine blk_drewN ?_ _ | refine blk_drew ?_ | refine blk_alloc ?_ _)); refine blk_far ?_ NB101_102.out _; (with_reducible repeat (first | refine blk_drewN ?_ _ | refine blk_drew ?_ | refine blk_alloc ?_ _)); refine blk_far ?_ NB101_102.out _; (with_reducible repeat (first | refine blk_drewN ?_ _ | refine blk_drew ?_ | refine blk_alloc ?_ _)); exact BK101.out)) : gb101 ≠ gb103)); have n7_ := Aside0.mk ((by rw [hg]; exact Nat.ne_of_gt (blk_lt (g := gb101) (o := .cells #[.string (⟨#[68, 79, 67]⟩ : ByteArray), .int .i64 1, .int .i64 1, .string (⟨#[114, 100]⟩ : ByteArray)] 76 (0, 0)) (by (with_reducible repeat (first | refine blk_drewN ?_ _ | refine blk_drew ?_ | refine blk_alloc ?_ _)); refine blk_far ?_ NB101_102.out _; (with_reducible repeat (first | refine blk_drewN ?_ _ | refine blk_drew ?_ | refine blk_alloc ?_ _)); refine blk_far ?_ NB101_102.out _; (with_reducible repeat (first | refine blk_drewN ?_ _ | refine blk_drew ?_ | refine blk_alloc ?_ _)); refine blk_far ?_ NB101_102.out _; (with_reducible repeat (first | refine blk_drewN ?_ _ | refine blk_drew ?_ | refine blk_alloc ?_ _)); refine blk_far ?_ NB101_102.out _; (with_reducible repeat (first | refine blk_drewN ?_ _ | refine blk_drew ?_ | refine blk_alloc ?_ _)); exact BK101.out)) : gb103 ≠ gb101)); have n8_ := Aside0.mk ((by rw [hg]; exact Nat.ne_of_lt (blk_lt (g := gb102) (o := .cells #[.string (⟨#[68, 79, 67]⟩ : ByteArray), .int .i64 1, .int .i64 1, .string (⟨#[114, 114, 100]⟩ : ByteArray)] 76 (0, 0)) (by (with_reducible repeat (first | refine blk_drewN ?_ _ | refine blk_drew ?_ | refine blk_alloc ?_ _)); refine blk_put (cs := #[.string (⟨#[68, 79, 67]⟩ : ByteArray), .int .i64 1, .int .i64 1, .string (⟨#[]⟩ : ByteArray)]) ?_ 3 _ rfl; (with_reducible repeat (first | refine blk_drewN ?_ _ | refine blk_drew ?_ | refine blk_alloc ?_ _)); refine blk_put (cs := #[.string (⟨#[68, 79, 67]⟩ : ByteArray), .int .i64 1, .int .i64 0, .string (⟨#[]⟩ : ByteArray)]) ?_ 2 _ rfl; (with_reducible repeat (first | refine blk_drewN ?_ _ | refine blk_drew ?_ | refine blk_alloc ?_ _)); refine blk_put (cs := #[.string (⟨#[68, 79, 67]⟩ : ByteArray), .int .i64 0, .int .i64 0, .string (⟨#[]⟩ : ByteArray)]) ?_ 1 _ rfl; (with_reducible repeat (first | refine blk_drewN ?_ _ | refine blk_drew ?_ | refine blk_alloc ?_ _)); refine blk_put (cs := #[.string (⟨#[]⟩ : ByteArray), .int .i64 0, .int .i64 0, .string (⟨#[]⟩ : ByteArray)]) ?_ 0 _ rfl; (with_reducible repeat (first | refine blk_drewN ?_ _ | refine blk_drew ?_ | refine blk_alloc ?_ _)); exact BK102.out)) : gb102 ≠ gb103)); have n9_ := Aside0.mk ((by rw [hg]; exact Nat.ne_of_gt (blk_lt (g := gb102) (o := .cells #[.string (⟨#[68, 79, 67]⟩ : ByteArray), .int .i64 1, .int .i64 1, .string (⟨#[114, 114, 100]⟩ : ByteArray)] 76 (0, 0)) (by (with_reducible repeat (first | refine blk_drewN ?_ _ | refine blk_drew ?_ | refine blk_alloc ?_ _)); refine blk_put (cs := #[.string (⟨#[68, 79, 67]⟩ : ByteArray), .int .i64 1, .int .i64 1, .string (⟨#[]⟩ : ByteArray)]) ?_ 3 _ rfl; (with_reducible repeat (first | refine blk_drewN ?_ _ | refine blk_drew ?_ | refine blk_alloc ?_ _)); refine blk_put (cs := #[.string (⟨#[68, 79, 67]⟩ : ByteArray), .int .i64 1, .int .i64 0, .string (⟨#[]⟩ : ByteArray)]) ?_ 2 _ rfl; (with_reducible repeat (first | refine blk_drewN ?_ _ | refine blk_drew ?_ | refine blk_alloc ?_ _)); refine blk_put (cs := #[.string (⟨#[68, 79, 67]⟩ : ByteArray), .int .i64 0, .int .i64 0, .string (⟨#[]⟩ : ByteArray)]) ?_ 1 _ rfl; (with_reducible repeat (first | refine blk_drewN ?_ _ | refine blk_drew ?_ | refine blk_alloc ?_ _)); refine blk_put (cs := #[.string (⟨#[]⟩ : ByteArray), .int .i64 0, .int .i64 0, .string (⟨#[]⟩ : ByteArray)]) ?_ 0 _ rfl; (with_reducible repeat (first | refine blk_drewN ?_ _ | refine blk_drew ?_ | refine blk_alloc ?_ _)); exact BK102.out)) : gb103 ≠ gb102)); clear BK101; clear BK102; clear HB; have BK101 := n0_; have BK102 := n1_; have HB := n2_; have BK103 := n3_; have GW103 := n4_; have GE103 := n5_; have NB101_103 := n6_; have NB103_101 := n7_; have NB102_103 := n8_; have NB103_102 := n9_; clear n0_ n1_ n2_ n3_ n4_ n5_ n6_ n7_ n8_ n9_; clear hb hbox hg; have hnb9 := NB103_101.out; have hnc9 := NB101_103.out; have hnb10 := NB103_102.out; have hnc10 := NB102_103.out; have hcz11_0 : w8.cell? ⟨gb103, 0, none⟩ = some (.string (⟨#[]⟩ : ByteArray)) := (blk_cell BK103.out 0).trans rfl; have hcz11_1 : w8.cell? ⟨gb103, 1, none⟩ = some (.int .i64 0) := (blk_cell BK103.out 1).trans rfl; have hcz11_2 : w8.cell? ⟨gb103, 2, none⟩ = some (.int .i64 0) := (blk_cell BK103.out 2).trans rfl; have hcz11_3 : w8.cell? ⟨gb103, 3, none⟩ = some (.string (⟨#[]⟩ : ByteArray)) := (blk_cell BK103.out 3).trans rfl; have hfz11_0 := blk_frozen BK103.out 0; have hfz11_1 := blk_frozen BK103.out 1; have hfz11_2 := blk_frozen BK103.out 2; have hfz11_3 := blk_frozen BK103.out 3; have hcz12_0 : w8.cell? ⟨gb101, 0, none⟩ = some (.string (⟨#[68, 79, 67]⟩ : ByteArray)) := (blk_cell BK101.out 0).trans rfl; have hcz12_1 : w8.cell? ⟨gb101, 1, none⟩ = some (.int .i64 1) := (blk_cell BK101.out 1).trans rfl; have hcz12_2 : w8.cell? ⟨gb101, 2, none⟩ = some (.int .i64 1) := (blk_cell BK101.out 2).trans rfl; have hcz12_3 : w8.cell? ⟨gb101, 3, none⟩ = some (.string (⟨#[114, 100]⟩ : ByteArray)) := (blk_cell BK101.out 3).trans rfl; have hfz12_0 := blk_frozen BK101.out 0; have hfz12_1 := blk_frozen BK101.out 1; have hfz12_2 := blk_frozen BK101.out 2; have hfz12_3 := blk_frozen BK101.out 3) | ((with_reducible refine gate_dst (N := 15) rfl ?_); refine Kd.R_lit k76 _ 76 ?hg (N := 15) ?hd (xs := ([(⟨(⟨#[68, 79, 67]⟩ : ByteArray), 1, 1, (⟨#[114, 100]⟩ : ByteArray)⟩ : S76), (⟨(⟨#[78, 79, 84]⟩ : ByteArray), 0, 2, (⟨#[116]⟩ : ByteArray)⟩ : S76), (⟨(⟨#[76, 73, 78]⟩ : ByteArray), 1, 20, (⟨#[110, 114, 113, 63, 110]⟩ : ByteArray)⟩ : S76)] : List (S76))) (inner := [.string (⟨#[68, 79, 67]⟩ : ByteArray), .int .i64 1, .int .i64 1, .string (⟨#[114, 100]⟩ : ByteArray), .string (⟨#[78, 79, 84]⟩ : ByteArray), .int .i64 0, .int .i64 2, .string (⟨#[116]⟩ : ByteArray), .string (⟨#[76, 73, 78]⟩ : ByteArray), .int .i64 1, .int .i64 20, .string (⟨#[110, 114, 113, 63, 110]⟩ : ByteArray)]) (ok := fun _ => True) (okp := fun _ => True) ?hr ?hp (fun _ hk => hk) trivial (Below.refl _ _) (Nat.le_refl _) (by simp) ?_; (case hd => rfl); (case hg => rfl); (case hr => first | (go_simp; done) | (go_simp; rfl)); (case hp => exact (Reps.c4 (show Kd.M k76 _ _ _ (⟨(⟨#[68, 79, 67]⟩ : ByteArray), 1, 1, (⟨#[114, 100]⟩ : ByteArray)⟩ : S76) [.string (⟨#[68, 79, 67]⟩ : ByteArray), .int .i64 1, .int .i64 1, .string (⟨#[114, 100]⟩ : ByteArray)] from (k76_mkM _ _ _ (⟨(⟨#[68, 79, 67]⟩ : ByteArray), 1, 1, (⟨#[114, 100]⟩ : ByteArray)⟩ : S76) )) (Reps.c4 (show Kd.M k76 _ _ _ (⟨(⟨#[78, 79, 84]⟩ : ByteArray), 0, 2, (⟨#[116]⟩ : ByteArray)⟩ : S76) [.string (⟨#[78, 79, 84]⟩ : ByteArray), .int .i64 0, .int .i64 2, .string (⟨#[116]⟩ : ByteArray)] from (k76_mkM _ _ _ (⟨(⟨#[78, 79, 84]⟩ : ByteArray), 0, 2, (⟨#[116]⟩ : ByteArray)⟩ : S76) )) (Reps.c4 (show Kd.M k76 _ _ _ (⟨(⟨#[76, 73, 78]⟩ : ByteArray), 1, 20, (⟨#[110, 114, 113, 63, 110]⟩ : ByteArray)⟩ : S76) [.string (⟨#[76, 73, 78]⟩ : ByteArray), .int .i64 1, .int .i64 20, .string (⟨#[110, 114, 113, 63, 110]⟩ : ByteArray)] from (k76_mkM _ _ _ (⟨(⟨#[76, 73, 78]⟩ : ByteArray), 1, 20, (⟨#[110, 114, 113, 63, 110]⟩ : ByteArray)⟩ : S76) )) (Reps.none _ _))))); intro v105 w13 ho14 hb hg_ hnew_; clear hg_ hnew_; (first | rw [← Ny104.out] at ho14 | (simp only [Int.reduceToNat] at ho14; rw [← Ny104.out] at ho14)); have n0_ := Aside0.mk (Kd.R_lower (Kd.R_newB (Kd.R_newB (Kd.R_newB ho14 (g := gb101) (o := .cells #[.string (⟨#[68, 79, 67]⟩ : ByteArray), .int .i64 1, .int .i64 1, .string (⟨#[114, 100]⟩ : ByteArray)] 76 (0, 0)) (by (with_reducible repeat (first | refine blk_drewN ?_ _ | refine blk_drew ?_ | refine blk_alloc ?_ _)); refine blk_far ?_ NB101_103.out _; (with_reducible repeat (first | refine blk_drewN ?_ _ | refine blk_drew ?_ | refine blk_alloc ?_ _)); refine blk_far ?_ NB101_103.out _; (with_reducible repeat (first | refine blk_drewN ?_ _ | refine blk_drew ?_ | refine blk_alloc ?_ _)); refine blk_far ?_ NB101_103.out _; (with_reducible repeat (first | refine blk_drewN ?_ _ | refine blk_drew ?_ | refine blk_alloc ?_ _)); refine blk_far ?_ NB101_103.out _; (with_reducible repeat (first | refine blk_drewN ?_ _ | refine blk_drew ?_ | refine blk_alloc ?_ _)); exact BK101.out)) (g := gb102) (o := .cells #[.string (⟨#[68, 79, 67]⟩ : ByteArray), .int .i64 1, .int .i64 1, .string (⟨#[114, 114, 100]⟩ : ByteArray)] 76 (0, 0)) (by (with_reducible repeat (first | refine blk_drewN ?_ _ | refine blk_drew ?_ | refine blk_alloc ?_ _)); refine blk_far ?_ NB102_103.out _; (with_reducible repeat (first | refine blk_drewN ?_ _ | refine blk_drew ?_ | refine blk_alloc ?_ _)); refine blk_far ?_ NB102_103.out _; (with_reducible repeat (first | refine blk_drewN ?_ _ | refine blk_drew ?_ | refine blk_alloc ?_ _)); refine blk_far ?_ NB102_103.out _; (with_reducible repeat (first | refine blk_drewN ?_ _ | refine blk_drew ?_ | refine blk_alloc ?_ _)); refine blk_far ?_ NB102_103.out _; (with_reducible repeat (first | refine blk_drewN ?_ _ | refine blk_drew ?_ | refine blk_alloc ?_ _)); exact BK102.out)) (g := gb103) (o := .cells #[.string (⟨#[78, 79, 84]⟩ : ByteArray), .int .i64 0, .int .i64 2, .string (⟨#[116]⟩ : ByteArray)] 76 (0, 0)) (by (with_reducible repeat (first | refine blk_drewN ?_ _ | refine blk_drew ?_ | refine blk_alloc ?_ _)); refine blk_put (cs := #[.string (⟨#[78, 79, 84]⟩ : ByteArray), .int .i64 0, .int .i64 2, .string (⟨#[]⟩ : ByteArray)]) ?_ 3 _ rfl; (with_reducible repeat (first | refine blk_drewN ?_ _ | refine blk_drew ?_ | refine blk_alloc ?_ _)); refine blk_put (cs := #[.string (⟨#[78, 79, 84]⟩ : ByteArray), .int .i64 0, .int .i64 0, .string (⟨#[]⟩ : ByteArray)]) ?_ 2 _ rfl; (with_reducible repeat (first | refine blk_drewN ?_ _ | refine blk_drew ?_ | refine blk_alloc ?_ _)); refine blk_put (cs := #[.string (⟨#[78, 79, 84]⟩ : ByteArray), .int .i64 0, .int .i64 0, .string (⟨#[]⟩ : ByteArray)]) ?_ 1 _ rfl; (with_reducible repeat (first | refine blk_drewN ?_ _ | refine blk_drew ?_ | refine blk_alloc ?_ _)); refine blk_put (cs := #[.string (⟨#[]⟩ : ByteArray), .int .i64 0, .int .i64 0, .string (⟨#[]⟩ : ByteArray)]) ?_ 0 _ rfl; (with_reducible repeat (first | refine blk_drewN ?_ _ | refine blk_drew ?_ | refine blk_alloc ?_ _)); exact BK103.out)) (below_size (by repeat (first | (with_reducible first | exact HB.out | apply below_alloc | apply pw_below_drewN | apply below_drew1 | refine below_set ?_ GE101.out | refine below_set ?_ GE102.out | refine below_set ?_ GE103.out) | exact HB.out)))); have n1_ := Aside0.mk (blk_below (g := gb101) (o := .cells #[.string (⟨#[68, 79, 67]⟩ : ByteArray), .int .i64 1, .int .i64 1, .string (⟨#[114, 100]⟩ : ByteArray)] 76 (0, 0)) (by (with_reducible repeat (first | refine blk_drewN ?_ _ | refine blk_drew ?_ | refine blk_alloc ?_ _)); refine blk_far ?_ NB101_103.out _; (with_reducible repeat (first | refine blk_drewN ?_ _ | refine blk_drew ?_ | refine blk_alloc ?_ _)); refine blk_far ?_ NB101_103.out _; (with_reducible repeat (first | refine blk_drewN ?_ _ | refine blk_drew ?_ | refine blk_alloc ?_ _)); refine blk_far ?_ NB101_103.out _; (with_reducible repeat (first | refine blk_drewN ?_ _ | refine blk_drew ?_ | refine blk_alloc ?_ _)); refine blk_far ?_ NB101_103.out _; (with_reducible repeat (first | refine blk_drewN ?_ _ | refine blk_drew ?_ | refine blk_alloc ?_ _)); exact BK101.out) hb); have n2_ := Aside0.mk (blk_below (g := gb102) (o := .cells #[.string (⟨#[68, 79, 67]⟩ : ByteArray), .int .i64 1, .int .i64 1, .string (⟨#[114, 114, 100]⟩ : ByteArray)] 76 (0, 0)) (by (with_reducible repeat (first | refine blk_drewN ?_ _ | refine blk_drew ?_ | refine blk_alloc ?_ _)); refine blk_far ?_ NB102_103.out _; (with_reducible repeat (first | refine blk_drewN ?_ _ | refine blk_drew ?_ | refine blk_alloc ?_ _)); refine blk_far ?_ NB102_103.out _; (with_reducible repeat (first | refine blk_drewN ?_ _ | refine blk_drew ?_ | refine blk_alloc ?_ _)); refine blk_far ?_ NB102_103.out _; (with_reducible repeat (first | refine blk_drewN ?_ _ | refine blk_drew ?_ | refine blk_alloc ?_ _)); refine blk_far ?_ NB102_103.out _; (with_reducible repeat (first | refine blk_drewN ?_ _ | refine blk_drew ?_ | refine blk_alloc ?_ _)); exact BK102.out) hb); have n3_ := Aside0.mk (blk_below (g := gb103) (o := .cells #[.string (⟨#[78, 79, 84]⟩ : ByteArray), .int .i64 0, .int .i64 2, .string (⟨#[116]⟩ : ByteArray)] 76 (0, 0)) (by (with_reducible repeat (first | refine blk_drewN ?_ _ | refine blk_drew ?_ | refine blk_alloc ?_ _)); refine blk_put (cs := #[.string (⟨#[78, 79, 84]⟩ : ByteArray), .int .i64 0, .int .i64 2, .string (⟨#[]⟩ : ByteArray)]) ?_ 3 _ rfl; (with_reducible repeat (first | refine blk_drewN ?_ _ | refine blk_drew ?_ | refine blk_alloc ?_ _)); refine blk_put (cs := #[.string (⟨#[78, 79, 84]⟩ : ByteArray), .int .i64 0, .int .i64 0, .string (⟨#[]⟩ : ByteArray)]) ?_ 2 _ rfl; (with_reducible repeat (first | refine blk_drewN ?_ _ | refine blk_drew ?_ | refine blk_alloc ?_ _)); refine blk_put (cs := #[.string (⟨#[78, 79, 84]⟩ : ByteArray), .int .i64 0, .int .i64 0, .string (⟨#[]⟩ : ByteArray)]) ?_ 1 _ rfl; (with_reducible repeat (first | refine blk_drewN ?_ _ | refine blk_drew ?_ | refine blk_alloc ?_ _)); refine blk_put (cs := #[.string (⟨#[]⟩ : ByteArray), .int .i64 0, .int .i64 0, .string (⟨#[]⟩ : ByteArray)]) ?_ 0 _ rfl; (with_reducible repeat (first | refine blk_drewN ?_ _ | refine blk_drew ?_ | refine blk_alloc ?_ _)); exact BK103.out) hb); have n4_ := Aside0.mk (below_step (by repeat (first | (with_reducible first | exact HB.out | apply below_alloc | apply pw_below_drewN | apply below_drew1 | refine below_set ?_ GE101.out | refine below_set ?_ GE102.out | refine below_set ?_ GE103.out) | exact HB.out)) hb); clear BK101; clear BK102; clear BK103; clear HB; have HO106 := n0_; have BK101 := n1_; have BK102 := n2_; have BK103 := n3_; have HB := n4_; clear n0_ n1_ n2_ n3_ n4_; clear hb ho14))
    go_ret
    exact ⟨_, by first | rfl | (simp [errW_none, errW_some] <;> rfl) | (simp [*, errW_none, errW_some] <;> rfl), by (with_reducible repeat (first | apply Kd.R_alloc | apply Kd.R_drewN | apply Kd.R_drew)); exact Kd.R_mono HO106.out (fun _ hk => trivial), by repeat (first | (with_reducible first | exact HB.out | apply below_alloc | apply pw_below_drewN | apply below_drew1 | refine below_set ?_ GE101.out | refine below_set ?_ GE102.out | refine below_set ?_ GE103.out) | exact HB.out)⟩
  · rw [if_neg c2] at H
    have c2b0 : (a0 == 1) = false := beq_eq_false_iff_ne.mpr c2
    have c2b1 : (a0 != 1) = true := bne_iff_ne.mpr c2
    have HC15 := Aside0.mk H
    clear H
    go_enter Try.func32, Try.ntmps32
    go_upto_if 16 with (first | ((with_reducible refine gate_dst (N := 3) rfl ?_); refine box_event ?hg (N := 3) ?hd (cs := #[.string (⟨#[]⟩ : ByteArray), .int .i64 0, .int .i64 0, .string (⟨#[]⟩ : ByteArray)]) (t := 76) ?hr ?_; (case hd => rfl); (case hg => rfl); (case hr => first | (go_simp; done) | (go_simp; rfl)); intro gb101 hg w16 hbox hb; have n0_ := Aside0.mk (below_step (by repeat (first | (with_reducible first | exact HB.out | apply below_alloc | apply pw_below_drewN | apply below_drew1) | exact HB.out)) hb); have n1_ := Aside0.mk (hbox); have n2_ := Aside0.mk ((by rw [hg]; exact (below_size (by repeat (first | (with_reducible first | exact HB.out | apply below_alloc | apply pw_below_drewN | apply below_drew1) | exact HB.out))) : w.heap.size ≤ gb101)); have n3_ := Aside0.mk ((by rw [hg]; exact (below_size (by repeat (first | (with_reducible first | exact HB.out | apply below_alloc | apply pw_below_drewN | apply below_drew1) | exact HB.out))) : w.heap.size ≤ gb101)); clear HB; have HB := n0_; have BK101 := n1_; have GW101 := n2_; have GE101 := n3_; clear n0_ n1_ n2_ n3_; clear hb hbox hg; have hcz17_0 : w16.cell? ⟨gb101, 0, none⟩ = some (.string (⟨#[]⟩ : ByteArray)) := (blk_cell BK101.out 0).trans rfl; have hcz17_1 : w16.cell? ⟨gb101, 1, none⟩ = some (.int .i64 0) := (blk_cell BK101.out 1).trans rfl; have hcz17_2 : w16.cell? ⟨gb101, 2, none⟩ = some (.int .i64 0) := (blk_cell BK101.out 2).trans rfl; have hcz17_3 : w16.cell? ⟨gb101, 3, none⟩ = some (.string (⟨#[]⟩ : ByteArray)) := (blk_cell BK101.out 3).trans rfl; have hfz17_0 := blk_frozen BK101.out 0; have hfz17_1 := blk_frozen BK101.out 1; have hfz17_2 := blk_frozen BK101.out 2; have hfz17_3 := blk_frozen BK101.out 3) | ((with_reducible refine gate_dst (N := 4) rfl ?_); refine box_event ?hg (N := 4) ?hd (cs := #[.string (⟨#[]⟩ : ByteArray), .int .i64 0, .int .i64 0, .string (⟨#[]⟩ : ByteArray)]) (t := 76) ?hr ?_; (case hd => rfl); (case hg => rfl); (case hr => first | (go_simp; done) | (go_simp; rfl)); intro gb102 hg w18 hbox hb; have n0_ := Aside0.mk (blk_below (g := gb101) (o := .cells #[.string (⟨#[68, 79, 67]⟩ : ByteArray), .int .i64 1, .int .i64 1, .string (⟨#[114, 100]⟩ : ByteArray)] 76 (0, 0)) (by (with_reducible repeat (first | refine blk_drewN ?_ _ | refine blk_drew ?_ | refine blk_alloc ?_ _)); refine blk_put (cs := #[.string (⟨#[68, 79, 67]⟩ : ByteArray), .int .i64 1, .int .i64 1, .string (⟨#[]⟩ : ByteArray)]) ?_ 3 _ rfl; (with_reducible repeat (first | refine blk_drewN ?_ _ | refine blk_drew ?_ | refine blk_alloc ?_ _)); refine blk_put (cs := #[.string (⟨#[68, 79, 67]⟩ : ByteArray), .int .i64 1, .int .i64 0, .string (⟨#[]⟩ : ByteArray)]) ?_ 2 _ rfl; (with_reducible repeat (first | refine blk_drewN ?_ _ | refine blk_drew ?_ | refine blk_alloc ?_ _)); refine blk_put (cs := #[.string (⟨#[68, 79, 67]⟩ : ByteArray), .int .i64 0, .int .i64 0, .string (⟨#[]⟩ : ByteArray)]) ?_ 1 _ rfl; (with_reducible repeat (first | refine blk_drewN ?_ _ | refine blk_drew ?_ | refine blk_alloc ?_ _)); refine blk_put (cs := #[.string (⟨#[]⟩ : ByteArray), .int .i64 0, .int .i64 0, .string (⟨#[]⟩ : ByteArray)]) ?_ 0 _ rfl; (with_reducible repeat (first | refine blk_drewN ?_ _ | refine blk_drew ?_ | refine blk_alloc ?_ _)); exact BK101.out) hb); have n1_ := Aside0.mk (below_step (by repeat (first | (with_reducible first | exact HB.out | apply below_alloc | apply pw_below_drewN | apply below_drew1 | refine below_set ?_ GE101.out) | exact HB.out)) hb); have n2_ := Aside0.mk (hbox); have n3_ := Aside0.mk ((by rw [hg]; exact (below_size (by repeat (first | (with_reducible first | exact HB.out | apply below_alloc | apply pw_below_drewN | apply below_drew1 | refine below_set ?_ GE101.out) | exact HB.out))) : w.heap.size ≤ gb102)); have n4_ := Aside0.mk ((by rw [hg]; exact (below_size (by repeat (first | (with_reducible first | exact HB.out | apply below_alloc | apply pw_below_drewN | apply below_drew1 | refine below_set ?_ GE101.out) | exact HB.out))) : w.heap.size ≤ gb102)); have n5_ := Aside0.mk ((by rw [hg]; exact Nat.ne_of_lt (blk_lt (g := gb101) (o := .cells #[.string (⟨#[68, 79, 67]⟩ : ByteArray), .int .i64 1, .int .i64 1, .string (⟨#[114, 100]⟩ : ByteArray)] 76 (0, 0)) (by (with_reducible repeat (first | refine blk_drewN ?_ _ | refine blk_drew ?_ | refine blk_alloc ?_ _)); refine blk_put (cs := #[.string (⟨#[68, 79, 67]⟩ : ByteArray), .int .i64 1, .int .i64 1, .string (⟨#[]⟩ : ByteArray)]) ?_ 3 _ rfl; (with_reducible repeat (first | refine blk_drewN ?_ _ | refine blk_drew ?_ | refine blk_alloc ?_ _)); refine blk_put (cs := #[.string (⟨#[68, 79, 67]⟩ : ByteArray), .int .i64 1, .int .i64 0, .string (⟨#[]⟩ : ByteArray)]) ?_ 2 _ rfl; (with_reducible repeat (first | refine blk_drewN ?_ _ | refine blk_drew ?_ | refine blk_alloc ?_ _)); refine blk_put (cs := #[.string (⟨#[68, 79, 67]⟩ : ByteArray), .int .i64 0, .int .i64 0, .string (⟨#[]⟩ : ByteArray)]) ?_ 1 _ rfl; (with_reducible repeat (first | refine blk_drewN ?_ _ | refine blk_drew ?_ | refine blk_alloc ?_ _)); refine blk_put (cs := #[.string (⟨#[]⟩ : ByteArray), .int .i64 0, .int .i64 0, .string (⟨#[]⟩ : ByteArray)]) ?_ 0 _ rfl; (with_reducible repeat (first | refine blk_drewN ?_ _ | refine blk_drew ?_ | refine blk_alloc ?_ _)); exact BK101.out)) : gb101 ≠ gb102)); have n6_ := Aside0.mk ((by rw [hg]; exact Nat.ne_of_gt (blk_lt (g := gb101) (o := .cells #[.string (⟨#[68, 79, 67]⟩ : ByteArray), .int .i64 1, .int .i64 1, .string (⟨#[114, 100]⟩ : ByteArray)] 76 (0, 0)) (by (with_reducible repeat (first | refine blk_drewN ?_ _ | refine blk_drew ?_ | refine blk_alloc ?_ _)); refine blk_put (cs := #[.string (⟨#[68, 79, 67]⟩ : ByteArray), .int .i64 1, .int .i64 1, .string (⟨#[]⟩ : ByteArray)]) ?_ 3 _ rfl; (with_reducible repeat (first | refine blk_drewN ?_ _ | refine blk_drew ?_ | refine blk_alloc ?_ _)); refine blk_put (cs := #[.string (⟨#[68, 79, 67]⟩ : ByteArray), .int .i64 1, .int .i64 0, .string (⟨#[]⟩ : ByteArray)]) ?_ 2 _ rfl; (with_reducible repeat (first | refine blk_drewN ?_ _ | refine blk_drew ?_ | refine blk_alloc ?_ _)); refine blk_put (cs := #[.string (⟨#[68, 79, 67]⟩ : ByteArray), .int .i64 0, .int .i64 0, .string (⟨#[]⟩ : ByteArray)]) ?_ 1 _ rfl; (with_reducible repeat (first | refine blk_drewN ?_ _ | refine blk_drew ?_ | refine blk_alloc ?_ _)); refine blk_put (cs := #[.string (⟨#[]⟩ : ByteArray), .int .i64 0, .int .i64 0, .string (⟨#[]⟩ : ByteArray)]) ?_ 0 _ rfl; (with_reducible repeat (first | refine blk_drewN ?_ _ | refine blk_drew ?_ | refine blk_alloc ?_ _)); exact BK101.out)) : gb102 ≠ gb101)); clear BK101; clear HB; have BK101 := n0_; have HB := n1_; have BK102 := n2_; have GW102 := n3_; have GE102 := n4_; have NB101_102 := n5_; have NB102_101 := n6_; clear n0_ n1_ n2_ n3_ n4_ n5_ n6_; clear hb hbox hg; have hnb19 := NB102_101.out; have hnc19 := NB101_102.out; have hcz20_0 : w18.cell? ⟨gb102, 0, none⟩ = some (.string (⟨#[]⟩ : ByteArray)) := (blk_cell BK102.out 0).trans rfl; have hcz20_1 : w18.cell? ⟨gb102, 1, none⟩ = some (.int .i64 0) := (blk_cell BK102.out 1).trans rfl; have hcz20_2 : w18.cell? ⟨gb102, 2, none⟩ = some (.int .i64 0) := (blk_cell BK102.out 2).trans rfl; have hcz20_3 : w18.cell? ⟨gb102, 3, none⟩ = some (.string (⟨#[]⟩ : ByteArray)) := (blk_cell BK102.out 3).trans rfl; have hfz20_0 := blk_frozen BK102.out 0; have hfz20_1 := blk_frozen BK102.out 1; have hfz20_2 := blk_frozen BK102.out 2; have hfz20_3 := blk_frozen BK102.out 3) | ((with_reducible refine gate_dst (N := 5) rfl ?_); refine box_event ?hg (N := 5) ?hd (cs := #[.string (⟨#[]⟩ : ByteArray), .int .i64 0, .int .i64 0, .string (⟨#[]⟩ : ByteArray)]) (t := 76) ?hr ?_; (case hd => rfl); (case hg => rfl); (case hr => first | (go_simp; done) | (go_simp; rfl)); intro gb103 hg w21 hbox hb; have n0_ := Aside0.mk (blk_below (g := gb101) (o := .cells #[.string (⟨#[68, 79, 67]⟩ : ByteArray), .int .i64 1, .int .i64 1, .string (⟨#[114, 100]⟩ : ByteArray)] 76 (0, 0)) (by (with_reducible repeat (first | refine blk_drewN ?_ _ | refine blk_drew ?_ | refine blk_alloc ?_ _)); refine blk_far ?_ NB101_102.out _; (with_reducible repeat (first | refine blk_drewN ?_ _ | refine blk_drew ?_ | refine blk_alloc ?_ _)); refine blk_far ?_ NB101_102.out _; (with_reducible repeat (first | refine blk_drewN ?_ _ | refine blk_drew ?_ | refine blk_alloc ?_ _)); refine blk_far ?_ NB101_102.out _; (with_reducible repeat (first | refine blk_drewN ?_ _ | refine blk_drew ?_ | refine blk_alloc ?_ _)); refine blk_far ?_ NB101_102.out _; (with_reducible repeat (first | refine blk_drewN ?_ _ | refine blk_drew ?_ | refine blk_alloc ?_ _)); exact BK101.out) hb); have n1_ := Aside0.mk (blk_below (g := gb102) (o := .cells #[.string (⟨#[68, 79, 67]⟩ : ByteArray), .int .i64 1, .int .i64 1, .string (⟨#[114, 114, 100]⟩ : ByteArray)] 76 (0, 0)) (by (with_reducible repeat (first | refine blk_drewN ?_ _ | refine blk_drew ?_ | refine blk_alloc ?_ _)); refine blk_put (cs := #[.string (⟨#[68, 79, 67]⟩ : ByteArray), .int .i64 1, .int .i64 1, .string (⟨#[]⟩ : ByteArray)]) ?_ 3 _ rfl; (with_reducible repeat (first | refine blk_drewN ?_ _ | refine blk_drew ?_ | refine blk_alloc ?_ _)); refine blk_put (cs := #[.string (⟨#[68, 79, 67]⟩ : ByteArray), .int .i64 1, .int .i64 0, .string (⟨#[]⟩ : ByteArray)]) ?_ 2 _ rfl; (with_reducible repeat (first | refine blk_drewN ?_ _ | refine blk_drew ?_ | refine blk_alloc ?_ _)); refine blk_put (cs := #[.string (⟨#[68, 79, 67]⟩ : ByteArray), .int .i64 0, .int .i64 0, .string (⟨#[]⟩ : ByteArray)]) ?_ 1 _ rfl; (with_reducible repeat (first | refine blk_drewN ?_ _ | refine blk_drew ?_ | refine blk_alloc ?_ _)); refine blk_put (cs := #[.string (⟨#[]⟩ : ByteArray), .int .i64 0, .int .i64 0, .string (⟨#[]⟩ : ByteArray)]) ?_ 0 _ rfl; (with_reducible repeat (first | refine blk_drewN ?_ _ | refine blk_drew ?_ | refine blk_alloc ?_ _)); exact BK102.out) hb); have n2_ := Aside0.mk (below_step (by repeat (first | (with_reducible first | exact HB.out | apply below_alloc | apply pw_below_drewN | apply below_drew1 | refine below_set ?_ GE101.out | refine below_set ?_ GE102.out) | exact HB.out)) hb); have n3_ := Aside0.mk (hbox); have n4_ := Aside0.mk ((by rw [hg]; exact (below_size (by repeat (first | (with_reducible first | exact HB.out | apply below_alloc | apply pw_below_drewN | apply below_drew1 | refine below_set ?_ GE101.out | refine below_set ?_ GE102.out) | exact HB.out))) : w.heap.size ≤ gb103)); have n5_ := Aside0.mk ((by rw [hg]; exact (below_size (by repeat (first | (with_reducible first | exact HB.out | apply below_alloc | apply pw_below_drewN | apply below_drew1 | refine below_set ?_ GE101.out | refine below_set ?_ GE102.out) | exact HB.out))) : w.heap.size ≤ gb103)); have n6_ := Aside0.mk ((by rw [hg]; exact Nat.ne_of_lt (blk_lt (g := gb101) (o := .cells #[.string (⟨#[68, 79, 67]⟩ : ByteArray), .int .i64 1, .int .i64 1, .string (⟨#[114, 100]⟩ : ByteArray)] 76 (0, 0)) (by (with_reducible repeat (first | refine blk_drewN ?_ _ | refine blk_drew ?_ | refine blk_alloc ?_ _)); refine blk_far ?_ NB101_102.out _; (with_reducible repeat (first | refine blk_drewN ?_ _ | refine blk_drew ?_ | refine blk_alloc ?_ _)); refine blk_far ?_ NB101_102.out _; (with_reducible repeat (first | refine blk_drewN ?_ _ | refine blk_drew ?_ | refine blk_alloc ?_ _)); refine blk_far ?_ NB101_102.out _; (with_reducible repeat (first | refine blk_drewN ?_ _ | refine blk_drew ?_ | refine blk_alloc ?_ _)); refine blk_far ?_ NB101_102.out _; (with_reducible repeat (first | refine blk_drewN ?_ _ | refine blk_drew ?_ | refine blk_alloc ?_ _)); exact BK101.out)) : gb101 ≠ gb103)); have n7_ := Aside0.mk ((by rw [hg]; exact Nat.ne_of_gt (blk_lt (g := gb101) (o := .cells #[.string (⟨#[68, 79, 67]⟩ : ByteArray), .int .i64 1, .int .i64 1, .string (⟨#[114, 100]⟩ : ByteArray)] 76 (0, 0)) (by (with_reducible repeat (first | refine blk_drewN ?_ _ | refine blk_drew ?_ | refine blk_alloc ?_ _)); refine blk_far ?_ NB101_102.out _; (with_reducible repeat (first | refine blk_drewN ?_ _ | refine blk_drew ?_ | refine blk_alloc ?_ _)); refine blk_far ?_ NB101_102.out _; (with_reducible repeat (first | refine blk_drewN ?_ _ | refine blk_drew ?_ | refine blk_alloc ?_ _)); refine blk_far ?_ NB101_102.out _; (with_reducible repeat (first | refine blk_drewN ?_ _ | refine blk_drew ?_ | refine blk_alloc ?_ _)); refine blk_far ?_ NB101_102.out _; (with_reducible repeat (first | refine blk_drewN ?_ _ | refine blk_drew ?_ | refine blk_alloc ?_ _)); exact BK101.out)) : gb103 ≠ gb101)); have n8_ := Aside0.mk ((by rw [hg]; exact Nat.ne_of_lt (blk_lt (g := gb102) (o := .cells #[.string (⟨#[68, 79, 67]⟩ : ByteArray), .int .i64 1, .int .i64 1, .string (⟨#[114, 114, 100]⟩ : ByteArray)] 76 (0, 0)) (by (with_reducible repeat (first | refine blk_drewN ?_ _ | refine blk_drew ?_ | refine blk_alloc ?_ _)); refine blk_put (cs := #[.string (⟨#[68, 79, 67]⟩ : ByteArray), .int .i64 1, .int .i64 1, .string (⟨#[]⟩ : ByteArray)]) ?_ 3 _ rfl; (with_reducible repeat (first | refine blk_drewN ?_ _ | refine blk_drew ?_ | refine blk_alloc ?_ _)); refine blk_put (cs := #[.string (⟨#[68, 79, 67]⟩ : ByteArray), .int .i64 1, .int .i64 0, .string (⟨#[]⟩ : ByteArray)]) ?_ 2 _ rfl; (with_reducible repeat (first | refine blk_drewN ?_ _ | refine blk_drew ?_ | refine blk_alloc ?_ _)); refine blk_put (cs := #[.string (⟨#[68, 79, 67]⟩ : ByteArray), .int .i64 0, .int .i64 0, .string (⟨#[]⟩ : ByteArray)]) ?_ 1 _ rfl; (with_reducible repeat (first | refine blk_drewN ?_ _ | refine blk_drew ?_ | refine blk_alloc ?_ _)); refine blk_put (cs := #[.string (⟨#[]⟩ : ByteArray), .int .i64 0, .int .i64 0, .string (⟨#[]⟩ : ByteArray)]) ?_ 0 _ rfl; (with_reducible repeat (first | refine blk_drewN ?_ _ | refine blk_drew ?_ | refine blk_alloc ?_ _)); exact BK102.out)) : gb102 ≠ gb103)); have n9_ := Aside0.mk ((by rw [hg]; exact Nat.ne_of_gt (blk_lt (g := gb102) (o := .cells #[.string (⟨#[68, 79, 67]⟩ : ByteArray), .int .i64 1, .int .i64 1, .string (⟨#[114, 114, 100]⟩ : ByteArray)] 76 (0, 0)) (by (with_reducible repeat (first | refine blk_drewN ?_ _ | refine blk_drew ?_ | refine blk_alloc ?_ _)); refine blk_put (cs := #[.string (⟨#[68, 79, 67]⟩ : ByteArray), .int .i64 1, .int .i64 1, .string (⟨#[]⟩ : ByteArray)]) ?_ 3 _ rfl; (with_reducible repeat (first | refine blk_drewN ?_ _ | refine blk_drew ?_ | refine blk_alloc ?_ _)); refine blk_put (cs := #[.string (⟨#[68, 79, 67]⟩ : ByteArray), .int .i64 1, .int .i64 0, .string (⟨#[]⟩ : ByteArray)]) ?_ 2 _ rfl; (with_reducible repeat (first | refine blk_drewN ?_ _ | refine blk_drew ?_ | refine blk_alloc ?_ _)); refine blk_put (cs := #[.string (⟨#[68, 79, 67]⟩ : ByteArray), .int .i64 0, .int .i64 0, .string (⟨#[]⟩ : ByteArray)]) ?_ 1 _ rfl; (with_reducible repeat (first | refine blk_drewN ?_ _ | refine blk_drew ?_ | refine blk_alloc ?_ _)); refine blk_put (cs := #[.string (⟨#[]⟩ : ByteArray), .int .i64 0, .int .i64 0, .string (⟨#[]⟩ : ByteArray)]) ?_ 0 _ rfl; (with_reducible repeat (first | refine blk_drewN ?_ _ | refine blk_drew ?_ | refine blk_alloc ?_ _)); exact BK102.out)) : gb103 ≠ gb102)); clear BK101; clear BK102; clear HB; have BK101 := n0_; have BK102 := n1_; have HB := n2_; have BK103 := n3_; have GW103 := n4_; have GE103 := n5_; have NB101_103 := n6_; have NB103_101 := n7_; have NB102_103 := n8_; have NB103_102 := n9_; clear n0_ n1_ n2_ n3_ n4_ n5_ n6_ n7_ n8_ n9_; clear hb hbox hg; have hnb22 := NB103_101.out; have hnc22 := NB101_103.out; have hnb23 := NB103_102.out; have hnc23 := NB102_103.out; have hcz24_0 : w21.cell? ⟨gb103, 0, none⟩ = some (.string (⟨#[]⟩ : ByteArray)) := (blk_cell BK103.out 0).trans rfl; have hcz24_1 : w21.cell? ⟨gb103, 1, none⟩ = some (.int .i64 0) := (blk_cell BK103.out 1).trans rfl; have hcz24_2 : w21.cell? ⟨gb103, 2, none⟩ = some (.int .i64 0) := (blk_cell BK103.out 2).trans rfl; have hcz24_3 : w21.cell? ⟨gb103, 3, none⟩ = some (.string (⟨#[]⟩ : ByteArray)) := (blk_cell BK103.out 3).trans rfl; have hfz24_0 := blk_frozen BK103.out 0; have hfz24_1 := blk_frozen BK103.out 1; have hfz24_2 := blk_frozen BK103.out 2; have hfz24_3 := blk_frozen BK103.out 3))
    (try simp only [Act.put, List.setIfInBounds_toArray, List.set_cons_zero, List.set_cons_succ])
    go_cut [16] (fun v16 wc => ∃ (kq : Nat) (x16_14 : Bool), v16 = .bool x16_14 ∧ Aside0 (spec_TableOf.j0 kq a0 x16_14 (⟨#[68, 79, 67]⟩ : ByteArray) 1 1 (⟨#[114, 100]⟩ : ByteArray) (⟨#[68, 79, 67]⟩ : ByteArray) 1 1 (⟨#[114, 114, 100]⟩ : ByteArray) (⟨#[78, 79, 84]⟩ : ByteArray) 0 2 (⟨#[116]⟩ : ByteArray) = some r) ∧ Aside0 (kq ≤ k) ∧ Aside0 (wc.heap[gb101]? = some (.cells #[.string (⟨#[68, 79, 67]⟩ : ByteArray), .int .i64 1, .int .i64 1, .string (⟨#[114, 100]⟩ : ByteArray)] 76 (0, 0))) ∧ Aside0 (wc.heap[gb102]? = some (.cells #[.string (⟨#[68, 79, 67]⟩ : ByteArray), .int .i64 1, .int .i64 1, .string (⟨#[114, 114, 100]⟩ : ByteArray)] 76 (0, 0))) ∧ Aside0 (wc.heap[gb103]? = some (.cells #[.string (⟨#[78, 79, 84]⟩ : ByteArray), .int .i64 0, .int .i64 2, .string (⟨#[116]⟩ : ByteArray)] 76 (0, 0))) ∧ Aside0 (Below w.heap.size w wc))
    case first =>
      have H := HC15.out
      clear HC15
      by_cases c25 : a0 = 2
      · rw [if_pos c25] at H
        have c25b0 : (a0 == 2) = true := beq_iff_eq.mpr c25
        have c25b1 : (a0 != 2) = false := bne_eq_false_iff_eq.mpr c25
        clear c25
        (first | rw [c25b0] | (simp only [i64_w, i32_w]; rw [c25b0]) | skip)
        have H' := Aside0.mk H
        clear H
        go_wp2
        go_meet
        case rel => exact ⟨_, ((a0 == 2)), (by first | rfl | (simp; done) | (simp [*]; done)), H', ⟨by first | omega | exact Nat.le_refl _⟩, ⟨by (with_reducible repeat (first | refine blk_drewN ?_ _ | refine blk_drew ?_ | refine blk_alloc ?_ _)); refine blk_far ?_ NB101_103.out _; (with_reducible repeat (first | refine blk_drewN ?_ _ | refine blk_drew ?_ | refine blk_alloc ?_ _)); refine blk_far ?_ NB101_103.out _; (with_reducible repeat (first | refine blk_drewN ?_ _ | refine blk_drew ?_ | refine blk_alloc ?_ _)); refine blk_far ?_ NB101_103.out _; (with_reducible repeat (first | refine blk_drewN ?_ _ | refine blk_drew ?_ | refine blk_alloc ?_ _)); refine blk_far ?_ NB101_103.out _; (with_reducible repeat (first | refine blk_drewN ?_ _ | refine blk_drew ?_ | refine blk_alloc ?_ _)); exact BK101.out⟩, ⟨by (with_reducible repeat (first | refine blk_drewN ?_ _ | refine blk_drew ?_ | refine blk_alloc ?_ _)); refine blk_far ?_ NB102_103.out _; (with_reducible repeat (first | refine blk_drewN ?_ _ | refine blk_drew ?_ | refine blk_alloc ?_ _)); refine blk_far ?_ NB102_103.out _; (with_reducible repeat (first | refine blk_drewN ?_ _ | refine blk_drew ?_ | refine blk_alloc ?_ _)); refine blk_far ?_ NB102_103.out _; (with_reducible repeat (first | refine blk_drewN ?_ _ | refine blk_drew ?_ | refine blk_alloc ?_ _)); refine blk_far ?_ NB102_103.out _; (with_reducible repeat (first | refine blk_drewN ?_ _ | refine blk_drew ?_ | refine blk_alloc ?_ _)); exact BK102.out⟩, ⟨by (with_reducible repeat (first | refine blk_drewN ?_ _ | refine blk_drew ?_ | refine blk_alloc ?_ _)); refine blk_put (cs := #[.string (⟨#[78, 79, 84]⟩ : ByteArray), .int .i64 0, .int .i64 2, .string (⟨#[]⟩ : ByteArray)]) ?_ 3 _ rfl; (with_reducible repeat (first | refine blk_drewN ?_ _ | refine blk_drew ?_ | refine blk_alloc ?_ _)); refine blk_put (cs := #[.string (⟨#[78, 79, 84]⟩ : ByteArray), .int .i64 0, .int .i64 0, .string (⟨#[]⟩ : ByteArray)]) ?_ 2 _ rfl; (with_reducible repeat (first | refine blk_drewN ?_ _ | refine blk_drew ?_ | refine blk_alloc ?_ _)); refine blk_put (cs := #[.string (⟨#[78, 79, 84]⟩ : ByteArray), .int .i64 0, .int .i64 0, .string (⟨#[]⟩ : ByteArray)]) ?_ 1 _ rfl; (with_reducible repeat (first | refine blk_drewN ?_ _ | refine blk_drew ?_ | refine blk_alloc ?_ _)); refine blk_put (cs := #[.string (⟨#[]⟩ : ByteArray), .int .i64 0, .int .i64 0, .string (⟨#[]⟩ : ByteArray)]) ?_ 0 _ rfl; (with_reducible repeat (first | refine blk_drewN ?_ _ | refine blk_drew ?_ | refine blk_alloc ?_ _)); exact BK103.out⟩, ⟨by repeat (first | (with_reducible first | exact HB.out | apply below_alloc | apply pw_below_drewN | apply below_drew1 | refine below_set ?_ GE101.out | refine below_set ?_ GE102.out | refine below_set ?_ GE103.out) | exact HB.out)⟩⟩
      · rw [if_neg c25] at H
        have c25b0 : (a0 == 2) = false := beq_eq_false_iff_ne.mpr c25
        have c25b1 : (a0 != 2) = true := bne_iff_ne.mpr c25
        (first | rw [c25b0] | (simp only [i64_w, i32_w]; rw [c25b0]) | skip)
        have H' := Aside0.mk H
        clear H
        go_wp2
        go_meet
        case rel => exact ⟨_, ((a0 == 4)), (by first | rfl | (simp; done) | (simp [*]; done)), H', ⟨by first | omega | exact Nat.le_refl _⟩, ⟨by (with_reducible repeat (first | refine blk_drewN ?_ _ | refine blk_drew ?_ | refine blk_alloc ?_ _)); refine blk_far ?_ NB101_103.out _; (with_reducible repeat (first | refine blk_drewN ?_ _ | refine blk_drew ?_ | refine blk_alloc ?_ _)); refine blk_far ?_ NB101_103.out _; (with_reducible repeat (first | refine blk_drewN ?_ _ | refine blk_drew ?_ | refine blk_alloc ?_ _)); refine blk_far ?_ NB101_103.out _; (with_reducible repeat (first | refine blk_drewN ?_ _ | refine blk_drew ?_ | refine blk_alloc ?_ _)); refine blk_far ?_ NB101_103.out _; (with_reducible repeat (first | refine blk_drewN ?_ _ | refine blk_drew ?_ | refine blk_alloc ?_ _)); exact BK101.out⟩, ⟨by (with_reducible repeat (first | refine blk_drewN ?_ _ | refine blk_drew ?_ | refine blk_alloc ?_ _)); refine blk_far ?_ NB102_103.out _; (with_reducible repeat (first | refine blk_drewN ?_ _ | refine blk_drew ?_ | refine blk_alloc ?_ _)); refine blk_far ?_ NB102_103.out _; (with_reducible repeat (first | refine blk_drewN ?_ _ | refine blk_drew ?_ | refine blk_alloc ?_ _)); refine blk_far ?_ NB102_103.out _; (with_reducible repeat (first | refine blk_drewN ?_ _ | refine blk_drew ?_ | refine blk_alloc ?_ _)); refine blk_far ?_ NB102_103.out _; (with_reducible repeat (first | refine blk_drewN ?_ _ | refine blk_drew ?_ | refine blk_alloc ?_ _)); exact BK102.out⟩, ⟨by (with_reducible repeat (first | refine blk_drewN ?_ _ | refine blk_drew ?_ | refine blk_alloc ?_ _)); refine blk_put (cs := #[.string (⟨#[78, 79, 84]⟩ : ByteArray), .int .i64 0, .int .i64 2, .string (⟨#[]⟩ : ByteArray)]) ?_ 3 _ rfl; (with_reducible repeat (first | refine blk_drewN ?_ _ | refine blk_drew ?_ | refine blk_alloc ?_ _)); refine blk_put (cs := #[.string (⟨#[78, 79, 84]⟩ : ByteArray), .int .i64 0, .int .i64 0, .string (⟨#[]⟩ : ByteArray)]) ?_ 2 _ rfl; (with_reducible repeat (first | refine blk_drewN ?_ _ | refine blk_drew ?_ | refine blk_alloc ?_ _)); refine blk_put (cs := #[.string (⟨#[78, 79, 84]⟩ : ByteArray), .int .i64 0, .int .i64 0, .string (⟨#[]⟩ : ByteArray)]) ?_ 1 _ rfl; (with_reducible repeat (first | refine blk_drewN ?_ _ | refine blk_drew ?_ | refine blk_alloc ?_ _)); refine blk_put (cs := #[.string (⟨#[]⟩ : ByteArray), .int .i64 0, .int .i64 0, .string (⟨#[]⟩ : ByteArray)]) ?_ 0 _ rfl; (with_reducible repeat (first | refine blk_drewN ?_ _ | refine blk_drew ?_ | refine blk_alloc ?_ _)); exact BK103.out⟩, ⟨by repeat (first | (with_reducible first | exact HB.out | apply below_alloc | apply pw_below_drewN | apply below_drew1 | refine below_set ?_ GE101.out | refine below_set ?_ GE102.out | refine below_set ?_ GE103.out) | exact HB.out)⟩⟩
    case rest =>
      clear HC15
      try clear c1
      try clear c2
      try clear c2b0
      try clear c2b1
      try clear p2
      try clear c3
      try clear c4
      try clear c6
      try clear c9
      try clear c10
      try clear c19
      try clear c22
      try clear c23
      try clear c25
      try clear c25b0
      try clear c25b1
      try clear hcz11_0
      try clear hcz11_1
      try clear hcz11_2
      try clear hcz11_3
      try clear hcz12_0
      try clear hcz12_1
      try clear hcz12_2
      try clear hcz12_3
      try clear hcz17_0
      try clear hcz17_1
      try clear hcz17_2
      try clear hcz17_3
      try clear hcz20_0
      try clear hcz20_1
      try clear hcz20_2
      try clear hcz20_3
      try clear hcz24_0
      try clear hcz24_1
      try clear hcz24_2
      try clear hcz24_3
      try clear hcz4_0
      try clear hcz4_1
      try clear hcz4_2
      try clear hcz4_3
      try clear hcz7_0
      try clear hcz7_1
      try clear hcz7_2
      try clear hcz7_3
      try clear hfz11_0
      try clear hfz11_1
      try clear hfz11_2
      try clear hfz11_3
      try clear hfz12_0
      try clear hfz12_1
      try clear hfz12_2
      try clear hfz12_3
      try clear hfz17_0
      try clear hfz17_1
      try clear hfz17_2
      try clear hfz17_3
      try clear hfz20_0
      try clear hfz20_1
      try clear hfz20_2
      try clear hfz20_3
      try clear hfz24_0
      try clear hfz24_1
      try clear hfz24_2
      try clear hfz24_3
      try clear hfz4_0
      try clear hfz4_1
      try clear hfz4_2
      try clear hfz4_3
      try clear hfz7_0
      try clear hfz7_1
      try clear hfz7_2
      try clear hfz7_3
      obtain ⟨kq, x16_14, rfl, HA, HJ14, BK101, BK102, BK103, HB⟩ := hcut
      cases kq with
      | zero => exact absurd HA.out (by simp [spec_TableOf.j0])
      | succ kj14 =>
        have H := HA.out
        clear HA
        simp only [spec_TableOf.j0] at H
        by_cases c26 : x16_14 = true
        · subst c26
          have H1 : (some (([(⟨(⟨#[68, 79, 67]⟩ : ByteArray), 1, 1, (⟨#[114, 114, 100]⟩ : ByteArray)⟩ : S76), (⟨(⟨#[76, 73, 78]⟩ : ByteArray), 1, 20, (⟨#[110, 113, 63, 116]⟩ : ByteArray)⟩ : S76)] : List (S76)))) = some r := by rw [if_pos rfl] at H; exact H
          clear H
          have H := H1
          clear H1
          obtain ⟨y107, hy107⟩ : ∃ y_ : List (S76), y_ = (([(⟨(⟨#[68, 79, 67]⟩ : ByteArray), 1, 1, (⟨#[114, 114, 100]⟩ : ByteArray)⟩ : S76), (⟨(⟨#[76, 73, 78]⟩ : ByteArray), 1, 20, (⟨#[110, 113, 63, 116]⟩ : ByteArray)⟩ : S76)] : List (S76))) := ⟨_, rfl⟩
          replace H : (some y107) = some r := by first | (rw [hy107]; with_reducible exact H) | (have H2_ := (Option.bind_some _ _).symm.trans H; rw [hy107]; with_reducible exact H2_) | (have H2_ := (Option.bind_some _ _).symm.trans H; with_reducible exact H2_) | with_reducible exact H | (rw [hy107]; exact H) | exact H
          have Ny107 := Aside0.mk hy107
          clear hy107
          obtain rfl := Option.some.inj H
          have hnb27 := NB102_101.out
          have hnc27 := NB101_102.out
          have hnb28 := NB102_103.out
          have hnc28 := NB103_102.out
          have hcz29_0 : wc.cell? ⟨gb102, 0, none⟩ = some (.string (⟨#[68, 79, 67]⟩ : ByteArray)) := (blk_cell BK102.out 0).trans rfl
          have hcz29_1 : wc.cell? ⟨gb102, 1, none⟩ = some (.int .i64 1) := (blk_cell BK102.out 1).trans rfl
          have hcz29_2 : wc.cell? ⟨gb102, 2, none⟩ = some (.int .i64 1) := (blk_cell BK102.out 2).trans rfl
          have hcz29_3 : wc.cell? ⟨gb102, 3, none⟩ = some (.string (⟨#[114, 114, 100]⟩ : ByteArray)) := (blk_cell BK102.out 3).trans rfl
          have hfz29_0 := blk_frozen BK102.out 0
          have hfz29_1 := blk_frozen BK102.out 1
          have hfz29_2 := blk_frozen BK102.out 2
          have hfz29_3 := blk_frozen BK102.out 3
          go_wp2_with (first | ((with_reducible refine gate_dst (N := 21) rfl ?_); refine Kd.R_lit k76 _ 76 ?hg (N := 21) ?hd (xs := ([(⟨(⟨#[68, 79, 67]⟩ : ByteArray), 1, 1, (⟨#[114, 114, 100]⟩ : ByteArray)⟩ : S76), (⟨(⟨#[76, 73, 78]⟩ : ByteArray), 1, 20, (⟨#[110, 113, 63, 116]⟩ : ByteArray)⟩ : S76)] : List (S76))) (inner := [.string (⟨#[68, 79, 67]⟩ : ByteArray), .int .i64 1, .int .i64 1, .string (⟨#[114, 114, 100]⟩ : ByteArray), .string (⟨#[76, 73, 78]⟩ : ByteArray), .int .i64 1, .int .i64 20, .string (⟨#[110, 113, 63, 116]⟩ : ByteArray)]) (ok := fun _ => True) (okp := fun _ => True) ?hr ?hp (fun _ hk => hk) trivial (Below.refl _ _) (Nat.le_refl _) (by simp) ?_; (case hd => rfl); (case hg => rfl); (case hr => first | (go_simp; done) | (go_simp; rfl)); (case hp => exact (Reps.c4 (show Kd.M k76 _ _ _ (⟨(⟨#[68, 79, 67]⟩ : ByteArray), 1, 1, (⟨#[114, 114, 100]⟩ : ByteArray)⟩ : S76) [.string (⟨#[68, 79, 67]⟩ : ByteArray), .int .i64 1, .int .i64 1, .string (⟨#[114, 114, 100]⟩ : ByteArray)] from (k76_mkM _ _ _ (⟨(⟨#[68, 79, 67]⟩ : ByteArray), 1, 1, (⟨#[114, 114, 100]⟩ : ByteArray)⟩ : S76) )) (Reps.c4 (show Kd.M k76 _ _ _ (⟨(⟨#[76, 73, 78]⟩ : ByteArray), 1, 20, (⟨#[110, 113, 63, 116]⟩ : ByteArray)⟩ : S76) [.string (⟨#[76, 73, 78]⟩ : ByteArray), .int .i64 1, .int .i64 20, .string (⟨#[110, 113, 63, 116]⟩ : ByteArray)] from (k76_mkM _ _ _ (⟨(⟨#[76, 73, 78]⟩ : ByteArray), 1, 20, (⟨#[110, 113, 63, 116]⟩ : ByteArray)⟩ : S76) )) (Reps.none _ _)))); intro v108 w30 ho31 hb hg_ hnew_; clear hg_ hnew_; (first | rw [← Ny107.out] at ho31 | (simp only [Int.reduceToNat] at ho31; rw [← Ny107.out] at ho31)); have n0_ := Aside0.mk (Kd.R_lower (Kd.R_newB (Kd.R_newB (Kd.R_newB ho31 (g := gb101) (o := .cells #[.string (⟨#[68, 79, 67]⟩ : ByteArray), .int .i64 1, .int .i64 1, .string (⟨#[114, 100]⟩ : ByteArray)] 76 (0, 0)) (by (with_reducible repeat (first | refine blk_drewN ?_ _ | refine blk_drew ?_ | refine blk_alloc ?_ _)); exact BK101.out)) (g := gb102) (o := .cells #[.string (⟨#[68, 79, 67]⟩ : ByteArray), .int .i64 1, .int .i64 1, .string (⟨#[114, 114, 100]⟩ : ByteArray)] 76 (0, 0)) (by (with_reducible repeat (first | refine blk_drewN ?_ _ | refine blk_drew ?_ | refine blk_alloc ?_ _)); exact BK102.out)) (g := gb103) (o := .cells #[.string (⟨#[78, 79, 84]⟩ : ByteArray), .int .i64 0, .int .i64 2, .string (⟨#[116]⟩ : ByteArray)] 76 (0, 0)) (by (with_reducible repeat (first | refine blk_drewN ?_ _ | refine blk_drew ?_ | refine blk_alloc ?_ _)); exact BK103.out)) (below_size (by repeat (first | (with_reducible first | exact HB.out | apply below_alloc | apply pw_below_drewN | apply below_drew1 | refine below_set ?_ GE101.out | refine below_set ?_ GE102.out | refine below_set ?_ GE103.out) | exact HB.out)))); have n1_ := Aside0.mk (blk_below (g := gb101) (o := .cells #[.string (⟨#[68, 79, 67]⟩ : ByteArray), .int .i64 1, .int .i64 1, .string (⟨#[114, 100]⟩ : ByteArray)] 76 (0, 0)) (by (with_reducible repeat (first | refine blk_drewN ?_ _ | refine blk_drew ?_ | refine blk_alloc ?_ _)); exact BK101.out) hb); have n2_ := Aside0.mk (blk_below (g := gb102) (o := .cells #[.string (⟨#[68, 79, 67]⟩ : ByteArray), .int .i64 1, .int .i64 1, .string (⟨#[114, 114, 100]⟩ : ByteArray)] 76 (0, 0)) (by (with_reducible repeat (first | refine blk_drewN ?_ _ | refine blk_drew ?_ | refine blk_alloc ?_ _)); exact BK102.out) hb); have n3_ := Aside0.mk (blk_below (g := gb103) (o := .cells #[.string (⟨#[78, 79, 84]⟩ : ByteArray), .int .i64 0, .int .i64 2, .string (⟨#[116]⟩ : ByteArray)] 76 (0, 0)) (by (with_reducible repeat (first | refine blk_drewN ?_ _ | refine blk_drew ?_ | refine blk_alloc ?_ _)); exact BK103.out) hb); have n4_ := Aside0.mk (below_step (by repeat (first | (with_reducible first | exact HB.out | apply below_alloc | apply pw_below_drewN | apply below_drew1 | refine below_set ?_ GE101.out | refine below_set ?_ GE102.out | refine below_set ?_ GE103.out) | exact HB.out)) hb); clear BK101; clear BK102; clear BK103; clear HB; have HO109 := n0_; have BK101 := n1_; have BK102 := n2_; have BK103 := n3_; have HB := n4_; clear n0_ n1_ n2_ n3_ n4_; clear hb ho31))
          go_ret
          exact ⟨_, by first | rfl | (simp [errW_none, errW_some] <;> rfl) | (simp [*, errW_none, errW_some] <;> rfl), by (with_reducible repeat (first | apply Kd.R_alloc | apply Kd.R_drewN | apply Kd.R_drew)); exact Kd.R_mono HO109.out (fun _ hk => trivial), by repeat (first | (with_reducible first | exact HB.out | apply below_alloc | apply pw_below_drewN | apply below_drew1 | refine below_set ?_ GE101.out | refine below_set ?_ GE102.out | refine below_set ?_ GE103.out) | exact HB.out)⟩
        · replace c26 := Bool.eq_false_iff.mpr c26
          subst c26
          have H1 : (if a0 = 3 then (some (([(⟨(⟨#[68, 79, 67]⟩ : ByteArray), 1, 1, (⟨#[114, 114, 100]⟩ : ByteArray)⟩ : S76), (⟨(⟨#[78, 79, 84]⟩ : ByteArray), 0, 2, (⟨#[116]⟩ : ByteArray)⟩ : S76), (⟨(⟨#[76, 73, 78]⟩ : ByteArray), 1, 20, (⟨#[110, 113]⟩ : ByteArray)⟩ : S76)] : List (S76)))) else (if a0 = 5 then (some (([(⟨(⟨#[68, 79, 67]⟩ : ByteArray), 1, 1, (⟨#[114, 100]⟩ : ByteArray)⟩ : S76), (⟨(⟨#[73, 84, 77]⟩ : ByteArray), 1, 20, (⟨#[114, 110]⟩ : ByteArray)⟩ : S76)] : List (S76)))) else (if a0 = 6 then (some (([(⟨(⟨#[68, 79, 67]⟩ : ByteArray), 1, 1, (⟨#[114, 100]⟩ : ByteArray)⟩ : S76), (⟨(⟨#[73, 84, 77]⟩ : ByteArray), 1, 20, (⟨#[114, 122, 63, 116]⟩ : ByteArray)⟩ : S76)] : List (S76)))) else (if a0 = 7 then (some (([(⟨(⟨#[68, 79, 67]⟩ : ByteArray), 1, 1, (⟨#[114, 100]⟩ : ByteArray)⟩ : S76), (⟨(⟨#[65, 67, 75]⟩ : ByteArray), 1, 1, (⟨#[110, 110, 63, 110]⟩ : ByteArray)⟩ : S76)] : List (S76)))) else (some (([] : List (S76)))))))) = some r := by rw [if_neg (show ¬ (false = true) by decide)] at H; exact H
          clear H
          have H := H1
          clear H1
          by_cases c32 : a0 = 3
          · rw [if_pos c32] at H
            have c32b0 : (a0 == 3) = true := beq_iff_eq.mpr c32
            have c32b1 : (a0 != 3) = false := bne_eq_false_iff_eq.mpr c32
            clear c32
            obtain ⟨y110, hy110⟩ : ∃ y_ : List (S76), y_ = (([(⟨(⟨#[68, 79, 67]⟩ : ByteArray), 1, 1, (⟨#[114, 114, 100]⟩ : ByteArray)⟩ : S76), (⟨(⟨#[78, 79, 84]⟩ : ByteArray), 0, 2, (⟨#[116]⟩ : ByteArray)⟩ : S76), (⟨(⟨#[76, 73, 78]⟩ : ByteArray), 1, 20, (⟨#[110, 113]⟩ : ByteArray)⟩ : S76)] : List (S76))) := ⟨_, rfl⟩
            replace H : (some y110) = some r := by first | (rw [hy110]; with_reducible exact H) | (have H2_ := (Option.bind_some _ _).symm.trans H; rw [hy110]; with_reducible exact H2_) | (have H2_ := (Option.bind_some _ _).symm.trans H; with_reducible exact H2_) | with_reducible exact H | (rw [hy110]; exact H) | exact H
            have Ny110 := Aside0.mk hy110
            clear hy110
            obtain rfl := Option.some.inj H
            have hnb33 := NB102_101.out
            have hnc33 := NB101_102.out
            have hnb34 := NB102_103.out
            have hnc34 := NB103_102.out
            have hcz35_0 : wc.cell? ⟨gb102, 0, none⟩ = some (.string (⟨#[68, 79, 67]⟩ : ByteArray)) := (blk_cell BK102.out 0).trans rfl
            have hcz35_1 : wc.cell? ⟨gb102, 1, none⟩ = some (.int .i64 1) := (blk_cell BK102.out 1).trans rfl
            have hcz35_2 : wc.cell? ⟨gb102, 2, none⟩ = some (.int .i64 1) := (blk_cell BK102.out 2).trans rfl
            have hcz35_3 : wc.cell? ⟨gb102, 3, none⟩ = some (.string (⟨#[114, 114, 100]⟩ : ByteArray)) := (blk_cell BK102.out 3).trans rfl
            have hfz35_0 := blk_frozen BK102.out 0
            have hfz35_1 := blk_frozen BK102.out 1
            have hfz35_2 := blk_frozen BK102.out 2
            have hfz35_3 := blk_frozen BK102.out 3
            have hnb36 := NB103_101.out
            have hnc36 := NB101_103.out
            have hcz37_0 : wc.cell? ⟨gb103, 0, none⟩ = some (.string (⟨#[78, 79, 84]⟩ : ByteArray)) := (blk_cell BK103.out 0).trans rfl
            have hcz37_1 : wc.cell? ⟨gb103, 1, none⟩ = some (.int .i64 0) := (blk_cell BK103.out 1).trans rfl
            have hcz37_2 : wc.cell? ⟨gb103, 2, none⟩ = some (.int .i64 2) := (blk_cell BK103.out 2).trans rfl
            have hcz37_3 : wc.cell? ⟨gb103, 3, none⟩ = some (.string (⟨#[116]⟩ : ByteArray)) := (blk_cell BK103.out 3).trans rfl
            have hfz37_0 := blk_frozen BK103.out 0
            have hfz37_1 := blk_frozen BK103.out 1
            have hfz37_2 := blk_frozen BK103.out 2
            have hfz37_3 := blk_frozen BK103.out 3
            go_wp2_with (first | ((with_reducible refine gate_dst (N := 27) rfl ?_); refine Kd.R_lit k76 _ 76 ?hg (N := 27) ?hd (xs := ([(⟨(⟨#[68, 79, 67]⟩ : ByteArray), 1, 1, (⟨#[114, 114, 100]⟩ : ByteArray)⟩ : S76), (⟨(⟨#[78, 79, 84]⟩ : ByteArray), 0, 2, (⟨#[116]⟩ : ByteArray)⟩ : S76), (⟨(⟨#[76, 73, 78]⟩ : ByteArray), 1, 20, (⟨#[110, 113]⟩ : ByteArray)⟩ : S76)] : List (S76))) (inner := [.string (⟨#[68, 79, 67]⟩ : ByteArray), .int .i64 1, .int .i64 1, .string (⟨#[114, 114, 100]⟩ : ByteArray), .string (⟨#[78, 79, 84]⟩ : ByteArray), .int .i64 0, .int .i64 2, .string (⟨#[116]⟩ : ByteArray), .string (⟨#[76, 73, 78]⟩ : ByteArray), .int .i64 1, .int .i64 20, .string (⟨#[110, 113]⟩ : ByteArray)]) (ok := fun _ => True) (okp := fun _ => True) ?hr ?hp (fun _ hk => hk) trivial (Below.refl _ _) (Nat.le_refl _) (by simp) ?_; (case hd => rfl); (case hg => rfl); (case hr => first | (go_simp; done) | (go_simp; rfl)); (case hp => exact (Reps.c4 (show Kd.M k76 _ _ _ (⟨(⟨#[68, 79, 67]⟩ : ByteArray), 1, 1, (⟨#[114, 114, 100]⟩ : ByteArray)⟩ : S76) [.string (⟨#[68, 79, 67]⟩ : ByteArray), .int .i64 1, .int .i64 1, .string (⟨#[114, 114, 100]⟩ : ByteArray)] from (k76_mkM _ _ _ (⟨(⟨#[68, 79, 67]⟩ : ByteArray), 1, 1, (⟨#[114, 114, 100]⟩ : ByteArray)⟩ : S76) )) (Reps.c4 (show Kd.M k76 _ _ _ (⟨(⟨#[78, 79, 84]⟩ : ByteArray), 0, 2, (⟨#[116]⟩ : ByteArray)⟩ : S76) [.string (⟨#[78, 79, 84]⟩ : ByteArray), .int .i64 0, .int .i64 2, .string (⟨#[116]⟩ : ByteArray)] from (k76_mkM _ _ _ (⟨(⟨#[78, 79, 84]⟩ : ByteArray), 0, 2, (⟨#[116]⟩ : ByteArray)⟩ : S76) )) (Reps.c4 (show Kd.M k76 _ _ _ (⟨(⟨#[76, 73, 78]⟩ : ByteArray), 1, 20, (⟨#[110, 113]⟩ : ByteArray)⟩ : S76) [.string (⟨#[76, 73, 78]⟩ : ByteArray), .int .i64 1, .int .i64 20, .string (⟨#[110, 113]⟩ : ByteArray)] from (k76_mkM _ _ _ (⟨(⟨#[76, 73, 78]⟩ : ByteArray), 1, 20, (⟨#[110, 113]⟩ : ByteArray)⟩ : S76) )) (Reps.none _ _))))); intro v111 w38 ho39 hb hg_ hnew_; clear hg_ hnew_; (first | rw [← Ny110.out] at ho39 | (simp only [Int.reduceToNat] at ho39; rw [← Ny110.out] at ho39)); have n0_ := Aside0.mk (Kd.R_lower (Kd.R_newB (Kd.R_newB (Kd.R_newB ho39 (g := gb101) (o := .cells #[.string (⟨#[68, 79, 67]⟩ : ByteArray), .int .i64 1, .int .i64 1, .string (⟨#[114, 100]⟩ : ByteArray)] 76 (0, 0)) (by (with_reducible repeat (first | refine blk_drewN ?_ _ | refine blk_drew ?_ | refine blk_alloc ?_ _)); exact BK101.out)) (g := gb102) (o := .cells #[.string (⟨#[68, 79, 67]⟩ : ByteArray), .int .i64 1, .int .i64 1, .string (⟨#[114, 114, 100]⟩ : ByteArray)] 76 (0, 0)) (by (with_reducible repeat (first | refine blk_drewN ?_ _ | refine blk_drew ?_ | refine blk_alloc ?_ _)); exact BK102.out)) (g := gb103) (o := .cells #[.string (⟨#[78, 79, 84]⟩ : ByteArray), .int .i64 0, .int .i64 2, .string (⟨#[116]⟩ : ByteArray)] 76 (0, 0)) (by (with_reducible repeat (first | refine blk_drewN ?_ _ | refine blk_drew ?_ | refine blk_alloc ?_ _)); exact BK103.out)) (below_size (by repeat (first | (with_reducible first | exact HB.out | apply below_alloc | apply pw_below_drewN | apply below_drew1 | refine below_set ?_ GE101.out | refine below_set ?_ GE102.out | refine below_set ?_ GE103.out) | exact HB.out)))); have n1_ := Aside0.mk (blk_below (g := gb101) (o := .cells #[.string (⟨#[68, 79, 67]⟩ : ByteArray), .int .i64 1, .int .i64 1, .string (⟨#[114, 100]⟩ : ByteArray)] 76 (0, 0)) (by (with_reducible repeat (first | refine blk_drewN ?_ _ | refine blk_drew ?_ | refine blk_alloc ?_ _)); exact BK101.out) hb); have n2_ := Aside0.mk (blk_below (g := gb102) (o := .cells #[.string (⟨#[68, 79, 67]⟩ : ByteArray), .int .i64 1, .int .i64 1, .string (⟨#[114, 114, 100]⟩ : ByteArray)] 76 (0, 0)) (by (with_reducible repeat (first | refine blk_drewN ?_ _ | refine blk_drew ?_ | refine blk_alloc ?_ _)); exact BK102.out) hb); have n3_ := Aside0.mk (blk_below (g := gb103) (o := .cells #[.string (⟨#[78, 79, 84]⟩ : ByteArray), .int .i64 0, .int .i64 2, .string (⟨#[116]⟩ : ByteArray)] 76 (0, 0)) (by (with_reducible repeat (first | refine blk_drewN ?_ _ | refine blk_drew ?_ | refine blk_alloc ?_ _)); exact BK103.out) hb); have n4_ := Aside0.mk (below_step (by repeat (first | (with_reducible first | exact HB.out | apply below_alloc | apply pw_below_drewN | apply below_drew1 | refine below_set ?_ GE101.out | refine below_set ?_ GE102.out | refine below_set ?_ GE103.out) | exact HB.out)) hb); clear BK101; clear BK102; clear BK103; clear HB; have HO112 := n0_; have BK101 := n1_; have BK102 := n2_; have BK103 := n3_; have HB := n4_; clear n0_ n1_ n2_ n3_ n4_; clear hb ho39))
            go_ret
            exact ⟨_, by first | rfl | (simp [errW_none, errW_some] <;> rfl) | (simp [*, errW_none, errW_some] <;> rfl), by (with_reducible repeat (first | apply Kd.R_alloc | apply Kd.R_drewN | apply Kd.R_drew)); exact Kd.R_mono HO112.out (fun _ hk => trivial), by repeat (first | (with_reducible first | exact HB.out | apply below_alloc | apply pw_below_drewN | apply below_drew1 | refine below_set ?_ GE101.out | refine below_set ?_ GE102.out | refine below_set ?_ GE103.out) | exact HB.out)⟩
          · rw [if_neg c32] at H
            have c32b0 : (a0 == 3) = false := beq_eq_false_iff_ne.mpr c32
            have c32b1 : (a0 != 3) = true := bne_iff_ne.mpr c32
            by_cases c40 : a0 = 5
            · rw [if_pos c40] at H
              have c40b0 : (a0 == 5) = true := beq_iff_eq.mpr c40
              have c40b1 : (a0 != 5) = false := bne_eq_false_iff_eq.mpr c40
              clear c40
              obtain ⟨y113, hy113⟩ : ∃ y_ : List (S76), y_ = (([(⟨(⟨#[68, 79, 67]⟩ : ByteArray), 1, 1, (⟨#[114, 100]⟩ : ByteArray)⟩ : S76), (⟨(⟨#[73, 84, 77]⟩ : ByteArray), 1, 20, (⟨#[114, 110]⟩ : ByteArray)⟩ : S76)] : List (S76))) := ⟨_, rfl⟩
              replace H : (some y113) = some r := by first | (rw [hy113]; with_reducible exact H) | (have H2_ := (Option.bind_some _ _).symm.trans H; rw [hy113]; with_reducible exact H2_) | (have H2_ := (Option.bind_some _ _).symm.trans H; with_reducible exact H2_) | with_reducible exact H | (rw [hy113]; exact H) | exact H
              have Ny113 := Aside0.mk hy113
              clear hy113
              obtain rfl := Option.some.inj H
              have hnb41 := NB101_102.out
              have hnc41 := NB102_101.out
              have hnb42 := NB101_103.out
              have hnc42 := NB103_101.out
              have hcz43_0 : wc.cell? ⟨gb101, 0, none⟩ = some (.string (⟨#[68, 79, 67]⟩ : ByteArray)) := (blk_cell BK101.out 0).trans rfl
              have hcz43_1 : wc.cell? ⟨gb101, 1, none⟩ = some (.int .i64 1) := (blk_cell BK101.out 1).trans rfl
              have hcz43_2 : wc.cell? ⟨gb101, 2, none⟩ = some (.int .i64 1) := (blk_cell BK101.out 2).trans rfl
              have hcz43_3 : wc.cell? ⟨gb101, 3, none⟩ = some (.string (⟨#[114, 100]⟩ : ByteArray)) := (blk_cell BK101.out 3).trans rfl
              have hfz43_0 := blk_frozen BK101.out 0
              have hfz43_1 := blk_frozen BK101.out 1
              have hfz43_2 := blk_frozen BK101.out 2
              have hfz43_3 := blk_frozen BK101.out 3
              go_wp2_with (first | ((with_reducible refine gate_dst (N := 32) rfl ?_); refine Kd.R_lit k76 _ 76 ?hg (N := 32) ?hd (xs := ([(⟨(⟨#[68, 79, 67]⟩ : ByteArray), 1, 1, (⟨#[114, 100]⟩ : ByteArray)⟩ : S76), (⟨(⟨#[73, 84, 77]⟩ : ByteArray), 1, 20, (⟨#[114, 110]⟩ : ByteArray)⟩ : S76)] : List (S76))) (inner := [.string (⟨#[68, 79, 67]⟩ : ByteArray), .int .i64 1, .int .i64 1, .string (⟨#[114, 100]⟩ : ByteArray), .string (⟨#[73, 84, 77]⟩ : ByteArray), .int .i64 1, .int .i64 20, .string (⟨#[114, 110]⟩ : ByteArray)]) (ok := fun _ => True) (okp := fun _ => True) ?hr ?hp (fun _ hk => hk) trivial (Below.refl _ _) (Nat.le_refl _) (by simp) ?_; (case hd => rfl); (case hg => rfl); (case hr => first | (go_simp; done) | (go_simp; rfl)); (case hp => exact (Reps.c4 (show Kd.M k76 _ _ _ (⟨(⟨#[68, 79, 67]⟩ : ByteArray), 1, 1, (⟨#[114, 100]⟩ : ByteArray)⟩ : S76) [.string (⟨#[68, 79, 67]⟩ : ByteArray), .int .i64 1, .int .i64 1, .string (⟨#[114, 100]⟩ : ByteArray)] from (k76_mkM _ _ _ (⟨(⟨#[68, 79, 67]⟩ : ByteArray), 1, 1, (⟨#[114, 100]⟩ : ByteArray)⟩ : S76) )) (Reps.c4 (show Kd.M k76 _ _ _ (⟨(⟨#[73, 84, 77]⟩ : ByteArray), 1, 20, (⟨#[114, 110]⟩ : ByteArray)⟩ : S76) [.string (⟨#[73, 84, 77]⟩ : ByteArray), .int .i64 1, .int .i64 20, .string (⟨#[114, 110]⟩ : ByteArray)] from (k76_mkM _ _ _ (⟨(⟨#[73, 84, 77]⟩ : ByteArray), 1, 20, (⟨#[114, 110]⟩ : ByteArray)⟩ : S76) )) (Reps.none _ _)))); intro v114 w44 ho45 hb hg_ hnew_; clear hg_ hnew_; (first | rw [← Ny113.out] at ho45 | (simp only [Int.reduceToNat] at ho45; rw [← Ny113.out] at ho45)); have n0_ := Aside0.mk (Kd.R_lower (Kd.R_newB (Kd.R_newB (Kd.R_newB ho45 (g := gb101) (o := .cells #[.string (⟨#[68, 79, 67]⟩ : ByteArray), .int .i64 1, .int .i64 1, .string (⟨#[114, 100]⟩ : ByteArray)] 76 (0, 0)) (by (with_reducible repeat (first | refine blk_drewN ?_ _ | refine blk_drew ?_ | refine blk_alloc ?_ _)); exact BK101.out)) (g := gb102) (o := .cells #[.string (⟨#[68, 79, 67]⟩ : ByteArray), .int .i64 1, .int .i64 1, .string (⟨#[114, 114, 100]⟩ : ByteArray)] 76 (0, 0)) (by (with_reducible repeat (first | refine blk_drewN ?_ _ | refine blk_drew ?_ | refine blk_alloc ?_ _)); exact BK102.out)) (g := gb103) (o := .cells #[.string (⟨#[78, 79, 84]⟩ : ByteArray), .int .i64 0, .int .i64 2, .string (⟨#[116]⟩ : ByteArray)] 76 (0, 0)) (by (with_reducible repeat (first | refine blk_drewN ?_ _ | refine blk_drew ?_ | refine blk_alloc ?_ _)); exact BK103.out)) (below_size (by repeat (first | (with_reducible first | exact HB.out | apply below_alloc | apply pw_below_drewN | apply below_drew1 | refine below_set ?_ GE101.out | refine below_set ?_ GE102.out | refine below_set ?_ GE103.out) | exact HB.out)))); have n1_ := Aside0.mk (blk_below (g := gb101) (o := .cells #[.string (⟨#[68, 79, 67]⟩ : ByteArray), .int .i64 1, .int .i64 1, .string (⟨#[114, 100]⟩ : ByteArray)] 76 (0, 0)) (by (with_reducible repeat (first | refine blk_drewN ?_ _ | refine blk_drew ?_ | refine blk_alloc ?_ _)); exact BK101.out) hb); have n2_ := Aside0.mk (blk_below (g := gb102) (o := .cells #[.string (⟨#[68, 79, 67]⟩ : ByteArray), .int .i64 1, .int .i64 1, .string (⟨#[114, 114, 100]⟩ : ByteArray)] 76 (0, 0)) (by (with_reducible repeat (first | refine blk_drewN ?_ _ | refine blk_drew ?_ | refine blk_alloc ?_ _)); exact BK102.out) hb); have n3_ := Aside0.mk (blk_below (g := gb103) (o := .cells #[.string (⟨#[78, 79, 84]⟩ : ByteArray), .int .i64 0, .int .i64 2, .string (⟨#[116]⟩ : ByteArray)] 76 (0, 0)) (by (with_reducible repeat (first | refine blk_drewN ?_ _ | refine blk_drew ?_ | refine blk_alloc ?_ _)); exact BK103.out) hb); have n4_ := Aside0.mk (below_step (by repeat (first | (with_reducible first | exact HB.out | apply below_alloc | apply pw_below_drewN | apply below_drew1 | refine below_set ?_ GE101.out | refine below_set ?_ GE102.out | refine below_set ?_ GE103.out) | exact HB.out)) hb); clear BK101; clear BK102; clear BK103; clear HB; have HO115 := n0_; have BK101 := n1_; have BK102 := n2_; have BK103 := n3_; have HB := n4_; clear n0_ n1_ n2_ n3_ n4_; clear hb ho45))
              go_ret
              exact ⟨_, by first | rfl | (simp [errW_none, errW_some] <;> rfl) | (simp [*, errW_none, errW_some] <;> rfl), by (with_reducible repeat (first | apply Kd.R_alloc | apply Kd.R_drewN | apply Kd.R_drew)); exact Kd.R_mono HO115.out (fun _ hk => trivial), by repeat (first | (with_reducible first | exact HB.out | apply below_alloc | apply pw_below_drewN | apply below_drew1 | refine below_set ?_ GE101.out | refine below_set ?_ GE102.out | refine below_set ?_ GE103.out) | exact HB.out)⟩
            · rw [if_neg c40] at H
              have c40b0 : (a0 == 5) = false := beq_eq_false_iff_ne.mpr c40
              have c40b1 : (a0 != 5) = true := bne_iff_ne.mpr c40
              by_cases c46 : a0 = 6
              · rw [if_pos c46] at H
                have c46b0 : (a0 == 6) = true := beq_iff_eq.mpr c46
                have c46b1 : (a0 != 6) = false := bne_eq_false_iff_eq.mpr c46
                clear c46
                obtain ⟨y116, hy116⟩ : ∃ y_ : List (S76), y_ = (([(⟨(⟨#[68, 79, 67]⟩ : ByteArray), 1, 1, (⟨#[114, 100]⟩ : ByteArray)⟩ : S76), (⟨(⟨#[73, 84, 77]⟩ : ByteArray), 1, 20, (⟨#[114, 122, 63, 116]⟩ : ByteArray)⟩ : S76)] : List (S76))) := ⟨_, rfl⟩
                replace H : (some y116) = some r := by first | (rw [hy116]; with_reducible exact H) | (have H2_ := (Option.bind_some _ _).symm.trans H; rw [hy116]; with_reducible exact H2_) | (have H2_ := (Option.bind_some _ _).symm.trans H; with_reducible exact H2_) | with_reducible exact H | (rw [hy116]; exact H) | exact H
                have Ny116 := Aside0.mk hy116
                clear hy116
                obtain rfl := Option.some.inj H
                have hnb47 := NB101_102.out
                have hnc47 := NB102_101.out
                have hnb48 := NB101_103.out
                have hnc48 := NB103_101.out
                have hcz49_0 : wc.cell? ⟨gb101, 0, none⟩ = some (.string (⟨#[68, 79, 67]⟩ : ByteArray)) := (blk_cell BK101.out 0).trans rfl
                have hcz49_1 : wc.cell? ⟨gb101, 1, none⟩ = some (.int .i64 1) := (blk_cell BK101.out 1).trans rfl
                have hcz49_2 : wc.cell? ⟨gb101, 2, none⟩ = some (.int .i64 1) := (blk_cell BK101.out 2).trans rfl
                have hcz49_3 : wc.cell? ⟨gb101, 3, none⟩ = some (.string (⟨#[114, 100]⟩ : ByteArray)) := (blk_cell BK101.out 3).trans rfl
                have hfz49_0 := blk_frozen BK101.out 0
                have hfz49_1 := blk_frozen BK101.out 1
                have hfz49_2 := blk_frozen BK101.out 2
                have hfz49_3 := blk_frozen BK101.out 3
                go_wp2_with (first | ((with_reducible refine gate_dst (N := 37) rfl ?_); refine Kd.R_lit k76 _ 76 ?hg (N := 37) ?hd (xs := ([(⟨(⟨#[68, 79, 67]⟩ : ByteArray), 1, 1, (⟨#[114, 100]⟩ : ByteArray)⟩ : S76), (⟨(⟨#[73, 84, 77]⟩ : ByteArray), 1, 20, (⟨#[114, 122, 63, 116]⟩ : ByteArray)⟩ : S76)] : List (S76))) (inner := [.string (⟨#[68, 79, 67]⟩ : ByteArray), .int .i64 1, .int .i64 1, .string (⟨#[114, 100]⟩ : ByteArray), .string (⟨#[73, 84, 77]⟩ : ByteArray), .int .i64 1, .int .i64 20, .string (⟨#[114, 122, 63, 116]⟩ : ByteArray)]) (ok := fun _ => True) (okp := fun _ => True) ?hr ?hp (fun _ hk => hk) trivial (Below.refl _ _) (Nat.le_refl _) (by simp) ?_; (case hd => rfl); (case hg => rfl); (case hr => first | (go_simp; done) | (go_simp; rfl)); (case hp => exact (Reps.c4 (show Kd.M k76 _ _ _ (⟨(⟨#[68, 79, 67]⟩ : ByteArray), 1, 1, (⟨#[114, 100]⟩ : ByteArray)⟩ : S76) [.string (⟨#[68, 79, 67]⟩ : ByteArray), .int .i64 1, .int .i64 1, .string (⟨#[114, 100]⟩ : ByteArray)] from (k76_mkM _ _ _ (⟨(⟨#[68, 79, 67]⟩ : ByteArray), 1, 1, (⟨#[114, 100]⟩ : ByteArray)⟩ : S76) )) (Reps.c4 (show Kd.M k76 _ _ _ (⟨(⟨#[73, 84, 77]⟩ : ByteArray), 1, 20, (⟨#[114, 122, 63, 116]⟩ : ByteArray)⟩ : S76) [.string (⟨#[73, 84, 77]⟩ : ByteArray), .int .i64 1, .int .i64 20, .string (⟨#[114, 122, 63, 116]⟩ : ByteArray)] from (k76_mkM _ _ _ (⟨(⟨#[73, 84, 77]⟩ : ByteArray), 1, 20, (⟨#[114, 122, 63, 116]⟩ : ByteArray)⟩ : S76) )) (Reps.none _ _)))); intro v117 w50 ho51 hb hg_ hnew_; clear hg_ hnew_; (first | rw [← Ny116.out] at ho51 | (simp only [Int.reduceToNat] at ho51; rw [← Ny116.out] at ho51)); have n0_ := Aside0.mk (Kd.R_lower (Kd.R_newB (Kd.R_newB (Kd.R_newB ho51 (g := gb101) (o := .cells #[.string (⟨#[68, 79, 67]⟩ : ByteArray), .int .i64 1, .int .i64 1, .string (⟨#[114, 100]⟩ : ByteArray)] 76 (0, 0)) (by (with_reducible repeat (first | refine blk_drewN ?_ _ | refine blk_drew ?_ | refine blk_alloc ?_ _)); exact BK101.out)) (g := gb102) (o := .cells #[.string (⟨#[68, 79, 67]⟩ : ByteArray), .int .i64 1, .int .i64 1, .string (⟨#[114, 114, 100]⟩ : ByteArray)] 76 (0, 0)) (by (with_reducible repeat (first | refine blk_drewN ?_ _ | refine blk_drew ?_ | refine blk_alloc ?_ _)); exact BK102.out)) (g := gb103) (o := .cells #[.string (⟨#[78, 79, 84]⟩ : ByteArray), .int .i64 0, .int .i64 2, .string (⟨#[116]⟩ : ByteArray)] 76 (0, 0)) (by (with_reducible repeat (first | refine blk_drewN ?_ _ | refine blk_drew ?_ | refine blk_alloc ?_ _)); exact BK103.out)) (below_size (by repeat (first | (with_reducible first | exact HB.out | apply below_alloc | apply pw_below_drewN | apply below_drew1 | refine below_set ?_ GE101.out | refine below_set ?_ GE102.out | refine below_set ?_ GE103.out) | exact HB.out)))); have n1_ := Aside0.mk (blk_below (g := gb101) (o := .cells #[.string (⟨#[68, 79, 67]⟩ : ByteArray), .int .i64 1, .int .i64 1, .string (⟨#[114, 100]⟩ : ByteArray)] 76 (0, 0)) (by (with_reducible repeat (first | refine blk_drewN ?_ _ | refine blk_drew ?_ | refine blk_alloc ?_ _)); exact BK101.out) hb); have n2_ := Aside0.mk (blk_below (g := gb102) (o := .cells #[.string (⟨#[68, 79, 67]⟩ : ByteArray), .int .i64 1, .int .i64 1, .string (⟨#[114, 114, 100]⟩ : ByteArray)] 76 (0, 0)) (by (with_reducible repeat (first | refine blk_drewN ?_ _ | refine blk_drew ?_ | refine blk_alloc ?_ _)); exact BK102.out) hb); have n3_ := Aside0.mk (blk_below (g := gb103) (o := .cells #[.string (⟨#[78, 79, 84]⟩ : ByteArray), .int .i64 0, .int .i64 2, .string (⟨#[116]⟩ : ByteArray)] 76 (0, 0)) (by (with_reducible repeat (first | refine blk_drewN ?_ _ | refine blk_drew ?_ | refine blk_alloc ?_ _)); exact BK103.out) hb); have n4_ := Aside0.mk (below_step (by repeat (first | (with_reducible first | exact HB.out | apply below_alloc | apply pw_below_drewN | apply below_drew1 | refine below_set ?_ GE101.out | refine below_set ?_ GE102.out | refine below_set ?_ GE103.out) | exact HB.out)) hb); clear BK101; clear BK102; clear BK103; clear HB; have HO118 := n0_; have BK101 := n1_; have BK102 := n2_; have BK103 := n3_; have HB := n4_; clear n0_ n1_ n2_ n3_ n4_; clear hb ho51))
                go_ret
                exact ⟨_, by first | rfl | (simp [errW_none, errW_some] <;> rfl) | (simp [*, errW_none, errW_some] <;> rfl), by (with_reducible repeat (first | apply Kd.R_alloc | apply Kd.R_drewN | apply Kd.R_drew)); exact Kd.R_mono HO118.out (fun _ hk => trivial), by repeat (first | (with_reducible first | exact HB.out | apply below_alloc | apply pw_below_drewN | apply below_drew1 | refine below_set ?_ GE101.out | refine below_set ?_ GE102.out | refine below_set ?_ GE103.out) | exact HB.out)⟩
              · rw [if_neg c46] at H
                have c46b0 : (a0 == 6) = false := beq_eq_false_iff_ne.mpr c46
                have c46b1 : (a0 != 6) = true := bne_iff_ne.mpr c46
                by_cases c52 : a0 = 7
                · rw [if_pos c52] at H
                  have c52b0 : (a0 == 7) = true := beq_iff_eq.mpr c52
                  have c52b1 : (a0 != 7) = false := bne_eq_false_iff_eq.mpr c52
                  clear c52
                  obtain ⟨y119, hy119⟩ : ∃ y_ : List (S76), y_ = (([(⟨(⟨#[68, 79, 67]⟩ : ByteArray), 1, 1, (⟨#[114, 100]⟩ : ByteArray)⟩ : S76), (⟨(⟨#[65, 67, 75]⟩ : ByteArray), 1, 1, (⟨#[110, 110, 63, 110]⟩ : ByteArray)⟩ : S76)] : List (S76))) := ⟨_, rfl⟩
                  replace H : (some y119) = some r := by first | (rw [hy119]; with_reducible exact H) | (have H2_ := (Option.bind_some _ _).symm.trans H; rw [hy119]; with_reducible exact H2_) | (have H2_ := (Option.bind_some _ _).symm.trans H; with_reducible exact H2_) | with_reducible exact H | (rw [hy119]; exact H) | exact H
                  have Ny119 := Aside0.mk hy119
                  clear hy119
                  obtain rfl := Option.some.inj H
                  have hnb53 := NB101_102.out
                  have hnc53 := NB102_101.out
                  have hnb54 := NB101_103.out
                  have hnc54 := NB103_101.out
                  have hcz55_0 : wc.cell? ⟨gb101, 0, none⟩ = some (.string (⟨#[68, 79, 67]⟩ : ByteArray)) := (blk_cell BK101.out 0).trans rfl
                  have hcz55_1 : wc.cell? ⟨gb101, 1, none⟩ = some (.int .i64 1) := (blk_cell BK101.out 1).trans rfl
                  have hcz55_2 : wc.cell? ⟨gb101, 2, none⟩ = some (.int .i64 1) := (blk_cell BK101.out 2).trans rfl
                  have hcz55_3 : wc.cell? ⟨gb101, 3, none⟩ = some (.string (⟨#[114, 100]⟩ : ByteArray)) := (blk_cell BK101.out 3).trans rfl
                  have hfz55_0 := blk_frozen BK101.out 0
                  have hfz55_1 := blk_frozen BK101.out 1
                  have hfz55_2 := blk_frozen BK101.out 2
                  have hfz55_3 := blk_frozen BK101.out 3
                  go_wp2_with (first | ((with_reducible refine gate_dst (N := 42) rfl ?_); refine Kd.R_lit k76 _ 76 ?hg (N := 42) ?hd (xs := ([(⟨(⟨#[68, 79, 67]⟩ : ByteArray), 1, 1, (⟨#[114, 100]⟩ : ByteArray)⟩ : S76), (⟨(⟨#[65, 67, 75]⟩ : ByteArray), 1, 1, (⟨#[110, 110, 63, 110]⟩ : ByteArray)⟩ : S76)] : List (S76))) (inner := [.string (⟨#[68, 79, 67]⟩ : ByteArray), .int .i64 1, .int .i64 1, .string (⟨#[114, 100]⟩ : ByteArray), .string (⟨#[65, 67, 75]⟩ : ByteArray), .int .i64 1, .int .i64 1, .string (⟨#[110, 110, 63, 110]⟩ : ByteArray)]) (ok := fun _ => True) (okp := fun _ => True) ?hr ?hp (fun _ hk => hk) trivial (Below.refl _ _) (Nat.le_refl _) (by simp) ?_; (case hd => rfl); (case hg => rfl); (case hr => first | (go_simp; done) | (go_simp; rfl)); (case hp => exact (Reps.c4 (show Kd.M k76 _ _ _ (⟨(⟨#[68, 79, 67]⟩ : ByteArray), 1, 1, (⟨#[114, 100]⟩ : ByteArray)⟩ : S76) [.string (⟨#[68, 79, 67]⟩ : ByteArray), .int .i64 1, .int .i64 1, .string (⟨#[114, 100]⟩ : ByteArray)] from (k76_mkM _ _ _ (⟨(⟨#[68, 79, 67]⟩ : ByteArray), 1, 1, (⟨#[114, 100]⟩ : ByteArray)⟩ : S76) )) (Reps.c4 (show Kd.M k76 _ _ _ (⟨(⟨#[65, 67, 75]⟩ : ByteArray), 1, 1, (⟨#[110, 110, 63, 110]⟩ : ByteArray)⟩ : S76) [.string (⟨#[65, 67, 75]⟩ : ByteArray), .int .i64 1, .int .i64 1, .string (⟨#[110, 110, 63, 110]⟩ : ByteArray)] from (k76_mkM _ _ _ (⟨(⟨#[65, 67, 75]⟩ : ByteArray), 1, 1, (⟨#[110, 110, 63, 110]⟩ : ByteArray)⟩ : S76) )) (Reps.none _ _)))); intro v120 w56 ho57 hb hg_ hnew_; clear hg_ hnew_; (first | rw [← Ny119.out] at ho57 | (simp only [Int.reduceToNat] at ho57; rw [← Ny119.out] at ho57)); have n0_ := Aside0.mk (Kd.R_lower (Kd.R_newB (Kd.R_newB (Kd.R_newB ho57 (g := gb101) (o := .cells #[.string (⟨#[68, 79, 67]⟩ : ByteArray), .int .i64 1, .int .i64 1, .string (⟨#[114, 100]⟩ : ByteArray)] 76 (0, 0)) (by (with_reducible repeat (first | refine blk_drewN ?_ _ | refine blk_drew ?_ | refine blk_alloc ?_ _)); exact BK101.out)) (g := gb102) (o := .cells #[.string (⟨#[68, 79, 67]⟩ : ByteArray), .int .i64 1, .int .i64 1, .string (⟨#[114, 114, 100]⟩ : ByteArray)] 76 (0, 0)) (by (with_reducible repeat (first | refine blk_drewN ?_ _ | refine blk_drew ?_ | refine blk_alloc ?_ _)); exact BK102.out)) (g := gb103) (o := .cells #[.string (⟨#[78, 79, 84]⟩ : ByteArray), .int .i64 0, .int .i64 2, .string (⟨#[116]⟩ : ByteArray)] 76 (0, 0)) (by (with_reducible repeat (first | refine blk_drewN ?_ _ | refine blk_drew ?_ | refine blk_alloc ?_ _)); exact BK103.out)) (below_size (by repeat (first | (with_reducible first | exact HB.out | apply below_alloc | apply pw_below_drewN | apply below_drew1 | refine below_set ?_ GE101.out | refine below_set ?_ GE102.out | refine below_set ?_ GE103.out) | exact HB.out)))); have n1_ := Aside0.mk (blk_below (g := gb101) (o := .cells #[.string (⟨#[68, 79, 67]⟩ : ByteArray), .int .i64 1, .int .i64 1, .string (⟨#[114, 100]⟩ : ByteArray)] 76 (0, 0)) (by (with_reducible repeat (first | refine blk_drewN ?_ _ | refine blk_drew ?_ | refine blk_alloc ?_ _)); exact BK101.out) hb); have n2_ := Aside0.mk (blk_below (g := gb102) (o := .cells #[.string (⟨#[68, 79, 67]⟩ : ByteArray), .int .i64 1, .int .i64 1, .string (⟨#[114, 114, 100]⟩ : ByteArray)] 76 (0, 0)) (by (with_reducible repeat (first | refine blk_drewN ?_ _ | refine blk_drew ?_ | refine blk_alloc ?_ _)); exact BK102.out) hb); have n3_ := Aside0.mk (blk_below (g := gb103) (o := .cells #[.string (⟨#[78, 79, 84]⟩ : ByteArray), .int .i64 0, .int .i64 2, .string (⟨#[116]⟩ : ByteArray)] 76 (0, 0)) (by (with_reducible repeat (first | refine blk_drewN ?_ _ | refine blk_drew ?_ | refine blk_alloc ?_ _)); exact BK103.out) hb); have n4_ := Aside0.mk (below_step (by repeat (first | (with_reducible first | exact HB.out | apply below_alloc | apply pw_below_drewN | apply below_drew1 | refine below_set ?_ GE101.out | refine below_set ?_ GE102.out | refine below_set ?_ GE103.out) | exact HB.out)) hb); clear BK101; clear BK102; clear BK103; clear HB; have HO121 := n0_; have BK101 := n1_; have BK102 := n2_; have BK103 := n3_; have HB := n4_; clear n0_ n1_ n2_ n3_ n4_; clear hb ho57))
                  go_ret
                  exact ⟨_, by first | rfl | (simp [errW_none, errW_some] <;> rfl) | (simp [*, errW_none, errW_some] <;> rfl), by (with_reducible repeat (first | apply Kd.R_alloc | apply Kd.R_drewN | apply Kd.R_drew)); exact Kd.R_mono HO121.out (fun _ hk => trivial), by repeat (first | (with_reducible first | exact HB.out | apply below_alloc | apply pw_below_drewN | apply below_drew1 | refine below_set ?_ GE101.out | refine below_set ?_ GE102.out | refine below_set ?_ GE103.out) | exact HB.out)⟩
                · rw [if_neg c52] at H
                  have c52b0 : (a0 == 7) = false := beq_eq_false_iff_ne.mpr c52
                  have c52b1 : (a0 != 7) = true := bne_iff_ne.mpr c52
                  obtain ⟨y122, hy122⟩ : ∃ y_ : List (S76), y_ = (([] : List (S76))) := ⟨_, rfl⟩
                  replace H : (some y122) = some r := by first | (rw [hy122]; with_reducible exact H) | (have H2_ := (Option.bind_some _ _).symm.trans H; rw [hy122]; with_reducible exact H2_) | (have H2_ := (Option.bind_some _ _).symm.trans H; with_reducible exact H2_) | with_reducible exact H | (rw [hy122]; exact H) | exact H
                  have Ny122 := Aside0.mk hy122
                  clear hy122
                  obtain rfl := Option.some.inj H
                  go_wp2_with (first | ((with_reducible refine gate_dst (N := 43) rfl ?_); refine Kd.R_lit k76 _ 76 ?hg (N := 43) ?hd (xs := ([] : List (S76))) (inner := []) (ok := fun _ => True) (okp := fun _ => True) ?hr ?hp (fun _ hk => hk) trivial (Below.refl _ _) (Nat.le_refl _) (by simp) ?_; (case hd => rfl); (case hg => rfl); (case hr => first | (go_simp; done) | (go_simp; rfl)); (case hp => exact (Reps.none _ _)); intro v123 w58 ho59 hb hg_ hnew_; clear hg_ hnew_; (first | rw [← Ny122.out] at ho59 | (simp only [Int.reduceToNat] at ho59; rw [← Ny122.out] at ho59)); have n0_ := Aside0.mk (Kd.R_lower (Kd.R_newB (Kd.R_newB (Kd.R_newB ho59 (g := gb101) (o := .cells #[.string (⟨#[68, 79, 67]⟩ : ByteArray), .int .i64 1, .int .i64 1, .string (⟨#[114, 100]⟩ : ByteArray)] 76 (0, 0)) (by (with_reducible repeat (first | refine blk_drewN ?_ _ | refine blk_drew ?_ | refine blk_alloc ?_ _)); exact BK101.out)) (g := gb102) (o := .cells #[.string (⟨#[68, 79, 67]⟩ : ByteArray), .int .i64 1, .int .i64 1, .string (⟨#[114, 114, 100]⟩ : ByteArray)] 76 (0, 0)) (by (with_reducible repeat (first | refine blk_drewN ?_ _ | refine blk_drew ?_ | refine blk_alloc ?_ _)); exact BK102.out)) (g := gb103) (o := .cells #[.string (⟨#[78, 79, 84]⟩ : ByteArray), .int .i64 0, .int .i64 2, .string (⟨#[116]⟩ : ByteArray)] 76 (0, 0)) (by (with_reducible repeat (first | refine blk_drewN ?_ _ | refine blk_drew ?_ | refine blk_alloc ?_ _)); exact BK103.out)) (below_size (by repeat (first | (with_reducible first | exact HB.out | apply below_alloc | apply pw_below_drewN | apply below_drew1 | refine below_set ?_ GE101.out | refine below_set ?_ GE102.out | refine below_set ?_ GE103.out) | exact HB.out)))); have n1_ := Aside0.mk (blk_below (g := gb101) (o := .cells #[.string (⟨#[68, 79, 67]⟩ : ByteArray), .int .i64 1, .int .i64 1, .string (⟨#[114, 100]⟩ : ByteArray)] 76 (0, 0)) (by (with_reducible repeat (first | refine blk_drewN ?_ _ | refine blk_drew ?_ | refine blk_alloc ?_ _)); exact BK101.out) hb); have n2_ := Aside0.mk (blk_below (g := gb102) (o := .cells #[.string (⟨#[68, 79, 67]⟩ : ByteArray), .int .i64 1, .int .i64 1, .string (⟨#[114, 114, 100]⟩ : ByteArray)] 76 (0, 0)) (by (with_reducible repeat (first | refine blk_drewN ?_ _ | refine blk_drew ?_ | refine blk_alloc ?_ _)); exact BK102.out) hb); have n3_ := Aside0.mk (blk_below (g := gb103) (o := .cells #[.string (⟨#[78, 79, 84]⟩ : ByteArray), .int .i64 0, .int .i64 2, .string (⟨#[116]⟩ : ByteArray)] 76 (0, 0)) (by (with_reducible repeat (first | refine blk_drewN ?_ _ | refine blk_drew ?_ | refine blk_alloc ?_ _)); exact BK103.out) hb); have n4_ := Aside0.mk (below_step (by repeat (first | (with_reducible first | exact HB.out | apply below_alloc | apply pw_below_drewN | apply below_drew1 | refine below_set ?_ GE101.out | refine below_set ?_ GE102.out | refine below_set ?_ GE103.out) | exact HB.out)) hb); clear BK101; clear BK102; clear BK103; clear HB; have HO124 := n0_; have BK101 := n1_; have BK102 := n2_; have BK103 := n3_; have HB := n4_; clear n0_ n1_ n2_ n3_ n4_; clear hb ho59))
                  go_ret
                  exact ⟨_, by first | rfl | (simp [errW_none, errW_some] <;> rfl) | (simp [*, errW_none, errW_some] <;> rfl), by (with_reducible repeat (first | apply Kd.R_alloc | apply Kd.R_drewN | apply Kd.R_drew)); exact Kd.R_mono HO124.out (fun _ hk => trivial), by repeat (first | (with_reducible first | exact HB.out | apply below_alloc | apply pw_below_drewN | apply below_drew1 | refine below_set ?_ GE101.out | refine below_set ?_ GE102.out | refine below_set ?_ GE103.out) | exact HB.out)⟩

/-! ### impl_tableOf_1: function 80 -/
def impl_tableOf_1.f (a0 : ByteArray) : Option (ByteArray × Int × Int × ByteArray) := some ((⟨#[68, 79, 67]⟩ : ByteArray), 1, 1, a0)
set_option maxHeartbeats 8000000 in
set_option maxRecDepth 100000 in
theorem impl_tableOf_1.calls (a0 : ByteArray) (r1 : ByteArray) (r2 : Int) (r3 : Int) (r4 : ByteArray) (w : World) (h : impl_tableOf_1.f a0 = some (r1, r2, r3, r4)) :
    Calls Try.prog 80 #[.string a0] w fun e w' => e = .returned (.agg #[.string r1, .int .i64 r2, .int .i64 r3, .string r4]) ∧ Below w.heap.size w w' := by
  have hu76 := Try.underlying76
  have HB := Aside0.mk (Below.refl w.heap.size w)
  have H : (some ((⟨#[68, 79, 67]⟩ : ByteArray), 1, 1, a0)) = some (r1, r2, r3, r4) := h
  clear h
  simp only [Option.some.injEq, Prod.mk.injEq] at H
  obtain ⟨rfl, rfl, rfl, rfl⟩ := H
  go_enter Try.func80, Try.ntmps80
  go_wp2_with (first | ((with_reducible refine gate_dst (N := 2) rfl ?_); refine box_event ?hg (N := 2) ?hd (cs := #[.string (⟨#[]⟩ : ByteArray), .int .i64 0, .int .i64 0, .string (⟨#[]⟩ : ByteArray)]) (t := 76) ?hr ?_; (case hd => rfl); (case hg => rfl); (case hr => first | (go_simp; done) | (go_simp; rfl)); intro gb125 hg w2 hbox hb; have n0_ := Aside0.mk (below_step (by repeat (first | (with_reducible first | exact HB.out | apply below_alloc | apply pw_below_drewN | apply below_drew1) | exact HB.out)) hb); have n1_ := Aside0.mk (hbox); have n2_ := Aside0.mk ((by rw [hg]; exact (below_size (by repeat (first | (with_reducible first | exact HB.out | apply below_alloc | apply pw_below_drewN | apply below_drew1) | exact HB.out))) : w.heap.size ≤ gb125)); have n3_ := Aside0.mk ((by rw [hg]; exact (below_size (by repeat (first | (with_reducible first | exact HB.out | apply below_alloc | apply pw_below_drewN | apply below_drew1) | exact HB.out))) : w.heap.size ≤ gb125)); clear HB; have HB := n0_; have BK125 := n1_; have GW125 := n2_; have GE125 := n3_; clear n0_ n1_ n2_ n3_; clear hb hbox hg; have hcz3_0 : w2.cell? ⟨gb125, 0, none⟩ = some (.string (⟨#[]⟩ : ByteArray)) := (blk_cell BK125.out 0).trans rfl; have hcz3_1 : w2.cell? ⟨gb125, 1, none⟩ = some (.int .i64 0) := (blk_cell BK125.out 1).trans rfl; have hcz3_2 : w2.cell? ⟨gb125, 2, none⟩ = some (.int .i64 0) := (blk_cell BK125.out 2).trans rfl; have hcz3_3 : w2.cell? ⟨gb125, 3, none⟩ = some (.string (⟨#[]⟩ : ByteArray)) := (blk_cell BK125.out 3).trans rfl; have hfz3_0 := blk_frozen BK125.out 0; have hfz3_1 := blk_frozen BK125.out 1; have hfz3_2 := blk_frozen BK125.out 2; have hfz3_3 := blk_frozen BK125.out 3))
  refine bodyPost_ret (results_cell_row rfl _ _ gb125 76 #[.string (⟨#[68, 79, 67]⟩ : ByteArray), .int .i64 1, .int .i64 1, .string a0] (0, 0) _ rfl (by (with_reducible repeat (first | refine blk_drewN ?_ _ | refine blk_drew ?_ | refine blk_alloc ?_ _)); refine blk_put (cs := #[.string (⟨#[68, 79, 67]⟩ : ByteArray), .int .i64 1, .int .i64 1, .string (⟨#[]⟩ : ByteArray)]) ?_ 3 _ rfl; (with_reducible repeat (first | refine blk_drewN ?_ _ | refine blk_drew ?_ | refine blk_alloc ?_ _)); refine blk_put (cs := #[.string (⟨#[68, 79, 67]⟩ : ByteArray), .int .i64 1, .int .i64 0, .string (⟨#[]⟩ : ByteArray)]) ?_ 2 _ rfl; (with_reducible repeat (first | refine blk_drewN ?_ _ | refine blk_drew ?_ | refine blk_alloc ?_ _)); refine blk_put (cs := #[.string (⟨#[68, 79, 67]⟩ : ByteArray), .int .i64 0, .int .i64 0, .string (⟨#[]⟩ : ByteArray)]) ?_ 1 _ rfl; (with_reducible repeat (first | refine blk_drewN ?_ _ | refine blk_drew ?_ | refine blk_alloc ?_ _)); refine blk_put (cs := #[.string (⟨#[]⟩ : ByteArray), .int .i64 0, .int .i64 0, .string (⟨#[]⟩ : ByteArray)]) ?_ 0 _ rfl; (with_reducible repeat (first | refine blk_drewN ?_ _ | refine blk_drew ?_ | refine blk_alloc ?_ _)); exact BK125.out) Try.underlying76 rfl (by kernel_rfl)) rfl ?_
  exact ⟨by first | rfl | (simp [errW_none, errW_some] <;> rfl) | (simp [*, errW_none, errW_some] <;> rfl), by repeat (first | (with_reducible first | exact HB.out | apply below_alloc | apply pw_below_drewN | apply below_drew1 | refine below_set ?_ GE125.out) | exact HB.out)⟩

/-! ### impl_tableOf_2: function 81 -/
def impl_tableOf_2.f (a0 : ByteArray) (a1 : ByteArray) : Option (ByteArray × Int × Int × ByteArray) := some (a0, 1, 20, a1)
set_option maxHeartbeats 8000000 in
set_option maxRecDepth 100000 in
theorem impl_tableOf_2.calls (a0 : ByteArray) (a1 : ByteArray) (r1 : ByteArray) (r2 : Int) (r3 : Int) (r4 : ByteArray) (w : World) (h : impl_tableOf_2.f a0 a1 = some (r1, r2, r3, r4)) :
    Calls Try.prog 81 #[.string a0, .string a1] w fun e w' => e = .returned (.agg #[.string r1, .int .i64 r2, .int .i64 r3, .string r4]) ∧ Below w.heap.size w w' := by
  have hu76 := Try.underlying76
  have HB := Aside0.mk (Below.refl w.heap.size w)
  have H : (some (a0, 1, 20, a1)) = some (r1, r2, r3, r4) := h
  clear h
  simp only [Option.some.injEq, Prod.mk.injEq] at H
  obtain ⟨rfl, rfl, rfl, rfl⟩ := H
  go_enter Try.func81, Try.ntmps81
  go_wp2_with (first | ((with_reducible refine gate_dst (N := 4) rfl ?_); refine box_event ?hg (N := 4) ?hd (cs := #[.string (⟨#[]⟩ : ByteArray), .int .i64 0, .int .i64 0, .string (⟨#[]⟩ : ByteArray)]) (t := 76) ?hr ?_; (case hd => rfl); (case hg => rfl); (case hr => first | (go_simp; done) | (go_simp; rfl)); intro gb126 hg w3 hbox hb; have n0_ := Aside0.mk (below_step (by repeat (first | (with_reducible first | exact HB.out | apply below_alloc | apply pw_below_drewN | apply below_drew1) | exact HB.out)) hb); have n1_ := Aside0.mk (hbox); have n2_ := Aside0.mk ((by rw [hg]; exact (below_size (by repeat (first | (with_reducible first | exact HB.out | apply below_alloc | apply pw_below_drewN | apply below_drew1) | exact HB.out))) : w.heap.size ≤ gb126)); have n3_ := Aside0.mk ((by rw [hg]; exact (below_size (by repeat (first | (with_reducible first | exact HB.out | apply below_alloc | apply pw_below_drewN | apply below_drew1) | exact HB.out))) : w.heap.size ≤ gb126)); clear HB; have HB := n0_; have BK126 := n1_; have GW126 := n2_; have GE126 := n3_; clear n0_ n1_ n2_ n3_; clear hb hbox hg; have hcz4_0 : w3.cell? ⟨gb126, 0, none⟩ = some (.string (⟨#[]⟩ : ByteArray)) := (blk_cell BK126.out 0).trans rfl; have hcz4_1 : w3.cell? ⟨gb126, 1, none⟩ = some (.int .i64 0) := (blk_cell BK126.out 1).trans rfl; have hcz4_2 : w3.cell? ⟨gb126, 2, none⟩ = some (.int .i64 0) := (blk_cell BK126.out 2).trans rfl; have hcz4_3 : w3.cell? ⟨gb126, 3, none⟩ = some (.string (⟨#[]⟩ : ByteArray)) := (blk_cell BK126.out 3).trans rfl; have hfz4_0 := blk_frozen BK126.out 0; have hfz4_1 := blk_frozen BK126.out 1; have hfz4_2 := blk_frozen BK126.out 2; have hfz4_3 := blk_frozen BK126.out 3))
  refine bodyPost_ret (results_cell_row rfl _ _ gb126 76 #[.string a0, .int .i64 1, .int .i64 20, .string a1] (0, 0) _ rfl (by (with_reducible repeat (first | refine blk_drewN ?_ _ | refine blk_drew ?_ | refine blk_alloc ?_ _)); refine blk_put (cs := #[.string a0, .int .i64 1, .int .i64 20, .string (⟨#[]⟩ : ByteArray)]) ?_ 3 _ rfl; (with_reducible repeat (first | refine blk_drewN ?_ _ | refine blk_drew ?_ | refine blk_alloc ?_ _)); refine blk_put (cs := #[.string a0, .int .i64 1, .int .i64 0, .string (⟨#[]⟩ : ByteArray)]) ?_ 2 _ rfl; (with_reducible repeat (first | refine blk_drewN ?_ _ | refine blk_drew ?_ | refine blk_alloc ?_ _)); refine blk_put (cs := #[.string a0, .int .i64 0, .int .i64 0, .string (⟨#[]⟩ : ByteArray)]) ?_ 1 _ rfl; (with_reducible repeat (first | refine blk_drewN ?_ _ | refine blk_drew ?_ | refine blk_alloc ?_ _)); refine blk_put (cs := #[.string (⟨#[]⟩ : ByteArray), .int .i64 0, .int .i64 0, .string (⟨#[]⟩ : ByteArray)]) ?_ 0 _ rfl; (with_reducible repeat (first | refine blk_drewN ?_ _ | refine blk_drew ?_ | refine blk_alloc ?_ _)); exact BK126.out) Try.underlying76 rfl (by kernel_rfl)) rfl ?_
  exact ⟨by first | rfl | (simp [errW_none, errW_some] <;> rfl) | (simp [*, errW_none, errW_some] <;> rfl), by repeat (first | (with_reducible first | exact HB.out | apply below_alloc | apply pw_below_drewN | apply below_drew1 | refine below_set ?_ GE126.out) | exact HB.out)⟩

/-! ### impl_tableOf: function 52 -/
def impl_tableOf.j0 : Nat → Int → Bool → ByteArray → Int → Int → ByteArray → Option ((List (S76)))
  | 0, _, _, _, _, _, _ => none
  | k + 1, x7, x16, x128000, x128001, x128002, x128003 => if x16 = true then ((impl_tableOf_1.f (⟨#[114, 114, 100]⟩ : ByteArray)).bind fun bt139 => ((impl_tableOf_2.f (⟨#[76, 73, 78]⟩ : ByteArray) (⟨#[110, 113, 63, 116]⟩ : ByteArray)).bind fun bt143 => (some (([(⟨bt139.1, bt139.2.1, bt139.2.2.1, bt139.2.2.2⟩ : S76), (⟨bt143.1, bt143.2.1, bt143.2.2.1, bt143.2.2.2⟩ : S76)] : List (S76)))))) else (if x7 = 3 then ((impl_tableOf_1.f (⟨#[114, 114, 100]⟩ : ByteArray)).bind fun bt150 => ((impl_tableOf_2.f (⟨#[76, 73, 78]⟩ : ByteArray) (⟨#[110, 113]⟩ : ByteArray)).bind fun bt154 => (some (([(⟨bt150.1, bt150.2.1, bt150.2.2.1, bt150.2.2.2⟩ : S76), (⟨x128000, x128001, x128002, x128003⟩ : S76), (⟨bt154.1, bt154.2.1, bt154.2.2.1, bt154.2.2.2⟩ : S76)] : List (S76)))))) else (if x7 = 5 then ((impl_tableOf_1.f (⟨#[114, 100]⟩ : ByteArray)).bind fun bt161 => ((impl_tableOf_2.f (⟨#[73, 84, 77]⟩ : ByteArray) (⟨#[114, 110]⟩ : ByteArray)).bind fun bt165 => (some (([(⟨bt161.1, bt161.2.1, bt161.2.2.1, bt161.2.2.2⟩ : S76), (⟨bt165.1, bt165.2.1, bt165.2.2.1, bt165.2.2.2⟩ : S76)] : List (S76)))))) else (if x7 = 6 then ((impl_tableOf_1.f (⟨#[114, 100]⟩ : ByteArray)).bind fun bt172 => ((impl_tableOf_2.f (⟨#[73, 84, 77]⟩ : ByteArray) (⟨#[114, 122, 63, 116]⟩ : ByteArray)).bind fun bt176 => (some (([(⟨bt172.1, bt172.2.1, bt172.2.2.1, bt172.2.2.2⟩ : S76), (⟨bt176.1, bt176.2.1, bt176.2.2.1, bt176.2.2.2⟩ : S76)] : List (S76)))))) else (if x7 = 7 then ((impl_tableOf_1.f (⟨#[114, 100]⟩ : ByteArray)).bind fun bt183 => (some (([(⟨bt183.1, bt183.2.1, bt183.2.2.1, bt183.2.2.2⟩ : S76), (⟨(⟨#[65, 67, 75]⟩ : ByteArray), 1, 1, (⟨#[110, 110, 63, 110]⟩ : ByteArray)⟩ : S76)] : List (S76))))) else (some ([] : List (S76)))))))
def impl_tableOf.f (k : Nat) (a0 : Int) : Option ((List (S76))) := if a0 = 1 then ((impl_tableOf_1.f (⟨#[114, 100]⟩ : ByteArray)).bind fun bt128 => ((impl_tableOf_2.f (⟨#[76, 73, 78]⟩ : ByteArray) (⟨#[110, 114, 113, 63, 110]⟩ : ByteArray)).bind fun bt132 => (some (([(⟨bt128.1, bt128.2.1, bt128.2.2.1, bt128.2.2.2⟩ : S76), (⟨(⟨#[78, 79, 84]⟩ : ByteArray), 0, 2, (⟨#[116]⟩ : ByteArray)⟩ : S76), (⟨bt132.1, bt132.2.1, bt132.2.2.1, bt132.2.2.2⟩ : S76)] : List (S76)))))) else (if a0 = 2 then (impl_tableOf.j0 k a0 (a0 == 2) (⟨#[78, 79, 84]⟩ : ByteArray) 0 2 (⟨#[116]⟩ : ByteArray)) else (impl_tableOf.j0 k a0 (a0 == 4) (⟨#[78, 79, 84]⟩ : ByteArray) 0 2 (⟨#[116]⟩ : ByteArray)))
theorem impl_tableOf.mono_l : ∀ k, (∀ y0 y1 y2 y3 y4 y5, LeO (impl_tableOf.j0 k y0 y1 y2 y3 y4 y5) (impl_tableOf.j0 (k + 1) y0 y1 y2 y3 y4 y5))
  | 0 => fun _ _ _ _ _ _ r h => by simp [impl_tableOf.j0] at h
  | k + 1 => by
    have ih0 := impl_tableOf.mono_l k
    · intro y0 y1 y2 y3 y4 y5
      unfold impl_tableOf.j0
      repeat' first
      | (with_reducible exact ih0 _ _ _ _ _ _)
      | (with_reducible exact LeO.refl _)
      | (with_reducible exact LeO.none _)
      | (with_reducible refine LeO.ite ?_ ?_)
      | (with_reducible refine LeO.bind ?_ (fun _ => ?_))
      | exact ih0 _ _ _ _ _ _
      | exact LeO.none _
      | refine LeO.ite ?_ ?_
      | refine LeO.bind ?_ (fun _ => ?_)
theorem impl_tableOf.mono : ∀ a0 k, LeO (impl_tableOf.f k a0) (impl_tableOf.f (k + 1) a0) := by
  intro a0 k
  have ih0 := impl_tableOf.mono_l k
  unfold impl_tableOf.f
  repeat' first
      | (with_reducible exact ih0 _ _ _ _ _ _)
      | (with_reducible exact LeO.refl _)
      | (with_reducible exact LeO.none _)
      | (with_reducible refine LeO.ite ?_ ?_)
      | (with_reducible refine LeO.bind ?_ (fun _ => ?_))
      | exact ih0 _ _ _ _ _ _
      | exact LeO.none _
      | refine LeO.ite ?_ ?_
      | refine LeO.bind ?_ (fun _ => ?_)
set_option maxHeartbeats 8000000 in
set_option maxRecDepth 100000 in
theorem impl_tableOf.calls (k : Nat) (a0 : Int) (r : List (S76)) (w : World) (h : impl_tableOf.f k a0 = some r) :
    Calls Try.prog 52 #[.int .i64 a0] w fun e w' => ∃ v0_ : Value, e = .returned (v0_) ∧ Kd.R k76 76 w' w.heap.size (fun _ => True) v0_ r ∧ Below w.heap.size w w' := by
  have hu76 := Try.underlying76
  have HB := Aside0.mk (Below.refl w.heap.size w)
  have H : (if a0 = 1 then ((impl_tableOf_1.f (⟨#[114, 100]⟩ : ByteArray)).bind fun bt128 => ((impl_tableOf_2.f (⟨#[76, 73, 78]⟩ : ByteArray) (⟨#[110, 114, 113, 63, 110]⟩ : ByteArray)).bind fun bt132 => (some (([(⟨bt128.1, bt128.2.1, bt128.2.2.1, bt128.2.2.2⟩ : S76), (⟨(⟨#[78, 79, 84]⟩ : ByteArray), 0, 2, (⟨#[116]⟩ : ByteArray)⟩ : S76), (⟨bt132.1, bt132.2.1, bt132.2.2.1, bt132.2.2.2⟩ : S76)] : List (S76)))))) else (if a0 = 2 then (impl_tableOf.j0 k a0 (a0 == 2) (⟨#[78, 79, 84]⟩ : ByteArray) 0 2 (⟨#[116]⟩ : ByteArray)) else (impl_tableOf.j0 k a0 (a0 == 4) (⟨#[78, 79, 84]⟩ : ByteArray) 0 2 (⟨#[116]⟩ : ByteArray)))) = some r := h
  clear h
  by_cases c2 : a0 = 1
  · rw [if_pos c2] at H
    have c2b0 : (a0 == 1) = true := beq_iff_eq.mpr c2
    have c2b1 : (a0 != 1) = false := bne_eq_false_iff_eq.mpr c2
    clear c2
    replace H := Option.bind_eq_some_iff.mp H
    obtain ⟨⟨t128, t129, t130, t131⟩, A30, H⟩ := H
    replace H : ((impl_tableOf_2.f (⟨#[76, 73, 78]⟩ : ByteArray) (⟨#[110, 114, 113, 63, 110]⟩ : ByteArray)).bind fun bt132 => (some (([(⟨t128, t129, t130, t131⟩ : S76), (⟨(⟨#[78, 79, 84]⟩ : ByteArray), 0, 2, (⟨#[116]⟩ : ByteArray)⟩ : S76), (⟨bt132.1, bt132.2.1, bt132.2.2.1, bt132.2.2.2⟩ : S76)] : List (S76))))) = some r := H
    have A3 := Aside0.mk A30
    clear A30
    replace H := Option.bind_eq_some_iff.mp H
    obtain ⟨⟨t132, t133, t134, t135⟩, A40, H⟩ := H
    replace H : (some (([(⟨t128, t129, t130, t131⟩ : S76), (⟨(⟨#[78, 79, 84]⟩ : ByteArray), 0, 2, (⟨#[116]⟩ : ByteArray)⟩ : S76), (⟨t132, t133, t134, t135⟩ : S76)] : List (S76)))) = some r := H
    have A4 := Aside0.mk A40
    clear A40
    obtain ⟨y136, hy136⟩ : ∃ y_ : List (S76), y_ = (([(⟨t128, t129, t130, t131⟩ : S76), (⟨(⟨#[78, 79, 84]⟩ : ByteArray), 0, 2, (⟨#[116]⟩ : ByteArray)⟩ : S76), (⟨t132, t133, t134, t135⟩ : S76)] : List (S76))) := ⟨_, rfl⟩
    replace H : (some y136) = some r := by first | (rw [hy136]; with_reducible exact H) | (have H2_ := (Option.bind_some _ _).symm.trans H; rw [hy136]; with_reducible exact H2_) | (have H2_ := (Option.bind_some _ _).symm.trans H; with_reducible exact H2_) | with_reducible exact H | (rw [hy136]; exact H) | exact H
    have Ny136 := Aside0.mk hy136
    clear hy136
    obtain rfl := Option.some.inj H
    go_enter Try.func52, Try.ntmps52
    try go_wp2_with (first | ((with_reducible refine gate_dst (N := 4) rfl ?_); refine box_event ?hg (N := 4) ?hd (cs := #[.string (⟨#[]⟩ : ByteArray), .int .i64 0, .int .i64 0, .string (⟨#[]⟩ : ByteArray)]) (t := 76) ?hr ?_; (case hd => rfl); (case hg => rfl); (case hr => first | (go_simp; done) | (go_simp; rfl)); intro gb127 hg w5 hbox hb; have n0_ := Aside0.mk (below_step (by repeat (first | (with_reducible first | exact HB.out | apply below_alloc | apply pw_below_drewN | apply below_drew1) | exact HB.out)) hb); have n1_ := Aside0.mk (hbox); have n2_ := Aside0.mk ((by rw [hg]; exact (below_size (by repeat (first | (with_reducible first | exact HB.out | apply below_alloc | apply pw_below_drewN | apply below_drew1) | exact HB.out))) : w.heap.size ≤ gb127)); have n3_ := Aside0.mk ((by rw [hg]; exact (below_size (by repeat (first | (with_reducible first | exact HB.out | apply below_alloc | apply pw_below_drewN | apply below_drew1) | exact HB.out))) : w.heap.size ≤ gb127)); clear HB; have HB := n0_; have BK127 := n1_; have GW127 := n2_; have GE127 := n3_; clear n0_ n1_ n2_ n3_; clear hb hbox hg; have hcz6_0 : w5.cell? ⟨gb127, 0, none⟩ = some (.string (⟨#[]⟩ : ByteArray)) := (blk_cell BK127.out 0).trans rfl; have hcz6_1 : w5.cell? ⟨gb127, 1, none⟩ = some (.int .i64 0) := (blk_cell BK127.out 1).trans rfl; have hcz6_2 : w5.cell? ⟨gb127, 2, none⟩ = some (.int .i64 0) := (blk_cell BK127.out 2).trans rfl; have hcz6_3 : w5.cell? ⟨gb127, 3, none⟩ = some (.string (⟨#[]⟩ : ByteArray)) := (blk_cell BK127.out 3).trans rfl; have hfz6_0 := blk_frozen BK127.out 0; have hfz6_1 := blk_frozen BK127.out 1; have hfz6_2 := blk_frozen BK127.out 2; have hfz6_3 := blk_frozen BK127.out 3))
    have n0_ : Aside0 (((((w5.setCell ⟨gb127, 0, none⟩ (.string (⟨#[78, 79, 84]⟩ : ByteArray))).setCell ⟨gb127, 1, none⟩ (.int .i64 0)).setCell ⟨gb127, 2, none⟩ (.int .i64 2)).setCell ⟨gb127, 3, none⟩ (.string (⟨#[116]⟩ : ByteArray))).heap[gb127]? = some (.cells #[.string (⟨#[78, 79, 84]⟩ : ByteArray), .int .i64 0, .int .i64 2, .string (⟨#[116]⟩ : ByteArray)] 76 (0, 0))) := ⟨by (with_reducible repeat (first | refine blk_drewN ?_ _ | refine blk_drew ?_ | refine blk_alloc ?_ _)); refine blk_put (cs := #[.string (⟨#[78, 79, 84]⟩ : ByteArray), .int .i64 0, .int .i64 2, .string (⟨#[]⟩ : ByteArray)]) ?_ 3 _ rfl; (with_reducible repeat (first | refine blk_drewN ?_ _ | refine blk_drew ?_ | refine blk_alloc ?_ _)); refine blk_put (cs := #[.string (⟨#[78, 79, 84]⟩ : ByteArray), .int .i64 0, .int .i64 0, .string (⟨#[]⟩ : ByteArray)]) ?_ 2 _ rfl; (with_reducible repeat (first | refine blk_drewN ?_ _ | refine blk_drew ?_ | refine blk_alloc ?_ _)); refine blk_put (cs := #[.string (⟨#[78, 79, 84]⟩ : ByteArray), .int .i64 0, .int .i64 0, .string (⟨#[]⟩ : ByteArray)]) ?_ 1 _ rfl; (with_reducible repeat (first | refine blk_drewN ?_ _ | refine blk_drew ?_ | refine blk_alloc ?_ _)); refine blk_put (cs := #[.string (⟨#[]⟩ : ByteArray), .int .i64 0, .int .i64 0, .string (⟨#[]⟩ : ByteArray)]) ?_ 0 _ rfl; (with_reducible repeat (first | refine blk_drewN ?_ _ | refine blk_drew ?_ | refine blk_alloc ?_ _)); exact BK127.out⟩
    have n1_ : Aside0 (Below w.heap.size w ((((w5.setCell ⟨gb127, 0, none⟩ (.string (⟨#[78, 79, 84]⟩ : ByteArray))).setCell ⟨gb127, 1, none⟩ (.int .i64 0)).setCell ⟨gb127, 2, none⟩ (.int .i64 2)).setCell ⟨gb127, 3, none⟩ (.string (⟨#[116]⟩ : ByteArray)))) := ⟨by repeat (first | (with_reducible first | exact HB.out | apply below_alloc | apply pw_below_drewN | apply below_drew1 | refine below_set ?_ GE127.out) | exact HB.out)⟩
    (try clear BK127)
    (try clear HB)
    generalize ((((w5.setCell ⟨gb127, 0, none⟩ (.string (⟨#[78, 79, 84]⟩ : ByteArray))).setCell ⟨gb127, 1, none⟩ (.int .i64 0)).setCell ⟨gb127, 2, none⟩ (.int .i64 2)).setCell ⟨gb127, 3, none⟩ (.string (⟨#[116]⟩ : ByteArray))) = w7 at n0_ n1_ ⊢
    have BK127 := n0_
    have HB := n1_
    clear n0_ n1_
    have n0_ := Aside0.mk (blk_drew BK127.out)
    have n1_ := Aside0.mk (below_drew1 HB.out)
    clear BK127
    clear HB
    have BK127 := n0_
    have HB := n1_
    clear n0_ n1_
    refine start_ (n := 7) (S := fun w' => w'.cell? ⟨gb127, 0, none⟩ = some (.string (⟨#[78, 79, 84]⟩ : ByteArray)) ∧ w'.cell? ⟨gb127, 1, none⟩ = some (.int .i64 0) ∧ w'.cell? ⟨gb127, 2, none⟩ = some (.int .i64 2) ∧ w'.cell? ⟨gb127, 3, none⟩ = some (.string (⟨#[116]⟩ : ByteArray))) (ds := []) #[false, false, false, false, false, false, false] (by kernel_rfl) rfl rfl ⟨(blk_cell BK127.out 0).trans rfl, (blk_cell BK127.out 1).trans rfl, (blk_cell BK127.out 2).trans rfl, (blk_cell BK127.out 3).trans rfl⟩ (fun hHeld => ?_)
    generalize w7.drew = w8 at BK127 HB hHeld ⊢
    refine pure_ (i := 0) (N := some 10) (v := ?_) (a' := ?_) #[true, false, false, false, false, false, false] rfl rfl (by kernel_rfl) (fun _ _ _ h => h) (Or.inl ⟨by rfl, ?_⟩) ?_ ?_
    rotate_left
    · intro w'
      go_simp
      with_reducible rfl
    rotate_left
    · simp only [Act.put, List.setIfInBounds_toArray, List.set_cons_zero, List.set_cons_succ, i64_w, i32_w]
      rfl
    refine pure_ (i := 3) (N := some 13) (v := ?_) (a' := ?_) #[true, false, false, true, false, false, false] rfl rfl (by kernel_rfl) (fun _ _ _ h => h) (Or.inl ⟨by rfl, ?_⟩) ?_ ?_
    rotate_left
    · intro w'
      go_simp
      with_reducible rfl
    rotate_left
    · simp only [Act.put, List.setIfInBounds_toArray, List.set_cons_zero, List.set_cons_succ, i64_w, i32_w]
      rfl
    refine take_ (i := 2) (N := some 12) (v := ?_) (a' := ?_) #[true, false, true, true, false, false, false] rfl rfl (by kernel_rfl) (fun _ _ _ h => h) (Or.inl ⟨by rfl, ?_⟩) hHeld ?_ ?_
    rotate_left
    · rintro w' ⟨s0, s1, s2, s3⟩
      go_simp
      with_reducible rfl
    rotate_left
    · simp only [Act.put, List.setIfInBounds_toArray, List.set_cons_zero, List.set_cons_succ, i64_w, i32_w]
      rfl
    refine one_ (i := 1) (N := some 11) #[true, true, true, true, false, false, false] rfl rfl (by kernel_rfl) (by decide) (fun K hK => ?_)
    refine goesV_ Try.func80 (by kernel_rfl) rfl #[.string (⟨#[114, 100]⟩ : ByteArray)] (by rfl) rfl rfl rfl (by (try simp only [List.map_toArray, List.map_cons, List.map_nil]); first | done | rfl | (simp only [List.length_drop, List.length_take]; rfl)) ?_
    with_reducible refine (impl_tableOf_1.calls (⟨#[114, 100]⟩ : ByteArray) t128 t129 t130 t131 _ A3.out).mono ?_
    rintro e w9 ⟨rfl, hb⟩
    refine ⟨_, rfl, ?_⟩
    have n0_ := Aside0.mk (blk_below (g := gb127) (o := .cells #[.string (⟨#[78, 79, 84]⟩ : ByteArray), .int .i64 0, .int .i64 2, .string (⟨#[116]⟩ : ByteArray)] 76 (0, 0)) (by (with_reducible repeat (first | refine blk_drewN ?_ _ | refine blk_drew ?_ | refine blk_alloc ?_ _)); exact BK127.out) hb)
    have n1_ := Aside0.mk (below_step (by repeat (first | (with_reducible first | exact HB.out | apply below_alloc | apply pw_below_drewN | apply below_drew1 | refine below_set ?_ GE127.out) | exact HB.out)) hb)
    clear BK127
    clear HB
    have BK127 := n0_
    have HB := n1_
    clear n0_ n1_
    (try clear hb)
    (try clear hb2)
    (try clear hk)
    (try clear hi)
    refine hK.out _ _ ⟨(blk_cell BK127.out 0).trans rfl, (blk_cell BK127.out 1).trans rfl, (blk_cell BK127.out 2).trans rfl, (blk_cell BK127.out 3).trans rfl⟩ (fun hHeld => ?_)
    clear hK K
    refine norm_ (a' := ?_) ?_ ?_
    rotate_left
    · show Act.put _ (some 11) _ = _
      simp only [Act.put, List.setIfInBounds_toArray, List.set_cons_zero, List.set_cons_succ, i64_w, i32_w]
      rfl
    refine one_ (i := 4) (N := some 14) #[true, true, true, true, true, false, false] rfl rfl (by kernel_rfl) (by decide) (fun K hK => ?_)
    refine goesV_ Try.func81 (by kernel_rfl) rfl #[.string (⟨#[76, 73, 78]⟩ : ByteArray), .string (⟨#[110, 114, 113, 63, 110]⟩ : ByteArray)] (by rfl) rfl rfl rfl (by (try simp only [List.map_toArray, List.map_cons, List.map_nil]); first | done | rfl | (simp only [List.length_drop, List.length_take]; rfl)) ?_
    with_reducible refine (impl_tableOf_2.calls (⟨#[76, 73, 78]⟩ : ByteArray) (⟨#[110, 114, 113, 63, 110]⟩ : ByteArray) t132 t133 t134 t135 _ A4.out).mono ?_
    rintro e w10 ⟨rfl, hb⟩
    refine ⟨_, rfl, ?_⟩
    have n0_ := Aside0.mk (blk_below (g := gb127) (o := .cells #[.string (⟨#[78, 79, 84]⟩ : ByteArray), .int .i64 0, .int .i64 2, .string (⟨#[116]⟩ : ByteArray)] 76 (0, 0)) (by (with_reducible repeat (first | refine blk_drewN ?_ _ | refine blk_drew ?_ | refine blk_alloc ?_ _)); exact BK127.out) hb)
    have n1_ := Aside0.mk (below_step (by repeat (first | (with_reducible first | exact HB.out | apply below_alloc | apply pw_below_drewN | apply below_drew1 | refine below_set ?_ GE127.out) | exact HB.out)) hb)
    clear BK127
    clear HB
    have BK127 := n0_
    have HB := n1_
    clear n0_ n1_
    (try clear hb)
    (try clear hb2)
    (try clear hk)
    (try clear hi)
    refine hK.out _ _ ⟨(blk_cell BK127.out 0).trans rfl, (blk_cell BK127.out 1).trans rfl, (blk_cell BK127.out 2).trans rfl, (blk_cell BK127.out 3).trans rfl⟩ (fun hHeld => ?_)
    clear hK K
    refine norm_ (a' := ?_) ?_ ?_
    rotate_left
    · show Act.put _ (some 14) _ = _
      simp only [Act.put, List.setIfInBounds_toArray, List.set_cons_zero, List.set_cons_succ, i64_w, i32_w]
      rfl
    refine one_ (i := 5) (N := some 15) #[true, true, true, true, true, true, false] rfl rfl (by kernel_rfl) (by decide) (fun K hK => ?_)
    refine Kd.R_lit_step k76 _ 76 ?hg (N := 15) ?hd (xs := ([(⟨t128, t129, t130, t131⟩ : S76), (⟨(⟨#[78, 79, 84]⟩ : ByteArray), 0, 2, (⟨#[116]⟩ : ByteArray)⟩ : S76), (⟨t132, t133, t134, t135⟩ : S76)] : List (S76))) (inner := [.string t128, .int .i64 t129, .int .i64 t130, .string t131, .string (⟨#[78, 79, 84]⟩ : ByteArray), .int .i64 0, .int .i64 2, .string (⟨#[116]⟩ : ByteArray), .string t132, .int .i64 t133, .int .i64 t134, .string t135]) (ok := fun _ => True) (okp := fun _ => True) ?hr ?hp (fun _ hk => hk) trivial (Below.refl _ _) (Nat.le_refl _) (by simp) ?_; (case hd => rfl); (case hg => rfl); (case hr => first | (go_simp; done) | (go_simp; rfl)); (case hp => exact (Reps.c4 (show Kd.M k76 _ _ _ (⟨t128, t129, t130, t131⟩ : S76) [.string t128, .int .i64 t129, .int .i64 t130, .string t131] from (k76_mkM _ _ _ (⟨t128, t129, t130, t131⟩ : S76) )) (Reps.c4 (show Kd.M k76 _ _ _ (⟨(⟨#[78, 79, 84]⟩ : ByteArray), 0, 2, (⟨#[116]⟩ : ByteArray)⟩ : S76) [.string (⟨#[78, 79, 84]⟩ : ByteArray), .int .i64 0, .int .i64 2, .string (⟨#[116]⟩ : ByteArray)] from (k76_mkM _ _ _ (⟨(⟨#[78, 79, 84]⟩ : ByteArray), 0, 2, (⟨#[116]⟩ : ByteArray)⟩ : S76) )) (Reps.c4 (show Kd.M k76 _ _ _ (⟨t132, t133, t134, t135⟩ : S76) [.string t132, .int .i64 t133, .int .i64 t134, .string t135] from (k76_mkM _ _ _ (⟨t132, t133, t134, t135⟩ : S76) )) (Reps.none _ _)))))
    intro v137 w11 ho12 hb hg_ hnew_
    clear hg_ hnew_
    (first | rw [← Ny136.out] at ho12 | (simp only [Int.reduceToNat] at ho12; rw [← Ny136.out] at ho12))
    have n0_ := Aside0.mk (Kd.R_lower (Kd.R_newB ho12 (g := gb127) (o := .cells #[.string (⟨#[78, 79, 84]⟩ : ByteArray), .int .i64 0, .int .i64 2, .string (⟨#[116]⟩ : ByteArray)] 76 (0, 0)) (by (with_reducible repeat (first | refine blk_drewN ?_ _ | refine blk_drew ?_ | refine blk_alloc ?_ _)); exact BK127.out)) (below_size (by repeat (first | (with_reducible first | exact HB.out | apply below_alloc | apply pw_below_drewN | apply below_drew1 | refine below_set ?_ GE127.out) | exact HB.out))))
    have n1_ := Aside0.mk (blk_below (g := gb127) (o := .cells #[.string (⟨#[78, 79, 84]⟩ : ByteArray), .int .i64 0, .int .i64 2, .string (⟨#[116]⟩ : ByteArray)] 76 (0, 0)) (by (with_reducible repeat (first | refine blk_drewN ?_ _ | refine blk_drew ?_ | refine blk_alloc ?_ _)); exact BK127.out) hb)
    have n2_ := Aside0.mk (below_step (by repeat (first | (with_reducible first | exact HB.out | apply below_alloc | apply pw_below_drewN | apply below_drew1 | refine below_set ?_ GE127.out) | exact HB.out)) hb)
    clear BK127
    clear HB
    have HO138 := n0_
    have BK127 := n1_
    have HB := n2_
    clear n0_ n1_ n2_
    clear hb ho12
    refine hK.out _ _ ⟨(blk_cell BK127.out 0).trans rfl, (blk_cell BK127.out 1).trans rfl, (blk_cell BK127.out 2).trans rfl, (blk_cell BK127.out 3).trans rfl⟩ (fun hHeld => ?_)
    clear hK K
    refine norm_ (a' := ?_) ?_ ?_
    rotate_left
    · show Act.put _ (some 15) _ = _
      simp only [Act.put, List.setIfInBounds_toArray, List.set_cons_zero, List.set_cons_succ, i64_w, i32_w]
      rfl
    refine pure_ (i := 6) (N := some 2) (v := ?_) (a' := ?_) #[true, true, true, true, true, true, true] rfl rfl (by kernel_rfl) (fun _ _ _ h => h) (Or.inl ⟨by rfl, ?_⟩) ?_ ?_
    rotate_left
    · intro w'
      go_simp
      with_reducible rfl
    rotate_left
    · simp only [Act.put, List.setIfInBounds_toArray, List.set_cons_zero, List.set_cons_succ, i64_w, i32_w]
      rfl
    refine done_ (by kernel_rfl) ?_
    try go_wp2
    go_ret
    exact ⟨_, by first | rfl | (simp [errW_none, errW_some] <;> rfl) | (simp [*, errW_none, errW_some] <;> rfl), by (with_reducible repeat (first | apply Kd.R_alloc | apply Kd.R_drewN | apply Kd.R_drew)); exact Kd.R_mono HO138.out (fun _ hk => trivial), by repeat (first | (with_reducible first | exact HB.out | apply below_alloc | apply pw_below_drewN | apply below_drew1 | refine below_set ?_ GE127.out) | exact HB.out)⟩
  · rw [if_neg c2] at H
    have c2b0 : (a0 == 1) = false := beq_eq_false_iff_ne.mpr c2
    have c2b1 : (a0 != 1) = true := bne_iff_ne.mpr c2
    have HC13 := Aside0.mk H
    clear H
    go_enter Try.func52, Try.ntmps52
    go_upto_if 16 with (first | ((with_reducible refine gate_dst (N := 4) rfl ?_); refine box_event ?hg (N := 4) ?hd (cs := #[.string (⟨#[]⟩ : ByteArray), .int .i64 0, .int .i64 0, .string (⟨#[]⟩ : ByteArray)]) (t := 76) ?hr ?_; (case hd => rfl); (case hg => rfl); (case hr => first | (go_simp; done) | (go_simp; rfl)); intro gb127 hg w14 hbox hb; have n0_ := Aside0.mk (below_step (by repeat (first | (with_reducible first | exact HB.out | apply below_alloc | apply pw_below_drewN | apply below_drew1) | exact HB.out)) hb); have n1_ := Aside0.mk (hbox); have n2_ := Aside0.mk ((by rw [hg]; exact (below_size (by repeat (first | (with_reducible first | exact HB.out | apply below_alloc | apply pw_below_drewN | apply below_drew1) | exact HB.out))) : w.heap.size ≤ gb127)); have n3_ := Aside0.mk ((by rw [hg]; exact (below_size (by repeat (first | (with_reducible first | exact HB.out | apply below_alloc | apply pw_below_drewN | apply below_drew1) | exact HB.out))) : w.heap.size ≤ gb127)); clear HB; have HB := n0_; have BK127 := n1_; have GW127 := n2_; have GE127 := n3_; clear n0_ n1_ n2_ n3_; clear hb hbox hg; have hcz15_0 : w14.cell? ⟨gb127, 0, none⟩ = some (.string (⟨#[]⟩ : ByteArray)) := (blk_cell BK127.out 0).trans rfl; have hcz15_1 : w14.cell? ⟨gb127, 1, none⟩ = some (.int .i64 0) := (blk_cell BK127.out 1).trans rfl; have hcz15_2 : w14.cell? ⟨gb127, 2, none⟩ = some (.int .i64 0) := (blk_cell BK127.out 2).trans rfl; have hcz15_3 : w14.cell? ⟨gb127, 3, none⟩ = some (.string (⟨#[]⟩ : ByteArray)) := (blk_cell BK127.out 3).trans rfl; have hfz15_0 := blk_frozen BK127.out 0; have hfz15_1 := blk_frozen BK127.out 1; have hfz15_2 := blk_frozen BK127.out 2; have hfz15_3 := blk_frozen BK127.out 3))
    (try simp only [Act.put, List.setIfInBounds_toArray, List.set_cons_zero, List.set_cons_succ])
    go_cut [16] (fun v16 wc => ∃ (kq : Nat) (x16_12 : Bool), v16 = .bool x16_12 ∧ Aside0 (impl_tableOf.j0 kq a0 x16_12 (⟨#[78, 79, 84]⟩ : ByteArray) 0 2 (⟨#[116]⟩ : ByteArray) = some r) ∧ Aside0 (kq ≤ k) ∧ Aside0 (wc.heap[gb127]? = some (.cells #[.string (⟨#[78, 79, 84]⟩ : ByteArray), .int .i64 0, .int .i64 2, .string (⟨#[116]⟩ : ByteArray)] 76 (0, 0))) ∧ Aside0 (Below w.heap.size w wc))
    case first =>
      have H := HC13.out
      clear HC13
      by_cases c16 : a0 = 2
      · rw [if_pos c16] at H
        have c16b0 : (a0 == 2) = true := beq_iff_eq.mpr c16
        have c16b1 : (a0 != 2) = false := bne_eq_false_iff_eq.mpr c16
        clear c16
        (first | rw [c16b0] | (simp only [i64_w, i32_w]; rw [c16b0]) | skip)
        have H' := Aside0.mk H
        clear H
        go_wp2
        go_meet
        case rel => exact ⟨_, ((a0 == 2)), (by first | rfl | (simp; done) | (simp [*]; done)), H', ⟨by first | omega | exact Nat.le_refl _⟩, ⟨by (with_reducible repeat (first | refine blk_drewN ?_ _ | refine blk_drew ?_ | refine blk_alloc ?_ _)); refine blk_put (cs := #[.string (⟨#[78, 79, 84]⟩ : ByteArray), .int .i64 0, .int .i64 2, .string (⟨#[]⟩ : ByteArray)]) ?_ 3 _ rfl; (with_reducible repeat (first | refine blk_drewN ?_ _ | refine blk_drew ?_ | refine blk_alloc ?_ _)); refine blk_put (cs := #[.string (⟨#[78, 79, 84]⟩ : ByteArray), .int .i64 0, .int .i64 0, .string (⟨#[]⟩ : ByteArray)]) ?_ 2 _ rfl; (with_reducible repeat (first | refine blk_drewN ?_ _ | refine blk_drew ?_ | refine blk_alloc ?_ _)); refine blk_put (cs := #[.string (⟨#[78, 79, 84]⟩ : ByteArray), .int .i64 0, .int .i64 0, .string (⟨#[]⟩ : ByteArray)]) ?_ 1 _ rfl; (with_reducible repeat (first | refine blk_drewN ?_ _ | refine blk_drew ?_ | refine blk_alloc ?_ _)); refine blk_put (cs := #[.string (⟨#[]⟩ : ByteArray), .int .i64 0, .int .i64 0, .string (⟨#[]⟩ : ByteArray)]) ?_ 0 _ rfl; (with_reducible repeat (first | refine blk_drewN ?_ _ | refine blk_drew ?_ | refine blk_alloc ?_ _)); exact BK127.out⟩, ⟨by repeat (first | (with_reducible first | exact HB.out | apply below_alloc | apply pw_below_drewN | apply below_drew1 | refine below_set ?_ GE127.out) | exact HB.out)⟩⟩
      · rw [if_neg c16] at H
        have c16b0 : (a0 == 2) = false := beq_eq_false_iff_ne.mpr c16
        have c16b1 : (a0 != 2) = true := bne_iff_ne.mpr c16
        (first | rw [c16b0] | (simp only [i64_w, i32_w]; rw [c16b0]) | skip)
        have H' := Aside0.mk H
        clear H
        go_wp2
        go_meet
        case rel => exact ⟨_, ((a0 == 4)), (by first | rfl | (simp; done) | (simp [*]; done)), H', ⟨by first | omega | exact Nat.le_refl _⟩, ⟨by (with_reducible repeat (first | refine blk_drewN ?_ _ | refine blk_drew ?_ | refine blk_alloc ?_ _)); refine blk_put (cs := #[.string (⟨#[78, 79, 84]⟩ : ByteArray), .int .i64 0, .int .i64 2, .string (⟨#[]⟩ : ByteArray)]) ?_ 3 _ rfl; (with_reducible repeat (first | refine blk_drewN ?_ _ | refine blk_drew ?_ | refine blk_alloc ?_ _)); refine blk_put (cs := #[.string (⟨#[78, 79, 84]⟩ : ByteArray), .int .i64 0, .int .i64 0, .string (⟨#[]⟩ : ByteArray)]) ?_ 2 _ rfl; (with_reducible repeat (first | refine blk_drewN ?_ _ | refine blk_drew ?_ | refine blk_alloc ?_ _)); refine blk_put (cs := #[.string (⟨#[78, 79, 84]⟩ : ByteArray), .int .i64 0, .int .i64 0, .string (⟨#[]⟩ : ByteArray)]) ?_ 1 _ rfl; (with_reducible repeat (first | refine blk_drewN ?_ _ | refine blk_drew ?_ | refine blk_alloc ?_ _)); refine blk_put (cs := #[.string (⟨#[]⟩ : ByteArray), .int .i64 0, .int .i64 0, .string (⟨#[]⟩ : ByteArray)]) ?_ 0 _ rfl; (with_reducible repeat (first | refine blk_drewN ?_ _ | refine blk_drew ?_ | refine blk_alloc ?_ _)); exact BK127.out⟩, ⟨by repeat (first | (with_reducible first | exact HB.out | apply below_alloc | apply pw_below_drewN | apply below_drew1 | refine below_set ?_ GE127.out) | exact HB.out)⟩⟩
    case rest =>
      clear HC13
      try clear c1
      try clear c2
      try clear c2b0
      try clear c2b1
      try clear p2
      try clear c4
      try clear c5
      try clear c8
      try clear c16
      try clear c16b0
      try clear c16b1
      try clear hcz15_0
      try clear hcz15_1
      try clear hcz15_2
      try clear hcz15_3
      try clear hcz6_0
      try clear hcz6_1
      try clear hcz6_2
      try clear hcz6_3
      try clear hfz15_0
      try clear hfz15_1
      try clear hfz15_2
      try clear hfz15_3
      try clear hfz6_0
      try clear hfz6_1
      try clear hfz6_2
      try clear hfz6_3
      obtain ⟨kq, x16_12, rfl, HA, HJ12, BK127, HB⟩ := hcut
      cases kq with
      | zero => exact absurd HA.out (by simp [impl_tableOf.j0])
      | succ kj12 =>
        have H := HA.out
        clear HA
        simp only [impl_tableOf.j0] at H
        by_cases c17 : x16_12 = true
        · subst c17
          have H1 : ((impl_tableOf_1.f (⟨#[114, 114, 100]⟩ : ByteArray)).bind fun bt139 => ((impl_tableOf_2.f (⟨#[76, 73, 78]⟩ : ByteArray) (⟨#[110, 113, 63, 116]⟩ : ByteArray)).bind fun bt143 => (some (([(⟨bt139.1, bt139.2.1, bt139.2.2.1, bt139.2.2.2⟩ : S76), (⟨bt143.1, bt143.2.1, bt143.2.2.1, bt143.2.2.2⟩ : S76)] : List (S76)))))) = some r := by rw [if_pos rfl] at H; exact H
          clear H
          have H := H1
          clear H1
          replace H := Option.bind_eq_some_iff.mp H
          obtain ⟨⟨t139, t140, t141, t142⟩, A180, H⟩ := H
          replace H : ((impl_tableOf_2.f (⟨#[76, 73, 78]⟩ : ByteArray) (⟨#[110, 113, 63, 116]⟩ : ByteArray)).bind fun bt143 => (some (([(⟨t139, t140, t141, t142⟩ : S76), (⟨bt143.1, bt143.2.1, bt143.2.2.1, bt143.2.2.2⟩ : S76)] : List (S76))))) = some r := H
          have A18 := Aside0.mk A180
          clear A180
          replace H := Option.bind_eq_some_iff.mp H
          obtain ⟨⟨t143, t144, t145, t146⟩, A190, H⟩ := H
          replace H : (some (([(⟨t139, t140, t141, t142⟩ : S76), (⟨t143, t144, t145, t146⟩ : S76)] : List (S76)))) = some r := H
          have A19 := Aside0.mk A190
          clear A190
          obtain ⟨y147, hy147⟩ : ∃ y_ : List (S76), y_ = (([(⟨t139, t140, t141, t142⟩ : S76), (⟨t143, t144, t145, t146⟩ : S76)] : List (S76))) := ⟨_, rfl⟩
          replace H : (some y147) = some r := by first | (rw [hy147]; with_reducible exact H) | (have H2_ := (Option.bind_some _ _).symm.trans H; rw [hy147]; with_reducible exact H2_) | (have H2_ := (Option.bind_some _ _).symm.trans H; with_reducible exact H2_) | with_reducible exact H | (rw [hy147]; exact H) | exact H
          have Ny147 := Aside0.mk hy147
          clear hy147
          obtain rfl := Option.some.inj H
          go_wp2_with (first | (go_at_call 80; (with_reducible refine (impl_tableOf_1.calls (⟨#[114, 114, 100]⟩ : ByteArray) t139 t140 t141 t142 _ A18.out).mono ?_); rintro e w20 ⟨rfl, hb⟩; have n0_ := Aside0.mk (blk_below (g := gb127) (o := .cells #[.string (⟨#[78, 79, 84]⟩ : ByteArray), .int .i64 0, .int .i64 2, .string (⟨#[116]⟩ : ByteArray)] 76 (0, 0)) (by (with_reducible repeat (first | refine blk_drewN ?_ _ | refine blk_drew ?_ | refine blk_alloc ?_ _)); exact BK127.out) hb); have n1_ := Aside0.mk (below_step (by repeat (first | (with_reducible first | exact HB.out | apply below_alloc | apply pw_below_drewN | apply below_drew1 | refine below_set ?_ GE127.out) | exact HB.out)) hb); clear BK127; clear HB; have BK127 := n0_; have HB := n1_; clear n0_ n1_; (try clear hb); (try clear hb2); (try clear hk); (try clear hi)) | (go_at_call 81; (with_reducible refine (impl_tableOf_2.calls (⟨#[76, 73, 78]⟩ : ByteArray) (⟨#[110, 113, 63, 116]⟩ : ByteArray) t143 t144 t145 t146 _ A19.out).mono ?_); rintro e w21 ⟨rfl, hb⟩; have n0_ := Aside0.mk (blk_below (g := gb127) (o := .cells #[.string (⟨#[78, 79, 84]⟩ : ByteArray), .int .i64 0, .int .i64 2, .string (⟨#[116]⟩ : ByteArray)] 76 (0, 0)) (by (with_reducible repeat (first | refine blk_drewN ?_ _ | refine blk_drew ?_ | refine blk_alloc ?_ _)); exact BK127.out) hb); have n1_ := Aside0.mk (below_step (by repeat (first | (with_reducible first | exact HB.out | apply below_alloc | apply pw_below_drewN | apply below_drew1 | refine below_set ?_ GE127.out) | exact HB.out)) hb); clear BK127; clear HB; have BK127 := n0_; have HB := n1_; clear n0_ n1_; (try clear hb); (try clear hb2); (try clear hk); (try clear hi)) | ((with_reducible refine gate_dst (N := 23) rfl ?_); refine Kd.R_lit k76 _ 76 ?hg (N := 23) ?hd (xs := ([(⟨t139, t140, t141, t142⟩ : S76), (⟨t143, t144, t145, t146⟩ : S76)] : List (S76))) (inner := [.string t139, .int .i64 t140, .int .i64 t141, .string t142, .string t143, .int .i64 t144, .int .i64 t145, .string t146]) (ok := fun _ => True) (okp := fun _ => True) ?hr ?hp (fun _ hk => hk) trivial (Below.refl _ _) (Nat.le_refl _) (by simp) ?_; (case hd => rfl); (case hg => rfl); (case hr => first | (go_simp; done) | (go_simp; rfl)); (case hp => exact (Reps.c4 (show Kd.M k76 _ _ _ (⟨t139, t140, t141, t142⟩ : S76) [.string t139, .int .i64 t140, .int .i64 t141, .string t142] from (k76_mkM _ _ _ (⟨t139, t140, t141, t142⟩ : S76) )) (Reps.c4 (show Kd.M k76 _ _ _ (⟨t143, t144, t145, t146⟩ : S76) [.string t143, .int .i64 t144, .int .i64 t145, .string t146] from (k76_mkM _ _ _ (⟨t143, t144, t145, t146⟩ : S76) )) (Reps.none _ _)))); intro v148 w22 ho23 hb hg_ hnew_; clear hg_ hnew_; (first | rw [← Ny147.out] at ho23 | (simp only [Int.reduceToNat] at ho23; rw [← Ny147.out] at ho23)); have n0_ := Aside0.mk (Kd.R_lower (Kd.R_newB ho23 (g := gb127) (o := .cells #[.string (⟨#[78, 79, 84]⟩ : ByteArray), .int .i64 0, .int .i64 2, .string (⟨#[116]⟩ : ByteArray)] 76 (0, 0)) (by (with_reducible repeat (first | refine blk_drewN ?_ _ | refine blk_drew ?_ | refine blk_alloc ?_ _)); exact BK127.out)) (below_size (by repeat (first | (with_reducible first | exact HB.out | apply below_alloc | apply pw_below_drewN | apply below_drew1 | refine below_set ?_ GE127.out) | exact HB.out)))); have n1_ := Aside0.mk (blk_below (g := gb127) (o := .cells #[.string (⟨#[78, 79, 84]⟩ : ByteArray), .int .i64 0, .int .i64 2, .string (⟨#[116]⟩ : ByteArray)] 76 (0, 0)) (by (with_reducible repeat (first | refine blk_drewN ?_ _ | refine blk_drew ?_ | refine blk_alloc ?_ _)); exact BK127.out) hb); have n2_ := Aside0.mk (below_step (by repeat (first | (with_reducible first | exact HB.out | apply below_alloc | apply pw_below_drewN | apply below_drew1 | refine below_set ?_ GE127.out) | exact HB.out)) hb); clear BK127; clear HB; have HO149 := n0_; have BK127 := n1_; have HB := n2_; clear n0_ n1_ n2_; clear hb ho23))
          go_ret
          exact ⟨_, by first | rfl | (simp [errW_none, errW_some] <;> rfl) | (simp [*, errW_none, errW_some] <;> rfl), by (with_reducible repeat (first | apply Kd.R_alloc | apply Kd.R_drewN | apply Kd.R_drew)); exact Kd.R_mono HO149.out (fun _ hk => trivial), by repeat (first | (with_reducible first | exact HB.out | apply below_alloc | apply pw_below_drewN | apply below_drew1 | refine below_set ?_ GE127.out) | exact HB.out)⟩
        · replace c17 := Bool.eq_false_iff.mpr c17
          subst c17
          have H1 : (if a0 = 3 then ((impl_tableOf_1.f (⟨#[114, 114, 100]⟩ : ByteArray)).bind fun bt150 => ((impl_tableOf_2.f (⟨#[76, 73, 78]⟩ : ByteArray) (⟨#[110, 113]⟩ : ByteArray)).bind fun bt154 => (some (([(⟨bt150.1, bt150.2.1, bt150.2.2.1, bt150.2.2.2⟩ : S76), (⟨(⟨#[78, 79, 84]⟩ : ByteArray), 0, 2, (⟨#[116]⟩ : ByteArray)⟩ : S76), (⟨bt154.1, bt154.2.1, bt154.2.2.1, bt154.2.2.2⟩ : S76)] : List (S76)))))) else (if a0 = 5 then ((impl_tableOf_1.f (⟨#[114, 100]⟩ : ByteArray)).bind fun bt161 => ((impl_tableOf_2.f (⟨#[73, 84, 77]⟩ : ByteArray) (⟨#[114, 110]⟩ : ByteArray)).bind fun bt165 => (some (([(⟨bt161.1, bt161.2.1, bt161.2.2.1, bt161.2.2.2⟩ : S76), (⟨bt165.1, bt165.2.1, bt165.2.2.1, bt165.2.2.2⟩ : S76)] : List (S76)))))) else (if a0 = 6 then ((impl_tableOf_1.f (⟨#[114, 100]⟩ : ByteArray)).bind fun bt172 => ((impl_tableOf_2.f (⟨#[73, 84, 77]⟩ : ByteArray) (⟨#[114, 122, 63, 116]⟩ : ByteArray)).bind fun bt176 => (some (([(⟨bt172.1, bt172.2.1, bt172.2.2.1, bt172.2.2.2⟩ : S76), (⟨bt176.1, bt176.2.1, bt176.2.2.1, bt176.2.2.2⟩ : S76)] : List (S76)))))) else (if a0 = 7 then ((impl_tableOf_1.f (⟨#[114, 100]⟩ : ByteArray)).bind fun bt183 => (some (([(⟨bt183.1, bt183.2.1, bt183.2.2.1, bt183.2.2.2⟩ : S76), (⟨(⟨#[65, 67, 75]⟩ : ByteArray), 1, 1, (⟨#[110, 110, 63, 110]⟩ : ByteArray)⟩ : S76)] : List (S76))))) else (some ([] : List (S76))))))) = some r := by rw [if_neg (show ¬ (false = true) by decide)] at H; exact H
          clear H
          have H := H1
          clear H1
          by_cases c24 : a0 = 3
          · rw [if_pos c24] at H
            have c24b0 : (a0 == 3) = true := beq_iff_eq.mpr c24
            have c24b1 : (a0 != 3) = false := bne_eq_false_iff_eq.mpr c24
            clear c24
            replace H := Option.bind_eq_some_iff.mp H
            obtain ⟨⟨t150, t151, t152, t153⟩, A250, H⟩ := H
            replace H : ((impl_tableOf_2.f (⟨#[76, 73, 78]⟩ : ByteArray) (⟨#[110, 113]⟩ : ByteArray)).bind fun bt154 => (some (([(⟨t150, t151, t152, t153⟩ : S76), (⟨(⟨#[78, 79, 84]⟩ : ByteArray), 0, 2, (⟨#[116]⟩ : ByteArray)⟩ : S76), (⟨bt154.1, bt154.2.1, bt154.2.2.1, bt154.2.2.2⟩ : S76)] : List (S76))))) = some r := H
            have A25 := Aside0.mk A250
            clear A250
            replace H := Option.bind_eq_some_iff.mp H
            obtain ⟨⟨t154, t155, t156, t157⟩, A260, H⟩ := H
            replace H : (some (([(⟨t150, t151, t152, t153⟩ : S76), (⟨(⟨#[78, 79, 84]⟩ : ByteArray), 0, 2, (⟨#[116]⟩ : ByteArray)⟩ : S76), (⟨t154, t155, t156, t157⟩ : S76)] : List (S76)))) = some r := H
            have A26 := Aside0.mk A260
            clear A260
            obtain ⟨y158, hy158⟩ : ∃ y_ : List (S76), y_ = (([(⟨t150, t151, t152, t153⟩ : S76), (⟨(⟨#[78, 79, 84]⟩ : ByteArray), 0, 2, (⟨#[116]⟩ : ByteArray)⟩ : S76), (⟨t154, t155, t156, t157⟩ : S76)] : List (S76))) := ⟨_, rfl⟩
            replace H : (some y158) = some r := by first | (rw [hy158]; with_reducible exact H) | (have H2_ := (Option.bind_some _ _).symm.trans H; rw [hy158]; with_reducible exact H2_) | (have H2_ := (Option.bind_some _ _).symm.trans H; with_reducible exact H2_) | with_reducible exact H | (rw [hy158]; exact H) | exact H
            have Ny158 := Aside0.mk hy158
            clear hy158
            obtain rfl := Option.some.inj H
            try go_wp2
            have n0_ := Aside0.mk (blk_drew BK127.out)
            have n1_ := Aside0.mk (below_drew1 HB.out)
            clear BK127
            clear HB
            have BK127 := n0_
            have HB := n1_
            clear n0_ n1_
            refine start_ (n := 7) (S := fun w' => w'.cell? ⟨gb127, 0, none⟩ = some (.string (⟨#[78, 79, 84]⟩ : ByteArray)) ∧ w'.cell? ⟨gb127, 1, none⟩ = some (.int .i64 0) ∧ w'.cell? ⟨gb127, 2, none⟩ = some (.int .i64 2) ∧ w'.cell? ⟨gb127, 3, none⟩ = some (.string (⟨#[116]⟩ : ByteArray))) (ds := []) #[false, false, false, false, false, false, false] (by kernel_rfl) rfl rfl ⟨(blk_cell BK127.out 0).trans rfl, (blk_cell BK127.out 1).trans rfl, (blk_cell BK127.out 2).trans rfl, (blk_cell BK127.out 3).trans rfl⟩ (fun hHeld => ?_)
            generalize wc.drew = w27 at BK127 HB hHeld ⊢
            refine pure_ (i := 0) (N := some 26) (v := ?_) (a' := ?_) #[true, false, false, false, false, false, false] rfl rfl (by kernel_rfl) (fun _ _ _ h => h) (Or.inl ⟨by rfl, ?_⟩) ?_ ?_
            rotate_left
            · intro w'
              go_simp
              with_reducible rfl
            rotate_left
            · simp only [Act.put, List.setIfInBounds_toArray, List.set_cons_zero, List.set_cons_succ, i64_w, i32_w]
              rfl
            refine pure_ (i := 3) (N := some 29) (v := ?_) (a' := ?_) #[true, false, false, true, false, false, false] rfl rfl (by kernel_rfl) (fun _ _ _ h => h) (Or.inl ⟨by rfl, ?_⟩) ?_ ?_
            rotate_left
            · intro w'
              go_simp
              with_reducible rfl
            rotate_left
            · simp only [Act.put, List.setIfInBounds_toArray, List.set_cons_zero, List.set_cons_succ, i64_w, i32_w]
              rfl
            refine take_ (i := 2) (N := some 28) (v := ?_) (a' := ?_) #[true, false, true, true, false, false, false] rfl rfl (by kernel_rfl) (fun _ _ _ h => h) (Or.inl ⟨by rfl, ?_⟩) hHeld ?_ ?_
            rotate_left
            · rintro w' ⟨s0, s1, s2, s3⟩
              go_simp
              with_reducible rfl
            rotate_left
            · simp only [Act.put, List.setIfInBounds_toArray, List.set_cons_zero, List.set_cons_succ, i64_w, i32_w]
              rfl
            refine one_ (i := 1) (N := some 27) #[true, true, true, true, false, false, false] rfl rfl (by kernel_rfl) (by decide) (fun K hK => ?_)
            refine goesV_ Try.func80 (by kernel_rfl) rfl #[.string (⟨#[114, 114, 100]⟩ : ByteArray)] (by rfl) rfl rfl rfl (by (try simp only [List.map_toArray, List.map_cons, List.map_nil]); first | done | rfl | (simp only [List.length_drop, List.length_take]; rfl)) ?_
            with_reducible refine (impl_tableOf_1.calls (⟨#[114, 114, 100]⟩ : ByteArray) t150 t151 t152 t153 _ A25.out).mono ?_
            rintro e w28 ⟨rfl, hb⟩
            refine ⟨_, rfl, ?_⟩
            have n0_ := Aside0.mk (blk_below (g := gb127) (o := .cells #[.string (⟨#[78, 79, 84]⟩ : ByteArray), .int .i64 0, .int .i64 2, .string (⟨#[116]⟩ : ByteArray)] 76 (0, 0)) (by (with_reducible repeat (first | refine blk_drewN ?_ _ | refine blk_drew ?_ | refine blk_alloc ?_ _)); exact BK127.out) hb)
            have n1_ := Aside0.mk (below_step (by repeat (first | (with_reducible first | exact HB.out | apply below_alloc | apply pw_below_drewN | apply below_drew1 | refine below_set ?_ GE127.out) | exact HB.out)) hb)
            clear BK127
            clear HB
            have BK127 := n0_
            have HB := n1_
            clear n0_ n1_
            (try clear hb)
            (try clear hb2)
            (try clear hk)
            (try clear hi)
            refine hK.out _ _ ⟨(blk_cell BK127.out 0).trans rfl, (blk_cell BK127.out 1).trans rfl, (blk_cell BK127.out 2).trans rfl, (blk_cell BK127.out 3).trans rfl⟩ (fun hHeld => ?_)
            clear hK K
            refine norm_ (a' := ?_) ?_ ?_
            rotate_left
            · show Act.put _ (some 27) _ = _
              simp only [Act.put, List.setIfInBounds_toArray, List.set_cons_zero, List.set_cons_succ, i64_w, i32_w]
              rfl
            refine one_ (i := 4) (N := some 30) #[true, true, true, true, true, false, false] rfl rfl (by kernel_rfl) (by decide) (fun K hK => ?_)
            refine goesV_ Try.func81 (by kernel_rfl) rfl #[.string (⟨#[76, 73, 78]⟩ : ByteArray), .string (⟨#[110, 113]⟩ : ByteArray)] (by rfl) rfl rfl rfl (by (try simp only [List.map_toArray, List.map_cons, List.map_nil]); first | done | rfl | (simp only [List.length_drop, List.length_take]; rfl)) ?_
            with_reducible refine (impl_tableOf_2.calls (⟨#[76, 73, 78]⟩ : ByteArray) (⟨#[110, 113]⟩ : ByteArray) t154 t155 t156 t157 _ A26.out).mono ?_
            rintro e w29 ⟨rfl, hb⟩
            refine ⟨_, rfl, ?_⟩
            have n0_ := Aside0.mk (blk_below (g := gb127) (o := .cells #[.string (⟨#[78, 79, 84]⟩ : ByteArray), .int .i64 0, .int .i64 2, .string (⟨#[116]⟩ : ByteArray)] 76 (0, 0)) (by (with_reducible repeat (first | refine blk_drewN ?_ _ | refine blk_drew ?_ | refine blk_alloc ?_ _)); exact BK127.out) hb)
            have n1_ := Aside0.mk (below_step (by repeat (first | (with_reducible first | exact HB.out | apply below_alloc | apply pw_below_drewN | apply below_drew1 | refine below_set ?_ GE127.out) | exact HB.out)) hb)
            clear BK127
            clear HB
            have BK127 := n0_
            have HB := n1_
            clear n0_ n1_
            (try clear hb)
            (try clear hb2)
            (try clear hk)
            (try clear hi)
            refine hK.out _ _ ⟨(blk_cell BK127.out 0).trans rfl, (blk_cell BK127.out 1).trans rfl, (blk_cell BK127.out 2).trans rfl, (blk_cell BK127.out 3).trans rfl⟩ (fun hHeld => ?_)
            clear hK K
            refine norm_ (a' := ?_) ?_ ?_
            rotate_left
            · show Act.put _ (some 30) _ = _
              simp only [Act.put, List.setIfInBounds_toArray, List.set_cons_zero, List.set_cons_succ, i64_w, i32_w]
              rfl
            refine one_ (i := 5) (N := some 31) #[true, true, true, true, true, true, false] rfl rfl (by kernel_rfl) (by decide) (fun K hK => ?_)
            refine Kd.R_lit_step k76 _ 76 ?hg (N := 31) ?hd (xs := ([(⟨t150, t151, t152, t153⟩ : S76), (⟨(⟨#[78, 79, 84]⟩ : ByteArray), 0, 2, (⟨#[116]⟩ : ByteArray)⟩ : S76), (⟨t154, t155, t156, t157⟩ : S76)] : List (S76))) (inner := [.string t150, .int .i64 t151, .int .i64 t152, .string t153, .string (⟨#[78, 79, 84]⟩ : ByteArray), .int .i64 0, .int .i64 2, .string (⟨#[116]⟩ : ByteArray), .string t154, .int .i64 t155, .int .i64 t156, .string t157]) (ok := fun _ => True) (okp := fun _ => True) ?hr ?hp (fun _ hk => hk) trivial (Below.refl _ _) (Nat.le_refl _) (by simp) ?_; (case hd => rfl); (case hg => rfl); (case hr => first | (go_simp; done) | (go_simp; rfl)); (case hp => exact (Reps.c4 (show Kd.M k76 _ _ _ (⟨t150, t151, t152, t153⟩ : S76) [.string t150, .int .i64 t151, .int .i64 t152, .string t153] from (k76_mkM _ _ _ (⟨t150, t151, t152, t153⟩ : S76) )) (Reps.c4 (show Kd.M k76 _ _ _ (⟨(⟨#[78, 79, 84]⟩ : ByteArray), 0, 2, (⟨#[116]⟩ : ByteArray)⟩ : S76) [.string (⟨#[78, 79, 84]⟩ : ByteArray), .int .i64 0, .int .i64 2, .string (⟨#[116]⟩ : ByteArray)] from (k76_mkM _ _ _ (⟨(⟨#[78, 79, 84]⟩ : ByteArray), 0, 2, (⟨#[116]⟩ : ByteArray)⟩ : S76) )) (Reps.c4 (show Kd.M k76 _ _ _ (⟨t154, t155, t156, t157⟩ : S76) [.string t154, .int .i64 t155, .int .i64 t156, .string t157] from (k76_mkM _ _ _ (⟨t154, t155, t156, t157⟩ : S76) )) (Reps.none _ _)))))
            intro v159 w30 ho31 hb hg_ hnew_
            clear hg_ hnew_
            (first | rw [← Ny158.out] at ho31 | (simp only [Int.reduceToNat] at ho31; rw [← Ny158.out] at ho31))
            have n0_ := Aside0.mk (Kd.R_lower (Kd.R_newB ho31 (g := gb127) (o := .cells #[.string (⟨#[78, 79, 84]⟩ : ByteArray), .int .i64 0, .int .i64 2, .string (⟨#[116]⟩ : ByteArray)] 76 (0, 0)) (by (with_reducible repeat (first | refine blk_drewN ?_ _ | refine blk_drew ?_ | refine blk_alloc ?_ _)); exact BK127.out)) (below_size (by repeat (first | (with_reducible first | exact HB.out | apply below_alloc | apply pw_below_drewN | apply below_drew1 | refine below_set ?_ GE127.out) | exact HB.out))))
            have n1_ := Aside0.mk (blk_below (g := gb127) (o := .cells #[.string (⟨#[78, 79, 84]⟩ : ByteArray), .int .i64 0, .int .i64 2, .string (⟨#[116]⟩ : ByteArray)] 76 (0, 0)) (by (with_reducible repeat (first | refine blk_drewN ?_ _ | refine blk_drew ?_ | refine blk_alloc ?_ _)); exact BK127.out) hb)
            have n2_ := Aside0.mk (below_step (by repeat (first | (with_reducible first | exact HB.out | apply below_alloc | apply pw_below_drewN | apply below_drew1 | refine below_set ?_ GE127.out) | exact HB.out)) hb)
            clear BK127
            clear HB
            have HO160 := n0_
            have BK127 := n1_
            have HB := n2_
            clear n0_ n1_ n2_
            clear hb ho31
            refine hK.out _ _ ⟨(blk_cell BK127.out 0).trans rfl, (blk_cell BK127.out 1).trans rfl, (blk_cell BK127.out 2).trans rfl, (blk_cell BK127.out 3).trans rfl⟩ (fun hHeld => ?_)
            clear hK K
            refine norm_ (a' := ?_) ?_ ?_
            rotate_left
            · show Act.put _ (some 31) _ = _
              simp only [Act.put, List.setIfInBounds_toArray, List.set_cons_zero, List.set_cons_succ, i64_w, i32_w]
              rfl
            refine pure_ (i := 6) (N := some 2) (v := ?_) (a' := ?_) #[true, true, true, true, true, true, true] rfl rfl (by kernel_rfl) (fun _ _ _ h => h) (Or.inl ⟨by rfl, ?_⟩) ?_ ?_
            rotate_left
            · intro w'
              go_simp
              with_reducible rfl
            rotate_left
            · simp only [Act.put, List.setIfInBounds_toArray, List.set_cons_zero, List.set_cons_succ, i64_w, i32_w]
              rfl
            refine done_ (by kernel_rfl) ?_
            try go_wp2
            go_ret
            exact ⟨_, by first | rfl | (simp [errW_none, errW_some] <;> rfl) | (simp [*, errW_none, errW_some] <;> rfl), by (with_reducible repeat (first | apply Kd.R_alloc | apply Kd.R_drewN | apply Kd.R_drew)); exact Kd.R_mono HO160.out (fun _ hk => trivial), by repeat (first | (with_reducible first | exact HB.out | apply below_alloc | apply pw_below_drewN | apply below_drew1 | refine below_set ?_ GE127.out) | exact HB.out)⟩
          · rw [if_neg c24] at H
            have c24b0 : (a0 == 3) = false := beq_eq_false_iff_ne.mpr c24
            have c24b1 : (a0 != 3) = true := bne_iff_ne.mpr c24
            by_cases c32 : a0 = 5
            · rw [if_pos c32] at H
              have c32b0 : (a0 == 5) = true := beq_iff_eq.mpr c32
              have c32b1 : (a0 != 5) = false := bne_eq_false_iff_eq.mpr c32
              clear c32
              replace H := Option.bind_eq_some_iff.mp H
              obtain ⟨⟨t161, t162, t163, t164⟩, A330, H⟩ := H
              replace H : ((impl_tableOf_2.f (⟨#[73, 84, 77]⟩ : ByteArray) (⟨#[114, 110]⟩ : ByteArray)).bind fun bt165 => (some (([(⟨t161, t162, t163, t164⟩ : S76), (⟨bt165.1, bt165.2.1, bt165.2.2.1, bt165.2.2.2⟩ : S76)] : List (S76))))) = some r := H
              have A33 := Aside0.mk A330
              clear A330
              replace H := Option.bind_eq_some_iff.mp H
              obtain ⟨⟨t165, t166, t167, t168⟩, A340, H⟩ := H
              replace H : (some (([(⟨t161, t162, t163, t164⟩ : S76), (⟨t165, t166, t167, t168⟩ : S76)] : List (S76)))) = some r := H
              have A34 := Aside0.mk A340
              clear A340
              obtain ⟨y169, hy169⟩ : ∃ y_ : List (S76), y_ = (([(⟨t161, t162, t163, t164⟩ : S76), (⟨t165, t166, t167, t168⟩ : S76)] : List (S76))) := ⟨_, rfl⟩
              replace H : (some y169) = some r := by first | (rw [hy169]; with_reducible exact H) | (have H2_ := (Option.bind_some _ _).symm.trans H; rw [hy169]; with_reducible exact H2_) | (have H2_ := (Option.bind_some _ _).symm.trans H; with_reducible exact H2_) | with_reducible exact H | (rw [hy169]; exact H) | exact H
              have Ny169 := Aside0.mk hy169
              clear hy169
              obtain rfl := Option.some.inj H
              go_wp2_with (first | (go_at_call 80; (with_reducible refine (impl_tableOf_1.calls (⟨#[114, 100]⟩ : ByteArray) t161 t162 t163 t164 _ A33.out).mono ?_); rintro e w35 ⟨rfl, hb⟩; have n0_ := Aside0.mk (blk_below (g := gb127) (o := .cells #[.string (⟨#[78, 79, 84]⟩ : ByteArray), .int .i64 0, .int .i64 2, .string (⟨#[116]⟩ : ByteArray)] 76 (0, 0)) (by (with_reducible repeat (first | refine blk_drewN ?_ _ | refine blk_drew ?_ | refine blk_alloc ?_ _)); exact BK127.out) hb); have n1_ := Aside0.mk (below_step (by repeat (first | (with_reducible first | exact HB.out | apply below_alloc | apply pw_below_drewN | apply below_drew1 | refine below_set ?_ GE127.out) | exact HB.out)) hb); clear BK127; clear HB; have BK127 := n0_; have HB := n1_; clear n0_ n1_; (try clear hb); (try clear hb2); (try clear hk); (try clear hi)) | (go_at_call 81; (with_reducible refine (impl_tableOf_2.calls (⟨#[73, 84, 77]⟩ : ByteArray) (⟨#[114, 110]⟩ : ByteArray) t165 t166 t167 t168 _ A34.out).mono ?_); rintro e w36 ⟨rfl, hb⟩; have n0_ := Aside0.mk (blk_below (g := gb127) (o := .cells #[.string (⟨#[78, 79, 84]⟩ : ByteArray), .int .i64 0, .int .i64 2, .string (⟨#[116]⟩ : ByteArray)] 76 (0, 0)) (by (with_reducible repeat (first | refine blk_drewN ?_ _ | refine blk_drew ?_ | refine blk_alloc ?_ _)); exact BK127.out) hb); have n1_ := Aside0.mk (below_step (by repeat (first | (with_reducible first | exact HB.out | apply below_alloc | apply pw_below_drewN | apply below_drew1 | refine below_set ?_ GE127.out) | exact HB.out)) hb); clear BK127; clear HB; have BK127 := n0_; have HB := n1_; clear n0_ n1_; (try clear hb); (try clear hb2); (try clear hk); (try clear hi)) | ((with_reducible refine gate_dst (N := 38) rfl ?_); refine Kd.R_lit k76 _ 76 ?hg (N := 38) ?hd (xs := ([(⟨t161, t162, t163, t164⟩ : S76), (⟨t165, t166, t167, t168⟩ : S76)] : List (S76))) (inner := [.string t161, .int .i64 t162, .int .i64 t163, .string t164, .string t165, .int .i64 t166, .int .i64 t167, .string t168]) (ok := fun _ => True) (okp := fun _ => True) ?hr ?hp (fun _ hk => hk) trivial (Below.refl _ _) (Nat.le_refl _) (by simp) ?_; (case hd => rfl); (case hg => rfl); (case hr => first | (go_simp; done) | (go_simp; rfl)); (case hp => exact (Reps.c4 (show Kd.M k76 _ _ _ (⟨t161, t162, t163, t164⟩ : S76) [.string t161, .int .i64 t162, .int .i64 t163, .string t164] from (k76_mkM _ _ _ (⟨t161, t162, t163, t164⟩ : S76) )) (Reps.c4 (show Kd.M k76 _ _ _ (⟨t165, t166, t167, t168⟩ : S76) [.string t165, .int .i64 t166, .int .i64 t167, .string t168] from (k76_mkM _ _ _ (⟨t165, t166, t167, t168⟩ : S76) )) (Reps.none _ _)))); intro v170 w37 ho38 hb hg_ hnew_; clear hg_ hnew_; (first | rw [← Ny169.out] at ho38 | (simp only [Int.reduceToNat] at ho38; rw [← Ny169.out] at ho38)); have n0_ := Aside0.mk (Kd.R_lower (Kd.R_newB ho38 (g := gb127) (o := .cells #[.string (⟨#[78, 79, 84]⟩ : ByteArray), .int .i64 0, .int .i64 2, .string (⟨#[116]⟩ : ByteArray)] 76 (0, 0)) (by (with_reducible repeat (first | refine blk_drewN ?_ _ | refine blk_drew ?_ | refine blk_alloc ?_ _)); exact BK127.out)) (below_size (by repeat (first | (with_reducible first | exact HB.out | apply below_alloc | apply pw_below_drewN | apply below_drew1 | refine below_set ?_ GE127.out) | exact HB.out)))); have n1_ := Aside0.mk (blk_below (g := gb127) (o := .cells #[.string (⟨#[78, 79, 84]⟩ : ByteArray), .int .i64 0, .int .i64 2, .string (⟨#[116]⟩ : ByteArray)] 76 (0, 0)) (by (with_reducible repeat (first | refine blk_drewN ?_ _ | refine blk_drew ?_ | refine blk_alloc ?_ _)); exact BK127.out) hb); have n2_ := Aside0.mk (below_step (by repeat (first | (with_reducible first | exact HB.out | apply below_alloc | apply pw_below_drewN | apply below_drew1 | refine below_set ?_ GE127.out) | exact HB.out)) hb); clear BK127; clear HB; have HO171 := n0_; have BK127 := n1_; have HB := n2_; clear n0_ n1_ n2_; clear hb ho38))
              go_ret
              exact ⟨_, by first | rfl | (simp [errW_none, errW_some] <;> rfl) | (simp [*, errW_none, errW_some] <;> rfl), by (with_reducible repeat (first | apply Kd.R_alloc | apply Kd.R_drewN | apply Kd.R_drew)); exact Kd.R_mono HO171.out (fun _ hk => trivial), by repeat (first | (with_reducible first | exact HB.out | apply below_alloc | apply pw_below_drewN | apply below_drew1 | refine below_set ?_ GE127.out) | exact HB.out)⟩
            · rw [if_neg c32] at H
              have c32b0 : (a0 == 5) = false := beq_eq_false_iff_ne.mpr c32
              have c32b1 : (a0 != 5) = true := bne_iff_ne.mpr c32
              by_cases c39 : a0 = 6
              · rw [if_pos c39] at H
                have c39b0 : (a0 == 6) = true := beq_iff_eq.mpr c39
                have c39b1 : (a0 != 6) = false := bne_eq_false_iff_eq.mpr c39
                clear c39
                replace H := Option.bind_eq_some_iff.mp H
                obtain ⟨⟨t172, t173, t174, t175⟩, A400, H⟩ := H
                replace H : ((impl_tableOf_2.f (⟨#[73, 84, 77]⟩ : ByteArray) (⟨#[114, 122, 63, 116]⟩ : ByteArray)).bind fun bt176 => (some (([(⟨t172, t173, t174, t175⟩ : S76), (⟨bt176.1, bt176.2.1, bt176.2.2.1, bt176.2.2.2⟩ : S76)] : List (S76))))) = some r := H
                have A40 := Aside0.mk A400
                clear A400
                replace H := Option.bind_eq_some_iff.mp H
                obtain ⟨⟨t176, t177, t178, t179⟩, A410, H⟩ := H
                replace H : (some (([(⟨t172, t173, t174, t175⟩ : S76), (⟨t176, t177, t178, t179⟩ : S76)] : List (S76)))) = some r := H
                have A41 := Aside0.mk A410
                clear A410
                obtain ⟨y180, hy180⟩ : ∃ y_ : List (S76), y_ = (([(⟨t172, t173, t174, t175⟩ : S76), (⟨t176, t177, t178, t179⟩ : S76)] : List (S76))) := ⟨_, rfl⟩
                replace H : (some y180) = some r := by first | (rw [hy180]; with_reducible exact H) | (have H2_ := (Option.bind_some _ _).symm.trans H; rw [hy180]; with_reducible exact H2_) | (have H2_ := (Option.bind_some _ _).symm.trans H; with_reducible exact H2_) | with_reducible exact H | (rw [hy180]; exact H) | exact H
                have Ny180 := Aside0.mk hy180
                clear hy180
                obtain rfl := Option.some.inj H
                go_wp2_with (first | (go_at_call 80; (with_reducible refine (impl_tableOf_1.calls (⟨#[114, 100]⟩ : ByteArray) t172 t173 t174 t175 _ A40.out).mono ?_); rintro e w42 ⟨rfl, hb⟩; have n0_ := Aside0.mk (blk_below (g := gb127) (o := .cells #[.string (⟨#[78, 79, 84]⟩ : ByteArray), .int .i64 0, .int .i64 2, .string (⟨#[116]⟩ : ByteArray)] 76 (0, 0)) (by (with_reducible repeat (first | refine blk_drewN ?_ _ | refine blk_drew ?_ | refine blk_alloc ?_ _)); exact BK127.out) hb); have n1_ := Aside0.mk (below_step (by repeat (first | (with_reducible first | exact HB.out | apply below_alloc | apply pw_below_drewN | apply below_drew1 | refine below_set ?_ GE127.out) | exact HB.out)) hb); clear BK127; clear HB; have BK127 := n0_; have HB := n1_; clear n0_ n1_; (try clear hb); (try clear hb2); (try clear hk); (try clear hi)) | (go_at_call 81; (with_reducible refine (impl_tableOf_2.calls (⟨#[73, 84, 77]⟩ : ByteArray) (⟨#[114, 122, 63, 116]⟩ : ByteArray) t176 t177 t178 t179 _ A41.out).mono ?_); rintro e w43 ⟨rfl, hb⟩; have n0_ := Aside0.mk (blk_below (g := gb127) (o := .cells #[.string (⟨#[78, 79, 84]⟩ : ByteArray), .int .i64 0, .int .i64 2, .string (⟨#[116]⟩ : ByteArray)] 76 (0, 0)) (by (with_reducible repeat (first | refine blk_drewN ?_ _ | refine blk_drew ?_ | refine blk_alloc ?_ _)); exact BK127.out) hb); have n1_ := Aside0.mk (below_step (by repeat (first | (with_reducible first | exact HB.out | apply below_alloc | apply pw_below_drewN | apply below_drew1 | refine below_set ?_ GE127.out) | exact HB.out)) hb); clear BK127; clear HB; have BK127 := n0_; have HB := n1_; clear n0_ n1_; (try clear hb); (try clear hb2); (try clear hk); (try clear hi)) | ((with_reducible refine gate_dst (N := 45) rfl ?_); refine Kd.R_lit k76 _ 76 ?hg (N := 45) ?hd (xs := ([(⟨t172, t173, t174, t175⟩ : S76), (⟨t176, t177, t178, t179⟩ : S76)] : List (S76))) (inner := [.string t172, .int .i64 t173, .int .i64 t174, .string t175, .string t176, .int .i64 t177, .int .i64 t178, .string t179]) (ok := fun _ => True) (okp := fun _ => True) ?hr ?hp (fun _ hk => hk) trivial (Below.refl _ _) (Nat.le_refl _) (by simp) ?_; (case hd => rfl); (case hg => rfl); (case hr => first | (go_simp; done) | (go_simp; rfl)); (case hp => exact (Reps.c4 (show Kd.M k76 _ _ _ (⟨t172, t173, t174, t175⟩ : S76) [.string t172, .int .i64 t173, .int .i64 t174, .string t175] from (k76_mkM _ _ _ (⟨t172, t173, t174, t175⟩ : S76) )) (Reps.c4 (show Kd.M k76 _ _ _ (⟨t176, t177, t178, t179⟩ : S76) [.string t176, .int .i64 t177, .int .i64 t178, .string t179] from (k76_mkM _ _ _ (⟨t176, t177, t178, t179⟩ : S76) )) (Reps.none _ _)))); intro v181 w44 ho45 hb hg_ hnew_; clear hg_ hnew_; (first | rw [← Ny180.out] at ho45 | (simp only [Int.reduceToNat] at ho45; rw [← Ny180.out] at ho45)); have n0_ := Aside0.mk (Kd.R_lower (Kd.R_newB ho45 (g := gb127) (o := .cells #[.string (⟨#[78, 79, 84]⟩ : ByteArray), .int .i64 0, .int .i64 2, .string (⟨#[116]⟩ : ByteArray)] 76 (0, 0)) (by (with_reducible repeat (first | refine blk_drewN ?_ _ | refine blk_drew ?_ | refine blk_alloc ?_ _)); exact BK127.out)) (below_size (by repeat (first | (with_reducible first | exact HB.out | apply below_alloc | apply pw_below_drewN | apply below_drew1 | refine below_set ?_ GE127.out) | exact HB.out)))); have n1_ := Aside0.mk (blk_below (g := gb127) (o := .cells #[.string (⟨#[78, 79, 84]⟩ : ByteArray), .int .i64 0, .int .i64 2, .string (⟨#[116]⟩ : ByteArray)] 76 (0, 0)) (by (with_reducible repeat (first | refine blk_drewN ?_ _ | refine blk_drew ?_ | refine blk_alloc ?_ _)); exact BK127.out) hb); have n2_ := Aside0.mk (below_step (by repeat (first | (with_reducible first | exact HB.out | apply below_alloc | apply pw_below_drewN | apply below_drew1 | refine below_set ?_ GE127.out) | exact HB.out)) hb); clear BK127; clear HB; have HO182 := n0_; have BK127 := n1_; have HB := n2_; clear n0_ n1_ n2_; clear hb ho45))
                go_ret
                exact ⟨_, by first | rfl | (simp [errW_none, errW_some] <;> rfl) | (simp [*, errW_none, errW_some] <;> rfl), by (with_reducible repeat (first | apply Kd.R_alloc | apply Kd.R_drewN | apply Kd.R_drew)); exact Kd.R_mono HO182.out (fun _ hk => trivial), by repeat (first | (with_reducible first | exact HB.out | apply below_alloc | apply pw_below_drewN | apply below_drew1 | refine below_set ?_ GE127.out) | exact HB.out)⟩
              · rw [if_neg c39] at H
                have c39b0 : (a0 == 6) = false := beq_eq_false_iff_ne.mpr c39
                have c39b1 : (a0 != 6) = true := bne_iff_ne.mpr c39
                by_cases c46 : a0 = 7
                · rw [if_pos c46] at H
                  have c46b0 : (a0 == 7) = true := beq_iff_eq.mpr c46
                  have c46b1 : (a0 != 7) = false := bne_eq_false_iff_eq.mpr c46
                  clear c46
                  replace H := Option.bind_eq_some_iff.mp H
                  obtain ⟨⟨t183, t184, t185, t186⟩, A470, H⟩ := H
                  replace H : (some (([(⟨t183, t184, t185, t186⟩ : S76), (⟨(⟨#[65, 67, 75]⟩ : ByteArray), 1, 1, (⟨#[110, 110, 63, 110]⟩ : ByteArray)⟩ : S76)] : List (S76)))) = some r := H
                  have A47 := Aside0.mk A470
                  clear A470
                  obtain ⟨y187, hy187⟩ : ∃ y_ : List (S76), y_ = (([(⟨t183, t184, t185, t186⟩ : S76), (⟨(⟨#[65, 67, 75]⟩ : ByteArray), 1, 1, (⟨#[110, 110, 63, 110]⟩ : ByteArray)⟩ : S76)] : List (S76))) := ⟨_, rfl⟩
                  replace H : (some y187) = some r := by first | (rw [hy187]; with_reducible exact H) | (have H2_ := (Option.bind_some _ _).symm.trans H; rw [hy187]; with_reducible exact H2_) | (have H2_ := (Option.bind_some _ _).symm.trans H; with_reducible exact H2_) | with_reducible exact H | (rw [hy187]; exact H) | exact H
                  have Ny187 := Aside0.mk hy187
                  clear hy187
                  obtain rfl := Option.some.inj H
                  go_wp2_with (first | (go_at_call 80; (with_reducible refine (impl_tableOf_1.calls (⟨#[114, 100]⟩ : ByteArray) t183 t184 t185 t186 _ A47.out).mono ?_); rintro e w48 ⟨rfl, hb⟩; have n0_ := Aside0.mk (blk_below (g := gb127) (o := .cells #[.string (⟨#[78, 79, 84]⟩ : ByteArray), .int .i64 0, .int .i64 2, .string (⟨#[116]⟩ : ByteArray)] 76 (0, 0)) (by (with_reducible repeat (first | refine blk_drewN ?_ _ | refine blk_drew ?_ | refine blk_alloc ?_ _)); exact BK127.out) hb); have n1_ := Aside0.mk (below_step (by repeat (first | (with_reducible first | exact HB.out | apply below_alloc | apply pw_below_drewN | apply below_drew1 | refine below_set ?_ GE127.out) | exact HB.out)) hb); clear BK127; clear HB; have BK127 := n0_; have HB := n1_; clear n0_ n1_; (try clear hb); (try clear hb2); (try clear hk); (try clear hi)) | ((with_reducible refine gate_dst (N := 51) rfl ?_); refine Kd.R_lit k76 _ 76 ?hg (N := 51) ?hd (xs := ([(⟨t183, t184, t185, t186⟩ : S76), (⟨(⟨#[65, 67, 75]⟩ : ByteArray), 1, 1, (⟨#[110, 110, 63, 110]⟩ : ByteArray)⟩ : S76)] : List (S76))) (inner := [.string t183, .int .i64 t184, .int .i64 t185, .string t186, .string (⟨#[65, 67, 75]⟩ : ByteArray), .int .i64 1, .int .i64 1, .string (⟨#[110, 110, 63, 110]⟩ : ByteArray)]) (ok := fun _ => True) (okp := fun _ => True) ?hr ?hp (fun _ hk => hk) trivial (Below.refl _ _) (Nat.le_refl _) (by simp) ?_; (case hd => rfl); (case hg => rfl); (case hr => first | (go_simp; done) | (go_simp; rfl)); (case hp => exact (Reps.c4 (show Kd.M k76 _ _ _ (⟨t183, t184, t185, t186⟩ : S76) [.string t183, .int .i64 t184, .int .i64 t185, .string t186] from (k76_mkM _ _ _ (⟨t183, t184, t185, t186⟩ : S76) )) (Reps.c4 (show Kd.M k76 _ _ _ (⟨(⟨#[65, 67, 75]⟩ : ByteArray), 1, 1, (⟨#[110, 110, 63, 110]⟩ : ByteArray)⟩ : S76) [.string (⟨#[65, 67, 75]⟩ : ByteArray), .int .i64 1, .int .i64 1, .string (⟨#[110, 110, 63, 110]⟩ : ByteArray)] from (k76_mkM _ _ _ (⟨(⟨#[65, 67, 75]⟩ : ByteArray), 1, 1, (⟨#[110, 110, 63, 110]⟩ : ByteArray)⟩ : S76) )) (Reps.none _ _)))); intro v188 w49 ho50 hb hg_ hnew_; clear hg_ hnew_; (first | rw [← Ny187.out] at ho50 | (simp only [Int.reduceToNat] at ho50; rw [← Ny187.out] at ho50)); have n0_ := Aside0.mk (Kd.R_lower (Kd.R_newB ho50 (g := gb127) (o := .cells #[.string (⟨#[78, 79, 84]⟩ : ByteArray), .int .i64 0, .int .i64 2, .string (⟨#[116]⟩ : ByteArray)] 76 (0, 0)) (by (with_reducible repeat (first | refine blk_drewN ?_ _ | refine blk_drew ?_ | refine blk_alloc ?_ _)); exact BK127.out)) (below_size (by repeat (first | (with_reducible first | exact HB.out | apply below_alloc | apply pw_below_drewN | apply below_drew1 | refine below_set ?_ GE127.out) | exact HB.out)))); have n1_ := Aside0.mk (blk_below (g := gb127) (o := .cells #[.string (⟨#[78, 79, 84]⟩ : ByteArray), .int .i64 0, .int .i64 2, .string (⟨#[116]⟩ : ByteArray)] 76 (0, 0)) (by (with_reducible repeat (first | refine blk_drewN ?_ _ | refine blk_drew ?_ | refine blk_alloc ?_ _)); exact BK127.out) hb); have n2_ := Aside0.mk (below_step (by repeat (first | (with_reducible first | exact HB.out | apply below_alloc | apply pw_below_drewN | apply below_drew1 | refine below_set ?_ GE127.out) | exact HB.out)) hb); clear BK127; clear HB; have HO189 := n0_; have BK127 := n1_; have HB := n2_; clear n0_ n1_ n2_; clear hb ho50))
                  go_ret
                  exact ⟨_, by first | rfl | (simp [errW_none, errW_some] <;> rfl) | (simp [*, errW_none, errW_some] <;> rfl), by (with_reducible repeat (first | apply Kd.R_alloc | apply Kd.R_drewN | apply Kd.R_drew)); exact Kd.R_mono HO189.out (fun _ hk => trivial), by repeat (first | (with_reducible first | exact HB.out | apply below_alloc | apply pw_below_drewN | apply below_drew1 | refine below_set ?_ GE127.out) | exact HB.out)⟩
                · rw [if_neg c46] at H
                  have c46b0 : (a0 == 7) = false := beq_eq_false_iff_ne.mpr c46
                  have c46b1 : (a0 != 7) = true := bne_iff_ne.mpr c46
                  obtain rfl := Option.some.inj H
                  go_wp2
                  go_ret
                  exact ⟨_, by first | rfl | (simp [errW_none, errW_some] <;> rfl) | (simp [*, errW_none, errW_some] <;> rfl), by first | exact Kd.R_nil _ _ _ _ _ | exact Kd.N_nil _ _ _ _ _ | exact Kd.V_nil _ _ _ _ _ | exact Kd.Q_nil _ _ _ _ _ | exact Kd.S_nil _ _ _ _ _, by repeat (first | (with_reducible first | exact HB.out | apply below_alloc | apply pw_below_drewN | apply below_drew1 | refine below_set ?_ GE127.out) | exact HB.out)⟩

/-! ### impl_TableOf: function 33 -/
def impl_TableOf.f (k : Nat) (a0 : Int) : Option ((List (S76))) := (impl_tableOf.f k a0).bind fun t190 => (some t190)
theorem impl_TableOf.mono : ∀ a0 k, LeO (impl_TableOf.f k a0) (impl_TableOf.f (k + 1) a0) := by
  intro a0 k
  unfold impl_TableOf.f
  repeat' first
      | (with_reducible exact impl_tableOf.mono _ _)
      | (with_reducible exact LeO.refl _)
      | (with_reducible exact LeO.none _)
      | (with_reducible refine LeO.ite ?_ ?_)
      | (with_reducible refine LeO.bind ?_ (fun _ => ?_))
      | exact impl_tableOf.mono _ _
      | exact LeO.none _
      | refine LeO.ite ?_ ?_
      | refine LeO.bind ?_ (fun _ => ?_)
set_option maxHeartbeats 8000000 in
set_option maxRecDepth 100000 in
theorem impl_TableOf.calls (k : Nat) (a0 : Int) (r : List (S76)) (w : World) (h : impl_TableOf.f k a0 = some r) :
    Calls Try.prog 33 #[.int .i64 a0] w fun e w' => ∃ v0_ : Value, e = .returned (v0_) ∧ Kd.R k76 76 w' w.heap.size (fun _ => True) v0_ r ∧ Below w.heap.size w w' := by
  have HB := Aside0.mk (Below.refl w.heap.size w)
  have H : ((impl_tableOf.f k a0).bind fun t190 => (some t190)) = some r := h
  clear h
  replace H := Option.bind_eq_some_iff.mp H
  obtain ⟨t190, A20, H⟩ := H
  replace H : (some t190) = some r := H
  have A2 := Aside0.mk A20
  clear A20
  obtain rfl := Option.some.inj H
  go_enter Try.func33, Try.ntmps33
  go_wp2_with (first | ((with_reducible refine gate_callee (f := 52) rfl ?_); refine goesL_ (some 4) rfl rfl Try.func52 (by kernel_rfl) rfl #[.int .i64 a0] rfl (by (try simp only [List.map_toArray, List.map_cons, List.map_nil]); first | done | rfl | (simp only [List.length_drop, List.length_take]; rfl)) ?_; (with_reducible refine (impl_tableOf.calls k a0 t190 _ A2.out).mono ?_); rintro e w3 ⟨v191, rfl, ho0, hb⟩; refine ⟨_, rfl, ?_⟩; have n0_ := Aside0.mk (Kd.R_lower ho0 (below_size (by repeat (first | (with_reducible first | exact HB.out | apply below_alloc | apply pw_below_drewN | apply below_drew1) | exact HB.out)))); have n1_ := Aside0.mk (below_step (by repeat (first | (with_reducible first | exact HB.out | apply below_alloc | apply pw_below_drewN | apply below_drew1) | exact HB.out)) hb); clear HB; have HO192 := n0_; have HB := n1_; clear n0_ n1_; (try clear hb); (try clear hb2); (try clear hk); (try clear hi); (try clear ho0)))
  go_ret
  exact ⟨_, by first | rfl | (simp [errW_none, errW_some] <;> rfl) | (simp [*, errW_none, errW_some] <;> rfl), by (with_reducible repeat (first | apply Kd.R_alloc | apply Kd.R_drewN | apply Kd.R_drew)); exact HO192.out, by repeat (first | (with_reducible first | exact HB.out | apply below_alloc | apply pw_below_drewN | apply below_drew1) | exact HB.out)⟩

end Go.Proofs.Ytkmpfgpamlfldaa.PFnExactTableOf
