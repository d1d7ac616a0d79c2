-- printed by a program of this session (wip/xp/xprint.py) out of the translation; Lean checks it
import Derived.Test.YtkmpfgpamlfldaaPFnExactTagOfx0
import Derived.Test.YtkmpfgpamlfldaaPFnExactTagOfx1
namespace Go.Proofs.Ytkmpfgpamlfldaa.PFnExactTagOf
open Go.RowKit Go.Proofs.YtkmpfgpamlfldaaW.PrintWords Go.Proofs.YtkmpfgpamlfldaaW.PrintLast Go.Proofs.YtkmpfgpamlfldaaW.PrintMore
attribute [local go_sem] max2_int min2_int max_two min_two max_three min_three max_four min_four   -- for this text's walks alone
set_option linter.unusedVariables false
set_option linter.unusedSimpArgs false

/-! ### impl_tableOf: function 52 -/
def impl_tableOf.j0 : Nat → Int → Bool → ByteArray → Int → Int → ByteArray → Option ((List (S76)))
  | 0, _, _, _, _, _, _ => none
  | k + 1, x7, x16, x132000, x132001, x132002, x132003 => if x16 = true then ((impl_tableOf_1.f (⟨#[114, 114, 100]⟩ : ByteArray)).bind fun bt143 => ((impl_tableOf_2.f (⟨#[76, 73, 78]⟩ : ByteArray) (⟨#[110, 113, 63, 116]⟩ : ByteArray)).bind fun bt147 => (some (([(⟨bt143.1, bt143.2.1, bt143.2.2.1, bt143.2.2.2⟩ : S76), (⟨bt147.1, bt147.2.1, bt147.2.2.1, bt147.2.2.2⟩ : S76)] : List (S76)))))) else (if x7 = 3 then ((impl_tableOf_1.f (⟨#[114, 114, 100]⟩ : ByteArray)).bind fun bt154 => ((impl_tableOf_2.f (⟨#[76, 73, 78]⟩ : ByteArray) (⟨#[110, 113]⟩ : ByteArray)).bind fun bt158 => (some (([(⟨bt154.1, bt154.2.1, bt154.2.2.1, bt154.2.2.2⟩ : S76), (⟨x132000, x132001, x132002, x132003⟩ : S76), (⟨bt158.1, bt158.2.1, bt158.2.2.1, bt158.2.2.2⟩ : S76)] : List (S76)))))) else (if x7 = 5 then ((impl_tableOf_1.f (⟨#[114, 100]⟩ : ByteArray)).bind fun bt165 => ((impl_tableOf_2.f (⟨#[73, 84, 77]⟩ : ByteArray) (⟨#[114, 110]⟩ : ByteArray)).bind fun bt169 => (some (([(⟨bt165.1, bt165.2.1, bt165.2.2.1, bt165.2.2.2⟩ : S76), (⟨bt169.1, bt169.2.1, bt169.2.2.1, bt169.2.2.2⟩ : S76)] : List (S76)))))) else (if x7 = 6 then ((impl_tableOf_1.f (⟨#[114, 100]⟩ : ByteArray)).bind fun bt176 => ((impl_tableOf_2.f (⟨#[73, 84, 77]⟩ : ByteArray) (⟨#[114, 122, 63, 116]⟩ : ByteArray)).bind fun bt180 => (some (([(⟨bt176.1, bt176.2.1, bt176.2.2.1, bt176.2.2.2⟩ : S76), (⟨bt180.1, bt180.2.1, bt180.2.2.1, bt180.2.2.2⟩ : S76)] : List (S76)))))) else (if x7 = 7 then ((impl_tableOf_1.f (⟨#[114, 100]⟩ : ByteArray)).bind fun bt187 => (some (([(⟨bt187.1, bt187.2.1, bt187.2.2.1, bt187.2.2.2⟩ : S76), (⟨(⟨#[65, 67, 75]⟩ : ByteArray), 1, 1, (⟨#[110, 110, 63, 110]⟩ : ByteArray)⟩ : S76)] : List (S76))))) else (some ([] : List (S76)))))))
def impl_tableOf.f (k : Nat) (a0 : Int) : Option ((List (S76))) := if a0 = 1 then ((impl_tableOf_1.f (⟨#[114, 100]⟩ : ByteArray)).bind fun bt132 => ((impl_tableOf_2.f (⟨#[76, 73, 78]⟩ : ByteArray) (⟨#[110, 114, 113, 63, 110]⟩ : ByteArray)).bind fun bt136 => (some (([(⟨bt132.1, bt132.2.1, bt132.2.2.1, bt132.2.2.2⟩ : S76), (⟨(⟨#[78, 79, 84]⟩ : ByteArray), 0, 2, (⟨#[116]⟩ : ByteArray)⟩ : S76), (⟨bt136.1, bt136.2.1, bt136.2.2.1, bt136.2.2.2⟩ : S76)] : List (S76)))))) else (if a0 = 2 then (impl_tableOf.j0 k a0 (a0 == 2) (⟨#[78, 79, 84]⟩ : ByteArray) 0 2 (⟨#[116]⟩ : ByteArray)) else (impl_tableOf.j0 k a0 (a0 == 4) (⟨#[78, 79, 84]⟩ : ByteArray) 0 2 (⟨#[116]⟩ : ByteArray)))
theorem impl_tableOf.mono_l : ∀ k, (∀ y0 y1 y2 y3 y4 y5, LeO (impl_tableOf.j0 k y0 y1 y2 y3 y4 y5) (impl_tableOf.j0 (k + 1) y0 y1 y2 y3 y4 y5))
  | 0 => fun _ _ _ _ _ _ r h => by simp [impl_tableOf.j0] at h
  | k + 1 => by
    have ih0 := impl_tableOf.mono_l k
    · intro y0 y1 y2 y3 y4 y5
      unfold impl_tableOf.j0
      repeat' first
      | (with_reducible exact ih0 _ _ _ _ _ _)
      | (with_reducible exact LeO.refl _)
      | (with_reducible exact LeO.none _)
      | (with_reducible refine LeO.ite ?_ ?_)
      | (with_reducible refine LeO.bind ?_ (fun _ => ?_))
      | exact ih0 _ _ _ _ _ _
      | exact LeO.none _
      | refine LeO.ite ?_ ?_
      | refine LeO.bind ?_ (fun _ => ?_)
theorem impl_tableOf.mono : ∀ a0 k, LeO (impl_tableOf.f k a0) (impl_tableOf.f (k + 1) a0) := by
  intro a0 k
  have ih0 := impl_tableOf.mono_l k
  unfold impl_tableOf.f
  repeat' first
      | (with_reducible exact ih0 _ _ _ _ _ _)
      | (with_reducible exact LeO.refl _)
      | (with_reducible exact LeO.none _)
      | (with_reducible refine LeO.ite ?_ ?_)
      | (with_reducible refine LeO.bind ?_ (fun _ => ?_))
      | exact ih0 _ _ _ _ _ _
      | exact LeO.none _
      | refine LeO.ite ?_ ?_
      | refine LeO.bind ?_ (fun _ => ?_)
set_option maxHeartbeats 8000000 in
set_option maxRecDepth 100000 in
theorem impl_tableOf.calls (k : Nat) (a0 : Int) (r : List (S76)) (w : World) (h : impl_tableOf.f k a0 = some r) :
    Calls Try.prog 52 #[.int .i64 a0] w fun e w' => ∃ v0_ : Value, e = .returned (v0_) ∧ Kd.R k76 76 w' w.heap.size (fun _ => True) v0_ r ∧ Below w.heap.size w w' := by
  have hu76 := Try.underlying76
  have HB := Aside0.mk (Below.refl w.heap.size w)
  have H : (if a0 = 1 then ((impl_tableOf_1.f (⟨#[114, 100]⟩ : ByteArray)).bind fun bt132 => ((impl_tableOf_2.f (⟨#[76, 73, 78]⟩ : ByteArray) (⟨#[110, 114, 113, 63, 110]⟩ : ByteArray)).bind fun bt136 => (some (([(⟨bt132.1, bt132.2.1, bt132.2.2.1, bt132.2.2.2⟩ : S76), (⟨(⟨#[78, 79, 84]⟩ : ByteArray), 0, 2, (⟨#[116]⟩ : ByteArray)⟩ : S76), (⟨bt136.1, bt136.2.1, bt136.2.2.1, bt136.2.2.2⟩ : S76)] : List (S76)))))) else (if a0 = 2 then (impl_tableOf.j0 k a0 (a0 == 2) (⟨#[78, 79, 84]⟩ : ByteArray) 0 2 (⟨#[116]⟩ : ByteArray)) else (impl_tableOf.j0 k a0 (a0 == 4) (⟨#[78, 79, 84]⟩ : ByteArray) 0 2 (⟨#[116]⟩ : ByteArray)))) = some r := h
  clear h
  by_cases c2 : a0 = 1
  · rw [if_pos c2] at H
    have c2b0 : (a0 == 1) = true := beq_iff_eq.mpr c2
    have c2b1 : (a0 != 1) = false := bne_eq_false_iff_eq.mpr c2
    clear c2
    replace H := Option.bind_eq_some_iff.mp H
    obtain ⟨⟨t132, t133, t134, t135⟩, A30, H⟩ := H
    replace H : ((impl_tableOf_2.f (⟨#[76, 73, 78]⟩ : ByteArray) (⟨#[110, 114, 113, 63, 110]⟩ : ByteArray)).bind fun bt136 => (some (([(⟨t132, t133, t134, t135⟩ : S76), (⟨(⟨#[78, 79, 84]⟩ : ByteArray), 0, 2, (⟨#[116]⟩ : ByteArray)⟩ : S76), (⟨bt136.1, bt136.2.1, bt136.2.2.1, bt136.2.2.2⟩ : S76)] : List (S76))))) = some r := H
    have A3 := Aside0.mk A30
    clear A30
    replace H := Option.bind_eq_some_iff.mp H
    obtain ⟨⟨t136, t137, t138, t139⟩, A40, H⟩ := H
    replace H : (some (([(⟨t132, t133, t134, t135⟩ : S76), (⟨(⟨#[78, 79, 84]⟩ : ByteArray), 0, 2, (⟨#[116]⟩ : ByteArray)⟩ : S76), (⟨t136, t137, t138, t139⟩ : S76)] : List (S76)))) = some r := H
    have A4 := Aside0.mk A40
    clear A40
    obtain ⟨y140, hy140⟩ : ∃ y_ : List (S76), y_ = (([(⟨t132, t133, t134, t135⟩ : S76), (⟨(⟨#[78, 79, 84]⟩ : ByteArray), 0, 2, (⟨#[116]⟩ : ByteArray)⟩ : S76), (⟨t136, t137, t138, t139⟩ : S76)] : List (S76))) := ⟨_, rfl⟩
    replace H : (some y140) = some r := by first | (rw [hy140]; with_reducible exact H) | (have H2_ := (Option.bind_some _ _).symm.trans H; rw [hy140]; with_reducible exact H2_) | (have H2_ := (Option.bind_some _ _).symm.trans H; with_reducible exact H2_) | with_reducible exact H | (rw [hy140]; exact H) | exact H
    have Ny140 := Aside0.mk hy140
    clear hy140
    obtain rfl := Option.some.inj H
    go_enter Try.func52, Try.ntmps52
    try go_wp2_with (first | ((with_reducible refine gate_dst (N := 4) rfl ?_); refine box_event ?hg (N := 4) ?hd (cs := #[.string (⟨#[]⟩ : ByteArray), .int .i64 0, .int .i64 0, .string (⟨#[]⟩ : ByteArray)]) (t := 76) ?hr ?_; (case hd => rfl); (case hg => rfl); (case hr => first | (go_simp; done) | (go_simp; rfl)); intro gb131 hg w5 hbox hb; have n0_ := Aside0.mk (below_step (by repeat (first | (with_reducible first | exact HB.out | apply below_alloc | apply pw_below_drewN | apply below_drew1) | exact HB.out)) hb); have n1_ := Aside0.mk (hbox); have n2_ := Aside0.mk ((by rw [hg]; exact (below_size (by repeat (first | (with_reducible first | exact HB.out | apply below_alloc | apply pw_below_drewN | apply below_drew1) | exact HB.out))) : w.heap.size ≤ gb131)); have n3_ := Aside0.mk ((by rw [hg]; exact (below_size (by repeat (first | (with_reducible first | exact HB.out | apply below_alloc | apply pw_below_drewN | apply below_drew1) | exact HB.out))) : w.heap.size ≤ gb131)); clear HB; have HB := n0_; have BK131 := n1_; have GW131 := n2_; have GE131 := n3_; clear n0_ n1_ n2_ n3_; clear hb hbox hg; have hcz6_0 : w5.cell? ⟨gb131, 0, none⟩ = some (.string (⟨#[]⟩ : ByteArray)) := (blk_cell BK131.out 0).trans rfl; have hcz6_1 : w5.cell? ⟨gb131, 1, none⟩ = some (.int .i64 0) := (blk_cell BK131.out 1).trans rfl; have hcz6_2 : w5.cell? ⟨gb131, 2, none⟩ = some (.int .i64 0) := (blk_cell BK131.out 2).trans rfl; have hcz6_3 : w5.cell? ⟨gb131, 3, none⟩ = some (.string (⟨#[]⟩ : ByteArray)) := (blk_cell BK131.out 3).trans rfl; have hfz6_0 := blk_frozen BK131.out 0; have hfz6_1 := blk_frozen BK131.out 1; have hfz6_2 := blk_frozen BK131.out 2; have hfz6_3 := blk_frozen BK131.out 3))
    have n0_ : Aside0 (((((w5.setCell ⟨gb131, 0, none⟩ (.string (⟨#[78, 79, 84]⟩ : ByteArray))).setCell ⟨gb131, 1, none⟩ (.int .i64 0)).setCell ⟨gb131, 2, none⟩ (.int .i64 2)).setCell ⟨gb131, 3, none⟩ (.string (⟨#[116]⟩ : ByteArray))).heap[gb131]? = some (.cells #[.string (⟨#[78, 79, 84]⟩ : ByteArray), .int .i64 0, .int .i64 2, .string (⟨#[116]⟩ : ByteArray)] 76 (0, 0))) := ⟨by (with_reducible repeat (first | refine blk_drewN ?_ _ | refine blk_drew ?_ | refine blk_alloc ?_ _)); refine blk_put (cs := #[.string (⟨#[78, 79, 84]⟩ : ByteArray), .int .i64 0, .int .i64 2, .string (⟨#[]⟩ : ByteArray)]) ?_ 3 _ rfl; (with_reducible repeat (first | refine blk_drewN ?_ _ | refine blk_drew ?_ | refine blk_alloc ?_ _)); refine blk_put (cs := #[.string (⟨#[78, 79, 84]⟩ : ByteArray), .int .i64 0, .int .i64 0, .string (⟨#[]⟩ : ByteArray)]) ?_ 2 _ rfl; (with_reducible repeat (first | refine blk_drewN ?_ _ | refine blk_drew ?_ | refine blk_alloc ?_ _)); refine blk_put (cs := #[.string (⟨#[78, 79, 84]⟩ : ByteArray), .int .i64 0, .int .i64 0, .string (⟨#[]⟩ : ByteArray)]) ?_ 1 _ rfl; (with_reducible repeat (first | refine blk_drewN ?_ _ | refine blk_drew ?_ | refine blk_alloc ?_ _)); refine blk_put (cs := #[.string (⟨#[]⟩ : ByteArray), .int .i64 0, .int .i64 0, .string (⟨#[]⟩ : ByteArray)]) ?_ 0 _ rfl; (with_reducible repeat (first | refine blk_drewN ?_ _ | refine blk_drew ?_ | refine blk_alloc ?_ _)); exact BK131.out⟩
    have n1_ : Aside0 (Below w.heap.size w ((((w5.setCell ⟨gb131, 0, none⟩ (.string (⟨#[78, 79, 84]⟩ : ByteArray))).setCell ⟨gb131, 1, none⟩ (.int .i64 0)).setCell ⟨gb131, 2, none⟩ (.int .i64 2)).setCell ⟨gb131, 3, none⟩ (.string (⟨#[116]⟩ : ByteArray)))) := ⟨by repeat (first | (with_reducible first | exact HB.out | apply below_alloc | apply pw_below_drewN | apply below_drew1 | refine below_set ?_ GE131.out) | exact HB.out)⟩
    (try clear BK131)
    (try clear HB)
    generalize ((((w5.setCell ⟨gb131, 0, none⟩ (.string (⟨#[78, 79, 84]⟩ : ByteArray))).setCell ⟨gb131, 1, none⟩ (.int .i64 0)).setCell ⟨gb131, 2, none⟩ (.int .i64 2)).setCell ⟨gb131, 3, none⟩ (.string (⟨#[116]⟩ : ByteArray))) = w7 at n0_ n1_ ⊢
    have BK131 := n0_
    have HB := n1_
    clear n0_ n1_
    have n0_ := Aside0.mk (blk_drew BK131.out)
    have n1_ := Aside0.mk (below_drew1 HB.out)
    clear BK131
    clear HB
    have BK131 := n0_
    have HB := n1_
    clear n0_ n1_
    refine start_ (n := 7) (S := fun w' => w'.cell? ⟨gb131, 0, none⟩ = some (.string (⟨#[78, 79, 84]⟩ : ByteArray)) ∧ w'.cell? ⟨gb131, 1, none⟩ = some (.int .i64 0) ∧ w'.cell? ⟨gb131, 2, none⟩ = some (.int .i64 2) ∧ w'.cell? ⟨gb131, 3, none⟩ = some (.string (⟨#[116]⟩ : ByteArray))) (ds := []) #[false, false, false, false, false, false, false] (by kernel_rfl) rfl rfl ⟨(blk_cell BK131.out 0).trans rfl, (blk_cell BK131.out 1).trans rfl, (blk_cell BK131.out 2).trans rfl, (blk_cell BK131.out 3).trans rfl⟩ (fun hHeld => ?_)
    generalize w7.drew = w8 at BK131 HB hHeld ⊢
    refine pure_ (i := 0) (N := some 10) (v := ?_) (a' := ?_) #[true, false, false, false, false, false, false] rfl rfl (by kernel_rfl) (fun _ _ _ h => h) (Or.inl ⟨by rfl, ?_⟩) ?_ ?_
    rotate_left
    · intro w'
      go_simp
      with_reducible rfl
    rotate_left
    · simp only [Act.put, List.setIfInBounds_toArray, List.set_cons_zero, List.set_cons_succ, i64_w, i32_w]
      rfl
    refine pure_ (i := 3) (N := some 13) (v := ?_) (a' := ?_) #[true, false, false, true, false, false, false] rfl rfl (by kernel_rfl) (fun _ _ _ h => h) (Or.inl ⟨by rfl, ?_⟩) ?_ ?_
    rotate_left
    · intro w'
      go_simp
      with_reducible rfl
    rotate_left
    · simp only [Act.put, List.setIfInBounds_toArray, List.set_cons_zero, List.set_cons_succ, i64_w, i32_w]
      rfl
    refine take_ (i := 2) (N := some 12) (v := ?_) (a' := ?_) #[true, false, true, true, false, false, false] rfl rfl (by kernel_rfl) (fun _ _ _ h => h) (Or.inl ⟨by rfl, ?_⟩) hHeld ?_ ?_
    rotate_left
    · rintro w' ⟨s0, s1, s2, s3⟩
      go_simp
      with_reducible rfl
    rotate_left
    · simp only [Act.put, List.setIfInBounds_toArray, List.set_cons_zero, List.set_cons_succ, i64_w, i32_w]
      rfl
    refine one_ (i := 1) (N := some 11) #[true, true, true, true, false, false, false] rfl rfl (by kernel_rfl) (by decide) (fun K hK => ?_)
    refine goesV_ Try.func80 (by kernel_rfl) rfl #[.string (⟨#[114, 100]⟩ : ByteArray)] (by rfl) rfl rfl rfl (by (try simp only [List.map_toArray, List.map_cons, List.map_nil]); first | done | rfl | (simp only [List.length_drop, List.length_take]; rfl)) ?_
    with_reducible refine (impl_tableOf_1.calls (⟨#[114, 100]⟩ : ByteArray) t132 t133 t134 t135 _ A3.out).mono ?_
    rintro e w9 ⟨rfl, hb⟩
    refine ⟨_, rfl, ?_⟩
    have n0_ := Aside0.mk (blk_below (g := gb131) (o := .cells #[.string (⟨#[78, 79, 84]⟩ : ByteArray), .int .i64 0, .int .i64 2, .string (⟨#[116]⟩ : ByteArray)] 76 (0, 0)) (by (with_reducible repeat (first | refine blk_drewN ?_ _ | refine blk_drew ?_ | refine blk_alloc ?_ _)); exact BK131.out) hb)
    have n1_ := Aside0.mk (below_step (by repeat (first | (with_reducible first | exact HB.out | apply below_alloc | apply pw_below_drewN | apply below_drew1 | refine below_set ?_ GE131.out) | exact HB.out)) hb)
    clear BK131
    clear HB
    have BK131 := n0_
    have HB := n1_
    clear n0_ n1_
    (try clear hb)
    (try clear hb2)
    (try clear hk)
    (try clear hi)
    refine hK.out _ _ ⟨(blk_cell BK131.out 0).trans rfl, (blk_cell BK131.out 1).trans rfl, (blk_cell BK131.out 2).trans rfl, (blk_cell BK131.out 3).trans rfl⟩ (fun hHeld => ?_)
    clear hK K
    refine norm_ (a' := ?_) ?_ ?_
    rotate_left
    · show Act.put _ (some 11) _ = _
      simp only [Act.put, List.setIfInBounds_toArray, List.set_cons_zero, List.set_cons_succ, i64_w, i32_w]
      rfl
    refine one_ (i := 4) (N := some 14) #[true, true, true, true, true, false, false] rfl rfl (by kernel_rfl) (by decide) (fun K hK => ?_)
    refine goesV_ Try.func81 (by kernel_rfl) rfl #[.string (⟨#[76, 73, 78]⟩ : ByteArray), .string (⟨#[110, 114, 113, 63, 110]⟩ : ByteArray)] (by rfl) rfl rfl rfl (by (try simp only [List.map_toArray, List.map_cons, List.map_nil]); first | done | rfl | (simp only [List.length_drop, List.length_take]; rfl)) ?_
    with_reducible refine (impl_tableOf_2.calls (⟨#[76, 73, 78]⟩ : ByteArray) (⟨#[110, 114, 113, 63, 110]⟩ : ByteArray) t136 t137 t138 t139 _ A4.out).mono ?_
    rintro e w10 ⟨rfl, hb⟩
    refine ⟨_, rfl, ?_⟩
    have n0_ := Aside0.mk (blk_below (g := gb131) (o := .cells #[.string (⟨#[78, 79, 84]⟩ : ByteArray), .int .i64 0, .int .i64 2, .string (⟨#[116]⟩ : ByteArray)] 76 (0, 0)) (by (with_reducible repeat (first | refine blk_drewN ?_ _ | refine blk_drew ?_ | refine blk_alloc ?_ _)); exact BK131.out) hb)
    have n1_ := Aside0.mk (below_step (by repeat (first | (with_reducible first | exact HB.out | apply below_alloc | apply pw_below_drewN | apply below_drew1 | refine below_set ?_ GE131.out) | exact HB.out)) hb)
    clear BK131
    clear HB
    have BK131 := n0_
    have HB := n1_
    clear n0_ n1_
    (try clear hb)
    (try clear hb2)
    (try clear hk)
    (try clear hi)
    refine hK.out _ _ ⟨(blk_cell BK131.out 0).trans rfl, (blk_cell BK131.out 1).trans rfl, (blk_cell BK131.out 2).trans rfl, (blk_cell BK131.out 3).trans rfl⟩ (fun hHeld => ?_)
    clear hK K
    refine norm_ (a' := ?_) ?_ ?_
    rotate_left
    · show Act.put _ (some 14) _ = _
      simp only [Act.put, List.setIfInBounds_toArray, List.set_cons_zero, List.set_cons_succ, i64_w, i32_w]
      rfl
    refine one_ (i := 5) (N := some 15) #[true, true, true, true, true, true, false] rfl rfl (by kernel_rfl) (by decide) (fun K hK => ?_)
    refine Kd.R_lit_step k76 _ 76 ?hg (N := 15) ?hd (xs := ([(⟨t132, t133, t134, t135⟩ : S76), (⟨(⟨#[78, 79, 84]⟩ : ByteArray), 0, 2, (⟨#[116]⟩ : ByteArray)⟩ : S76), (⟨t136, t137, t138, t139⟩ : S76)] : List (S76))) (inner := [.string t132, .int .i64 t133, .int .i64 t134, .string t135, .string (⟨#[78, 79, 84]⟩ : ByteArray), .int .i64 0, .int .i64 2, .string (⟨#[116]⟩ : ByteArray), .string t136, .int .i64 t137, .int .i64 t138, .string t139]) (ok := fun _ => True) (okp := fun _ => True) ?hr ?hp (fun _ hk => hk) trivial (Below.refl _ _) (Nat.le_refl _) (by simp) ?_; (case hd => rfl); (case hg => rfl); (case hr => first | (go_simp; done) | (go_simp; rfl)); (case hp => exact (Reps.c4 (show Kd.M k76 _ _ _ (⟨t132, t133, t134, t135⟩ : S76) [.string t132, .int .i64 t133, .int .i64 t134, .string t135] from (k76_mkM _ _ _ (⟨t132, t133, t134, t135⟩ : S76) )) (Reps.c4 (show Kd.M k76 _ _ _ (⟨(⟨#[78, 79, 84]⟩ : ByteArray), 0, 2, (⟨#[116]⟩ : ByteArray)⟩ : S76) [.string (⟨#[78, 79, 84]⟩ : ByteArray), .int .i64 0, .int .i64 2, .string (⟨#[116]⟩ : ByteArray)] from (k76_mkM _ _ _ (⟨(⟨#[78, 79, 84]⟩ : ByteArray), 0, 2, (⟨#[116]⟩ : ByteArray)⟩ : S76) )) (Reps.c4 (show Kd.M k76 _ _ _ (⟨t136, t137, t138, t139⟩ : S76) [.string t136, .int .i64 t137, .int .i64 t138, .string t139] from (k76_mkM _ _ _ (⟨t136, t137, t138, t139⟩ : S76) )) (Reps.none _ _)))))
    intro v141 w11 ho12 hb hg_ hnew_
    clear hg_ hnew_
    (first | rw [← Ny140.out] at ho12 | (simp only [Int.reduceToNat] at ho12; rw [← Ny140.out] at ho12))
    have n0_ := Aside0.mk (Kd.R_lower (Kd.R_newB ho12 (g := gb131) (o := .cells #[.string (⟨#[78, 79, 84]⟩ : ByteArray), .int .i64 0, .int .i64 2, .string (⟨#[116]⟩ : ByteArray)] 76 (0, 0)) (by (with_reducible repeat (first | refine blk_drewN ?_ _ | refine blk_drew ?_ | refine blk_alloc ?_ _)); exact BK131.out)) (below_size (by repeat (first | (with_reducible first | exact HB.out | apply below_alloc | apply pw_below_drewN | apply below_drew1 | refine below_set ?_ GE131.out) | exact HB.out))))
    have n1_ := Aside0.mk (blk_below (g := gb131) (o := .cells #[.string (⟨#[78, 79, 84]⟩ : ByteArray), .int .i64 0, .int .i64 2, .string (⟨#[116]⟩ : ByteArray)] 76 (0, 0)) (by (with_reducible repeat (first | refine blk_drewN ?_ _ | refine blk_drew ?_ | refine blk_alloc ?_ _)); exact BK131.out) hb)
    have n2_ := Aside0.mk (below_step (by repeat (first | (with_reducible first | exact HB.out | apply below_alloc | apply pw_below_drewN | apply below_drew1 | refine below_set ?_ GE131.out) | exact HB.out)) hb)
    clear BK131
    clear HB
    have HO142 := n0_
    have BK131 := n1_
    have HB := n2_
    clear n0_ n1_ n2_
    clear hb ho12
    refine hK.out _ _ ⟨(blk_cell BK131.out 0).trans rfl, (blk_cell BK131.out 1).trans rfl, (blk_cell BK131.out 2).trans rfl, (blk_cell BK131.out 3).trans rfl⟩ (fun hHeld => ?_)
    clear hK K
    refine norm_ (a' := ?_) ?_ ?_
    rotate_left
    · show Act.put _ (some 15) _ = _
      simp only [Act.put, List.setIfInBounds_toArray, List.set_cons_zero, List.set_cons_succ, i64_w, i32_w]
      rfl
    refine pure_ (i := 6) (N := some 2) (v := ?_) (a' := ?_) #[true, true, true, true, true, true, true] rfl rfl (by kernel_rfl) (fun _ _ _ h => h) (Or.inl ⟨by rfl, ?_⟩) ?_ ?_
    rotate_left
    · intro w'
      go_simp
      with_reducible rfl
    rotate_left
    · simp only [Act.put, List.setIfInBounds_toArray, List.set_cons_zero, List.set_cons_succ, i64_w, i32_w]
      rfl
    refine done_ (by kernel_rfl) ?_
    try go_wp2
    go_ret
    exact ⟨_, by first | rfl | (simp [errW_none, errW_some] <;> rfl) | (simp [*, errW_none, errW_some] <;> rfl), by (with_reducible repeat (first | apply Kd.R_alloc | apply Kd.R_drewN | apply Kd.R_drew)); exact Kd.R_mono HO142.out (fun _ hk => trivial), by repeat (first | (with_reducible first | exact HB.out | apply below_alloc | apply pw_below_drewN | apply below_drew1 | refine below_set ?_ GE131.out) | exact HB.out)⟩
  · rw [if_neg c2] at H
    have c2b0 : (a0 == 1) = false := beq_eq_false_iff_ne.mpr c2
    have c2b1 : (a0 != 1) = true := bne_iff_ne.mpr c2
    have HC13 := Aside0.mk H
    clear H
    go_enter Try.func52, Try.ntmps52
    go_upto_if 16 with (first | ((with_reducible refine gate_dst (N := 4) rfl ?_); refine box_event ?hg (N := 4) ?hd (cs := #[.string (⟨#[]⟩ : ByteArray), .int .i64 0, .int .i64 0, .string (⟨#[]⟩ : ByteArray)]) (t := 76) ?hr ?_; (case hd => rfl); (case hg => rfl); (case hr => first | (go_simp; done) | (go_simp; rfl)); intro gb131 hg w14 hbox hb; have n0_ := Aside0.mk (below_step (by repeat (first | (with_reducible first | exact HB.out | apply below_alloc | apply pw_below_drewN | apply below_drew1) | exact HB.out)) hb); have n1_ := Aside0.mk (hbox); have n2_ := Aside0.mk ((by rw [hg]; exact (below_size (by repeat (first | (with_reducible first | exact HB.out | apply below_alloc | apply pw_below_drewN | apply below_drew1) | exact HB.out))) : w.heap.size ≤ gb131)); have n3_ := Aside0.mk ((by rw [hg]; exact (below_size (by repeat (first | (with_reducible first | exact HB.out | apply below_alloc | apply pw_below_drewN | apply below_drew1) | exact HB.out))) : w.heap.size ≤ gb131)); clear HB; have HB := n0_; have BK131 := n1_; have GW131 := n2_; have GE131 := n3_; clear n0_ n1_ n2_ n3_; clear hb hbox hg; have hcz15_0 : w14.cell? ⟨gb131, 0, none⟩ = some (.string (⟨#[]⟩ : ByteArray)) := (blk_cell BK131.out 0).trans rfl; have hcz15_1 : w14.cell? ⟨gb131, 1, none⟩ = some (.int .i64 0) := (blk_cell BK131.out 1).trans rfl; have hcz15_2 : w14.cell? ⟨gb131, 2, none⟩ = some (.int .i64 0) := (blk_cell BK131.out 2).trans rfl; have hcz15_3 : w14.cell? ⟨gb131, 3, none⟩ = some (.string (⟨#[]⟩ : ByteArray)) := (blk_cell BK131.out 3).trans rfl; have hfz15_0 := blk_frozen BK131.out 0; have hfz15_1 := blk_frozen BK131.out 1; have hfz15_2 := blk_frozen BK131.out 2; have hfz15_3 := blk_frozen BK131.out 3))
    (try simp only [Act.put, List.setIfInBounds_toArray, List.set_cons_zero, List.set_cons_succ])
    go_cut [16] (fun v16 wc => ∃ (kq : Nat) (x16_12 : Bool), v16 = .bool x16_12 ∧ Aside0 (impl_tableOf.j0 kq a0 x16_12 (⟨#[78, 79, 84]⟩ : ByteArray) 0 2 (⟨#[116]⟩ : ByteArray) = some r) ∧ Aside0 (kq ≤ k) ∧ Aside0 (wc.heap[gb131]? = some (.cells #[.string (⟨#[78, 79, 84]⟩ : ByteArray), .int .i64 0, .int .i64 2, .string (⟨#[116]⟩ : ByteArray)] 76 (0, 0))) ∧ Aside0 (Below w.heap.size w wc))
    case first =>
      have H := HC13.out
      clear HC13
      by_cases c16 : a0 = 2
      · rw [if_pos c16] at H
        have c16b0 : (a0 == 2) = true := beq_iff_eq.mpr c16
        have c16b1 : (a0 != 2) = false := bne_eq_false_iff_eq.mpr c16
        clear c16
        (first | rw [c16b0] | (simp only [i64_w, i32_w]; rw [c16b0]) | skip)
        have H' := Aside0.mk H
        clear H
        go_wp2
        go_meet
        case rel => exact ⟨_, ((a0 == 2)), (by first | rfl | (simp; done) | (simp [*]; done)), H', ⟨by first | omega | exact Nat.le_refl _⟩, ⟨by (with_reducible repeat (first | refine blk_drewN ?_ _ | refine blk_drew ?_ | refine blk_alloc ?_ _)); refine blk_put (cs := #[.string (⟨#[78, 79, 84]⟩ : ByteArray), .int .i64 0, .int .i64 2, .string (⟨#[]⟩ : ByteArray)]) ?_ 3 _ rfl; (with_reducible repeat (first | refine blk_drewN ?_ _ | refine blk_drew ?_ | refine blk_alloc ?_ _)); refine blk_put (cs := #[.string (⟨#[78, 79, 84]⟩ : ByteArray), .int .i64 0, .int .i64 0, .string (⟨#[]⟩ : ByteArray)]) ?_ 2 _ rfl; (with_reducible repeat (first | refine blk_drewN ?_ _ | refine blk_drew ?_ | refine blk_alloc ?_ _)); refine blk_put (cs := #[.string (⟨#[78, 79, 84]⟩ : ByteArray), .int .i64 0, .int .i64 0, .string (⟨#[]⟩ : ByteArray)]) ?_ 1 _ rfl; (with_reducible repeat (first | refine blk_drewN ?_ _ | refine blk_drew ?_ | refine blk_alloc ?_ _)); refine blk_put (cs := #[.string (⟨#[]⟩ : ByteArray), .int .i64 0, .int .i64 0, .string (⟨#[]⟩ : ByteArray)]) ?_ 0 _ rfl; (with_reducible repeat (first | refine blk_drewN ?_ _ | refine blk_drew ?_ | refine blk_alloc ?_ _)); exact BK131.out⟩, ⟨by repeat (first | (with_reducible first | exact HB.out | apply below_alloc | apply pw_below_drewN | apply below_drew1 | refine below_set ?_ GE131.out) | exact HB.out)⟩⟩
      · rw [if_neg c16] at H
        have c16b0 : (a0 == 2) = false := beq_eq_false_iff_ne.mpr c16
        have c16b1 : (a0 != 2) = true := bne_iff_ne.mpr c16
        (first | rw [c16b0] | (simp only [i64_w, i32_w]; rw [c16b0]) | skip)
        have H' := Aside0.mk H
        clear H
        go_wp2
        go_meet
        case rel => exact ⟨_, ((a0 == 4)), (by first | rfl | (simp; done) | (simp [*]; done)), H', ⟨by first | omega | exact Nat.le_refl _⟩, ⟨by (with_reducible repeat (first | refine blk_drewN ?_ _ | refine blk_drew ?_ | refine blk_alloc ?_ _)); refine blk_put (cs := #[.string (⟨#[78, 79, 84]⟩ : ByteArray), .int .i64 0, .int .i64 2, .string (⟨#[]⟩ : ByteArray)]) ?_ 3 _ rfl; (with_reducible repeat (first | refine blk_drewN ?_ _ | refine blk_drew ?_ | refine blk_alloc ?_ _)); refine blk_put (cs := #[.string (⟨#[78, 79, 84]⟩ : ByteArray), .int .i64 0, .int .i64 0, .string (⟨#[]⟩ : ByteArray)]) ?_ 2 _ rfl; (with_reducible repeat (first | refine blk_drewN ?_ _ | refine blk_drew ?_ | refine blk_alloc ?_ _)); refine blk_put (cs := #[.string (⟨#[78, 79, 84]⟩ : ByteArray), .int .i64 0, .int .i64 0, .string (⟨#[]⟩ : ByteArray)]) ?_ 1 _ rfl; (with_reducible repeat (first | refine blk_drewN ?_ _ | refine blk_drew ?_ | refine blk_alloc ?_ _)); refine blk_put (cs := #[.string (⟨#[]⟩ : ByteArray), .int .i64 0, .int .i64 0, .string (⟨#[]⟩ : ByteArray)]) ?_ 0 _ rfl; (with_reducible repeat (first | refine blk_drewN ?_ _ | refine blk_drew ?_ | refine blk_alloc ?_ _)); exact BK131.out⟩, ⟨by repeat (first | (with_reducible first | exact HB.out | apply below_alloc | apply pw_below_drewN | apply below_drew1 | refine below_set ?_ GE131.out) | exact HB.out)⟩⟩
    case rest =>
      clear HC13
      try clear c1
      try clear c2
      try clear c2b0
      try clear c2b1
      try clear p2
      try clear c4
      try clear c5
      try clear c8
      try clear c16
      try clear c16b0
      try clear c16b1
      try clear hcz15_0
      try clear hcz15_1
      try clear hcz15_2
      try clear hcz15_3
      try clear hcz6_0
      try clear hcz6_1
      try clear hcz6_2
      try clear hcz6_3
      try clear hfz15_0
      try clear hfz15_1
      try clear hfz15_2
      try clear hfz15_3
      try clear hfz6_0
      try clear hfz6_1
      try clear hfz6_2
      try clear hfz6_3
      obtain ⟨kq, x16_12, rfl, HA, HJ12, BK131, HB⟩ := hcut
      cases kq with
      | zero => exact absurd HA.out (by simp [impl_tableOf.j0])
      | succ kj12 =>
        have H := HA.out
        clear HA
        simp only [impl_tableOf.j0] at H
        by_cases c17 : x16_12 = true
        · subst c17
          have H1 : ((impl_tableOf_1.f (⟨#[114, 114, 100]⟩ : ByteArray)).bind fun bt143 => ((impl_tableOf_2.f (⟨#[76, 73, 78]⟩ : ByteArray) (⟨#[110, 113, 63, 116]⟩ : ByteArray)).bind fun bt147 => (some (([(⟨bt143.1, bt143.2.1, bt143.2.2.1, bt143.2.2.2⟩ : S76), (⟨bt147.1, bt147.2.1, bt147.2.2.1, bt147.2.2.2⟩ : S76)] : List (S76)))))) = some r := by rw [if_pos rfl] at H; exact H
          clear H
          have H := H1
          clear H1
          replace H := Option.bind_eq_some_iff.mp H
          obtain ⟨⟨t143, t144, t145, t146⟩, A180, H⟩ := H
          replace H : ((impl_tableOf_2.f (⟨#[76, 73, 78]⟩ : ByteArray) (⟨#[110, 113, 63, 116]⟩ : ByteArray)).bind fun bt147 => (some (([(⟨t143, t144, t145, t146⟩ : S76), (⟨bt147.1, bt147.2.1, bt147.2.2.1, bt147.2.2.2⟩ : S76)] : List (S76))))) = some r := H
          have A18 := Aside0.mk A180
          clear A180
          replace H := Option.bind_eq_some_iff.mp H
          obtain ⟨⟨t147, t148, t149, t150⟩, A190, H⟩ := H
          replace H : (some (([(⟨t143, t144, t145, t146⟩ : S76), (⟨t147, t148, t149, t150⟩ : S76)] : List (S76)))) = some r := H
          have A19 := Aside0.mk A190
          clear A190
          obtain ⟨y151, hy151⟩ : ∃ y_ : List (S76), y_ = (([(⟨t143, t144, t145, t146⟩ : S76), (⟨t147, t148, t149, t150⟩ : S76)] : List (S76))) := ⟨_, rfl⟩
          replace H : (some y151) = some r := by first | (rw [hy151]; with_reducible exact H) | (have H2_ := (Option.bind_some _ _).symm.trans H; rw [hy151]; with_reducible exact H2_) | (have H2_ := (Option.bind_some _ _).symm.trans H; with_reducible exact H2_) | with_reducible exact H | (rw [hy151]; exact H) | exact H
          have Ny151 := Aside0.mk hy151
          clear hy151
          obtain rfl := Option.some.inj H
          go_wp2_with (first | (go_at_call 80; (with_reducible refine (impl_tableOf_1.calls (⟨#[114, 114, 100]⟩ : ByteArray) t143 t144 t145 t146 _ A18.out).mono ?_); rintro e w20 ⟨rfl, hb⟩; have n0_ := Aside0.mk (blk_below (g := gb131) (o := .cells #[.string (⟨#[78, 79, 84]⟩ : ByteArray), .int .i64 0, .int .i64 2, .string (⟨#[116]⟩ : ByteArray)] 76 (0, 0)) (by (with_reducible repeat (first | refine blk_drewN ?_ _ | refine blk_drew ?_ | refine blk_alloc ?_ _)); exact BK131.out) hb); have n1_ := Aside0.mk (below_step (by repeat (first | (with_reducible first | exact HB.out | apply below_alloc | apply pw_below_drewN | apply below_drew1 | refine below_set ?_ GE131.out) | exact HB.out)) hb); clear BK131; clear HB; have BK131 := n0_; have HB := n1_; clear n0_ n1_; (try clear hb); (try clear hb2); (try clear hk); (try clear hi)) | (go_at_call 81; (with_reducible refine (impl_tableOf_2.calls (⟨#[76, 73, 78]⟩ : ByteArray) (⟨#[110, 113, 63, 116]⟩ : ByteArray) t147 t148 t149 t150 _ A19.out).mono ?_); rintro e w21 ⟨rfl, hb⟩; have n0_ := Aside0.mk (blk_below (g := gb131) (o := .cells #[.string (⟨#[78, 79, 84]⟩ : ByteArray), .int .i64 0, .int .i64 2, .string (⟨#[116]⟩ : ByteArray)] 76 (0, 0)) (by (with_reducible repeat (first | refine blk_drewN ?_ _ | refine blk_drew ?_ | refine blk_alloc ?_ _)); exact BK131.out) hb); have n1_ := Aside0.mk (below_step (by repeat (first | (with_reducible first | exact HB.out | apply below_alloc | apply pw_below_drewN | apply below_drew1 | refine below_set ?_ GE131.out) | exact HB.out)) hb); clear BK131; clear HB; have BK131 := n0_; have HB := n1_; clear n0_ n1_; (try clear hb); (try clear hb2); (try clear hk); (try clear hi)) | ((with_reducible refine gate_dst (N := 23) rfl ?_); refine Kd.R_lit k76 _ 76 ?hg (N := 23) ?hd (xs := ([(⟨t143, t144, t145, t146⟩ : S76), (⟨t147, t148, t149, t150⟩ : S76)] : List (S76))) (inner := [.string t143, .int .i64 t144, .int .i64 t145, .string t146, .string t147, .int .i64 t148, .int .i64 t149, .string t150]) (ok := fun _ => True) (okp := fun _ => True) ?hr ?hp (fun _ hk => hk) trivial (Below.refl _ _) (Nat.le_refl _) (by simp) ?_; (case hd => rfl); (case hg => rfl); (case hr => first | (go_simp; done) | (go_simp; rfl)); (case hp => exact (Reps.c4 (show Kd.M k76 _ _ _ (⟨t143, t144, t145, t146⟩ : S76) [.string t143, .int .i64 t144, .int .i64 t145, .string t146] from (k76_mkM _ _ _ (⟨t143, t144, t145, t146⟩ : S76) )) (Reps.c4 (show Kd.M k76 _ _ _ (⟨t147, t148, t149, t150⟩ : S76) [.string t147, .int .i64 t148, .int .i64 t149, .string t150] from (k76_mkM _ _ _ (⟨t147, t148, t149, t150⟩ : S76) )) (Reps.none _ _)))); intro v152 w22 ho23 hb hg_ hnew_; clear hg_ hnew_; (first | rw [← Ny151.out] at ho23 | (simp only [Int.reduceToNat] at ho23; rw [← Ny151.out] at ho23)); have n0_ := Aside0.mk (Kd.R_lower (Kd.R_newB ho23 (g := gb131) (o := .cells #[.string (⟨#[78, 79, 84]⟩ : ByteArray), .int .i64 0, .int .i64 2, .string (⟨#[116]⟩ : ByteArray)] 76 (0, 0)) (by (with_reducible repeat (first | refine blk_drewN ?_ _ | refine blk_drew ?_ | refine blk_alloc ?_ _)); exact BK131.out)) (below_size (by repeat (first | (with_reducible first | exact HB.out | apply below_alloc | apply pw_below_drewN | apply below_drew1 | refine below_set ?_ GE131.out) | exact HB.out)))); have n1_ := Aside0.mk (blk_below (g := gb131) (o := .cells #[.string (⟨#[78, 79, 84]⟩ : ByteArray), .int .i64 0, .int .i64 2, .string (⟨#[116]⟩ : ByteArray)] 76 (0, 0)) (by (with_reducible repeat (first | refine blk_drewN ?_ _ | refine blk_drew ?_ | refine blk_alloc ?_ _)); exact BK131.out) hb); have n2_ := Aside0.mk (below_step (by repeat (first | (with_reducible first | exact HB.out | apply below_alloc | apply pw_below_drewN | apply below_drew1 | refine below_set ?_ GE131.out) | exact HB.out)) hb); clear BK131; clear HB; have HO153 := n0_; have BK131 := n1_; have HB := n2_; clear n0_ n1_ n2_; clear hb ho23))
          go_ret
          exact ⟨_, by first | rfl | (simp [errW_none, errW_some] <;> rfl) | (simp [*, errW_none, errW_some] <;> rfl), by (with_reducible repeat (first | apply Kd.R_alloc | apply Kd.R_drewN | apply Kd.R_drew)); exact Kd.R_mono HO153.out (fun _ hk => trivial), by repeat (first | (with_reducible first | exact HB.out | apply below_alloc | apply pw_below_drewN | apply below_drew1 | refine below_set ?_ GE131.out) | exact HB.out)⟩
        · replace c17 := Bool.eq_false_iff.mpr c17
          subst c17
          have H1 : (if a0 = 3 then ((impl_tableOf_1.f (⟨#[114, 114, 100]⟩ : ByteArray)).bind fun bt154 => ((impl_tableOf_2.f (⟨#[76, 73, 78]⟩ : ByteArray) (⟨#[110, 113]⟩ : ByteArray)).bind fun bt158 => (some (([(⟨bt154.1, bt154.2.1, bt154.2.2.1, bt154.2.2.2⟩ : S76), (⟨(⟨#[78, 79, 84]⟩ : ByteArray), 0, 2, (⟨#[116]⟩ : ByteArray)⟩ : S76), (⟨bt158.1, bt158.2.1, bt158.2.2.1, bt158.2.2.2⟩ : S76)] : List (S76)))))) else (if a0 = 5 then ((impl_tableOf_1.f (⟨#[114, 100]⟩ : ByteArray)).bind fun bt165 => ((impl_tableOf_2.f (⟨#[73, 84, 77]⟩ : ByteArray) (⟨#[114, 110]⟩ : ByteArray)).bind fun bt169 => (some (([(⟨bt165.1, bt165.2.1, bt165.2.2.1, bt165.2.2.2⟩ : S76), (⟨bt169.1, bt169.2.1, bt169.2.2.1, bt169.2.2.2⟩ : S76)] : List (S76)))))) else (if a0 = 6 then ((impl_tableOf_1.f (⟨#[114, 100]⟩ : ByteArray)).bind fun bt176 => ((impl_tableOf_2.f (⟨#[73, 84, 77]⟩ : ByteArray) (⟨#[114, 122, 63, 116]⟩ : ByteArray)).bind fun bt180 => (some (([(⟨bt176.1, bt176.2.1, bt176.2.2.1, bt176.2.2.2⟩ : S76), (⟨bt180.1, bt180.2.1, bt180.2.2.1, bt180.2.2.2⟩ : S76)] : List (S76)))))) else (if a0 = 7 then ((impl_tableOf_1.f (⟨#[114, 100]⟩ : ByteArray)).bind fun bt187 => (some (([(⟨bt187.1, bt187.2.1, bt187.2.2.1, bt187.2.2.2⟩ : S76), (⟨(⟨#[65, 67, 75]⟩ : ByteArray), 1, 1, (⟨#[110, 110, 63, 110]⟩ : ByteArray)⟩ : S76)] : List (S76))))) else (some ([] : List (S76))))))) = some r := by rw [if_neg (show ¬ (false = true) by decide)] at H; exact H
          clear H
          have H := H1
          clear H1
          by_cases c24 : a0 = 3
          · rw [if_pos c24] at H
            have c24b0 : (a0 == 3) = true := beq_iff_eq.mpr c24
            have c24b1 : (a0 != 3) = false := bne_eq_false_iff_eq.mpr c24
            clear c24
            replace H := Option.bind_eq_some_iff.mp H
            obtain ⟨⟨t154, t155, t156, t157⟩, A250, H⟩ := H
            replace H : ((impl_tableOf_2.f (⟨#[76, 73, 78]⟩ : ByteArray) (⟨#[110, 113]⟩ : ByteArray)).bind fun bt158 => (some (([(⟨t154, t155, t156, t157⟩ : S76), (⟨(⟨#[78, 79, 84]⟩ : ByteArray), 0, 2, (⟨#[116]⟩ : ByteArray)⟩ : S76), (⟨bt158.1, bt158.2.1, bt158.2.2.1, bt158.2.2.2⟩ : S76)] : List (S76))))) = some r := H
            have A25 := Aside0.mk A250
            clear A250
            replace H := Option.bind_eq_some_iff.mp H
            obtain ⟨⟨t158, t159, t160, t161⟩, A260, H⟩ := H
            replace H : (some (([(⟨t154, t155, t156, t157⟩ : S76), (⟨(⟨#[78, 79, 84]⟩ : ByteArray), 0, 2, (⟨#[116]⟩ : ByteArray)⟩ : S76), (⟨t158, t159, t160, t161⟩ : S76)] : List (S76)))) = some r := H
            have A26 := Aside0.mk A260
            clear A260
            obtain ⟨y162, hy162⟩ : ∃ y_ : List (S76), y_ = (([(⟨t154, t155, t156, t157⟩ : S76), (⟨(⟨#[78, 79, 84]⟩ : ByteArray), 0, 2, (⟨#[116]⟩ : ByteArray)⟩ : S76), (⟨t158, t159, t160, t161⟩ : S76)] : List (S76))) := ⟨_, rfl⟩
            replace H : (some y162) = some r := by first | (rw [hy162]; with_reducible exact H) | (have H2_ := (Option.bind_some _ _).symm.trans H; rw [hy162]; with_reducible exact H2_) | (have H2_ := (Option.bind_some _ _).symm.trans H; with_reducible exact H2_) | with_reducible exact H | (rw [hy162]; exact H) | exact H
            have Ny162 := Aside0.mk hy162
            clear hy162
            obtain rfl := Option.some.inj H
            try go_wp2
            have n0_ := Aside0.mk (blk_drew BK131.out)
            have n1_ := Aside0.mk (below_drew1 HB.out)
            clear BK131
            clear HB
            have BK131 := n0_
            have HB := n1_
            clear n0_ n1_
            refine start_ (n := 7) (S := fun w' => w'.cell? ⟨gb131, 0, none⟩ = some (.string (⟨#[78, 79, 84]⟩ : ByteArray)) ∧ w'.cell? ⟨gb131, 1, none⟩ = some (.int .i64 0) ∧ w'.cell? ⟨gb131, 2, none⟩ = some (.int .i64 2) ∧ w'.cell? ⟨gb131, 3, none⟩ = some (.string (⟨#[116]⟩ : ByteArray))) (ds := []) #[false, false, false, false, false, false, false] (by kernel_rfl) rfl rfl ⟨(blk_cell BK131.out 0).trans rfl, (blk_cell BK131.out 1).trans rfl, (blk_cell BK131.out 2).trans rfl, (blk_cell BK131.out 3).trans rfl⟩ (fun hHeld => ?_)
            generalize wc.drew = w27 at BK131 HB hHeld ⊢
            refine pure_ (i := 0) (N := some 26) (v := ?_) (a' := ?_) #[true, false, false, false, false, false, false] rfl rfl (by kernel_rfl) (fun _ _ _ h => h) (Or.inl ⟨by rfl, ?_⟩) ?_ ?_
            rotate_left
            · intro w'
              go_simp
              with_reducible rfl
            rotate_left
            · simp only [Act.put, List.setIfInBounds_toArray, List.set_cons_zero, List.set_cons_succ, i64_w, i32_w]
              rfl
            refine pure_ (i := 3) (N := some 29) (v := ?_) (a' := ?_) #[true, false, false, true, false, false, false] rfl rfl (by kernel_rfl) (fun _ _ _ h => h) (Or.inl ⟨by rfl, ?_⟩) ?_ ?_
            rotate_left
            · intro w'
              go_simp
              with_reducible rfl
            rotate_left
            · simp only [Act.put, List.setIfInBounds_toArray, List.set_cons_zero, List.set_cons_succ, i64_w, i32_w]
              rfl
            refine take_ (i := 2) (N := some 28) (v := ?_) (a' := ?_) #[true, false, true, true, false, false, false] rfl rfl (by kernel_rfl) (fun _ _ _ h => h) (Or.inl ⟨by rfl, ?_⟩) hHeld ?_ ?_
            rotate_left
            · rintro w' ⟨s0, s1, s2, s3⟩
              go_simp
              with_reducible rfl
            rotate_left
            · simp only [Act.put, List.setIfInBounds_toArray, List.set_cons_zero, List.set_cons_succ, i64_w, i32_w]
              rfl
            refine one_ (i := 1) (N := some 27) #[true, true, true, true, false, false, false] rfl rfl (by kernel_rfl) (by decide) (fun K hK => ?_)
            refine goesV_ Try.func80 (by kernel_rfl) rfl #[.string (⟨#[114, 114, 100]⟩ : ByteArray)] (by rfl) rfl rfl rfl (by (try simp only [List.map_toArray, List.map_cons, List.map_nil]); first | done | rfl | (simp only [List.length_drop, List.length_take]; rfl)) ?_
            with_reducible refine (impl_tableOf_1.calls (⟨#[114, 114, 100]⟩ : ByteArray) t154 t155 t156 t157 _ A25.out).mono ?_
            rintro e w28 ⟨rfl, hb⟩
            refine ⟨_, rfl, ?_⟩
            have n0_ := Aside0.mk (blk_below (g := gb131) (o := .cells #[.string (⟨#[78, 79, 84]⟩ : ByteArray), .int .i64 0, .int .i64 2, .string (⟨#[116]⟩ : ByteArray)] 76 (0, 0)) (by (with_reducible repeat (first | refine blk_drewN ?_ _ | refine blk_drew ?_ | refine blk_alloc ?_ _)); exact BK131.out) hb)
            have n1_ := Aside0.mk (below_step (by repeat (first | (with_reducible first | exact HB.out | apply below_alloc | apply pw_below_drewN | apply below_drew1 | refine below_set ?_ GE131.out) | exact HB.out)) hb)
            clear BK131
            clear HB
            have BK131 := n0_
            have HB := n1_
            clear n0_ n1_
            (try clear hb)
            (try clear hb2)
            (try clear hk)
            (try clear hi)
            refine hK.out _ _ ⟨(blk_cell BK131.out 0).trans rfl, (blk_cell BK131.out 1).trans rfl, (blk_cell BK131.out 2).trans rfl, (blk_cell BK131.out 3).trans rfl⟩ (fun hHeld => ?_)
            clear hK K
            refine norm_ (a' := ?_) ?_ ?_
            rotate_left
            · show Act.put _ (some 27) _ = _
              simp only [Act.put, List.setIfInBounds_toArray, List.set_cons_zero, List.set_cons_succ, i64_w, i32_w]
              rfl
            refine one_ (i := 4) (N := some 30) #[true, true, true, true, true, false, false] rfl rfl (by kernel_rfl) (by decide) (fun K hK => ?_)
            refine goesV_ Try.func81 (by kernel_rfl) rfl #[.string (⟨#[76, 73, 78]⟩ : ByteArray), .string (⟨#[110, 113]⟩ : ByteArray)] (by rfl) rfl rfl rfl (by (try simp only [List.map_toArray, List.map_cons, List.map_nil]); first | done | rfl | (simp only [List.length_drop, List.length_take]; rfl)) ?_
            with_reducible refine (impl_tableOf_2.calls (⟨#[76, 73, 78]⟩ : ByteArray) (⟨#[110, 113]⟩ : ByteArray) t158 t159 t160 t161 _ A26.out).mono ?_
            rintro e w29 ⟨rfl, hb⟩
            refine ⟨_, rfl, ?_⟩
            have n0_ := Aside0.mk (blk_below (g := gb131) (o := .cells #[.string (⟨#[78, 79, 84]⟩ : ByteArray), .int .i64 0, .int .i64 2, .string (⟨#[116]⟩ : ByteArray)] 76 (0, 0)) (by (with_reducible repeat (first | refine blk_drewN ?_ _ | refine blk_drew ?_ | refine blk_alloc ?_ _)); exact BK131.out) hb)
            have n1_ := Aside0.mk (below_step (by repeat (first | (with_reducible first | exact HB.out | apply below_alloc | apply pw_below_drewN | apply below_drew1 | refine below_set ?_ GE131.out) | exact HB.out)) hb)
            clear BK131
            clear HB
            have BK131 := n0_
            have HB := n1_
            clear n0_ n1_
            (try clear hb)
            (try clear hb2)
            (try clear hk)
            (try clear hi)
            refine hK.out _ _ ⟨(blk_cell BK131.out 0).trans rfl, (blk_cell BK131.out 1).trans rfl, (blk_cell BK131.out 2).trans rfl, (blk_cell BK131.out 3).trans rfl⟩ (fun hHeld => ?_)
            clear hK K
            refine norm_ (a' := ?_) ?_ ?_
            rotate_left
            · show Act.put _ (some 30) _ = _
              simp only [Act.put, List.setIfInBounds_toArray, List.set_cons_zero, List.set_cons_succ, i64_w, i32_w]
              rfl
            refine one_ (i := 5) (N := some 31) #[true, true, true, true, true, true, false] rfl rfl (by kernel_rfl) (by decide) (fun K hK => ?_)
            refine Kd.R_lit_step k76 _ 76 ?hg (N := 31) ?hd (xs := ([(⟨t154, t155, t156, t157⟩ : S76), (⟨(⟨#[78, 79, 84]⟩ : ByteArray), 0, 2, (⟨#[116]⟩ : ByteArray)⟩ : S76), (⟨t158, t159, t160, t161⟩ : S76)] : List (S76))) (inner := [.string t154, .int .i64 t155, .int .i64 t156, .string t157, .string (⟨#[78, 79, 84]⟩ : ByteArray), .int .i64 0, .int .i64 2, .string (⟨#[116]⟩ : ByteArray), .string t158, .int .i64 t159, .int .i64 t160, .string t161]) (ok := fun _ => True) (okp := fun _ => True) ?hr ?hp (fun _ hk => hk) trivial (Below.refl _ _) (Nat.le_refl _) (by simp) ?_; (case hd => rfl); (case hg => rfl); (case hr => first | (go_simp; done) | (go_simp; rfl)); (case hp => exact (Reps.c4 (show Kd.M k76 _ _ _ (⟨t154, t155, t156, t157⟩ : S76) [.string t154, .int .i64 t155, .int .i64 t156, .string t157] from (k76_mkM _ _ _ (⟨t154, t155, t156, t157⟩ : S76) )) (Reps.c4 (show Kd.M k76 _ _ _ (⟨(⟨#[78, 79, 84]⟩ : ByteArray), 0, 2, (⟨#[116]⟩ : ByteArray)⟩ : S76) [.string (⟨#[78, 79, 84]⟩ : ByteArray), .int .i64 0, .int .i64 2, .string (⟨#[116]⟩ : ByteArray)] from (k76_mkM _ _ _ (⟨(⟨#[78, 79, 84]⟩ : ByteArray), 0, 2, (⟨#[116]⟩ : ByteArray)⟩ : S76) )) (Reps.c4 (show Kd.M k76 _ _ _ (⟨t158, t159, t160, t161⟩ : S76) [.string t158, .int .i64 t159, .int .i64 t160, .string t161] from (k76_mkM _ _ _ (⟨t158, t159, t160, t161⟩ : S76) )) (Reps.none _ _)))))
            intro v163 w30 ho31 hb hg_ hnew_
            clear hg_ hnew_
            (first | rw [← Ny162.out] at ho31 | (simp only [Int.reduceToNat] at ho31; rw [← Ny162.out] at ho31))
            have n0_ := Aside0.mk (Kd.R_lower (Kd.R_newB ho31 (g := gb131) (o := .cells #[.string (⟨#[78, 79, 84]⟩ : ByteArray), .int .i64 0, .int .i64 2, .string (⟨#[116]⟩ : ByteArray)] 76 (0, 0)) (by (with_reducible repeat (first | refine blk_drewN ?_ _ | refine blk_drew ?_ | refine blk_alloc ?_ _)); exact BK131.out)) (below_size (by repeat (first | (with_reducible first | exact HB.out | apply below_alloc | apply pw_below_drewN | apply below_drew1 | refine below_set ?_ GE131.out) | exact HB.out))))
            have n1_ := Aside0.mk (blk_below (g := gb131) (o := .cells #[.string (⟨#[78, 79, 84]⟩ : ByteArray), .int .i64 0, .int .i64 2, .string (⟨#[116]⟩ : ByteArray)] 76 (0, 0)) (by (with_reducible repeat (first | refine blk_drewN ?_ _ | refine blk_drew ?_ | refine blk_alloc ?_ _)); exact BK131.out) hb)
            have n2_ := Aside0.mk (below_step (by repeat (first | (with_reducible first | exact HB.out | apply below_alloc | apply pw_below_drewN | apply below_drew1 | refine below_set ?_ GE131.out) | exact HB.out)) hb)
            clear BK131
            clear HB
            have HO164 := n0_
            have BK131 := n1_
            have HB := n2_
            clear n0_ n1_ n2_
            clear hb ho31
            refine hK.out _ _ ⟨(blk_cell BK131.out 0).trans rfl, (blk_cell BK131.out 1).trans rfl, (blk_cell BK131.out 2).trans rfl, (blk_cell BK131.out 3).trans rfl⟩ (fun hHeld => ?_)
            clear hK K
            refine norm_ (a' := ?_) ?_ ?_
            rotate_left
            · show Act.put _ (some 31) _ = _
              simp only [Act.put, List.setIfInBounds_toArray, List.set_cons_zero, List.set_cons_succ, i64_w, i32_w]
              rfl
            refine pure_ (i := 6) (N := some 2) (v := ?_) (a' := ?_) #[true, true, true, true, true, true, true] rfl rfl (by kernel_rfl) (fun _ _ _ h => h) (Or.inl ⟨by rfl, ?_⟩) ?_ ?_
            rotate_left
            · intro w'
              go_simp
              with_reducible rfl
            rotate_left
            · simp only [Act.put, List.setIfInBounds_toArray, List.set_cons_zero, List.set_cons_succ, i64_w, i32_w]
              rfl
            refine done_ (by kernel_rfl) ?_
            try go_wp2
            go_ret
            exact ⟨_, by first | rfl | (simp [errW_none, errW_some] <;> rfl) | (simp [*, errW_none, errW_some] <;> rfl), by (with_reducible repeat (first | apply Kd.R_alloc | apply Kd.R_drewN | apply Kd.R_drew)); exact Kd.R_mono HO164.out (fun _ hk => trivial), by repeat (first | (with_reducible first | exact HB.out | apply below_alloc | apply pw_below_drewN | apply below_drew1 | refine below_set ?_ GE131.out) | exact HB.out)⟩
          · rw [if_neg c24] at H
            have c24b0 : (a0 == 3) = false := beq_eq_false_iff_ne.mpr c24
            have c24b1 : (a0 != 3) = true := bne_iff_ne.mpr c24
            by_cases c32 : a0 = 5
            · rw [if_pos c32] at H
              have c32b0 : (a0 == 5) = true := beq_iff_eq.mpr c32
              have c32b1 : (a0 != 5) = false := bne_eq_false_iff_eq.mpr c32
              clear c32
              replace H := Option.bind_eq_some_iff.mp H
              obtain ⟨⟨t165, t166, t167, t168⟩, A330, H⟩ := H
              replace H : ((impl_tableOf_2.f (⟨#[73, 84, 77]⟩ : ByteArray) (⟨#[114, 110]⟩ : ByteArray)).bind fun bt169 => (some (([(⟨t165, t166, t167, t168⟩ : S76), (⟨bt169.1, bt169.2.1, bt169.2.2.1, bt169.2.2.2⟩ : S76)] : List (S76))))) = some r := H
              have A33 := Aside0.mk A330
              clear A330
              replace H := Option.bind_eq_some_iff.mp H
              obtain ⟨⟨t169, t170, t171, t172⟩, A340, H⟩ := H
              replace H : (some (([(⟨t165, t166, t167, t168⟩ : S76), (⟨t169, t170, t171, t172⟩ : S76)] : List (S76)))) = some r := H
              have A34 := Aside0.mk A340
              clear A340
              obtain ⟨y173, hy173⟩ : ∃ y_ : List (S76), y_ = (([(⟨t165, t166, t167, t168⟩ : S76), (⟨t169, t170, t171, t172⟩ : S76)] : List (S76))) := ⟨_, rfl⟩
              replace H : (some y173) = some r := by first | (rw [hy173]; with_reducible exact H) | (have H2_ := (Option.bind_some _ _).symm.trans H; rw [hy173]; with_reducible exact H2_) | (have H2_ := (Option.bind_some _ _).symm.trans H; with_reducible exact H2_) | with_reducible exact H | (rw [hy173]; exact H) | exact H
              have Ny173 := Aside0.mk hy173
              clear hy173
              obtain rfl := Option.some.inj H
              go_wp2_with (first | (go_at_call 80; (with_reducible refine (impl_tableOf_1.calls (⟨#[114, 100]⟩ : ByteArray) t165 t166 t167 t168 _ A33.out).mono ?_); rintro e w35 ⟨rfl, hb⟩; have n0_ := Aside0.mk (blk_below (g := gb131) (o := .cells #[.string (⟨#[78, 79, 84]⟩ : ByteArray), .int .i64 0, .int .i64 2, .string (⟨#[116]⟩ : ByteArray)] 76 (0, 0)) (by (with_reducible repeat (first | refine blk_drewN ?_ _ | refine blk_drew ?_ | refine blk_alloc ?_ _)); exact BK131.out) hb); have n1_ := Aside0.mk (below_step (by repeat (first | (with_reducible first | exact HB.out | apply below_alloc | apply pw_below_drewN | apply below_drew1 | refine below_set ?_ GE131.out) | exact HB.out)) hb); clear BK131; clear HB; have BK131 := n0_; have HB := n1_; clear n0_ n1_; (try clear hb); (try clear hb2); (try clear hk); (try clear hi)) | (go_at_call 81; (with_reducible refine (impl_tableOf_2.calls (⟨#[73, 84, 77]⟩ : ByteArray) (⟨#[114, 110]⟩ : ByteArray) t169 t170 t171 t172 _ A34.out).mono ?_); rintro e w36 ⟨rfl, hb⟩; have n0_ := Aside0.mk (blk_below (g := gb131) (o := .cells #[.string (⟨#[78, 79, 84]⟩ : ByteArray), .int .i64 0, .int .i64 2, .string (⟨#[116]⟩ : ByteArray)] 76 (0, 0)) (by (with_reducible repeat (first | refine blk_drewN ?_ _ | refine blk_drew ?_ | refine blk_alloc ?_ _)); exact BK131.out) hb); have n1_ := Aside0.mk (below_step (by repeat (first | (with_reducible first | exact HB.out | apply below_alloc | apply pw_below_drewN | apply below_drew1 | refine below_set ?_ GE131.out) | exact HB.out)) hb); clear BK131; clear HB; have BK131 := n0_; have HB := n1_; clear n0_ n1_; (try clear hb); (try clear hb2); (try clear hk); (try clear hi)) | ((with_reducible refine gate_dst (N := 38) rfl ?_); refine Kd.R_lit k76 _ 76 ?hg (N := 38) ?hd (xs := ([(⟨t165, t166, t167, t168⟩ : S76), (⟨t169, t170, t171, t172⟩ : S76)] : List (S76))) (inner := [.string t165, .int .i64 t166, .int .i64 t167, .string t168, .string t169, .int .i64 t170, .int .i64 t171, .string t172]) (ok := fun _ => True) (okp := fun _ => True) ?hr ?hp (fun _ hk => hk) trivial (Below.refl _ _) (Nat.le_refl _) (by simp) ?_; (case hd => rfl); (case hg => rfl); (case hr => first | (go_simp; done) | (go_simp; rfl)); (case hp => exact (Reps.c4 (show Kd.M k76 _ _ _ (⟨t165, t166, t167, t168⟩ : S76) [.string t165, .int .i64 t166, .int .i64 t167, .string t168] from (k76_mkM _ _ _ (⟨t165, t166, t167, t168⟩ : S76) )) (Reps.c4 (show Kd.M k76 _ _ _ (⟨t169, t170, t171, t172⟩ : S76) [.string t169, .int .i64 t170, .int .i64 t171, .string t172] from (k76_mkM _ _ _ (⟨t169, t170, t171, t172⟩ : S76) )) (Reps.none _ _)))); intro v174 w37 ho38 hb hg_ hnew_; clear hg_ hnew_; (first | rw [← Ny173.out] at ho38 | (simp only [Int.reduceToNat] at ho38; rw [← Ny173.out] at ho38)); have n0_ := Aside0.mk (Kd.R_lower (Kd.R_newB ho38 (g := gb131) (o := .cells #[.string (⟨#[78, 79, 84]⟩ : ByteArray), .int .i64 0, .int .i64 2, .string (⟨#[116]⟩ : ByteArray)] 76 (0, 0)) (by (with_reducible repeat (first | refine blk_drewN ?_ _ | refine blk_drew ?_ | refine blk_alloc ?_ _)); exact BK131.out)) (below_size (by repeat (first | (with_reducible first | exact HB.out | apply below_alloc | apply pw_below_drewN | apply below_drew1 | refine below_set ?_ GE131.out) | exact HB.out)))); have n1_ := Aside0.mk (blk_below (g := gb131) (o := .cells #[.string (⟨#[78, 79, 84]⟩ : ByteArray), .int .i64 0, .int .i64 2, .string (⟨#[116]⟩ : ByteArray)] 76 (0, 0)) (by (with_reducible repeat (first | refine blk_drewN ?_ _ | refine blk_drew ?_ | refine blk_alloc ?_ _)); exact BK131.out) hb); have n2_ := Aside0.mk (below_step (by repeat (first | (with_reducible first | exact HB.out | apply below_alloc | apply pw_below_drewN | apply below_drew1 | refine below_set ?_ GE131.out) | exact HB.out)) hb); clear BK131; clear HB; have HO175 := n0_; have BK131 := n1_; have HB := n2_; clear n0_ n1_ n2_; clear hb ho38))
              go_ret
              exact ⟨_, by first | rfl | (simp [errW_none, errW_some] <;> rfl) | (simp [*, errW_none, errW_some] <;> rfl), by (with_reducible repeat (first | apply Kd.R_alloc | apply Kd.R_drewN | apply Kd.R_drew)); exact Kd.R_mono HO175.out (fun _ hk => trivial), by repeat (first | (with_reducible first | exact HB.out | apply below_alloc | apply pw_below_drewN | apply below_drew1 | refine below_set ?_ GE131.out) | exact HB.out)⟩
            · rw [if_neg c32] at H
              have c32b0 : (a0 == 5) = false := beq_eq_false_iff_ne.mpr c32
              have c32b1 : (a0 != 5) = true := bne_iff_ne.mpr c32
              by_cases c39 : a0 = 6
              · rw [if_pos c39] at H
                have c39b0 : (a0 == 6) = true := beq_iff_eq.mpr c39
                have c39b1 : (a0 != 6) = false := bne_eq_false_iff_eq.mpr c39
                clear c39
                replace H := Option.bind_eq_some_iff.mp H
                obtain ⟨⟨t176, t177, t178, t179⟩, A400, H⟩ := H
                replace H : ((impl_tableOf_2.f (⟨#[73, 84, 77]⟩ : ByteArray) (⟨#[114, 122, 63, 116]⟩ : ByteArray)).bind fun bt180 => (some (([(⟨t176, t177, t178, t179⟩ : S76), (⟨bt180.1, bt180.2.1, bt180.2.2.1, bt180.2.2.2⟩ : S76)] : List (S76))))) = some r := H
                have A40 := Aside0.mk A400
                clear A400
                replace H := Option.bind_eq_some_iff.mp H
                obtain ⟨⟨t180, t181, t182, t183⟩, A410, H⟩ := H
                replace H : (some (([(⟨t176, t177, t178, t179⟩ : S76), (⟨t180, t181, t182, t183⟩ : S76)] : List (S76)))) = some r := H
                have A41 := Aside0.mk A410
                clear A410
                obtain ⟨y184, hy184⟩ : ∃ y_ : List (S76), y_ = (([(⟨t176, t177, t178, t179⟩ : S76), (⟨t180, t181, t182, t183⟩ : S76)] : List (S76))) := ⟨_, rfl⟩
                replace H : (some y184) = some r := by first | (rw [hy184]; with_reducible exact H) | (have H2_ := (Option.bind_some _ _).symm.trans H; rw [hy184]; with_reducible exact H2_) | (have H2_ := (Option.bind_some _ _).symm.trans H; with_reducible exact H2_) | with_reducible exact H | (rw [hy184]; exact H) | exact H
                have Ny184 := Aside0.mk hy184
                clear hy184
                obtain rfl := Option.some.inj H
                go_wp2_with (first | (go_at_call 80; (with_reducible refine (impl_tableOf_1.calls (⟨#[114, 100]⟩ : ByteArray) t176 t177 t178 t179 _ A40.out).mono ?_); rintro e w42 ⟨rfl, hb⟩; have n0_ := Aside0.mk (blk_below (g := gb131) (o := .cells #[.string (⟨#[78, 79, 84]⟩ : ByteArray), .int .i64 0, .int .i64 2, .string (⟨#[116]⟩ : ByteArray)] 76 (0, 0)) (by (with_reducible repeat (first | refine blk_drewN ?_ _ | refine blk_drew ?_ | refine blk_alloc ?_ _)); exact BK131.out) hb); have n1_ := Aside0.mk (below_step (by repeat (first | (with_reducible first | exact HB.out | apply below_alloc | apply pw_below_drewN | apply below_drew1 | refine below_set ?_ GE131.out) | exact HB.out)) hb); clear BK131; clear HB; have BK131 := n0_; have HB := n1_; clear n0_ n1_; (try clear hb); (try clear hb2); (try clear hk); (try clear hi)) | (go_at_call 81; (with_reducible refine (impl_tableOf_2.calls (⟨#[73, 84, 77]⟩ : ByteArray) (⟨#[114, 122, 63, 116]⟩ : ByteArray) t180 t181 t182 t183 _ A41.out).mono ?_); rintro e w43 ⟨rfl, hb⟩; have n0_ := Aside0.mk (blk_below (g := gb131) (o := .cells #[.string (⟨#[78, 79, 84]⟩ : ByteArray), .int .i64 0, .int .i64 2, .string (⟨#[116]⟩ : ByteArray)] 76 (0, 0)) (by (with_reducible repeat (first | refine blk_drewN ?_ _ | refine blk_drew ?_ | refine blk_alloc ?_ _)); exact BK131.out) hb); have n1_ := Aside0.mk (below_step (by repeat (first | (with_reducible first | exact HB.out | apply below_alloc | apply pw_below_drewN | apply below_drew1 | refine below_set ?_ GE131.out) | exact HB.out)) hb); clear BK131; clear HB; have BK131 := n0_; have HB := n1_; clear n0_ n1_; (try clear hb); (try clear hb2); (try clear hk); (try clear hi)) | ((with_reducible refine gate_dst (N := 45) rfl ?_); refine Kd.R_lit k76 _ 76 ?hg (N := 45) ?hd (xs := ([(⟨t176, t177, t178, t179⟩ : S76), (⟨t180, t181, t182, t183⟩ : S76)] : List (S76))) (inner := [.string t176, .int .i64 t177, .int .i64 t178, .string t179, .string t180, .int .i64 t181, .int .i64 t182, .string t183]) (ok := fun _ => True) (okp := fun _ => True) ?hr ?hp (fun _ hk => hk) trivial (Below.refl _ _) (Nat.le_refl _) (by simp) ?_; (case hd => rfl); (case hg => rfl); (case hr => first | (go_simp; done) | (go_simp; rfl)); (case hp => exact (Reps.c4 (show Kd.M k76 _ _ _ (⟨t176, t177, t178, t179⟩ : S76) [.string t176, .int .i64 t177, .int .i64 t178, .string t179] from (k76_mkM _ _ _ (⟨t176, t177, t178, t179⟩ : S76) )) (Reps.c4 (show Kd.M k76 _ _ _ (⟨t180, t181, t182, t183⟩ : S76) [.string t180, .int .i64 t181, .int .i64 t182, .string t183] from (k76_mkM _ _ _ (⟨t180, t181, t182, t183⟩ : S76) )) (Reps.none _ _)))); intro v185 w44 ho45 hb hg_ hnew_; clear hg_ hnew_; (first | rw [← Ny184.out] at ho45 | (simp only [Int.reduceToNat] at ho45; rw [← Ny184.out] at ho45)); have n0_ := Aside0.mk (Kd.R_lower (Kd.R_newB ho45 (g := gb131) (o := .cells #[.string (⟨#[78, 79, 84]⟩ : ByteArray), .int .i64 0, .int .i64 2, .string (⟨#[116]⟩ : ByteArray)] 76 (0, 0)) (by (with_reducible repeat (first | refine blk_drewN ?_ _ | refine blk_drew ?_ | refine blk_alloc ?_ _)); exact BK131.out)) (below_size (by repeat (first | (with_reducible first | exact HB.out | apply below_alloc | apply pw_below_drewN | apply below_drew1 | refine below_set ?_ GE131.out) | exact HB.out)))); have n1_ := Aside0.mk (blk_below (g := gb131) (o := .cells #[.string (⟨#[78, 79, 84]⟩ : ByteArray), .int .i64 0, .int .i64 2, .string (⟨#[116]⟩ : ByteArray)] 76 (0, 0)) (by (with_reducible repeat (first | refine blk_drewN ?_ _ | refine blk_drew ?_ | refine blk_alloc ?_ _)); exact BK131.out) hb); have n2_ := Aside0.mk (below_step (by repeat (first | (with_reducible first | exact HB.out | apply below_alloc | apply pw_below_drewN | apply below_drew1 | refine below_set ?_ GE131.out) | exact HB.out)) hb); clear BK131; clear HB; have HO186 := n0_; have BK131 := n1_; have HB := n2_; clear n0_ n1_ n2_; clear hb ho45))
                go_ret
                exact ⟨_, by first | rfl | (simp [errW_none, errW_some] <;> rfl) | (simp [*, errW_none, errW_some] <;> rfl), by (with_reducible repeat (first | apply Kd.R_alloc | apply Kd.R_drewN | apply Kd.R_drew)); exact Kd.R_mono HO186.out (fun _ hk => trivial), by repeat (first | (with_reducible first | exact HB.out | apply below_alloc | apply pw_below_drewN | apply below_drew1 | refine below_set ?_ GE131.out) | exact HB.out)⟩
              · rw [if_neg c39] at H
                have c39b0 : (a0 == 6) = false := beq_eq_false_iff_ne.mpr c39
                have c39b1 : (a0 != 6) = true := bne_iff_ne.mpr c39
                by_cases c46 : a0 = 7
                · rw [if_pos c46] at H
                  have c46b0 : (a0 == 7) = true := beq_iff_eq.mpr c46
                  have c46b1 : (a0 != 7) = false := bne_eq_false_iff_eq.mpr c46
                  clear c46
                  replace H := Option.bind_eq_some_iff.mp H
                  obtain ⟨⟨t187, t188, t189, t190⟩, A470, H⟩ := H
                  replace H : (some (([(⟨t187, t188, t189, t190⟩ : S76), (⟨(⟨#[65, 67, 75]⟩ : ByteArray), 1, 1, (⟨#[110, 110, 63, 110]⟩ : ByteArray)⟩ : S76)] : List (S76)))) = some r := H
                  have A47 := Aside0.mk A470
                  clear A470
                  obtain ⟨y191, hy191⟩ : ∃ y_ : List (S76), y_ = (([(⟨t187, t188, t189, t190⟩ : S76), (⟨(⟨#[65, 67, 75]⟩ : ByteArray), 1, 1, (⟨#[110, 110, 63, 110]⟩ : ByteArray)⟩ : S76)] : List (S76))) := ⟨_, rfl⟩
                  replace H : (some y191) = some r := by first | (rw [hy191]; with_reducible exact H) | (have H2_ := (Option.bind_some _ _).symm.trans H; rw [hy191]; with_reducible exact H2_) | (have H2_ := (Option.bind_some _ _).symm.trans H; with_reducible exact H2_) | with_reducible exact H | (rw [hy191]; exact H) | exact H
                  have Ny191 := Aside0.mk hy191
                  clear hy191
                  obtain rfl := Option.some.inj H
                  go_wp2_with (first | (go_at_call 80; (with_reducible refine (impl_tableOf_1.calls (⟨#[114, 100]⟩ : ByteArray) t187 t188 t189 t190 _ A47.out).mono ?_); rintro e w48 ⟨rfl, hb⟩; have n0_ := Aside0.mk (blk_below (g := gb131) (o := .cells #[.string (⟨#[78, 79, 84]⟩ : ByteArray), .int .i64 0, .int .i64 2, .string (⟨#[116]⟩ : ByteArray)] 76 (0, 0)) (by (with_reducible repeat (first | refine blk_drewN ?_ _ | refine blk_drew ?_ | refine blk_alloc ?_ _)); exact BK131.out) hb); have n1_ := Aside0.mk (below_step (by repeat (first | (with_reducible first | exact HB.out | apply below_alloc | apply pw_below_drewN | apply below_drew1 | refine below_set ?_ GE131.out) | exact HB.out)) hb); clear BK131; clear HB; have BK131 := n0_; have HB := n1_; clear n0_ n1_; (try clear hb); (try clear hb2); (try clear hk); (try clear hi)) | ((with_reducible refine gate_dst (N := 51) rfl ?_); refine Kd.R_lit k76 _ 76 ?hg (N := 51) ?hd (xs := ([(⟨t187, t188, t189, t190⟩ : S76), (⟨(⟨#[65, 67, 75]⟩ : ByteArray), 1, 1, (⟨#[110, 110, 63, 110]⟩ : ByteArray)⟩ : S76)] : List (S76))) (inner := [.string t187, .int .i64 t188, .int .i64 t189, .string t190, .string (⟨#[65, 67, 75]⟩ : ByteArray), .int .i64 1, .int .i64 1, .string (⟨#[110, 110, 63, 110]⟩ : ByteArray)]) (ok := fun _ => True) (okp := fun _ => True) ?hr ?hp (fun _ hk => hk) trivial (Below.refl _ _) (Nat.le_refl _) (by simp) ?_; (case hd => rfl); (case hg => rfl); (case hr => first | (go_simp; done) | (go_simp; rfl)); (case hp => exact (Reps.c4 (show Kd.M k76 _ _ _ (⟨t187, t188, t189, t190⟩ : S76) [.string t187, .int .i64 t188, .int .i64 t189, .string t190] from (k76_mkM _ _ _ (⟨t187, t188, t189, t190⟩ : S76) )) (Reps.c4 (show Kd.M k76 _ _ _ (⟨(⟨#[65, 67, 75]⟩ : ByteArray), 1, 1, (⟨#[110, 110, 63, 110]⟩ : ByteArray)⟩ : S76) [.string (⟨#[65, 67, 75]⟩ : ByteArray), .int .i64 1, .int .i64 1, .string (⟨#[110, 110, 63, 110]⟩ : ByteArray)] from (k76_mkM _ _ _ (⟨(⟨#[65, 67, 75]⟩ : ByteArray), 1, 1, (⟨#[110, 110, 63, 110]⟩ : ByteArray)⟩ : S76) )) (Reps.none _ _)))); intro v192 w49 ho50 hb hg_ hnew_; clear hg_ hnew_; (first | rw [← Ny191.out] at ho50 | (simp only [Int.reduceToNat] at ho50; rw [← Ny191.out] at ho50)); have n0_ := Aside0.mk (Kd.R_lower (Kd.R_newB ho50 (g := gb131) (o := .cells #[.string (⟨#[78, 79, 84]⟩ : ByteArray), .int .i64 0, .int .i64 2, .string (⟨#[116]⟩ : ByteArray)] 76 (0, 0)) (by (with_reducible repeat (first | refine blk_drewN ?_ _ | refine blk_drew ?_ | refine blk_alloc ?_ _)); exact BK131.out)) (below_size (by repeat (first | (with_reducible first | exact HB.out | apply below_alloc | apply pw_below_drewN | apply below_drew1 | refine below_set ?_ GE131.out) | exact HB.out)))); have n1_ := Aside0.mk (blk_below (g := gb131) (o := .cells #[.string (⟨#[78, 79, 84]⟩ : ByteArray), .int .i64 0, .int .i64 2, .string (⟨#[116]⟩ : ByteArray)] 76 (0, 0)) (by (with_reducible repeat (first | refine blk_drewN ?_ _ | refine blk_drew ?_ | refine blk_alloc ?_ _)); exact BK131.out) hb); have n2_ := Aside0.mk (below_step (by repeat (first | (with_reducible first | exact HB.out | apply below_alloc | apply pw_below_drewN | apply below_drew1 | refine below_set ?_ GE131.out) | exact HB.out)) hb); clear BK131; clear HB; have HO193 := n0_; have BK131 := n1_; have HB := n2_; clear n0_ n1_ n2_; clear hb ho50))
                  go_ret
                  exact ⟨_, by first | rfl | (simp [errW_none, errW_some] <;> rfl) | (simp [*, errW_none, errW_some] <;> rfl), by (with_reducible repeat (first | apply Kd.R_alloc | apply Kd.R_drewN | apply Kd.R_drew)); exact Kd.R_mono HO193.out (fun _ hk => trivial), by repeat (first | (with_reducible first | exact HB.out | apply below_alloc | apply pw_below_drewN | apply below_drew1 | refine below_set ?_ GE131.out) | exact HB.out)⟩
                · rw [if_neg c46] at H
                  have c46b0 : (a0 == 7) = false := beq_eq_false_iff_ne.mpr c46
                  have c46b1 : (a0 != 7) = true := bne_iff_ne.mpr c46
                  obtain rfl := Option.some.inj H
                  go_wp2
                  go_ret
                  exact ⟨_, by first | rfl | (simp [errW_none, errW_some] <;> rfl) | (simp [*, errW_none, errW_some] <;> rfl), by first | exact Kd.R_nil _ _ _ _ _ | exact Kd.N_nil _ _ _ _ _ | exact Kd.V_nil _ _ _ _ _ | exact Kd.Q_nil _ _ _ _ _ | exact Kd.S_nil _ _ _ _ _, by repeat (first | (with_reducible first | exact HB.out | apply below_alloc | apply pw_below_drewN | apply below_drew1 | refine below_set ?_ GE131.out) | exact HB.out)⟩

/-! ### impl_TagOf: function 18 -/
def impl_TagOf.f (k : Nat) (a0 : Int) (a1 : Int) : Option (ByteArray) := (impl_tableOf.f k a0).bind fun t194 => ((impl_within.f a1 0 (wrap64 ((t194.length : Int) - 1))).bind fun t197 => (if t197 = true then (if 0 ≤ a1 then (if a1 < (t194.length : Int) then (some ((rd_T76 t194 a1).f0)) else (none)) else (none)) else (some (⟨#[]⟩ : ByteArray))))
theorem impl_TagOf.mono : ∀ a0 a1 k, LeO (impl_TagOf.f k a0 a1) (impl_TagOf.f (k + 1) a0 a1) := by
  intro a0 a1 k
  unfold impl_TagOf.f
  repeat' first
      | (with_reducible exact impl_tableOf.mono _ _)
      | (with_reducible exact LeO.refl _)
      | (with_reducible exact LeO.none _)
      | (with_reducible refine LeO.ite ?_ ?_)
      | (with_reducible refine LeO.bind ?_ (fun _ => ?_))
      | exact impl_tableOf.mono _ _
      | exact LeO.none _
      | refine LeO.ite ?_ ?_
      | refine LeO.bind ?_ (fun _ => ?_)
set_option maxHeartbeats 8000000 in
set_option maxRecDepth 100000 in
theorem impl_TagOf.calls (k : Nat) (a0 : Int) (a1 : Int) (r : ByteArray) (w : World) (h : impl_TagOf.f k a0 a1 = some r) :
    Calls Try.prog 18 #[.int .i64 a0, .int .i64 a1] w fun e w' => e = .returned (.string r) ∧ Below w.heap.size w w' := by
  have HB := Aside0.mk (Below.refl w.heap.size w)
  have H : ((impl_tableOf.f k a0).bind fun t194 => ((impl_within.f a1 0 (wrap64 ((t194.length : Int) - 1))).bind fun t197 => (if t197 = true then (if 0 ≤ a1 then (if a1 < (t194.length : Int) then (some ((rd_T76 t194 a1).f0)) else (none)) else (none)) else (some (⟨#[]⟩ : ByteArray))))) = some r := h
  clear h
  replace H := Option.bind_eq_some_iff.mp H
  obtain ⟨t194, A30, H⟩ := H
  replace H : ((impl_within.f a1 0 (wrap64 ((t194.length : Int) - 1))).bind fun t197 => (if t197 = true then (if 0 ≤ a1 then (if a1 < (t194.length : Int) then (some ((rd_T76 t194 a1).f0)) else (none)) else (none)) else (some (⟨#[]⟩ : ByteArray)))) = some r := H
  have A3 := Aside0.mk A30
  clear A30
  replace H := Option.bind_eq_some_iff.mp H
  obtain ⟨t197, A40, H⟩ := H
  replace H : (if t197 = true then (if 0 ≤ a1 then (if a1 < (t194.length : Int) then (some ((rd_T76 t194 a1).f0)) else (none)) else (none)) else (some (⟨#[]⟩ : ByteArray))) = some r := H
  have A4 := Aside0.mk A40
  clear A40
  by_cases c5 : t197 = true
  · subst c5
    have H1 : (if 0 ≤ a1 then (if a1 < (t194.length : Int) then (some ((rd_T76 t194 a1).f0)) else (none)) else (none)) = some r := by rw [if_pos rfl] at H; exact H
    clear H
    have H := H1
    clear H1
    by_cases c6 : 0 ≤ a1
    · rw [if_pos c6] at H
      have c6b0 : decide (0 ≤ a1) = true := decide_eq_true c6
      clear c6
      by_cases c7 : a1 < (t194.length : Int)
      · rw [if_pos c7] at H
        have c7b0 : decide (a1 < (t194.length : Int)) = true := decide_eq_true c7
        clear c7
        obtain rfl := Option.some.inj H
        go_enter Try.func18, Try.ntmps18
        go_wp2_with (first | ((with_reducible refine gate_callee (f := 52) rfl ?_); refine goesL_ (some 7) rfl rfl Try.func52 (by kernel_rfl) rfl #[.int .i64 a0] rfl (by (try simp only [List.map_toArray, List.map_cons, List.map_nil]); first | done | rfl | (simp only [List.length_drop, List.length_take]; rfl)) ?_; (with_reducible refine (impl_tableOf.calls k a0 t194 _ A3.out).mono ?_); rintro e w8 ⟨v195, rfl, ho0, hb⟩; refine ⟨_, rfl, ?_⟩; have n0_ := Aside0.mk (Kd.R_lower ho0 (below_size (by repeat (first | (with_reducible first | exact HB.out | apply below_alloc | apply pw_below_drewN | apply below_drew1) | exact HB.out)))); have n1_ := Aside0.mk (below_step (by repeat (first | (with_reducible first | exact HB.out | apply below_alloc | apply pw_below_drewN | apply below_drew1) | exact HB.out)) hb); clear HB; have HO196 := n0_; have HB := n1_; clear n0_ n1_; (try clear hb); (try clear hb2); (try clear hk); (try clear hi); (try clear ho0); obtain ⟨Ao9, co9, eo9⟩ := Kd.R_slice HO196.out; subst eo9) | ((with_reducible refine gate_callee (f := 51) rfl ?_); refine goesL_ (some 12) rfl rfl Try.func51 (by kernel_rfl) rfl #[.int .i64 a1, .int .i64 0, .int .i64 (wrap64 ((t194.length : Int) - 1))] rfl (by (try simp only [List.map_toArray, List.map_cons, List.map_nil]); first | done | rfl | (simp only [List.length_drop, List.length_take]; rfl)) ?_; (with_reducible refine (impl_within.calls a1 0 (wrap64 ((t194.length : Int) - 1)) true _ A4.out).mono ?_); rintro e w' ⟨rfl, ⟨nd, rfl⟩⟩; refine ⟨_, rfl, ?_⟩; have p198 : 0 ≤ (a1 : Int) := of_decide_eq_true (by first | (with_reducible assumption) | assumption); have q198 : a1 < (t194.length : Int) := of_decide_eq_true (by first | (with_reducible assumption) | assumption); obtain ⟨ad198, e198, hx198_0, hx198_1, hx198_2, hx198_3⟩ := at_T76 (Kd.R_reads' HO196.out).2.2 a1 p198 q198; cases e198; replace p198 := eq_true p198; replace q198 := eq_true q198))
        go_ret
        exact ⟨by first | rfl | (simp [errW_none, errW_some] <;> rfl) | (simp [*, errW_none, errW_some] <;> rfl), by repeat (first | (with_reducible first | exact HB.out | apply below_alloc | apply pw_below_drewN | apply below_drew1) | exact HB.out)⟩
      · rw [if_neg c7] at H
        exact absurd H (by simp)
    · rw [if_neg c6] at H
      exact absurd H (by simp)
  · replace c5 := Bool.eq_false_iff.mpr c5
    subst c5
    have H1 : (some (⟨#[]⟩ : ByteArray)) = some r := by rw [if_neg (show ¬ (false = true) by decide)] at H; exact H
    clear H
    have H := H1
    clear H1
    obtain rfl := Option.some.inj H
    go_enter Try.func18, Try.ntmps18
    go_wp2_with (first | ((with_reducible refine gate_callee (f := 52) rfl ?_); refine goesL_ (some 7) rfl rfl Try.func52 (by kernel_rfl) rfl #[.int .i64 a0] rfl (by (try simp only [List.map_toArray, List.map_cons, List.map_nil]); first | done | rfl | (simp only [List.length_drop, List.length_take]; rfl)) ?_; (with_reducible refine (impl_tableOf.calls k a0 t194 _ A3.out).mono ?_); rintro e w10 ⟨v195, rfl, ho0, hb⟩; refine ⟨_, rfl, ?_⟩; have n0_ := Aside0.mk (Kd.R_lower ho0 (below_size (by repeat (first | (with_reducible first | exact HB.out | apply below_alloc | apply pw_below_drewN | apply below_drew1) | exact HB.out)))); have n1_ := Aside0.mk (below_step (by repeat (first | (with_reducible first | exact HB.out | apply below_alloc | apply pw_below_drewN | apply below_drew1) | exact HB.out)) hb); clear HB; have HO196 := n0_; have HB := n1_; clear n0_ n1_; (try clear hb); (try clear hb2); (try clear hk); (try clear hi); (try clear ho0); obtain ⟨Ao11, co11, eo11⟩ := Kd.R_slice HO196.out; subst eo11) | ((with_reducible refine gate_callee (f := 51) rfl ?_); refine goesL_ (some 12) rfl rfl Try.func51 (by kernel_rfl) rfl #[.int .i64 a1, .int .i64 0, .int .i64 (wrap64 ((t194.length : Int) - 1))] rfl (by (try simp only [List.map_toArray, List.map_cons, List.map_nil]); first | done | rfl | (simp only [List.length_drop, List.length_take]; rfl)) ?_; (with_reducible refine (impl_within.calls a1 0 (wrap64 ((t194.length : Int) - 1)) false _ A4.out).mono ?_); rintro e w' ⟨rfl, ⟨nd, rfl⟩⟩; refine ⟨_, rfl, ?_⟩))
    go_ret
    exact ⟨by first | rfl | (simp [errW_none, errW_some] <;> rfl) | (simp [*, errW_none, errW_some] <;> rfl), by repeat (first | (with_reducible first | exact HB.out | apply below_alloc | apply pw_below_drewN | apply below_drew1) | exact HB.out)⟩

/-! ### laws_FnExactTagOf: function 5 -/
def laws_FnExactTagOf.f (k : Nat) (a0 : Int) (a1 : Int) : Option (Bool) := (spec_TagOf.f k a0 a1).bind fun t199 => ((impl_TagOf.f k a0 a1).bind fun t200 => (if t200.toList = t199.toList then (some true) else (some false)))
theorem laws_FnExactTagOf.mono : ∀ a0 a1 k, LeO (laws_FnExactTagOf.f k a0 a1) (laws_FnExactTagOf.f (k + 1) a0 a1) := by
  intro a0 a1 k
  unfold laws_FnExactTagOf.f
  repeat' first
      | (with_reducible exact impl_TagOf.mono _ _ _)
      | (with_reducible exact spec_TagOf.mono _ _ _)
      | (with_reducible exact LeO.refl _)
      | (with_reducible exact LeO.none _)
      | (with_reducible refine LeO.ite ?_ ?_)
      | (with_reducible refine LeO.bind ?_ (fun _ => ?_))
      | exact impl_TagOf.mono _ _ _
      | exact spec_TagOf.mono _ _ _
      | exact LeO.none _
      | refine LeO.ite ?_ ?_
      | refine LeO.bind ?_ (fun _ => ?_)
set_option maxHeartbeats 8000000 in
set_option maxRecDepth 100000 in
theorem laws_FnExactTagOf.calls (k : Nat) (a0 : Int) (a1 : Int) (r : Bool) (w : World) (h : laws_FnExactTagOf.f k a0 a1 = some r) :
    Calls Try.prog 5 #[.int .i64 a0, .int .i64 a1] w fun e w' => e = .returned (.bool r) ∧ Below w.heap.size w w' := by
  have HB := Aside0.mk (Below.refl w.heap.size w)
  have H : ((spec_TagOf.f k a0 a1).bind fun t199 => ((impl_TagOf.f k a0 a1).bind fun t200 => (if t200.toList = t199.toList then (some true) else (some false)))) = some r := h
  clear h
  replace H := Option.bind_eq_some_iff.mp H
  obtain ⟨t199, A30, H⟩ := H
  replace H : ((impl_TagOf.f k a0 a1).bind fun t200 => (if t200.toList = t199.toList then (some true) else (some false))) = some r := H
  have A3 := Aside0.mk A30
  clear A30
  replace H := Option.bind_eq_some_iff.mp H
  obtain ⟨t200, A40, H⟩ := H
  replace H : (if t200.toList = t199.toList then (some true) else (some false)) = some r := H
  have A4 := Aside0.mk A40
  clear A40
  by_cases c5 : t200.toList = t199.toList
  · rw [if_pos c5] at H
    have c5b0 : (t200.toList == t199.toList) = true := beq_iff_eq.mpr c5
    have c5b1 : (t200.toList != t199.toList) = false := bne_eq_false_iff_eq.mpr c5
    clear c5
    obtain rfl := Option.some.inj H
    go_enter Try.func5, Try.ntmps5
    go_wp2_with (first | ((with_reducible refine gate_callee (f := 17) rfl ?_); refine goesL_ (some 9) rfl rfl Try.func17 (by kernel_rfl) rfl #[.int .i64 a0, .int .i64 a1] rfl (by (try simp only [List.map_toArray, List.map_cons, List.map_nil]); first | done | rfl | (simp only [List.length_drop, List.length_take]; rfl)) ?_; (with_reducible refine (spec_TagOf.calls k a0 a1 t199 _ A3.out).mono ?_); rintro e w6 ⟨rfl, hb⟩; refine ⟨_, rfl, ?_⟩; have n0_ := Aside0.mk (below_step (by repeat (first | (with_reducible first | exact HB.out | apply below_alloc | apply pw_below_drewN | apply below_drew1) | exact HB.out)) hb); clear HB; have HB := n0_; clear n0_; (try clear hb); (try clear hb2); (try clear hk); (try clear hi)) | ((with_reducible refine gate_callee (f := 18) rfl ?_); refine goesL_ (some 12) rfl rfl Try.func18 (by kernel_rfl) rfl #[.int .i64 a0, .int .i64 a1] rfl (by (try simp only [List.map_toArray, List.map_cons, List.map_nil]); first | done | rfl | (simp only [List.length_drop, List.length_take]; rfl)) ?_; (with_reducible refine (impl_TagOf.calls k a0 a1 t200 _ A4.out).mono ?_); rintro e w7 ⟨rfl, hb⟩; refine ⟨_, rfl, ?_⟩; have n0_ := Aside0.mk (below_step (by repeat (first | (with_reducible first | exact HB.out | apply below_alloc | apply pw_below_drewN | apply below_drew1) | exact HB.out)) hb); clear HB; have HB := n0_; clear n0_; (try clear hb); (try clear hb2); (try clear hk); (try clear hi)))
    go_ret
    exact ⟨by first | rfl | (simp [errW_none, errW_some] <;> rfl) | (simp [*, errW_none, errW_some] <;> rfl), by repeat (first | (with_reducible first | exact HB.out | apply below_alloc | apply pw_below_drewN | apply below_drew1) | exact HB.out)⟩
  · rw [if_neg c5] at H
    have c5b0 : (t200.toList == t199.toList) = false := beq_eq_false_iff_ne.mpr c5
    have c5b1 : (t200.toList != t199.toList) = true := bne_iff_ne.mpr c5
    obtain rfl := Option.some.inj H
    go_enter Try.func5, Try.ntmps5
    go_wp2_with (first | ((with_reducible refine gate_callee (f := 17) rfl ?_); refine goesL_ (some 9) rfl rfl Try.func17 (by kernel_rfl) rfl #[.int .i64 a0, .int .i64 a1] rfl (by (try simp only [List.map_toArray, List.map_cons, List.map_nil]); first | done | rfl | (simp only [List.length_drop, List.length_take]; rfl)) ?_; (with_reducible refine (spec_TagOf.calls k a0 a1 t199 _ A3.out).mono ?_); rintro e w8 ⟨rfl, hb⟩; refine ⟨_, rfl, ?_⟩; have n0_ := Aside0.mk (below_step (by repeat (first | (with_reducible first | exact HB.out | apply below_alloc | apply pw_below_drewN | apply below_drew1) | exact HB.out)) hb); clear HB; have HB := n0_; clear n0_; (try clear hb); (try clear hb2); (try clear hk); (try clear hi)) | ((with_reducible refine gate_callee (f := 18) rfl ?_); refine goesL_ (some 12) rfl rfl Try.func18 (by kernel_rfl) rfl #[.int .i64 a0, .int .i64 a1] rfl (by (try simp only [List.map_toArray, List.map_cons, List.map_nil]); first | done | rfl | (simp only [List.length_drop, List.length_take]; rfl)) ?_; (with_reducible refine (impl_TagOf.calls k a0 a1 t200 _ A4.out).mono ?_); rintro e w9 ⟨rfl, hb⟩; refine ⟨_, rfl, ?_⟩; have n0_ := Aside0.mk (below_step (by repeat (first | (with_reducible first | exact HB.out | apply below_alloc | apply pw_below_drewN | apply below_drew1) | exact HB.out)) hb); clear HB; have HB := n0_; clear n0_; (try clear hb); (try clear hb2); (try clear hk); (try clear hi)))
    go_ret
    exact ⟨by first | rfl | (simp [errW_none, errW_some] <;> rfl) | (simp [*, errW_none, errW_some] <;> rfl), by repeat (first | (with_reducible first | exact HB.out | apply below_alloc | apply pw_below_drewN | apply below_drew1) | exact HB.out)⟩

/-- THE ONE PURE STATEMENT of laws_FnExactTagOf: yours. -/
def laws_FnExactTagOf.Pure : Prop := ∀ (a0 : Int) (a1 : Int), (Lit.int .i64 a0).wf = true → (Lit.int .i64 a1).wf = true → ∃ k, laws_FnExactTagOf.f k a0 a1 = some true
theorem laws_FnExactTagOf.walk (P : laws_FnExactTagOf.Pure) (a0 : Int) (a1 : Int) (w : World) (w0 : (Lit.int .i64 a0).wf = true) (w1 : (Lit.int .i64 a1).wf = true) :
    Calls Try.prog 5 #[.int .i64 a0, .int .i64 a1] w fun e w' => e = .returned (.bool true) ∧ Below w.heap.size w w' := by
  obtain ⟨k, h⟩ := P a0 a1 w0 w1
  refine (laws_FnExactTagOf.calls k a0 a1 true w h).mono ?_
  rintro e w' ⟨rfl, hd⟩
  exact ⟨rfl, hd⟩

end Go.Proofs.Ytkmpfgpamlfldaa.PFnExactTagOf
