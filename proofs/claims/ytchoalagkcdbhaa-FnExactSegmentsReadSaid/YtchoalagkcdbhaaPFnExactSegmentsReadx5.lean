-- printed by a program of this session (wip/xp/xprint.py) out of the translation; Lean checks it
import Derived.Test.YtchoalagkcdbhaaPFnExactSegmentsReadx0
import Derived.Test.YtchoalagkcdbhaaPFnExactSegmentsReadx1
import Derived.Test.YtchoalagkcdbhaaPFnExactSegmentsReadx3
import Derived.Test.YtchoalagkcdbhaaPFnExactSegmentsReadx4
namespace Go.Proofs.Ytchoalagkcdbhaa.PFnExactSegmentsRead
open Go.RowKit Go.Proofs.YtchoalagkcdbhaaW.PrintWords Go.Proofs.YtchoalagkcdbhaaW.PrintLast Go.Proofs.YtchoalagkcdbhaaW.PrintMore
attribute [local go_sem] max2_int min2_int max_two min_two max_three min_three max_four min_four   -- for this text's walks alone
set_option linter.unusedVariables false
set_option linter.unusedSimpArgs false
set_option maxHeartbeats 60000000
set_option maxRecDepth 100000

theorem ap_ {α β : Type} {d : Kd α} {d' : Kd β} {e e' base base' : Nat} {W w1 : World} {ok : Nat → Prop} {u v : Value} {xs : List α} {ys : List β} (hu : Kd.S d' e' W base ok u ys) (hv : Kd.S d e w1 W.heap.size (fun _ => True) v xs) (hb : Below W.heap.size W w1) (hl : base' ≤ W.heap.size) : ∃ b : Nat, Kd.S d e w1 base' (fun k => b ≤ k ∧ some k ≠ u.ownBlock) v xs ∧ Kd.S d' e' w1 base (fun k => k < b ∧ some k ≠ v.ownBlock) u ys :=
 ⟨W.heap.size, Kd.S_lower (Kd.S_mono (Kd.S_bound hv) (fun k hk => ⟨hk.2.1, fun e => Nat.not_le.2 (Kd.S_lt hu k e.symm) hk.2.1⟩)) hl, Kd.S_mono (Kd.S_below (Kd.S_bound hu) hb) (fun k hk => ⟨hk.2.2.1, fun e => Nat.not_le.2 hk.2.2.1 (Kd.S_base hv k e.symm)⟩)⟩
theorem pp_ {α : Type} {d : Kd α} {e base : Nat} {w : World} {ok : Nat → Prop} {v : Value} {xs : List α} (h : Aside0 (Kd.S d e w base ok v xs)) : ∃ P : Nat → Prop, Aside0 (Kd.S d e w base P v xs) ∧ Aside0 (∀ k, P k → ok k ∧ ∃ q, q ∈ e :: d.E ∧ ∃ cells, w.heap[k]? = some (.cells cells q (0, 0))) :=
 ⟨_, am_ (Kd.S_bound h.out), am_ (fun _ hk => ⟨hk.1, hk.2.2.2⟩)⟩
theorem nt_ {l : List Nat} {W : World} {k t : Nat} {cs : Array Value} (h : ∃ q, q ∈ l ∧ ∃ cells, W.heap[k]? = some (.cells cells q (0, 0))) (hb : W.heap[k]? = some (.cells cs t (0, 0))) (ht : ∀ q, q ∈ l → q ≠ t) : False := by
 obtain ⟨q, hq, c, hc⟩ := h
 rw [hb] at hc
 injection hc with hc
 injection hc with h1 h2
 exact ht q hq h2.symm
theorem au5_0 {p : Prop} (h : p := by (with_reducible repeat (first | apply Kd.S_alloc | apply Kd.S_drewN | apply Kd.S_drew)); exact HO423.out) : p := h
theorem au5_1 {p : Prop} (h : p := by (with_reducible repeat (first | apply Kd.S_alloc | apply Kd.S_drewN | apply Kd.S_drew)); exact HO434.out) : p := h
theorem au5_2 {p : Prop} (h : p := by first | rfl | (simp [errW_none, errW_some] <;> rfl) | (simp [*, errW_none, errW_some] <;> rfl)) : p := h
theorem au5_3 {p : Prop} (h : p := by (try simp only [List.map_toArray, List.map_cons, List.map_nil]); first | done | (rw [show t441.length = t432.length from (Kd.S_reads' HO434.out).1.symm] <;> rfl) | rfl | (simp only [List.length_drop, List.length_take]; rfl)) : p := h
theorem au5_4 {p : Prop} (h : p := by repeat (first | exact (Kd.S_reads' HO434.out).2.2 | (with_reducible refine Kd.C_alloc ?_ _) | (with_reducible refine Kd.C_drewN ?_ _) | (with_reducible refine Kd.C_drew ?_))) : p := h
theorem au5_5 {p : Prop} (h : p := by repeat (first | (with_reducible first | exact HB.out | apply below_alloc | apply pw_below_drewN | apply below_drew1 | refine below_set ?_ GE416.out | refine below_set ?_ GE427.out | refine below_set ?_ GE438.out) | exact HB.out)) : p := h
theorem au5_6 {p : Prop} (h : p := by repeat (first | exact (Kd.C_below HR0_0.out HB.out) | (with_reducible refine Kd.C_alloc ?_ _) | (with_reducible refine Kd.C_drewN ?_ _) | (with_reducible refine Kd.C_drew ?_))) : p := h
theorem au5_7 {p : Prop} (h : p := by repeat (first | (with_reducible first | exact HK.out | apply Kept.alloc | apply Kept.drewN | apply Kept.drew) | exact HK.out)) : p := h
theorem au5_8 {p : Prop} (h : p := by rw [show t441.length = t432.length from (Kd.S_reads' HO434.out).1.symm]; exact (Kd.S_reads' HO434.out).2.1) : p := h
theorem au5_9 {p : Prop} (h : p := by repeat (first | exact (Kd.C_below HR1_0.out HB.out) | (with_reducible refine Kd.C_alloc ?_ _) | (with_reducible refine Kd.C_drewN ?_ _) | (with_reducible refine Kd.C_drew ?_))) : p := h
theorem au5_10 {p : Prop} (h : p := by (with_reducible repeat (first | apply Kd.S_alloc | apply Kd.S_drewN | apply Kd.S_drew)); exact HO449.out) : p := h
theorem au5_11 {p : Prop} (h : p := by repeat (first | (with_reducible first | exact HK.out | apply Kept.alloc | apply Kept.drewN | apply Kept.drew) | exact HK.out)) : p := h
theorem au5_12 {p : Prop} (h : p := by (with_reducible repeat (first | apply Kd.S_alloc | apply Kd.S_drewN | apply Kd.S_drew)); exact (Kd.S_mono (Kd.S_far (p := ⟨gb453, 3, none⟩) (Kd.S_far (p := ⟨gb453, 2, none⟩) (Kd.S_far (p := ⟨gb453, 1, none⟩) (Kd.S_far (p := ⟨gb453, 0, none⟩) (Kd.S_types HO449.out BK453.out (by decide)) (fun _ hk => hk.2) (.slice Ao105 t447.length co105)) (fun _ hk => hk.2) (.int .i64 t450)) (fun _ hk => hk.2) (.int .i64 t451)) (fun _ hk => hk.2) (.int .i64 t452)) (fun _ h_ => h_.1))) : p := h
theorem au5_13 {p : Prop} (h : p := by (with_reducible repeat (first | apply Kd.S_alloc | apply Kd.S_drewN | apply Kd.S_drew)); exact (Kd.S_mono (Kd.S_far (p := ⟨gb453, 3, none⟩) (Kd.S_far (p := ⟨gb453, 2, none⟩) (Kd.S_far (p := ⟨gb453, 1, none⟩) (Kd.S_far (p := ⟨gb453, 0, none⟩) (Kd.S_types HO423.out BK453.out (by decide)) (fun _ hk => hk.2) (.slice Ao105 t447.length co105)) (fun _ hk => hk.2) (.int .i64 t450)) (fun _ hk => hk.2) (.int .i64 t451)) (fun _ hk => hk.2) (.int .i64 t452)) (fun _ h_ => h_.1))) : p := h
theorem au5_14 {p : Prop} (h : p := by (with_reducible repeat (first | apply Kd.S_alloc | apply Kd.S_drewN | apply Kd.S_drew)); exact (Kd.S_mono (Kd.S_far (p := ⟨gb438, 3, none⟩) (Kd.S_far (p := ⟨gb438, 2, none⟩) (Kd.S_far (p := ⟨gb438, 1, none⟩) (Kd.S_far (p := ⟨gb438, 0, none⟩) (Kd.S_types HO434.out BK438.out (by decide)) (fun _ hk => hk.2) (.slice Ao126 t432.length co126)) (fun _ hk => hk.2) (.int .i64 t435)) (fun _ hk => hk.2) (.int .i64 t436)) (fun _ hk => hk.2) (.int .i64 t437)) (fun _ h_ => h_.1))) : p := h
theorem au5_15 {p : Prop} (h : p := by (with_reducible repeat (first | apply Kd.S_alloc | apply Kd.S_drewN | apply Kd.S_drew)); exact (Kd.S_mono (Kd.S_far (p := ⟨gb438, 3, none⟩) (Kd.S_far (p := ⟨gb438, 2, none⟩) (Kd.S_far (p := ⟨gb438, 1, none⟩) (Kd.S_far (p := ⟨gb438, 0, none⟩) (Kd.S_types HO423.out BK438.out (by decide)) (fun _ hk => hk.2) (.slice Ao126 t432.length co126)) (fun _ hk => hk.2) (.int .i64 t435)) (fun _ hk => hk.2) (.int .i64 t436)) (fun _ hk => hk.2) (.int .i64 t437)) (fun _ h_ => h_.1))) : p := h
theorem au5_16 {p : Prop} (h : p := by (with_reducible repeat (first | apply Kd.S_alloc | apply Kd.S_drewN | apply Kd.S_drew)); exact (Kd.S_mono (Kd.S_far (p := ⟨gb453, 3, none⟩) (Kd.S_far (p := ⟨gb453, 2, none⟩) (Kd.S_far (p := ⟨gb453, 1, none⟩) (Kd.S_far (p := ⟨gb453, 0, none⟩) (Kd.S_types HO449.out BK453.out (by decide)) (fun _ hk => hk.2) (.slice Ao140 t447.length co140)) (fun _ hk => hk.2) (.int .i64 t450)) (fun _ hk => hk.2) (.int .i64 t451)) (fun _ hk => hk.2) (.int .i64 t452)) (fun _ h_ => h_.1))) : p := h
theorem au5_17 {p : Prop} (h : p := by (with_reducible repeat (first | apply Kd.S_alloc | apply Kd.S_drewN | apply Kd.S_drew)); exact (Kd.S_mono (Kd.S_far (p := ⟨gb453, 3, none⟩) (Kd.S_far (p := ⟨gb453, 2, none⟩) (Kd.S_far (p := ⟨gb453, 1, none⟩) (Kd.S_far (p := ⟨gb453, 0, none⟩) (Kd.S_types HO423.out BK453.out (by decide)) (fun _ hk => hk.2) (.slice Ao140 t447.length co140)) (fun _ hk => hk.2) (.int .i64 t450)) (fun _ hk => hk.2) (.int .i64 t451)) (fun _ hk => hk.2) (.int .i64 t452)) (fun _ h_ => h_.1))) : p := h
theorem au5_18 {p : Prop} (h : p := by (with_reducible repeat (first | apply Kd.S_alloc | apply Kd.S_drewN | apply Kd.S_drew)); exact (Kd.S_mono (Kd.S_far (p := ⟨gb438, 3, none⟩) (Kd.S_far (p := ⟨gb438, 2, none⟩) (Kd.S_far (p := ⟨gb438, 1, none⟩) (Kd.S_far (p := ⟨gb438, 0, none⟩) (Kd.S_types HO434.out BK438.out (by decide)) (fun _ hk => hk.2) (.slice Ao161 t432.length co161)) (fun _ hk => hk.2) (.int .i64 t435)) (fun _ hk => hk.2) (.int .i64 t436)) (fun _ hk => hk.2) (.int .i64 t437)) (fun _ h_ => h_.1))) : p := h
theorem au5_19 {p : Prop} (h : p := by (with_reducible repeat (first | apply Kd.S_alloc | apply Kd.S_drewN | apply Kd.S_drew)); exact (Kd.S_mono (Kd.S_far (p := ⟨gb438, 3, none⟩) (Kd.S_far (p := ⟨gb438, 2, none⟩) (Kd.S_far (p := ⟨gb438, 1, none⟩) (Kd.S_far (p := ⟨gb438, 0, none⟩) (Kd.S_types HO423.out BK438.out (by decide)) (fun _ hk => hk.2) (.slice Ao161 t432.length co161)) (fun _ hk => hk.2) (.int .i64 t435)) (fun _ hk => hk.2) (.int .i64 t436)) (fun _ hk => hk.2) (.int .i64 t437)) (fun _ h_ => h_.1))) : p := h
theorem au5_20 {p : Prop} (h : p := by (with_reducible repeat (first | apply Kd.S_alloc | apply Kd.S_drewN | apply Kd.S_drew)); exact (Kd.S_mono (Kd.S_far (p := ⟨gb453, 3, none⟩) (Kd.S_far (p := ⟨gb453, 2, none⟩) (Kd.S_far (p := ⟨gb453, 1, none⟩) (Kd.S_far (p := ⟨gb453, 0, none⟩) (Kd.S_types HO449.out BK453.out (by decide)) (fun _ hk => hk.2) (.slice Ao175 t447.length co175)) (fun _ hk => hk.2) (.int .i64 t450)) (fun _ hk => hk.2) (.int .i64 t451)) (fun _ hk => hk.2) (.int .i64 t452)) (fun _ h_ => h_.1))) : p := h
theorem au5_21 {p : Prop} (h : p := by (with_reducible repeat (first | apply Kd.S_alloc | apply Kd.S_drewN | apply Kd.S_drew)); exact (Kd.S_mono (Kd.S_far (p := ⟨gb453, 3, none⟩) (Kd.S_far (p := ⟨gb453, 2, none⟩) (Kd.S_far (p := ⟨gb453, 1, none⟩) (Kd.S_far (p := ⟨gb453, 0, none⟩) (Kd.S_types HO423.out BK453.out (by decide)) (fun _ hk => hk.2) (.slice Ao175 t447.length co175)) (fun _ hk => hk.2) (.int .i64 t450)) (fun _ hk => hk.2) (.int .i64 t451)) (fun _ hk => hk.2) (.int .i64 t452)) (fun _ h_ => h_.1))) : p := h
theorem au5_22 {p : Prop} (h : p := by (with_reducible repeat (first | apply Kd.S_alloc | apply Kd.S_drewN | apply Kd.S_drew)); exact (Kd.S_mono (Kd.S_far (p := ⟨gb438, 3, none⟩) (Kd.S_far (p := ⟨gb438, 2, none⟩) (Kd.S_far (p := ⟨gb438, 1, none⟩) (Kd.S_far (p := ⟨gb438, 0, none⟩) (Kd.S_types HO434.out BK438.out (by decide)) (fun _ hk => hk.2) (.slice Ao194 t432.length co194)) (fun _ hk => hk.2) (.int .i64 t435)) (fun _ hk => hk.2) (.int .i64 t436)) (fun _ hk => hk.2) (.int .i64 t437)) (fun _ h_ => h_.1))) : p := h
theorem au5_23 {p : Prop} (h : p := by (with_reducible repeat (first | apply Kd.S_alloc | apply Kd.S_drewN | apply Kd.S_drew)); exact (Kd.S_mono (Kd.S_far (p := ⟨gb438, 3, none⟩) (Kd.S_far (p := ⟨gb438, 2, none⟩) (Kd.S_far (p := ⟨gb438, 1, none⟩) (Kd.S_far (p := ⟨gb438, 0, none⟩) (Kd.S_types HO423.out BK438.out (by decide)) (fun _ hk => hk.2) (.slice Ao194 t432.length co194)) (fun _ hk => hk.2) (.int .i64 t435)) (fun _ hk => hk.2) (.int .i64 t436)) (fun _ hk => hk.2) (.int .i64 t437)) (fun _ h_ => h_.1))) : p := h
theorem au5_24 {p : Prop} (h : p := by (with_reducible repeat (first | apply Kd.S_alloc | apply Kd.S_drewN | apply Kd.S_drew)); exact (Kd.S_mono (Kd.S_far (p := ⟨gb438, 3, none⟩) (Kd.S_far (p := ⟨gb438, 2, none⟩) (Kd.S_far (p := ⟨gb438, 1, none⟩) (Kd.S_far (p := ⟨gb438, 0, none⟩) (Kd.S_types HO434.out BK438.out (by decide)) (fun _ hk => hk.2) (.slice Ao216 t432.length co216)) (fun _ hk => hk.2) (.int .i64 t435)) (fun _ hk => hk.2) (.int .i64 t436)) (fun _ hk => hk.2) (.int .i64 t437)) (fun _ h_ => h_.1))) : p := h
theorem au5_25 {p : Prop} (h : p := by (with_reducible repeat (first | apply Kd.S_alloc | apply Kd.S_drewN | apply Kd.S_drew)); exact (Kd.S_mono (Kd.S_far (p := ⟨gb438, 3, none⟩) (Kd.S_far (p := ⟨gb438, 2, none⟩) (Kd.S_far (p := ⟨gb438, 1, none⟩) (Kd.S_far (p := ⟨gb438, 0, none⟩) (Kd.S_types HO423.out BK438.out (by decide)) (fun _ hk => hk.2) (.slice Ao216 t432.length co216)) (fun _ hk => hk.2) (.int .i64 t435)) (fun _ hk => hk.2) (.int .i64 t436)) (fun _ hk => hk.2) (.int .i64 t437)) (fun _ h_ => h_.1))) : p := h
theorem au5_26 {p : Prop} (h : p := by (with_reducible repeat (first | apply Kd.S_alloc | apply Kd.S_drewN | apply Kd.S_drew)); exact (Kd.S_mono (Kd.S_far (p := ⟨gb438, 3, none⟩) (Kd.S_far (p := ⟨gb438, 2, none⟩) (Kd.S_far (p := ⟨gb438, 1, none⟩) (Kd.S_far (p := ⟨gb438, 0, none⟩) (Kd.S_types HO434.out BK438.out (by decide)) (fun _ hk => hk.2) (.slice Ao26 t432.length co26)) (fun _ hk => hk.2) (.int .i64 t435)) (fun _ hk => hk.2) (.int .i64 t436)) (fun _ hk => hk.2) (.int .i64 t437)) (fun _ h_ => h_.1))) : p := h
theorem au5_27 {p : Prop} (h : p := by (with_reducible repeat (first | apply Kd.S_alloc | apply Kd.S_drewN | apply Kd.S_drew)); exact (Kd.S_mono (Kd.S_far (p := ⟨gb438, 3, none⟩) (Kd.S_far (p := ⟨gb438, 2, none⟩) (Kd.S_far (p := ⟨gb438, 1, none⟩) (Kd.S_far (p := ⟨gb438, 0, none⟩) (Kd.S_types HO423.out BK438.out (by decide)) (fun _ hk => hk.2) (.slice Ao26 t432.length co26)) (fun _ hk => hk.2) (.int .i64 t435)) (fun _ hk => hk.2) (.int .i64 t436)) (fun _ hk => hk.2) (.int .i64 t437)) (fun _ h_ => h_.1))) : p := h
theorem au5_28 {p : Prop} (h : p := by (with_reducible repeat (first | apply Kd.S_alloc | apply Kd.S_drewN | apply Kd.S_drew)); exact (Kd.S_mono (Kd.S_far (p := ⟨gb438, 3, none⟩) (Kd.S_far (p := ⟨gb438, 2, none⟩) (Kd.S_far (p := ⟨gb438, 1, none⟩) (Kd.S_far (p := ⟨gb438, 0, none⟩) (Kd.S_types HO434.out BK438.out (by decide)) (fun _ hk => hk.2) (.slice Ao55 t432.length co55)) (fun _ hk => hk.2) (.int .i64 t435)) (fun _ hk => hk.2) (.int .i64 t436)) (fun _ hk => hk.2) (.int .i64 t437)) (fun _ h_ => h_.1))) : p := h
theorem au5_29 {p : Prop} (h : p := by (with_reducible repeat (first | apply Kd.S_alloc | apply Kd.S_drewN | apply Kd.S_drew)); exact (Kd.S_mono (Kd.S_far (p := ⟨gb438, 3, none⟩) (Kd.S_far (p := ⟨gb438, 2, none⟩) (Kd.S_far (p := ⟨gb438, 1, none⟩) (Kd.S_far (p := ⟨gb438, 0, none⟩) (Kd.S_types HO423.out BK438.out (by decide)) (fun _ hk => hk.2) (.slice Ao55 t432.length co55)) (fun _ hk => hk.2) (.int .i64 t435)) (fun _ hk => hk.2) (.int .i64 t436)) (fun _ hk => hk.2) (.int .i64 t437)) (fun _ h_ => h_.1))) : p := h
theorem au5_30 {p : Prop} (h : p := by (with_reducible repeat (first | apply Kd.S_alloc | apply Kd.S_drewN | apply Kd.S_drew)); exact (Kd.S_mono (Kd.S_far (p := ⟨gb453, 3, none⟩) (Kd.S_far (p := ⟨gb453, 2, none⟩) (Kd.S_far (p := ⟨gb453, 1, none⟩) (Kd.S_far (p := ⟨gb453, 0, none⟩) (Kd.S_types HO449.out BK453.out (by decide)) (fun _ hk => hk.2) (.slice Ao69 t447.length co69)) (fun _ hk => hk.2) (.int .i64 t450)) (fun _ hk => hk.2) (.int .i64 t451)) (fun _ hk => hk.2) (.int .i64 t452)) (fun _ h_ => h_.1))) : p := h
theorem au5_31 {p : Prop} (h : p := by (with_reducible repeat (first | apply Kd.S_alloc | apply Kd.S_drewN | apply Kd.S_drew)); exact (Kd.S_mono (Kd.S_far (p := ⟨gb453, 3, none⟩) (Kd.S_far (p := ⟨gb453, 2, none⟩) (Kd.S_far (p := ⟨gb453, 1, none⟩) (Kd.S_far (p := ⟨gb453, 0, none⟩) (Kd.S_types HO423.out BK453.out (by decide)) (fun _ hk => hk.2) (.slice Ao69 t447.length co69)) (fun _ hk => hk.2) (.int .i64 t450)) (fun _ hk => hk.2) (.int .i64 t451)) (fun _ hk => hk.2) (.int .i64 t452)) (fun _ h_ => h_.1))) : p := h
theorem au5_32 {p : Prop} (h : p := by (with_reducible repeat (first | apply Kd.S_alloc | apply Kd.S_drewN | apply Kd.S_drew)); exact (Kd.S_mono (Kd.S_far (p := ⟨gb438, 3, none⟩) (Kd.S_far (p := ⟨gb438, 2, none⟩) (Kd.S_far (p := ⟨gb438, 1, none⟩) (Kd.S_far (p := ⟨gb438, 0, none⟩) (Kd.S_types HO434.out BK438.out (by decide)) (fun _ hk => hk.2) (.slice Ao91 t432.length co91)) (fun _ hk => hk.2) (.int .i64 t435)) (fun _ hk => hk.2) (.int .i64 t436)) (fun _ hk => hk.2) (.int .i64 t437)) (fun _ h_ => h_.1))) : p := h
theorem au5_33 {p : Prop} (h : p := by (with_reducible repeat (first | apply Kd.S_alloc | apply Kd.S_drewN | apply Kd.S_drew)); exact (Kd.S_mono (Kd.S_far (p := ⟨gb438, 3, none⟩) (Kd.S_far (p := ⟨gb438, 2, none⟩) (Kd.S_far (p := ⟨gb438, 1, none⟩) (Kd.S_far (p := ⟨gb438, 0, none⟩) (Kd.S_types HO423.out BK438.out (by decide)) (fun _ hk => hk.2) (.slice Ao91 t432.length co91)) (fun _ hk => hk.2) (.int .i64 t435)) (fun _ hk => hk.2) (.int .i64 t436)) (fun _ hk => hk.2) (.int .i64 t437)) (fun _ h_ => h_.1))) : p := h
theorem au5_34 {p : Prop} (h : p := by (with_reducible repeat (first | apply Kd.S_alloc | apply Kd.S_drewN | apply Kd.S_drew)); exact HO_0.out) : p := h
theorem au5_35 {p : Prop} (h : p := by exact (Kd.S_reads' HO423.out).2.1) : p := h
theorem au5_36 {p : Prop} (h : p := by repeat (first | exact (Kd.C_below HR395_1.out HB.out) | (with_reducible refine Kd.C_alloc ?_ _) | (with_reducible refine Kd.C_drewN ?_ _) | (with_reducible refine Kd.C_drew ?_))) : p := h
theorem au5_37 {p : Prop} (h : p := by repeat (first | exact (Kd.C_below HR396_1.out HB.out) | (with_reducible refine Kd.C_alloc ?_ _) | (with_reducible refine Kd.C_drewN ?_ _) | (with_reducible refine Kd.C_drew ?_))) : p := h
theorem au5_38 {p : Prop} (h : p := by repeat (first | exact (Kd.C_below HR408_0.out HB.out) | (with_reducible refine Kd.C_alloc ?_ _) | (with_reducible refine Kd.C_drewN ?_ _) | (with_reducible refine Kd.C_drew ?_))) : p := h
theorem au5_39 {p : Prop} (h : p := by repeat (first | exact (Kd.C_below HR412_1.out HB.out) | (with_reducible refine Kd.C_alloc ?_ _) | (with_reducible refine Kd.C_drewN ?_ _) | (with_reducible refine Kd.C_drew ?_))) : p := h
theorem au5_40 {p : Prop} (h : p := by rintro w' ⟨s0, s1, s2, s3⟩; go_simp; with_reducible rfl) : p := h
theorem au5_41 {p : Prop} (h : p := by exact (Kd.S_reads' HO434.out).2.1) : p := h
theorem au5_42 {p : Prop} (h : p := by repeat (first | (with_reducible first | exact HB.out | apply below_alloc | apply pw_below_drewN | apply below_drew1) | exact HB.out)) : p := h
theorem au5_43 {p : Prop} (h : p := by (with_reducible repeat (first | apply Kd.S_alloc | apply Kd.S_drewN | apply Kd.S_drew)); exact HO0.out) : p := h
theorem au5_44 {p : Prop} (h : p := by rintro w' ⟨s0, s1⟩; go_simp; with_reducible rfl) : p := h
theorem au5_45 {p : Prop} (h : p := by exact (Kd.S_reads' HO449.out).2.1) : p := h

/-! ### F49: function 49 -/
def F49.l0 : Nat → List (S59) → List (S59) → Int → Option (Bool)
  | 0, _, _, _ => none
  | k + 1, x0, x1, x5 => if x5 < (x0.length : Int) then (if 0 ≤ x5 then (if x5 < (x1.length : Int) then ((F37.f k ((rd_T59 x0 x5).f0) ((rd_T59 x0 x5).f1) ((rd_T59 x1 x5).f0) ((rd_T59 x1 x5).f1)).bind fun t397 => (if t397 = true then (F49.l0 k x0 x1 (wrap64 (x5 + 1))) else (some false))) else (none)) else (none)) else (some true)
def F49.f (k : Nat) (l0 : List (S59)) (l1 : List (S59)) : Option (Bool) := if (l0.length : Int) = (l1.length : Int) then (F49.l0 k l0 l1 0) else (some false)
theorem F49.mono_l : ∀ k, (∀ y0 y1 y2, LeO (F49.l0 k y0 y1 y2) (F49.l0 (k + 1) y0 y1 y2))
 | 0 => fun _ _ _ r h => by simp [F49.l0] at h
 | k + 1 => by
  have ih0 := F49.mono_l k
  intro y0 y1 y2
  unfold F49.l0
  repeat' with_reducible first | exact ih0 _ _ _ | exact F37.mono _ _ _ _ _ | exact LeO.refl _ | exact LeO.none _ | refine LeO.ite ?_ ?_ | refine LeO.bind ?_ (fun _ => ?_)
theorem F49.mono : ∀ a0 a1 k, LeO (F49.f k a0 a1) (F49.f (k + 1) a0 a1) := by
 intro a0 a1 k
 have ih0 := F49.mono_l k
 unfold F49.f
 repeat' with_reducible first | exact ih0 _ _ _ | exact F37.mono _ _ _ _ _ | exact LeO.refl _ | exact LeO.none _ | refine LeO.ite ?_ ?_ | refine LeO.bind ?_ (fun _ => ?_)
def F49.T6 : Bool × List (List Nat × List Nat) := (true, [([], []), ([], []), ([0, 1], [0, 1]), ([2], [2]), ([], []), ([], []), ([4, 5], [4, 5]), ([6], [6]), ([3, 7], [3, 7]), ([8], [8])])
def F49.B6 : List Nat := [0, 0, 3, 7, 0, 0, 48, 112, 255, 511]
theorem F49.tab6 : rtab .any (opsOf Try.f49 6) = F49.T6 := by kernel_rfl
theorem F49.bits6 : waitsOk F49.T6.2 F49.B6 = true := by kernel_rfl
theorem F49.calls (k : Nat) (A0 : Option Addr) (c0 : Nat) (l0 : List (S59)) (A1 : Option Addr) (c1 : Nat) (l1 : List (S59)) (r : Bool) (w : World) (hr0 : Kd.C k59 w A0 l0.length l0) (hc0 : l0.length ≤ c0) (hr1 : Kd.C k59 w A1 l1.length l1) (hc1 : l1.length ≤ c1) (h : F49.f k l0 l1 = some r) :
  Calls Try.prog 49 #[.slice A0 l0.length c0, .slice A1 l1.length c1] w fun e w' => e = .returned (.bool r) ∧ Below w.heap.size w w' := by
 have hu59 := Try.underlying59
 have HR0 := am_ hr0
 have HC0 := am_ hc0
 clear hr0 hc0
 have HR1 := am_ hr1
 have HC1 := am_ hc1
 clear hr1 hc1
 have HB := am_ (Below.refl w.heap.size w)
 have H : (if (l0.length : Int) = (l1.length : Int) then (F49.l0 k l0 l1 0) else (some false)) = some r := h
 clear h
 by_cases c3 : (l0.length : Int) = (l1.length : Int)
 rotate_left
 ·rw [if_neg c3] at H
  have c3b0 : ((l0.length : Int) == (l1.length : Int)) = false := beq_eq_false_iff_ne.mpr c3
  have c3b1 : ((l0.length : Int) != (l1.length : Int)) = true := bne_iff_ne.mpr c3
  have c3b2 : (l0.length == l1.length) = false := by first | simpa using c3 | (simp at c3 ⊢; omega)
  obtain rfl := Option.some.inj H
  go_enter Try.func49, Try.ntmps49
  go_wp2
  go_ret
  exact ⟨au5_2, bl_⟩

 rw [if_pos c3] at H
 have c3b0 : ((l0.length : Int) == (l1.length : Int)) = true := beq_iff_eq.mpr c3
 have c3b1 : ((l0.length : Int) != (l1.length : Int)) = false := bne_eq_false_iff_eq.mpr c3
 have c3b2 : (l0.length == l1.length) = true := by first | simpa using c3 | (simp at c3 ⊢; omega)
 clear c3
 have H' := am_ H
 clear H
 go_enter Try.func49, Try.ntmps49
 go_wp2
 go_loopg [5] k (fun kq v5 w' => ∃ (x5_1 : Int), v5 = .int .i64 x5_1 ∧ Aside0 (F49.l0 kq l0 l1 x5_1 = some r) ∧ Aside0 (kq ≤ k) ∧ Aside0 (Below w.heap.size w w'))
 case atStart => exact ⟨(0), er_, H', ⟨Nat.le_refl _⟩, ⟨bl_⟩⟩
 case round =>
  clear H'
  try clear c1
  try clear c3
  try clear c3b0
  try clear c3b1
  try clear c3b2
  obtain ⟨x5_1, rfl, HA, HK1, HB⟩ := hrel
  cases gk with
  | zero => exact absurd HA.out (by simp [F49.l0])
  | succ k1 =>
   have H := HA.out
   clear HA
   simp only [F49.l0] at H
   replace H := it_ H; rcases H with ⟨c4b0, H⟩ | ⟨c4b0, H⟩
   rotate_left
   ·obtain rfl := Option.some.inj H
    go_wp2
    go_ret
    exact ⟨au5_2, bl_⟩
   replace H := itn_ H; rcases H with ⟨c5b0, H⟩
   replace H := itn_ H; rcases H with ⟨c6b0, H⟩
   replace H := bi_ H; rcases H with ⟨t397, A7, H⟩
   replace H := ib_ H; rcases H with ⟨rfl, H⟩ | ⟨rfl, H⟩
   rotate_left
   ·obtain rfl := Option.some.inj H
    try go_wp2
    replace HB := am_ (below_drew1 HB.out)
    have p395 : 0 ≤ (x5_1 : Int) := od_
    have q395 : x5_1 < (l0.length : Int) := od_
    obtain ⟨ad395, A395_1, c395_1, e395, hx395_0, hx395_1, hl395_1, hi395_1⟩ := at_T59 HR0.out x5_1 p395 q395
    have hw395_1 := hx395_1
    have hw395_0 := hx395_0
    cases e395
    replace hx395_0 := (HB.out.cell (World.block_lt_of_cell? _ _ hx395_0)).trans hx395_0
    replace hx395_1 := (HB.out.cell (World.block_lt_of_cell? _ _ hx395_1)).trans hx395_1
    have HR395_1 := am_ hi395_1
    have HC395_1 := am_ hl395_1
    clear hi395_1 hl395_1
    replace p395 := eq_true p395
    replace q395 := eq_true q395
    have p396 : 0 ≤ (x5_1 : Int) := od_
    have q396 : x5_1 < (l1.length : Int) := od_
    obtain ⟨ad396, A396_1, c396_1, e396, hx396_0, hx396_1, hl396_1, hi396_1⟩ := at_T59 HR1.out x5_1 p396 q396
    have hw396_1 := hx396_1
    have hw396_0 := hx396_0
    cases e396
    replace hx396_0 := (HB.out.cell (World.block_lt_of_cell? _ _ hx396_0)).trans hx396_0
    replace hx396_1 := (HB.out.cell (World.block_lt_of_cell? _ _ hx396_1)).trans hx396_1
    have HR396_1 := am_ hi396_1
    have HC396_1 := am_ hl396_1
    clear hi396_1 hl396_1
    replace p396 := eq_true p396
    replace q396 := eq_true q396
    refine start_ (n := 10) (S := fun w' => w'.cell? (ad395.add ((x5_1).toNat * 2)) = some (.string ((rd_T59 l0 x5_1).f0)) ∧ w'.cell? ⟨(ad395.add ((x5_1).toNat * 2)).block, (ad395.add ((x5_1).toNat * 2)).off + 1, none⟩ = some (.slice A395_1 ((rd_T59 l0 x5_1).f1).length c395_1) ∧ w'.cell? (ad396.add ((x5_1).toNat * 2)) = some (.string ((rd_T59 l1 x5_1).f0)) ∧ w'.cell? ⟨(ad396.add ((x5_1).toNat * 2)).block, (ad396.add ((x5_1).toNat * 2)).off + 1, none⟩ = some (.slice A396_1 ((rd_T59 l1 x5_1).f1).length c396_1)) (ds := []) (bs 10 0) (by kernel_rfl) rfl rfl ⟨((HB.out.cell (World.block_lt_of_cell? _ _ hw395_0)).trans hw395_0), ((HB.out.cell (World.block_lt_of_cell? _ _ hw395_1)).trans hw395_1), ((HB.out.cell (World.block_lt_of_cell? _ _ hw396_0)).trans hw396_0), ((HB.out.cell (World.block_lt_of_cell? _ _ hw396_1)).trans hw396_1)⟩ (fun hHeld => ?_); refine with_tabW F49.tab6 F49.bits6 (fun HT_ HW_ => ?_)
    generalize wr.drew = w11 at HB HR395_1 HR396_1 hx395_0 hx395_1 hx396_0 hx396_1 hHeld ⊢
    refine pu_ 0 17 (bs 10 1) HT_ ?_ rfl rfl
    refine pu_ 1 18 (bs 10 3) HT_ ?_ rfl rfl
    refine pu_ 2 19 (bs 10 7) HT_ ?_ rfl rfl
    refine pu_ 4 21 (bs 10 23) HT_ ?_ rfl rfl
    refine pu_ 5 22 (bs 10 55) HT_ ?_ rfl rfl
    refine pu_ 6 23 (bs 10 119) HT_ ?_ rfl rfl
    refine tk_ 3 20 (bs 10 127) HT_ HW_ hHeld au5_40 ?_ rfl rfl
    refine tk_ 7 24 (bs 10 255) HT_ HW_ hHeld au5_40 ?_ rfl rfl
    refine one_ (i := 8) (N := some 25) (bs 10 511) rfl rfl (one_of HT_.out (by kernel_rfl)) (by decide) (fun K hK => ?_)
    refine gr_ Try.func37 #[.agg #[.string ((rd_T59 l0 x5_1).f0), .slice A395_1 ((rd_T59 l0 x5_1).f1).length c395_1], .agg #[.string ((rd_T59 l1 x5_1).f0), .slice A396_1 ((rd_T59 l1 x5_1).f1).length c396_1]] (by rfl) ?_ rfl rfl rfl
    with_reducible refine (F37.calls k1 ((rd_T59 l0 x5_1).f0) _ _ ((rd_T59 l0 x5_1).f1) ((rd_T59 l1 x5_1).f0) _ _ ((rd_T59 l1 x5_1).f1) false _ ?s1 ?s2 ?s3 ?s4 A7.out).mono ?_
    (case s1 => exact au5_36)
    (case s2 => exact HC395_1.out)
    (case s3 => exact au5_37)
    (case s4 => exact HC396_1.out)
    rintro e w12 ⟨rfl, hb⟩
    refine ⟨_, rfl, ?_⟩
    replace HB := hs_ w hb
    (try clear hb)
    (try clear hb2)
    (try clear hk)
    (try clear hi)
    refine hK.out _ _ ⟨((HB.out.cell (World.block_lt_of_cell? _ _ hw395_0)).trans hw395_0), ((HB.out.cell (World.block_lt_of_cell? _ _ hw395_1)).trans hw395_1), ((HB.out.cell (World.block_lt_of_cell? _ _ hw396_0)).trans hw396_0), ((HB.out.cell (World.block_lt_of_cell? _ _ hw396_1)).trans hw396_1)⟩ (fun hHeld => ?_)
    clear hK K
    refine no_ 25 ?_
    refine pu_ 9 26 (bs 10 1023) HT_ ?_ rfl rfl
    refine done_ (done_of HT_.out (by kernel_rfl)) ?_
    try go_wp2
    go_ret
    exact ⟨au5_2, bl_⟩
   have H' := am_ H
   clear H
   try go_wp2
   replace HB := am_ (below_drew1 HB.out)
   have p395 : 0 ≤ (x5_1 : Int) := od_
   have q395 : x5_1 < (l0.length : Int) := od_
   obtain ⟨ad395, A395_1, c395_1, e395, hx395_0, hx395_1, hl395_1, hi395_1⟩ := at_T59 HR0.out x5_1 p395 q395
   have hw395_1 := hx395_1
   have hw395_0 := hx395_0
   cases e395
   replace hx395_0 := (HB.out.cell (World.block_lt_of_cell? _ _ hx395_0)).trans hx395_0
   replace hx395_1 := (HB.out.cell (World.block_lt_of_cell? _ _ hx395_1)).trans hx395_1
   have HR395_1 := am_ hi395_1
   have HC395_1 := am_ hl395_1
   clear hi395_1 hl395_1
   replace p395 := eq_true p395
   replace q395 := eq_true q395
   have p396 : 0 ≤ (x5_1 : Int) := od_
   have q396 : x5_1 < (l1.length : Int) := od_
   obtain ⟨ad396, A396_1, c396_1, e396, hx396_0, hx396_1, hl396_1, hi396_1⟩ := at_T59 HR1.out x5_1 p396 q396
   have hw396_1 := hx396_1
   have hw396_0 := hx396_0
   cases e396
   replace hx396_0 := (HB.out.cell (World.block_lt_of_cell? _ _ hx396_0)).trans hx396_0
   replace hx396_1 := (HB.out.cell (World.block_lt_of_cell? _ _ hx396_1)).trans hx396_1
   have HR396_1 := am_ hi396_1
   have HC396_1 := am_ hl396_1
   clear hi396_1 hl396_1
   replace p396 := eq_true p396
   replace q396 := eq_true q396
   refine start_ (n := 10) (S := fun w' => w'.cell? (ad395.add ((x5_1).toNat * 2)) = some (.string ((rd_T59 l0 x5_1).f0)) ∧ w'.cell? ⟨(ad395.add ((x5_1).toNat * 2)).block, (ad395.add ((x5_1).toNat * 2)).off + 1, none⟩ = some (.slice A395_1 ((rd_T59 l0 x5_1).f1).length c395_1) ∧ w'.cell? (ad396.add ((x5_1).toNat * 2)) = some (.string ((rd_T59 l1 x5_1).f0)) ∧ w'.cell? ⟨(ad396.add ((x5_1).toNat * 2)).block, (ad396.add ((x5_1).toNat * 2)).off + 1, none⟩ = some (.slice A396_1 ((rd_T59 l1 x5_1).f1).length c396_1)) (ds := []) (bs 10 0) (by kernel_rfl) rfl rfl ⟨((HB.out.cell (World.block_lt_of_cell? _ _ hw395_0)).trans hw395_0), ((HB.out.cell (World.block_lt_of_cell? _ _ hw395_1)).trans hw395_1), ((HB.out.cell (World.block_lt_of_cell? _ _ hw396_0)).trans hw396_0), ((HB.out.cell (World.block_lt_of_cell? _ _ hw396_1)).trans hw396_1)⟩ (fun hHeld => ?_); refine with_tabW F49.tab6 F49.bits6 (fun HT_ HW_ => ?_)
   generalize wr.drew = w9 at HB HR395_1 HR396_1 hx395_0 hx395_1 hx396_0 hx396_1 hHeld ⊢
   refine pu_ 0 17 (bs 10 1) HT_ ?_ rfl rfl
   refine pu_ 1 18 (bs 10 3) HT_ ?_ rfl rfl
   refine pu_ 2 19 (bs 10 7) HT_ ?_ rfl rfl
   refine pu_ 4 21 (bs 10 23) HT_ ?_ rfl rfl
   refine pu_ 5 22 (bs 10 55) HT_ ?_ rfl rfl
   refine pu_ 6 23 (bs 10 119) HT_ ?_ rfl rfl
   refine tk_ 3 20 (bs 10 127) HT_ HW_ hHeld au5_40 ?_ rfl rfl
   refine tk_ 7 24 (bs 10 255) HT_ HW_ hHeld au5_40 ?_ rfl rfl
   refine one_ (i := 8) (N := some 25) (bs 10 511) rfl rfl (one_of HT_.out (by kernel_rfl)) (by decide) (fun K hK => ?_)
   refine gr_ Try.func37 #[.agg #[.string ((rd_T59 l0 x5_1).f0), .slice A395_1 ((rd_T59 l0 x5_1).f1).length c395_1], .agg #[.string ((rd_T59 l1 x5_1).f0), .slice A396_1 ((rd_T59 l1 x5_1).f1).length c396_1]] (by rfl) ?_ rfl rfl rfl
   with_reducible refine (F37.calls k1 ((rd_T59 l0 x5_1).f0) _ _ ((rd_T59 l0 x5_1).f1) ((rd_T59 l1 x5_1).f0) _ _ ((rd_T59 l1 x5_1).f1) true _ ?s1 ?s2 ?s3 ?s4 A7.out).mono ?_
   (case s1 => exact au5_36)
   (case s2 => exact HC395_1.out)
   (case s3 => exact au5_37)
   (case s4 => exact HC396_1.out)
   rintro e w10 ⟨rfl, hb⟩
   refine ⟨_, rfl, ?_⟩
   replace HB := hs_ w hb
   (try clear hb)
   (try clear hb2)
   (try clear hk)
   (try clear hi)
   refine hK.out _ _ ⟨((HB.out.cell (World.block_lt_of_cell? _ _ hw395_0)).trans hw395_0), ((HB.out.cell (World.block_lt_of_cell? _ _ hw395_1)).trans hw395_1), ((HB.out.cell (World.block_lt_of_cell? _ _ hw396_0)).trans hw396_0), ((HB.out.cell (World.block_lt_of_cell? _ _ hw396_1)).trans hw396_1)⟩ (fun hHeld => ?_)
   clear hK K
   refine no_ 25 ?_
   refine pu_ 9 26 (bs 10 1023) HT_ ?_ rfl rfl
   refine done_ (done_of HT_.out (by kernel_rfl)) ?_
   try go_wp2
   go_roundg k1
   case measure => have := HK1.out; omega
   case rel => exact ⟨(wrap64 (x5_1 + 1)), er_, H', ⟨by have := HK1.out; omega⟩, ⟨bl_⟩⟩
/-! ### F52: function 52 -/
def F52.f (k : Nat) (l0_0 : List (S59)) (a0_1 : Int) (a0_2 : Int) (a0_3 : Int) (l1_0 : List (S59)) (a1_1 : Int) (a1_2 : Int) (a1_3 : Int) : Option (Bool) := (F49.f k l0_0 l1_0).bind fun t400 => (if t400 = true then (if a0_1 = a1_1 then (if a0_2 = a1_2 then (if a0_3 = a1_3 then (some true) else (some false)) else (some false)) else (some false)) else (some false))
theorem F52.mono : ∀ a0 a1 a2 a3 a4 a5 a6 a7 k, LeO (F52.f k a0 a1 a2 a3 a4 a5 a6 a7) (F52.f (k + 1) a0 a1 a2 a3 a4 a5 a6 a7) := by
 intro a0 a1 a2 a3 a4 a5 a6 a7 k
 unfold F52.f
 repeat' with_reducible first | exact F49.mono _ _ _ | exact LeO.refl _ | exact LeO.none _ | refine LeO.ite ?_ ?_ | refine LeO.bind ?_ (fun _ => ?_)
theorem F52.calls (k : Nat) (A0_0 : Option Addr) (c0_0 : Nat) (l0_0 : List (S59)) (a0_1 : Int) (a0_2 : Int) (a0_3 : Int) (A1_0 : Option Addr) (c1_0 : Nat) (l1_0 : List (S59)) (a1_1 : Int) (a1_2 : Int) (a1_3 : Int) (r : Bool) (w : World) (hr0_0 : Kd.C k59 w A0_0 l0_0.length l0_0) (hc0_0 : l0_0.length ≤ c0_0) (hr1_0 : Kd.C k59 w A1_0 l1_0.length l1_0) (hc1_0 : l1_0.length ≤ c1_0) (h : F52.f k l0_0 a0_1 a0_2 a0_3 l1_0 a1_1 a1_2 a1_3 = some r) :
  Calls Try.prog 52 #[.agg #[.slice A0_0 l0_0.length c0_0, .int .i64 a0_1, .int .i64 a0_2, .int .i64 a0_3], .agg #[.slice A1_0 l1_0.length c1_0, .int .i64 a1_1, .int .i64 a1_2, .int .i64 a1_3]] w fun e w' => e = .returned (.bool r) ∧ Below w.heap.size w w' := by
 have hu78 := Try.underlying78
 have HR0_0 := am_ hr0_0
 have HC0_0 := am_ hc0_0
 clear hr0_0 hc0_0
 have HR1_0 := am_ hr1_0
 have HC1_0 := am_ hc1_0
 clear hr1_0 hc1_0
 have HB := am_ (Below.refl w.heap.size w)
 have H : ((F49.f k l0_0 l1_0).bind fun t400 => (if t400 = true then (if a0_1 = a1_1 then (if a0_2 = a1_2 then (if a0_3 = a1_3 then (some true) else (some false)) else (some false)) else (some false)) else (some false))) = some r := h
 clear h
 replace H := bi_ H; rcases H with ⟨t400, A3, H⟩
 replace H := ib_ H; rcases H with ⟨rfl, H⟩ | ⟨rfl, H⟩
 rotate_left
 ·obtain rfl := Option.some.inj H
  go_enter Try.func52, Try.ntmps52
  go_wp2_with (first | ((with_reducible refine gate_dst (N := 2) rfl ?_); refine be_ 2 #[.slice A0_0 l0_0.length c0_0, .int .i64 a0_1, .int .i64 a0_2, .int .i64 a0_3] 78 ?_; intro gb398 hg w40 hbox hb; have BK398 := am_ (hbox); have GW398 := am_ (gw_ hg bl_); have GE398 := GW398; replace HB := hs_ w hb; clear hb hbox hg) | ((with_reducible refine gate_dst (N := 3) rfl ?_); refine be_ 3 #[.slice A1_0 l1_0.length c1_0, .int .i64 a1_1, .int .i64 a1_2, .int .i64 a1_3] 78 ?_; intro gb399 hg w41 hbox hb; have BK399 := am_ (hbox); have GW399 := am_ (gw_ hg bl_); have GE399 := GW399; replace HB := hs_ w hb; have NB398_399 := am_ (gn_ hg (blkl_ BK398)); have NB399_398 := am_ (gm_ hg (blkl_ BK398)); replace BK398 := bb_ BK398 hb; clear hb hbox hg; have hnb42 := NB398_399.out; have hnc42 := NB399_398.out; obtain ⟨hcz43_0, hcz43_1, hcz43_2, hcz43_3, hfz43_0, hfz43_1, hfz43_2, hfz43_3⟩ := cellsF4 BK398.out; obtain ⟨hcz44_0, hcz44_1, hcz44_2, hcz44_3, hfz44_0, hfz44_1, hfz44_2, hfz44_3⟩ := cellsF4 BK399.out) | ((with_reducible refine gate_callee (f := 49) rfl ?_); refine gl_ 9 Try.func49 #[.slice A0_0 l0_0.length c0_0, .slice A1_0 l1_0.length c1_0] ?_ rfl rfl rfl rfl; (with_reducible refine (F49.calls k _ _ l0_0 _ _ l1_0 false _ ?s1 ?s2 ?s3 ?s4 A3.out).mono ?_); (case s1 => exact au5_6); (case s2 => exact HC0_0.out); (case s3 => exact au5_9); (case s4 => exact HC1_0.out); rintro e w45 ⟨rfl, hb⟩; refine ⟨_, rfl, ?_⟩; replace BK398 := bb_ BK398 hb; replace BK399 := bb_ BK399 hb; replace HB := hs_ w hb; (try clear hb)))
  go_ret
  exact ⟨au5_2, bl_⟩

 by_cases c5 : a0_1 = a1_1
 rotate_left
 ·rw [if_neg c5] at H
  have c5b0 : (a0_1 == a1_1) = false := beq_eq_false_iff_ne.mpr c5
  have c5b1 : (a0_1 != a1_1) = true := bne_iff_ne.mpr c5
  obtain rfl := Option.some.inj H
  go_enter Try.func52, Try.ntmps52
  go_wp2_with (first | ((with_reducible refine gate_dst (N := 2) rfl ?_); refine be_ 2 #[.slice A0_0 l0_0.length c0_0, .int .i64 a0_1, .int .i64 a0_2, .int .i64 a0_3] 78 ?_; intro gb398 hg w32 hbox hb; have BK398 := am_ (hbox); have GW398 := am_ (gw_ hg bl_); have GE398 := GW398; replace HB := hs_ w hb; clear hb hbox hg) | ((with_reducible refine gate_dst (N := 3) rfl ?_); refine be_ 3 #[.slice A1_0 l1_0.length c1_0, .int .i64 a1_1, .int .i64 a1_2, .int .i64 a1_3] 78 ?_; intro gb399 hg w33 hbox hb; have BK399 := am_ (hbox); have GW399 := am_ (gw_ hg bl_); have GE399 := GW399; replace HB := hs_ w hb; have NB398_399 := am_ (gn_ hg (blkl_ BK398)); have NB399_398 := am_ (gm_ hg (blkl_ BK398)); replace BK398 := bb_ BK398 hb; clear hb hbox hg; have hnb34 := NB398_399.out; have hnc34 := NB399_398.out; obtain ⟨hcz35_0, hcz35_1, hcz35_2, hcz35_3, hfz35_0, hfz35_1, hfz35_2, hfz35_3⟩ := cellsF4 BK398.out; obtain ⟨hcz36_0, hcz36_1, hcz36_2, hcz36_3, hfz36_0, hfz36_1, hfz36_2, hfz36_3⟩ := cellsF4 BK399.out) | ((with_reducible refine gate_callee (f := 49) rfl ?_); refine gl_ 9 Try.func49 #[.slice A0_0 l0_0.length c0_0, .slice A1_0 l1_0.length c1_0] ?_ rfl rfl rfl rfl; (with_reducible refine (F49.calls k _ _ l0_0 _ _ l1_0 true _ ?s1 ?s2 ?s3 ?s4 A3.out).mono ?_); (case s1 => exact au5_6); (case s2 => exact HC0_0.out); (case s3 => exact au5_9); (case s4 => exact HC1_0.out); rintro e w37 ⟨rfl, hb⟩; refine ⟨_, rfl, ?_⟩; replace BK398 := bb_ BK398 hb; replace BK399 := bb_ BK399 hb; replace HB := hs_ w hb; (try clear hb); obtain ⟨hcz38_0, hcz38_1, hcz38_2, hcz38_3, hfz38_0, hfz38_1, hfz38_2, hfz38_3⟩ := cellsF4 BK398.out; obtain ⟨hcz39_0, hcz39_1, hcz39_2, hcz39_3, hfz39_0, hfz39_1, hfz39_2, hfz39_3⟩ := cellsF4 BK399.out))
  go_ret
  exact ⟨au5_2, bl_⟩
 rw [if_pos c5] at H
 have c5b0 : (a0_1 == a1_1) = true := beq_iff_eq.mpr c5
 have c5b1 : (a0_1 != a1_1) = false := bne_eq_false_iff_eq.mpr c5
 clear c5
 by_cases c6 : a0_2 = a1_2
 rotate_left
 ·rw [if_neg c6] at H
  have c6b0 : (a0_2 == a1_2) = false := beq_eq_false_iff_ne.mpr c6
  have c6b1 : (a0_2 != a1_2) = true := bne_iff_ne.mpr c6
  obtain rfl := Option.some.inj H
  go_enter Try.func52, Try.ntmps52
  go_wp2_with (first | ((with_reducible refine gate_dst (N := 2) rfl ?_); refine be_ 2 #[.slice A0_0 l0_0.length c0_0, .int .i64 a0_1, .int .i64 a0_2, .int .i64 a0_3] 78 ?_; intro gb398 hg w24 hbox hb; have BK398 := am_ (hbox); have GW398 := am_ (gw_ hg bl_); have GE398 := GW398; replace HB := hs_ w hb; clear hb hbox hg) | ((with_reducible refine gate_dst (N := 3) rfl ?_); refine be_ 3 #[.slice A1_0 l1_0.length c1_0, .int .i64 a1_1, .int .i64 a1_2, .int .i64 a1_3] 78 ?_; intro gb399 hg w25 hbox hb; have BK399 := am_ (hbox); have GW399 := am_ (gw_ hg bl_); have GE399 := GW399; replace HB := hs_ w hb; have NB398_399 := am_ (gn_ hg (blkl_ BK398)); have NB399_398 := am_ (gm_ hg (blkl_ BK398)); replace BK398 := bb_ BK398 hb; clear hb hbox hg; have hnb26 := NB398_399.out; have hnc26 := NB399_398.out; obtain ⟨hcz27_0, hcz27_1, hcz27_2, hcz27_3, hfz27_0, hfz27_1, hfz27_2, hfz27_3⟩ := cellsF4 BK398.out; obtain ⟨hcz28_0, hcz28_1, hcz28_2, hcz28_3, hfz28_0, hfz28_1, hfz28_2, hfz28_3⟩ := cellsF4 BK399.out) | ((with_reducible refine gate_callee (f := 49) rfl ?_); refine gl_ 9 Try.func49 #[.slice A0_0 l0_0.length c0_0, .slice A1_0 l1_0.length c1_0] ?_ rfl rfl rfl rfl; (with_reducible refine (F49.calls k _ _ l0_0 _ _ l1_0 true _ ?s1 ?s2 ?s3 ?s4 A3.out).mono ?_); (case s1 => exact au5_6); (case s2 => exact HC0_0.out); (case s3 => exact au5_9); (case s4 => exact HC1_0.out); rintro e w29 ⟨rfl, hb⟩; refine ⟨_, rfl, ?_⟩; replace BK398 := bb_ BK398 hb; replace BK399 := bb_ BK399 hb; replace HB := hs_ w hb; (try clear hb); obtain ⟨hcz30_0, hcz30_1, hcz30_2, hcz30_3, hfz30_0, hfz30_1, hfz30_2, hfz30_3⟩ := cellsF4 BK398.out; obtain ⟨hcz31_0, hcz31_1, hcz31_2, hcz31_3, hfz31_0, hfz31_1, hfz31_2, hfz31_3⟩ := cellsF4 BK399.out))
  go_ret
  exact ⟨au5_2, bl_⟩
 rw [if_pos c6] at H
 have c6b0 : (a0_2 == a1_2) = true := beq_iff_eq.mpr c6
 have c6b1 : (a0_2 != a1_2) = false := bne_eq_false_iff_eq.mpr c6
 clear c6
 by_cases c7 : a0_3 = a1_3
 rotate_left
 ·rw [if_neg c7] at H
  have c7b0 : (a0_3 == a1_3) = false := beq_eq_false_iff_ne.mpr c7
  have c7b1 : (a0_3 != a1_3) = true := bne_iff_ne.mpr c7
  obtain rfl := Option.some.inj H
  go_enter Try.func52, Try.ntmps52
  go_wp2_with (first | ((with_reducible refine gate_dst (N := 2) rfl ?_); refine be_ 2 #[.slice A0_0 l0_0.length c0_0, .int .i64 a0_1, .int .i64 a0_2, .int .i64 a0_3] 78 ?_; intro gb398 hg w16 hbox hb; have BK398 := am_ (hbox); have GW398 := am_ (gw_ hg bl_); have GE398 := GW398; replace HB := hs_ w hb; clear hb hbox hg) | ((with_reducible refine gate_dst (N := 3) rfl ?_); refine be_ 3 #[.slice A1_0 l1_0.length c1_0, .int .i64 a1_1, .int .i64 a1_2, .int .i64 a1_3] 78 ?_; intro gb399 hg w17 hbox hb; have BK399 := am_ (hbox); have GW399 := am_ (gw_ hg bl_); have GE399 := GW399; replace HB := hs_ w hb; have NB398_399 := am_ (gn_ hg (blkl_ BK398)); have NB399_398 := am_ (gm_ hg (blkl_ BK398)); replace BK398 := bb_ BK398 hb; clear hb hbox hg; have hnb18 := NB398_399.out; have hnc18 := NB399_398.out; obtain ⟨hcz19_0, hcz19_1, hcz19_2, hcz19_3, hfz19_0, hfz19_1, hfz19_2, hfz19_3⟩ := cellsF4 BK398.out; obtain ⟨hcz20_0, hcz20_1, hcz20_2, hcz20_3, hfz20_0, hfz20_1, hfz20_2, hfz20_3⟩ := cellsF4 BK399.out) | ((with_reducible refine gate_callee (f := 49) rfl ?_); refine gl_ 9 Try.func49 #[.slice A0_0 l0_0.length c0_0, .slice A1_0 l1_0.length c1_0] ?_ rfl rfl rfl rfl; (with_reducible refine (F49.calls k _ _ l0_0 _ _ l1_0 true _ ?s1 ?s2 ?s3 ?s4 A3.out).mono ?_); (case s1 => exact au5_6); (case s2 => exact HC0_0.out); (case s3 => exact au5_9); (case s4 => exact HC1_0.out); rintro e w21 ⟨rfl, hb⟩; refine ⟨_, rfl, ?_⟩; replace BK398 := bb_ BK398 hb; replace BK399 := bb_ BK399 hb; replace HB := hs_ w hb; (try clear hb); obtain ⟨hcz22_0, hcz22_1, hcz22_2, hcz22_3, hfz22_0, hfz22_1, hfz22_2, hfz22_3⟩ := cellsF4 BK398.out; obtain ⟨hcz23_0, hcz23_1, hcz23_2, hcz23_3, hfz23_0, hfz23_1, hfz23_2, hfz23_3⟩ := cellsF4 BK399.out))
  go_ret
  exact ⟨au5_2, bl_⟩
 rw [if_pos c7] at H
 have c7b0 : (a0_3 == a1_3) = true := beq_iff_eq.mpr c7
 have c7b1 : (a0_3 != a1_3) = false := bne_eq_false_iff_eq.mpr c7
 clear c7
 obtain rfl := Option.some.inj H
 go_enter Try.func52, Try.ntmps52
 go_wp2_with (first | ((with_reducible refine gate_dst (N := 2) rfl ?_); refine be_ 2 #[.slice A0_0 l0_0.length c0_0, .int .i64 a0_1, .int .i64 a0_2, .int .i64 a0_3] 78 ?_; intro gb398 hg w8 hbox hb; have BK398 := am_ (hbox); have GW398 := am_ (gw_ hg bl_); have GE398 := GW398; replace HB := hs_ w hb; clear hb hbox hg) | ((with_reducible refine gate_dst (N := 3) rfl ?_); refine be_ 3 #[.slice A1_0 l1_0.length c1_0, .int .i64 a1_1, .int .i64 a1_2, .int .i64 a1_3] 78 ?_; intro gb399 hg w9 hbox hb; have BK399 := am_ (hbox); have GW399 := am_ (gw_ hg bl_); have GE399 := GW399; replace HB := hs_ w hb; have NB398_399 := am_ (gn_ hg (blkl_ BK398)); have NB399_398 := am_ (gm_ hg (blkl_ BK398)); replace BK398 := bb_ BK398 hb; clear hb hbox hg; have hnb10 := NB398_399.out; have hnc10 := NB399_398.out; obtain ⟨hcz11_0, hcz11_1, hcz11_2, hcz11_3, hfz11_0, hfz11_1, hfz11_2, hfz11_3⟩ := cellsF4 BK398.out; obtain ⟨hcz12_0, hcz12_1, hcz12_2, hcz12_3, hfz12_0, hfz12_1, hfz12_2, hfz12_3⟩ := cellsF4 BK399.out) | ((with_reducible refine gate_callee (f := 49) rfl ?_); refine gl_ 9 Try.func49 #[.slice A0_0 l0_0.length c0_0, .slice A1_0 l1_0.length c1_0] ?_ rfl rfl rfl rfl; (with_reducible refine (F49.calls k _ _ l0_0 _ _ l1_0 true _ ?s1 ?s2 ?s3 ?s4 A3.out).mono ?_); (case s1 => exact au5_6); (case s2 => exact HC0_0.out); (case s3 => exact au5_9); (case s4 => exact HC1_0.out); rintro e w13 ⟨rfl, hb⟩; refine ⟨_, rfl, ?_⟩; replace BK398 := bb_ BK398 hb; replace BK399 := bb_ BK399 hb; replace HB := hs_ w hb; (try clear hb); obtain ⟨hcz14_0, hcz14_1, hcz14_2, hcz14_3, hfz14_0, hfz14_1, hfz14_2, hfz14_3⟩ := cellsF4 BK398.out; obtain ⟨hcz15_0, hcz15_1, hcz15_2, hcz15_3, hfz15_0, hfz15_1, hfz15_2, hfz15_3⟩ := cellsF4 BK399.out))
 go_ret
 exact ⟨au5_2, bl_⟩
/-! ### F70: function 70 -/
def F70.l0 : Nat → Int → ByteArray → Option (ByteArray)
  | 0, _, _ => none
  | k + 1, x0, x3 => if x0 > 0 then ((some (([(wrap64 (48 + (Int.tmod x0 10))) % 256] : List Int) : List Int)).bind fun y401 => (if (strOfNums y401).size + x3.size ≤ 9223372036854775807 then (F70.l0 k (wrap64 (Int.tdiv x0 10)) ((strOfNums y401) ++ x3)) else (none))) else (if 1 + x3.size ≤ 9223372036854775807 then (some ((⟨#[109]⟩ : ByteArray) ++ x3)) else (none))
def F70.f (k : Nat) (a0 : Int) : Option (ByteArray) := if a0 ≤ 0 then (some (⟨#[109, 48]⟩ : ByteArray)) else (F70.l0 k a0 (⟨#[]⟩ : ByteArray))
theorem F70.mono_l : ∀ k, (∀ y0 y1, LeO (F70.l0 k y0 y1) (F70.l0 (k + 1) y0 y1))
 | 0 => fun _ _ r h => by simp [F70.l0] at h
 | k + 1 => by
  have ih0 := F70.mono_l k
  intro y0 y1
  unfold F70.l0
  repeat' with_reducible first | exact ih0 _ _ | exact LeO.refl _ | exact LeO.none _ | refine LeO.ite ?_ ?_ | refine LeO.bind ?_ (fun _ => ?_)
theorem F70.mono : ∀ a0 k, LeO (F70.f k a0) (F70.f (k + 1) a0) := by
 intro a0 k
 have ih0 := F70.mono_l k
 unfold F70.f
 repeat' with_reducible first | exact ih0 _ _ | exact LeO.refl _ | exact LeO.none _ | refine LeO.ite ?_ ?_ | refine LeO.bind ?_ (fun _ => ?_)
theorem F70.calls (k : Nat) (a0 : Int) (r : ByteArray) (w : World) (h : F70.f k a0 = some r) :
  Calls Try.prog 70 #[.int .i64 a0] w fun e w' => e = .returned (.string r) ∧ Below w.heap.size w w' := by
 have HB := am_ (Below.refl w.heap.size w)
 have H : (if a0 ≤ 0 then (some (⟨#[109, 48]⟩ : ByteArray)) else (F70.l0 k a0 (⟨#[]⟩ : ByteArray))) = some r := h
 clear h
 replace H := it_ H; rcases H with ⟨c2b0, H⟩ | ⟨c2b0, H⟩
 ·obtain rfl := Option.some.inj H
  go_enter Try.func70, Try.ntmps70
  go_wp2
  go_ret
  exact ⟨au5_2, bl_⟩
 have H' := am_ H
 clear H
 go_enter Try.func70, Try.ntmps70
 go_wp2
 go_loopg [0, 3] k (fun kq v0 v3 w' => ∃ (x0_1 : Int) (x3_1 : ByteArray), v0 = .int .i64 x0_1 ∧ v3 = .string x3_1 ∧ Aside0 (F70.l0 kq x0_1 x3_1 = some r) ∧ Aside0 (kq ≤ k) ∧ Aside0 (Below w.heap.size w w'))
 case atStart => exact ⟨(a0), ((⟨#[]⟩ : ByteArray)), er_, er_, H', ⟨Nat.le_refl _⟩, ⟨bl_⟩⟩
 case round =>
  clear H'
  try clear c2b0
  obtain ⟨x0_1, x3_1, rfl, rfl, HA, HK1, HB⟩ := hrel
  cases gk with
  | zero => exact absurd HA.out (by simp [F70.l0])
  | succ k1 =>
   have H := HA.out
   clear HA
   simp only [F70.l0] at H
   replace H := it_ H; rcases H with ⟨(c3b0 : decide (0 < x0_1) = true), H⟩ | ⟨(c3b0 : decide (0 < x0_1) = false), H⟩
   rotate_left
   ·by_cases c8 : 1 + x3_1.size ≤ 9223372036854775807
    rotate_left
    ·rw [if_neg c8] at H
     exact absurd H (by simp)

    rw [if_pos c8] at H
    have c8b0 := eq_true c8
    have c8b1 : decide (1 + x3_1.size ≤ 9223372036854775807) = true := decide_eq_true c8
    try have c8b2 : (9223372036854775807 < 1 + x3_1.size) = False := eq_false (Nat.not_lt.2 c8)
    obtain rfl := Option.some.inj H
    go_wp2
    go_ret
    exact ⟨au5_2, bl_⟩
   obtain ⟨y401, hy401⟩ : ∃ y_ : List Int, y_ = (([(wrap64 (48 + (Int.tmod x0_1 10))) % 256] : List Int)) := ⟨_, rfl⟩
   replace H : (if (strOfNums y401).size + x3_1.size ≤ 9223372036854775807 then (F70.l0 k1 (wrap64 (Int.tdiv x0_1 10)) ((strOfNums y401) ++ x3_1)) else (none)) = some r := by first | (rw [hy401]; exact H) | exact H
   have Ny401 := am_ hy401
   clear hy401
   by_cases c4 : (strOfNums y401).size + x3_1.size ≤ 9223372036854775807
   rotate_left
   ·rw [if_neg c4] at H
    exact absurd H (by simp)
   rw [if_pos c4] at H
   have c4b0 := eq_true c4
   have c4b1 : decide ((strOfNums y401).size + x3_1.size ≤ 9223372036854775807) = true := decide_eq_true c4
   try have c4b2 : (9223372036854775807 < (strOfNums y401).size + x3_1.size) = False := eq_false (Nat.not_lt.2 c4)
   have H' := am_ H
   clear H
   go_wp2_with (first | ((with_reducible refine gate_dst (N := 12) rfl ?_); refine Kd.R_lit (Kd.int .u8) _ 5 ?hg (N := 12) ?hd (xs := ([(wrap64 (48 + (Int.tmod x0_1 10))) % 256] : List Int)) (inner := [.int .u8 ((wrap64 (48 + (Int.tmod x0_1 10))) % 256)]) (ok := fun _ => True) (okp := fun _ => True) ?hr ?hp (fun _ hk => hk) trivial (Below.refl _ _) (Nat.le_refl _) (by simp) ?_; (case hd => rfl); (case hg => rfl); (case hr => exact hr_); (case hp => exact (Reps.one (show Kd.M (Kd.int .u8) _ _ _ ((wrap64 (48 + (Int.tmod x0_1 10))) % 256) [.int .u8 ((wrap64 (48 + (Int.tmod x0_1 10))) % 256)] from rfl) (Reps.none _ _))); intro v402 w5 ho6 hb hg_ hnew_; clear hg_ hnew_; (first | rw [← Ny401.out] at ho6 | (simp only [Int.reduceToNat] at ho6; rw [← Ny401.out] at ho6)); have HO403 := am_ (Kd.R_lower ho6 (below_size bl_)); replace HB := hs_ w hb; clear hb ho6; have hcv7 := own_string (P := Try.prog) Try.underlying36 Try.underlying5 Try.underlying9 (Kd.own_of_R HO403.out)))
   go_roundg k1
   case measure => have := HK1.out; omega
   case rel => exact ⟨(wrap64 (Int.tdiv x0_1 10)), ((strOfNums y401) ++ x3_1), er_, er_, H', ⟨by have := HK1.out; omega⟩, ⟨bl_⟩⟩
/-! ### F28: function 28 -/
def F28.l0 : Nat → List ByteArray → Int → Int → Option (Int × List ByteArray)
  | 0, _, _, _ => none
  | k + 1, x0, x1, x5 => if x5 < (x0.length : Int) then ((F70.f k x1).bind fun t404 => (if 0 ≤ x5 then (F28.l0 k (x0.set (x5 : Int).toNat t404) (wrap64 (x1 + 1)) (wrap64 (x5 + 1))) else (none))) else (some (x1, x0))
def F28.f (k : Nat) (l0 : List ByteArray) (a1 : Int) : Option (Int × List ByteArray) := F28.l0 k l0 a1 0
theorem F28.mono_l : ∀ k, (∀ y0 y1 y2, LeO (F28.l0 k y0 y1 y2) (F28.l0 (k + 1) y0 y1 y2))
 | 0 => fun _ _ _ r h => by simp [F28.l0] at h
 | k + 1 => by
  have ih0 := F28.mono_l k
  intro y0 y1 y2
  unfold F28.l0
  repeat' with_reducible first | exact ih0 _ _ _ | exact F70.mono _ _ | exact LeO.refl _ | exact LeO.none _ | refine LeO.ite ?_ ?_ | refine LeO.bind ?_ (fun _ => ?_)
theorem F28.mono : ∀ a0 a1 k, LeO (F28.f k a0 a1) (F28.f (k + 1) a0 a1) := by
 intro a0 a1 k
 have ih0 := F28.mono_l k
 unfold F28.f
 repeat' with_reducible first | exact ih0 _ _ _ | exact F70.mono _ _ | exact LeO.refl _ | exact LeO.none _ | refine LeO.ite ?_ ?_ | refine LeO.bind ?_ (fun _ => ?_)
theorem F28.calls (k : Nat) (P0_ : Nat → Prop) (u9000_ : Value) (l0 : List ByteArray) (a1 : Int) (r1 : Int) (r2 : List ByteArray) (w0 w : World) (hB : Below w0.heap.size w0 w) (ho0 : Kd.R Kd.string 9 w w0.heap.size P0_ u9000_ l0) (h : F28.f k l0 a1 = some (r1, r2)) :
  Calls Try.prog 28 #[u9000_, .int .i64 a1] w fun e w' => e = .returned (.int .i64 r1) ∧ Kd.R Kd.string 9 w' w0.heap.size (fun k_ => (P0_ k_ ∨ w.heap.size ≤ k_)) u9000_ r2 ∧ Below w0.heap.size w0 w' ∧ Kept w w' (fun k_ => P0_ k_) := by
 have HO0 := am_ (show Kd.R Kd.string 9 w w0.heap.size (fun k_ => (P0_ k_ ∨ w.heap.size ≤ k_)) u9000_ l0 from Kd.R_mono ho0 (fun k_ hk => (.inl hk)))
 have HK := am_ (Kept.refl w (fun k_ => P0_ k_))
 have HW0 := am_ hB.size
 have HB := am_ hB
 clear hB
 have H : (F28.l0 k l0 a1 0) = some (r1, r2) := h
 clear h
 have H' := am_ H
 clear H
 go_enter Try.func28, Try.ntmps28
 go_wp2
 go_loopg [1, 5] k (fun kq v1 v5 w' => ∃ (x0_1 : List ByteArray) (x1_1 : Int) (x5_1 : Int), v1 = .int .i64 x1_1 ∧ v5 = .int .i64 x5_1 ∧ Aside0 (F28.l0 kq x0_1 x1_1 x5_1 = some (r1, r2)) ∧ Aside0 (kq ≤ k) ∧ Aside0 (Kd.R Kd.string 9 w' w0.heap.size (fun k_ => (P0_ k_ ∨ w.heap.size ≤ k_)) u9000_ x0_1) ∧ Aside0 (Kept w w' (fun k_ => P0_ k_)) ∧ Aside0 (Below w0.heap.size w0 w'))
 case atStart => exact ⟨(l0), (a1), (0), er_, er_, H', ⟨Nat.le_refl _⟩, ⟨rk_ HO0⟩, ⟨au5_7⟩, ⟨bl_⟩⟩
 case round =>
  clear H'
  obtain ⟨x0_1, x1_1, x5_1, rfl, rfl, HA, HK1, HO_0, HK, HB⟩ := hrel
  cases gk with
  | zero => exact absurd HA.out (by simp [F28.l0])
  | succ k1 =>
   have H := HA.out
   clear HA
   simp only [F28.l0] at H
   replace H := it_ H; rcases H with ⟨c3b0, H⟩ | ⟨c3b0, H⟩
   rotate_left
   ·simp only [Option.some.injEq, Prod.mk.injEq] at H
    obtain ⟨rfl, rfl⟩ := H
    obtain ⟨Ao11, co11, eo11⟩ := Kd.R_slice HO_0.out
    subst eo11
    go_wp2
    go_ret
    exact ⟨au5_2, rk_ HO_0, bl_, au5_7⟩

   replace H := bi_ H; rcases H with ⟨t404, A4, H⟩
   replace H := itn_ H; rcases H with ⟨c5b0, H⟩
   obtain ⟨y405, hy405⟩ : ∃ y_ : List ByteArray, y_ = (x0_1.set (x5_1 : Int).toNat t404) := ⟨_, rfl⟩
   replace H : (F28.l0 k1 y405 (wrap64 (x1_1 + 1)) (wrap64 (x5_1 + 1))) = some (r1, r2) := by first | (rw [hy405]; exact H) | exact H
   have Ny405 := am_ hy405
   clear hy405
   have H' := am_ H
   clear H
   obtain ⟨Ao7, co7, eo7⟩ := Kd.R_slice HO_0.out
   subst eo7
   go_wp2_with (first | ((with_reducible refine gate_callee (f := 70) rfl ?_); refine gl_ 15 Try.func70 #[.int .i64 x1_1] ?_ rfl rfl rfl rfl; (with_reducible refine (F70.calls k1 x1_1 t404 _ A4.out).mono ?_); rintro e w8 ⟨rfl, hb⟩; refine ⟨_, rfl, ?_⟩; replace HO_0 := am_ (Kd.R_below (rk_ HO_0) hb); replace HK := am_ (Kept.below (S := (fun k_ => P0_ k_)) au5_11 hb); replace HB := hs_ w0 hb; (try clear hb); (try clear hb2); (try clear hk); (try clear hi); have p6 : 0 ≤ (x5_1 : Int) := od_; have q6 : (x5_1 : Int) < ((x0_1.length : Int) : Int) := od_; obtain ⟨go6, co6, eo6, gb6, gl6, cl6, HG6⟩ := Kd.R_form HO_0.out (by omega); (first | cases eo6 | (injection eo6 with ea_ en_ ec_; (first | subst ea_ | (injection ea_ with ea_; subst ea_)); subst ec_; clear en_)); have GB6 := am_ gb6; have GG6 := am_ HG6; clear gb6 gl6 HG6; have HMgo6 := am_ (show (P0_ go6 ∨ w.heap.size ≤ go6) from (HO_0.out.1 _ rfl)); obtain ⟨hx6_0, hf6_0⟩ := Kd.R_celln (⟨#[]⟩ : ByteArray) HO_0.out (x5_1 : Int) p6 q6; replace p6 := eq_true p6; replace q6 := eq_true q6; obtain ⟨hy9_, hz9_⟩ := Kd.R_celln (⟨#[]⟩ : ByteArray) HO_0.out (x5_1 : Int) (of_decide_eq_true as_) (of_decide_eq_true as_); have HP9 := Kd.R_putg HO_0.out (x5_1 : Int) t404) | ((with_reducible refine gate_store (t := 9) (p := 16) rfl ?_); refine store_event (t := 9) (p := 16) (v := ?vo_w10) (w1 := (w8.setCell ⟨go6, (x5_1 : Int).toNat, none⟩ (.string t404))) ?hg ?ho ?hn ?hr ?_; (case ho => rfl); (case hg => rfl); (case hn => rfl); (case hr => exact hr_); intro w10 hw; have hg : w8.grownBy w10 (some go6) := (by rw [hw]; exact HP9.2); have hp_ : Kd.R Kd.string 9 w10 w0.heap.size (fun k_ => (P0_ k_ ∨ w.heap.size ≤ k_)) (.slice (some ⟨go6, 0, none⟩) x0_1.length co7) y405 := (by rw [hw, Ny405.out]; exact HP9.1); clear HP9; replace HB := am_ ((by rw [hw]; exact below_set (HB.out) GB6.out : Below w0.heap.size w0 w10)); replace HK := am_ (Kept.of_grown (S := (fun k_ => P0_ k_)) hg au5_11 (fun k_ e_ => (HO_0.out.1 k_ e_))); replace HO_0 := am_ (hp_); clear hg hw hp_))
   go_roundg k1
   case measure => have := HK1.out; omega
   case rel => exact ⟨(y405), (wrap64 (x1_1 + 1)), (wrap64 (x5_1 + 1)), er_, er_, H', ⟨by have := HK1.out; omega⟩, ⟨rk_ HO_0⟩, ⟨au5_7⟩, ⟨bl_⟩⟩
/-! ### F115: function 115 -/
def F115.l0 : Nat → List (S102) → Int → Int → Option (Int × List (S102))
  | 0, _, _, _ => none
  | k + 1, x0, x1, x5 => if x5 < (x0.length : Int) then (if 0 ≤ x5 then ((F28.f k (rd_T102 x0 x5).f0 x1).bind fun q => (F115.l0 k (x0.set (x5 : Int).toNat ⟨q.2⟩) q.1 (wrap64 (x5 + 1)))) else (none)) else (some (x1, x0))
def F115.f (k : Nat) (l0 : List (S102)) (a1 : Int) : Option (Int × List (S102)) := F115.l0 k l0 a1 0
theorem F115.mono_l : ∀ k, (∀ y0 y1 y2, LeO (F115.l0 k y0 y1 y2) (F115.l0 (k + 1) y0 y1 y2))
 | 0 => fun _ _ _ r h => by simp [F115.l0] at h
 | k + 1 => by
  have ih := F115.mono_l k
  intro y0 y1 y2
  unfold F115.l0
  exact LeO.ite (LeO.ite (LeO.bind (F28.mono _ _ _) (fun _ => ih _ _ _)) (LeO.none _)) (LeO.refl _)
theorem F115.mono : ∀ a0 a1 k, LeO (F115.f k a0 a1) (F115.f (k + 1) a0 a1) := fun a0 a1 k => F115.mono_l k a0 a1 0
theorem F115.calls (k : Nat) (P0_ : Nat → Prop) (u9000_ : Value) (l0 : List (S102)) (a1 : Int) (r1 : Int) (r2 : List (S102)) (w0 w : World) (hB : Below w0.heap.size w0 w) (ho0 : Kd.S k102 102 w w0.heap.size P0_ u9000_ l0) (h : F115.f k l0 a1 = some (r1, r2)) :
  Calls Try.prog 115 #[u9000_, .int .i64 a1] w fun e w' => e = .returned (.int .i64 r1) ∧ Kd.S k102 102 w' w0.heap.size (fun k_ => (P0_ k_ ∨ w.heap.size ≤ k_)) u9000_ r2 ∧ Below w0.heap.size w0 w' ∧ Kept w w' (fun k_ => P0_ k_) := by
 have hu57 := Try.underlying57
 have hu102 := Try.underlying102
 have HO0 := am_ (show Kd.S k102 102 w w0.heap.size (fun k_ => (P0_ k_ ∨ w.heap.size ≤ k_)) u9000_ l0 from Kd.S_mono ho0 (fun k_ hk => (.inl hk)))
 have HK := am_ (Kept.refl w (fun k_ => P0_ k_))
 have HB := am_ hB
 clear hB ho0
 have H' := am_ (show F115.l0 k l0 a1 0 = some (r1, r2) from h)
 clear h
 go_enter Try.func115, Try.ntmps115
 go_wp2
 go_loopg [1, 5] k (fun kq v1 v5 w' => ∃ (x0_1 : List (S102)) (x1_1 : Int) (x5_1 : Int), v1 = .int .i64 x1_1 ∧ v5 = .int .i64 x5_1 ∧ Aside0 (F115.l0 kq x0_1 x1_1 x5_1 = some (r1, r2)) ∧ Aside0 (kq ≤ k) ∧ Aside0 (Kd.S k102 102 w' w0.heap.size (fun k_ => (P0_ k_ ∨ w.heap.size ≤ k_)) u9000_ x0_1) ∧ Aside0 (Kept w w' (fun k_ => P0_ k_)) ∧ Aside0 (Below w0.heap.size w0 w'))
 case atStart => exact ⟨(l0), (a1), (0), er_, er_, H', ⟨Nat.le_refl _⟩, ⟨au5_43⟩, ⟨au5_7⟩, ⟨bl_⟩⟩
 case round =>
  clear H'
  obtain ⟨x0_1, x1_1, x5_1, rfl, rfl, HA, HK1, HO_0, HK, HB⟩ := hrel
  cases gk with
  | zero => exact absurd HA.out (by simp [F115.l0])
  | succ k1 =>
   have H := HA.out
   clear HA
   simp only [F115.l0] at H
   by_cases c3 : x5_1 < (x0_1.length : Int)
   rotate_left
   ·rw [if_neg c3] at H
    have c3b0 : decide (x5_1 < (x0_1.length : Int)) = false := decide_eq_false c3
    clear c3
    simp only [Option.some.injEq, Prod.mk.injEq] at H
    obtain ⟨rfl, rfl⟩ := H
    obtain ⟨Ao11, co11, eo11⟩ := Kd.S_slice HO_0.out
    subst eo11
    go_wp2
    go_ret
    exact ⟨au5_2, au5_34, bl_, au5_7⟩

   rw [if_pos c3] at H
   by_cases c4 : 0 ≤ x5_1
   rotate_left
   ·rw [if_neg c4] at H
    exact absurd H (by simp)
   rw [if_pos c4] at H
   replace H := bi_ H; rcases H with ⟨⟨t1, t2⟩, A5, H⟩
   have H' := am_ (show F115.l0 k1 (x0_1.set (x5_1 : Int).toNat ⟨t2⟩) t1 (wrap64 (x5_1 + 1)) = some (r1, r2) from H)
   clear H
   obtain ⟨Ao, co, eo⟩ := Kd.S_slice HO_0.out
   subst eo
   obtain ⟨ad, A7, c7, e7, hx7, hl7, hi7⟩ := at_T102 (Kd.S_reads' HO_0.out).2.2 x5_1 c4 c3
   cases e7
   obtain ⟨g7, hg7⟩ : ∃ g, ad = ⟨g, 0, none⟩ := Kd.R_head (Kd.S_R HO_0.out)
   have hS := HO_0.out
   rw [hg7] at hS
   obtain ⟨oki, ce, hcl, hM, hcc, hoki, hH⟩ := Kd.S_lend hS z102 x5_1 c4 c3
   obtain ⟨v0, rfl, hR⟩ := k102_openM hM
   have hv0 : v0 = .slice A7 ((rd_T102 x0_1 x5_1).f0).length c7 := by
    have h1 := hcc 0 v0 rfl
    rw [show (k102).sz = 1 from rfl, Nat.mul_one, Nat.add_zero] at h1
    have h2 := hx7
    rw [hg7, add_at, Nat.zero_add] at h2
    exact Option.some.inj (h1.symm.trans h2)
   subst hv0
   have HRi := am_ (show Kd.R Kd.string 9 wr w0.heap.size oki (.slice A7 ((rd_T102 x0_1 x5_1).f0).length c7) ((rd_T102 x0_1 x5_1).f0) from hR)
   have HH := am_ hH
   have HG := am_ hg7
   have HKI := am_ hoki
   clear hR hH hg7 hoki hM hcc hcl hS hi7 hl7
   have c3b0 : decide (x5_1 < (x0_1.length : Int)) = true := decide_eq_true c3
   have c4b0 : decide (0 ≤ x5_1) = true := decide_eq_true c4
   have p7 := eq_true c4
   have q7 := eq_true c3
   clear c3 c4
   go_wp2_with (first | ((with_reducible refine gate_callee (f := 28) rfl ?_); refine gl_ 18 Try.func28 #[.slice A7 ((rd_T102 x0_1 x5_1).f0).length c7, .int .i64 x1_1] ?_ rfl rfl rfl rfl; (with_reducible refine (F28.calls k1 oki _ ((rd_T102 x0_1 x5_1).f0) x1_1 t1 t2 w0 _ ?s1 ?s2 A5.out).mono ?_); (case s1 => exact au5_42); (case s2 => (with_reducible repeat (first | apply Kd.R_alloc | apply Kd.R_drewN | apply Kd.R_drew)); exact HRi.out); rintro e w8 ⟨rfl, ho, hb, hk⟩; refine ⟨_, rfl, ?_⟩; replace HO_0 : Aside0 (Kd.S k102 102 w8 w0.heap.size (fun k_ => (P0_ k_ ∨ w.heap.size ≤ k_)) (.slice (some ad) x0_1.length co) (x0_1.set (x5_1 : Int).toNat (⟨t2⟩ : S102))) := ⟨by rw [HG.out]; exact Kd.H_back (Kd.H_step (by (with_reducible repeat (first | apply Kd.H_alloc | apply Kd.H_drewN | apply Kd.H_drew)); exact HH.out) (fun k_ _ hn hlt => hk.2 k_ hlt hn)) (k102_mkM _ _ _ (⟨t2⟩ : S102) (Kd.R_tight rfl ho)) (fun k_ he => HRi.out.1 k_ he.symm)⟩; replace HK := am_ (Kept.then_ (S := (fun k_ => P0_ k_)) au5_11 hk (fun k_ h_ => (HKI.out k_ h_).1)); replace HB := am_ hb; clear hb hk ho HH HRi))
   go_roundg k1
   case measure => have := HK1.out; omega
   case rel => exact ⟨(x0_1.set (x5_1 : Int).toNat ⟨t2⟩), t1, (wrap64 (x5_1 + 1)), er_, er_, H', ⟨by have := HK1.out; omega⟩, ⟨au5_34⟩, ⟨au5_7⟩, ⟨bl_⟩⟩
/-! ### F95: function 95 -/
theorem F95.cellsS_ {w : World} {base g n cap : Nat} {ok : Nat → Prop} {xs : List S59} {i : Int} (h : Kd.S k59 59 w base ok (.slice (some ⟨g, 0, none⟩) n cap) xs) (h0 : 0 ≤ i) (h1 : i < (xs.length : Int)) :
  (w.cell? ⟨g, i.toNat * 2, none⟩ = some (.string (rd_T59 xs i).f0)) ∧ w.frozen? ⟨g, i.toNat * 2, none⟩ = false := by
 have hn : n = xs.length := (Kd.S_reads' h).1
 obtain ⟨oki, c, hcl, hM, hcc, hfr, hoki, hH⟩ := Kd.S_elem h z59 i h0 (by omega)
 obtain ⟨v1, rfl, hR⟩ := k59_openM hM
 exact ⟨hcc 0 _ rfl, hfr 0⟩
theorem F95.putS_ {w : World} {base g n cap : Nat} {ok : Nat → Prop} {xs : List S59} {i : Int} (h : Kd.S k59 59 w base ok (.slice (some ⟨g, 0, none⟩) n cap) xs) (h0 : 0 ≤ i) (h1 : i < (xs.length : Int)) (t : ByteArray) :
  Kd.S k59 59 (w.setCell ⟨g, i.toNat * 2, none⟩ (.string t)) base ok (.slice (some ⟨g, 0, none⟩) n cap) (xs.set i.toNat ⟨t, (rd_T59 xs i).f1⟩) ∧ w.grownBy (w.setCell ⟨g, i.toNat * 2, none⟩ (.string t)) (some g) := by
 have hn : n = xs.length := (Kd.S_reads' h).1
 obtain ⟨oki, c, hcl, hM, hcc, hoki, hH⟩ := Kd.S_lend h z59 i h0 (by omega)
 obtain ⟨v1, rfl, hR⟩ := k59_openM hM
 obtain ⟨h2, h3⟩ := Kd.H_seg hH h0 (by omega) (seg := [.string t]) (j := 0) (by show 0 + 1 ≤ 2; omega) (by simp [Value.oneCell'])
 have e : w.setCells g (i.toNat * k59.sz + 0) [.string t] = w.setCell ⟨g, i.toNat * 2, none⟩ (.string t) := rfl
 rw [e] at h2 h3
 refine ⟨Kd.H_back h2 (k59_mkM _ _ oki (⟨t, (rd_T59 xs i).f1⟩ : S59) (Kd.S_step hR (fun k hk hlt => ?_))) (fun _ hk => hk), h3⟩
 exact h3.block k hlt (fun he => (hoki k hk).2 (by injection he))
theorem F95.gets_ {xs : List S59} {i : Int} {x : S59} (h0 : 0 ≤ i) (h1 : i < (xs.length : Int)) : (xs.set i.toNat x).getD i.toNat z59 = x := by
 rw [List.getD_eq_getElem?_getD, List.getElem?_set_self (by omega)]
 rfl
theorem F95.backS_ {w w1 : World} {base b g n cap : Nat} {P0 oki : Nat → Prop} {xs : List S59} {i : Int} {t : ByteArray} {f1 t2 : List S102} {v1 : Value}
  (hH : Kd.H k59 59 w base (fun k_ => (P0 k_ ∨ b ≤ k_)) (.slice (some ⟨g, 0, none⟩) n cap) (xs.set i.toNat ⟨t, f1⟩) i oki [.string t, v1])
  (ho : Kd.S k102 102 w1 base (fun k_ => (oki k_ ∨ w.heap.size ≤ k_)) v1 t2) (hk : Kept w w1 oki) (hb : b ≤ w.heap.size) :
  Kd.S k59 59 w1 base (fun k_ => (P0 k_ ∨ b ≤ k_)) (.slice (some ⟨g, 0, none⟩) n cap) (xs.set i.toNat ⟨t, t2⟩) := by
 have h := Kd.H_back (Kd.H_step (Kd.H_widen hH) (fun k _ hn hlt => hk.2 k hlt (fun h => hn (.inl h)))) (k59_mkM _ _ _ (⟨t, t2⟩ : S59) ho) (fun k h_ => h_.elim (fun a => .inl a) (fun c => .inr ⟨.inr (Nat.le_trans hb c), c⟩))
 rwa [List.set_set] at h
def F95.l0 : Nat → List S59 → Int → Int → Option (Int × List S59)
  | 0, _, _, _ => none
  | k + 1, x0, x1, x5 => if x5 < (x0.length : Int) then (if 0 ≤ x5 then ((F70.f k x1).bind fun t => (F115.f k (rd_T59 x0 x5).f1 (wrap64 (x1 + 1))).bind fun q => (F95.l0 k (x0.set (x5 : Int).toNat ⟨t, q.2⟩) q.1 (wrap64 (x5 + 1)))) else (none)) else (some (x1, x0))
def F95.f (k : Nat) (l0 : List S59) (a1 : Int) : Option (Int × List S59) := F95.l0 k l0 a1 0
theorem F95.mono_l : ∀ k, (∀ y0 y1 y2, LeO (F95.l0 k y0 y1 y2) (F95.l0 (k + 1) y0 y1 y2))
 | 0 => fun _ _ _ r h => by simp [F95.l0] at h
 | k + 1 => by
  have ih := F95.mono_l k
  intro y0 y1 y2
  unfold F95.l0
  exact LeO.ite (LeO.ite (LeO.bind (F70.mono _ _) (fun _ => LeO.bind (F115.mono _ _ _) (fun _ => ih _ _ _))) (LeO.none _)) (LeO.refl _)
theorem F95.mono : ∀ a0 a1 k, LeO (F95.f k a0 a1) (F95.f (k + 1) a0 a1) := fun a0 a1 k => F95.mono_l k a0 a1 0
theorem F95.calls (k : Nat) (P0_ : Nat → Prop) (u9000_ : Value) (l0 : List S59) (a1 : Int) (r1 : Int) (r2 : List S59) (w0 w : World) (hB : Below w0.heap.size w0 w) (ho0 : Kd.S k59 59 w w0.heap.size P0_ u9000_ l0) (h : F95.f k l0 a1 = some (r1, r2)) :
  Calls Try.prog 95 #[u9000_, .int .i64 a1] w fun e w' => e = .returned (.int .i64 r1) ∧ Kd.S k59 59 w' w0.heap.size (fun k_ => (P0_ k_ ∨ w.heap.size ≤ k_)) u9000_ r2 ∧ Below w0.heap.size w0 w' ∧ Kept w w' (fun k_ => P0_ k_) := by
 have hu73 := Try.underlying73
 have hu59 := Try.underlying59
 have HO0 := am_ (show Kd.S k59 59 w w0.heap.size (fun k_ => (P0_ k_ ∨ w.heap.size ≤ k_)) u9000_ l0 from Kd.S_mono ho0 (fun k_ hk => (.inl hk)))
 have HK := am_ (Kept.refl w (fun k_ => P0_ k_))
 have HB := am_ hB
 have HW := am_ (Nat.le_refl w.heap.size)
 clear hB ho0
 have H' := am_ (show F95.l0 k l0 a1 0 = some (r1, r2) from h)
 clear h
 go_enter Try.func95, Try.ntmps95
 go_wp2
 go_loopg [1, 5] k (fun kq v1 v5 w' => ∃ (x0_1 : List S59) (x1_1 : Int) (x5_1 : Int), v1 = .int .i64 x1_1 ∧ v5 = .int .i64 x5_1 ∧ Aside0 (F95.l0 kq x0_1 x1_1 x5_1 = some (r1, r2)) ∧ Aside0 (kq ≤ k) ∧ Aside0 (Kd.S k59 59 w' w0.heap.size (fun k_ => (P0_ k_ ∨ w.heap.size ≤ k_)) u9000_ x0_1) ∧ Aside0 (Kept w w' (fun k_ => P0_ k_)) ∧ Aside0 (Below w0.heap.size w0 w') ∧ Aside0 (w.heap.size ≤ w'.heap.size))
 case atStart => exact ⟨(l0), (a1), (0), er_, er_, H', ⟨Nat.le_refl _⟩, ⟨au5_43⟩, ⟨au5_7⟩, ⟨bl_⟩, ⟨HW.out⟩⟩
 case round =>
  clear H'
  obtain ⟨x0_1, x1_1, x5_1, rfl, rfl, HA, HK1, HO_0, HK, HB, HW⟩ := hrel
  cases gk with
  | zero => exact absurd HA.out (by simp [F95.l0])
  | succ k1 =>
   have H := HA.out
   clear HA
   simp only [F95.l0] at H
   by_cases c3 : x5_1 < (x0_1.length : Int)
   rotate_left
   ·rw [if_neg c3] at H
    have c3b0 : decide (x5_1 < (x0_1.length : Int)) = false := decide_eq_false c3
    clear c3
    simp only [Option.some.injEq, Prod.mk.injEq] at H
    obtain ⟨rfl, rfl⟩ := H
    obtain ⟨Ao11, co11, eo11⟩ := Kd.S_slice HO_0.out
    subst eo11
    go_wp2
    go_ret
    exact ⟨au5_2, au5_34, bl_, au5_7⟩

   rw [if_pos c3] at H
   by_cases c4 : 0 ≤ x5_1
   rotate_left
   ·rw [if_neg c4] at H
    exact absurd H (by simp)
   rw [if_pos c4] at H
   replace H := bi_ H; rcases H with ⟨t, A5, H⟩
   replace H := bi_ H; rcases H with ⟨⟨t1, t2⟩, A6, H⟩
   have H' := am_ (show F95.l0 k1 (x0_1.set (x5_1 : Int).toNat ⟨t, t2⟩) t1 (wrap64 (x5_1 + 1)) = some (r1, r2) from H)
   clear H
   obtain ⟨Ao, co, eo⟩ := Kd.S_slice HO_0.out
   subst eo
   obtain ⟨ad, A7, c7, e7, hx7, hy7, hl7, hi7⟩ := at_T59 ((Kd.S_reads' HO_0.out).2.2) x5_1 c4 c3
   cases e7
   obtain ⟨g7, hg7⟩ : ∃ g, ad = ⟨g, 0, none⟩ := Kd.R_head (Kd.S_R HO_0.out)
   subst hg7
   clear hx7 hy7 hl7 hi7
   have c3b0 : decide (x5_1 < (x0_1.length : Int)) = true := decide_eq_true c3
   have c4b0 : decide (0 ≤ x5_1) = true := decide_eq_true c4
   have C3 := am_ c3
   have C4 := am_ c4
   have p7 := eq_true c4
   have q7 := eq_true c3
   clear c3 c4
   go_wp2_with (first | ((with_reducible refine gate_callee (f := 70) rfl ?_); refine gl_ 15 Try.func70 #[.int .i64 x1_1] ?_ rfl rfl rfl rfl; (with_reducible refine (F70.calls k1 x1_1 t _ A5.out).mono ?_); rintro e w8 ⟨rfl, hb⟩; refine ⟨_, rfl, ?_⟩; have n0_ := am_ (Kd.S_below (by (with_reducible repeat (first | apply Kd.S_alloc | apply Kd.S_drewN | apply Kd.S_drew)); exact HO_0.out) hb); have n1_ := am_ (Kept.below (S := (fun k_ => P0_ k_)) au5_11 hb); have n2_ := am_ (below_step bl_ hb); have n3_ := am_ (Nat.le_trans HW.out hb.size); clear HO_0 HK HB HW hb; have HO_0 := n0_; have HK := n1_; have HB := n2_; have HW := n3_; clear n0_ n1_ n2_ n3_; obtain ⟨hsc0, hsf0⟩ := F95.cellsS_ HO_0.out C4.out C3.out; have HP := F95.putS_ HO_0.out C4.out C3.out t) | ((with_reducible refine gate_store (t := 9) (p := 17) rfl ?_); refine store_event (t := 9) (p := 17) (v := ?vo_w10) (w1 := (w8.setCell ⟨g7, (x5_1 : Int).toNat * 2, none⟩ (.string t))) ?hg ?ho ?hn ?hr ?_; (case ho => rfl); (case hg => rfl); (case hn => rfl); (case hr => exact hr_); intro w10 hw; have hg : w8.grownBy w10 (some g7) := (by rw [hw]; exact HP.2); have n0_ := am_ (show Kd.S k59 59 w10 w0.heap.size (fun k_ => (P0_ k_ ∨ w.heap.size ≤ k_)) (.slice (some ⟨g7, 0, none⟩) x0_1.length co) (x0_1.set (x5_1 : Int).toNat ⟨t, (rd_T59 x0_1 x5_1).f1⟩) from by rw [hw]; exact HP.1); have n1_ := am_ (Kept.of_grown (S := (fun k_ => P0_ k_)) hg (by exact HK.out) (fun k_ e_ => (Kd.S_R HO_0.out).1 k_ (by simpa [Value.ownBlock] using e_))); have n2_ := am_ (show Below w0.heap.size w0 w10 from by rw [hw]; exact below_set HB.out (Kd.S_base HO_0.out g7 rfl)); have n3_ := am_ (Nat.le_trans HW.out hg.size); clear HO_0 HK HB HW HP hw hg hsc0 hsf0; have HO_0 := n0_; have HK := n1_; have HB := n2_; have HW := n3_; clear n0_ n1_ n2_ n3_; obtain ⟨oki, ce, hcl, hM, hcc, hfr, hoki, hH⟩ := Kd.S_elem HO_0.out z59 x5_1 C4.out C3.out; rw [F95.gets_ C4.out C3.out] at hM; obtain ⟨v1, rfl, hR⟩ := k59_openM hM; obtain ⟨A1, c1, rfl⟩ := Kd.S_slice hR; have hl1 : w10.cell? ⟨g7, (x5_1 : Int).toNat * 2 + 1, none⟩ = some (.slice A1 (rd_T59 x0_1 x5_1).f1.length c1) := hcc 1 _ rfl; have hf1 : w10.frozen? ⟨g7, (x5_1 : Int).toNat * 2 + 1, none⟩ = false := hfr 1; have HR := am_ hR; have HH := am_ hH; have HKI := am_ hoki; clear hcl hM hcc hfr hoki hR hH HO_0) | ((with_reducible refine gate_callee (f := 115) rfl ?_); refine gl_ 26 Try.func115 #[.slice A1 (rd_T59 x0_1 x5_1).f1.length c1, .int .i64 (wrap64 (x1_1 + 1))] ?_ rfl rfl rfl rfl; (with_reducible refine (F115.calls k1 oki (.slice A1 (rd_T59 x0_1 x5_1).f1.length c1) ((rd_T59 x0_1 x5_1).f1) (wrap64 (x1_1 + 1)) t1 t2 w0 _ ?s1 ?s2 A6.out).mono ?_); (case s1 => exact au5_42); (case s2 => (with_reducible repeat (first | apply Kd.S_alloc | apply Kd.S_drewN | apply Kd.S_drew)); exact HR.out); rintro e w12 ⟨rfl, ho, hb, hk⟩; refine ⟨_, rfl, ?_⟩; have n0_ := am_ (show Kd.S k59 59 w12 w0.heap.size (fun k_ => (P0_ k_ ∨ w.heap.size ≤ k_)) (.slice (some ⟨g7, 0, none⟩) x0_1.length co) (x0_1.set (x5_1 : Int).toNat ⟨t, t2⟩) from F95.backS_ HH.out ho hk HW.out); have n1_ := am_ (Kept.then_ (S := (fun k_ => P0_ k_)) au5_11 hk (fun k_ h_ => (HKI.out k_ h_).1)); have n2_ := am_ hb; have n3_ := am_ (Nat.le_trans HW.out hk.1); clear HK HB HW HR HH hb hk ho; have HO_0 := n0_; have HK := n1_; have HB := n2_; have HW := n3_; clear n0_ n1_ n2_ n3_))
   go_roundg k1
   case measure => have := HK1.out; omega
   case rel => exact ⟨(x0_1.set (x5_1 : Int).toNat ⟨t, t2⟩), t1, (wrap64 (x5_1 + 1)), er_, er_, H', ⟨by have := HK1.out; omega⟩, ⟨au5_34⟩, ⟨au5_7⟩, ⟨bl_⟩, ⟨HW.out⟩⟩
/-! ### F53: function 53 -/
def F53.f (k : Nat) (l0_0 : List (S59)) (a0_1 : Int) (a0_2 : Int) (a0_3 : Int) (a1 : Int) : Option (Int × List (S59)) := F95.f k l0_0 a1
theorem F53.mono : ∀ a0 a1 a2 a3 a4 k, LeO (F53.f k a0 a1 a2 a3 a4) (F53.f (k + 1) a0 a1 a2 a3 a4) := fun a0 _ _ _ a4 k => F95.mono a0 a4 k
theorem F53.calls (k : Nat) (P0_0_ : Nat → Prop) (u9000_ : Value) (l0_0 : List (S59)) (a0_1 : Int) (a0_2 : Int) (a0_3 : Int) (a1 : Int) (r1 : Int) (r2 : List (S59)) (w0 w : World) (hB : Below w0.heap.size w0 w) (ho0_0 : Kd.S k59 59 w w0.heap.size P0_0_ u9000_ l0_0) (h : F53.f k l0_0 a0_1 a0_2 a0_3 a1 = some (r1, r2)) :
  Calls Try.prog 53 #[.agg #[u9000_, .int .i64 a0_1, .int .i64 a0_2, .int .i64 a0_3], .int .i64 a1] w fun e w' => e = .returned (.int .i64 r1) ∧ Kd.S k59 59 w' w0.heap.size (fun k_ => (P0_0_ k_ ∨ w.heap.size ≤ k_)) u9000_ r2 ∧ Below w0.heap.size w0 w' ∧ Kept w w' (fun k_ => P0_0_ k_) := by
 have hu78 := Try.underlying78
 have HO := am_ ho0_0
 have HB := am_ hB
 have HH := am_ (show F95.f k l0_0 a1 = some (r1, r2) from h)
 clear hB ho0_0 h
 obtain ⟨Ao4, co4, eo4⟩ := Kd.S_slice HO.out
 subst eo4
 go_enter Try.func53, Try.ntmps53
 go_wp2_with (first | ((with_reducible refine gate_dst (N := 2) rfl ?_); refine be_ 2 #[.slice Ao4 l0_0.length co4, .int .i64 a0_1, .int .i64 a0_2, .int .i64 a0_3] 78 ?_; intro gb hg w5 hbox hb; have BK := am_ hbox; have HZ := am_ hb.size; have HO5 := am_ (Kd.S_below HO.out hb); have HK5 := am_ (Kept.of_below hb (fun k_ => P0_0_ k_)); have HB5 := am_ (below_step HB.out hb); clear hb hbox hg; obtain ⟨hcz_0, hcz_1, hcz_2, hcz_3, hfz_0, hfz_1, hfz_2, hfz_3⟩ := cellsF4 BK.out) | ((with_reducible refine gate_callee (f := 95) rfl ?_); refine gl_ 8 Try.func95 #[.slice Ao4 l0_0.length co4, .int .i64 a1] ?_ rfl rfl rfl rfl; (with_reducible refine (F95.calls k P0_0_ (.slice Ao4 l0_0.length co4) l0_0 a1 r1 r2 w0 _ ?s1 ?s2 HH.out).mono ?_); (case s1 => repeat (first | (with_reducible first | exact HB5.out | apply below_alloc | apply pw_below_drewN | apply below_drew1) | exact HB5.out)); (case s2 => (with_reducible repeat (first | apply Kd.S_alloc | apply Kd.S_drewN | apply Kd.S_drew)); exact HO5.out); rintro e w7 ⟨rfl, ho, hb, hk⟩; refine ⟨_, rfl, ?_⟩; have HO7 := am_ (Kd.S_mono ho (fun k_ h_ => h_.elim (fun a_ => Or.inl a_) (fun b_ => Or.inr (Nat.le_trans HZ.out b_))) : Kd.S k59 59 w7 w0.heap.size (fun k_ => (P0_0_ k_ ∨ w.heap.size ≤ k_)) (.slice Ao4 l0_0.length co4) r2); have HB7 := am_ hb; have HK7 := am_ (Kept.then_ HK5.out hk (fun k_ h_ => Or.inl h_)); clear ho hb hk))
 go_ret
 exact ⟨by first | rfl | (simp; done), by (with_reducible repeat (first | apply Kd.S_alloc | apply Kd.S_drewN | apply Kd.S_drew)); exact HO7.out, by repeat (first | (with_reducible first | exact HB7.out | apply below_alloc | apply pw_below_drewN | apply below_drew1) | exact HB7.out), by repeat (first | (with_reducible first | exact HK7.out | apply Kept.alloc | apply Kept.drewN | apply Kept.drew) | exact HK7.out)⟩

/-! ### F29: function 29 -/
def F29.l0 : Nat → List ByteArray → Int → Int → Option (Int)
  | 0, _, _, _ => none
  | k + 1, x0, x1, x5 => if x5 < (x0.length : Int) then (if 0 ≤ x5 then ((F70.f k x1).bind fun t407 => (if (rdOf ByteArray.empty x0 x5).toList = t407.toList then (F29.l0 k x0 (wrap64 (x1 + 1)) (wrap64 (x5 + 1))) else (some (-1)))) else (none)) else (some x1)
def F29.f (k : Nat) (l0 : List ByteArray) (a1 : Int) : Option (Int) := F29.l0 k l0 a1 0
theorem F29.mono_l : ∀ k, (∀ y0 y1 y2, LeO (F29.l0 k y0 y1 y2) (F29.l0 (k + 1) y0 y1 y2))
 | 0 => fun _ _ _ r h => by simp [F29.l0] at h
 | k + 1 => by
  have ih0 := F29.mono_l k
  intro y0 y1 y2
  unfold F29.l0
  repeat' with_reducible first | exact ih0 _ _ _ | exact F70.mono _ _ | exact LeO.refl _ | exact LeO.none _ | refine LeO.ite ?_ ?_ | refine LeO.bind ?_ (fun _ => ?_)
theorem F29.mono : ∀ a0 a1 k, LeO (F29.f k a0 a1) (F29.f (k + 1) a0 a1) := by
 intro a0 a1 k
 have ih0 := F29.mono_l k
 unfold F29.f
 repeat' with_reducible first | exact ih0 _ _ _ | exact F70.mono _ _ | exact LeO.refl _ | exact LeO.none _ | refine LeO.ite ?_ ?_ | refine LeO.bind ?_ (fun _ => ?_)
theorem F29.calls (k : Nat) (A0 : Option Addr) (c0 : Nat) (l0 : List ByteArray) (a1 : Int) (r : Int) (w : World) (hr0 : Kd.C Kd.string w A0 l0.length l0) (hc0 : l0.length ≤ c0) (h : F29.f k l0 a1 = some r) :
  Calls Try.prog 29 #[.slice A0 l0.length c0, .int .i64 a1] w fun e w' => e = .returned (.int .i64 r) ∧ Below w.heap.size w w' := by
 have HR0 := am_ hr0
 have HC0 := am_ hc0
 clear hr0 hc0
 have HB := am_ (Below.refl w.heap.size w)
 have H : (F29.l0 k l0 a1 0) = some r := h
 clear h
 have H' := am_ H
 clear H
 go_enter Try.func29, Try.ntmps29
 go_wp2
 go_loopg [1, 5] k (fun kq v1 v5 w' => ∃ (x1_1 : Int) (x5_1 : Int), v1 = .int .i64 x1_1 ∧ v5 = .int .i64 x5_1 ∧ Aside0 (F29.l0 kq l0 x1_1 x5_1 = some r) ∧ Aside0 (kq ≤ k) ∧ Aside0 (Below w.heap.size w w'))
 case atStart => exact ⟨(a1), (0), er_, er_, H', ⟨Nat.le_refl _⟩, ⟨bl_⟩⟩
 case round =>
  clear H'
  obtain ⟨x1_1, x5_1, rfl, rfl, HA, HK1, HB⟩ := hrel
  cases gk with
  | zero => exact absurd HA.out (by simp [F29.l0])
  | succ k1 =>
   have H := HA.out
   clear HA
   simp only [F29.l0] at H
   replace H := it_ H; rcases H with ⟨c3b0, H⟩ | ⟨c3b0, H⟩
   rotate_left
   ·obtain rfl := Option.some.inj H
    go_wp2
    go_ret
    exact ⟨au5_2, bl_⟩

   replace H := itn_ H; rcases H with ⟨c4b0, H⟩
   replace H := bi_ H; rcases H with ⟨t407, A5, H⟩
   by_cases c6 : (rdOf ByteArray.empty l0 x5_1).toList = t407.toList
   rotate_left
   ·rw [if_neg c6] at H
    have c6b0 : ((rdOf ByteArray.empty l0 x5_1).toList == t407.toList) = false := beq_eq_false_iff_ne.mpr c6
    have c6b1 : ((rdOf ByteArray.empty l0 x5_1).toList != t407.toList) = true := bne_iff_ne.mpr c6
    obtain rfl := Option.some.inj H
    try go_wp2
    replace HB := am_ (below_drew1 HB.out)
    have p406 : 0 ≤ (x5_1 : Int) := od_
    have q406 : x5_1 < (l0.length : Int) := od_
    obtain ⟨ad406, e406, hx406_0⟩ := Kd.at_string HR0.out x5_1 p406 q406
    have hw406_0 := hx406_0
    cases e406
    replace hx406_0 := (HB.out.cell (World.block_lt_of_cell? _ _ hx406_0)).trans hx406_0
    replace p406 := eq_true p406
    replace q406 := eq_true q406
    refine start_ (n := 7) (S := fun w' => w'.cell? (ad406.add (x5_1).toNat) = some (.string (rdOf ByteArray.empty l0 x5_1))) (ds := []) (bs 7 0) (by kernel_rfl) rfl rfl (((HB.out.cell (World.block_lt_of_cell? _ _ hw406_0)).trans hw406_0)) (fun hHeld => ?_)
    generalize wr.drew = w9 at HB hx406_0 hHeld ⊢
    refine pk_ 0 12 (bs 7 1) ?_ rfl rfl
    refine pk_ 1 13 (bs 7 3) ?_ rfl rfl
    refine pk_ 2 14 (bs 7 7) ?_ rfl rfl
    refine pk_ 4 16 (bs 7 23) ?_ rfl rfl
    refine take_ (i := 3) (N := some 15) (v := ?_) (a' := ?_) (bs 7 31) rfl rfl (by kernel_rfl) (fun _ _ _ h => h) (Or.inl ⟨by rfl, ?_⟩) hHeld ?_ ?_
    rotate_left
    ·intro w' s0
     go_simp
     with_reducible rfl
    rotate_left
    ·simp only [Act.put, List.setIfInBounds_toArray, List.set_cons_zero, List.set_cons_succ, i64_w, i32_w]
     rfl
    refine one_ (i := 5) (N := some 17) (bs 7 63) rfl rfl (by kernel_rfl) (by decide) (fun K hK => ?_)
    refine gr_ Try.func70 #[.int .i64 x1_1] (by rfl) ?_ rfl rfl rfl
    with_reducible refine (F70.calls k1 x1_1 t407 _ A5.out).mono ?_
    rintro e w10 ⟨rfl, hb⟩
    refine ⟨_, rfl, ?_⟩
    replace HB := hs_ w hb
    (try clear hb)
    (try clear hb2)
    (try clear hk)
    (try clear hi)
    refine hK.out _ _ (((HB.out.cell (World.block_lt_of_cell? _ _ hw406_0)).trans hw406_0)) (fun hHeld => ?_)
    clear hK K
    refine no_ 17 ?_
    refine pk_ 6 18 (bs 7 127) ?_ rfl rfl
    refine done_ (by kernel_rfl) ?_
    try go_wp2
    go_ret
    exact ⟨au5_2, bl_⟩
   rw [if_pos c6] at H
   have c6b0 : ((rdOf ByteArray.empty l0 x5_1).toList == t407.toList) = true := beq_iff_eq.mpr c6
   have c6b1 : ((rdOf ByteArray.empty l0 x5_1).toList != t407.toList) = false := bne_eq_false_iff_eq.mpr c6
   clear c6
   have H' := am_ H
   clear H
   try go_wp2
   replace HB := am_ (below_drew1 HB.out)
   have p406 : 0 ≤ (x5_1 : Int) := od_
   have q406 : x5_1 < (l0.length : Int) := od_
   obtain ⟨ad406, e406, hx406_0⟩ := Kd.at_string HR0.out x5_1 p406 q406
   have hw406_0 := hx406_0
   cases e406
   replace hx406_0 := (HB.out.cell (World.block_lt_of_cell? _ _ hx406_0)).trans hx406_0
   replace p406 := eq_true p406
   replace q406 := eq_true q406
   refine start_ (n := 7) (S := fun w' => w'.cell? (ad406.add (x5_1).toNat) = some (.string (rdOf ByteArray.empty l0 x5_1))) (ds := []) (bs 7 0) (by kernel_rfl) rfl rfl (((HB.out.cell (World.block_lt_of_cell? _ _ hw406_0)).trans hw406_0)) (fun hHeld => ?_)
   generalize wr.drew = w7 at HB hx406_0 hHeld ⊢
   refine pk_ 0 12 (bs 7 1) ?_ rfl rfl
   refine pk_ 1 13 (bs 7 3) ?_ rfl rfl
   refine pk_ 2 14 (bs 7 7) ?_ rfl rfl
   refine pk_ 4 16 (bs 7 23) ?_ rfl rfl
   refine take_ (i := 3) (N := some 15) (v := ?_) (a' := ?_) (bs 7 31) rfl rfl (by kernel_rfl) (fun _ _ _ h => h) (Or.inl ⟨by rfl, ?_⟩) hHeld ?_ ?_
   rotate_left
   ·intro w' s0
    go_simp
    with_reducible rfl
   rotate_left
   ·simp only [Act.put, List.setIfInBounds_toArray, List.set_cons_zero, List.set_cons_succ, i64_w, i32_w]
    rfl
   refine one_ (i := 5) (N := some 17) (bs 7 63) rfl rfl (by kernel_rfl) (by decide) (fun K hK => ?_)
   refine gr_ Try.func70 #[.int .i64 x1_1] (by rfl) ?_ rfl rfl rfl
   with_reducible refine (F70.calls k1 x1_1 t407 _ A5.out).mono ?_
   rintro e w8 ⟨rfl, hb⟩
   refine ⟨_, rfl, ?_⟩
   replace HB := hs_ w hb
   (try clear hb)
   (try clear hb2)
   (try clear hk)
   (try clear hi)
   refine hK.out _ _ (((HB.out.cell (World.block_lt_of_cell? _ _ hw406_0)).trans hw406_0)) (fun hHeld => ?_)
   clear hK K
   refine no_ 17 ?_
   refine pk_ 6 18 (bs 7 127) ?_ rfl rfl
   refine done_ (by kernel_rfl) ?_
   try go_wp2
   go_roundg k1
   case measure => have := HK1.out; omega
   case rel => exact ⟨(wrap64 (x1_1 + 1)), (wrap64 (x5_1 + 1)), er_, er_, H', ⟨by have := HK1.out; omega⟩, ⟨bl_⟩⟩
/-! ### F116: function 116 -/
def F116.l0 : Nat → List (S102) → Int → Int → Option (Int)
  | 0, _, _, _ => none
  | k + 1, x0, x1, x5 => if x5 < (x0.length : Int) then (if 0 ≤ x5 then ((F29.f k ((rd_T102 x0 x5).f0) x1).bind fun t409 => (if t409 < 0 then (some (-1)) else (F116.l0 k x0 t409 (wrap64 (x5 + 1))))) else (none)) else (some x1)
def F116.f (k : Nat) (l0 : List (S102)) (a1 : Int) : Option (Int) := F116.l0 k l0 a1 0
theorem F116.mono_l : ∀ k, (∀ y0 y1 y2, LeO (F116.l0 k y0 y1 y2) (F116.l0 (k + 1) y0 y1 y2))
 | 0 => fun _ _ _ r h => by simp [F116.l0] at h
 | k + 1 => by
  have ih0 := F116.mono_l k
  intro y0 y1 y2
  unfold F116.l0
  repeat' with_reducible first | exact ih0 _ _ _ | exact F29.mono _ _ _ | exact LeO.refl _ | exact LeO.none _ | refine LeO.ite ?_ ?_ | refine LeO.bind ?_ (fun _ => ?_)
theorem F116.mono : ∀ a0 a1 k, LeO (F116.f k a0 a1) (F116.f (k + 1) a0 a1) := by
 intro a0 a1 k
 have ih0 := F116.mono_l k
 unfold F116.f
 repeat' with_reducible first | exact ih0 _ _ _ | exact F29.mono _ _ _ | exact LeO.refl _ | exact LeO.none _ | refine LeO.ite ?_ ?_ | refine LeO.bind ?_ (fun _ => ?_)
theorem F116.calls (k : Nat) (A0 : Option Addr) (c0 : Nat) (l0 : List (S102)) (a1 : Int) (r : Int) (w : World) (hr0 : Kd.C k102 w A0 l0.length l0) (hc0 : l0.length ≤ c0) (h : F116.f k l0 a1 = some r) :
  Calls Try.prog 116 #[.slice A0 l0.length c0, .int .i64 a1] w fun e w' => e = .returned (.int .i64 r) ∧ Below w.heap.size w w' := by
 have HR0 := am_ hr0
 have HC0 := am_ hc0
 clear hr0 hc0
 have HB := am_ (Below.refl w.heap.size w)
 have H : (F116.l0 k l0 a1 0) = some r := h
 clear h
 have H' := am_ H
 clear H
 go_enter Try.func116, Try.ntmps116
 go_wp2
 go_loopg [1, 5] k (fun kq v1 v5 w' => ∃ (x1_1 : Int) (x5_1 : Int), v1 = .int .i64 x1_1 ∧ v5 = .int .i64 x5_1 ∧ Aside0 (F116.l0 kq l0 x1_1 x5_1 = some r) ∧ Aside0 (kq ≤ k) ∧ Aside0 (Below w.heap.size w w'))
 case atStart => exact ⟨(a1), (0), er_, er_, H', ⟨Nat.le_refl _⟩, ⟨bl_⟩⟩
 case round =>
  clear H'
  obtain ⟨x1_1, x5_1, rfl, rfl, HA, HK1, HB⟩ := hrel
  cases gk with
  | zero => exact absurd HA.out (by simp [F116.l0])
  | succ k1 =>
   have H := HA.out
   clear HA
   simp only [F116.l0] at H
   replace H := it_ H; rcases H with ⟨c3b0, H⟩ | ⟨c3b0, H⟩
   rotate_left
   ·obtain rfl := Option.some.inj H
    go_wp2
    go_ret
    exact ⟨au5_2, bl_⟩

   replace H := itn_ H; rcases H with ⟨c4b0, H⟩
   replace H := bi_ H; rcases H with ⟨t409, A5, H⟩
   replace H := it_ H; rcases H with ⟨c6b0, H⟩ | ⟨c6b0, H⟩
   ·obtain rfl := Option.some.inj H
    have p408 : 0 ≤ (x5_1 : Int) := od_
    have q408 : x5_1 < (l0.length : Int) := od_
    obtain ⟨ad408, A408_0, c408_0, e408, hx408_0, hl408_0, hi408_0⟩ := at_T102 HR0.out x5_1 p408 q408
    cases e408
    replace hx408_0 := (HB.out.cell (World.block_lt_of_cell? _ _ hx408_0)).trans hx408_0
    have HR408_0 := am_ hi408_0
    have HC408_0 := am_ hl408_0
    clear hi408_0 hl408_0
    replace p408 := eq_true p408
    replace q408 := eq_true q408
    go_wp2_with (first | ((with_reducible refine gate_callee (f := 29) rfl ?_); refine gl_ 18 Try.func29 #[.slice A408_0 ((rd_T102 l0 x5_1).f0).length c408_0, .int .i64 x1_1] ?_ rfl rfl rfl rfl; (with_reducible refine (F29.calls k1 _ _ ((rd_T102 l0 x5_1).f0) x1_1 t409 _ ?s1 ?s2 A5.out).mono ?_); (case s1 => exact au5_38); (case s2 => exact HC408_0.out); rintro e w7 ⟨rfl, hb⟩; refine ⟨_, rfl, ?_⟩; replace HB := hs_ w hb; (try clear hb)))
    go_ret
    exact ⟨au5_2, bl_⟩
   have H' := am_ H
   clear H
   have p408 : 0 ≤ (x5_1 : Int) := od_
   have q408 : x5_1 < (l0.length : Int) := od_
   obtain ⟨ad408, A408_0, c408_0, e408, hx408_0, hl408_0, hi408_0⟩ := at_T102 HR0.out x5_1 p408 q408
   cases e408
   replace hx408_0 := (HB.out.cell (World.block_lt_of_cell? _ _ hx408_0)).trans hx408_0
   have HR408_0 := am_ hi408_0
   have HC408_0 := am_ hl408_0
   clear hi408_0 hl408_0
   replace p408 := eq_true p408
   replace q408 := eq_true q408
   go_wp2_with (first | ((with_reducible refine gate_callee (f := 29) rfl ?_); refine gl_ 18 Try.func29 #[.slice A408_0 ((rd_T102 l0 x5_1).f0).length c408_0, .int .i64 x1_1] ?_ rfl rfl rfl rfl; (with_reducible refine (F29.calls k1 _ _ ((rd_T102 l0 x5_1).f0) x1_1 t409 _ ?s1 ?s2 A5.out).mono ?_); (case s1 => exact au5_38); (case s2 => exact HC408_0.out); rintro e w8 ⟨rfl, hb⟩; refine ⟨_, rfl, ?_⟩; replace HB := hs_ w hb; (try clear hb)))
   go_roundg k1
   case measure => have := HK1.out; omega
   case rel => exact ⟨(t409), (wrap64 (x5_1 + 1)), er_, er_, H', ⟨by have := HK1.out; omega⟩, ⟨bl_⟩⟩
/-! ### F96: function 96 -/
def F96.l0 : Nat → List (S59) → Int → Int → Option (Int)
  | 0, _, _, _ => none
  | k + 1, x0, x1, x5 => if x5 < (x0.length : Int) then (if 0 ≤ x5 then ((F70.f k x1).bind fun t411 => (if ((rd_T59 x0 x5).f0).toList = t411.toList then ((F116.f k ((rd_T59 x0 x5).f1) (wrap64 (x1 + 1))).bind fun t413 => (if t413 < 0 then (some (-1)) else (F96.l0 k x0 t413 (wrap64 (x5 + 1))))) else (some (-1)))) else (none)) else (some x1)
def F96.f (k : Nat) (l0 : List (S59)) (a1 : Int) : Option (Int) := F96.l0 k l0 a1 0
theorem F96.mono_l : ∀ k, (∀ y0 y1 y2, LeO (F96.l0 k y0 y1 y2) (F96.l0 (k + 1) y0 y1 y2))
 | 0 => fun _ _ _ r h => by simp [F96.l0] at h
 | k + 1 => by
  have ih0 := F96.mono_l k
  intro y0 y1 y2
  unfold F96.l0
  repeat' with_reducible first | exact ih0 _ _ _ | exact F116.mono _ _ _ | exact F70.mono _ _ | exact LeO.refl _ | exact LeO.none _ | refine LeO.ite ?_ ?_ | refine LeO.bind ?_ (fun _ => ?_)
theorem F96.mono : ∀ a0 a1 k, LeO (F96.f k a0 a1) (F96.f (k + 1) a0 a1) := by
 intro a0 a1 k
 have ih0 := F96.mono_l k
 unfold F96.f
 repeat' with_reducible first | exact ih0 _ _ _ | exact F116.mono _ _ _ | exact F70.mono _ _ | exact LeO.refl _ | exact LeO.none _ | refine LeO.ite ?_ ?_ | refine LeO.bind ?_ (fun _ => ?_)
def F96.T4 : Bool × List (List Nat × List Nat) := (true, [([], []), ([], []), ([0, 1], [0, 1]), ([2], [2]), ([3], [3]), ([], []), ([5], [5]), ([4, 6], [4, 6])])
def F96.B4 : List Nat := [0, 0, 3, 7, 15, 0, 32, 127]
theorem F96.tab4 : rtab .any (opsOf Try.f96 4) = F96.T4 := by kernel_rfl
theorem F96.bits4 : waitsOk F96.T4.2 F96.B4 = true := by kernel_rfl
theorem F96.calls (k : Nat) (A0 : Option Addr) (c0 : Nat) (l0 : List (S59)) (a1 : Int) (r : Int) (w : World) (hr0 : Kd.C k59 w A0 l0.length l0) (hc0 : l0.length ≤ c0) (h : F96.f k l0 a1 = some r) :
  Calls Try.prog 96 #[.slice A0 l0.length c0, .int .i64 a1] w fun e w' => e = .returned (.int .i64 r) ∧ Below w.heap.size w w' := by
 have HR0 := am_ hr0
 have HC0 := am_ hc0
 clear hr0 hc0
 have HB := am_ (Below.refl w.heap.size w)
 have H : (F96.l0 k l0 a1 0) = some r := h
 clear h
 have H' := am_ H
 clear H
 go_enter Try.func96, Try.ntmps96
 go_wp2
 go_loopg [1, 5] k (fun kq v1 v5 w' => ∃ (x1_1 : Int) (x5_1 : Int), v1 = .int .i64 x1_1 ∧ v5 = .int .i64 x5_1 ∧ Aside0 (F96.l0 kq l0 x1_1 x5_1 = some r) ∧ Aside0 (kq ≤ k) ∧ Aside0 (Below w.heap.size w w'))
 case atStart => exact ⟨(a1), (0), er_, er_, H', ⟨Nat.le_refl _⟩, ⟨bl_⟩⟩
 case round =>
  clear H'
  obtain ⟨x1_1, x5_1, rfl, rfl, HA, HK1, HB⟩ := hrel
  cases gk with
  | zero => exact absurd HA.out (by simp [F96.l0])
  | succ k1 =>
   have H := HA.out
   clear HA
   simp only [F96.l0] at H
   replace H := it_ H; rcases H with ⟨c3b0, H⟩ | ⟨c3b0, H⟩
   rotate_left
   ·obtain rfl := Option.some.inj H
    go_wp2
    go_ret
    exact ⟨au5_2, bl_⟩

   replace H := itn_ H; rcases H with ⟨c4b0, H⟩
   replace H := bi_ H; rcases H with ⟨t411, A5, H⟩
   by_cases c6 : ((rd_T59 l0 x5_1).f0).toList = t411.toList
   rotate_left
   ·rw [if_neg c6] at H
    have c6b0 : (((rd_T59 l0 x5_1).f0).toList == t411.toList) = false := beq_eq_false_iff_ne.mpr c6
    have c6b1 : (((rd_T59 l0 x5_1).f0).toList != t411.toList) = true := bne_iff_ne.mpr c6
    obtain rfl := Option.some.inj H
    try go_wp2
    replace HB := am_ (below_drew1 HB.out)
    have p410 : 0 ≤ (x5_1 : Int) := od_
    have q410 : x5_1 < (l0.length : Int) := od_
    obtain ⟨ad410, A410_1, c410_1, e410, hx410_0, hx410_1, hl410_1, hi410_1⟩ := at_T59 HR0.out x5_1 p410 q410
    have hw410_1 := hx410_1
    have hw410_0 := hx410_0
    cases e410
    replace hx410_0 := (HB.out.cell (World.block_lt_of_cell? _ _ hx410_0)).trans hx410_0
    replace hx410_1 := (HB.out.cell (World.block_lt_of_cell? _ _ hx410_1)).trans hx410_1
    have HR410_1 := am_ hi410_1
    have HC410_1 := am_ hl410_1
    clear hi410_1 hl410_1
    replace p410 := eq_true p410
    replace q410 := eq_true q410
    refine start_ (n := 8) (S := fun w' => w'.cell? (ad410.add ((x5_1).toNat * 2)) = some (.string ((rd_T59 l0 x5_1).f0)) ∧ w'.cell? ⟨(ad410.add ((x5_1).toNat * 2)).block, (ad410.add ((x5_1).toNat * 2)).off + 1, none⟩ = some (.slice A410_1 ((rd_T59 l0 x5_1).f1).length c410_1)) (ds := []) (bs 8 0) (by kernel_rfl) rfl rfl ⟨((HB.out.cell (World.block_lt_of_cell? _ _ hw410_0)).trans hw410_0), ((HB.out.cell (World.block_lt_of_cell? _ _ hw410_1)).trans hw410_1)⟩ (fun hHeld => ?_); refine with_tabW F96.tab4 F96.bits4 (fun HT_ HW_ => ?_)
    generalize wr.drew = w15 at HB HR410_1 hx410_0 hx410_1 hHeld ⊢
    refine pu_ 0 12 (bs 8 1) HT_ ?_ rfl rfl
    refine pu_ 1 13 (bs 8 3) HT_ ?_ rfl rfl
    refine pu_ 2 14 (bs 8 7) HT_ ?_ rfl rfl
    refine pu_ 3 15 (bs 8 15) HT_ ?_ rfl rfl
    refine pu_ 5 17 (bs 8 47) HT_ ?_ rfl rfl
    refine tk_ 4 16 (bs 8 63) HT_ HW_ hHeld au5_44 ?_ rfl rfl
    refine one_ (i := 6) (N := some 18) (bs 8 127) rfl rfl (one_of HT_.out (by kernel_rfl)) (by decide) (fun K hK => ?_)
    refine gr_ Try.func70 #[.int .i64 x1_1] (by rfl) ?_ rfl rfl rfl
    with_reducible refine (F70.calls k1 x1_1 t411 _ A5.out).mono ?_
    rintro e w16 ⟨rfl, hb⟩
    refine ⟨_, rfl, ?_⟩
    replace HB := hs_ w hb
    (try clear hb)
    (try clear hb2)
    (try clear hk)
    (try clear hi)
    refine hK.out _ _ ⟨((HB.out.cell (World.block_lt_of_cell? _ _ hw410_0)).trans hw410_0), ((HB.out.cell (World.block_lt_of_cell? _ _ hw410_1)).trans hw410_1)⟩ (fun hHeld => ?_)
    clear hK K
    refine no_ 18 ?_
    refine pu_ 7 19 (bs 8 255) HT_ ?_ rfl rfl
    refine done_ (done_of HT_.out (by kernel_rfl)) ?_
    try go_wp2
    go_ret
    exact ⟨au5_2, bl_⟩
   rw [if_pos c6] at H
   have c6b0 : (((rd_T59 l0 x5_1).f0).toList == t411.toList) = true := beq_iff_eq.mpr c6
   have c6b1 : (((rd_T59 l0 x5_1).f0).toList != t411.toList) = false := bne_eq_false_iff_eq.mpr c6
   clear c6
   replace H := bi_ H; rcases H with ⟨t413, A7, H⟩
   replace H := it_ H; rcases H with ⟨c8b0, H⟩ | ⟨c8b0, H⟩
   ·obtain rfl := Option.some.inj H
    try go_wp2
    replace HB := am_ (below_drew1 HB.out)
    have p410 : 0 ≤ (x5_1 : Int) := od_
    have q410 : x5_1 < (l0.length : Int) := od_
    obtain ⟨ad410, A410_1, c410_1, e410, hx410_0, hx410_1, hl410_1, hi410_1⟩ := at_T59 HR0.out x5_1 p410 q410
    have hw410_1 := hx410_1
    have hw410_0 := hx410_0
    cases e410
    replace hx410_0 := (HB.out.cell (World.block_lt_of_cell? _ _ hx410_0)).trans hx410_0
    replace hx410_1 := (HB.out.cell (World.block_lt_of_cell? _ _ hx410_1)).trans hx410_1
    have HR410_1 := am_ hi410_1
    have HC410_1 := am_ hl410_1
    clear hi410_1 hl410_1
    replace p410 := eq_true p410
    replace q410 := eq_true q410
    refine start_ (n := 8) (S := fun w' => w'.cell? (ad410.add ((x5_1).toNat * 2)) = some (.string ((rd_T59 l0 x5_1).f0)) ∧ w'.cell? ⟨(ad410.add ((x5_1).toNat * 2)).block, (ad410.add ((x5_1).toNat * 2)).off + 1, none⟩ = some (.slice A410_1 ((rd_T59 l0 x5_1).f1).length c410_1)) (ds := []) (bs 8 0) (by kernel_rfl) rfl rfl ⟨((HB.out.cell (World.block_lt_of_cell? _ _ hw410_0)).trans hw410_0), ((HB.out.cell (World.block_lt_of_cell? _ _ hw410_1)).trans hw410_1)⟩ (fun hHeld => ?_); refine with_tabW F96.tab4 F96.bits4 (fun HT_ HW_ => ?_)
    generalize wr.drew = w9 at HB HR410_1 hx410_0 hx410_1 hHeld ⊢
    refine pu_ 0 12 (bs 8 1) HT_ ?_ rfl rfl
    refine pu_ 1 13 (bs 8 3) HT_ ?_ rfl rfl
    refine pu_ 2 14 (bs 8 7) HT_ ?_ rfl rfl
    refine pu_ 3 15 (bs 8 15) HT_ ?_ rfl rfl
    refine pu_ 5 17 (bs 8 47) HT_ ?_ rfl rfl
    refine tk_ 4 16 (bs 8 63) HT_ HW_ hHeld au5_44 ?_ rfl rfl
    refine one_ (i := 6) (N := some 18) (bs 8 127) rfl rfl (one_of HT_.out (by kernel_rfl)) (by decide) (fun K hK => ?_)
    refine gr_ Try.func70 #[.int .i64 x1_1] (by rfl) ?_ rfl rfl rfl
    with_reducible refine (F70.calls k1 x1_1 t411 _ A5.out).mono ?_
    rintro e w10 ⟨rfl, hb⟩
    refine ⟨_, rfl, ?_⟩
    replace HB := hs_ w hb
    (try clear hb)
    (try clear hb2)
    (try clear hk)
    (try clear hi)
    refine hK.out _ _ ⟨((HB.out.cell (World.block_lt_of_cell? _ _ hw410_0)).trans hw410_0), ((HB.out.cell (World.block_lt_of_cell? _ _ hw410_1)).trans hw410_1)⟩ (fun hHeld => ?_)
    clear hK K
    refine no_ 18 ?_
    refine pu_ 7 19 (bs 8 255) HT_ ?_ rfl rfl
    refine done_ (done_of HT_.out (by kernel_rfl)) ?_
    have p412 : 0 ≤ (x5_1 : Int) := od_
    have q412 : x5_1 < (l0.length : Int) := od_
    obtain ⟨ad412, A412_1, c412_1, e412, hx412_0, hx412_1, hl412_1, hi412_1⟩ := at_T59 HR0.out x5_1 p412 q412
    obtain rfl : ad410 = ad412 := (by injection e412)
    obtain ⟨rfl, rfl⟩ : A412_1 = A410_1 ∧ c412_1 = c410_1 := by have e_ := Option.some.inj (hw410_1.symm.trans hx412_1); injection e_ with e1_ e2_ e3_; exact ⟨e1_.symm, e3_.symm⟩
    replace hx412_0 := (HB.out.cell (World.block_lt_of_cell? _ _ hx412_0)).trans hx412_0
    replace hx412_1 := (HB.out.cell (World.block_lt_of_cell? _ _ hx412_1)).trans hx412_1
    have HR412_1 := am_ hi412_1
    have HC412_1 := am_ hl412_1
    clear hi412_1 hl412_1
    replace p412 := eq_true p412
    replace q412 := eq_true q412
    try go_wp2_with (first | ((with_reducible refine gate_callee (f := 116) rfl ?_); refine gl_ 28 Try.func116 #[.slice A412_1 ((rd_T59 l0 x5_1).f1).length c412_1, .int .i64 (wrap64 (x1_1 + 1))] ?_ rfl rfl rfl rfl; (with_reducible refine (F116.calls k1 _ _ ((rd_T59 l0 x5_1).f1) (wrap64 (x1_1 + 1)) t413 _ ?s1 ?s2 A7.out).mono ?_); (case s1 => exact au5_39); (case s2 => exact HC412_1.out); rintro e w11 ⟨rfl, hb⟩; refine ⟨_, rfl, ?_⟩; replace HB := hs_ w hb; (try clear hb)))
    go_ret
    exact ⟨au5_2, bl_⟩
   have H' := am_ H
   clear H
   try go_wp2
   replace HB := am_ (below_drew1 HB.out)
   have p410 : 0 ≤ (x5_1 : Int) := od_
   have q410 : x5_1 < (l0.length : Int) := od_
   obtain ⟨ad410, A410_1, c410_1, e410, hx410_0, hx410_1, hl410_1, hi410_1⟩ := at_T59 HR0.out x5_1 p410 q410
   have hw410_1 := hx410_1
   have hw410_0 := hx410_0
   cases e410
   replace hx410_0 := (HB.out.cell (World.block_lt_of_cell? _ _ hx410_0)).trans hx410_0
   replace hx410_1 := (HB.out.cell (World.block_lt_of_cell? _ _ hx410_1)).trans hx410_1
   have HR410_1 := am_ hi410_1
   have HC410_1 := am_ hl410_1
   clear hi410_1 hl410_1
   replace p410 := eq_true p410
   replace q410 := eq_true q410
   refine start_ (n := 8) (S := fun w' => w'.cell? (ad410.add ((x5_1).toNat * 2)) = some (.string ((rd_T59 l0 x5_1).f0)) ∧ w'.cell? ⟨(ad410.add ((x5_1).toNat * 2)).block, (ad410.add ((x5_1).toNat * 2)).off + 1, none⟩ = some (.slice A410_1 ((rd_T59 l0 x5_1).f1).length c410_1)) (ds := []) (bs 8 0) (by kernel_rfl) rfl rfl ⟨((HB.out.cell (World.block_lt_of_cell? _ _ hw410_0)).trans hw410_0), ((HB.out.cell (World.block_lt_of_cell? _ _ hw410_1)).trans hw410_1)⟩ (fun hHeld => ?_); refine with_tabW F96.tab4 F96.bits4 (fun HT_ HW_ => ?_)
   generalize wr.drew = w12 at HB HR410_1 hx410_0 hx410_1 hHeld ⊢
   refine pu_ 0 12 (bs 8 1) HT_ ?_ rfl rfl
   refine pu_ 1 13 (bs 8 3) HT_ ?_ rfl rfl
   refine pu_ 2 14 (bs 8 7) HT_ ?_ rfl rfl
   refine pu_ 3 15 (bs 8 15) HT_ ?_ rfl rfl
   refine pu_ 5 17 (bs 8 47) HT_ ?_ rfl rfl
   refine tk_ 4 16 (bs 8 63) HT_ HW_ hHeld au5_44 ?_ rfl rfl
   refine one_ (i := 6) (N := some 18) (bs 8 127) rfl rfl (one_of HT_.out (by kernel_rfl)) (by decide) (fun K hK => ?_)
   refine gr_ Try.func70 #[.int .i64 x1_1] (by rfl) ?_ rfl rfl rfl
   with_reducible refine (F70.calls k1 x1_1 t411 _ A5.out).mono ?_
   rintro e w13 ⟨rfl, hb⟩
   refine ⟨_, rfl, ?_⟩
   replace HB := hs_ w hb
   (try clear hb)
   (try clear hb2)
   (try clear hk)
   (try clear hi)
   refine hK.out _ _ ⟨((HB.out.cell (World.block_lt_of_cell? _ _ hw410_0)).trans hw410_0), ((HB.out.cell (World.block_lt_of_cell? _ _ hw410_1)).trans hw410_1)⟩ (fun hHeld => ?_)
   clear hK K
   refine no_ 18 ?_
   refine pu_ 7 19 (bs 8 255) HT_ ?_ rfl rfl
   refine done_ (done_of HT_.out (by kernel_rfl)) ?_
   have p412 : 0 ≤ (x5_1 : Int) := od_
   have q412 : x5_1 < (l0.length : Int) := od_
   obtain ⟨ad412, A412_1, c412_1, e412, hx412_0, hx412_1, hl412_1, hi412_1⟩ := at_T59 HR0.out x5_1 p412 q412
   obtain rfl : ad410 = ad412 := (by injection e412)
   obtain ⟨rfl, rfl⟩ : A412_1 = A410_1 ∧ c412_1 = c410_1 := by have e_ := Option.some.inj (hw410_1.symm.trans hx412_1); injection e_ with e1_ e2_ e3_; exact ⟨e1_.symm, e3_.symm⟩
   replace hx412_0 := (HB.out.cell (World.block_lt_of_cell? _ _ hx412_0)).trans hx412_0
   replace hx412_1 := (HB.out.cell (World.block_lt_of_cell? _ _ hx412_1)).trans hx412_1
   have HR412_1 := am_ hi412_1
   have HC412_1 := am_ hl412_1
   clear hi412_1 hl412_1
   replace p412 := eq_true p412
   replace q412 := eq_true q412
   try go_wp2_with (first | ((with_reducible refine gate_callee (f := 116) rfl ?_); refine gl_ 28 Try.func116 #[.slice A412_1 ((rd_T59 l0 x5_1).f1).length c412_1, .int .i64 (wrap64 (x1_1 + 1))] ?_ rfl rfl rfl rfl; (with_reducible refine (F116.calls k1 _ _ ((rd_T59 l0 x5_1).f1) (wrap64 (x1_1 + 1)) t413 _ ?s1 ?s2 A7.out).mono ?_); (case s1 => exact au5_39); (case s2 => exact HC412_1.out); rintro e w14 ⟨rfl, hb⟩; refine ⟨_, rfl, ?_⟩; replace HB := hs_ w hb; (try clear hb)))
   go_roundg k1
   case measure => have := HK1.out; omega
   case rel => exact ⟨(t413), (wrap64 (x5_1 + 1)), er_, er_, H', ⟨by have := HK1.out; omega⟩, ⟨bl_⟩⟩
/-! ### F54: function 54 -/
def F54.f (k : Nat) (l0_0 : List (S59)) (a0_1 : Int) (a0_2 : Int) (a0_3 : Int) (a1 : Int) : Option (Int) := (F96.f k l0_0 a1).bind fun t415 => (if t415 < 0 then (some (-1)) else (some t415))
theorem F54.mono : ∀ a0 a1 a2 a3 a4 k, LeO (F54.f k a0 a1 a2 a3 a4) (F54.f (k + 1) a0 a1 a2 a3 a4) := by
 intro a0 a1 a2 a3 a4 k
 unfold F54.f
 repeat' with_reducible first | exact F96.mono _ _ _ | exact LeO.refl _ | exact LeO.none _ | refine LeO.ite ?_ ?_ | refine LeO.bind ?_ (fun _ => ?_)
theorem F54.calls (k : Nat) (A0_0 : Option Addr) (c0_0 : Nat) (l0_0 : List (S59)) (a0_1 : Int) (a0_2 : Int) (a0_3 : Int) (a1 : Int) (r : Int) (w : World) (hr0_0 : Kd.C k59 w A0_0 l0_0.length l0_0) (hc0_0 : l0_0.length ≤ c0_0) (h : F54.f k l0_0 a0_1 a0_2 a0_3 a1 = some r) :
  Calls Try.prog 54 #[.agg #[.slice A0_0 l0_0.length c0_0, .int .i64 a0_1, .int .i64 a0_2, .int .i64 a0_3], .int .i64 a1] w fun e w' => e = .returned (.int .i64 r) ∧ Below w.heap.size w w' := by
 have hu78 := Try.underlying78
 have HR0_0 := am_ hr0_0
 have HC0_0 := am_ hc0_0
 clear hr0_0 hc0_0
 have HB := am_ (Below.refl w.heap.size w)
 have H : ((F96.f k l0_0 a1).bind fun t415 => (if t415 < 0 then (some (-1)) else (some t415))) = some r := h
 clear h
 replace H := bi_ H; rcases H with ⟨t415, A3, H⟩
 replace H := it_ H; rcases H with ⟨c4b0, H⟩ | ⟨c4b0, H⟩
 ·obtain rfl := Option.some.inj H
  go_enter Try.func54, Try.ntmps54
  go_wp2_with (first | ((with_reducible refine gate_dst (N := 2) rfl ?_); refine be_ 2 #[.slice A0_0 l0_0.length c0_0, .int .i64 a0_1, .int .i64 a0_2, .int .i64 a0_3] 78 ?_; intro gb414 hg w5 hbox hb; have BK414 := am_ (hbox); have GW414 := am_ (gw_ hg bl_); have GE414 := GW414; replace HB := hs_ w hb; clear hb hbox hg; obtain ⟨hcz6_0, hcz6_1, hcz6_2, hcz6_3, hfz6_0, hfz6_1, hfz6_2, hfz6_3⟩ := cellsF4 BK414.out) | ((with_reducible refine gate_callee (f := 96) rfl ?_); refine gl_ 8 Try.func96 #[.slice A0_0 l0_0.length c0_0, .int .i64 a1] ?_ rfl rfl rfl rfl; (with_reducible refine (F96.calls k _ _ l0_0 a1 t415 _ ?s1 ?s2 A3.out).mono ?_); (case s1 => exact au5_6); (case s2 => exact HC0_0.out); rintro e w7 ⟨rfl, hb⟩; refine ⟨_, rfl, ?_⟩; replace BK414 := bb_ BK414 hb; replace HB := hs_ w hb; (try clear hb)))
  go_ret
  exact ⟨au5_2, bl_⟩
 obtain rfl := Option.some.inj H
 go_enter Try.func54, Try.ntmps54
 go_wp2_with (first | ((with_reducible refine gate_dst (N := 2) rfl ?_); refine be_ 2 #[.slice A0_0 l0_0.length c0_0, .int .i64 a0_1, .int .i64 a0_2, .int .i64 a0_3] 78 ?_; intro gb414 hg w8 hbox hb; have BK414 := am_ (hbox); have GW414 := am_ (gw_ hg bl_); have GE414 := GW414; replace HB := hs_ w hb; clear hb hbox hg; obtain ⟨hcz9_0, hcz9_1, hcz9_2, hcz9_3, hfz9_0, hfz9_1, hfz9_2, hfz9_3⟩ := cellsF4 BK414.out) | ((with_reducible refine gate_callee (f := 96) rfl ?_); refine gl_ 8 Try.func96 #[.slice A0_0 l0_0.length c0_0, .int .i64 a1] ?_ rfl rfl rfl rfl; (with_reducible refine (F96.calls k _ _ l0_0 a1 t415 _ ?s1 ?s2 A3.out).mono ?_); (case s1 => exact au5_6); (case s2 => exact HC0_0.out); rintro e w10 ⟨rfl, hb⟩; refine ⟨_, rfl, ?_⟩; replace BK414 := bb_ BK414 hb; replace HB := hs_ w hb; (try clear hb)))
 go_ret
 exact ⟨au5_2, bl_⟩

/-! ### F13: function 13 -/
def F13.f (k : Nat) (a0_0 : Int) (a0_1 : Int) (a0_2 : Int) (a0_3 : Int) (a1 : ByteArray) : Option (Bool) := if (a1.size : Int) > 1048576 then (some true) else ((F19.f a0_0 a0_1 a0_2 a0_3).bind fun bt417 => ((F50.f k bt417.1 bt417.2.1 bt417.2.2.1 bt417.2.2.2 a1).bind fun bt421 => ((F19.f a0_0 a0_1 a0_2 a0_3).bind fun bt428 => ((F51.f k bt428.1 bt428.2.1 bt428.2.2.1 bt428.2.2.2 a1).bind fun bt432 => ((F52.f k bt432.1 bt432.2.1 bt432.2.2.1 bt432.2.2.2 bt421.1 bt421.2.1 bt421.2.2.1 bt421.2.2.2).bind fun t439 => (if t439 = true then ((F53.f k bt432.1 bt432.2.1 bt432.2.2.1 bt432.2.2.2 1).bind fun bt440 => ((F54.f k bt440.2 bt432.2.1 bt432.2.2.1 bt432.2.2.2 1).bind fun t442 => (if t442 < 0 then (some false) else (if t442 = bt440.1 then ((F19.f a0_0 a0_1 a0_2 a0_3).bind fun bt443 => ((F51.f k bt443.1 bt443.2.1 bt443.2.2.1 bt443.2.2.2 a1).bind fun bt447 => ((F52.f k bt447.1 bt447.2.1 bt447.2.2.1 bt447.2.2.2 bt421.1 bt421.2.1 bt421.2.2.1 bt421.2.2.2).bind fun t454 => (if t454 = true then ((F54.f k bt440.2 bt432.2.1 bt432.2.2.1 bt432.2.2.2 1).bind fun t455 => (if t455 < 0 then (some false) else (if t455 = bt440.1 then (some true) else (some false)))) else (some false))))) else (some false))))) else (some false)))))))
theorem F13.mono : ∀ a0 a1 a2 a3 a4 k, LeO (F13.f k a0 a1 a2 a3 a4) (F13.f (k + 1) a0 a1 a2 a3 a4) := by
 intro a0 a1 a2 a3 a4 k
 unfold F13.f
 repeat' with_reducible first | exact F51.mono _ _ _ _ _ _ | exact F52.mono _ _ _ _ _ _ _ _ _ | exact F54.mono _ _ _ _ _ _ | exact F53.mono _ _ _ _ _ _ | exact F50.mono _ _ _ _ _ _ | exact LeO.refl _ | exact LeO.none _ | refine LeO.ite ?_ ?_ | refine LeO.bind ?_ (fun _ => ?_)
theorem F13.calls (k : Nat) (a0_0 : Int) (a0_1 : Int) (a0_2 : Int) (a0_3 : Int) (a1 : ByteArray) (r : Bool) (w : World) (h : F13.f k a0_0 a0_1 a0_2 a0_3 a1 = some r) :
  Calls Try.prog 13 #[.agg #[.int .i64 a0_0, .int .i64 a0_1, .int .i64 a0_2, .int .i64 a0_3], .string a1] w fun e w' => e = .returned (.bool r) ∧ Below w.heap.size w w' := by
 have hu29 := Try.underlying29
 have hu78 := Try.underlying78
 have HB := am_ (Below.refl w.heap.size w)
 have H : (if (a1.size : Int) > 1048576 then (some true) else ((F19.f a0_0 a0_1 a0_2 a0_3).bind fun bt417 => ((F50.f k bt417.1 bt417.2.1 bt417.2.2.1 bt417.2.2.2 a1).bind fun bt421 => ((F19.f a0_0 a0_1 a0_2 a0_3).bind fun bt428 => ((F51.f k bt428.1 bt428.2.1 bt428.2.2.1 bt428.2.2.2 a1).bind fun bt432 => ((F52.f k bt432.1 bt432.2.1 bt432.2.2.1 bt432.2.2.2 bt421.1 bt421.2.1 bt421.2.2.1 bt421.2.2.2).bind fun t439 => (if t439 = true then ((F53.f k bt432.1 bt432.2.1 bt432.2.2.1 bt432.2.2.2 1).bind fun bt440 => ((F54.f k bt440.2 bt432.2.1 bt432.2.2.1 bt432.2.2.2 1).bind fun t442 => (if t442 < 0 then (some false) else (if t442 = bt440.1 then ((F19.f a0_0 a0_1 a0_2 a0_3).bind fun bt443 => ((F51.f k bt443.1 bt443.2.1 bt443.2.2.1 bt443.2.2.2 a1).bind fun bt447 => ((F52.f k bt447.1 bt447.2.1 bt447.2.2.1 bt447.2.2.2 bt421.1 bt421.2.1 bt421.2.2.1 bt421.2.2.2).bind fun t454 => (if t454 = true then ((F54.f k bt440.2 bt432.2.1 bt432.2.2.1 bt432.2.2.2 1).bind fun t455 => (if t455 < 0 then (some false) else (if t455 = bt440.1 then (some true) else (some false)))) else (some false))))) else (some false))))) else (some false)))))))) = some r := h
 clear h
 replace H := it_ H; rcases H with ⟨(c3b0 : decide (1048576 < (a1.size : Int)) = true), H⟩ | ⟨(c3b0 : decide (1048576 < (a1.size : Int)) = false), H⟩
 ·have c3b1 : decide (1048576 < a1.size) = true := n2_ c3b0
  obtain rfl := Option.some.inj H
  go_enter Try.func13, Try.ntmps13
  go_wp2_with (first | ((with_reducible refine gate_dst (N := 2) rfl ?_); refine be_ 2 #[.int .i64 a0_0, .int .i64 a0_1, .int .i64 a0_2, .int .i64 a0_3] 29 ?_; intro gb416 hg w4 hbox hb; have BK416 := am_ (hbox); have GW416 := am_ (gw_ hg bl_); have GE416 := GW416; replace HB := hs_ w hb; clear hb hbox hg))
  go_ret
  exact ⟨au5_2, bl_⟩
 have c3b1 : decide (1048576 < a1.size) = false := n2_ c3b0
 replace H := bi_ H; rcases H with ⟨⟨t417, t418, t419, t420⟩, A5, H⟩
 replace H := bi_ H; rcases H with ⟨⟨t421, t424, t425, t426⟩, A6, H⟩
 replace H := bi_ H; rcases H with ⟨⟨t428, t429, t430, t431⟩, A7, H⟩
 replace H := bi_ H; rcases H with ⟨⟨t432, t435, t436, t437⟩, A8, H⟩
 replace H := bi_ H; rcases H with ⟨t439, A9, H⟩
 replace H := ib_ H; rcases H with ⟨rfl, H⟩ | ⟨rfl, H⟩
 rotate_left
 ·obtain rfl := Option.some.inj H
  go_enter Try.func13, Try.ntmps13
  go_wp2_with (first | ((with_reducible refine gate_dst (N := 2) rfl ?_); refine be_ 2 #[.int .i64 a0_0, .int .i64 a0_1, .int .i64 a0_2, .int .i64 a0_3] 29 ?_; intro gb416 hg w204 hbox hb; have BK416 := am_ (hbox); have GW416 := am_ (gw_ hg bl_); have GE416 := GW416; replace HB := hs_ w hb; clear hb hbox hg; obtain ⟨hcz205_0, hcz205_1, hcz205_2, hcz205_3, hfz205_0, hfz205_1, hfz205_2, hfz205_3⟩ := cellsF4 BK416.out) | ((with_reducible refine gate_callee (f := 19) rfl ?_); refine gl_ 14 Try.func19 #[.agg #[.int .i64 a0_0, .int .i64 a0_1, .int .i64 a0_2, .int .i64 a0_3]] ?_ rfl rfl rfl rfl; (with_reducible refine (F19.calls a0_0 a0_1 a0_2 a0_3 t417 t418 t419 t420 _ A5.out).mono ?_); rintro e w206 ⟨rfl, hb⟩; refine ⟨_, rfl, ?_⟩; replace BK416 := bb_ BK416 hb; replace HB := hs_ w hb; (try clear hb)) | ((with_reducible refine gate_callee (f := 50) rfl ?_); refine gl_ 16 Try.func50 #[.agg #[.int .i64 t417, .int .i64 t418, .int .i64 t419, .int .i64 t420], .string a1] ?_ rfl rfl rfl rfl; (with_reducible refine (F50.calls k t417 t418 t419 t420 a1 t421 t424 t425 t426 _ A6.out).mono ?_); rintro e w207 ⟨v422, rfl, ho0, hb⟩; refine ⟨_, rfl, ?_⟩; have HO423 := am_ (Kd.S_lower ho0 (below_size bl_)); replace BK416 := bb_ BK416 hb; replace HB := hs_ w hb; (try clear hb); (try clear ho0)) | ((with_reducible refine gate_dst (N := 5) rfl ?_); refine be_ 5 #[.slice none 0 0, .int .i64 0, .int .i64 0, .int .i64 0] 78 ?_; intro gb427 hg w208 hbox hb; replace HO423 := am_ (Kd.S_below au5_0 hb); have BK427 := am_ (hbox); have GW427 := am_ (gw_ hg bl_); have GE427 := GW427; replace HB := hs_ w hb; have NB416_427 := am_ (gn_ hg (blkl_ BK416)); have NB427_416 := am_ (gm_ hg (blkl_ BK416)); replace BK416 := bb_ BK416 hb; clear hb hbox hg; obtain ⟨Ao209, co209, eo209⟩ := Kd.S_slice HO423.out; subst eo209; have hnb210 := NB427_416.out; have hnc210 := NB416_427.out; obtain ⟨hcz211_0, hcz211_1, hcz211_2, hcz211_3, hfz211_0, hfz211_1, hfz211_2, hfz211_3⟩ := cellsF4 BK427.out; obtain ⟨hcz212_0, hcz212_1, hcz212_2, hcz212_3, hfz212_0, hfz212_1, hfz212_2, hfz212_3⟩ := cellsF4 BK416.out) | ((with_reducible refine gate_callee (f := 19) rfl ?_); refine gl_ 18 Try.func19 #[.agg #[.int .i64 a0_0, .int .i64 a0_1, .int .i64 a0_2, .int .i64 a0_3]] ?_ rfl rfl rfl rfl; (with_reducible refine (F19.calls a0_0 a0_1 a0_2 a0_3 t428 t429 t430 t431 _ A7.out).mono ?_); rintro e w213 ⟨rfl, hb⟩; refine ⟨_, rfl, ?_⟩; replace HO423 := am_ (Kd.S_below (by (with_reducible repeat (first | apply Kd.S_alloc | apply Kd.S_drewN | apply Kd.S_drew)); exact (Kd.S_mono (Kd.S_far (p := ⟨gb427, 3, none⟩) (Kd.S_far (p := ⟨gb427, 2, none⟩) (Kd.S_far (p := ⟨gb427, 1, none⟩) (Kd.S_far (p := ⟨gb427, 0, none⟩) (Kd.S_types HO423.out BK427.out (by decide)) (fun _ hk => hk.2) (.slice Ao209 t421.length co209)) (fun _ hk => hk.2) (.int .i64 t424)) (fun _ hk => hk.2) (.int .i64 t425)) (fun _ hk => hk.2) (.int .i64 t426)) (fun _ h_ => h_.1))) hb); replace BK416 := am_ (blk_below (g := gb416) (o := .cells #[.int .i64 a0_0, .int .i64 a0_1, .int .i64 a0_2, .int .i64 a0_3] 29 (0, 0)) (bf_ BK416) hb); replace BK427 := am_ (blk_below (g := gb427) (o := .cells #[.slice Ao209 t421.length co209, .int .i64 t424, .int .i64 t425, .int .i64 t426] 78 (0, 0)) (bq_ BK427) hb); replace HB := hs_ w hb; (try clear hb); (try clear hb2); (try clear hk); (try clear hi)) | ((with_reducible refine gate_callee (f := 51) rfl ?_); refine gl_ 20 Try.func51 #[.agg #[.int .i64 t428, .int .i64 t429, .int .i64 t430, .int .i64 t431], .string a1] ?_ rfl rfl rfl rfl; (with_reducible refine (F51.calls k t428 t429 t430 t431 a1 t432 t435 t436 t437 _ A8.out).mono ?_); rintro e w214 ⟨v433, rfl, ho0, hb⟩; refine ⟨_, rfl, ?_⟩; have HO434 := am_ (Kd.S_lower (Kd.S_new' ho0 (Kd.S_lt au5_0)) (below_size bl_)); replace HO423 := am_ (Kd.S_elder' au5_0 (Kd.S_base ho0) hb); replace BK416 := bb_ BK416 hb; replace BK427 := bb_ BK427 hb; replace HB := hs_ w hb; (try clear hb); (try clear hb2); (try clear hk); (try clear hi); (try clear ho0)) | ((with_reducible refine gate_dst (N := 6) rfl ?_); refine be_ 6 #[.slice none 0 0, .int .i64 0, .int .i64 0, .int .i64 0] 78 ?_; intro gb438 hg w215 hbox hb; replace HO423 := am_ (Kd.S_below au5_0 hb); replace HO434 := am_ (Kd.S_below au5_1 hb); have BK438 := am_ (hbox); have GW438 := am_ (gw_ hg bl_); have GE438 := GW438; replace HB := hs_ w hb; have NB416_438 := am_ (gn_ hg (blkl_ BK416)); have NB438_416 := am_ (gm_ hg (blkl_ BK416)); replace BK416 := bb_ BK416 hb; have NB427_438 := am_ (gn_ hg (blkl_ BK427)); have NB438_427 := am_ (gm_ hg (blkl_ BK427)); replace BK427 := bb_ BK427 hb; clear hb hbox hg; obtain ⟨Ao216, co216, eo216⟩ := Kd.S_slice HO434.out; subst eo216; have hnb217 := NB438_416.out; have hnc217 := NB416_438.out; have hnb218 := NB438_427.out; have hnc218 := NB427_438.out; obtain ⟨hcz219_0, hcz219_1, hcz219_2, hcz219_3, hfz219_0, hfz219_1, hfz219_2, hfz219_3⟩ := cellsF4 BK438.out; obtain ⟨hcz220_0, hcz220_1, hcz220_2, hcz220_3, hfz220_0, hfz220_1, hfz220_2, hfz220_3⟩ := cellsF4 BK427.out) | ((with_reducible refine gate_callee (f := 52) rfl ?_); refine gl_ 23 Try.func52 #[.agg #[.slice Ao216 t432.length co216, .int .i64 t435, .int .i64 t436, .int .i64 t437], .agg #[.slice Ao209 t421.length co209, .int .i64 t424, .int .i64 t425, .int .i64 t426]] ?_ rfl rfl rfl rfl; (with_reducible refine (F52.calls k _ _ t432 t435 t436 t437 _ _ t421 t424 t425 t426 false _ ?s1 ?s2 ?s3 ?s4 A9.out).mono ?_); (case s1 => refine (Kd.S_reads' (e := 59) (base := w.heap.size) (ok := fun k_ => (True ∧ some k_ ≠ (.slice Ao209 t421.length co209 : Value).ownBlock)) (n := t432.length) (c := co216) ?_).2.2; exact au5_24); (case s2 => exact au5_41); (case s3 => refine (Kd.S_reads' (e := 59) (base := w.heap.size) (ok := fun k_ => (True ∧ some k_ ≠ (.slice Ao216 t432.length co216 : Value).ownBlock)) (n := t421.length) (c := co209) ?_).2.2; exact au5_25); (case s4 => exact au5_35); rintro e w221 ⟨rfl, hb⟩; refine ⟨_, rfl, ?_⟩; replace HO423 := am_ (Kd.S_below au5_25 hb); replace HO434 := am_ (Kd.S_below au5_24 hb); replace BK416 := am_ (blk_below (g := gb416) (o := .cells #[.int .i64 a0_0, .int .i64 a0_1, .int .i64 a0_2, .int .i64 a0_3] 29 (0, 0)) (bf_ BK416) hb); replace BK427 := am_ (blk_below (g := gb427) (o := .cells #[.slice Ao209 t421.length co209, .int .i64 t424, .int .i64 t425, .int .i64 t426] 78 (0, 0)) (bf_ BK427) hb); replace BK438 := am_ (blk_below (g := gb438) (o := .cells #[.slice Ao216 t432.length co216, .int .i64 t435, .int .i64 t436, .int .i64 t437] 78 (0, 0)) (bq_ BK438) hb); replace HB := hs_ w hb; (try clear hb); (try clear hb2); (try clear hk); (try clear hi)))
  go_ret
  exact ⟨au5_2, bl_⟩

 replace H := bi_ H; rcases H with ⟨⟨t440, t441⟩, A11, H⟩
 replace H := bi_ H; rcases H with ⟨t442, A12, H⟩
 replace H := it_ H; rcases H with ⟨c13b0, H⟩ | ⟨c13b0, H⟩
 ·obtain rfl := Option.some.inj H
  go_enter Try.func13, Try.ntmps13
  go_wp2_with (first | ((with_reducible refine gate_dst (N := 2) rfl ?_); refine be_ 2 #[.int .i64 a0_0, .int .i64 a0_1, .int .i64 a0_2, .int .i64 a0_3] 29 ?_; intro gb416 hg w14 hbox hb; have BK416 := am_ (hbox); have GW416 := am_ (gw_ hg bl_); have GE416 := GW416; replace HB := hs_ w hb; clear hb hbox hg; obtain ⟨hcz15_0, hcz15_1, hcz15_2, hcz15_3, hfz15_0, hfz15_1, hfz15_2, hfz15_3⟩ := cellsF4 BK416.out) | ((with_reducible refine gate_callee (f := 19) rfl ?_); refine gl_ 14 Try.func19 #[.agg #[.int .i64 a0_0, .int .i64 a0_1, .int .i64 a0_2, .int .i64 a0_3]] ?_ rfl rfl rfl rfl; (with_reducible refine (F19.calls a0_0 a0_1 a0_2 a0_3 t417 t418 t419 t420 _ A5.out).mono ?_); rintro e w16 ⟨rfl, hb⟩; refine ⟨_, rfl, ?_⟩; replace BK416 := bb_ BK416 hb; replace HB := hs_ w hb; (try clear hb)) | ((with_reducible refine gate_callee (f := 50) rfl ?_); refine gl_ 16 Try.func50 #[.agg #[.int .i64 t417, .int .i64 t418, .int .i64 t419, .int .i64 t420], .string a1] ?_ rfl rfl rfl rfl; (with_reducible refine (F50.calls k t417 t418 t419 t420 a1 t421 t424 t425 t426 _ A6.out).mono ?_); rintro e w17 ⟨v422, rfl, ho0, hb⟩; refine ⟨_, rfl, ?_⟩; have HO423 := am_ (Kd.S_lower ho0 (below_size bl_)); replace BK416 := bb_ BK416 hb; replace HB := hs_ w hb; (try clear hb); (try clear ho0)) | ((with_reducible refine gate_dst (N := 5) rfl ?_); refine be_ 5 #[.slice none 0 0, .int .i64 0, .int .i64 0, .int .i64 0] 78 ?_; intro gb427 hg w18 hbox hb; replace HO423 := am_ (Kd.S_below au5_0 hb); have BK427 := am_ (hbox); have GW427 := am_ (gw_ hg bl_); have GE427 := GW427; replace HB := hs_ w hb; have NB416_427 := am_ (gn_ hg (blkl_ BK416)); have NB427_416 := am_ (gm_ hg (blkl_ BK416)); replace BK416 := bb_ BK416 hb; clear hb hbox hg; obtain ⟨Ao19, co19, eo19⟩ := Kd.S_slice HO423.out; subst eo19; have hnb20 := NB427_416.out; have hnc20 := NB416_427.out; obtain ⟨hcz21_0, hcz21_1, hcz21_2, hcz21_3, hfz21_0, hfz21_1, hfz21_2, hfz21_3⟩ := cellsF4 BK427.out; obtain ⟨hcz22_0, hcz22_1, hcz22_2, hcz22_3, hfz22_0, hfz22_1, hfz22_2, hfz22_3⟩ := cellsF4 BK416.out) | ((with_reducible refine gate_callee (f := 19) rfl ?_); refine gl_ 18 Try.func19 #[.agg #[.int .i64 a0_0, .int .i64 a0_1, .int .i64 a0_2, .int .i64 a0_3]] ?_ rfl rfl rfl rfl; (with_reducible refine (F19.calls a0_0 a0_1 a0_2 a0_3 t428 t429 t430 t431 _ A7.out).mono ?_); rintro e w23 ⟨rfl, hb⟩; refine ⟨_, rfl, ?_⟩; replace HO423 := am_ (Kd.S_below (by (with_reducible repeat (first | apply Kd.S_alloc | apply Kd.S_drewN | apply Kd.S_drew)); exact (Kd.S_mono (Kd.S_far (p := ⟨gb427, 3, none⟩) (Kd.S_far (p := ⟨gb427, 2, none⟩) (Kd.S_far (p := ⟨gb427, 1, none⟩) (Kd.S_far (p := ⟨gb427, 0, none⟩) (Kd.S_types HO423.out BK427.out (by decide)) (fun _ hk => hk.2) (.slice Ao19 t421.length co19)) (fun _ hk => hk.2) (.int .i64 t424)) (fun _ hk => hk.2) (.int .i64 t425)) (fun _ hk => hk.2) (.int .i64 t426)) (fun _ h_ => h_.1))) hb); replace BK416 := am_ (blk_below (g := gb416) (o := .cells #[.int .i64 a0_0, .int .i64 a0_1, .int .i64 a0_2, .int .i64 a0_3] 29 (0, 0)) (bf_ BK416) hb); replace BK427 := am_ (blk_below (g := gb427) (o := .cells #[.slice Ao19 t421.length co19, .int .i64 t424, .int .i64 t425, .int .i64 t426] 78 (0, 0)) (bq_ BK427) hb); replace HB := hs_ w hb; (try clear hb); (try clear hb2); (try clear hk); (try clear hi)) | ((with_reducible refine gate_callee (f := 51) rfl ?_); refine gl_ 20 Try.func51 #[.agg #[.int .i64 t428, .int .i64 t429, .int .i64 t430, .int .i64 t431], .string a1] ?_ rfl rfl rfl rfl; (with_reducible refine (F51.calls k t428 t429 t430 t431 a1 t432 t435 t436 t437 _ A8.out).mono ?_); rintro e w24 ⟨v433, rfl, ho0, hb⟩; refine ⟨_, rfl, ?_⟩; obtain ⟨b9_, n1_, n2_⟩ := ap_ au5_0 ho0 hb (below_size bl_); have HO434 := am_ n1_; replace HO423 := am_ n2_; clear n1_ n2_; replace BK416 := bb_ BK416 hb; replace BK427 := bb_ BK427 hb; replace HB := hs_ w hb; (try clear hb); (try clear hb2); (try clear hk); (try clear hi); (try clear ho0)) | ((with_reducible refine gate_dst (N := 6) rfl ?_); refine be_ 6 #[.slice none 0 0, .int .i64 0, .int .i64 0, .int .i64 0] 78 ?_; intro gb438 hg w25 hbox hb; replace HO423 := am_ (Kd.S_below au5_0 hb); replace HO434 := am_ (Kd.S_below au5_1 hb); have BK438 := am_ (hbox); have GW438 := am_ (gw_ hg bl_); have GE438 := GW438; replace HB := hs_ w hb; have NB416_438 := am_ (gn_ hg (blkl_ BK416)); have NB438_416 := am_ (gm_ hg (blkl_ BK416)); replace BK416 := bb_ BK416 hb; have NB427_438 := am_ (gn_ hg (blkl_ BK427)); have NB438_427 := am_ (gm_ hg (blkl_ BK427)); replace BK427 := bb_ BK427 hb; clear hb hbox hg; obtain ⟨Ao26, co26, eo26⟩ := Kd.S_slice HO434.out; subst eo26; have hnb27 := NB438_416.out; have hnc27 := NB416_438.out; have hnb28 := NB438_427.out; have hnc28 := NB427_438.out; obtain ⟨hcz29_0, hcz29_1, hcz29_2, hcz29_3, hfz29_0, hfz29_1, hfz29_2, hfz29_3⟩ := cellsF4 BK438.out; obtain ⟨hcz30_0, hcz30_1, hcz30_2, hcz30_3, hfz30_0, hfz30_1, hfz30_2, hfz30_3⟩ := cellsF4 BK427.out) | ((with_reducible refine gate_callee (f := 52) rfl ?_); refine gl_ 23 Try.func52 #[.agg #[.slice Ao26 t432.length co26, .int .i64 t435, .int .i64 t436, .int .i64 t437], .agg #[.slice Ao19 t421.length co19, .int .i64 t424, .int .i64 t425, .int .i64 t426]] ?_ rfl rfl rfl rfl; (with_reducible refine (F52.calls k _ _ t432 t435 t436 t437 _ _ t421 t424 t425 t426 true _ ?s1 ?s2 ?s3 ?s4 A9.out).mono ?_); (case s1 => refine (Kd.S_reads' (e := 59) (base := w.heap.size) (ok := fun k_ => (b9_ ≤ k_ ∧ some k_ ≠ (.slice Ao19 t421.length co19 : Value).ownBlock)) (n := t432.length) (c := co26) ?_).2.2; exact au5_26); (case s2 => exact au5_41); (case s3 => refine (Kd.S_reads' (e := 59) (base := w.heap.size) (ok := fun k_ => (k_ < b9_ ∧ some k_ ≠ (.slice Ao26 t432.length co26 : Value).ownBlock)) (n := t421.length) (c := co19) ?_).2.2; exact au5_27); (case s4 => exact au5_35); rintro e w31 ⟨rfl, hb⟩; refine ⟨_, rfl, ?_⟩; replace HO423 := am_ (Kd.S_below au5_27 hb); replace HO434 := am_ (Kd.S_below au5_26 hb); replace BK416 := am_ (blk_below (g := gb416) (o := .cells #[.int .i64 a0_0, .int .i64 a0_1, .int .i64 a0_2, .int .i64 a0_3] 29 (0, 0)) (bf_ BK416) hb); replace BK427 := am_ (blk_below (g := gb427) (o := .cells #[.slice Ao19 t421.length co19, .int .i64 t424, .int .i64 t425, .int .i64 t426] 78 (0, 0)) (bf_ BK427) hb); replace BK438 := am_ (blk_below (g := gb438) (o := .cells #[.slice Ao26 t432.length co26, .int .i64 t435, .int .i64 t436, .int .i64 t437] 78 (0, 0)) (bq_ BK438) hb); replace HB := hs_ w hb; (try clear hb); (try clear hb2); (try clear hk); (try clear hi); obtain ⟨hcz32_0, hcz32_1, hcz32_2, hcz32_3, hfz32_0, hfz32_1, hfz32_2, hfz32_3⟩ := cellsF4 BK438.out) | ((with_reducible refine gate_callee (f := 53) rfl ?_); obtain ⟨P9_, HP9_, HQ9_⟩ := pp_ HO434; refine gl_ 27 Try.func53 #[.agg #[.slice Ao26 t432.length co26, .int .i64 t435, .int .i64 t436, .int .i64 t437], .int .i64 1] ?_ rfl rfl rfl rfl; (with_reducible refine (F53.calls k P9_ (.slice Ao26 t432.length co26) t432 t435 t436 t437 1 t440 t441 w _ ?s1 ?s2 A11.out).mono ?_); (case s1 => exact au5_5); (case s2 => (with_reducible repeat (first | apply Kd.S_alloc | apply Kd.S_drewN | apply Kd.S_drew)); exact HP9_.out); rintro e w33 ⟨rfl, hy0, hb, hkp⟩; refine ⟨_, rfl, ?_⟩; replace BK416 := am_ (blk_kept (bk_ BK416) hkp (fun hs_ => nt_ (HQ9_.out _ hs_).2 BK416.out (by decide))); replace HO423 := am_ (Kd.S_mono (ok' := fun k_ => some k_ ≠ (.slice Ao26 t432.length co26 : Value).ownBlock) (Kd.S_keptB (HO423.out) hkp (fun k_ hk_ hs_ => Nat.not_le.2 hk_.1 (HQ9_.out _ hs_).1.1)) (fun k_ hk_ => hk_.1.2)); replace BK427 := am_ (blk_kept (bk_ BK427) hkp (fun hs_ => nt_ (HQ9_.out _ hs_).2 BK427.out (by decide))); replace BK438 := am_ (blk_kept (bk_ BK438) hkp (fun hs_ => nt_ (HQ9_.out _ hs_).2 BK438.out (by decide))); replace HO434 := am_ hy0; replace HB := am_ (hb); (try clear hb); (try clear hkp); (try clear hy0); obtain ⟨hcz34_0, hcz34_1, hcz34_2, hcz34_3, hfz34_0, hfz34_1, hfz34_2, hfz34_3⟩ := cellsF4 BK438.out) | ((with_reducible refine gate_callee (f := 54) rfl ?_); refine goesL_ (some 30) rfl rfl Try.func54 (by kernel_rfl) rfl #[.agg #[.slice Ao26 t441.length co26, .int .i64 t435, .int .i64 t436, .int .i64 t437], .int .i64 1] rfl au5_3 ?_; (with_reducible refine (F54.calls k _ _ t441 t435 t436 t437 1 t442 _ ?s1 ?s2 A12.out).mono ?_); (case s1 => exact au5_4); (case s2 => exact au5_8); rintro e w35 ⟨rfl, hb⟩; refine ⟨_, rfl, ?_⟩; replace HO423 := am_ (Kd.S_below au5_0 hb); replace HO434 := am_ (Kd.S_below au5_1 hb); replace BK416 := bb_ BK416 hb; replace BK427 := bb_ BK427 hb; replace BK438 := bb_ BK438 hb; replace HB := hs_ w hb; (try clear hb); (try clear hb2); (try clear hk); (try clear hi)))
  go_ret
  exact ⟨au5_2, bl_⟩
 by_cases c36 : t442 = t440
 rotate_left
 ·rw [if_neg c36] at H
  have c36b0 : (t442 == t440) = false := beq_eq_false_iff_ne.mpr c36
  have c36b1 : (t442 != t440) = true := bne_iff_ne.mpr c36
  obtain rfl := Option.some.inj H
  go_enter Try.func13, Try.ntmps13
  go_wp2_with (first | ((with_reducible refine gate_dst (N := 2) rfl ?_); refine be_ 2 #[.int .i64 a0_0, .int .i64 a0_1, .int .i64 a0_2, .int .i64 a0_3] 29 ?_; intro gb416 hg w182 hbox hb; have BK416 := am_ (hbox); have GW416 := am_ (gw_ hg bl_); have GE416 := GW416; replace HB := hs_ w hb; clear hb hbox hg; obtain ⟨hcz183_0, hcz183_1, hcz183_2, hcz183_3, hfz183_0, hfz183_1, hfz183_2, hfz183_3⟩ := cellsF4 BK416.out) | ((with_reducible refine gate_callee (f := 19) rfl ?_); refine gl_ 14 Try.func19 #[.agg #[.int .i64 a0_0, .int .i64 a0_1, .int .i64 a0_2, .int .i64 a0_3]] ?_ rfl rfl rfl rfl; (with_reducible refine (F19.calls a0_0 a0_1 a0_2 a0_3 t417 t418 t419 t420 _ A5.out).mono ?_); rintro e w184 ⟨rfl, hb⟩; refine ⟨_, rfl, ?_⟩; replace BK416 := bb_ BK416 hb; replace HB := hs_ w hb; (try clear hb)) | ((with_reducible refine gate_callee (f := 50) rfl ?_); refine gl_ 16 Try.func50 #[.agg #[.int .i64 t417, .int .i64 t418, .int .i64 t419, .int .i64 t420], .string a1] ?_ rfl rfl rfl rfl; (with_reducible refine (F50.calls k t417 t418 t419 t420 a1 t421 t424 t425 t426 _ A6.out).mono ?_); rintro e w185 ⟨v422, rfl, ho0, hb⟩; refine ⟨_, rfl, ?_⟩; have HO423 := am_ (Kd.S_lower ho0 (below_size bl_)); replace BK416 := bb_ BK416 hb; replace HB := hs_ w hb; (try clear hb); (try clear ho0)) | ((with_reducible refine gate_dst (N := 5) rfl ?_); refine be_ 5 #[.slice none 0 0, .int .i64 0, .int .i64 0, .int .i64 0] 78 ?_; intro gb427 hg w186 hbox hb; replace HO423 := am_ (Kd.S_below au5_0 hb); have BK427 := am_ (hbox); have GW427 := am_ (gw_ hg bl_); have GE427 := GW427; replace HB := hs_ w hb; have NB416_427 := am_ (gn_ hg (blkl_ BK416)); have NB427_416 := am_ (gm_ hg (blkl_ BK416)); replace BK416 := bb_ BK416 hb; clear hb hbox hg; obtain ⟨Ao187, co187, eo187⟩ := Kd.S_slice HO423.out; subst eo187; have hnb188 := NB427_416.out; have hnc188 := NB416_427.out; obtain ⟨hcz189_0, hcz189_1, hcz189_2, hcz189_3, hfz189_0, hfz189_1, hfz189_2, hfz189_3⟩ := cellsF4 BK427.out; obtain ⟨hcz190_0, hcz190_1, hcz190_2, hcz190_3, hfz190_0, hfz190_1, hfz190_2, hfz190_3⟩ := cellsF4 BK416.out) | ((with_reducible refine gate_callee (f := 19) rfl ?_); refine gl_ 18 Try.func19 #[.agg #[.int .i64 a0_0, .int .i64 a0_1, .int .i64 a0_2, .int .i64 a0_3]] ?_ rfl rfl rfl rfl; (with_reducible refine (F19.calls a0_0 a0_1 a0_2 a0_3 t428 t429 t430 t431 _ A7.out).mono ?_); rintro e w191 ⟨rfl, hb⟩; refine ⟨_, rfl, ?_⟩; replace HO423 := am_ (Kd.S_below (by (with_reducible repeat (first | apply Kd.S_alloc | apply Kd.S_drewN | apply Kd.S_drew)); exact (Kd.S_mono (Kd.S_far (p := ⟨gb427, 3, none⟩) (Kd.S_far (p := ⟨gb427, 2, none⟩) (Kd.S_far (p := ⟨gb427, 1, none⟩) (Kd.S_far (p := ⟨gb427, 0, none⟩) (Kd.S_types HO423.out BK427.out (by decide)) (fun _ hk => hk.2) (.slice Ao187 t421.length co187)) (fun _ hk => hk.2) (.int .i64 t424)) (fun _ hk => hk.2) (.int .i64 t425)) (fun _ hk => hk.2) (.int .i64 t426)) (fun _ h_ => h_.1))) hb); replace BK416 := am_ (blk_below (g := gb416) (o := .cells #[.int .i64 a0_0, .int .i64 a0_1, .int .i64 a0_2, .int .i64 a0_3] 29 (0, 0)) (bf_ BK416) hb); replace BK427 := am_ (blk_below (g := gb427) (o := .cells #[.slice Ao187 t421.length co187, .int .i64 t424, .int .i64 t425, .int .i64 t426] 78 (0, 0)) (bq_ BK427) hb); replace HB := hs_ w hb; (try clear hb); (try clear hb2); (try clear hk); (try clear hi)) | ((with_reducible refine gate_callee (f := 51) rfl ?_); refine gl_ 20 Try.func51 #[.agg #[.int .i64 t428, .int .i64 t429, .int .i64 t430, .int .i64 t431], .string a1] ?_ rfl rfl rfl rfl; (with_reducible refine (F51.calls k t428 t429 t430 t431 a1 t432 t435 t436 t437 _ A8.out).mono ?_); rintro e w192 ⟨v433, rfl, ho0, hb⟩; refine ⟨_, rfl, ?_⟩; obtain ⟨b9_, n1_, n2_⟩ := ap_ au5_0 ho0 hb (below_size bl_); have HO434 := am_ n1_; replace HO423 := am_ n2_; clear n1_ n2_; replace BK416 := bb_ BK416 hb; replace BK427 := bb_ BK427 hb; replace HB := hs_ w hb; (try clear hb); (try clear hb2); (try clear hk); (try clear hi); (try clear ho0)) | ((with_reducible refine gate_dst (N := 6) rfl ?_); refine be_ 6 #[.slice none 0 0, .int .i64 0, .int .i64 0, .int .i64 0] 78 ?_; intro gb438 hg w193 hbox hb; replace HO423 := am_ (Kd.S_below au5_0 hb); replace HO434 := am_ (Kd.S_below au5_1 hb); have BK438 := am_ (hbox); have GW438 := am_ (gw_ hg bl_); have GE438 := GW438; replace HB := hs_ w hb; have NB416_438 := am_ (gn_ hg (blkl_ BK416)); have NB438_416 := am_ (gm_ hg (blkl_ BK416)); replace BK416 := bb_ BK416 hb; have NB427_438 := am_ (gn_ hg (blkl_ BK427)); have NB438_427 := am_ (gm_ hg (blkl_ BK427)); replace BK427 := bb_ BK427 hb; clear hb hbox hg; obtain ⟨Ao194, co194, eo194⟩ := Kd.S_slice HO434.out; subst eo194; have hnb195 := NB438_416.out; have hnc195 := NB416_438.out; have hnb196 := NB438_427.out; have hnc196 := NB427_438.out; obtain ⟨hcz197_0, hcz197_1, hcz197_2, hcz197_3, hfz197_0, hfz197_1, hfz197_2, hfz197_3⟩ := cellsF4 BK438.out; obtain ⟨hcz198_0, hcz198_1, hcz198_2, hcz198_3, hfz198_0, hfz198_1, hfz198_2, hfz198_3⟩ := cellsF4 BK427.out) | ((with_reducible refine gate_callee (f := 52) rfl ?_); refine gl_ 23 Try.func52 #[.agg #[.slice Ao194 t432.length co194, .int .i64 t435, .int .i64 t436, .int .i64 t437], .agg #[.slice Ao187 t421.length co187, .int .i64 t424, .int .i64 t425, .int .i64 t426]] ?_ rfl rfl rfl rfl; (with_reducible refine (F52.calls k _ _ t432 t435 t436 t437 _ _ t421 t424 t425 t426 true _ ?s1 ?s2 ?s3 ?s4 A9.out).mono ?_); (case s1 => refine (Kd.S_reads' (e := 59) (base := w.heap.size) (ok := fun k_ => (b9_ ≤ k_ ∧ some k_ ≠ (.slice Ao187 t421.length co187 : Value).ownBlock)) (n := t432.length) (c := co194) ?_).2.2; exact au5_22); (case s2 => exact au5_41); (case s3 => refine (Kd.S_reads' (e := 59) (base := w.heap.size) (ok := fun k_ => (k_ < b9_ ∧ some k_ ≠ (.slice Ao194 t432.length co194 : Value).ownBlock)) (n := t421.length) (c := co187) ?_).2.2; exact au5_23); (case s4 => exact au5_35); rintro e w199 ⟨rfl, hb⟩; refine ⟨_, rfl, ?_⟩; replace HO423 := am_ (Kd.S_below au5_23 hb); replace HO434 := am_ (Kd.S_below au5_22 hb); replace BK416 := am_ (blk_below (g := gb416) (o := .cells #[.int .i64 a0_0, .int .i64 a0_1, .int .i64 a0_2, .int .i64 a0_3] 29 (0, 0)) (bf_ BK416) hb); replace BK427 := am_ (blk_below (g := gb427) (o := .cells #[.slice Ao187 t421.length co187, .int .i64 t424, .int .i64 t425, .int .i64 t426] 78 (0, 0)) (bf_ BK427) hb); replace BK438 := am_ (blk_below (g := gb438) (o := .cells #[.slice Ao194 t432.length co194, .int .i64 t435, .int .i64 t436, .int .i64 t437] 78 (0, 0)) (bq_ BK438) hb); replace HB := hs_ w hb; (try clear hb); (try clear hb2); (try clear hk); (try clear hi); obtain ⟨hcz200_0, hcz200_1, hcz200_2, hcz200_3, hfz200_0, hfz200_1, hfz200_2, hfz200_3⟩ := cellsF4 BK438.out) | ((with_reducible refine gate_callee (f := 53) rfl ?_); obtain ⟨P9_, HP9_, HQ9_⟩ := pp_ HO434; refine gl_ 27 Try.func53 #[.agg #[.slice Ao194 t432.length co194, .int .i64 t435, .int .i64 t436, .int .i64 t437], .int .i64 1] ?_ rfl rfl rfl rfl; (with_reducible refine (F53.calls k P9_ (.slice Ao194 t432.length co194) t432 t435 t436 t437 1 t440 t441 w _ ?s1 ?s2 A11.out).mono ?_); (case s1 => exact au5_5); (case s2 => (with_reducible repeat (first | apply Kd.S_alloc | apply Kd.S_drewN | apply Kd.S_drew)); exact HP9_.out); rintro e w201 ⟨rfl, hy0, hb, hkp⟩; refine ⟨_, rfl, ?_⟩; replace BK416 := am_ (blk_kept (bk_ BK416) hkp (fun hs_ => nt_ (HQ9_.out _ hs_).2 BK416.out (by decide))); replace HO423 := am_ (Kd.S_mono (ok' := fun k_ => some k_ ≠ (.slice Ao194 t432.length co194 : Value).ownBlock) (Kd.S_keptB (HO423.out) hkp (fun k_ hk_ hs_ => Nat.not_le.2 hk_.1 (HQ9_.out _ hs_).1.1)) (fun k_ hk_ => hk_.1.2)); replace BK427 := am_ (blk_kept (bk_ BK427) hkp (fun hs_ => nt_ (HQ9_.out _ hs_).2 BK427.out (by decide))); replace BK438 := am_ (blk_kept (bk_ BK438) hkp (fun hs_ => nt_ (HQ9_.out _ hs_).2 BK438.out (by decide))); replace HO434 := am_ hy0; replace HB := am_ (hb); (try clear hb); (try clear hkp); (try clear hy0); obtain ⟨hcz202_0, hcz202_1, hcz202_2, hcz202_3, hfz202_0, hfz202_1, hfz202_2, hfz202_3⟩ := cellsF4 BK438.out) | ((with_reducible refine gate_callee (f := 54) rfl ?_); refine goesL_ (some 30) rfl rfl Try.func54 (by kernel_rfl) rfl #[.agg #[.slice Ao194 t441.length co194, .int .i64 t435, .int .i64 t436, .int .i64 t437], .int .i64 1] rfl au5_3 ?_; (with_reducible refine (F54.calls k _ _ t441 t435 t436 t437 1 t442 _ ?s1 ?s2 A12.out).mono ?_); (case s1 => exact au5_4); (case s2 => exact au5_8); rintro e w203 ⟨rfl, hb⟩; refine ⟨_, rfl, ?_⟩; replace HO423 := am_ (Kd.S_below au5_0 hb); replace HO434 := am_ (Kd.S_below au5_1 hb); replace BK416 := bb_ BK416 hb; replace BK427 := bb_ BK427 hb; replace BK438 := bb_ BK438 hb; replace HB := hs_ w hb; (try clear hb); (try clear hb2); (try clear hk); (try clear hi)))
  go_ret
  exact ⟨au5_2, bl_⟩
 rw [if_pos c36] at H
 have c36b0 : (t442 == t440) = true := beq_iff_eq.mpr c36
 have c36b1 : (t442 != t440) = false := bne_eq_false_iff_eq.mpr c36
 clear c36
 replace H := bi_ H; rcases H with ⟨⟨t443, t444, t445, t446⟩, A37, H⟩
 replace H := bi_ H; rcases H with ⟨⟨t447, t450, t451, t452⟩, A38, H⟩
 replace H := bi_ H; rcases H with ⟨t454, A39, H⟩
 replace H := ib_ H; rcases H with ⟨rfl, H⟩ | ⟨rfl, H⟩
 rotate_left
 ·obtain rfl := Option.some.inj H
  go_enter Try.func13, Try.ntmps13
  go_wp2_with (first | ((with_reducible refine gate_dst (N := 2) rfl ?_); refine be_ 2 #[.int .i64 a0_0, .int .i64 a0_1, .int .i64 a0_2, .int .i64 a0_3] 29 ?_; intro gb416 hg w149 hbox hb; have BK416 := am_ (hbox); have GW416 := am_ (gw_ hg bl_); have GE416 := GW416; replace HB := hs_ w hb; clear hb hbox hg; obtain ⟨hcz150_0, hcz150_1, hcz150_2, hcz150_3, hfz150_0, hfz150_1, hfz150_2, hfz150_3⟩ := cellsF4 BK416.out) | ((with_reducible refine gate_callee (f := 19) rfl ?_); refine gl_ 14 Try.func19 #[.agg #[.int .i64 a0_0, .int .i64 a0_1, .int .i64 a0_2, .int .i64 a0_3]] ?_ rfl rfl rfl rfl; (with_reducible refine (F19.calls a0_0 a0_1 a0_2 a0_3 t417 t418 t419 t420 _ A5.out).mono ?_); rintro e w151 ⟨rfl, hb⟩; refine ⟨_, rfl, ?_⟩; replace BK416 := bb_ BK416 hb; replace HB := hs_ w hb; (try clear hb)) | ((with_reducible refine gate_callee (f := 50) rfl ?_); refine gl_ 16 Try.func50 #[.agg #[.int .i64 t417, .int .i64 t418, .int .i64 t419, .int .i64 t420], .string a1] ?_ rfl rfl rfl rfl; (with_reducible refine (F50.calls k t417 t418 t419 t420 a1 t421 t424 t425 t426 _ A6.out).mono ?_); rintro e w152 ⟨v422, rfl, ho0, hb⟩; refine ⟨_, rfl, ?_⟩; have HO423 := am_ (Kd.S_lower ho0 (below_size bl_)); replace BK416 := bb_ BK416 hb; replace HB := hs_ w hb; (try clear hb); (try clear ho0)) | ((with_reducible refine gate_dst (N := 5) rfl ?_); refine be_ 5 #[.slice none 0 0, .int .i64 0, .int .i64 0, .int .i64 0] 78 ?_; intro gb427 hg w153 hbox hb; replace HO423 := am_ (Kd.S_below au5_0 hb); have BK427 := am_ (hbox); have GW427 := am_ (gw_ hg bl_); have GE427 := GW427; replace HB := hs_ w hb; have NB416_427 := am_ (gn_ hg (blkl_ BK416)); have NB427_416 := am_ (gm_ hg (blkl_ BK416)); replace BK416 := bb_ BK416 hb; clear hb hbox hg; obtain ⟨Ao154, co154, eo154⟩ := Kd.S_slice HO423.out; subst eo154; have hnb155 := NB427_416.out; have hnc155 := NB416_427.out; obtain ⟨hcz156_0, hcz156_1, hcz156_2, hcz156_3, hfz156_0, hfz156_1, hfz156_2, hfz156_3⟩ := cellsF4 BK427.out; obtain ⟨hcz157_0, hcz157_1, hcz157_2, hcz157_3, hfz157_0, hfz157_1, hfz157_2, hfz157_3⟩ := cellsF4 BK416.out) | ((with_reducible refine gate_callee (f := 19) rfl ?_); refine gl_ 18 Try.func19 #[.agg #[.int .i64 a0_0, .int .i64 a0_1, .int .i64 a0_2, .int .i64 a0_3]] ?_ rfl rfl rfl rfl; (with_reducible refine (F19.calls a0_0 a0_1 a0_2 a0_3 t428 t429 t430 t431 _ A7.out).mono ?_); rintro e w158 ⟨rfl, hb⟩; refine ⟨_, rfl, ?_⟩; replace HO423 := am_ (Kd.S_below (by (with_reducible repeat (first | apply Kd.S_alloc | apply Kd.S_drewN | apply Kd.S_drew)); exact (Kd.S_mono (Kd.S_far (p := ⟨gb427, 3, none⟩) (Kd.S_far (p := ⟨gb427, 2, none⟩) (Kd.S_far (p := ⟨gb427, 1, none⟩) (Kd.S_far (p := ⟨gb427, 0, none⟩) (Kd.S_types HO423.out BK427.out (by decide)) (fun _ hk => hk.2) (.slice Ao154 t421.length co154)) (fun _ hk => hk.2) (.int .i64 t424)) (fun _ hk => hk.2) (.int .i64 t425)) (fun _ hk => hk.2) (.int .i64 t426)) (fun _ h_ => h_.1))) hb); replace BK416 := am_ (blk_below (g := gb416) (o := .cells #[.int .i64 a0_0, .int .i64 a0_1, .int .i64 a0_2, .int .i64 a0_3] 29 (0, 0)) (bf_ BK416) hb); replace BK427 := am_ (blk_below (g := gb427) (o := .cells #[.slice Ao154 t421.length co154, .int .i64 t424, .int .i64 t425, .int .i64 t426] 78 (0, 0)) (bq_ BK427) hb); replace HB := hs_ w hb; (try clear hb); (try clear hb2); (try clear hk); (try clear hi)) | ((with_reducible refine gate_callee (f := 51) rfl ?_); refine gl_ 20 Try.func51 #[.agg #[.int .i64 t428, .int .i64 t429, .int .i64 t430, .int .i64 t431], .string a1] ?_ rfl rfl rfl rfl; (with_reducible refine (F51.calls k t428 t429 t430 t431 a1 t432 t435 t436 t437 _ A8.out).mono ?_); rintro e w159 ⟨v433, rfl, ho0, hb⟩; refine ⟨_, rfl, ?_⟩; obtain ⟨b9_, n1_, n2_⟩ := ap_ au5_0 ho0 hb (below_size bl_); have HO434 := am_ n1_; replace HO423 := am_ n2_; clear n1_ n2_; replace BK416 := bb_ BK416 hb; replace BK427 := bb_ BK427 hb; replace HB := hs_ w hb; (try clear hb); (try clear hb2); (try clear hk); (try clear hi); (try clear ho0)) | ((with_reducible refine gate_dst (N := 6) rfl ?_); refine be_ 6 #[.slice none 0 0, .int .i64 0, .int .i64 0, .int .i64 0] 78 ?_; intro gb438 hg w160 hbox hb; replace HO423 := am_ (Kd.S_below au5_0 hb); replace HO434 := am_ (Kd.S_below au5_1 hb); have BK438 := am_ (hbox); have GW438 := am_ (gw_ hg bl_); have GE438 := GW438; replace HB := hs_ w hb; have NB416_438 := am_ (gn_ hg (blkl_ BK416)); have NB438_416 := am_ (gm_ hg (blkl_ BK416)); replace BK416 := bb_ BK416 hb; have NB427_438 := am_ (gn_ hg (blkl_ BK427)); have NB438_427 := am_ (gm_ hg (blkl_ BK427)); replace BK427 := bb_ BK427 hb; clear hb hbox hg; obtain ⟨Ao161, co161, eo161⟩ := Kd.S_slice HO434.out; subst eo161; have hnb162 := NB438_416.out; have hnc162 := NB416_438.out; have hnb163 := NB438_427.out; have hnc163 := NB427_438.out; obtain ⟨hcz164_0, hcz164_1, hcz164_2, hcz164_3, hfz164_0, hfz164_1, hfz164_2, hfz164_3⟩ := cellsF4 BK438.out; obtain ⟨hcz165_0, hcz165_1, hcz165_2, hcz165_3, hfz165_0, hfz165_1, hfz165_2, hfz165_3⟩ := cellsF4 BK427.out) | ((with_reducible refine gate_callee (f := 52) rfl ?_); refine gl_ 23 Try.func52 #[.agg #[.slice Ao161 t432.length co161, .int .i64 t435, .int .i64 t436, .int .i64 t437], .agg #[.slice Ao154 t421.length co154, .int .i64 t424, .int .i64 t425, .int .i64 t426]] ?_ rfl rfl rfl rfl; (with_reducible refine (F52.calls k _ _ t432 t435 t436 t437 _ _ t421 t424 t425 t426 true _ ?s1 ?s2 ?s3 ?s4 A9.out).mono ?_); (case s1 => refine (Kd.S_reads' (e := 59) (base := w.heap.size) (ok := fun k_ => (b9_ ≤ k_ ∧ some k_ ≠ (.slice Ao154 t421.length co154 : Value).ownBlock)) (n := t432.length) (c := co161) ?_).2.2; exact au5_18); (case s2 => exact au5_41); (case s3 => refine (Kd.S_reads' (e := 59) (base := w.heap.size) (ok := fun k_ => (k_ < b9_ ∧ some k_ ≠ (.slice Ao161 t432.length co161 : Value).ownBlock)) (n := t421.length) (c := co154) ?_).2.2; exact au5_19); (case s4 => exact au5_35); rintro e w166 ⟨rfl, hb⟩; refine ⟨_, rfl, ?_⟩; replace HO423 := am_ (Kd.S_below au5_19 hb); replace HO434 := am_ (Kd.S_below au5_18 hb); replace BK416 := am_ (blk_below (g := gb416) (o := .cells #[.int .i64 a0_0, .int .i64 a0_1, .int .i64 a0_2, .int .i64 a0_3] 29 (0, 0)) (bf_ BK416) hb); replace BK427 := am_ (blk_below (g := gb427) (o := .cells #[.slice Ao154 t421.length co154, .int .i64 t424, .int .i64 t425, .int .i64 t426] 78 (0, 0)) (bf_ BK427) hb); replace BK438 := am_ (blk_below (g := gb438) (o := .cells #[.slice Ao161 t432.length co161, .int .i64 t435, .int .i64 t436, .int .i64 t437] 78 (0, 0)) (bq_ BK438) hb); replace HB := hs_ w hb; (try clear hb); (try clear hb2); (try clear hk); (try clear hi); obtain ⟨hcz167_0, hcz167_1, hcz167_2, hcz167_3, hfz167_0, hfz167_1, hfz167_2, hfz167_3⟩ := cellsF4 BK438.out) | ((with_reducible refine gate_callee (f := 53) rfl ?_); obtain ⟨P9_, HP9_, HQ9_⟩ := pp_ HO434; refine gl_ 27 Try.func53 #[.agg #[.slice Ao161 t432.length co161, .int .i64 t435, .int .i64 t436, .int .i64 t437], .int .i64 1] ?_ rfl rfl rfl rfl; (with_reducible refine (F53.calls k P9_ (.slice Ao161 t432.length co161) t432 t435 t436 t437 1 t440 t441 w _ ?s1 ?s2 A11.out).mono ?_); (case s1 => exact au5_5); (case s2 => (with_reducible repeat (first | apply Kd.S_alloc | apply Kd.S_drewN | apply Kd.S_drew)); exact HP9_.out); rintro e w168 ⟨rfl, hy0, hb, hkp⟩; refine ⟨_, rfl, ?_⟩; replace BK416 := am_ (blk_kept (bk_ BK416) hkp (fun hs_ => nt_ (HQ9_.out _ hs_).2 BK416.out (by decide))); replace HO423 := am_ (Kd.S_mono (ok' := fun k_ => some k_ ≠ (.slice Ao161 t432.length co161 : Value).ownBlock) (Kd.S_keptB (HO423.out) hkp (fun k_ hk_ hs_ => Nat.not_le.2 hk_.1 (HQ9_.out _ hs_).1.1)) (fun k_ hk_ => hk_.1.2)); replace BK427 := am_ (blk_kept (bk_ BK427) hkp (fun hs_ => nt_ (HQ9_.out _ hs_).2 BK427.out (by decide))); replace BK438 := am_ (blk_kept (bk_ BK438) hkp (fun hs_ => nt_ (HQ9_.out _ hs_).2 BK438.out (by decide))); replace HO434 := am_ hy0; replace HB := am_ (hb); (try clear hb); (try clear hkp); (try clear hy0); obtain ⟨hcz169_0, hcz169_1, hcz169_2, hcz169_3, hfz169_0, hfz169_1, hfz169_2, hfz169_3⟩ := cellsF4 BK438.out) | ((with_reducible refine gate_callee (f := 54) rfl ?_); refine goesL_ (some 30) rfl rfl Try.func54 (by kernel_rfl) rfl #[.agg #[.slice Ao161 t441.length co161, .int .i64 t435, .int .i64 t436, .int .i64 t437], .int .i64 1] rfl au5_3 ?_; (with_reducible refine (F54.calls k _ _ t441 t435 t436 t437 1 t442 _ ?s1 ?s2 A12.out).mono ?_); (case s1 => exact au5_4); (case s2 => exact au5_8); rintro e w170 ⟨rfl, hb⟩; refine ⟨_, rfl, ?_⟩; replace HO423 := am_ (Kd.S_below au5_0 hb); replace HO434 := am_ (Kd.S_below au5_1 hb); replace BK416 := bb_ BK416 hb; replace BK427 := bb_ BK427 hb; replace BK438 := bb_ BK438 hb; replace HB := hs_ w hb; (try clear hb); (try clear hb2); (try clear hk); (try clear hi); obtain ⟨hcz171_0, hcz171_1, hcz171_2, hcz171_3, hfz171_0, hfz171_1, hfz171_2, hfz171_3⟩ := cellsF4 BK416.out) | ((with_reducible refine gate_callee (f := 19) rfl ?_); refine gl_ 37 Try.func19 #[.agg #[.int .i64 a0_0, .int .i64 a0_1, .int .i64 a0_2, .int .i64 a0_3]] ?_ rfl rfl rfl rfl; (with_reducible refine (F19.calls a0_0 a0_1 a0_2 a0_3 t443 t444 t445 t446 _ A37.out).mono ?_); rintro e w172 ⟨rfl, hb⟩; refine ⟨_, rfl, ?_⟩; replace HO423 := am_ (Kd.S_below au5_0 hb); replace HO434 := am_ (Kd.S_below au5_1 hb); replace BK416 := bb_ BK416 hb; replace BK427 := bb_ BK427 hb; replace BK438 := bb_ BK438 hb; replace HB := hs_ w hb; (try clear hb); (try clear hb2); (try clear hk); (try clear hi)) | ((with_reducible refine gate_callee (f := 51) rfl ?_); refine gl_ 39 Try.func51 #[.agg #[.int .i64 t443, .int .i64 t444, .int .i64 t445, .int .i64 t446], .string a1] ?_ rfl rfl rfl rfl; (with_reducible refine (F51.calls k t443 t444 t445 t446 a1 t447 t450 t451 t452 _ A38.out).mono ?_); rintro e w173 ⟨v448, rfl, ho0, hb⟩; refine ⟨_, rfl, ?_⟩; have HO449 := am_ (Kd.S_lower (Kd.S_new' (Kd.S_new' ho0 (Kd.S_lt au5_0)) (Kd.S_lt au5_1)) (below_size bl_)); replace HO423 := am_ (Kd.S_elder' au5_0 (Kd.S_base ho0) hb); replace HO434 := am_ (Kd.S_elder' au5_1 (Kd.S_base ho0) hb); replace BK416 := bb_ BK416 hb; replace BK427 := bb_ BK427 hb; replace BK438 := bb_ BK438 hb; replace HB := hs_ w hb; (try clear hb); (try clear hb2); (try clear hk); (try clear hi); (try clear ho0)) | ((with_reducible refine gate_dst (N := 9) rfl ?_); refine be_ 9 #[.slice none 0 0, .int .i64 0, .int .i64 0, .int .i64 0] 78 ?_; intro gb453 hg w174 hbox hb; replace HO423 := am_ (Kd.S_below au5_0 hb); replace HO434 := am_ (Kd.S_below au5_1 hb); replace HO449 := am_ (Kd.S_below au5_10 hb); have BK453 := am_ (hbox); have GW453 := am_ (gw_ hg bl_); have GE453 := GW453; replace HB := hs_ w hb; have NB416_453 := am_ (gn_ hg (blkl_ BK416)); have NB453_416 := am_ (gm_ hg (blkl_ BK416)); replace BK416 := bb_ BK416 hb; have NB427_453 := am_ (gn_ hg (blkl_ BK427)); have NB453_427 := am_ (gm_ hg (blkl_ BK427)); replace BK427 := bb_ BK427 hb; have NB438_453 := am_ (gn_ hg (blkl_ BK438)); have NB453_438 := am_ (gm_ hg (blkl_ BK438)); replace BK438 := bb_ BK438 hb; clear hb hbox hg; obtain ⟨Ao175, co175, eo175⟩ := Kd.S_slice HO449.out; subst eo175; have hnb176 := NB453_416.out; have hnc176 := NB416_453.out; have hnb177 := NB453_427.out; have hnc177 := NB427_453.out; have hnb178 := NB453_438.out; have hnc178 := NB438_453.out; obtain ⟨hcz179_0, hcz179_1, hcz179_2, hcz179_3, hfz179_0, hfz179_1, hfz179_2, hfz179_3⟩ := cellsF4 BK453.out; obtain ⟨hcz180_0, hcz180_1, hcz180_2, hcz180_3, hfz180_0, hfz180_1, hfz180_2, hfz180_3⟩ := cellsF4 BK427.out) | ((with_reducible refine gate_callee (f := 52) rfl ?_); refine gl_ 42 Try.func52 #[.agg #[.slice Ao175 t447.length co175, .int .i64 t450, .int .i64 t451, .int .i64 t452], .agg #[.slice Ao154 t421.length co154, .int .i64 t424, .int .i64 t425, .int .i64 t426]] ?_ rfl rfl rfl rfl; (with_reducible refine (F52.calls k _ _ t447 t450 t451 t452 _ _ t421 t424 t425 t426 false _ ?s1 ?s2 ?s3 ?s4 A39.out).mono ?_); (case s1 => refine (Kd.S_reads' (e := 59) (base := w.heap.size) (ok := fun k_ => ((True ∧ some k_ ≠ (.slice Ao154 t421.length co154 : Value).ownBlock) ∧ some k_ ≠ (.slice Ao161 t432.length co161 : Value).ownBlock)) (n := t447.length) (c := co175) ?_).2.2; exact au5_20); (case s2 => exact au5_45); (case s3 => refine (Kd.S_reads' (e := 59) (base := w.heap.size) (ok := fun k_ => (some k_ ≠ (.slice Ao161 t432.length co161 : Value).ownBlock ∧ some k_ ≠ (.slice Ao175 t447.length co175 : Value).ownBlock)) (n := t421.length) (c := co154) ?_).2.2; exact au5_21); (case s4 => exact au5_35); rintro e w181 ⟨rfl, hb⟩; refine ⟨_, rfl, ?_⟩; replace HO423 := am_ (Kd.S_below au5_21 hb); replace HO434 := am_ (Kd.S_below (by (with_reducible repeat (first | apply Kd.S_alloc | apply Kd.S_drewN | apply Kd.S_drew)); exact (Kd.S_mono (Kd.S_far (p := ⟨gb453, 3, none⟩) (Kd.S_far (p := ⟨gb453, 2, none⟩) (Kd.S_far (p := ⟨gb453, 1, none⟩) (Kd.S_far (p := ⟨gb453, 0, none⟩) (Kd.S_types HO434.out BK453.out (by decide)) (fun _ hk => hk.2) (.slice Ao175 t447.length co175)) (fun _ hk => hk.2) (.int .i64 t450)) (fun _ hk => hk.2) (.int .i64 t451)) (fun _ hk => hk.2) (.int .i64 t452)) (fun _ h_ => h_.1))) hb); replace HO449 := am_ (Kd.S_below au5_20 hb); replace BK416 := am_ (blk_below (g := gb416) (o := .cells #[.int .i64 a0_0, .int .i64 a0_1, .int .i64 a0_2, .int .i64 a0_3] 29 (0, 0)) (bf_ BK416) hb); replace BK427 := am_ (blk_below (g := gb427) (o := .cells #[.slice Ao154 t421.length co154, .int .i64 t424, .int .i64 t425, .int .i64 t426] 78 (0, 0)) (bf_ BK427) hb); replace BK438 := am_ (blk_below (g := gb438) (o := .cells #[.slice Ao161 t432.length co161, .int .i64 t435, .int .i64 t436, .int .i64 t437] 78 (0, 0)) (bf_ BK438) hb); replace BK453 := am_ (blk_below (g := gb453) (o := .cells #[.slice Ao175 t447.length co175, .int .i64 t450, .int .i64 t451, .int .i64 t452] 78 (0, 0)) (bq_ BK453) hb); replace HB := hs_ w hb; (try clear hb); (try clear hb2); (try clear hk); (try clear hi)))
  go_ret
  exact ⟨au5_2, bl_⟩
 replace H := bi_ H; rcases H with ⟨t455, A41, H⟩
 replace H := it_ H; rcases H with ⟨c42b0, H⟩ | ⟨c42b0, H⟩
 ·obtain rfl := Option.some.inj H
  go_enter Try.func13, Try.ntmps13
  go_wp2_with (first | ((with_reducible refine gate_dst (N := 2) rfl ?_); refine be_ 2 #[.int .i64 a0_0, .int .i64 a0_1, .int .i64 a0_2, .int .i64 a0_3] 29 ?_; intro gb416 hg w43 hbox hb; have BK416 := am_ (hbox); have GW416 := am_ (gw_ hg bl_); have GE416 := GW416; replace HB := hs_ w hb; clear hb hbox hg; obtain ⟨hcz44_0, hcz44_1, hcz44_2, hcz44_3, hfz44_0, hfz44_1, hfz44_2, hfz44_3⟩ := cellsF4 BK416.out) | ((with_reducible refine gate_callee (f := 19) rfl ?_); refine gl_ 14 Try.func19 #[.agg #[.int .i64 a0_0, .int .i64 a0_1, .int .i64 a0_2, .int .i64 a0_3]] ?_ rfl rfl rfl rfl; (with_reducible refine (F19.calls a0_0 a0_1 a0_2 a0_3 t417 t418 t419 t420 _ A5.out).mono ?_); rintro e w45 ⟨rfl, hb⟩; refine ⟨_, rfl, ?_⟩; replace BK416 := bb_ BK416 hb; replace HB := hs_ w hb; (try clear hb)) | ((with_reducible refine gate_callee (f := 50) rfl ?_); refine gl_ 16 Try.func50 #[.agg #[.int .i64 t417, .int .i64 t418, .int .i64 t419, .int .i64 t420], .string a1] ?_ rfl rfl rfl rfl; (with_reducible refine (F50.calls k t417 t418 t419 t420 a1 t421 t424 t425 t426 _ A6.out).mono ?_); rintro e w46 ⟨v422, rfl, ho0, hb⟩; refine ⟨_, rfl, ?_⟩; have HO423 := am_ (Kd.S_lower ho0 (below_size bl_)); replace BK416 := bb_ BK416 hb; replace HB := hs_ w hb; (try clear hb); (try clear ho0)) | ((with_reducible refine gate_dst (N := 5) rfl ?_); refine be_ 5 #[.slice none 0 0, .int .i64 0, .int .i64 0, .int .i64 0] 78 ?_; intro gb427 hg w47 hbox hb; replace HO423 := am_ (Kd.S_below au5_0 hb); have BK427 := am_ (hbox); have GW427 := am_ (gw_ hg bl_); have GE427 := GW427; replace HB := hs_ w hb; have NB416_427 := am_ (gn_ hg (blkl_ BK416)); have NB427_416 := am_ (gm_ hg (blkl_ BK416)); replace BK416 := bb_ BK416 hb; clear hb hbox hg; obtain ⟨Ao48, co48, eo48⟩ := Kd.S_slice HO423.out; subst eo48; have hnb49 := NB427_416.out; have hnc49 := NB416_427.out; obtain ⟨hcz50_0, hcz50_1, hcz50_2, hcz50_3, hfz50_0, hfz50_1, hfz50_2, hfz50_3⟩ := cellsF4 BK427.out; obtain ⟨hcz51_0, hcz51_1, hcz51_2, hcz51_3, hfz51_0, hfz51_1, hfz51_2, hfz51_3⟩ := cellsF4 BK416.out) | ((with_reducible refine gate_callee (f := 19) rfl ?_); refine gl_ 18 Try.func19 #[.agg #[.int .i64 a0_0, .int .i64 a0_1, .int .i64 a0_2, .int .i64 a0_3]] ?_ rfl rfl rfl rfl; (with_reducible refine (F19.calls a0_0 a0_1 a0_2 a0_3 t428 t429 t430 t431 _ A7.out).mono ?_); rintro e w52 ⟨rfl, hb⟩; refine ⟨_, rfl, ?_⟩; replace HO423 := am_ (Kd.S_below (by (with_reducible repeat (first | apply Kd.S_alloc | apply Kd.S_drewN | apply Kd.S_drew)); exact (Kd.S_mono (Kd.S_far (p := ⟨gb427, 3, none⟩) (Kd.S_far (p := ⟨gb427, 2, none⟩) (Kd.S_far (p := ⟨gb427, 1, none⟩) (Kd.S_far (p := ⟨gb427, 0, none⟩) (Kd.S_types HO423.out BK427.out (by decide)) (fun _ hk => hk.2) (.slice Ao48 t421.length co48)) (fun _ hk => hk.2) (.int .i64 t424)) (fun _ hk => hk.2) (.int .i64 t425)) (fun _ hk => hk.2) (.int .i64 t426)) (fun _ h_ => h_.1))) hb); replace BK416 := am_ (blk_below (g := gb416) (o := .cells #[.int .i64 a0_0, .int .i64 a0_1, .int .i64 a0_2, .int .i64 a0_3] 29 (0, 0)) (bf_ BK416) hb); replace BK427 := am_ (blk_below (g := gb427) (o := .cells #[.slice Ao48 t421.length co48, .int .i64 t424, .int .i64 t425, .int .i64 t426] 78 (0, 0)) (bq_ BK427) hb); replace HB := hs_ w hb; (try clear hb); (try clear hb2); (try clear hk); (try clear hi)) | ((with_reducible refine gate_callee (f := 51) rfl ?_); refine gl_ 20 Try.func51 #[.agg #[.int .i64 t428, .int .i64 t429, .int .i64 t430, .int .i64 t431], .string a1] ?_ rfl rfl rfl rfl; (with_reducible refine (F51.calls k t428 t429 t430 t431 a1 t432 t435 t436 t437 _ A8.out).mono ?_); rintro e w53 ⟨v433, rfl, ho0, hb⟩; refine ⟨_, rfl, ?_⟩; obtain ⟨b9_, n1_, n2_⟩ := ap_ au5_0 ho0 hb (below_size bl_); have HO434 := am_ n1_; replace HO423 := am_ n2_; clear n1_ n2_; replace BK416 := bb_ BK416 hb; replace BK427 := bb_ BK427 hb; replace HB := hs_ w hb; (try clear hb); (try clear hb2); (try clear hk); (try clear hi); (try clear ho0)) | ((with_reducible refine gate_dst (N := 6) rfl ?_); refine be_ 6 #[.slice none 0 0, .int .i64 0, .int .i64 0, .int .i64 0] 78 ?_; intro gb438 hg w54 hbox hb; replace HO423 := am_ (Kd.S_below au5_0 hb); replace HO434 := am_ (Kd.S_below au5_1 hb); have BK438 := am_ (hbox); have GW438 := am_ (gw_ hg bl_); have GE438 := GW438; replace HB := hs_ w hb; have NB416_438 := am_ (gn_ hg (blkl_ BK416)); have NB438_416 := am_ (gm_ hg (blkl_ BK416)); replace BK416 := bb_ BK416 hb; have NB427_438 := am_ (gn_ hg (blkl_ BK427)); have NB438_427 := am_ (gm_ hg (blkl_ BK427)); replace BK427 := bb_ BK427 hb; clear hb hbox hg; obtain ⟨Ao55, co55, eo55⟩ := Kd.S_slice HO434.out; subst eo55; have hnb56 := NB438_416.out; have hnc56 := NB416_438.out; have hnb57 := NB438_427.out; have hnc57 := NB427_438.out; obtain ⟨hcz58_0, hcz58_1, hcz58_2, hcz58_3, hfz58_0, hfz58_1, hfz58_2, hfz58_3⟩ := cellsF4 BK438.out; obtain ⟨hcz59_0, hcz59_1, hcz59_2, hcz59_3, hfz59_0, hfz59_1, hfz59_2, hfz59_3⟩ := cellsF4 BK427.out) | ((with_reducible refine gate_callee (f := 52) rfl ?_); refine gl_ 23 Try.func52 #[.agg #[.slice Ao55 t432.length co55, .int .i64 t435, .int .i64 t436, .int .i64 t437], .agg #[.slice Ao48 t421.length co48, .int .i64 t424, .int .i64 t425, .int .i64 t426]] ?_ rfl rfl rfl rfl; (with_reducible refine (F52.calls k _ _ t432 t435 t436 t437 _ _ t421 t424 t425 t426 true _ ?s1 ?s2 ?s3 ?s4 A9.out).mono ?_); (case s1 => refine (Kd.S_reads' (e := 59) (base := w.heap.size) (ok := fun k_ => (b9_ ≤ k_ ∧ some k_ ≠ (.slice Ao48 t421.length co48 : Value).ownBlock)) (n := t432.length) (c := co55) ?_).2.2; exact au5_28); (case s2 => exact au5_41); (case s3 => refine (Kd.S_reads' (e := 59) (base := w.heap.size) (ok := fun k_ => (k_ < b9_ ∧ some k_ ≠ (.slice Ao55 t432.length co55 : Value).ownBlock)) (n := t421.length) (c := co48) ?_).2.2; exact au5_29); (case s4 => exact au5_35); rintro e w60 ⟨rfl, hb⟩; refine ⟨_, rfl, ?_⟩; replace HO423 := am_ (Kd.S_below au5_29 hb); replace HO434 := am_ (Kd.S_below au5_28 hb); replace BK416 := am_ (blk_below (g := gb416) (o := .cells #[.int .i64 a0_0, .int .i64 a0_1, .int .i64 a0_2, .int .i64 a0_3] 29 (0, 0)) (bf_ BK416) hb); replace BK427 := am_ (blk_below (g := gb427) (o := .cells #[.slice Ao48 t421.length co48, .int .i64 t424, .int .i64 t425, .int .i64 t426] 78 (0, 0)) (bf_ BK427) hb); replace BK438 := am_ (blk_below (g := gb438) (o := .cells #[.slice Ao55 t432.length co55, .int .i64 t435, .int .i64 t436, .int .i64 t437] 78 (0, 0)) (bq_ BK438) hb); replace HB := hs_ w hb; (try clear hb); (try clear hb2); (try clear hk); (try clear hi); obtain ⟨hcz61_0, hcz61_1, hcz61_2, hcz61_3, hfz61_0, hfz61_1, hfz61_2, hfz61_3⟩ := cellsF4 BK438.out) | ((with_reducible refine gate_callee (f := 53) rfl ?_); obtain ⟨P9_, HP9_, HQ9_⟩ := pp_ HO434; refine gl_ 27 Try.func53 #[.agg #[.slice Ao55 t432.length co55, .int .i64 t435, .int .i64 t436, .int .i64 t437], .int .i64 1] ?_ rfl rfl rfl rfl; (with_reducible refine (F53.calls k P9_ (.slice Ao55 t432.length co55) t432 t435 t436 t437 1 t440 t441 w _ ?s1 ?s2 A11.out).mono ?_); (case s1 => exact au5_5); (case s2 => (with_reducible repeat (first | apply Kd.S_alloc | apply Kd.S_drewN | apply Kd.S_drew)); exact HP9_.out); rintro e w62 ⟨rfl, hy0, hb, hkp⟩; refine ⟨_, rfl, ?_⟩; replace BK416 := am_ (blk_kept (bk_ BK416) hkp (fun hs_ => nt_ (HQ9_.out _ hs_).2 BK416.out (by decide))); replace HO423 := am_ (Kd.S_mono (ok' := fun k_ => some k_ ≠ (.slice Ao55 t432.length co55 : Value).ownBlock) (Kd.S_keptB (HO423.out) hkp (fun k_ hk_ hs_ => Nat.not_le.2 hk_.1 (HQ9_.out _ hs_).1.1)) (fun k_ hk_ => hk_.1.2)); replace BK427 := am_ (blk_kept (bk_ BK427) hkp (fun hs_ => nt_ (HQ9_.out _ hs_).2 BK427.out (by decide))); replace BK438 := am_ (blk_kept (bk_ BK438) hkp (fun hs_ => nt_ (HQ9_.out _ hs_).2 BK438.out (by decide))); replace HO434 := am_ hy0; replace HB := am_ (hb); (try clear hb); (try clear hkp); (try clear hy0); obtain ⟨hcz63_0, hcz63_1, hcz63_2, hcz63_3, hfz63_0, hfz63_1, hfz63_2, hfz63_3⟩ := cellsF4 BK438.out) | ((with_reducible refine gate_callee (f := 54) rfl ?_); refine goesL_ (some 30) rfl rfl Try.func54 (by kernel_rfl) rfl #[.agg #[.slice Ao55 t441.length co55, .int .i64 t435, .int .i64 t436, .int .i64 t437], .int .i64 1] rfl au5_3 ?_; (with_reducible refine (F54.calls k _ _ t441 t435 t436 t437 1 t442 _ ?s1 ?s2 A12.out).mono ?_); (case s1 => exact au5_4); (case s2 => exact au5_8); rintro e w64 ⟨rfl, hb⟩; refine ⟨_, rfl, ?_⟩; replace HO423 := am_ (Kd.S_below au5_0 hb); replace HO434 := am_ (Kd.S_below au5_1 hb); replace BK416 := bb_ BK416 hb; replace BK427 := bb_ BK427 hb; replace BK438 := bb_ BK438 hb; replace HB := hs_ w hb; (try clear hb); (try clear hb2); (try clear hk); (try clear hi); obtain ⟨hcz65_0, hcz65_1, hcz65_2, hcz65_3, hfz65_0, hfz65_1, hfz65_2, hfz65_3⟩ := cellsF4 BK416.out) | ((with_reducible refine gate_callee (f := 19) rfl ?_); refine gl_ 37 Try.func19 #[.agg #[.int .i64 a0_0, .int .i64 a0_1, .int .i64 a0_2, .int .i64 a0_3]] ?_ rfl rfl rfl rfl; (with_reducible refine (F19.calls a0_0 a0_1 a0_2 a0_3 t443 t444 t445 t446 _ A37.out).mono ?_); rintro e w66 ⟨rfl, hb⟩; refine ⟨_, rfl, ?_⟩; replace HO423 := am_ (Kd.S_below au5_0 hb); replace HO434 := am_ (Kd.S_below au5_1 hb); replace BK416 := bb_ BK416 hb; replace BK427 := bb_ BK427 hb; replace BK438 := bb_ BK438 hb; replace HB := hs_ w hb; (try clear hb); (try clear hb2); (try clear hk); (try clear hi)) | ((with_reducible refine gate_callee (f := 51) rfl ?_); refine gl_ 39 Try.func51 #[.agg #[.int .i64 t443, .int .i64 t444, .int .i64 t445, .int .i64 t446], .string a1] ?_ rfl rfl rfl rfl; (with_reducible refine (F51.calls k t443 t444 t445 t446 a1 t447 t450 t451 t452 _ A38.out).mono ?_); rintro e w67 ⟨v448, rfl, ho0, hb⟩; refine ⟨_, rfl, ?_⟩; have HO449 := am_ (Kd.S_lower (Kd.S_new' (Kd.S_new' ho0 (Kd.S_lt au5_0)) (Kd.S_lt au5_1)) (below_size bl_)); replace HO423 := am_ (Kd.S_elder' au5_0 (Kd.S_base ho0) hb); replace HO434 := am_ (Kd.S_elder' au5_1 (Kd.S_base ho0) hb); replace BK416 := bb_ BK416 hb; replace BK427 := bb_ BK427 hb; replace BK438 := bb_ BK438 hb; replace HB := hs_ w hb; (try clear hb); (try clear hb2); (try clear hk); (try clear hi); (try clear ho0)) | ((with_reducible refine gate_dst (N := 9) rfl ?_); refine be_ 9 #[.slice none 0 0, .int .i64 0, .int .i64 0, .int .i64 0] 78 ?_; intro gb453 hg w68 hbox hb; replace HO423 := am_ (Kd.S_below au5_0 hb); replace HO434 := am_ (Kd.S_below au5_1 hb); replace HO449 := am_ (Kd.S_below au5_10 hb); have BK453 := am_ (hbox); have GW453 := am_ (gw_ hg bl_); have GE453 := GW453; replace HB := hs_ w hb; have NB416_453 := am_ (gn_ hg (blkl_ BK416)); have NB453_416 := am_ (gm_ hg (blkl_ BK416)); replace BK416 := bb_ BK416 hb; have NB427_453 := am_ (gn_ hg (blkl_ BK427)); have NB453_427 := am_ (gm_ hg (blkl_ BK427)); replace BK427 := bb_ BK427 hb; have NB438_453 := am_ (gn_ hg (blkl_ BK438)); have NB453_438 := am_ (gm_ hg (blkl_ BK438)); replace BK438 := bb_ BK438 hb; clear hb hbox hg; obtain ⟨Ao69, co69, eo69⟩ := Kd.S_slice HO449.out; subst eo69; have hnb70 := NB453_416.out; have hnc70 := NB416_453.out; have hnb71 := NB453_427.out; have hnc71 := NB427_453.out; have hnb72 := NB453_438.out; have hnc72 := NB438_453.out; obtain ⟨hcz73_0, hcz73_1, hcz73_2, hcz73_3, hfz73_0, hfz73_1, hfz73_2, hfz73_3⟩ := cellsF4 BK453.out; obtain ⟨hcz74_0, hcz74_1, hcz74_2, hcz74_3, hfz74_0, hfz74_1, hfz74_2, hfz74_3⟩ := cellsF4 BK427.out) | ((with_reducible refine gate_callee (f := 52) rfl ?_); refine gl_ 42 Try.func52 #[.agg #[.slice Ao69 t447.length co69, .int .i64 t450, .int .i64 t451, .int .i64 t452], .agg #[.slice Ao48 t421.length co48, .int .i64 t424, .int .i64 t425, .int .i64 t426]] ?_ rfl rfl rfl rfl; (with_reducible refine (F52.calls k _ _ t447 t450 t451 t452 _ _ t421 t424 t425 t426 true _ ?s1 ?s2 ?s3 ?s4 A39.out).mono ?_); (case s1 => refine (Kd.S_reads' (e := 59) (base := w.heap.size) (ok := fun k_ => ((True ∧ some k_ ≠ (.slice Ao48 t421.length co48 : Value).ownBlock) ∧ some k_ ≠ (.slice Ao55 t432.length co55 : Value).ownBlock)) (n := t447.length) (c := co69) ?_).2.2; exact au5_30); (case s2 => exact au5_45); (case s3 => refine (Kd.S_reads' (e := 59) (base := w.heap.size) (ok := fun k_ => (some k_ ≠ (.slice Ao55 t432.length co55 : Value).ownBlock ∧ some k_ ≠ (.slice Ao69 t447.length co69 : Value).ownBlock)) (n := t421.length) (c := co48) ?_).2.2; exact au5_31); (case s4 => exact au5_35); rintro e w75 ⟨rfl, hb⟩; refine ⟨_, rfl, ?_⟩; replace HO423 := am_ (Kd.S_below au5_31 hb); replace HO434 := am_ (Kd.S_below (by (with_reducible repeat (first | apply Kd.S_alloc | apply Kd.S_drewN | apply Kd.S_drew)); exact (Kd.S_mono (Kd.S_far (p := ⟨gb453, 3, none⟩) (Kd.S_far (p := ⟨gb453, 2, none⟩) (Kd.S_far (p := ⟨gb453, 1, none⟩) (Kd.S_far (p := ⟨gb453, 0, none⟩) (Kd.S_types HO434.out BK453.out (by decide)) (fun _ hk => hk.2) (.slice Ao69 t447.length co69)) (fun _ hk => hk.2) (.int .i64 t450)) (fun _ hk => hk.2) (.int .i64 t451)) (fun _ hk => hk.2) (.int .i64 t452)) (fun _ h_ => h_.1))) hb); replace HO449 := am_ (Kd.S_below au5_30 hb); replace BK416 := am_ (blk_below (g := gb416) (o := .cells #[.int .i64 a0_0, .int .i64 a0_1, .int .i64 a0_2, .int .i64 a0_3] 29 (0, 0)) (bf_ BK416) hb); replace BK427 := am_ (blk_below (g := gb427) (o := .cells #[.slice Ao48 t421.length co48, .int .i64 t424, .int .i64 t425, .int .i64 t426] 78 (0, 0)) (bf_ BK427) hb); replace BK438 := am_ (blk_below (g := gb438) (o := .cells #[.slice Ao55 t432.length co55, .int .i64 t435, .int .i64 t436, .int .i64 t437] 78 (0, 0)) (bf_ BK438) hb); replace BK453 := am_ (blk_below (g := gb453) (o := .cells #[.slice Ao69 t447.length co69, .int .i64 t450, .int .i64 t451, .int .i64 t452] 78 (0, 0)) (bq_ BK453) hb); replace HB := hs_ w hb; (try clear hb); (try clear hb2); (try clear hk); (try clear hi); obtain ⟨hcz76_0, hcz76_1, hcz76_2, hcz76_3, hfz76_0, hfz76_1, hfz76_2, hfz76_3⟩ := cellsF4 BK438.out) | ((with_reducible refine gate_callee (f := 54) rfl ?_); refine goesL_ (some 46) rfl rfl Try.func54 (by kernel_rfl) rfl #[.agg #[.slice Ao55 t441.length co55, .int .i64 t435, .int .i64 t436, .int .i64 t437], .int .i64 1] rfl au5_3 ?_; (with_reducible refine (F54.calls k _ _ t441 t435 t436 t437 1 t455 _ ?s1 ?s2 A41.out).mono ?_); (case s1 => exact au5_4); (case s2 => exact au5_8); rintro e w77 ⟨rfl, hb⟩; refine ⟨_, rfl, ?_⟩; replace HO423 := am_ (Kd.S_below au5_0 hb); replace HO434 := am_ (Kd.S_below au5_1 hb); replace HO449 := am_ (Kd.S_below au5_10 hb); replace BK416 := bb_ BK416 hb; replace BK427 := bb_ BK427 hb; replace BK438 := bb_ BK438 hb; replace BK453 := bb_ BK453 hb; replace HB := hs_ w hb; (try clear hb); (try clear hb2); (try clear hk); (try clear hi)))
  go_ret
  exact ⟨au5_2, bl_⟩
 by_cases c78 : t455 = t440
 rotate_left
 ·rw [if_neg c78] at H
  have c78b0 : (t455 == t440) = false := beq_eq_false_iff_ne.mpr c78
  have c78b1 : (t455 != t440) = true := bne_iff_ne.mpr c78
  obtain rfl := Option.some.inj H
  go_enter Try.func13, Try.ntmps13
  go_wp2_with (first | ((with_reducible refine gate_dst (N := 2) rfl ?_); refine be_ 2 #[.int .i64 a0_0, .int .i64 a0_1, .int .i64 a0_2, .int .i64 a0_3] 29 ?_; intro gb416 hg w114 hbox hb; have BK416 := am_ (hbox); have GW416 := am_ (gw_ hg bl_); have GE416 := GW416; replace HB := hs_ w hb; clear hb hbox hg; obtain ⟨hcz115_0, hcz115_1, hcz115_2, hcz115_3, hfz115_0, hfz115_1, hfz115_2, hfz115_3⟩ := cellsF4 BK416.out) | ((with_reducible refine gate_callee (f := 19) rfl ?_); refine gl_ 14 Try.func19 #[.agg #[.int .i64 a0_0, .int .i64 a0_1, .int .i64 a0_2, .int .i64 a0_3]] ?_ rfl rfl rfl rfl; (with_reducible refine (F19.calls a0_0 a0_1 a0_2 a0_3 t417 t418 t419 t420 _ A5.out).mono ?_); rintro e w116 ⟨rfl, hb⟩; refine ⟨_, rfl, ?_⟩; replace BK416 := bb_ BK416 hb; replace HB := hs_ w hb; (try clear hb)) | ((with_reducible refine gate_callee (f := 50) rfl ?_); refine gl_ 16 Try.func50 #[.agg #[.int .i64 t417, .int .i64 t418, .int .i64 t419, .int .i64 t420], .string a1] ?_ rfl rfl rfl rfl; (with_reducible refine (F50.calls k t417 t418 t419 t420 a1 t421 t424 t425 t426 _ A6.out).mono ?_); rintro e w117 ⟨v422, rfl, ho0, hb⟩; refine ⟨_, rfl, ?_⟩; have HO423 := am_ (Kd.S_lower ho0 (below_size bl_)); replace BK416 := bb_ BK416 hb; replace HB := hs_ w hb; (try clear hb); (try clear ho0)) | ((with_reducible refine gate_dst (N := 5) rfl ?_); refine be_ 5 #[.slice none 0 0, .int .i64 0, .int .i64 0, .int .i64 0] 78 ?_; intro gb427 hg w118 hbox hb; replace HO423 := am_ (Kd.S_below au5_0 hb); have BK427 := am_ (hbox); have GW427 := am_ (gw_ hg bl_); have GE427 := GW427; replace HB := hs_ w hb; have NB416_427 := am_ (gn_ hg (blkl_ BK416)); have NB427_416 := am_ (gm_ hg (blkl_ BK416)); replace BK416 := bb_ BK416 hb; clear hb hbox hg; obtain ⟨Ao119, co119, eo119⟩ := Kd.S_slice HO423.out; subst eo119; have hnb120 := NB427_416.out; have hnc120 := NB416_427.out; obtain ⟨hcz121_0, hcz121_1, hcz121_2, hcz121_3, hfz121_0, hfz121_1, hfz121_2, hfz121_3⟩ := cellsF4 BK427.out; obtain ⟨hcz122_0, hcz122_1, hcz122_2, hcz122_3, hfz122_0, hfz122_1, hfz122_2, hfz122_3⟩ := cellsF4 BK416.out) | ((with_reducible refine gate_callee (f := 19) rfl ?_); refine gl_ 18 Try.func19 #[.agg #[.int .i64 a0_0, .int .i64 a0_1, .int .i64 a0_2, .int .i64 a0_3]] ?_ rfl rfl rfl rfl; (with_reducible refine (F19.calls a0_0 a0_1 a0_2 a0_3 t428 t429 t430 t431 _ A7.out).mono ?_); rintro e w123 ⟨rfl, hb⟩; refine ⟨_, rfl, ?_⟩; replace HO423 := am_ (Kd.S_below (by (with_reducible repeat (first | apply Kd.S_alloc | apply Kd.S_drewN | apply Kd.S_drew)); exact (Kd.S_mono (Kd.S_far (p := ⟨gb427, 3, none⟩) (Kd.S_far (p := ⟨gb427, 2, none⟩) (Kd.S_far (p := ⟨gb427, 1, none⟩) (Kd.S_far (p := ⟨gb427, 0, none⟩) (Kd.S_types HO423.out BK427.out (by decide)) (fun _ hk => hk.2) (.slice Ao119 t421.length co119)) (fun _ hk => hk.2) (.int .i64 t424)) (fun _ hk => hk.2) (.int .i64 t425)) (fun _ hk => hk.2) (.int .i64 t426)) (fun _ h_ => h_.1))) hb); replace BK416 := am_ (blk_below (g := gb416) (o := .cells #[.int .i64 a0_0, .int .i64 a0_1, .int .i64 a0_2, .int .i64 a0_3] 29 (0, 0)) (bf_ BK416) hb); replace BK427 := am_ (blk_below (g := gb427) (o := .cells #[.slice Ao119 t421.length co119, .int .i64 t424, .int .i64 t425, .int .i64 t426] 78 (0, 0)) (bq_ BK427) hb); replace HB := hs_ w hb; (try clear hb); (try clear hb2); (try clear hk); (try clear hi)) | ((with_reducible refine gate_callee (f := 51) rfl ?_); refine gl_ 20 Try.func51 #[.agg #[.int .i64 t428, .int .i64 t429, .int .i64 t430, .int .i64 t431], .string a1] ?_ rfl rfl rfl rfl; (with_reducible refine (F51.calls k t428 t429 t430 t431 a1 t432 t435 t436 t437 _ A8.out).mono ?_); rintro e w124 ⟨v433, rfl, ho0, hb⟩; refine ⟨_, rfl, ?_⟩; obtain ⟨b9_, n1_, n2_⟩ := ap_ au5_0 ho0 hb (below_size bl_); have HO434 := am_ n1_; replace HO423 := am_ n2_; clear n1_ n2_; replace BK416 := bb_ BK416 hb; replace BK427 := bb_ BK427 hb; replace HB := hs_ w hb; (try clear hb); (try clear hb2); (try clear hk); (try clear hi); (try clear ho0)) | ((with_reducible refine gate_dst (N := 6) rfl ?_); refine be_ 6 #[.slice none 0 0, .int .i64 0, .int .i64 0, .int .i64 0] 78 ?_; intro gb438 hg w125 hbox hb; replace HO423 := am_ (Kd.S_below au5_0 hb); replace HO434 := am_ (Kd.S_below au5_1 hb); have BK438 := am_ (hbox); have GW438 := am_ (gw_ hg bl_); have GE438 := GW438; replace HB := hs_ w hb; have NB416_438 := am_ (gn_ hg (blkl_ BK416)); have NB438_416 := am_ (gm_ hg (blkl_ BK416)); replace BK416 := bb_ BK416 hb; have NB427_438 := am_ (gn_ hg (blkl_ BK427)); have NB438_427 := am_ (gm_ hg (blkl_ BK427)); replace BK427 := bb_ BK427 hb; clear hb hbox hg; obtain ⟨Ao126, co126, eo126⟩ := Kd.S_slice HO434.out; subst eo126; have hnb127 := NB438_416.out; have hnc127 := NB416_438.out; have hnb128 := NB438_427.out; have hnc128 := NB427_438.out; obtain ⟨hcz129_0, hcz129_1, hcz129_2, hcz129_3, hfz129_0, hfz129_1, hfz129_2, hfz129_3⟩ := cellsF4 BK438.out; obtain ⟨hcz130_0, hcz130_1, hcz130_2, hcz130_3, hfz130_0, hfz130_1, hfz130_2, hfz130_3⟩ := cellsF4 BK427.out) | ((with_reducible refine gate_callee (f := 52) rfl ?_); refine gl_ 23 Try.func52 #[.agg #[.slice Ao126 t432.length co126, .int .i64 t435, .int .i64 t436, .int .i64 t437], .agg #[.slice Ao119 t421.length co119, .int .i64 t424, .int .i64 t425, .int .i64 t426]] ?_ rfl rfl rfl rfl; (with_reducible refine (F52.calls k _ _ t432 t435 t436 t437 _ _ t421 t424 t425 t426 true _ ?s1 ?s2 ?s3 ?s4 A9.out).mono ?_); (case s1 => refine (Kd.S_reads' (e := 59) (base := w.heap.size) (ok := fun k_ => (b9_ ≤ k_ ∧ some k_ ≠ (.slice Ao119 t421.length co119 : Value).ownBlock)) (n := t432.length) (c := co126) ?_).2.2; exact au5_14); (case s2 => exact au5_41); (case s3 => refine (Kd.S_reads' (e := 59) (base := w.heap.size) (ok := fun k_ => (k_ < b9_ ∧ some k_ ≠ (.slice Ao126 t432.length co126 : Value).ownBlock)) (n := t421.length) (c := co119) ?_).2.2; exact au5_15); (case s4 => exact au5_35); rintro e w131 ⟨rfl, hb⟩; refine ⟨_, rfl, ?_⟩; replace HO423 := am_ (Kd.S_below au5_15 hb); replace HO434 := am_ (Kd.S_below au5_14 hb); replace BK416 := am_ (blk_below (g := gb416) (o := .cells #[.int .i64 a0_0, .int .i64 a0_1, .int .i64 a0_2, .int .i64 a0_3] 29 (0, 0)) (bf_ BK416) hb); replace BK427 := am_ (blk_below (g := gb427) (o := .cells #[.slice Ao119 t421.length co119, .int .i64 t424, .int .i64 t425, .int .i64 t426] 78 (0, 0)) (bf_ BK427) hb); replace BK438 := am_ (blk_below (g := gb438) (o := .cells #[.slice Ao126 t432.length co126, .int .i64 t435, .int .i64 t436, .int .i64 t437] 78 (0, 0)) (bq_ BK438) hb); replace HB := hs_ w hb; (try clear hb); (try clear hb2); (try clear hk); (try clear hi); obtain ⟨hcz132_0, hcz132_1, hcz132_2, hcz132_3, hfz132_0, hfz132_1, hfz132_2, hfz132_3⟩ := cellsF4 BK438.out) | ((with_reducible refine gate_callee (f := 53) rfl ?_); obtain ⟨P9_, HP9_, HQ9_⟩ := pp_ HO434; refine gl_ 27 Try.func53 #[.agg #[.slice Ao126 t432.length co126, .int .i64 t435, .int .i64 t436, .int .i64 t437], .int .i64 1] ?_ rfl rfl rfl rfl; (with_reducible refine (F53.calls k P9_ (.slice Ao126 t432.length co126) t432 t435 t436 t437 1 t440 t441 w _ ?s1 ?s2 A11.out).mono ?_); (case s1 => exact au5_5); (case s2 => (with_reducible repeat (first | apply Kd.S_alloc | apply Kd.S_drewN | apply Kd.S_drew)); exact HP9_.out); rintro e w133 ⟨rfl, hy0, hb, hkp⟩; refine ⟨_, rfl, ?_⟩; replace BK416 := am_ (blk_kept (bk_ BK416) hkp (fun hs_ => nt_ (HQ9_.out _ hs_).2 BK416.out (by decide))); replace HO423 := am_ (Kd.S_mono (ok' := fun k_ => some k_ ≠ (.slice Ao126 t432.length co126 : Value).ownBlock) (Kd.S_keptB (HO423.out) hkp (fun k_ hk_ hs_ => Nat.not_le.2 hk_.1 (HQ9_.out _ hs_).1.1)) (fun k_ hk_ => hk_.1.2)); replace BK427 := am_ (blk_kept (bk_ BK427) hkp (fun hs_ => nt_ (HQ9_.out _ hs_).2 BK427.out (by decide))); replace BK438 := am_ (blk_kept (bk_ BK438) hkp (fun hs_ => nt_ (HQ9_.out _ hs_).2 BK438.out (by decide))); replace HO434 := am_ hy0; replace HB := am_ (hb); (try clear hb); (try clear hkp); (try clear hy0); obtain ⟨hcz134_0, hcz134_1, hcz134_2, hcz134_3, hfz134_0, hfz134_1, hfz134_2, hfz134_3⟩ := cellsF4 BK438.out) | ((with_reducible refine gate_callee (f := 54) rfl ?_); refine goesL_ (some 30) rfl rfl Try.func54 (by kernel_rfl) rfl #[.agg #[.slice Ao126 t441.length co126, .int .i64 t435, .int .i64 t436, .int .i64 t437], .int .i64 1] rfl au5_3 ?_; (with_reducible refine (F54.calls k _ _ t441 t435 t436 t437 1 t442 _ ?s1 ?s2 A12.out).mono ?_); (case s1 => exact au5_4); (case s2 => exact au5_8); rintro e w135 ⟨rfl, hb⟩; refine ⟨_, rfl, ?_⟩; replace HO423 := am_ (Kd.S_below au5_0 hb); replace HO434 := am_ (Kd.S_below au5_1 hb); replace BK416 := bb_ BK416 hb; replace BK427 := bb_ BK427 hb; replace BK438 := bb_ BK438 hb; replace HB := hs_ w hb; (try clear hb); (try clear hb2); (try clear hk); (try clear hi); obtain ⟨hcz136_0, hcz136_1, hcz136_2, hcz136_3, hfz136_0, hfz136_1, hfz136_2, hfz136_3⟩ := cellsF4 BK416.out) | ((with_reducible refine gate_callee (f := 19) rfl ?_); refine gl_ 37 Try.func19 #[.agg #[.int .i64 a0_0, .int .i64 a0_1, .int .i64 a0_2, .int .i64 a0_3]] ?_ rfl rfl rfl rfl; (with_reducible refine (F19.calls a0_0 a0_1 a0_2 a0_3 t443 t444 t445 t446 _ A37.out).mono ?_); rintro e w137 ⟨rfl, hb⟩; refine ⟨_, rfl, ?_⟩; replace HO423 := am_ (Kd.S_below au5_0 hb); replace HO434 := am_ (Kd.S_below au5_1 hb); replace BK416 := bb_ BK416 hb; replace BK427 := bb_ BK427 hb; replace BK438 := bb_ BK438 hb; replace HB := hs_ w hb; (try clear hb); (try clear hb2); (try clear hk); (try clear hi)) | ((with_reducible refine gate_callee (f := 51) rfl ?_); refine gl_ 39 Try.func51 #[.agg #[.int .i64 t443, .int .i64 t444, .int .i64 t445, .int .i64 t446], .string a1] ?_ rfl rfl rfl rfl; (with_reducible refine (F51.calls k t443 t444 t445 t446 a1 t447 t450 t451 t452 _ A38.out).mono ?_); rintro e w138 ⟨v448, rfl, ho0, hb⟩; refine ⟨_, rfl, ?_⟩; have HO449 := am_ (Kd.S_lower (Kd.S_new' (Kd.S_new' ho0 (Kd.S_lt au5_0)) (Kd.S_lt au5_1)) (below_size bl_)); replace HO423 := am_ (Kd.S_elder' au5_0 (Kd.S_base ho0) hb); replace HO434 := am_ (Kd.S_elder' au5_1 (Kd.S_base ho0) hb); replace BK416 := bb_ BK416 hb; replace BK427 := bb_ BK427 hb; replace BK438 := bb_ BK438 hb; replace HB := hs_ w hb; (try clear hb); (try clear hb2); (try clear hk); (try clear hi); (try clear ho0)) | ((with_reducible refine gate_dst (N := 9) rfl ?_); refine be_ 9 #[.slice none 0 0, .int .i64 0, .int .i64 0, .int .i64 0] 78 ?_; intro gb453 hg w139 hbox hb; replace HO423 := am_ (Kd.S_below au5_0 hb); replace HO434 := am_ (Kd.S_below au5_1 hb); replace HO449 := am_ (Kd.S_below au5_10 hb); have BK453 := am_ (hbox); have GW453 := am_ (gw_ hg bl_); have GE453 := GW453; replace HB := hs_ w hb; have NB416_453 := am_ (gn_ hg (blkl_ BK416)); have NB453_416 := am_ (gm_ hg (blkl_ BK416)); replace BK416 := bb_ BK416 hb; have NB427_453 := am_ (gn_ hg (blkl_ BK427)); have NB453_427 := am_ (gm_ hg (blkl_ BK427)); replace BK427 := bb_ BK427 hb; have NB438_453 := am_ (gn_ hg (blkl_ BK438)); have NB453_438 := am_ (gm_ hg (blkl_ BK438)); replace BK438 := bb_ BK438 hb; clear hb hbox hg; obtain ⟨Ao140, co140, eo140⟩ := Kd.S_slice HO449.out; subst eo140; have hnb141 := NB453_416.out; have hnc141 := NB416_453.out; have hnb142 := NB453_427.out; have hnc142 := NB427_453.out; have hnb143 := NB453_438.out; have hnc143 := NB438_453.out; obtain ⟨hcz144_0, hcz144_1, hcz144_2, hcz144_3, hfz144_0, hfz144_1, hfz144_2, hfz144_3⟩ := cellsF4 BK453.out; obtain ⟨hcz145_0, hcz145_1, hcz145_2, hcz145_3, hfz145_0, hfz145_1, hfz145_2, hfz145_3⟩ := cellsF4 BK427.out) | ((with_reducible refine gate_callee (f := 52) rfl ?_); refine gl_ 42 Try.func52 #[.agg #[.slice Ao140 t447.length co140, .int .i64 t450, .int .i64 t451, .int .i64 t452], .agg #[.slice Ao119 t421.length co119, .int .i64 t424, .int .i64 t425, .int .i64 t426]] ?_ rfl rfl rfl rfl; (with_reducible refine (F52.calls k _ _ t447 t450 t451 t452 _ _ t421 t424 t425 t426 true _ ?s1 ?s2 ?s3 ?s4 A39.out).mono ?_); (case s1 => refine (Kd.S_reads' (e := 59) (base := w.heap.size) (ok := fun k_ => ((True ∧ some k_ ≠ (.slice Ao119 t421.length co119 : Value).ownBlock) ∧ some k_ ≠ (.slice Ao126 t432.length co126 : Value).ownBlock)) (n := t447.length) (c := co140) ?_).2.2; exact au5_16); (case s2 => exact au5_45); (case s3 => refine (Kd.S_reads' (e := 59) (base := w.heap.size) (ok := fun k_ => (some k_ ≠ (.slice Ao126 t432.length co126 : Value).ownBlock ∧ some k_ ≠ (.slice Ao140 t447.length co140 : Value).ownBlock)) (n := t421.length) (c := co119) ?_).2.2; exact au5_17); (case s4 => exact au5_35); rintro e w146 ⟨rfl, hb⟩; refine ⟨_, rfl, ?_⟩; replace HO423 := am_ (Kd.S_below au5_17 hb); replace HO434 := am_ (Kd.S_below (by (with_reducible repeat (first | apply Kd.S_alloc | apply Kd.S_drewN | apply Kd.S_drew)); exact (Kd.S_mono (Kd.S_far (p := ⟨gb453, 3, none⟩) (Kd.S_far (p := ⟨gb453, 2, none⟩) (Kd.S_far (p := ⟨gb453, 1, none⟩) (Kd.S_far (p := ⟨gb453, 0, none⟩) (Kd.S_types HO434.out BK453.out (by decide)) (fun _ hk => hk.2) (.slice Ao140 t447.length co140)) (fun _ hk => hk.2) (.int .i64 t450)) (fun _ hk => hk.2) (.int .i64 t451)) (fun _ hk => hk.2) (.int .i64 t452)) (fun _ h_ => h_.1))) hb); replace HO449 := am_ (Kd.S_below au5_16 hb); replace BK416 := am_ (blk_below (g := gb416) (o := .cells #[.int .i64 a0_0, .int .i64 a0_1, .int .i64 a0_2, .int .i64 a0_3] 29 (0, 0)) (bf_ BK416) hb); replace BK427 := am_ (blk_below (g := gb427) (o := .cells #[.slice Ao119 t421.length co119, .int .i64 t424, .int .i64 t425, .int .i64 t426] 78 (0, 0)) (bf_ BK427) hb); replace BK438 := am_ (blk_below (g := gb438) (o := .cells #[.slice Ao126 t432.length co126, .int .i64 t435, .int .i64 t436, .int .i64 t437] 78 (0, 0)) (bf_ BK438) hb); replace BK453 := am_ (blk_below (g := gb453) (o := .cells #[.slice Ao140 t447.length co140, .int .i64 t450, .int .i64 t451, .int .i64 t452] 78 (0, 0)) (bq_ BK453) hb); replace HB := hs_ w hb; (try clear hb); (try clear hb2); (try clear hk); (try clear hi); obtain ⟨hcz147_0, hcz147_1, hcz147_2, hcz147_3, hfz147_0, hfz147_1, hfz147_2, hfz147_3⟩ := cellsF4 BK438.out) | ((with_reducible refine gate_callee (f := 54) rfl ?_); refine goesL_ (some 46) rfl rfl Try.func54 (by kernel_rfl) rfl #[.agg #[.slice Ao126 t441.length co126, .int .i64 t435, .int .i64 t436, .int .i64 t437], .int .i64 1] rfl au5_3 ?_; (with_reducible refine (F54.calls k _ _ t441 t435 t436 t437 1 t455 _ ?s1 ?s2 A41.out).mono ?_); (case s1 => exact au5_4); (case s2 => exact au5_8); rintro e w148 ⟨rfl, hb⟩; refine ⟨_, rfl, ?_⟩; replace HO423 := am_ (Kd.S_below au5_0 hb); replace HO434 := am_ (Kd.S_below au5_1 hb); replace HO449 := am_ (Kd.S_below au5_10 hb); replace BK416 := bb_ BK416 hb; replace BK427 := bb_ BK427 hb; replace BK438 := bb_ BK438 hb; replace BK453 := bb_ BK453 hb; replace HB := hs_ w hb; (try clear hb); (try clear hb2); (try clear hk); (try clear hi)))
  go_ret
  exact ⟨au5_2, bl_⟩
 rw [if_pos c78] at H
 have c78b0 : (t455 == t440) = true := beq_iff_eq.mpr c78
 have c78b1 : (t455 != t440) = false := bne_eq_false_iff_eq.mpr c78
 clear c78
 obtain rfl := Option.some.inj H
 go_enter Try.func13, Try.ntmps13
 go_wp2_with (first | ((with_reducible refine gate_dst (N := 2) rfl ?_); refine be_ 2 #[.int .i64 a0_0, .int .i64 a0_1, .int .i64 a0_2, .int .i64 a0_3] 29 ?_; intro gb416 hg w79 hbox hb; have BK416 := am_ (hbox); have GW416 := am_ (gw_ hg bl_); have GE416 := GW416; replace HB := hs_ w hb; clear hb hbox hg; obtain ⟨hcz80_0, hcz80_1, hcz80_2, hcz80_3, hfz80_0, hfz80_1, hfz80_2, hfz80_3⟩ := cellsF4 BK416.out) | ((with_reducible refine gate_callee (f := 19) rfl ?_); refine gl_ 14 Try.func19 #[.agg #[.int .i64 a0_0, .int .i64 a0_1, .int .i64 a0_2, .int .i64 a0_3]] ?_ rfl rfl rfl rfl; (with_reducible refine (F19.calls a0_0 a0_1 a0_2 a0_3 t417 t418 t419 t420 _ A5.out).mono ?_); rintro e w81 ⟨rfl, hb⟩; refine ⟨_, rfl, ?_⟩; replace BK416 := bb_ BK416 hb; replace HB := hs_ w hb; (try clear hb)) | ((with_reducible refine gate_callee (f := 50) rfl ?_); refine gl_ 16 Try.func50 #[.agg #[.int .i64 t417, .int .i64 t418, .int .i64 t419, .int .i64 t420], .string a1] ?_ rfl rfl rfl rfl; (with_reducible refine (F50.calls k t417 t418 t419 t420 a1 t421 t424 t425 t426 _ A6.out).mono ?_); rintro e w82 ⟨v422, rfl, ho0, hb⟩; refine ⟨_, rfl, ?_⟩; have HO423 := am_ (Kd.S_lower ho0 (below_size bl_)); replace BK416 := bb_ BK416 hb; replace HB := hs_ w hb; (try clear hb); (try clear ho0)) | ((with_reducible refine gate_dst (N := 5) rfl ?_); refine be_ 5 #[.slice none 0 0, .int .i64 0, .int .i64 0, .int .i64 0] 78 ?_; intro gb427 hg w83 hbox hb; replace HO423 := am_ (Kd.S_below au5_0 hb); have BK427 := am_ (hbox); have GW427 := am_ (gw_ hg bl_); have GE427 := GW427; replace HB := hs_ w hb; have NB416_427 := am_ (gn_ hg (blkl_ BK416)); have NB427_416 := am_ (gm_ hg (blkl_ BK416)); replace BK416 := bb_ BK416 hb; clear hb hbox hg; obtain ⟨Ao84, co84, eo84⟩ := Kd.S_slice HO423.out; subst eo84; have hnb85 := NB427_416.out; have hnc85 := NB416_427.out; obtain ⟨hcz86_0, hcz86_1, hcz86_2, hcz86_3, hfz86_0, hfz86_1, hfz86_2, hfz86_3⟩ := cellsF4 BK427.out; obtain ⟨hcz87_0, hcz87_1, hcz87_2, hcz87_3, hfz87_0, hfz87_1, hfz87_2, hfz87_3⟩ := cellsF4 BK416.out) | ((with_reducible refine gate_callee (f := 19) rfl ?_); refine gl_ 18 Try.func19 #[.agg #[.int .i64 a0_0, .int .i64 a0_1, .int .i64 a0_2, .int .i64 a0_3]] ?_ rfl rfl rfl rfl; (with_reducible refine (F19.calls a0_0 a0_1 a0_2 a0_3 t428 t429 t430 t431 _ A7.out).mono ?_); rintro e w88 ⟨rfl, hb⟩; refine ⟨_, rfl, ?_⟩; replace HO423 := am_ (Kd.S_below (by (with_reducible repeat (first | apply Kd.S_alloc | apply Kd.S_drewN | apply Kd.S_drew)); exact (Kd.S_mono (Kd.S_far (p := ⟨gb427, 3, none⟩) (Kd.S_far (p := ⟨gb427, 2, none⟩) (Kd.S_far (p := ⟨gb427, 1, none⟩) (Kd.S_far (p := ⟨gb427, 0, none⟩) (Kd.S_types HO423.out BK427.out (by decide)) (fun _ hk => hk.2) (.slice Ao84 t421.length co84)) (fun _ hk => hk.2) (.int .i64 t424)) (fun _ hk => hk.2) (.int .i64 t425)) (fun _ hk => hk.2) (.int .i64 t426)) (fun _ h_ => h_.1))) hb); replace BK416 := am_ (blk_below (g := gb416) (o := .cells #[.int .i64 a0_0, .int .i64 a0_1, .int .i64 a0_2, .int .i64 a0_3] 29 (0, 0)) (bf_ BK416) hb); replace BK427 := am_ (blk_below (g := gb427) (o := .cells #[.slice Ao84 t421.length co84, .int .i64 t424, .int .i64 t425, .int .i64 t426] 78 (0, 0)) (bq_ BK427) hb); replace HB := hs_ w hb; (try clear hb); (try clear hb2); (try clear hk); (try clear hi)) | ((with_reducible refine gate_callee (f := 51) rfl ?_); refine gl_ 20 Try.func51 #[.agg #[.int .i64 t428, .int .i64 t429, .int .i64 t430, .int .i64 t431], .string a1] ?_ rfl rfl rfl rfl; (with_reducible refine (F51.calls k t428 t429 t430 t431 a1 t432 t435 t436 t437 _ A8.out).mono ?_); rintro e w89 ⟨v433, rfl, ho0, hb⟩; refine ⟨_, rfl, ?_⟩; obtain ⟨b9_, n1_, n2_⟩ := ap_ au5_0 ho0 hb (below_size bl_); have HO434 := am_ n1_; replace HO423 := am_ n2_; clear n1_ n2_; replace BK416 := bb_ BK416 hb; replace BK427 := bb_ BK427 hb; replace HB := hs_ w hb; (try clear hb); (try clear hb2); (try clear hk); (try clear hi); (try clear ho0)) | ((with_reducible refine gate_dst (N := 6) rfl ?_); refine be_ 6 #[.slice none 0 0, .int .i64 0, .int .i64 0, .int .i64 0] 78 ?_; intro gb438 hg w90 hbox hb; replace HO423 := am_ (Kd.S_below au5_0 hb); replace HO434 := am_ (Kd.S_below au5_1 hb); have BK438 := am_ (hbox); have GW438 := am_ (gw_ hg bl_); have GE438 := GW438; replace HB := hs_ w hb; have NB416_438 := am_ (gn_ hg (blkl_ BK416)); have NB438_416 := am_ (gm_ hg (blkl_ BK416)); replace BK416 := bb_ BK416 hb; have NB427_438 := am_ (gn_ hg (blkl_ BK427)); have NB438_427 := am_ (gm_ hg (blkl_ BK427)); replace BK427 := bb_ BK427 hb; clear hb hbox hg; obtain ⟨Ao91, co91, eo91⟩ := Kd.S_slice HO434.out; subst eo91; have hnb92 := NB438_416.out; have hnc92 := NB416_438.out; have hnb93 := NB438_427.out; have hnc93 := NB427_438.out; obtain ⟨hcz94_0, hcz94_1, hcz94_2, hcz94_3, hfz94_0, hfz94_1, hfz94_2, hfz94_3⟩ := cellsF4 BK438.out; obtain ⟨hcz95_0, hcz95_1, hcz95_2, hcz95_3, hfz95_0, hfz95_1, hfz95_2, hfz95_3⟩ := cellsF4 BK427.out) | ((with_reducible refine gate_callee (f := 52) rfl ?_); refine gl_ 23 Try.func52 #[.agg #[.slice Ao91 t432.length co91, .int .i64 t435, .int .i64 t436, .int .i64 t437], .agg #[.slice Ao84 t421.length co84, .int .i64 t424, .int .i64 t425, .int .i64 t426]] ?_ rfl rfl rfl rfl; (with_reducible refine (F52.calls k _ _ t432 t435 t436 t437 _ _ t421 t424 t425 t426 true _ ?s1 ?s2 ?s3 ?s4 A9.out).mono ?_); (case s1 => refine (Kd.S_reads' (e := 59) (base := w.heap.size) (ok := fun k_ => (b9_ ≤ k_ ∧ some k_ ≠ (.slice Ao84 t421.length co84 : Value).ownBlock)) (n := t432.length) (c := co91) ?_).2.2; exact au5_32); (case s2 => exact au5_41); (case s3 => refine (Kd.S_reads' (e := 59) (base := w.heap.size) (ok := fun k_ => (k_ < b9_ ∧ some k_ ≠ (.slice Ao91 t432.length co91 : Value).ownBlock)) (n := t421.length) (c := co84) ?_).2.2; exact au5_33); (case s4 => exact au5_35); rintro e w96 ⟨rfl, hb⟩; refine ⟨_, rfl, ?_⟩; replace HO423 := am_ (Kd.S_below au5_33 hb); replace HO434 := am_ (Kd.S_below au5_32 hb); replace BK416 := am_ (blk_below (g := gb416) (o := .cells #[.int .i64 a0_0, .int .i64 a0_1, .int .i64 a0_2, .int .i64 a0_3] 29 (0, 0)) (bf_ BK416) hb); replace BK427 := am_ (blk_below (g := gb427) (o := .cells #[.slice Ao84 t421.length co84, .int .i64 t424, .int .i64 t425, .int .i64 t426] 78 (0, 0)) (bf_ BK427) hb); replace BK438 := am_ (blk_below (g := gb438) (o := .cells #[.slice Ao91 t432.length co91, .int .i64 t435, .int .i64 t436, .int .i64 t437] 78 (0, 0)) (bq_ BK438) hb); replace HB := hs_ w hb; (try clear hb); (try clear hb2); (try clear hk); (try clear hi); obtain ⟨hcz97_0, hcz97_1, hcz97_2, hcz97_3, hfz97_0, hfz97_1, hfz97_2, hfz97_3⟩ := cellsF4 BK438.out) | ((with_reducible refine gate_callee (f := 53) rfl ?_); obtain ⟨P9_, HP9_, HQ9_⟩ := pp_ HO434; refine gl_ 27 Try.func53 #[.agg #[.slice Ao91 t432.length co91, .int .i64 t435, .int .i64 t436, .int .i64 t437], .int .i64 1] ?_ rfl rfl rfl rfl; (with_reducible refine (F53.calls k P9_ (.slice Ao91 t432.length co91) t432 t435 t436 t437 1 t440 t441 w _ ?s1 ?s2 A11.out).mono ?_); (case s1 => exact au5_5); (case s2 => (with_reducible repeat (first | apply Kd.S_alloc | apply Kd.S_drewN | apply Kd.S_drew)); exact HP9_.out); rintro e w98 ⟨rfl, hy0, hb, hkp⟩; refine ⟨_, rfl, ?_⟩; replace BK416 := am_ (blk_kept (bk_ BK416) hkp (fun hs_ => nt_ (HQ9_.out _ hs_).2 BK416.out (by decide))); replace HO423 := am_ (Kd.S_mono (ok' := fun k_ => some k_ ≠ (.slice Ao91 t432.length co91 : Value).ownBlock) (Kd.S_keptB (HO423.out) hkp (fun k_ hk_ hs_ => Nat.not_le.2 hk_.1 (HQ9_.out _ hs_).1.1)) (fun k_ hk_ => hk_.1.2)); replace BK427 := am_ (blk_kept (bk_ BK427) hkp (fun hs_ => nt_ (HQ9_.out _ hs_).2 BK427.out (by decide))); replace BK438 := am_ (blk_kept (bk_ BK438) hkp (fun hs_ => nt_ (HQ9_.out _ hs_).2 BK438.out (by decide))); replace HO434 := am_ hy0; replace HB := am_ (hb); (try clear hb); (try clear hkp); (try clear hy0); obtain ⟨hcz99_0, hcz99_1, hcz99_2, hcz99_3, hfz99_0, hfz99_1, hfz99_2, hfz99_3⟩ := cellsF4 BK438.out) | ((with_reducible refine gate_callee (f := 54) rfl ?_); refine goesL_ (some 30) rfl rfl Try.func54 (by kernel_rfl) rfl #[.agg #[.slice Ao91 t441.length co91, .int .i64 t435, .int .i64 t436, .int .i64 t437], .int .i64 1] rfl au5_3 ?_; (with_reducible refine (F54.calls k _ _ t441 t435 t436 t437 1 t442 _ ?s1 ?s2 A12.out).mono ?_); (case s1 => exact au5_4); (case s2 => exact au5_8); rintro e w100 ⟨rfl, hb⟩; refine ⟨_, rfl, ?_⟩; replace HO423 := am_ (Kd.S_below au5_0 hb); replace HO434 := am_ (Kd.S_below au5_1 hb); replace BK416 := bb_ BK416 hb; replace BK427 := bb_ BK427 hb; replace BK438 := bb_ BK438 hb; replace HB := hs_ w hb; (try clear hb); (try clear hb2); (try clear hk); (try clear hi); obtain ⟨hcz101_0, hcz101_1, hcz101_2, hcz101_3, hfz101_0, hfz101_1, hfz101_2, hfz101_3⟩ := cellsF4 BK416.out) | ((with_reducible refine gate_callee (f := 19) rfl ?_); refine gl_ 37 Try.func19 #[.agg #[.int .i64 a0_0, .int .i64 a0_1, .int .i64 a0_2, .int .i64 a0_3]] ?_ rfl rfl rfl rfl; (with_reducible refine (F19.calls a0_0 a0_1 a0_2 a0_3 t443 t444 t445 t446 _ A37.out).mono ?_); rintro e w102 ⟨rfl, hb⟩; refine ⟨_, rfl, ?_⟩; replace HO423 := am_ (Kd.S_below au5_0 hb); replace HO434 := am_ (Kd.S_below au5_1 hb); replace BK416 := bb_ BK416 hb; replace BK427 := bb_ BK427 hb; replace BK438 := bb_ BK438 hb; replace HB := hs_ w hb; (try clear hb); (try clear hb2); (try clear hk); (try clear hi)) | ((with_reducible refine gate_callee (f := 51) rfl ?_); refine gl_ 39 Try.func51 #[.agg #[.int .i64 t443, .int .i64 t444, .int .i64 t445, .int .i64 t446], .string a1] ?_ rfl rfl rfl rfl; (with_reducible refine (F51.calls k t443 t444 t445 t446 a1 t447 t450 t451 t452 _ A38.out).mono ?_); rintro e w103 ⟨v448, rfl, ho0, hb⟩; refine ⟨_, rfl, ?_⟩; have HO449 := am_ (Kd.S_lower (Kd.S_new' (Kd.S_new' ho0 (Kd.S_lt au5_0)) (Kd.S_lt au5_1)) (below_size bl_)); replace HO423 := am_ (Kd.S_elder' au5_0 (Kd.S_base ho0) hb); replace HO434 := am_ (Kd.S_elder' au5_1 (Kd.S_base ho0) hb); replace BK416 := bb_ BK416 hb; replace BK427 := bb_ BK427 hb; replace BK438 := bb_ BK438 hb; replace HB := hs_ w hb; (try clear hb); (try clear hb2); (try clear hk); (try clear hi); (try clear ho0)) | ((with_reducible refine gate_dst (N := 9) rfl ?_); refine be_ 9 #[.slice none 0 0, .int .i64 0, .int .i64 0, .int .i64 0] 78 ?_; intro gb453 hg w104 hbox hb; replace HO423 := am_ (Kd.S_below au5_0 hb); replace HO434 := am_ (Kd.S_below au5_1 hb); replace HO449 := am_ (Kd.S_below au5_10 hb); have BK453 := am_ (hbox); have GW453 := am_ (gw_ hg bl_); have GE453 := GW453; replace HB := hs_ w hb; have NB416_453 := am_ (gn_ hg (blkl_ BK416)); have NB453_416 := am_ (gm_ hg (blkl_ BK416)); replace BK416 := bb_ BK416 hb; have NB427_453 := am_ (gn_ hg (blkl_ BK427)); have NB453_427 := am_ (gm_ hg (blkl_ BK427)); replace BK427 := bb_ BK427 hb; have NB438_453 := am_ (gn_ hg (blkl_ BK438)); have NB453_438 := am_ (gm_ hg (blkl_ BK438)); replace BK438 := bb_ BK438 hb; clear hb hbox hg; obtain ⟨Ao105, co105, eo105⟩ := Kd.S_slice HO449.out; subst eo105; have hnb106 := NB453_416.out; have hnc106 := NB416_453.out; have hnb107 := NB453_427.out; have hnc107 := NB427_453.out; have hnb108 := NB453_438.out; have hnc108 := NB438_453.out; obtain ⟨hcz109_0, hcz109_1, hcz109_2, hcz109_3, hfz109_0, hfz109_1, hfz109_2, hfz109_3⟩ := cellsF4 BK453.out; obtain ⟨hcz110_0, hcz110_1, hcz110_2, hcz110_3, hfz110_0, hfz110_1, hfz110_2, hfz110_3⟩ := cellsF4 BK427.out) | ((with_reducible refine gate_callee (f := 52) rfl ?_); refine gl_ 42 Try.func52 #[.agg #[.slice Ao105 t447.length co105, .int .i64 t450, .int .i64 t451, .int .i64 t452], .agg #[.slice Ao84 t421.length co84, .int .i64 t424, .int .i64 t425, .int .i64 t426]] ?_ rfl rfl rfl rfl; (with_reducible refine (F52.calls k _ _ t447 t450 t451 t452 _ _ t421 t424 t425 t426 true _ ?s1 ?s2 ?s3 ?s4 A39.out).mono ?_); (case s1 => refine (Kd.S_reads' (e := 59) (base := w.heap.size) (ok := fun k_ => ((True ∧ some k_ ≠ (.slice Ao84 t421.length co84 : Value).ownBlock) ∧ some k_ ≠ (.slice Ao91 t432.length co91 : Value).ownBlock)) (n := t447.length) (c := co105) ?_).2.2; exact au5_12); (case s2 => exact au5_45); (case s3 => refine (Kd.S_reads' (e := 59) (base := w.heap.size) (ok := fun k_ => (some k_ ≠ (.slice Ao91 t432.length co91 : Value).ownBlock ∧ some k_ ≠ (.slice Ao105 t447.length co105 : Value).ownBlock)) (n := t421.length) (c := co84) ?_).2.2; exact au5_13); (case s4 => exact au5_35); rintro e w111 ⟨rfl, hb⟩; refine ⟨_, rfl, ?_⟩; replace HO423 := am_ (Kd.S_below au5_13 hb); replace HO434 := am_ (Kd.S_below (by (with_reducible repeat (first | apply Kd.S_alloc | apply Kd.S_drewN | apply Kd.S_drew)); exact (Kd.S_mono (Kd.S_far (p := ⟨gb453, 3, none⟩) (Kd.S_far (p := ⟨gb453, 2, none⟩) (Kd.S_far (p := ⟨gb453, 1, none⟩) (Kd.S_far (p := ⟨gb453, 0, none⟩) (Kd.S_types HO434.out BK453.out (by decide)) (fun _ hk => hk.2) (.slice Ao105 t447.length co105)) (fun _ hk => hk.2) (.int .i64 t450)) (fun _ hk => hk.2) (.int .i64 t451)) (fun _ hk => hk.2) (.int .i64 t452)) (fun _ h_ => h_.1))) hb); replace HO449 := am_ (Kd.S_below au5_12 hb); replace BK416 := am_ (blk_below (g := gb416) (o := .cells #[.int .i64 a0_0, .int .i64 a0_1, .int .i64 a0_2, .int .i64 a0_3] 29 (0, 0)) (bf_ BK416) hb); replace BK427 := am_ (blk_below (g := gb427) (o := .cells #[.slice Ao84 t421.length co84, .int .i64 t424, .int .i64 t425, .int .i64 t426] 78 (0, 0)) (bf_ BK427) hb); replace BK438 := am_ (blk_below (g := gb438) (o := .cells #[.slice Ao91 t432.length co91, .int .i64 t435, .int .i64 t436, .int .i64 t437] 78 (0, 0)) (bf_ BK438) hb); replace BK453 := am_ (blk_below (g := gb453) (o := .cells #[.slice Ao105 t447.length co105, .int .i64 t450, .int .i64 t451, .int .i64 t452] 78 (0, 0)) (bq_ BK453) hb); replace HB := hs_ w hb; (try clear hb); (try clear hb2); (try clear hk); (try clear hi); obtain ⟨hcz112_0, hcz112_1, hcz112_2, hcz112_3, hfz112_0, hfz112_1, hfz112_2, hfz112_3⟩ := cellsF4 BK438.out) | ((with_reducible refine gate_callee (f := 54) rfl ?_); refine goesL_ (some 46) rfl rfl Try.func54 (by kernel_rfl) rfl #[.agg #[.slice Ao91 t441.length co91, .int .i64 t435, .int .i64 t436, .int .i64 t437], .int .i64 1] rfl au5_3 ?_; (with_reducible refine (F54.calls k _ _ t441 t435 t436 t437 1 t455 _ ?s1 ?s2 A41.out).mono ?_); (case s1 => exact au5_4); (case s2 => exact au5_8); rintro e w113 ⟨rfl, hb⟩; refine ⟨_, rfl, ?_⟩; replace HO423 := am_ (Kd.S_below au5_0 hb); replace HO434 := am_ (Kd.S_below au5_1 hb); replace HO449 := am_ (Kd.S_below au5_10 hb); replace BK416 := bb_ BK416 hb; replace BK427 := bb_ BK427 hb; replace BK438 := bb_ BK438 hb; replace BK453 := bb_ BK453 hb; replace HB := hs_ w hb; (try clear hb); (try clear hb2); (try clear hk); (try clear hi)))
 go_ret
 exact ⟨au5_2, bl_⟩
/-- THE ONE PURE STATEMENT of F13: yours. -/
def F13.Pure : Prop := ∀ (a0_0 : Int) (a0_1 : Int) (a0_2 : Int) (a0_3 : Int) (a1 : ByteArray), (fun n_ : Int => (Lit.int .i64 n_).wf = true) a0_0 → (fun n_ : Int => (Lit.int .i64 n_).wf = true) a0_1 → (fun n_ : Int => (Lit.int .i64 n_).wf = true) a0_2 → (fun n_ : Int => (Lit.int .i64 n_).wf = true) a0_3 → (fun s_ : ByteArray => s_.size ≤ maxLen) a1 → ∃ k, F13.f k a0_0 a0_1 a0_2 a0_3 a1 = some true
end Go.Proofs.Ytchoalagkcdbhaa.PFnExactSegmentsRead
