-- printed by a program of this session (wip/xp/xprint.py) out of the translation; Lean checks it
import Derived.Test.YtchoalagkcdbhaaPFnExactSegmentReadx0
import Derived.Test.YtchoalagkcdbhaaPFnExactSegmentReadx1
import Derived.Test.YtchoalagkcdbhaaPFnExactSegmentReadx3
namespace Go.Proofs.Ytchoalagkcdbhaa.PFnExactSegmentRead
open Go.RowKit Go.Proofs.YtchoalagkcdbhaaW.PrintWords Go.Proofs.YtchoalagkcdbhaaW.PrintLast Go.Proofs.YtchoalagkcdbhaaW.PrintMore
attribute [local go_sem] max2_int min2_int max_two min_two max_three min_three max_four min_four   -- for this text's walks alone
set_option linter.unusedVariables false
set_option linter.unusedSimpArgs false
set_option maxHeartbeats 8000000
set_option maxRecDepth 100000

theorem ap_ {α β : Type} {d : Kd α} {d' : Kd β} {e e' base base' : Nat} {W w1 : World} {ok : Nat → Prop} {u v : Value} {xs : List α} {ys : List β} (hu : Kd.S d' e' W base ok u ys) (hv : Kd.S d e w1 W.heap.size (fun _ => True) v xs) (hb : Below W.heap.size W w1) (hl : base' ≤ W.heap.size) : ∃ b : Nat, Kd.S d e w1 base' (fun k => b ≤ k ∧ some k ≠ u.ownBlock) v xs ∧ Kd.S d' e' w1 base (fun k => k < b ∧ some k ≠ v.ownBlock) u ys :=
 ⟨W.heap.size, Kd.S_lower (Kd.S_mono (Kd.S_bound hv) (fun k hk => ⟨hk.2.1, fun e => Nat.not_le.2 (Kd.S_lt hu k e.symm) hk.2.1⟩)) hl, Kd.S_mono (Kd.S_below (Kd.S_bound hu) hb) (fun k hk => ⟨hk.2.2.1, fun e => Nat.not_le.2 hk.2.2.1 (Kd.S_base hv k e.symm)⟩)⟩
theorem pp_ {α : Type} {d : Kd α} {e base : Nat} {w : World} {ok : Nat → Prop} {v : Value} {xs : List α} (h : Aside0 (Kd.S d e w base ok v xs)) : ∃ P : Nat → Prop, Aside0 (Kd.S d e w base P v xs) ∧ Aside0 (∀ k, P k → ok k ∧ ∃ q, q ∈ e :: d.E ∧ ∃ cells, w.heap[k]? = some (.cells cells q (0, 0))) :=
 ⟨_, am_ (Kd.S_bound h.out), am_ (fun _ hk => ⟨hk.1, hk.2.2.2⟩)⟩
theorem nt_ {l : List Nat} {W : World} {k t : Nat} {cs : Array Value} (h : ∃ q, q ∈ l ∧ ∃ cells, W.heap[k]? = some (.cells cells q (0, 0))) (hb : W.heap[k]? = some (.cells cs t (0, 0))) (ht : ∀ q, q ∈ l → q ≠ t) : False := by
 obtain ⟨q, hq, c, hc⟩ := h
 rw [hb] at hc
 injection hc with hc
 injection hc with h1 h2
 exact ht q hq h2.symm
theorem au4_0 {p : Prop} (h : p := by (with_reducible repeat (first | apply Kd.S_alloc | apply Kd.S_drewN | apply Kd.S_drew)); exact HO382.out) : p := h
theorem au4_1 {p : Prop} (h : p := by (with_reducible repeat (first | apply Kd.S_alloc | apply Kd.S_drewN | apply Kd.S_drew)); exact HO394.out) : p := h
theorem au4_2 {p : Prop} (h : p := by first | rfl | (simp [errW_none, errW_some] <;> rfl) | (simp [*, errW_none, errW_some] <;> rfl)) : p := h
theorem au4_3 {p : Prop} (h : p := by (try simp only [List.map_toArray, List.map_cons, List.map_nil]); first | done | (rw [show t401.length = t392.length from (Kd.S_reads' HO394.out).1.symm] <;> rfl) | rfl | (simp only [List.length_drop, List.length_take]; rfl)) : p := h
theorem au4_4 {p : Prop} (h : p := by repeat (first | exact (Kd.C_below HR0_1.out HB.out) | (with_reducible refine Kd.C_alloc ?_ _) | (with_reducible refine Kd.C_drewN ?_ _) | (with_reducible refine Kd.C_drew ?_))) : p := h
theorem au4_5 {p : Prop} (h : p := by repeat (first | exact (Kd.S_reads' HO394.out).2.2 | (with_reducible refine Kd.C_alloc ?_ _) | (with_reducible refine Kd.C_drewN ?_ _) | (with_reducible refine Kd.C_drew ?_))) : p := h
theorem au4_6 {p : Prop} (h : p := by repeat (first | (with_reducible first | exact HB.out | apply below_alloc | apply pw_below_drewN | apply below_drew1 | refine below_set ?_ GE374.out | refine below_set ?_ GE386.out | refine below_set ?_ GE398.out) | exact HB.out)) : p := h
theorem au4_7 {p : Prop} (h : p := by repeat (first | exact (Kd.C_below HR1_1.out HB.out) | (with_reducible refine Kd.C_alloc ?_ _) | (with_reducible refine Kd.C_drewN ?_ _) | (with_reducible refine Kd.C_drew ?_))) : p := h
theorem au4_8 {p : Prop} (h : p := by rw [show t401.length = t392.length from (Kd.S_reads' HO394.out).1.symm]; exact (Kd.S_reads' HO394.out).2.1) : p := h
theorem au4_9 {p : Prop} (h : p := by repeat (first | (with_reducible first | exact HK.out | apply Kept.alloc | apply Kept.drewN | apply Kept.drew) | exact HK.out)) : p := h
theorem au4_10 {p : Prop} (h : p := by (with_reducible repeat (first | apply Kd.S_alloc | apply Kd.S_drewN | apply Kd.S_drew)); exact HO410.out) : p := h
theorem au4_11 {p : Prop} (h : p := by (with_reducible repeat (first | apply Kd.S_alloc | apply Kd.S_drewN | apply Kd.S_drew)); exact (Kd.S_mono (Kd.S_far (p := ⟨gb414, 4, none⟩) (Kd.S_far (p := ⟨gb414, 3, none⟩) (Kd.S_far (p := ⟨gb414, 2, none⟩) (Kd.S_far (p := ⟨gb414, 1, none⟩) (Kd.S_far (p := ⟨gb414, 0, none⟩) (Kd.S_types HO410.out BK414.out (by decide)) (fun _ hk => hk.2) (.string t407)) (fun _ hk => hk.2) (.slice Ao109 t408.length co109)) (fun _ hk => hk.2) (.int .i64 t411)) (fun _ hk => hk.2) (.int .i64 t412)) (fun _ hk => hk.2) (.int .i64 t413)) (fun _ h_ => h_.1))) : p := h
theorem au4_12 {p : Prop} (h : p := by (with_reducible repeat (first | apply Kd.S_alloc | apply Kd.S_drewN | apply Kd.S_drew)); exact (Kd.S_mono (Kd.S_far (p := ⟨gb414, 4, none⟩) (Kd.S_far (p := ⟨gb414, 3, none⟩) (Kd.S_far (p := ⟨gb414, 2, none⟩) (Kd.S_far (p := ⟨gb414, 1, none⟩) (Kd.S_far (p := ⟨gb414, 0, none⟩) (Kd.S_types HO382.out BK414.out (by decide)) (fun _ hk => hk.2) (.string t407)) (fun _ hk => hk.2) (.slice Ao109 t408.length co109)) (fun _ hk => hk.2) (.int .i64 t411)) (fun _ hk => hk.2) (.int .i64 t412)) (fun _ hk => hk.2) (.int .i64 t413)) (fun _ h_ => h_.1))) : p := h
theorem au4_13 {p : Prop} (h : p := by (with_reducible repeat (first | apply Kd.S_alloc | apply Kd.S_drewN | apply Kd.S_drew)); exact (Kd.S_mono (Kd.S_far (p := ⟨gb398, 4, none⟩) (Kd.S_far (p := ⟨gb398, 3, none⟩) (Kd.S_far (p := ⟨gb398, 2, none⟩) (Kd.S_far (p := ⟨gb398, 1, none⟩) (Kd.S_far (p := ⟨gb398, 0, none⟩) (Kd.S_types HO394.out BK398.out (by decide)) (fun _ hk => hk.2) (.string t391)) (fun _ hk => hk.2) (.slice Ao129 t392.length co129)) (fun _ hk => hk.2) (.int .i64 t395)) (fun _ hk => hk.2) (.int .i64 t396)) (fun _ hk => hk.2) (.int .i64 t397)) (fun _ h_ => h_.1))) : p := h
theorem au4_14 {p : Prop} (h : p := by (with_reducible repeat (first | apply Kd.S_alloc | apply Kd.S_drewN | apply Kd.S_drew)); exact (Kd.S_mono (Kd.S_far (p := ⟨gb398, 4, none⟩) (Kd.S_far (p := ⟨gb398, 3, none⟩) (Kd.S_far (p := ⟨gb398, 2, none⟩) (Kd.S_far (p := ⟨gb398, 1, none⟩) (Kd.S_far (p := ⟨gb398, 0, none⟩) (Kd.S_types HO382.out BK398.out (by decide)) (fun _ hk => hk.2) (.string t391)) (fun _ hk => hk.2) (.slice Ao129 t392.length co129)) (fun _ hk => hk.2) (.int .i64 t395)) (fun _ hk => hk.2) (.int .i64 t396)) (fun _ hk => hk.2) (.int .i64 t397)) (fun _ h_ => h_.1))) : p := h
theorem au4_15 {p : Prop} (h : p := by (with_reducible repeat (first | apply Kd.S_alloc | apply Kd.S_drewN | apply Kd.S_drew)); exact (Kd.S_mono (Kd.S_far (p := ⟨gb414, 4, none⟩) (Kd.S_far (p := ⟨gb414, 3, none⟩) (Kd.S_far (p := ⟨gb414, 2, none⟩) (Kd.S_far (p := ⟨gb414, 1, none⟩) (Kd.S_far (p := ⟨gb414, 0, none⟩) (Kd.S_types HO410.out BK414.out (by decide)) (fun _ hk => hk.2) (.string t407)) (fun _ hk => hk.2) (.slice Ao144 t408.length co144)) (fun _ hk => hk.2) (.int .i64 t411)) (fun _ hk => hk.2) (.int .i64 t412)) (fun _ hk => hk.2) (.int .i64 t413)) (fun _ h_ => h_.1))) : p := h
theorem au4_16 {p : Prop} (h : p := by (with_reducible repeat (first | apply Kd.S_alloc | apply Kd.S_drewN | apply Kd.S_drew)); exact (Kd.S_mono (Kd.S_far (p := ⟨gb414, 4, none⟩) (Kd.S_far (p := ⟨gb414, 3, none⟩) (Kd.S_far (p := ⟨gb414, 2, none⟩) (Kd.S_far (p := ⟨gb414, 1, none⟩) (Kd.S_far (p := ⟨gb414, 0, none⟩) (Kd.S_types HO382.out BK414.out (by decide)) (fun _ hk => hk.2) (.string t407)) (fun _ hk => hk.2) (.slice Ao144 t408.length co144)) (fun _ hk => hk.2) (.int .i64 t411)) (fun _ hk => hk.2) (.int .i64 t412)) (fun _ hk => hk.2) (.int .i64 t413)) (fun _ h_ => h_.1))) : p := h
theorem au4_17 {p : Prop} (h : p := by (with_reducible repeat (first | apply Kd.S_alloc | apply Kd.S_drewN | apply Kd.S_drew)); exact (Kd.S_mono (Kd.S_far (p := ⟨gb398, 4, none⟩) (Kd.S_far (p := ⟨gb398, 3, none⟩) (Kd.S_far (p := ⟨gb398, 2, none⟩) (Kd.S_far (p := ⟨gb398, 1, none⟩) (Kd.S_far (p := ⟨gb398, 0, none⟩) (Kd.S_types HO394.out BK398.out (by decide)) (fun _ hk => hk.2) (.string t391)) (fun _ hk => hk.2) (.slice Ao164 t392.length co164)) (fun _ hk => hk.2) (.int .i64 t395)) (fun _ hk => hk.2) (.int .i64 t396)) (fun _ hk => hk.2) (.int .i64 t397)) (fun _ h_ => h_.1))) : p := h
theorem au4_18 {p : Prop} (h : p := by (with_reducible repeat (first | apply Kd.S_alloc | apply Kd.S_drewN | apply Kd.S_drew)); exact (Kd.S_mono (Kd.S_far (p := ⟨gb398, 4, none⟩) (Kd.S_far (p := ⟨gb398, 3, none⟩) (Kd.S_far (p := ⟨gb398, 2, none⟩) (Kd.S_far (p := ⟨gb398, 1, none⟩) (Kd.S_far (p := ⟨gb398, 0, none⟩) (Kd.S_types HO382.out BK398.out (by decide)) (fun _ hk => hk.2) (.string t391)) (fun _ hk => hk.2) (.slice Ao164 t392.length co164)) (fun _ hk => hk.2) (.int .i64 t395)) (fun _ hk => hk.2) (.int .i64 t396)) (fun _ hk => hk.2) (.int .i64 t397)) (fun _ h_ => h_.1))) : p := h
theorem au4_19 {p : Prop} (h : p := by (with_reducible repeat (first | apply Kd.S_alloc | apply Kd.S_drewN | apply Kd.S_drew)); exact (Kd.S_mono (Kd.S_far (p := ⟨gb414, 4, none⟩) (Kd.S_far (p := ⟨gb414, 3, none⟩) (Kd.S_far (p := ⟨gb414, 2, none⟩) (Kd.S_far (p := ⟨gb414, 1, none⟩) (Kd.S_far (p := ⟨gb414, 0, none⟩) (Kd.S_types HO410.out BK414.out (by decide)) (fun _ hk => hk.2) (.string t407)) (fun _ hk => hk.2) (.slice Ao179 t408.length co179)) (fun _ hk => hk.2) (.int .i64 t411)) (fun _ hk => hk.2) (.int .i64 t412)) (fun _ hk => hk.2) (.int .i64 t413)) (fun _ h_ => h_.1))) : p := h
theorem au4_20 {p : Prop} (h : p := by (with_reducible repeat (first | apply Kd.S_alloc | apply Kd.S_drewN | apply Kd.S_drew)); exact (Kd.S_mono (Kd.S_far (p := ⟨gb414, 4, none⟩) (Kd.S_far (p := ⟨gb414, 3, none⟩) (Kd.S_far (p := ⟨gb414, 2, none⟩) (Kd.S_far (p := ⟨gb414, 1, none⟩) (Kd.S_far (p := ⟨gb414, 0, none⟩) (Kd.S_types HO382.out BK414.out (by decide)) (fun _ hk => hk.2) (.string t407)) (fun _ hk => hk.2) (.slice Ao179 t408.length co179)) (fun _ hk => hk.2) (.int .i64 t411)) (fun _ hk => hk.2) (.int .i64 t412)) (fun _ hk => hk.2) (.int .i64 t413)) (fun _ h_ => h_.1))) : p := h
theorem au4_21 {p : Prop} (h : p := by (with_reducible repeat (first | apply Kd.S_alloc | apply Kd.S_drewN | apply Kd.S_drew)); exact (Kd.S_mono (Kd.S_far (p := ⟨gb398, 4, none⟩) (Kd.S_far (p := ⟨gb398, 3, none⟩) (Kd.S_far (p := ⟨gb398, 2, none⟩) (Kd.S_far (p := ⟨gb398, 1, none⟩) (Kd.S_far (p := ⟨gb398, 0, none⟩) (Kd.S_types HO394.out BK398.out (by decide)) (fun _ hk => hk.2) (.string t391)) (fun _ hk => hk.2) (.slice Ao197 t392.length co197)) (fun _ hk => hk.2) (.int .i64 t395)) (fun _ hk => hk.2) (.int .i64 t396)) (fun _ hk => hk.2) (.int .i64 t397)) (fun _ h_ => h_.1))) : p := h
theorem au4_22 {p : Prop} (h : p := by (with_reducible repeat (first | apply Kd.S_alloc | apply Kd.S_drewN | apply Kd.S_drew)); exact (Kd.S_mono (Kd.S_far (p := ⟨gb398, 4, none⟩) (Kd.S_far (p := ⟨gb398, 3, none⟩) (Kd.S_far (p := ⟨gb398, 2, none⟩) (Kd.S_far (p := ⟨gb398, 1, none⟩) (Kd.S_far (p := ⟨gb398, 0, none⟩) (Kd.S_types HO382.out BK398.out (by decide)) (fun _ hk => hk.2) (.string t391)) (fun _ hk => hk.2) (.slice Ao197 t392.length co197)) (fun _ hk => hk.2) (.int .i64 t395)) (fun _ hk => hk.2) (.int .i64 t396)) (fun _ hk => hk.2) (.int .i64 t397)) (fun _ h_ => h_.1))) : p := h
theorem au4_23 {p : Prop} (h : p := by (with_reducible repeat (first | apply Kd.S_alloc | apply Kd.S_drewN | apply Kd.S_drew)); exact (Kd.S_mono (Kd.S_far (p := ⟨gb398, 4, none⟩) (Kd.S_far (p := ⟨gb398, 3, none⟩) (Kd.S_far (p := ⟨gb398, 2, none⟩) (Kd.S_far (p := ⟨gb398, 1, none⟩) (Kd.S_far (p := ⟨gb398, 0, none⟩) (Kd.S_types HO394.out BK398.out (by decide)) (fun _ hk => hk.2) (.string t391)) (fun _ hk => hk.2) (.slice Ao219 t392.length co219)) (fun _ hk => hk.2) (.int .i64 t395)) (fun _ hk => hk.2) (.int .i64 t396)) (fun _ hk => hk.2) (.int .i64 t397)) (fun _ h_ => h_.1))) : p := h
theorem au4_24 {p : Prop} (h : p := by (with_reducible repeat (first | apply Kd.S_alloc | apply Kd.S_drewN | apply Kd.S_drew)); exact (Kd.S_mono (Kd.S_far (p := ⟨gb398, 4, none⟩) (Kd.S_far (p := ⟨gb398, 3, none⟩) (Kd.S_far (p := ⟨gb398, 2, none⟩) (Kd.S_far (p := ⟨gb398, 1, none⟩) (Kd.S_far (p := ⟨gb398, 0, none⟩) (Kd.S_types HO382.out BK398.out (by decide)) (fun _ hk => hk.2) (.string t391)) (fun _ hk => hk.2) (.slice Ao219 t392.length co219)) (fun _ hk => hk.2) (.int .i64 t395)) (fun _ hk => hk.2) (.int .i64 t396)) (fun _ hk => hk.2) (.int .i64 t397)) (fun _ h_ => h_.1))) : p := h
theorem au4_25 {p : Prop} (h : p := by (with_reducible repeat (first | apply Kd.S_alloc | apply Kd.S_drewN | apply Kd.S_drew)); exact (Kd.S_mono (Kd.S_far (p := ⟨gb398, 4, none⟩) (Kd.S_far (p := ⟨gb398, 3, none⟩) (Kd.S_far (p := ⟨gb398, 2, none⟩) (Kd.S_far (p := ⟨gb398, 1, none⟩) (Kd.S_far (p := ⟨gb398, 0, none⟩) (Kd.S_types HO394.out BK398.out (by decide)) (fun _ hk => hk.2) (.string t391)) (fun _ hk => hk.2) (.slice Ao29 t392.length co29)) (fun _ hk => hk.2) (.int .i64 t395)) (fun _ hk => hk.2) (.int .i64 t396)) (fun _ hk => hk.2) (.int .i64 t397)) (fun _ h_ => h_.1))) : p := h
theorem au4_26 {p : Prop} (h : p := by (with_reducible repeat (first | apply Kd.S_alloc | apply Kd.S_drewN | apply Kd.S_drew)); exact (Kd.S_mono (Kd.S_far (p := ⟨gb398, 4, none⟩) (Kd.S_far (p := ⟨gb398, 3, none⟩) (Kd.S_far (p := ⟨gb398, 2, none⟩) (Kd.S_far (p := ⟨gb398, 1, none⟩) (Kd.S_far (p := ⟨gb398, 0, none⟩) (Kd.S_types HO382.out BK398.out (by decide)) (fun _ hk => hk.2) (.string t391)) (fun _ hk => hk.2) (.slice Ao29 t392.length co29)) (fun _ hk => hk.2) (.int .i64 t395)) (fun _ hk => hk.2) (.int .i64 t396)) (fun _ hk => hk.2) (.int .i64 t397)) (fun _ h_ => h_.1))) : p := h
theorem au4_27 {p : Prop} (h : p := by (with_reducible repeat (first | apply Kd.S_alloc | apply Kd.S_drewN | apply Kd.S_drew)); exact (Kd.S_mono (Kd.S_far (p := ⟨gb398, 4, none⟩) (Kd.S_far (p := ⟨gb398, 3, none⟩) (Kd.S_far (p := ⟨gb398, 2, none⟩) (Kd.S_far (p := ⟨gb398, 1, none⟩) (Kd.S_far (p := ⟨gb398, 0, none⟩) (Kd.S_types HO394.out BK398.out (by decide)) (fun _ hk => hk.2) (.string t391)) (fun _ hk => hk.2) (.slice Ao58 t392.length co58)) (fun _ hk => hk.2) (.int .i64 t395)) (fun _ hk => hk.2) (.int .i64 t396)) (fun _ hk => hk.2) (.int .i64 t397)) (fun _ h_ => h_.1))) : p := h
theorem au4_28 {p : Prop} (h : p := by (with_reducible repeat (first | apply Kd.S_alloc | apply Kd.S_drewN | apply Kd.S_drew)); exact (Kd.S_mono (Kd.S_far (p := ⟨gb398, 4, none⟩) (Kd.S_far (p := ⟨gb398, 3, none⟩) (Kd.S_far (p := ⟨gb398, 2, none⟩) (Kd.S_far (p := ⟨gb398, 1, none⟩) (Kd.S_far (p := ⟨gb398, 0, none⟩) (Kd.S_types HO382.out BK398.out (by decide)) (fun _ hk => hk.2) (.string t391)) (fun _ hk => hk.2) (.slice Ao58 t392.length co58)) (fun _ hk => hk.2) (.int .i64 t395)) (fun _ hk => hk.2) (.int .i64 t396)) (fun _ hk => hk.2) (.int .i64 t397)) (fun _ h_ => h_.1))) : p := h
theorem au4_29 {p : Prop} (h : p := by (with_reducible repeat (first | apply Kd.S_alloc | apply Kd.S_drewN | apply Kd.S_drew)); exact (Kd.S_mono (Kd.S_far (p := ⟨gb414, 4, none⟩) (Kd.S_far (p := ⟨gb414, 3, none⟩) (Kd.S_far (p := ⟨gb414, 2, none⟩) (Kd.S_far (p := ⟨gb414, 1, none⟩) (Kd.S_far (p := ⟨gb414, 0, none⟩) (Kd.S_types HO410.out BK414.out (by decide)) (fun _ hk => hk.2) (.string t407)) (fun _ hk => hk.2) (.slice Ao73 t408.length co73)) (fun _ hk => hk.2) (.int .i64 t411)) (fun _ hk => hk.2) (.int .i64 t412)) (fun _ hk => hk.2) (.int .i64 t413)) (fun _ h_ => h_.1))) : p := h
theorem au4_30 {p : Prop} (h : p := by (with_reducible repeat (first | apply Kd.S_alloc | apply Kd.S_drewN | apply Kd.S_drew)); exact (Kd.S_mono (Kd.S_far (p := ⟨gb414, 4, none⟩) (Kd.S_far (p := ⟨gb414, 3, none⟩) (Kd.S_far (p := ⟨gb414, 2, none⟩) (Kd.S_far (p := ⟨gb414, 1, none⟩) (Kd.S_far (p := ⟨gb414, 0, none⟩) (Kd.S_types HO382.out BK414.out (by decide)) (fun _ hk => hk.2) (.string t407)) (fun _ hk => hk.2) (.slice Ao73 t408.length co73)) (fun _ hk => hk.2) (.int .i64 t411)) (fun _ hk => hk.2) (.int .i64 t412)) (fun _ hk => hk.2) (.int .i64 t413)) (fun _ h_ => h_.1))) : p := h
theorem au4_31 {p : Prop} (h : p := by (with_reducible repeat (first | apply Kd.S_alloc | apply Kd.S_drewN | apply Kd.S_drew)); exact (Kd.S_mono (Kd.S_far (p := ⟨gb398, 4, none⟩) (Kd.S_far (p := ⟨gb398, 3, none⟩) (Kd.S_far (p := ⟨gb398, 2, none⟩) (Kd.S_far (p := ⟨gb398, 1, none⟩) (Kd.S_far (p := ⟨gb398, 0, none⟩) (Kd.S_types HO394.out BK398.out (by decide)) (fun _ hk => hk.2) (.string t391)) (fun _ hk => hk.2) (.slice Ao94 t392.length co94)) (fun _ hk => hk.2) (.int .i64 t395)) (fun _ hk => hk.2) (.int .i64 t396)) (fun _ hk => hk.2) (.int .i64 t397)) (fun _ h_ => h_.1))) : p := h
theorem au4_32 {p : Prop} (h : p := by (with_reducible repeat (first | apply Kd.S_alloc | apply Kd.S_drewN | apply Kd.S_drew)); exact (Kd.S_mono (Kd.S_far (p := ⟨gb398, 4, none⟩) (Kd.S_far (p := ⟨gb398, 3, none⟩) (Kd.S_far (p := ⟨gb398, 2, none⟩) (Kd.S_far (p := ⟨gb398, 1, none⟩) (Kd.S_far (p := ⟨gb398, 0, none⟩) (Kd.S_types HO382.out BK398.out (by decide)) (fun _ hk => hk.2) (.string t391)) (fun _ hk => hk.2) (.slice Ao94 t392.length co94)) (fun _ hk => hk.2) (.int .i64 t395)) (fun _ hk => hk.2) (.int .i64 t396)) (fun _ hk => hk.2) (.int .i64 t397)) (fun _ h_ => h_.1))) : p := h
theorem au4_33 {p : Prop} (h : p := by exact (Kd.S_reads' HO382.out).2.1) : p := h
theorem au4_34 {p : Prop} (h : p := by repeat (first | (with_reducible first | exact HK.out | apply Kept.alloc | apply Kept.drewN | apply Kept.drew) | exact HK.out)) : p := h
theorem au4_35 {p : Prop} (h : p := by repeat (first | exact (Kd.C_below HR352_0.out HB.out) | (with_reducible refine Kd.C_alloc ?_ _) | (with_reducible refine Kd.C_drewN ?_ _) | (with_reducible refine Kd.C_drew ?_))) : p := h
theorem au4_36 {p : Prop} (h : p := by repeat (first | exact (Kd.C_below HR353_0.out HB.out) | (with_reducible refine Kd.C_alloc ?_ _) | (with_reducible refine Kd.C_drewN ?_ _) | (with_reducible refine Kd.C_drew ?_))) : p := h
theorem au4_37 {p : Prop} (h : p := by repeat (first | exact (Kd.C_below HR368_0.out HB.out) | (with_reducible refine Kd.C_alloc ?_ _) | (with_reducible refine Kd.C_drewN ?_ _) | (with_reducible refine Kd.C_drew ?_))) : p := h
theorem au4_38 {p : Prop} (h : p := by repeat (first | exact (Kd.C_below HR0_0.out HB.out) | (with_reducible refine Kd.C_alloc ?_ _) | (with_reducible refine Kd.C_drewN ?_ _) | (with_reducible refine Kd.C_drew ?_))) : p := h
theorem au4_39 {p : Prop} (h : p := by repeat (first | exact (Kd.C_below HR1_0.out HB.out) | (with_reducible refine Kd.C_alloc ?_ _) | (with_reducible refine Kd.C_drewN ?_ _) | (with_reducible refine Kd.C_drew ?_))) : p := h
theorem au4_40 {p : Prop} (h : p := by exact (Kd.S_reads' HO394.out).2.1) : p := h
theorem au4_41 {p : Prop} (h : p := by repeat (first | (with_reducible first | exact HB7.out | apply below_alloc | apply pw_below_drewN | apply below_drew1) | exact HB7.out)) : p := h
theorem au4_42 {p : Prop} (h : p := by repeat (first | (with_reducible first | exact HB5.out | apply below_alloc | apply pw_below_drewN | apply below_drew1) | exact HB5.out)) : p := h
theorem au4_43 {p : Prop} (h : p := by rintro w' ⟨s0, s1⟩; go_simp; with_reducible rfl) : p := h
theorem au4_44 {p : Prop} (h : p := by repeat (first | (with_reducible first | exact HK7.out | apply Kept.alloc | apply Kept.drewN | apply Kept.drew) | exact HK7.out)) : p := h
theorem au4_45 {p : Prop} (h : p := by (with_reducible repeat (first | apply Kd.S_alloc | apply Kd.S_drewN | apply Kd.S_drew)); exact HO_0.out) : p := h
theorem au4_46 {p : Prop} (h : p := by (with_reducible repeat (first | apply Kd.S_alloc | apply Kd.S_drewN | apply Kd.S_drew)); exact HO7.out) : p := h
theorem au4_47 {p : Prop} (h : p := by (with_reducible repeat (first | apply Kd.S_alloc | apply Kd.S_drewN | apply Kd.S_drew)); exact HO5.out) : p := h
theorem au4_48 {p : Prop} (h : p := by exact (Kd.S_reads' HO410.out).2.1) : p := h

/-! ### F27: function 27 -/
def F27.l0 : Nat → List ByteArray → List ByteArray → Int → Option (Bool)
  | 0, _, _, _ => none
  | k + 1, x0, x1, x5 => if x5 < (x0.length : Int) then (if 0 ≤ x5 then (if x5 < (x1.length : Int) then (if (rdOf ByteArray.empty x0 x5).toList = (rdOf ByteArray.empty x1 x5).toList then (F27.l0 k x0 x1 (wrap64 (x5 + 1))) else (some false)) else (none)) else (none)) else (some true)
def F27.f (k : Nat) (l0 : List ByteArray) (l1 : List ByteArray) : Option (Bool) := if (l0.length : Int) = (l1.length : Int) then (F27.l0 k l0 l1 0) else (some false)
theorem F27.mono_l : ∀ k, (∀ y0 y1 y2, LeO (F27.l0 k y0 y1 y2) (F27.l0 (k + 1) y0 y1 y2))
 | 0 => fun _ _ _ r h => by simp [F27.l0] at h
 | k + 1 => by
  have ih0 := F27.mono_l k
  intro y0 y1 y2
  unfold F27.l0
  repeat' with_reducible first | exact ih0 _ _ _ | exact LeO.refl _ | exact LeO.none _ | refine LeO.ite ?_ ?_ | refine LeO.bind ?_ (fun _ => ?_)
theorem F27.mono : ∀ a0 a1 k, LeO (F27.f k a0 a1) (F27.f (k + 1) a0 a1) := by
 intro a0 a1 k
 have ih0 := F27.mono_l k
 unfold F27.f
 repeat' with_reducible first | exact ih0 _ _ _ | exact LeO.refl _ | exact LeO.none _ | refine LeO.ite ?_ ?_ | refine LeO.bind ?_ (fun _ => ?_)
theorem F27.calls (k : Nat) (A0 : Option Addr) (c0 : Nat) (l0 : List ByteArray) (A1 : Option Addr) (c1 : Nat) (l1 : List ByteArray) (r : Bool) (w : World) (hr0 : Kd.C Kd.string w A0 l0.length l0) (hc0 : l0.length ≤ c0) (hr1 : Kd.C Kd.string w A1 l1.length l1) (hc1 : l1.length ≤ c1) (h : F27.f k l0 l1 = some r) :
  Calls Try.prog 27 #[.slice A0 l0.length c0, .slice A1 l1.length c1] w fun e w' => e = .returned (.bool r) ∧ Drawn0 w w' := by
 have HR0 := am_ hr0
 have HC0 := am_ hc0
 clear hr0 hc0
 have HR1 := am_ hr1
 have HC1 := am_ hc1
 clear hr1 hc1
 have H : (if (l0.length : Int) = (l1.length : Int) then (F27.l0 k l0 l1 0) else (some false)) = some r := h
 clear h
 by_cases c3 : (l0.length : Int) = (l1.length : Int)
 rotate_left
 ·rw [if_neg c3] at H
  have c3b0 : ((l0.length : Int) == (l1.length : Int)) = false := beq_eq_false_iff_ne.mpr c3
  have c3b1 : ((l0.length : Int) != (l1.length : Int)) = true := bne_iff_ne.mpr c3
  have c3b2 : (l0.length == l1.length) = false := by first | simpa using c3 | (simp at c3 ⊢; omega)
  obtain rfl := Option.some.inj H
  go_enter Try.func27, Try.ntmps27
  go_wp2
  repeat (go_quiet (fail); try go_wp2)
  go_ret
  exact ⟨er_, dn_⟩

 rw [if_pos c3] at H
 have c3b0 : ((l0.length : Int) == (l1.length : Int)) = true := beq_iff_eq.mpr c3
 have c3b1 : ((l0.length : Int) != (l1.length : Int)) = false := bne_eq_false_iff_eq.mpr c3
 have c3b2 : (l0.length == l1.length) = true := by first | simpa using c3 | (simp at c3 ⊢; omega)
 clear c3
 have H' := am_ H
 clear H
 go_enter Try.func27, Try.ntmps27
 go_wp2
 repeat (go_quiet (fail); try go_wp2)
 go_loopg [5] k (fun kq v5 w' => ∃ (x5_1 : Int), v5 = .int .i64 x5_1 ∧ Aside0 (F27.l0 kq l0 l1 x5_1 = some r) ∧ Aside0 (kq ≤ k) ∧ Drawn0 w w')
 case atStart => exact ⟨(0), er_, H', ⟨Nat.le_refl _⟩, dn_⟩
 case round =>
  clear H'
  try clear c1
  try clear c3
  try clear c3b0
  try clear c3b1
  try clear c3b2
  obtain ⟨x5_1, rfl, HA, HK1, ⟨m1, rfl⟩⟩ := hrel
  cases gk with
  | zero => exact absurd HA.out (by simp [F27.l0])
  | succ k1 =>
   have H := HA.out
   clear HA
   simp only [F27.l0] at H
   replace H := it_ H; rcases H with ⟨c4b0, H⟩ | ⟨c4b0, H⟩
   rotate_left
   ·obtain rfl := Option.some.inj H
    go_wp2
    repeat (go_quiet (fail); try go_wp2)
    go_ret
    exact ⟨er_, dn_⟩
   replace H := itn_ H; rcases H with ⟨c5b0, H⟩
   replace H := itn_ H; rcases H with ⟨c6b0, H⟩
   by_cases c7 : (rdOf ByteArray.empty l0 x5_1).toList = (rdOf ByteArray.empty l1 x5_1).toList
   rotate_left
   ·rw [if_neg c7] at H
    have c7b0 : ((rdOf ByteArray.empty l0 x5_1).toList == (rdOf ByteArray.empty l1 x5_1).toList) = false := beq_eq_false_iff_ne.mpr c7
    have c7b1 : ((rdOf ByteArray.empty l0 x5_1).toList != (rdOf ByteArray.empty l1 x5_1).toList) = true := bne_iff_ne.mpr c7
    obtain rfl := Option.some.inj H
    have p347 : 0 ≤ (x5_1 : Int) := od_
    have q347 : x5_1 < (l0.length : Int) := od_
    obtain ⟨ad347, e347, hx347_0⟩ := Kd.at_string HR0.out x5_1 p347 q347
    cases e347
    replace p347 := eq_true p347
    replace q347 := eq_true q347
    have p348 : 0 ≤ (x5_1 : Int) := od_
    have q348 : x5_1 < (l1.length : Int) := od_
    obtain ⟨ad348, e348, hx348_0⟩ := Kd.at_string HR1.out x5_1 p348 q348
    cases e348
    replace p348 := eq_true p348
    replace q348 := eq_true q348
    go_wp2
    repeat (go_quiet (fail); try go_wp2)
    go_ret
    exact ⟨er_, dn_⟩
   rw [if_pos c7] at H
   have c7b0 : ((rdOf ByteArray.empty l0 x5_1).toList == (rdOf ByteArray.empty l1 x5_1).toList) = true := beq_iff_eq.mpr c7
   have c7b1 : ((rdOf ByteArray.empty l0 x5_1).toList != (rdOf ByteArray.empty l1 x5_1).toList) = false := bne_eq_false_iff_eq.mpr c7
   clear c7
   have H' := am_ H
   clear H
   have p347 : 0 ≤ (x5_1 : Int) := od_
   have q347 : x5_1 < (l0.length : Int) := od_
   obtain ⟨ad347, e347, hx347_0⟩ := Kd.at_string HR0.out x5_1 p347 q347
   cases e347
   replace p347 := eq_true p347
   replace q347 := eq_true q347
   have p348 : 0 ≤ (x5_1 : Int) := od_
   have q348 : x5_1 < (l1.length : Int) := od_
   obtain ⟨ad348, e348, hx348_0⟩ := Kd.at_string HR1.out x5_1 p348 q348
   cases e348
   replace p348 := eq_true p348
   replace q348 := eq_true q348
   go_wp2
   repeat (go_quiet (fail); try go_wp2)
   go_roundg k1
   case measure => have := HK1.out; omega
   case rel => exact ⟨(wrap64 (x5_1 + 1)), er_, H', ⟨by have := HK1.out; omega⟩, dn_⟩
/-! ### F113: function 113 -/
def F113.f (k : Nat) (l0_0 : List ByteArray) (l1_0 : List ByteArray) : Option (Bool) := (F27.f k l0_0 l1_0).bind fun t351 => (if t351 = true then (some true) else (some false))
theorem F113.mono : ∀ a0 a1 k, LeO (F113.f k a0 a1) (F113.f (k + 1) a0 a1) := by
 intro a0 a1 k
 unfold F113.f
 repeat' with_reducible first | exact F27.mono _ _ _ | exact LeO.refl _ | exact LeO.none _ | refine LeO.ite ?_ ?_ | refine LeO.bind ?_ (fun _ => ?_)
theorem F113.calls (k : Nat) (A0_0 : Option Addr) (c0_0 : Nat) (l0_0 : List ByteArray) (A1_0 : Option Addr) (c1_0 : Nat) (l1_0 : List ByteArray) (r : Bool) (w : World) (hr0_0 : Kd.C Kd.string w A0_0 l0_0.length l0_0) (hc0_0 : l0_0.length ≤ c0_0) (hr1_0 : Kd.C Kd.string w A1_0 l1_0.length l1_0) (hc1_0 : l1_0.length ≤ c1_0) (h : F113.f k l0_0 l1_0 = some r) :
  Calls Try.prog 113 #[.agg #[.slice A0_0 l0_0.length c0_0], .agg #[.slice A1_0 l1_0.length c1_0]] w fun e w' => e = .returned (.bool r) ∧ Below w.heap.size w w' := by
 have hu102 := Try.underlying102
 have HR0_0 := am_ hr0_0
 have HC0_0 := am_ hc0_0
 clear hr0_0 hc0_0
 have HR1_0 := am_ hr1_0
 have HC1_0 := am_ hc1_0
 clear hr1_0 hc1_0
 have HB := am_ (Below.refl w.heap.size w)
 have H : ((F27.f k l0_0 l1_0).bind fun t351 => (if t351 = true then (some true) else (some false))) = some r := h
 clear h
 replace H := bi_ H; rcases H with ⟨t351, A3, H⟩
 replace H := ib_ H; rcases H with ⟨rfl, H⟩ | ⟨rfl, H⟩
 ·obtain rfl := Option.some.inj H
  go_enter Try.func113, Try.ntmps113
  go_wp2_with (first | ((with_reducible refine gate_dst (N := 2) rfl ?_); refine be_ 2 #[.slice A0_0 l0_0.length c0_0] 102 ?_; intro gb349 hg w5 hbox hb; have BK349 := am_ (hbox); have GW349 := am_ (gw_ hg bl_); have GE349 := GW349; replace HB := hs_ w hb; clear hb hbox hg) | ((with_reducible refine gate_dst (N := 3) rfl ?_); refine be_ 3 #[.slice A1_0 l1_0.length c1_0] 102 ?_; intro gb350 hg w6 hbox hb; have BK350 := am_ (hbox); have GW350 := am_ (gw_ hg bl_); have GE350 := GW350; replace HB := hs_ w hb; have NB349_350 := am_ (gn_ hg (blkl_ BK349)); have NB350_349 := am_ (gm_ hg (blkl_ BK349)); replace BK349 := bb_ BK349 hb; clear hb hbox hg; have hnb7 := NB349_350.out; have hnc7 := NB350_349.out; have hcz8_0 : w6.cell? ⟨gb349, 0, none⟩ = some (.slice A0_0 l0_0.length c0_0) := (blk_cell BK349.out 0).trans rfl; have hfz8_0 := blk_frozen BK349.out 0; have hcz9_0 : w6.cell? ⟨gb350, 0, none⟩ = some (.slice A1_0 l1_0.length c1_0) := (blk_cell BK350.out 0).trans rfl; have hfz9_0 := blk_frozen BK350.out 0) | ((with_reducible refine gate_callee (f := 27) rfl ?_); refine gl_ 9 Try.func27 #[.slice A0_0 l0_0.length c0_0, .slice A1_0 l1_0.length c1_0] ?_ rfl rfl rfl rfl; (with_reducible refine (F27.calls k _ _ l0_0 _ _ l1_0 true _ ?s1 ?s2 ?s3 ?s4 A3.out).mono ?_); (case s1 => exact au4_38); (case s2 => exact HC0_0.out); (case s3 => exact au4_39); (case s4 => exact HC1_0.out); rintro e w' ⟨rfl, ⟨nd, rfl⟩⟩; refine ⟨_, rfl, ?_⟩))
  go_ret
  exact ⟨au4_2, bl_⟩
 obtain rfl := Option.some.inj H
 go_enter Try.func113, Try.ntmps113
 go_wp2_with (first | ((with_reducible refine gate_dst (N := 2) rfl ?_); refine be_ 2 #[.slice A0_0 l0_0.length c0_0] 102 ?_; intro gb349 hg w10 hbox hb; have BK349 := am_ (hbox); have GW349 := am_ (gw_ hg bl_); have GE349 := GW349; replace HB := hs_ w hb; clear hb hbox hg) | ((with_reducible refine gate_dst (N := 3) rfl ?_); refine be_ 3 #[.slice A1_0 l1_0.length c1_0] 102 ?_; intro gb350 hg w11 hbox hb; have BK350 := am_ (hbox); have GW350 := am_ (gw_ hg bl_); have GE350 := GW350; replace HB := hs_ w hb; have NB349_350 := am_ (gn_ hg (blkl_ BK349)); have NB350_349 := am_ (gm_ hg (blkl_ BK349)); replace BK349 := bb_ BK349 hb; clear hb hbox hg; have hnb12 := NB349_350.out; have hnc12 := NB350_349.out; have hcz13_0 : w11.cell? ⟨gb349, 0, none⟩ = some (.slice A0_0 l0_0.length c0_0) := (blk_cell BK349.out 0).trans rfl; have hfz13_0 := blk_frozen BK349.out 0; have hcz14_0 : w11.cell? ⟨gb350, 0, none⟩ = some (.slice A1_0 l1_0.length c1_0) := (blk_cell BK350.out 0).trans rfl; have hfz14_0 := blk_frozen BK350.out 0) | ((with_reducible refine gate_callee (f := 27) rfl ?_); refine gl_ 9 Try.func27 #[.slice A0_0 l0_0.length c0_0, .slice A1_0 l1_0.length c1_0] ?_ rfl rfl rfl rfl; (with_reducible refine (F27.calls k _ _ l0_0 _ _ l1_0 false _ ?s1 ?s2 ?s3 ?s4 A3.out).mono ?_); (case s1 => exact au4_38); (case s2 => exact HC0_0.out); (case s3 => exact au4_39); (case s4 => exact HC1_0.out); rintro e w' ⟨rfl, ⟨nd, rfl⟩⟩; refine ⟨_, rfl, ?_⟩))
 go_ret
 exact ⟨au4_2, bl_⟩

/-! ### F84: function 84 -/
def F84.l0 : Nat → List (S102) → List (S102) → Int → Option (Bool)
  | 0, _, _, _ => none
  | k + 1, x0, x1, x5 => if x5 < (x0.length : Int) then (if 0 ≤ x5 then (if x5 < (x1.length : Int) then ((F113.f k ((rd_T102 x0 x5).f0) ((rd_T102 x1 x5).f0)).bind fun t354 => (if t354 = true then (F84.l0 k x0 x1 (wrap64 (x5 + 1))) else (some false))) else (none)) else (none)) else (some true)
def F84.f (k : Nat) (l0 : List (S102)) (l1 : List (S102)) : Option (Bool) := if (l0.length : Int) = (l1.length : Int) then (F84.l0 k l0 l1 0) else (some false)
theorem F84.mono_l : ∀ k, (∀ y0 y1 y2, LeO (F84.l0 k y0 y1 y2) (F84.l0 (k + 1) y0 y1 y2))
 | 0 => fun _ _ _ r h => by simp [F84.l0] at h
 | k + 1 => by
  have ih0 := F84.mono_l k
  intro y0 y1 y2
  unfold F84.l0
  repeat' with_reducible first | exact ih0 _ _ _ | exact F113.mono _ _ _ | exact LeO.refl _ | exact LeO.none _ | refine LeO.ite ?_ ?_ | refine LeO.bind ?_ (fun _ => ?_)
theorem F84.mono : ∀ a0 a1 k, LeO (F84.f k a0 a1) (F84.f (k + 1) a0 a1) := by
 intro a0 a1 k
 have ih0 := F84.mono_l k
 unfold F84.f
 repeat' with_reducible first | exact ih0 _ _ _ | exact F113.mono _ _ _ | exact LeO.refl _ | exact LeO.none _ | refine LeO.ite ?_ ?_ | refine LeO.bind ?_ (fun _ => ?_)
def F84.T6 : Bool × List (List Nat × List Nat) := (true, [([], []), ([], []), ([0, 1], [0, 1]), ([2], [2]), ([], []), ([], []), ([4, 5], [4, 5]), ([6], [6]), ([3, 7], [3, 7]), ([8], [8])])
def F84.B6 : List Nat := [0, 0, 3, 7, 0, 0, 48, 112, 255, 511]
theorem F84.tab6 : rtab .any (opsOf Try.f84 6) = F84.T6 := by kernel_rfl
theorem F84.bits6 : waitsOk F84.T6.2 F84.B6 = true := by kernel_rfl
theorem F84.calls (k : Nat) (A0 : Option Addr) (c0 : Nat) (l0 : List (S102)) (A1 : Option Addr) (c1 : Nat) (l1 : List (S102)) (r : Bool) (w : World) (hr0 : Kd.C k102 w A0 l0.length l0) (hc0 : l0.length ≤ c0) (hr1 : Kd.C k102 w A1 l1.length l1) (hc1 : l1.length ≤ c1) (h : F84.f k l0 l1 = some r) :
  Calls Try.prog 84 #[.slice A0 l0.length c0, .slice A1 l1.length c1] w fun e w' => e = .returned (.bool r) ∧ Below w.heap.size w w' := by
 have hu102 := Try.underlying102
 have HR0 := am_ hr0
 have HC0 := am_ hc0
 clear hr0 hc0
 have HR1 := am_ hr1
 have HC1 := am_ hc1
 clear hr1 hc1
 have HB := am_ (Below.refl w.heap.size w)
 have H : (if (l0.length : Int) = (l1.length : Int) then (F84.l0 k l0 l1 0) else (some false)) = some r := h
 clear h
 by_cases c3 : (l0.length : Int) = (l1.length : Int)
 rotate_left
 ·rw [if_neg c3] at H
  have c3b0 : ((l0.length : Int) == (l1.length : Int)) = false := beq_eq_false_iff_ne.mpr c3
  have c3b1 : ((l0.length : Int) != (l1.length : Int)) = true := bne_iff_ne.mpr c3
  have c3b2 : (l0.length == l1.length) = false := by first | simpa using c3 | (simp at c3 ⊢; omega)
  obtain rfl := Option.some.inj H
  go_enter Try.func84, Try.ntmps84
  go_wp2
  go_ret
  exact ⟨au4_2, bl_⟩

 rw [if_pos c3] at H
 have c3b0 : ((l0.length : Int) == (l1.length : Int)) = true := beq_iff_eq.mpr c3
 have c3b1 : ((l0.length : Int) != (l1.length : Int)) = false := bne_eq_false_iff_eq.mpr c3
 have c3b2 : (l0.length == l1.length) = true := by first | simpa using c3 | (simp at c3 ⊢; omega)
 clear c3
 have H' := am_ H
 clear H
 go_enter Try.func84, Try.ntmps84
 go_wp2
 go_loopg [5] k (fun kq v5 w' => ∃ (x5_1 : Int), v5 = .int .i64 x5_1 ∧ Aside0 (F84.l0 kq l0 l1 x5_1 = some r) ∧ Aside0 (kq ≤ k) ∧ Aside0 (Below w.heap.size w w'))
 case atStart => exact ⟨(0), er_, H', ⟨Nat.le_refl _⟩, ⟨bl_⟩⟩
 case round =>
  clear H'
  try clear c1
  try clear c3
  try clear c3b0
  try clear c3b1
  try clear c3b2
  obtain ⟨x5_1, rfl, HA, HK1, HB⟩ := hrel
  cases gk with
  | zero => exact absurd HA.out (by simp [F84.l0])
  | succ k1 =>
   have H := HA.out
   clear HA
   simp only [F84.l0] at H
   replace H := it_ H; rcases H with ⟨c4b0, H⟩ | ⟨c4b0, H⟩
   rotate_left
   ·obtain rfl := Option.some.inj H
    go_wp2
    go_ret
    exact ⟨au4_2, bl_⟩
   replace H := itn_ H; rcases H with ⟨c5b0, H⟩
   replace H := itn_ H; rcases H with ⟨c6b0, H⟩
   replace H := bi_ H; rcases H with ⟨t354, A7, H⟩
   replace H := ib_ H; rcases H with ⟨rfl, H⟩ | ⟨rfl, H⟩
   rotate_left
   ·obtain rfl := Option.some.inj H
    try go_wp2
    replace HB := am_ (below_drew1 HB.out)
    have p352 : 0 ≤ (x5_1 : Int) := od_
    have q352 : x5_1 < (l0.length : Int) := od_
    obtain ⟨ad352, A352_0, c352_0, e352, hx352_0, hl352_0, hi352_0⟩ := at_T102 HR0.out x5_1 p352 q352
    have hw352_0 := hx352_0
    cases e352
    replace hx352_0 := (HB.out.cell (World.block_lt_of_cell? _ _ hx352_0)).trans hx352_0
    have HR352_0 := am_ hi352_0
    have HC352_0 := am_ hl352_0
    clear hi352_0 hl352_0
    replace p352 := eq_true p352
    replace q352 := eq_true q352
    have p353 : 0 ≤ (x5_1 : Int) := od_
    have q353 : x5_1 < (l1.length : Int) := od_
    obtain ⟨ad353, A353_0, c353_0, e353, hx353_0, hl353_0, hi353_0⟩ := at_T102 HR1.out x5_1 p353 q353
    have hw353_0 := hx353_0
    cases e353
    replace hx353_0 := (HB.out.cell (World.block_lt_of_cell? _ _ hx353_0)).trans hx353_0
    have HR353_0 := am_ hi353_0
    have HC353_0 := am_ hl353_0
    clear hi353_0 hl353_0
    replace p353 := eq_true p353
    replace q353 := eq_true q353
    refine start_ (n := 10) (S := fun w' => w'.cell? (ad352.add (x5_1).toNat) = some (.slice A352_0 ((rd_T102 l0 x5_1).f0).length c352_0) ∧ w'.cell? (ad353.add (x5_1).toNat) = some (.slice A353_0 ((rd_T102 l1 x5_1).f0).length c353_0)) (ds := []) (bs 10 0) (by kernel_rfl) rfl rfl ⟨((HB.out.cell (World.block_lt_of_cell? _ _ hw352_0)).trans hw352_0), ((HB.out.cell (World.block_lt_of_cell? _ _ hw353_0)).trans hw353_0)⟩ (fun hHeld => ?_); refine with_tabW F84.tab6 F84.bits6 (fun HT_ HW_ => ?_)
    generalize wr.drew = w11 at HB HR352_0 HR353_0 hx352_0 hx353_0 hHeld ⊢
    refine pu_ 0 17 (bs 10 1) HT_ ?_ rfl rfl
    refine pu_ 1 18 (bs 10 3) HT_ ?_ rfl rfl
    refine pu_ 2 19 (bs 10 7) HT_ ?_ rfl rfl
    refine pu_ 4 21 (bs 10 23) HT_ ?_ rfl rfl
    refine pu_ 5 22 (bs 10 55) HT_ ?_ rfl rfl
    refine pu_ 6 23 (bs 10 119) HT_ ?_ rfl rfl
    refine tk_ 3 20 (bs 10 127) HT_ HW_ hHeld au4_43 ?_ rfl rfl
    refine tk_ 7 24 (bs 10 255) HT_ HW_ hHeld au4_43 ?_ rfl rfl
    refine one_ (i := 8) (N := some 25) (bs 10 511) rfl rfl (one_of HT_.out (by kernel_rfl)) (by decide) (fun K hK => ?_)
    refine gr_ Try.func113 #[.agg #[.slice A352_0 ((rd_T102 l0 x5_1).f0).length c352_0], .agg #[.slice A353_0 ((rd_T102 l1 x5_1).f0).length c353_0]] (by rfl) ?_ rfl rfl rfl
    with_reducible refine (F113.calls k1 _ _ ((rd_T102 l0 x5_1).f0) _ _ ((rd_T102 l1 x5_1).f0) false _ ?s1 ?s2 ?s3 ?s4 A7.out).mono ?_
    (case s1 => exact au4_35)
    (case s2 => exact HC352_0.out)
    (case s3 => exact au4_36)
    (case s4 => exact HC353_0.out)
    rintro e w12 ⟨rfl, hb⟩
    refine ⟨_, rfl, ?_⟩
    replace HB := hs_ w hb
    (try clear hb)
    (try clear hb2)
    (try clear hk)
    (try clear hi)
    refine hK.out _ _ ⟨((HB.out.cell (World.block_lt_of_cell? _ _ hw352_0)).trans hw352_0), ((HB.out.cell (World.block_lt_of_cell? _ _ hw353_0)).trans hw353_0)⟩ (fun hHeld => ?_)
    clear hK K
    refine no_ 25 ?_
    refine pu_ 9 26 (bs 10 1023) HT_ ?_ rfl rfl
    refine done_ (done_of HT_.out (by kernel_rfl)) ?_
    try go_wp2
    go_ret
    exact ⟨au4_2, bl_⟩
   have H' := am_ H
   clear H
   try go_wp2
   replace HB := am_ (below_drew1 HB.out)
   have p352 : 0 ≤ (x5_1 : Int) := od_
   have q352 : x5_1 < (l0.length : Int) := od_
   obtain ⟨ad352, A352_0, c352_0, e352, hx352_0, hl352_0, hi352_0⟩ := at_T102 HR0.out x5_1 p352 q352
   have hw352_0 := hx352_0
   cases e352
   replace hx352_0 := (HB.out.cell (World.block_lt_of_cell? _ _ hx352_0)).trans hx352_0
   have HR352_0 := am_ hi352_0
   have HC352_0 := am_ hl352_0
   clear hi352_0 hl352_0
   replace p352 := eq_true p352
   replace q352 := eq_true q352
   have p353 : 0 ≤ (x5_1 : Int) := od_
   have q353 : x5_1 < (l1.length : Int) := od_
   obtain ⟨ad353, A353_0, c353_0, e353, hx353_0, hl353_0, hi353_0⟩ := at_T102 HR1.out x5_1 p353 q353
   have hw353_0 := hx353_0
   cases e353
   replace hx353_0 := (HB.out.cell (World.block_lt_of_cell? _ _ hx353_0)).trans hx353_0
   have HR353_0 := am_ hi353_0
   have HC353_0 := am_ hl353_0
   clear hi353_0 hl353_0
   replace p353 := eq_true p353
   replace q353 := eq_true q353
   refine start_ (n := 10) (S := fun w' => w'.cell? (ad352.add (x5_1).toNat) = some (.slice A352_0 ((rd_T102 l0 x5_1).f0).length c352_0) ∧ w'.cell? (ad353.add (x5_1).toNat) = some (.slice A353_0 ((rd_T102 l1 x5_1).f0).length c353_0)) (ds := []) (bs 10 0) (by kernel_rfl) rfl rfl ⟨((HB.out.cell (World.block_lt_of_cell? _ _ hw352_0)).trans hw352_0), ((HB.out.cell (World.block_lt_of_cell? _ _ hw353_0)).trans hw353_0)⟩ (fun hHeld => ?_); refine with_tabW F84.tab6 F84.bits6 (fun HT_ HW_ => ?_)
   generalize wr.drew = w9 at HB HR352_0 HR353_0 hx352_0 hx353_0 hHeld ⊢
   refine pu_ 0 17 (bs 10 1) HT_ ?_ rfl rfl
   refine pu_ 1 18 (bs 10 3) HT_ ?_ rfl rfl
   refine pu_ 2 19 (bs 10 7) HT_ ?_ rfl rfl
   refine pu_ 4 21 (bs 10 23) HT_ ?_ rfl rfl
   refine pu_ 5 22 (bs 10 55) HT_ ?_ rfl rfl
   refine pu_ 6 23 (bs 10 119) HT_ ?_ rfl rfl
   refine tk_ 3 20 (bs 10 127) HT_ HW_ hHeld au4_43 ?_ rfl rfl
   refine tk_ 7 24 (bs 10 255) HT_ HW_ hHeld au4_43 ?_ rfl rfl
   refine one_ (i := 8) (N := some 25) (bs 10 511) rfl rfl (one_of HT_.out (by kernel_rfl)) (by decide) (fun K hK => ?_)
   refine gr_ Try.func113 #[.agg #[.slice A352_0 ((rd_T102 l0 x5_1).f0).length c352_0], .agg #[.slice A353_0 ((rd_T102 l1 x5_1).f0).length c353_0]] (by rfl) ?_ rfl rfl rfl
   with_reducible refine (F113.calls k1 _ _ ((rd_T102 l0 x5_1).f0) _ _ ((rd_T102 l1 x5_1).f0) true _ ?s1 ?s2 ?s3 ?s4 A7.out).mono ?_
   (case s1 => exact au4_35)
   (case s2 => exact HC352_0.out)
   (case s3 => exact au4_36)
   (case s4 => exact HC353_0.out)
   rintro e w10 ⟨rfl, hb⟩
   refine ⟨_, rfl, ?_⟩
   replace HB := hs_ w hb
   (try clear hb)
   (try clear hb2)
   (try clear hk)
   (try clear hi)
   refine hK.out _ _ ⟨((HB.out.cell (World.block_lt_of_cell? _ _ hw352_0)).trans hw352_0), ((HB.out.cell (World.block_lt_of_cell? _ _ hw353_0)).trans hw353_0)⟩ (fun hHeld => ?_)
   clear hK K
   refine no_ 25 ?_
   refine pu_ 9 26 (bs 10 1023) HT_ ?_ rfl rfl
   refine done_ (done_of HT_.out (by kernel_rfl)) ?_
   try go_wp2
   go_roundg k1
   case measure => have := HK1.out; omega
   case rel => exact ⟨(wrap64 (x5_1 + 1)), er_, H', ⟨by have := HK1.out; omega⟩, ⟨bl_⟩⟩
/-! ### F37: function 37 -/
def F37.f (k : Nat) (a0_0 : ByteArray) (l0_1 : List (S102)) (a1_0 : ByteArray) (l1_1 : List (S102)) : Option (Bool) := if a0_0.toList = a1_0.toList then ((F84.f k l0_1 l1_1).bind fun t357 => (if t357 = true then (some true) else (some false))) else (some false)
theorem F37.mono : ∀ a0 a1 a2 a3 k, LeO (F37.f k a0 a1 a2 a3) (F37.f (k + 1) a0 a1 a2 a3) := by
 intro a0 a1 a2 a3 k
 unfold F37.f
 repeat' with_reducible first | exact F84.mono _ _ _ | exact LeO.refl _ | exact LeO.none _ | refine LeO.ite ?_ ?_ | refine LeO.bind ?_ (fun _ => ?_)
theorem F37.calls (k : Nat) (a0_0 : ByteArray) (A0_1 : Option Addr) (c0_1 : Nat) (l0_1 : List (S102)) (a1_0 : ByteArray) (A1_1 : Option Addr) (c1_1 : Nat) (l1_1 : List (S102)) (r : Bool) (w : World) (hr0_1 : Kd.C k102 w A0_1 l0_1.length l0_1) (hc0_1 : l0_1.length ≤ c0_1) (hr1_1 : Kd.C k102 w A1_1 l1_1.length l1_1) (hc1_1 : l1_1.length ≤ c1_1) (h : F37.f k a0_0 l0_1 a1_0 l1_1 = some r) :
  Calls Try.prog 37 #[.agg #[.string a0_0, .slice A0_1 l0_1.length c0_1], .agg #[.string a1_0, .slice A1_1 l1_1.length c1_1]] w fun e w' => e = .returned (.bool r) ∧ Below w.heap.size w w' := by
 have hu59 := Try.underlying59
 have HR0_1 := am_ hr0_1
 have HC0_1 := am_ hc0_1
 clear hr0_1 hc0_1
 have HR1_1 := am_ hr1_1
 have HC1_1 := am_ hc1_1
 clear hr1_1 hc1_1
 have HB := am_ (Below.refl w.heap.size w)
 have H : (if a0_0.toList = a1_0.toList then ((F84.f k l0_1 l1_1).bind fun t357 => (if t357 = true then (some true) else (some false))) else (some false)) = some r := h
 clear h
 by_cases c3 : a0_0.toList = a1_0.toList
 rotate_left
 ·rw [if_neg c3] at H
  have c3b0 : (a0_0.toList == a1_0.toList) = false := beq_eq_false_iff_ne.mpr c3
  have c3b1 : (a0_0.toList != a1_0.toList) = true := bne_iff_ne.mpr c3
  obtain rfl := Option.some.inj H
  go_enter Try.func37, Try.ntmps37
  go_wp2_with (first | ((with_reducible refine gate_dst (N := 2) rfl ?_); refine be_ 2 #[.string a0_0, .slice A0_1 l0_1.length c0_1] 59 ?_; intro gb355 hg w18 hbox hb; have BK355 := am_ (hbox); have GW355 := am_ (gw_ hg bl_); have GE355 := GW355; replace HB := hs_ w hb; clear hb hbox hg) | ((with_reducible refine gate_dst (N := 3) rfl ?_); refine be_ 3 #[.string a1_0, .slice A1_1 l1_1.length c1_1] 59 ?_; intro gb356 hg w19 hbox hb; have BK356 := am_ (hbox); have GW356 := am_ (gw_ hg bl_); have GE356 := GW356; replace HB := hs_ w hb; have NB355_356 := am_ (gn_ hg (blkl_ BK355)); have NB356_355 := am_ (gm_ hg (blkl_ BK355)); replace BK355 := bb_ BK355 hb; clear hb hbox hg; have hnb20 := NB355_356.out; have hnc20 := NB356_355.out; obtain ⟨hcz21_0, hcz21_1, hfz21_0, hfz21_1⟩ := cellsF2 BK355.out; obtain ⟨hcz22_0, hcz22_1, hfz22_0, hfz22_1⟩ := cellsF2 BK356.out))
  go_ret
  exact ⟨au4_2, bl_⟩

 rw [if_pos c3] at H
 have c3b0 : (a0_0.toList == a1_0.toList) = true := beq_iff_eq.mpr c3
 have c3b1 : (a0_0.toList != a1_0.toList) = false := bne_eq_false_iff_eq.mpr c3
 clear c3
 replace H := bi_ H; rcases H with ⟨t357, A4, H⟩
 replace H := ib_ H; rcases H with ⟨rfl, H⟩ | ⟨rfl, H⟩
 rotate_left
 ·obtain rfl := Option.some.inj H
  go_enter Try.func37, Try.ntmps37
  go_wp2_with (first | ((with_reducible refine gate_dst (N := 2) rfl ?_); refine be_ 2 #[.string a0_0, .slice A0_1 l0_1.length c0_1] 59 ?_; intro gb355 hg w12 hbox hb; have BK355 := am_ (hbox); have GW355 := am_ (gw_ hg bl_); have GE355 := GW355; replace HB := hs_ w hb; clear hb hbox hg) | ((with_reducible refine gate_dst (N := 3) rfl ?_); refine be_ 3 #[.string a1_0, .slice A1_1 l1_1.length c1_1] 59 ?_; intro gb356 hg w13 hbox hb; have BK356 := am_ (hbox); have GW356 := am_ (gw_ hg bl_); have GE356 := GW356; replace HB := hs_ w hb; have NB355_356 := am_ (gn_ hg (blkl_ BK355)); have NB356_355 := am_ (gm_ hg (blkl_ BK355)); replace BK355 := bb_ BK355 hb; clear hb hbox hg; have hnb14 := NB355_356.out; have hnc14 := NB356_355.out; obtain ⟨hcz15_0, hcz15_1, hfz15_0, hfz15_1⟩ := cellsF2 BK355.out; obtain ⟨hcz16_0, hcz16_1, hfz16_0, hfz16_1⟩ := cellsF2 BK356.out) | ((with_reducible refine gate_callee (f := 84) rfl ?_); refine gl_ 14 Try.func84 #[.slice A0_1 l0_1.length c0_1, .slice A1_1 l1_1.length c1_1] ?_ rfl rfl rfl rfl; (with_reducible refine (F84.calls k _ _ l0_1 _ _ l1_1 false _ ?s1 ?s2 ?s3 ?s4 A4.out).mono ?_); (case s1 => exact au4_4); (case s2 => exact HC0_1.out); (case s3 => exact au4_7); (case s4 => exact HC1_1.out); rintro e w17 ⟨rfl, hb⟩; refine ⟨_, rfl, ?_⟩; replace BK355 := bb_ BK355 hb; replace BK356 := bb_ BK356 hb; replace HB := hs_ w hb; (try clear hb)))
  go_ret
  exact ⟨au4_2, bl_⟩
 obtain rfl := Option.some.inj H
 go_enter Try.func37, Try.ntmps37
 go_wp2_with (first | ((with_reducible refine gate_dst (N := 2) rfl ?_); refine be_ 2 #[.string a0_0, .slice A0_1 l0_1.length c0_1] 59 ?_; intro gb355 hg w6 hbox hb; have BK355 := am_ (hbox); have GW355 := am_ (gw_ hg bl_); have GE355 := GW355; replace HB := hs_ w hb; clear hb hbox hg) | ((with_reducible refine gate_dst (N := 3) rfl ?_); refine be_ 3 #[.string a1_0, .slice A1_1 l1_1.length c1_1] 59 ?_; intro gb356 hg w7 hbox hb; have BK356 := am_ (hbox); have GW356 := am_ (gw_ hg bl_); have GE356 := GW356; replace HB := hs_ w hb; have NB355_356 := am_ (gn_ hg (blkl_ BK355)); have NB356_355 := am_ (gm_ hg (blkl_ BK355)); replace BK355 := bb_ BK355 hb; clear hb hbox hg; have hnb8 := NB355_356.out; have hnc8 := NB356_355.out; obtain ⟨hcz9_0, hcz9_1, hfz9_0, hfz9_1⟩ := cellsF2 BK355.out; obtain ⟨hcz10_0, hcz10_1, hfz10_0, hfz10_1⟩ := cellsF2 BK356.out) | ((with_reducible refine gate_callee (f := 84) rfl ?_); refine gl_ 14 Try.func84 #[.slice A0_1 l0_1.length c0_1, .slice A1_1 l1_1.length c1_1] ?_ rfl rfl rfl rfl; (with_reducible refine (F84.calls k _ _ l0_1 _ _ l1_1 true _ ?s1 ?s2 ?s3 ?s4 A4.out).mono ?_); (case s1 => exact au4_4); (case s2 => exact HC0_1.out); (case s3 => exact au4_7); (case s4 => exact HC1_1.out); rintro e w11 ⟨rfl, hb⟩; refine ⟨_, rfl, ?_⟩; replace BK355 := bb_ BK355 hb; replace BK356 := bb_ BK356 hb; replace HB := hs_ w hb; (try clear hb)))
 go_ret
 exact ⟨au4_2, bl_⟩
/-! ### F42: function 42 -/
def F42.f (k : Nat) (a0_0 : ByteArray) (l0_1 : List (S102)) (a0_2 : Int) (a0_3 : Int) (a0_4 : Int) (a1_0 : ByteArray) (l1_1 : List (S102)) (a1_2 : Int) (a1_3 : Int) (a1_4 : Int) : Option (Bool) := (F37.f k a0_0 l0_1 a1_0 l1_1).bind fun t360 => (if t360 = true then (if a0_2 = a1_2 then (if a0_3 = a1_3 then (if a0_4 = a1_4 then (some true) else (some false)) else (some false)) else (some false)) else (some false))
theorem F42.mono : ∀ a0 a1 a2 a3 a4 a5 a6 a7 a8 a9 k, LeO (F42.f k a0 a1 a2 a3 a4 a5 a6 a7 a8 a9) (F42.f (k + 1) a0 a1 a2 a3 a4 a5 a6 a7 a8 a9) := by
 intro a0 a1 a2 a3 a4 a5 a6 a7 a8 a9 k
 unfold F42.f
 repeat' with_reducible first | exact F37.mono _ _ _ _ _ | exact LeO.refl _ | exact LeO.none _ | refine LeO.ite ?_ ?_ | refine LeO.bind ?_ (fun _ => ?_)
theorem F42.calls (k : Nat) (a0_0 : ByteArray) (A0_1 : Option Addr) (c0_1 : Nat) (l0_1 : List (S102)) (a0_2 : Int) (a0_3 : Int) (a0_4 : Int) (a1_0 : ByteArray) (A1_1 : Option Addr) (c1_1 : Nat) (l1_1 : List (S102)) (a1_2 : Int) (a1_3 : Int) (a1_4 : Int) (r : Bool) (w : World) (hr0_1 : Kd.C k102 w A0_1 l0_1.length l0_1) (hc0_1 : l0_1.length ≤ c0_1) (hr1_1 : Kd.C k102 w A1_1 l1_1.length l1_1) (hc1_1 : l1_1.length ≤ c1_1) (h : F42.f k a0_0 l0_1 a0_2 a0_3 a0_4 a1_0 l1_1 a1_2 a1_3 a1_4 = some r) :
  Calls Try.prog 42 #[.agg #[.string a0_0, .slice A0_1 l0_1.length c0_1, .int .i64 a0_2, .int .i64 a0_3, .int .i64 a0_4], .agg #[.string a1_0, .slice A1_1 l1_1.length c1_1, .int .i64 a1_2, .int .i64 a1_3, .int .i64 a1_4]] w fun e w' => e = .returned (.bool r) ∧ Below w.heap.size w w' := by
 have hu66 := Try.underlying66
 have hu59 := Try.underlying59
 have HR0_1 := am_ hr0_1
 have HC0_1 := am_ hc0_1
 clear hr0_1 hc0_1
 have HR1_1 := am_ hr1_1
 have HC1_1 := am_ hc1_1
 clear hr1_1 hc1_1
 have HB := am_ (Below.refl w.heap.size w)
 have H : ((F37.f k a0_0 l0_1 a1_0 l1_1).bind fun t360 => (if t360 = true then (if a0_2 = a1_2 then (if a0_3 = a1_3 then (if a0_4 = a1_4 then (some true) else (some false)) else (some false)) else (some false)) else (some false))) = some r := h
 clear h
 replace H := bi_ H; rcases H with ⟨t360, A3, H⟩
 replace H := ib_ H; rcases H with ⟨rfl, H⟩ | ⟨rfl, H⟩
 rotate_left
 ·obtain rfl := Option.some.inj H
  go_enter Try.func42, Try.ntmps42
  go_wp2_with (first | ((with_reducible refine gate_dst (N := 2) rfl ?_); refine be_ 2 #[.string a0_0, .slice A0_1 l0_1.length c0_1, .int .i64 a0_2, .int .i64 a0_3, .int .i64 a0_4] 66 ?_; intro gb358 hg w40 hbox hb; have BK358 := am_ (hbox); have GW358 := am_ (gw_ hg bl_); have GE358 := GW358; replace HB := hs_ w hb; clear hb hbox hg) | ((with_reducible refine gate_dst (N := 3) rfl ?_); refine be_ 3 #[.string a1_0, .slice A1_1 l1_1.length c1_1, .int .i64 a1_2, .int .i64 a1_3, .int .i64 a1_4] 66 ?_; intro gb359 hg w41 hbox hb; have BK359 := am_ (hbox); have GW359 := am_ (gw_ hg bl_); have GE359 := GW359; replace HB := hs_ w hb; have NB358_359 := am_ (gn_ hg (blkl_ BK358)); have NB359_358 := am_ (gm_ hg (blkl_ BK358)); replace BK358 := bb_ BK358 hb; clear hb hbox hg; have hnb42 := NB358_359.out; have hnc42 := NB359_358.out; obtain ⟨hcz43_0, hcz43_1, hcz43_2, hcz43_3, hcz43_4, hfz43_0, hfz43_1, hfz43_2, hfz43_3, hfz43_4⟩ := cellsF5 BK358.out; obtain ⟨hcz44_0, hcz44_1, hcz44_2, hcz44_3, hcz44_4, hfz44_0, hfz44_1, hfz44_2, hfz44_3, hfz44_4⟩ := cellsF5 BK359.out) | ((with_reducible refine gate_callee (f := 37) rfl ?_); refine gl_ 9 Try.func37 #[.agg #[.string a0_0, .slice A0_1 l0_1.length c0_1], .agg #[.string a1_0, .slice A1_1 l1_1.length c1_1]] ?_ rfl rfl rfl rfl; (with_reducible refine (F37.calls k a0_0 _ _ l0_1 a1_0 _ _ l1_1 false _ ?s1 ?s2 ?s3 ?s4 A3.out).mono ?_); (case s1 => exact au4_4); (case s2 => exact HC0_1.out); (case s3 => exact au4_7); (case s4 => exact HC1_1.out); rintro e w45 ⟨rfl, hb⟩; refine ⟨_, rfl, ?_⟩; replace BK358 := bb_ BK358 hb; replace BK359 := bb_ BK359 hb; replace HB := hs_ w hb; (try clear hb)))
  go_ret
  exact ⟨au4_2, bl_⟩

 by_cases c5 : a0_2 = a1_2
 rotate_left
 ·rw [if_neg c5] at H
  have c5b0 : (a0_2 == a1_2) = false := beq_eq_false_iff_ne.mpr c5
  have c5b1 : (a0_2 != a1_2) = true := bne_iff_ne.mpr c5
  obtain rfl := Option.some.inj H
  go_enter Try.func42, Try.ntmps42
  go_wp2_with (first | ((with_reducible refine gate_dst (N := 2) rfl ?_); refine be_ 2 #[.string a0_0, .slice A0_1 l0_1.length c0_1, .int .i64 a0_2, .int .i64 a0_3, .int .i64 a0_4] 66 ?_; intro gb358 hg w32 hbox hb; have BK358 := am_ (hbox); have GW358 := am_ (gw_ hg bl_); have GE358 := GW358; replace HB := hs_ w hb; clear hb hbox hg) | ((with_reducible refine gate_dst (N := 3) rfl ?_); refine be_ 3 #[.string a1_0, .slice A1_1 l1_1.length c1_1, .int .i64 a1_2, .int .i64 a1_3, .int .i64 a1_4] 66 ?_; intro gb359 hg w33 hbox hb; have BK359 := am_ (hbox); have GW359 := am_ (gw_ hg bl_); have GE359 := GW359; replace HB := hs_ w hb; have NB358_359 := am_ (gn_ hg (blkl_ BK358)); have NB359_358 := am_ (gm_ hg (blkl_ BK358)); replace BK358 := bb_ BK358 hb; clear hb hbox hg; have hnb34 := NB358_359.out; have hnc34 := NB359_358.out; obtain ⟨hcz35_0, hcz35_1, hcz35_2, hcz35_3, hcz35_4, hfz35_0, hfz35_1, hfz35_2, hfz35_3, hfz35_4⟩ := cellsF5 BK358.out; obtain ⟨hcz36_0, hcz36_1, hcz36_2, hcz36_3, hcz36_4, hfz36_0, hfz36_1, hfz36_2, hfz36_3, hfz36_4⟩ := cellsF5 BK359.out) | ((with_reducible refine gate_callee (f := 37) rfl ?_); refine gl_ 9 Try.func37 #[.agg #[.string a0_0, .slice A0_1 l0_1.length c0_1], .agg #[.string a1_0, .slice A1_1 l1_1.length c1_1]] ?_ rfl rfl rfl rfl; (with_reducible refine (F37.calls k a0_0 _ _ l0_1 a1_0 _ _ l1_1 true _ ?s1 ?s2 ?s3 ?s4 A3.out).mono ?_); (case s1 => exact au4_4); (case s2 => exact HC0_1.out); (case s3 => exact au4_7); (case s4 => exact HC1_1.out); rintro e w37 ⟨rfl, hb⟩; refine ⟨_, rfl, ?_⟩; replace BK358 := bb_ BK358 hb; replace BK359 := bb_ BK359 hb; replace HB := hs_ w hb; (try clear hb); obtain ⟨hcz38_0, hcz38_1, hcz38_2, hcz38_3, hcz38_4, hfz38_0, hfz38_1, hfz38_2, hfz38_3, hfz38_4⟩ := cellsF5 BK358.out; obtain ⟨hcz39_0, hcz39_1, hcz39_2, hcz39_3, hcz39_4, hfz39_0, hfz39_1, hfz39_2, hfz39_3, hfz39_4⟩ := cellsF5 BK359.out))
  go_ret
  exact ⟨au4_2, bl_⟩
 rw [if_pos c5] at H
 have c5b0 : (a0_2 == a1_2) = true := beq_iff_eq.mpr c5
 have c5b1 : (a0_2 != a1_2) = false := bne_eq_false_iff_eq.mpr c5
 clear c5
 by_cases c6 : a0_3 = a1_3
 rotate_left
 ·rw [if_neg c6] at H
  have c6b0 : (a0_3 == a1_3) = false := beq_eq_false_iff_ne.mpr c6
  have c6b1 : (a0_3 != a1_3) = true := bne_iff_ne.mpr c6
  obtain rfl := Option.some.inj H
  go_enter Try.func42, Try.ntmps42
  go_wp2_with (first | ((with_reducible refine gate_dst (N := 2) rfl ?_); refine be_ 2 #[.string a0_0, .slice A0_1 l0_1.length c0_1, .int .i64 a0_2, .int .i64 a0_3, .int .i64 a0_4] 66 ?_; intro gb358 hg w24 hbox hb; have BK358 := am_ (hbox); have GW358 := am_ (gw_ hg bl_); have GE358 := GW358; replace HB := hs_ w hb; clear hb hbox hg) | ((with_reducible refine gate_dst (N := 3) rfl ?_); refine be_ 3 #[.string a1_0, .slice A1_1 l1_1.length c1_1, .int .i64 a1_2, .int .i64 a1_3, .int .i64 a1_4] 66 ?_; intro gb359 hg w25 hbox hb; have BK359 := am_ (hbox); have GW359 := am_ (gw_ hg bl_); have GE359 := GW359; replace HB := hs_ w hb; have NB358_359 := am_ (gn_ hg (blkl_ BK358)); have NB359_358 := am_ (gm_ hg (blkl_ BK358)); replace BK358 := bb_ BK358 hb; clear hb hbox hg; have hnb26 := NB358_359.out; have hnc26 := NB359_358.out; obtain ⟨hcz27_0, hcz27_1, hcz27_2, hcz27_3, hcz27_4, hfz27_0, hfz27_1, hfz27_2, hfz27_3, hfz27_4⟩ := cellsF5 BK358.out; obtain ⟨hcz28_0, hcz28_1, hcz28_2, hcz28_3, hcz28_4, hfz28_0, hfz28_1, hfz28_2, hfz28_3, hfz28_4⟩ := cellsF5 BK359.out) | ((with_reducible refine gate_callee (f := 37) rfl ?_); refine gl_ 9 Try.func37 #[.agg #[.string a0_0, .slice A0_1 l0_1.length c0_1], .agg #[.string a1_0, .slice A1_1 l1_1.length c1_1]] ?_ rfl rfl rfl rfl; (with_reducible refine (F37.calls k a0_0 _ _ l0_1 a1_0 _ _ l1_1 true _ ?s1 ?s2 ?s3 ?s4 A3.out).mono ?_); (case s1 => exact au4_4); (case s2 => exact HC0_1.out); (case s3 => exact au4_7); (case s4 => exact HC1_1.out); rintro e w29 ⟨rfl, hb⟩; refine ⟨_, rfl, ?_⟩; replace BK358 := bb_ BK358 hb; replace BK359 := bb_ BK359 hb; replace HB := hs_ w hb; (try clear hb); obtain ⟨hcz30_0, hcz30_1, hcz30_2, hcz30_3, hcz30_4, hfz30_0, hfz30_1, hfz30_2, hfz30_3, hfz30_4⟩ := cellsF5 BK358.out; obtain ⟨hcz31_0, hcz31_1, hcz31_2, hcz31_3, hcz31_4, hfz31_0, hfz31_1, hfz31_2, hfz31_3, hfz31_4⟩ := cellsF5 BK359.out))
  go_ret
  exact ⟨au4_2, bl_⟩
 rw [if_pos c6] at H
 have c6b0 : (a0_3 == a1_3) = true := beq_iff_eq.mpr c6
 have c6b1 : (a0_3 != a1_3) = false := bne_eq_false_iff_eq.mpr c6
 clear c6
 by_cases c7 : a0_4 = a1_4
 rotate_left
 ·rw [if_neg c7] at H
  have c7b0 : (a0_4 == a1_4) = false := beq_eq_false_iff_ne.mpr c7
  have c7b1 : (a0_4 != a1_4) = true := bne_iff_ne.mpr c7
  obtain rfl := Option.some.inj H
  go_enter Try.func42, Try.ntmps42
  go_wp2_with (first | ((with_reducible refine gate_dst (N := 2) rfl ?_); refine be_ 2 #[.string a0_0, .slice A0_1 l0_1.length c0_1, .int .i64 a0_2, .int .i64 a0_3, .int .i64 a0_4] 66 ?_; intro gb358 hg w16 hbox hb; have BK358 := am_ (hbox); have GW358 := am_ (gw_ hg bl_); have GE358 := GW358; replace HB := hs_ w hb; clear hb hbox hg) | ((with_reducible refine gate_dst (N := 3) rfl ?_); refine be_ 3 #[.string a1_0, .slice A1_1 l1_1.length c1_1, .int .i64 a1_2, .int .i64 a1_3, .int .i64 a1_4] 66 ?_; intro gb359 hg w17 hbox hb; have BK359 := am_ (hbox); have GW359 := am_ (gw_ hg bl_); have GE359 := GW359; replace HB := hs_ w hb; have NB358_359 := am_ (gn_ hg (blkl_ BK358)); have NB359_358 := am_ (gm_ hg (blkl_ BK358)); replace BK358 := bb_ BK358 hb; clear hb hbox hg; have hnb18 := NB358_359.out; have hnc18 := NB359_358.out; obtain ⟨hcz19_0, hcz19_1, hcz19_2, hcz19_3, hcz19_4, hfz19_0, hfz19_1, hfz19_2, hfz19_3, hfz19_4⟩ := cellsF5 BK358.out; obtain ⟨hcz20_0, hcz20_1, hcz20_2, hcz20_3, hcz20_4, hfz20_0, hfz20_1, hfz20_2, hfz20_3, hfz20_4⟩ := cellsF5 BK359.out) | ((with_reducible refine gate_callee (f := 37) rfl ?_); refine gl_ 9 Try.func37 #[.agg #[.string a0_0, .slice A0_1 l0_1.length c0_1], .agg #[.string a1_0, .slice A1_1 l1_1.length c1_1]] ?_ rfl rfl rfl rfl; (with_reducible refine (F37.calls k a0_0 _ _ l0_1 a1_0 _ _ l1_1 true _ ?s1 ?s2 ?s3 ?s4 A3.out).mono ?_); (case s1 => exact au4_4); (case s2 => exact HC0_1.out); (case s3 => exact au4_7); (case s4 => exact HC1_1.out); rintro e w21 ⟨rfl, hb⟩; refine ⟨_, rfl, ?_⟩; replace BK358 := bb_ BK358 hb; replace BK359 := bb_ BK359 hb; replace HB := hs_ w hb; (try clear hb); obtain ⟨hcz22_0, hcz22_1, hcz22_2, hcz22_3, hcz22_4, hfz22_0, hfz22_1, hfz22_2, hfz22_3, hfz22_4⟩ := cellsF5 BK358.out; obtain ⟨hcz23_0, hcz23_1, hcz23_2, hcz23_3, hcz23_4, hfz23_0, hfz23_1, hfz23_2, hfz23_3, hfz23_4⟩ := cellsF5 BK359.out))
  go_ret
  exact ⟨au4_2, bl_⟩
 rw [if_pos c7] at H
 have c7b0 : (a0_4 == a1_4) = true := beq_iff_eq.mpr c7
 have c7b1 : (a0_4 != a1_4) = false := bne_eq_false_iff_eq.mpr c7
 clear c7
 obtain rfl := Option.some.inj H
 go_enter Try.func42, Try.ntmps42
 go_wp2_with (first | ((with_reducible refine gate_dst (N := 2) rfl ?_); refine be_ 2 #[.string a0_0, .slice A0_1 l0_1.length c0_1, .int .i64 a0_2, .int .i64 a0_3, .int .i64 a0_4] 66 ?_; intro gb358 hg w8 hbox hb; have BK358 := am_ (hbox); have GW358 := am_ (gw_ hg bl_); have GE358 := GW358; replace HB := hs_ w hb; clear hb hbox hg) | ((with_reducible refine gate_dst (N := 3) rfl ?_); refine be_ 3 #[.string a1_0, .slice A1_1 l1_1.length c1_1, .int .i64 a1_2, .int .i64 a1_3, .int .i64 a1_4] 66 ?_; intro gb359 hg w9 hbox hb; have BK359 := am_ (hbox); have GW359 := am_ (gw_ hg bl_); have GE359 := GW359; replace HB := hs_ w hb; have NB358_359 := am_ (gn_ hg (blkl_ BK358)); have NB359_358 := am_ (gm_ hg (blkl_ BK358)); replace BK358 := bb_ BK358 hb; clear hb hbox hg; have hnb10 := NB358_359.out; have hnc10 := NB359_358.out; obtain ⟨hcz11_0, hcz11_1, hcz11_2, hcz11_3, hcz11_4, hfz11_0, hfz11_1, hfz11_2, hfz11_3, hfz11_4⟩ := cellsF5 BK358.out; obtain ⟨hcz12_0, hcz12_1, hcz12_2, hcz12_3, hcz12_4, hfz12_0, hfz12_1, hfz12_2, hfz12_3, hfz12_4⟩ := cellsF5 BK359.out) | ((with_reducible refine gate_callee (f := 37) rfl ?_); refine gl_ 9 Try.func37 #[.agg #[.string a0_0, .slice A0_1 l0_1.length c0_1], .agg #[.string a1_0, .slice A1_1 l1_1.length c1_1]] ?_ rfl rfl rfl rfl; (with_reducible refine (F37.calls k a0_0 _ _ l0_1 a1_0 _ _ l1_1 true _ ?s1 ?s2 ?s3 ?s4 A3.out).mono ?_); (case s1 => exact au4_4); (case s2 => exact HC0_1.out); (case s3 => exact au4_7); (case s4 => exact HC1_1.out); rintro e w13 ⟨rfl, hb⟩; refine ⟨_, rfl, ?_⟩; replace BK358 := bb_ BK358 hb; replace BK359 := bb_ BK359 hb; replace HB := hs_ w hb; (try clear hb); obtain ⟨hcz14_0, hcz14_1, hcz14_2, hcz14_3, hcz14_4, hfz14_0, hfz14_1, hfz14_2, hfz14_3, hfz14_4⟩ := cellsF5 BK358.out; obtain ⟨hcz15_0, hcz15_1, hcz15_2, hcz15_3, hcz15_4, hfz15_0, hfz15_1, hfz15_2, hfz15_3, hfz15_4⟩ := cellsF5 BK359.out))
 go_ret
 exact ⟨au4_2, bl_⟩
/-! ### F70: function 70 -/
def F70.l0 : Nat → Int → ByteArray → Option (ByteArray)
  | 0, _, _ => none
  | k + 1, x0, x3 => if x0 > 0 then ((some (([(wrap64 (48 + (Int.tmod x0 10))) % 256] : List Int) : List Int)).bind fun y361 => (if (strOfNums y361).size + x3.size ≤ 9223372036854775807 then (F70.l0 k (wrap64 (Int.tdiv x0 10)) ((strOfNums y361) ++ x3)) else (none))) else (if 1 + x3.size ≤ 9223372036854775807 then (some ((⟨#[109]⟩ : ByteArray) ++ x3)) else (none))
def F70.f (k : Nat) (a0 : Int) : Option (ByteArray) := if a0 ≤ 0 then (some (⟨#[109, 48]⟩ : ByteArray)) else (F70.l0 k a0 (⟨#[]⟩ : ByteArray))
theorem F70.mono_l : ∀ k, (∀ y0 y1, LeO (F70.l0 k y0 y1) (F70.l0 (k + 1) y0 y1))
 | 0 => fun _ _ r h => by simp [F70.l0] at h
 | k + 1 => by
  have ih0 := F70.mono_l k
  intro y0 y1
  unfold F70.l0
  repeat' with_reducible first | exact ih0 _ _ | exact LeO.refl _ | exact LeO.none _ | refine LeO.ite ?_ ?_ | refine LeO.bind ?_ (fun _ => ?_)
theorem F70.mono : ∀ a0 k, LeO (F70.f k a0) (F70.f (k + 1) a0) := by
 intro a0 k
 have ih0 := F70.mono_l k
 unfold F70.f
 repeat' with_reducible first | exact ih0 _ _ | exact LeO.refl _ | exact LeO.none _ | refine LeO.ite ?_ ?_ | refine LeO.bind ?_ (fun _ => ?_)
theorem F70.calls (k : Nat) (a0 : Int) (r : ByteArray) (w : World) (h : F70.f k a0 = some r) :
  Calls Try.prog 70 #[.int .i64 a0] w fun e w' => e = .returned (.string r) ∧ Below w.heap.size w w' := by
 have HB := am_ (Below.refl w.heap.size w)
 have H : (if a0 ≤ 0 then (some (⟨#[109, 48]⟩ : ByteArray)) else (F70.l0 k a0 (⟨#[]⟩ : ByteArray))) = some r := h
 clear h
 replace H := it_ H; rcases H with ⟨c2b0, H⟩ | ⟨c2b0, H⟩
 ·obtain rfl := Option.some.inj H
  go_enter Try.func70, Try.ntmps70
  go_wp2
  go_ret
  exact ⟨au4_2, bl_⟩
 have H' := am_ H
 clear H
 go_enter Try.func70, Try.ntmps70
 go_wp2
 go_loopg [0, 3] k (fun kq v0 v3 w' => ∃ (x0_1 : Int) (x3_1 : ByteArray), v0 = .int .i64 x0_1 ∧ v3 = .string x3_1 ∧ Aside0 (F70.l0 kq x0_1 x3_1 = some r) ∧ Aside0 (kq ≤ k) ∧ Aside0 (Below w.heap.size w w'))
 case atStart => exact ⟨(a0), ((⟨#[]⟩ : ByteArray)), er_, er_, H', ⟨Nat.le_refl _⟩, ⟨bl_⟩⟩
 case round =>
  clear H'
  try clear c2b0
  obtain ⟨x0_1, x3_1, rfl, rfl, HA, HK1, HB⟩ := hrel
  cases gk with
  | zero => exact absurd HA.out (by simp [F70.l0])
  | succ k1 =>
   have H := HA.out
   clear HA
   simp only [F70.l0] at H
   replace H := it_ H; rcases H with ⟨(c3b0 : decide (0 < x0_1) = true), H⟩ | ⟨(c3b0 : decide (0 < x0_1) = false), H⟩
   rotate_left
   ·by_cases c8 : 1 + x3_1.size ≤ 9223372036854775807
    rotate_left
    ·rw [if_neg c8] at H
     exact absurd H (by simp)

    rw [if_pos c8] at H
    have c8b0 := eq_true c8
    have c8b1 : decide (1 + x3_1.size ≤ 9223372036854775807) = true := decide_eq_true c8
    try have c8b2 : (9223372036854775807 < 1 + x3_1.size) = False := eq_false (Nat.not_lt.2 c8)
    obtain rfl := Option.some.inj H
    go_wp2
    go_ret
    exact ⟨au4_2, bl_⟩
   obtain ⟨y361, hy361⟩ : ∃ y_ : List Int, y_ = (([(wrap64 (48 + (Int.tmod x0_1 10))) % 256] : List Int)) := ⟨_, rfl⟩
   replace H : (if (strOfNums y361).size + x3_1.size ≤ 9223372036854775807 then (F70.l0 k1 (wrap64 (Int.tdiv x0_1 10)) ((strOfNums y361) ++ x3_1)) else (none)) = some r := by first | (rw [hy361]; exact H) | exact H
   have Ny361 := am_ hy361
   clear hy361
   by_cases c4 : (strOfNums y361).size + x3_1.size ≤ 9223372036854775807
   rotate_left
   ·rw [if_neg c4] at H
    exact absurd H (by simp)
   rw [if_pos c4] at H
   have c4b0 := eq_true c4
   have c4b1 : decide ((strOfNums y361).size + x3_1.size ≤ 9223372036854775807) = true := decide_eq_true c4
   try have c4b2 : (9223372036854775807 < (strOfNums y361).size + x3_1.size) = False := eq_false (Nat.not_lt.2 c4)
   have H' := am_ H
   clear H
   go_wp2_with (first | ((with_reducible refine gate_dst (N := 12) rfl ?_); refine Kd.R_lit (Kd.int .u8) _ 5 ?hg (N := 12) ?hd (xs := ([(wrap64 (48 + (Int.tmod x0_1 10))) % 256] : List Int)) (inner := [.int .u8 ((wrap64 (48 + (Int.tmod x0_1 10))) % 256)]) (ok := fun _ => True) (okp := fun _ => True) ?hr ?hp (fun _ hk => hk) trivial (Below.refl _ _) (Nat.le_refl _) (by simp) ?_; (case hd => rfl); (case hg => rfl); (case hr => exact hr_); (case hp => exact (Reps.one (show Kd.M (Kd.int .u8) _ _ _ ((wrap64 (48 + (Int.tmod x0_1 10))) % 256) [.int .u8 ((wrap64 (48 + (Int.tmod x0_1 10))) % 256)] from rfl) (Reps.none _ _))); intro v362 w5 ho6 hb hg_ hnew_; clear hg_ hnew_; (first | rw [← Ny361.out] at ho6 | (simp only [Int.reduceToNat] at ho6; rw [← Ny361.out] at ho6)); have HO363 := am_ (Kd.R_lower ho6 (below_size bl_)); replace HB := hs_ w hb; clear hb ho6; have hcv7 := own_string (P := Try.prog) Try.underlying36 Try.underlying5 Try.underlying9 (Kd.own_of_R HO363.out)))
   go_roundg k1
   case measure => have := HK1.out; omega
   case rel => exact ⟨(wrap64 (Int.tdiv x0_1 10)), ((strOfNums y361) ++ x3_1), er_, er_, H', ⟨by have := HK1.out; omega⟩, ⟨bl_⟩⟩
/-! ### F28: function 28 -/
def F28.l0 : Nat → List ByteArray → Int → Int → Option (Int × List ByteArray)
  | 0, _, _, _ => none
  | k + 1, x0, x1, x5 => if x5 < (x0.length : Int) then ((F70.f k x1).bind fun t364 => (if 0 ≤ x5 then (F28.l0 k (x0.set (x5 : Int).toNat t364) (wrap64 (x1 + 1)) (wrap64 (x5 + 1))) else (none))) else (some (x1, x0))
def F28.f (k : Nat) (l0 : List ByteArray) (a1 : Int) : Option (Int × List ByteArray) := F28.l0 k l0 a1 0
theorem F28.mono_l : ∀ k, (∀ y0 y1 y2, LeO (F28.l0 k y0 y1 y2) (F28.l0 (k + 1) y0 y1 y2))
 | 0 => fun _ _ _ r h => by simp [F28.l0] at h
 | k + 1 => by
  have ih0 := F28.mono_l k
  intro y0 y1 y2
  unfold F28.l0
  repeat' with_reducible first | exact ih0 _ _ _ | exact F70.mono _ _ | exact LeO.refl _ | exact LeO.none _ | refine LeO.ite ?_ ?_ | refine LeO.bind ?_ (fun _ => ?_)
theorem F28.mono : ∀ a0 a1 k, LeO (F28.f k a0 a1) (F28.f (k + 1) a0 a1) := by
 intro a0 a1 k
 have ih0 := F28.mono_l k
 unfold F28.f
 repeat' with_reducible first | exact ih0 _ _ _ | exact F70.mono _ _ | exact LeO.refl _ | exact LeO.none _ | refine LeO.ite ?_ ?_ | refine LeO.bind ?_ (fun _ => ?_)
theorem F28.calls (k : Nat) (P0_ : Nat → Prop) (u9000_ : Value) (l0 : List ByteArray) (a1 : Int) (r1 : Int) (r2 : List ByteArray) (w0 w : World) (hB : Below w0.heap.size w0 w) (ho0 : Kd.R Kd.string 9 w w0.heap.size P0_ u9000_ l0) (h : F28.f k l0 a1 = some (r1, r2)) :
  Calls Try.prog 28 #[u9000_, .int .i64 a1] w fun e w' => e = .returned (.int .i64 r1) ∧ Kd.R Kd.string 9 w' w0.heap.size (fun k_ => (P0_ k_ ∨ w.heap.size ≤ k_)) u9000_ r2 ∧ Below w0.heap.size w0 w' ∧ Kept w w' (fun k_ => P0_ k_) := by
 have HO0 := am_ (show Kd.R Kd.string 9 w w0.heap.size (fun k_ => (P0_ k_ ∨ w.heap.size ≤ k_)) u9000_ l0 from Kd.R_mono ho0 (fun k_ hk => (.inl hk)))
 have HK := am_ (Kept.refl w (fun k_ => P0_ k_))
 have HW0 := am_ hB.size
 have HB := am_ hB
 clear hB
 have H : (F28.l0 k l0 a1 0) = some (r1, r2) := h
 clear h
 have H' := am_ H
 clear H
 go_enter Try.func28, Try.ntmps28
 go_wp2
 go_loopg [1, 5] k (fun kq v1 v5 w' => ∃ (x0_1 : List ByteArray) (x1_1 : Int) (x5_1 : Int), v1 = .int .i64 x1_1 ∧ v5 = .int .i64 x5_1 ∧ Aside0 (F28.l0 kq x0_1 x1_1 x5_1 = some (r1, r2)) ∧ Aside0 (kq ≤ k) ∧ Aside0 (Kd.R Kd.string 9 w' w0.heap.size (fun k_ => (P0_ k_ ∨ w.heap.size ≤ k_)) u9000_ x0_1) ∧ Aside0 (Kept w w' (fun k_ => P0_ k_)) ∧ Aside0 (Below w0.heap.size w0 w'))
 case atStart => exact ⟨(l0), (a1), (0), er_, er_, H', ⟨Nat.le_refl _⟩, ⟨rk_ HO0⟩, ⟨au4_9⟩, ⟨bl_⟩⟩
 case round =>
  clear H'
  obtain ⟨x0_1, x1_1, x5_1, rfl, rfl, HA, HK1, HO_0, HK, HB⟩ := hrel
  cases gk with
  | zero => exact absurd HA.out (by simp [F28.l0])
  | succ k1 =>
   have H := HA.out
   clear HA
   simp only [F28.l0] at H
   replace H := it_ H; rcases H with ⟨c3b0, H⟩ | ⟨c3b0, H⟩
   rotate_left
   ·simp only [Option.some.injEq, Prod.mk.injEq] at H
    obtain ⟨rfl, rfl⟩ := H
    obtain ⟨Ao11, co11, eo11⟩ := Kd.R_slice HO_0.out
    subst eo11
    go_wp2
    go_ret
    exact ⟨au4_2, rk_ HO_0, bl_, au4_9⟩

   replace H := bi_ H; rcases H with ⟨t364, A4, H⟩
   replace H := itn_ H; rcases H with ⟨c5b0, H⟩
   obtain ⟨y365, hy365⟩ : ∃ y_ : List ByteArray, y_ = (x0_1.set (x5_1 : Int).toNat t364) := ⟨_, rfl⟩
   replace H : (F28.l0 k1 y365 (wrap64 (x1_1 + 1)) (wrap64 (x5_1 + 1))) = some (r1, r2) := by first | (rw [hy365]; exact H) | exact H
   have Ny365 := am_ hy365
   clear hy365
   have H' := am_ H
   clear H
   obtain ⟨Ao7, co7, eo7⟩ := Kd.R_slice HO_0.out
   subst eo7
   go_wp2_with (first | ((with_reducible refine gate_callee (f := 70) rfl ?_); refine gl_ 15 Try.func70 #[.int .i64 x1_1] ?_ rfl rfl rfl rfl; (with_reducible refine (F70.calls k1 x1_1 t364 _ A4.out).mono ?_); rintro e w8 ⟨rfl, hb⟩; refine ⟨_, rfl, ?_⟩; replace HO_0 := am_ (Kd.R_below (rk_ HO_0) hb); replace HK := am_ (Kept.below (S := (fun k_ => P0_ k_)) au4_34 hb); replace HB := hs_ w0 hb; (try clear hb); (try clear hb2); (try clear hk); (try clear hi); have p6 : 0 ≤ (x5_1 : Int) := od_; have q6 : (x5_1 : Int) < ((x0_1.length : Int) : Int) := od_; obtain ⟨go6, co6, eo6, gb6, gl6, cl6, HG6⟩ := Kd.R_form HO_0.out (by omega); (first | cases eo6 | (injection eo6 with ea_ en_ ec_; (first | subst ea_ | (injection ea_ with ea_; subst ea_)); subst ec_; clear en_)); have GB6 := am_ gb6; have GG6 := am_ HG6; clear gb6 gl6 HG6; have HMgo6 := am_ (show (P0_ go6 ∨ w.heap.size ≤ go6) from (HO_0.out.1 _ rfl)); obtain ⟨hx6_0, hf6_0⟩ := Kd.R_celln (⟨#[]⟩ : ByteArray) HO_0.out (x5_1 : Int) p6 q6; replace p6 := eq_true p6; replace q6 := eq_true q6; obtain ⟨hy9_, hz9_⟩ := Kd.R_celln (⟨#[]⟩ : ByteArray) HO_0.out (x5_1 : Int) (of_decide_eq_true as_) (of_decide_eq_true as_); have HP9 := Kd.R_putg HO_0.out (x5_1 : Int) t364) | ((with_reducible refine gate_store (t := 9) (p := 16) rfl ?_); refine store_event (t := 9) (p := 16) (v := ?vo_w10) (w1 := (w8.setCell ⟨go6, (x5_1 : Int).toNat, none⟩ (.string t364))) ?hg ?ho ?hn ?hr ?_; (case ho => rfl); (case hg => rfl); (case hn => rfl); (case hr => exact hr_); intro w10 hw; have hg : w8.grownBy w10 (some go6) := (by rw [hw]; exact HP9.2); have hp_ : Kd.R Kd.string 9 w10 w0.heap.size (fun k_ => (P0_ k_ ∨ w.heap.size ≤ k_)) (.slice (some ⟨go6, 0, none⟩) x0_1.length co7) y365 := (by rw [hw, Ny365.out]; exact HP9.1); clear HP9; replace HB := am_ ((by rw [hw]; exact below_set (HB.out) GB6.out : Below w0.heap.size w0 w10)); replace HK := am_ (Kept.of_grown (S := (fun k_ => P0_ k_)) hg au4_34 (fun k_ e_ => (HO_0.out.1 k_ e_))); replace HO_0 := am_ (hp_); clear hg hw hp_))
   go_roundg k1
   case measure => have := HK1.out; omega
   case rel => exact ⟨(y365), (wrap64 (x1_1 + 1)), (wrap64 (x5_1 + 1)), er_, er_, H', ⟨by have := HK1.out; omega⟩, ⟨rk_ HO_0⟩, ⟨au4_9⟩, ⟨bl_⟩⟩
/-! ### F115: function 115 -/
def F115.l0 : Nat → List (S102) → Int → Int → Option (Int × List (S102))
  | 0, _, _, _ => none
  | k + 1, x0, x1, x5 => if x5 < (x0.length : Int) then (if 0 ≤ x5 then ((F28.f k (rd_T102 x0 x5).f0 x1).bind fun q => (F115.l0 k (x0.set (x5 : Int).toNat ⟨q.2⟩) q.1 (wrap64 (x5 + 1)))) else (none)) else (some (x1, x0))
def F115.f (k : Nat) (l0 : List (S102)) (a1 : Int) : Option (Int × List (S102)) := F115.l0 k l0 a1 0
theorem F115.mono_l : ∀ k, (∀ y0 y1 y2, LeO (F115.l0 k y0 y1 y2) (F115.l0 (k + 1) y0 y1 y2))
 | 0 => fun _ _ _ r h => by simp [F115.l0] at h
 | k + 1 => by
  have ih := F115.mono_l k
  intro y0 y1 y2
  unfold F115.l0
  exact LeO.ite (LeO.ite (LeO.bind (F28.mono _ _ _) (fun _ => ih _ _ _)) (LeO.none _)) (LeO.refl _)
theorem F115.mono : ∀ a0 a1 k, LeO (F115.f k a0 a1) (F115.f (k + 1) a0 a1) := fun a0 a1 k => F115.mono_l k a0 a1 0
theorem F115.calls (k : Nat) (P0_ : Nat → Prop) (u9000_ : Value) (l0 : List (S102)) (a1 : Int) (r1 : Int) (r2 : List (S102)) (w0 w : World) (hB : Below w0.heap.size w0 w) (ho0 : Kd.S k102 102 w w0.heap.size P0_ u9000_ l0) (h : F115.f k l0 a1 = some (r1, r2)) :
  Calls Try.prog 115 #[u9000_, .int .i64 a1] w fun e w' => e = .returned (.int .i64 r1) ∧ Kd.S k102 102 w' w0.heap.size (fun k_ => (P0_ k_ ∨ w.heap.size ≤ k_)) u9000_ r2 ∧ Below w0.heap.size w0 w' ∧ Kept w w' (fun k_ => P0_ k_) := by
 have hu57 := Try.underlying57
 have hu102 := Try.underlying102
 have HO0 := am_ (show Kd.S k102 102 w w0.heap.size (fun k_ => (P0_ k_ ∨ w.heap.size ≤ k_)) u9000_ l0 from Kd.S_mono ho0 (fun k_ hk => (.inl hk)))
 have HK := am_ (Kept.refl w (fun k_ => P0_ k_))
 have HB := am_ hB
 clear hB ho0
 have H' := am_ (show F115.l0 k l0 a1 0 = some (r1, r2) from h)
 clear h
 go_enter Try.func115, Try.ntmps115
 go_wp2
 go_loopg [1, 5] k (fun kq v1 v5 w' => ∃ (x0_1 : List (S102)) (x1_1 : Int) (x5_1 : Int), v1 = .int .i64 x1_1 ∧ v5 = .int .i64 x5_1 ∧ Aside0 (F115.l0 kq x0_1 x1_1 x5_1 = some (r1, r2)) ∧ Aside0 (kq ≤ k) ∧ Aside0 (Kd.S k102 102 w' w0.heap.size (fun k_ => (P0_ k_ ∨ w.heap.size ≤ k_)) u9000_ x0_1) ∧ Aside0 (Kept w w' (fun k_ => P0_ k_)) ∧ Aside0 (Below w0.heap.size w0 w'))
 case atStart => exact ⟨(l0), (a1), (0), er_, er_, H', ⟨Nat.le_refl _⟩, ⟨by (with_reducible repeat (first | apply Kd.S_alloc | apply Kd.S_drewN | apply Kd.S_drew)); exact HO0.out⟩, ⟨au4_9⟩, ⟨bl_⟩⟩
 case round =>
  clear H'
  obtain ⟨x0_1, x1_1, x5_1, rfl, rfl, HA, HK1, HO_0, HK, HB⟩ := hrel
  cases gk with
  | zero => exact absurd HA.out (by simp [F115.l0])
  | succ k1 =>
   have H := HA.out
   clear HA
   simp only [F115.l0] at H
   by_cases c3 : x5_1 < (x0_1.length : Int)
   rotate_left
   ·rw [if_neg c3] at H
    have c3b0 : decide (x5_1 < (x0_1.length : Int)) = false := decide_eq_false c3
    clear c3
    simp only [Option.some.injEq, Prod.mk.injEq] at H
    obtain ⟨rfl, rfl⟩ := H
    obtain ⟨Ao11, co11, eo11⟩ := Kd.S_slice HO_0.out
    subst eo11
    go_wp2
    go_ret
    exact ⟨au4_2, au4_45, bl_, au4_9⟩

   rw [if_pos c3] at H
   by_cases c4 : 0 ≤ x5_1
   rotate_left
   ·rw [if_neg c4] at H
    exact absurd H (by simp)
   rw [if_pos c4] at H
   replace H := bi_ H; rcases H with ⟨⟨t1, t2⟩, A5, H⟩
   have H' := am_ (show F115.l0 k1 (x0_1.set (x5_1 : Int).toNat ⟨t2⟩) t1 (wrap64 (x5_1 + 1)) = some (r1, r2) from H)
   clear H
   obtain ⟨Ao, co, eo⟩ := Kd.S_slice HO_0.out
   subst eo
   obtain ⟨ad, A7, c7, e7, hx7, hl7, hi7⟩ := at_T102 (Kd.S_reads' HO_0.out).2.2 x5_1 c4 c3
   cases e7
   obtain ⟨g7, hg7⟩ : ∃ g, ad = ⟨g, 0, none⟩ := Kd.R_head (Kd.S_R HO_0.out)
   have hS := HO_0.out
   rw [hg7] at hS
   obtain ⟨oki, ce, hcl, hM, hcc, hoki, hH⟩ := Kd.S_lend hS z102 x5_1 c4 c3
   obtain ⟨v0, rfl, hR⟩ := k102_openM hM
   have hv0 : v0 = .slice A7 ((rd_T102 x0_1 x5_1).f0).length c7 := by
    have h1 := hcc 0 v0 rfl
    rw [show (k102).sz = 1 from rfl, Nat.mul_one, Nat.add_zero] at h1
    have h2 := hx7
    rw [hg7, add_at, Nat.zero_add] at h2
    exact Option.some.inj (h1.symm.trans h2)
   subst hv0
   have HRi := am_ (show Kd.R Kd.string 9 wr w0.heap.size oki (.slice A7 ((rd_T102 x0_1 x5_1).f0).length c7) ((rd_T102 x0_1 x5_1).f0) from hR)
   have HH := am_ hH
   have HG := am_ hg7
   have HKI := am_ hoki
   clear hR hH hg7 hoki hM hcc hcl hS hi7 hl7
   have c3b0 : decide (x5_1 < (x0_1.length : Int)) = true := decide_eq_true c3
   have c4b0 : decide (0 ≤ x5_1) = true := decide_eq_true c4
   have p7 := eq_true c4
   have q7 := eq_true c3
   clear c3 c4
   go_wp2_with (first | ((with_reducible refine gate_callee (f := 28) rfl ?_); refine gl_ 18 Try.func28 #[.slice A7 ((rd_T102 x0_1 x5_1).f0).length c7, .int .i64 x1_1] ?_ rfl rfl rfl rfl; (with_reducible refine (F28.calls k1 oki _ ((rd_T102 x0_1 x5_1).f0) x1_1 t1 t2 w0 _ ?s1 ?s2 A5.out).mono ?_); (case s1 => repeat (first | (with_reducible first | exact HB.out | apply below_alloc | apply pw_below_drewN | apply below_drew1) | exact HB.out)); (case s2 => (with_reducible repeat (first | apply Kd.R_alloc | apply Kd.R_drewN | apply Kd.R_drew)); exact HRi.out); rintro e w8 ⟨rfl, ho, hb, hk⟩; refine ⟨_, rfl, ?_⟩; replace HO_0 : Aside0 (Kd.S k102 102 w8 w0.heap.size (fun k_ => (P0_ k_ ∨ w.heap.size ≤ k_)) (.slice (some ad) x0_1.length co) (x0_1.set (x5_1 : Int).toNat (⟨t2⟩ : S102))) := ⟨by rw [HG.out]; exact Kd.H_back (Kd.H_step (by (with_reducible repeat (first | apply Kd.H_alloc | apply Kd.H_drewN | apply Kd.H_drew)); exact HH.out) (fun k_ _ hn hlt => hk.2 k_ hlt hn)) (k102_mkM _ _ _ (⟨t2⟩ : S102) (Kd.R_tight rfl ho)) (fun k_ he => HRi.out.1 k_ he.symm)⟩; replace HK := am_ (Kept.then_ (S := (fun k_ => P0_ k_)) au4_34 hk (fun k_ h_ => (HKI.out k_ h_).1)); replace HB := am_ hb; clear hb hk ho HH HRi))
   go_roundg k1
   case measure => have := HK1.out; omega
   case rel => exact ⟨(x0_1.set (x5_1 : Int).toNat ⟨t2⟩), t1, (wrap64 (x5_1 + 1)), er_, er_, H', ⟨by have := HK1.out; omega⟩, ⟨au4_45⟩, ⟨au4_9⟩, ⟨bl_⟩⟩
/-! ### F89: function 89 -/
def F89.f (k : Nat) (a0_0 : ByteArray) (l0_1 : List (S102)) (a1 : Int) : Option (Int × List (S102)) := F115.f k l0_1 a1
theorem F89.mono : ∀ a0 a1 a2 k, LeO (F89.f k a0 a1 a2) (F89.f (k + 1) a0 a1 a2) := fun _ a1 a2 k => F115.mono a1 a2 k
theorem F89.calls (k : Nat) (a0_0 : ByteArray) (P0_1_ : Nat → Prop) (u9000_ : Value) (l0_1 : List (S102)) (a1 : Int) (r1 : Int) (r2 : List (S102)) (w0 w : World) (hB : Below w0.heap.size w0 w) (ho0_1 : Kd.S k102 102 w w0.heap.size P0_1_ u9000_ l0_1) (h : F89.f k a0_0 l0_1 a1 = some (r1, r2)) :
  Calls Try.prog 89 #[.agg #[.string a0_0, u9000_], .int .i64 a1] w fun e w' => e = .returned (.int .i64 r1) ∧ Kd.S k102 102 w' w0.heap.size (fun k_ => (P0_1_ k_ ∨ w.heap.size ≤ k_)) u9000_ r2 ∧ Below w0.heap.size w0 w' ∧ Kept w w' (fun k_ => P0_1_ k_) := by
 have hu59 := Try.underlying59
 have HO := am_ ho0_1
 have HB := am_ hB
 have HH := am_ (show F115.f k l0_1 a1 = some (r1, r2) from h)
 clear hB ho0_1 h
 obtain ⟨Ao4, co4, eo4⟩ := Kd.S_slice HO.out
 subst eo4
 go_enter Try.func89, Try.ntmps89
 go_wp2_with (first | ((with_reducible refine gate_dst (N := 2) rfl ?_); refine be_ 2 #[.string a0_0, .slice Ao4 l0_1.length co4] 59 ?_; intro gb hg w5 hbox hb; have BK := am_ hbox; have HZ := am_ hb.size; have HO5 := am_ (Kd.S_below HO.out hb); have HK5 := am_ (Kept.of_below hb (fun k_ => P0_1_ k_)); have HB5 := am_ (below_step HB.out hb); clear hb hbox hg; obtain ⟨hcz_0, hcz_1, hfz_0, hfz_1⟩ := cellsF2 BK.out) | ((with_reducible refine gate_callee (f := 115) rfl ?_); refine gl_ 8 Try.func115 #[.slice Ao4 l0_1.length co4, .int .i64 a1] ?_ rfl rfl rfl rfl; (with_reducible refine (F115.calls k P0_1_ (.slice Ao4 l0_1.length co4) l0_1 a1 r1 r2 w0 _ ?s1 ?s2 HH.out).mono ?_); (case s1 => exact au4_42); (case s2 => exact au4_47); rintro e w7 ⟨rfl, ho, hb, hk⟩; refine ⟨_, rfl, ?_⟩; have HO7 := am_ (Kd.S_mono ho (fun k_ h_ => h_.elim (fun a_ => Or.inl a_) (fun b_ => Or.inr (Nat.le_trans HZ.out b_))) : Kd.S k102 102 w7 w0.heap.size (fun k_ => (P0_1_ k_ ∨ w.heap.size ≤ k_)) (.slice Ao4 l0_1.length co4) r2); have HB7 := am_ hb; have HK7 := am_ (Kept.then_ HK5.out hk (fun k_ h_ => Or.inl h_)); clear ho hb hk))
 go_ret
 exact ⟨by first | rfl | (simp; done), au4_46, au4_41, au4_44⟩

/-! ### F43: function 43 -/
def F43.f (k : Nat) (a0_0 : ByteArray) (l0_1 : List (S102)) (a0_2 : Int) (a0_3 : Int) (a0_4 : Int) (a1 : Int) : Option (Int × List (S102)) := F89.f k a0_0 l0_1 a1
theorem F43.mono : ∀ a0 a1 a2 a3 a4 a5 k, LeO (F43.f k a0 a1 a2 a3 a4 a5) (F43.f (k + 1) a0 a1 a2 a3 a4 a5) := fun a0 a1 _ _ _ a5 k => F89.mono a0 a1 a5 k
theorem F43.calls (k : Nat) (a0_0 : ByteArray) (P0_1_ : Nat → Prop) (u9000_ : Value) (l0_1 : List (S102)) (a0_2 : Int) (a0_3 : Int) (a0_4 : Int) (a1 : Int) (r1 : Int) (r2 : List (S102)) (w0 w : World) (hB : Below w0.heap.size w0 w) (ho0_1 : Kd.S k102 102 w w0.heap.size P0_1_ u9000_ l0_1) (h : F43.f k a0_0 l0_1 a0_2 a0_3 a0_4 a1 = some (r1, r2)) :
  Calls Try.prog 43 #[.agg #[.string a0_0, u9000_, .int .i64 a0_2, .int .i64 a0_3, .int .i64 a0_4], .int .i64 a1] w fun e w' => e = .returned (.int .i64 r1) ∧ Kd.S k102 102 w' w0.heap.size (fun k_ => (P0_1_ k_ ∨ w.heap.size ≤ k_)) u9000_ r2 ∧ Below w0.heap.size w0 w' ∧ Kept w w' (fun k_ => P0_1_ k_) := by
 have hu66 := Try.underlying66
 have hu59 := Try.underlying59
 have HO := am_ ho0_1
 have HB := am_ hB
 have HH := am_ (show F89.f k a0_0 l0_1 a1 = some (r1, r2) from h)
 clear hB ho0_1 h
 obtain ⟨Ao4, co4, eo4⟩ := Kd.S_slice HO.out
 subst eo4
 go_enter Try.func43, Try.ntmps43
 go_wp2_with (first | ((with_reducible refine gate_dst (N := 2) rfl ?_); refine be_ 2 #[.string a0_0, .slice Ao4 l0_1.length co4, .int .i64 a0_2, .int .i64 a0_3, .int .i64 a0_4] 66 ?_; intro gb hg w5 hbox hb; have BK := am_ hbox; have HZ := am_ hb.size; have HO5 := am_ (Kd.S_below HO.out hb); have HK5 := am_ (Kept.of_below hb (fun k_ => P0_1_ k_)); have HB5 := am_ (below_step HB.out hb); clear hb hbox hg; obtain ⟨hcz_0, hcz_1, hcz_2, hcz_3, hcz_4, hfz_0, hfz_1, hfz_2, hfz_3, hfz_4⟩ := cellsF5 BK.out) | ((with_reducible refine gate_callee (f := 89) rfl ?_); refine gl_ 8 Try.func89 #[.agg #[.string a0_0, .slice Ao4 l0_1.length co4], .int .i64 a1] ?_ rfl rfl rfl rfl; (with_reducible refine (F89.calls k a0_0 P0_1_ (.slice Ao4 l0_1.length co4) l0_1 a1 r1 r2 w0 _ ?s1 ?s2 HH.out).mono ?_); (case s1 => exact au4_42); (case s2 => exact au4_47); rintro e w7 ⟨rfl, ho, hb, hk⟩; refine ⟨_, rfl, ?_⟩; have HO7 := am_ (Kd.S_mono ho (fun k_ h_ => h_.elim (fun a_ => Or.inl a_) (fun b_ => Or.inr (Nat.le_trans HZ.out b_))) : Kd.S k102 102 w7 w0.heap.size (fun k_ => (P0_1_ k_ ∨ w.heap.size ≤ k_)) (.slice Ao4 l0_1.length co4) r2); have HB7 := am_ hb; have HK7 := am_ (Kept.then_ HK5.out hk (fun k_ h_ => Or.inl h_)); clear ho hb hk))
 go_ret
 exact ⟨by first | rfl | (simp; done), au4_46, au4_41, au4_44⟩

/-! ### F29: function 29 -/
def F29.l0 : Nat → List ByteArray → Int → Int → Option (Int)
  | 0, _, _, _ => none
  | k + 1, x0, x1, x5 => if x5 < (x0.length : Int) then (if 0 ≤ x5 then ((F70.f k x1).bind fun t367 => (if (rdOf ByteArray.empty x0 x5).toList = t367.toList then (F29.l0 k x0 (wrap64 (x1 + 1)) (wrap64 (x5 + 1))) else (some (-1)))) else (none)) else (some x1)
def F29.f (k : Nat) (l0 : List ByteArray) (a1 : Int) : Option (Int) := F29.l0 k l0 a1 0
theorem F29.mono_l : ∀ k, (∀ y0 y1 y2, LeO (F29.l0 k y0 y1 y2) (F29.l0 (k + 1) y0 y1 y2))
 | 0 => fun _ _ _ r h => by simp [F29.l0] at h
 | k + 1 => by
  have ih0 := F29.mono_l k
  intro y0 y1 y2
  unfold F29.l0
  repeat' with_reducible first | exact ih0 _ _ _ | exact F70.mono _ _ | exact LeO.refl _ | exact LeO.none _ | refine LeO.ite ?_ ?_ | refine LeO.bind ?_ (fun _ => ?_)
theorem F29.mono : ∀ a0 a1 k, LeO (F29.f k a0 a1) (F29.f (k + 1) a0 a1) := by
 intro a0 a1 k
 have ih0 := F29.mono_l k
 unfold F29.f
 repeat' with_reducible first | exact ih0 _ _ _ | exact F70.mono _ _ | exact LeO.refl _ | exact LeO.none _ | refine LeO.ite ?_ ?_ | refine LeO.bind ?_ (fun _ => ?_)
theorem F29.calls (k : Nat) (A0 : Option Addr) (c0 : Nat) (l0 : List ByteArray) (a1 : Int) (r : Int) (w : World) (hr0 : Kd.C Kd.string w A0 l0.length l0) (hc0 : l0.length ≤ c0) (h : F29.f k l0 a1 = some r) :
  Calls Try.prog 29 #[.slice A0 l0.length c0, .int .i64 a1] w fun e w' => e = .returned (.int .i64 r) ∧ Below w.heap.size w w' := by
 have HR0 := am_ hr0
 have HC0 := am_ hc0
 clear hr0 hc0
 have HB := am_ (Below.refl w.heap.size w)
 have H : (F29.l0 k l0 a1 0) = some r := h
 clear h
 have H' := am_ H
 clear H
 go_enter Try.func29, Try.ntmps29
 go_wp2
 go_loopg [1, 5] k (fun kq v1 v5 w' => ∃ (x1_1 : Int) (x5_1 : Int), v1 = .int .i64 x1_1 ∧ v5 = .int .i64 x5_1 ∧ Aside0 (F29.l0 kq l0 x1_1 x5_1 = some r) ∧ Aside0 (kq ≤ k) ∧ Aside0 (Below w.heap.size w w'))
 case atStart => exact ⟨(a1), (0), er_, er_, H', ⟨Nat.le_refl _⟩, ⟨bl_⟩⟩
 case round =>
  clear H'
  obtain ⟨x1_1, x5_1, rfl, rfl, HA, HK1, HB⟩ := hrel
  cases gk with
  | zero => exact absurd HA.out (by simp [F29.l0])
  | succ k1 =>
   have H := HA.out
   clear HA
   simp only [F29.l0] at H
   replace H := it_ H; rcases H with ⟨c3b0, H⟩ | ⟨c3b0, H⟩
   rotate_left
   ·obtain rfl := Option.some.inj H
    go_wp2
    go_ret
    exact ⟨au4_2, bl_⟩

   replace H := itn_ H; rcases H with ⟨c4b0, H⟩
   replace H := bi_ H; rcases H with ⟨t367, A5, H⟩
   by_cases c6 : (rdOf ByteArray.empty l0 x5_1).toList = t367.toList
   rotate_left
   ·rw [if_neg c6] at H
    have c6b0 : ((rdOf ByteArray.empty l0 x5_1).toList == t367.toList) = false := beq_eq_false_iff_ne.mpr c6
    have c6b1 : ((rdOf ByteArray.empty l0 x5_1).toList != t367.toList) = true := bne_iff_ne.mpr c6
    obtain rfl := Option.some.inj H
    try go_wp2
    replace HB := am_ (below_drew1 HB.out)
    have p366 : 0 ≤ (x5_1 : Int) := od_
    have q366 : x5_1 < (l0.length : Int) := od_
    obtain ⟨ad366, e366, hx366_0⟩ := Kd.at_string HR0.out x5_1 p366 q366
    have hw366_0 := hx366_0
    cases e366
    replace hx366_0 := (HB.out.cell (World.block_lt_of_cell? _ _ hx366_0)).trans hx366_0
    replace p366 := eq_true p366
    replace q366 := eq_true q366
    refine start_ (n := 7) (S := fun w' => w'.cell? (ad366.add (x5_1).toNat) = some (.string (rdOf ByteArray.empty l0 x5_1))) (ds := []) (bs 7 0) (by kernel_rfl) rfl rfl (((HB.out.cell (World.block_lt_of_cell? _ _ hw366_0)).trans hw366_0)) (fun hHeld => ?_)
    generalize wr.drew = w9 at HB hx366_0 hHeld ⊢
    refine pk_ 0 12 (bs 7 1) ?_ rfl rfl
    refine pk_ 1 13 (bs 7 3) ?_ rfl rfl
    refine pk_ 2 14 (bs 7 7) ?_ rfl rfl
    refine pk_ 4 16 (bs 7 23) ?_ rfl rfl
    refine take_ (i := 3) (N := some 15) (v := ?_) (a' := ?_) (bs 7 31) rfl rfl (by kernel_rfl) (fun _ _ _ h => h) (Or.inl ⟨by rfl, ?_⟩) hHeld ?_ ?_
    rotate_left
    ·intro w' s0
     go_simp
     with_reducible rfl
    rotate_left
    ·simp only [Act.put, List.setIfInBounds_toArray, List.set_cons_zero, List.set_cons_succ, i64_w, i32_w]
     rfl
    refine one_ (i := 5) (N := some 17) (bs 7 63) rfl rfl (by kernel_rfl) (by decide) (fun K hK => ?_)
    refine gr_ Try.func70 #[.int .i64 x1_1] (by rfl) ?_ rfl rfl rfl
    with_reducible refine (F70.calls k1 x1_1 t367 _ A5.out).mono ?_
    rintro e w10 ⟨rfl, hb⟩
    refine ⟨_, rfl, ?_⟩
    replace HB := hs_ w hb
    (try clear hb)
    (try clear hb2)
    (try clear hk)
    (try clear hi)
    refine hK.out _ _ (((HB.out.cell (World.block_lt_of_cell? _ _ hw366_0)).trans hw366_0)) (fun hHeld => ?_)
    clear hK K
    refine no_ 17 ?_
    refine pk_ 6 18 (bs 7 127) ?_ rfl rfl
    refine done_ (by kernel_rfl) ?_
    try go_wp2
    go_ret
    exact ⟨au4_2, bl_⟩
   rw [if_pos c6] at H
   have c6b0 : ((rdOf ByteArray.empty l0 x5_1).toList == t367.toList) = true := beq_iff_eq.mpr c6
   have c6b1 : ((rdOf ByteArray.empty l0 x5_1).toList != t367.toList) = false := bne_eq_false_iff_eq.mpr c6
   clear c6
   have H' := am_ H
   clear H
   try go_wp2
   replace HB := am_ (below_drew1 HB.out)
   have p366 : 0 ≤ (x5_1 : Int) := od_
   have q366 : x5_1 < (l0.length : Int) := od_
   obtain ⟨ad366, e366, hx366_0⟩ := Kd.at_string HR0.out x5_1 p366 q366
   have hw366_0 := hx366_0
   cases e366
   replace hx366_0 := (HB.out.cell (World.block_lt_of_cell? _ _ hx366_0)).trans hx366_0
   replace p366 := eq_true p366
   replace q366 := eq_true q366
   refine start_ (n := 7) (S := fun w' => w'.cell? (ad366.add (x5_1).toNat) = some (.string (rdOf ByteArray.empty l0 x5_1))) (ds := []) (bs 7 0) (by kernel_rfl) rfl rfl (((HB.out.cell (World.block_lt_of_cell? _ _ hw366_0)).trans hw366_0)) (fun hHeld => ?_)
   generalize wr.drew = w7 at HB hx366_0 hHeld ⊢
   refine pk_ 0 12 (bs 7 1) ?_ rfl rfl
   refine pk_ 1 13 (bs 7 3) ?_ rfl rfl
   refine pk_ 2 14 (bs 7 7) ?_ rfl rfl
   refine pk_ 4 16 (bs 7 23) ?_ rfl rfl
   refine take_ (i := 3) (N := some 15) (v := ?_) (a' := ?_) (bs 7 31) rfl rfl (by kernel_rfl) (fun _ _ _ h => h) (Or.inl ⟨by rfl, ?_⟩) hHeld ?_ ?_
   rotate_left
   ·intro w' s0
    go_simp
    with_reducible rfl
   rotate_left
   ·simp only [Act.put, List.setIfInBounds_toArray, List.set_cons_zero, List.set_cons_succ, i64_w, i32_w]
    rfl
   refine one_ (i := 5) (N := some 17) (bs 7 63) rfl rfl (by kernel_rfl) (by decide) (fun K hK => ?_)
   refine gr_ Try.func70 #[.int .i64 x1_1] (by rfl) ?_ rfl rfl rfl
   with_reducible refine (F70.calls k1 x1_1 t367 _ A5.out).mono ?_
   rintro e w8 ⟨rfl, hb⟩
   refine ⟨_, rfl, ?_⟩
   replace HB := hs_ w hb
   (try clear hb)
   (try clear hb2)
   (try clear hk)
   (try clear hi)
   refine hK.out _ _ (((HB.out.cell (World.block_lt_of_cell? _ _ hw366_0)).trans hw366_0)) (fun hHeld => ?_)
   clear hK K
   refine no_ 17 ?_
   refine pk_ 6 18 (bs 7 127) ?_ rfl rfl
   refine done_ (by kernel_rfl) ?_
   try go_wp2
   go_roundg k1
   case measure => have := HK1.out; omega
   case rel => exact ⟨(wrap64 (x1_1 + 1)), (wrap64 (x5_1 + 1)), er_, er_, H', ⟨by have := HK1.out; omega⟩, ⟨bl_⟩⟩
/-! ### F116: function 116 -/
def F116.l0 : Nat → List (S102) → Int → Int → Option (Int)
  | 0, _, _, _ => none
  | k + 1, x0, x1, x5 => if x5 < (x0.length : Int) then (if 0 ≤ x5 then ((F29.f k ((rd_T102 x0 x5).f0) x1).bind fun t369 => (if t369 < 0 then (some (-1)) else (F116.l0 k x0 t369 (wrap64 (x5 + 1))))) else (none)) else (some x1)
def F116.f (k : Nat) (l0 : List (S102)) (a1 : Int) : Option (Int) := F116.l0 k l0 a1 0
theorem F116.mono_l : ∀ k, (∀ y0 y1 y2, LeO (F116.l0 k y0 y1 y2) (F116.l0 (k + 1) y0 y1 y2))
 | 0 => fun _ _ _ r h => by simp [F116.l0] at h
 | k + 1 => by
  have ih0 := F116.mono_l k
  intro y0 y1 y2
  unfold F116.l0
  repeat' with_reducible first | exact ih0 _ _ _ | exact F29.mono _ _ _ | exact LeO.refl _ | exact LeO.none _ | refine LeO.ite ?_ ?_ | refine LeO.bind ?_ (fun _ => ?_)
theorem F116.mono : ∀ a0 a1 k, LeO (F116.f k a0 a1) (F116.f (k + 1) a0 a1) := by
 intro a0 a1 k
 have ih0 := F116.mono_l k
 unfold F116.f
 repeat' with_reducible first | exact ih0 _ _ _ | exact F29.mono _ _ _ | exact LeO.refl _ | exact LeO.none _ | refine LeO.ite ?_ ?_ | refine LeO.bind ?_ (fun _ => ?_)
theorem F116.calls (k : Nat) (A0 : Option Addr) (c0 : Nat) (l0 : List (S102)) (a1 : Int) (r : Int) (w : World) (hr0 : Kd.C k102 w A0 l0.length l0) (hc0 : l0.length ≤ c0) (h : F116.f k l0 a1 = some r) :
  Calls Try.prog 116 #[.slice A0 l0.length c0, .int .i64 a1] w fun e w' => e = .returned (.int .i64 r) ∧ Below w.heap.size w w' := by
 have HR0 := am_ hr0
 have HC0 := am_ hc0
 clear hr0 hc0
 have HB := am_ (Below.refl w.heap.size w)
 have H : (F116.l0 k l0 a1 0) = some r := h
 clear h
 have H' := am_ H
 clear H
 go_enter Try.func116, Try.ntmps116
 go_wp2
 go_loopg [1, 5] k (fun kq v1 v5 w' => ∃ (x1_1 : Int) (x5_1 : Int), v1 = .int .i64 x1_1 ∧ v5 = .int .i64 x5_1 ∧ Aside0 (F116.l0 kq l0 x1_1 x5_1 = some r) ∧ Aside0 (kq ≤ k) ∧ Aside0 (Below w.heap.size w w'))
 case atStart => exact ⟨(a1), (0), er_, er_, H', ⟨Nat.le_refl _⟩, ⟨bl_⟩⟩
 case round =>
  clear H'
  obtain ⟨x1_1, x5_1, rfl, rfl, HA, HK1, HB⟩ := hrel
  cases gk with
  | zero => exact absurd HA.out (by simp [F116.l0])
  | succ k1 =>
   have H := HA.out
   clear HA
   simp only [F116.l0] at H
   replace H := it_ H; rcases H with ⟨c3b0, H⟩ | ⟨c3b0, H⟩
   rotate_left
   ·obtain rfl := Option.some.inj H
    go_wp2
    go_ret
    exact ⟨au4_2, bl_⟩

   replace H := itn_ H; rcases H with ⟨c4b0, H⟩
   replace H := bi_ H; rcases H with ⟨t369, A5, H⟩
   replace H := it_ H; rcases H with ⟨c6b0, H⟩ | ⟨c6b0, H⟩
   ·obtain rfl := Option.some.inj H
    have p368 : 0 ≤ (x5_1 : Int) := od_
    have q368 : x5_1 < (l0.length : Int) := od_
    obtain ⟨ad368, A368_0, c368_0, e368, hx368_0, hl368_0, hi368_0⟩ := at_T102 HR0.out x5_1 p368 q368
    cases e368
    replace hx368_0 := (HB.out.cell (World.block_lt_of_cell? _ _ hx368_0)).trans hx368_0
    have HR368_0 := am_ hi368_0
    have HC368_0 := am_ hl368_0
    clear hi368_0 hl368_0
    replace p368 := eq_true p368
    replace q368 := eq_true q368
    go_wp2_with (first | ((with_reducible refine gate_callee (f := 29) rfl ?_); refine gl_ 18 Try.func29 #[.slice A368_0 ((rd_T102 l0 x5_1).f0).length c368_0, .int .i64 x1_1] ?_ rfl rfl rfl rfl; (with_reducible refine (F29.calls k1 _ _ ((rd_T102 l0 x5_1).f0) x1_1 t369 _ ?s1 ?s2 A5.out).mono ?_); (case s1 => exact au4_37); (case s2 => exact HC368_0.out); rintro e w7 ⟨rfl, hb⟩; refine ⟨_, rfl, ?_⟩; replace HB := hs_ w hb; (try clear hb)))
    go_ret
    exact ⟨au4_2, bl_⟩
   have H' := am_ H
   clear H
   have p368 : 0 ≤ (x5_1 : Int) := od_
   have q368 : x5_1 < (l0.length : Int) := od_
   obtain ⟨ad368, A368_0, c368_0, e368, hx368_0, hl368_0, hi368_0⟩ := at_T102 HR0.out x5_1 p368 q368
   cases e368
   replace hx368_0 := (HB.out.cell (World.block_lt_of_cell? _ _ hx368_0)).trans hx368_0
   have HR368_0 := am_ hi368_0
   have HC368_0 := am_ hl368_0
   clear hi368_0 hl368_0
   replace p368 := eq_true p368
   replace q368 := eq_true q368
   go_wp2_with (first | ((with_reducible refine gate_callee (f := 29) rfl ?_); refine gl_ 18 Try.func29 #[.slice A368_0 ((rd_T102 l0 x5_1).f0).length c368_0, .int .i64 x1_1] ?_ rfl rfl rfl rfl; (with_reducible refine (F29.calls k1 _ _ ((rd_T102 l0 x5_1).f0) x1_1 t369 _ ?s1 ?s2 A5.out).mono ?_); (case s1 => exact au4_37); (case s2 => exact HC368_0.out); rintro e w8 ⟨rfl, hb⟩; refine ⟨_, rfl, ?_⟩; replace HB := hs_ w hb; (try clear hb)))
   go_roundg k1
   case measure => have := HK1.out; omega
   case rel => exact ⟨(t369), (wrap64 (x5_1 + 1)), er_, er_, H', ⟨by have := HK1.out; omega⟩, ⟨bl_⟩⟩
/-! ### F90: function 90 -/
def F90.f (k : Nat) (a0_0 : ByteArray) (l0_1 : List (S102)) (a1 : Int) : Option (Int) := (F116.f k l0_1 a1).bind fun t371 => (if t371 < 0 then (some (-1)) else (some t371))
theorem F90.mono : ∀ a0 a1 a2 k, LeO (F90.f k a0 a1 a2) (F90.f (k + 1) a0 a1 a2) := by
 intro a0 a1 a2 k
 unfold F90.f
 repeat' with_reducible first | exact F116.mono _ _ _ | exact LeO.refl _ | exact LeO.none _ | refine LeO.ite ?_ ?_ | refine LeO.bind ?_ (fun _ => ?_)
theorem F90.calls (k : Nat) (a0_0 : ByteArray) (A0_1 : Option Addr) (c0_1 : Nat) (l0_1 : List (S102)) (a1 : Int) (r : Int) (w : World) (hr0_1 : Kd.C k102 w A0_1 l0_1.length l0_1) (hc0_1 : l0_1.length ≤ c0_1) (h : F90.f k a0_0 l0_1 a1 = some r) :
  Calls Try.prog 90 #[.agg #[.string a0_0, .slice A0_1 l0_1.length c0_1], .int .i64 a1] w fun e w' => e = .returned (.int .i64 r) ∧ Below w.heap.size w w' := by
 have hu59 := Try.underlying59
 have HR0_1 := am_ hr0_1
 have HC0_1 := am_ hc0_1
 clear hr0_1 hc0_1
 have HB := am_ (Below.refl w.heap.size w)
 have H : ((F116.f k l0_1 a1).bind fun t371 => (if t371 < 0 then (some (-1)) else (some t371))) = some r := h
 clear h
 replace H := bi_ H; rcases H with ⟨t371, A3, H⟩
 replace H := it_ H; rcases H with ⟨c4b0, H⟩ | ⟨c4b0, H⟩
 ·obtain rfl := Option.some.inj H
  go_enter Try.func90, Try.ntmps90
  go_wp2_with (first | ((with_reducible refine gate_dst (N := 2) rfl ?_); refine be_ 2 #[.string a0_0, .slice A0_1 l0_1.length c0_1] 59 ?_; intro gb370 hg w5 hbox hb; have BK370 := am_ (hbox); have GW370 := am_ (gw_ hg bl_); have GE370 := GW370; replace HB := hs_ w hb; clear hb hbox hg; obtain ⟨hcz6_0, hcz6_1, hfz6_0, hfz6_1⟩ := cellsF2 BK370.out) | ((with_reducible refine gate_callee (f := 116) rfl ?_); refine gl_ 8 Try.func116 #[.slice A0_1 l0_1.length c0_1, .int .i64 a1] ?_ rfl rfl rfl rfl; (with_reducible refine (F116.calls k _ _ l0_1 a1 t371 _ ?s1 ?s2 A3.out).mono ?_); (case s1 => exact au4_4); (case s2 => exact HC0_1.out); rintro e w7 ⟨rfl, hb⟩; refine ⟨_, rfl, ?_⟩; replace BK370 := bb_ BK370 hb; replace HB := hs_ w hb; (try clear hb)))
  go_ret
  exact ⟨au4_2, bl_⟩
 obtain rfl := Option.some.inj H
 go_enter Try.func90, Try.ntmps90
 go_wp2_with (first | ((with_reducible refine gate_dst (N := 2) rfl ?_); refine be_ 2 #[.string a0_0, .slice A0_1 l0_1.length c0_1] 59 ?_; intro gb370 hg w8 hbox hb; have BK370 := am_ (hbox); have GW370 := am_ (gw_ hg bl_); have GE370 := GW370; replace HB := hs_ w hb; clear hb hbox hg; obtain ⟨hcz9_0, hcz9_1, hfz9_0, hfz9_1⟩ := cellsF2 BK370.out) | ((with_reducible refine gate_callee (f := 116) rfl ?_); refine gl_ 8 Try.func116 #[.slice A0_1 l0_1.length c0_1, .int .i64 a1] ?_ rfl rfl rfl rfl; (with_reducible refine (F116.calls k _ _ l0_1 a1 t371 _ ?s1 ?s2 A3.out).mono ?_); (case s1 => exact au4_4); (case s2 => exact HC0_1.out); rintro e w10 ⟨rfl, hb⟩; refine ⟨_, rfl, ?_⟩; replace BK370 := bb_ BK370 hb; replace HB := hs_ w hb; (try clear hb)))
 go_ret
 exact ⟨au4_2, bl_⟩

/-! ### F44: function 44 -/
def F44.f (k : Nat) (a0_0 : ByteArray) (l0_1 : List (S102)) (a0_2 : Int) (a0_3 : Int) (a0_4 : Int) (a1 : Int) : Option (Int) := (F90.f k a0_0 l0_1 a1).bind fun t373 => (if t373 < 0 then (some (-1)) else (some t373))
theorem F44.mono : ∀ a0 a1 a2 a3 a4 a5 k, LeO (F44.f k a0 a1 a2 a3 a4 a5) (F44.f (k + 1) a0 a1 a2 a3 a4 a5) := by
 intro a0 a1 a2 a3 a4 a5 k
 unfold F44.f
 repeat' with_reducible first | exact F90.mono _ _ _ _ | exact LeO.refl _ | exact LeO.none _ | refine LeO.ite ?_ ?_ | refine LeO.bind ?_ (fun _ => ?_)
theorem F44.calls (k : Nat) (a0_0 : ByteArray) (A0_1 : Option Addr) (c0_1 : Nat) (l0_1 : List (S102)) (a0_2 : Int) (a0_3 : Int) (a0_4 : Int) (a1 : Int) (r : Int) (w : World) (hr0_1 : Kd.C k102 w A0_1 l0_1.length l0_1) (hc0_1 : l0_1.length ≤ c0_1) (h : F44.f k a0_0 l0_1 a0_2 a0_3 a0_4 a1 = some r) :
  Calls Try.prog 44 #[.agg #[.string a0_0, .slice A0_1 l0_1.length c0_1, .int .i64 a0_2, .int .i64 a0_3, .int .i64 a0_4], .int .i64 a1] w fun e w' => e = .returned (.int .i64 r) ∧ Below w.heap.size w w' := by
 have hu66 := Try.underlying66
 have hu59 := Try.underlying59
 have HR0_1 := am_ hr0_1
 have HC0_1 := am_ hc0_1
 clear hr0_1 hc0_1
 have HB := am_ (Below.refl w.heap.size w)
 have H : ((F90.f k a0_0 l0_1 a1).bind fun t373 => (if t373 < 0 then (some (-1)) else (some t373))) = some r := h
 clear h
 replace H := bi_ H; rcases H with ⟨t373, A3, H⟩
 replace H := it_ H; rcases H with ⟨c4b0, H⟩ | ⟨c4b0, H⟩
 ·obtain rfl := Option.some.inj H
  go_enter Try.func44, Try.ntmps44
  go_wp2_with (first | ((with_reducible refine gate_dst (N := 2) rfl ?_); refine be_ 2 #[.string a0_0, .slice A0_1 l0_1.length c0_1, .int .i64 a0_2, .int .i64 a0_3, .int .i64 a0_4] 66 ?_; intro gb372 hg w5 hbox hb; have BK372 := am_ (hbox); have GW372 := am_ (gw_ hg bl_); have GE372 := GW372; replace HB := hs_ w hb; clear hb hbox hg; obtain ⟨hcz6_0, hcz6_1, hcz6_2, hcz6_3, hcz6_4, hfz6_0, hfz6_1, hfz6_2, hfz6_3, hfz6_4⟩ := cellsF5 BK372.out) | ((with_reducible refine gate_callee (f := 90) rfl ?_); refine gl_ 8 Try.func90 #[.agg #[.string a0_0, .slice A0_1 l0_1.length c0_1], .int .i64 a1] ?_ rfl rfl rfl rfl; (with_reducible refine (F90.calls k a0_0 _ _ l0_1 a1 t373 _ ?s1 ?s2 A3.out).mono ?_); (case s1 => exact au4_4); (case s2 => exact HC0_1.out); rintro e w7 ⟨rfl, hb⟩; refine ⟨_, rfl, ?_⟩; replace BK372 := bb_ BK372 hb; replace HB := hs_ w hb; (try clear hb)))
  go_ret
  exact ⟨au4_2, bl_⟩
 obtain rfl := Option.some.inj H
 go_enter Try.func44, Try.ntmps44
 go_wp2_with (first | ((with_reducible refine gate_dst (N := 2) rfl ?_); refine be_ 2 #[.string a0_0, .slice A0_1 l0_1.length c0_1, .int .i64 a0_2, .int .i64 a0_3, .int .i64 a0_4] 66 ?_; intro gb372 hg w8 hbox hb; have BK372 := am_ (hbox); have GW372 := am_ (gw_ hg bl_); have GE372 := GW372; replace HB := hs_ w hb; clear hb hbox hg; obtain ⟨hcz9_0, hcz9_1, hcz9_2, hcz9_3, hcz9_4, hfz9_0, hfz9_1, hfz9_2, hfz9_3, hfz9_4⟩ := cellsF5 BK372.out) | ((with_reducible refine gate_callee (f := 90) rfl ?_); refine gl_ 8 Try.func90 #[.agg #[.string a0_0, .slice A0_1 l0_1.length c0_1], .int .i64 a1] ?_ rfl rfl rfl rfl; (with_reducible refine (F90.calls k a0_0 _ _ l0_1 a1 t373 _ ?s1 ?s2 A3.out).mono ?_); (case s1 => exact au4_4); (case s2 => exact HC0_1.out); rintro e w10 ⟨rfl, hb⟩; refine ⟨_, rfl, ?_⟩; replace BK372 := bb_ BK372 hb; replace HB := hs_ w hb; (try clear hb)))
 go_ret
 exact ⟨au4_2, bl_⟩

/-! ### F11: function 11 -/
def F11.f (k : Nat) (a0_0 : Int) (a0_1 : Int) (a0_2 : Int) (a0_3 : Int) (a1 : ByteArray) : Option (Bool) := if (a1.size : Int) > 1048576 then (some true) else ((F19.f a0_0 a0_1 a0_2 a0_3).bind fun bt375 => ((F40.f k bt375.1 bt375.2.1 bt375.2.2.1 bt375.2.2.2 a1).bind fun bt379 => ((F19.f a0_0 a0_1 a0_2 a0_3).bind fun bt387 => ((F41.f k bt387.1 bt387.2.1 bt387.2.2.1 bt387.2.2.2 a1).bind fun bt391 => ((F42.f k bt391.1 bt391.2.1 bt391.2.2.1 bt391.2.2.2.1 bt391.2.2.2.2 bt379.1 bt379.2.1 bt379.2.2.1 bt379.2.2.2.1 bt379.2.2.2.2).bind fun t399 => (if t399 = true then ((F43.f k bt391.1 bt391.2.1 bt391.2.2.1 bt391.2.2.2.1 bt391.2.2.2.2 1).bind fun bt400 => ((F44.f k bt391.1 bt400.2 bt391.2.2.1 bt391.2.2.2.1 bt391.2.2.2.2 1).bind fun t402 => (if t402 < 0 then (some false) else (if t402 = bt400.1 then ((F19.f a0_0 a0_1 a0_2 a0_3).bind fun bt403 => ((F41.f k bt403.1 bt403.2.1 bt403.2.2.1 bt403.2.2.2 a1).bind fun bt407 => ((F42.f k bt407.1 bt407.2.1 bt407.2.2.1 bt407.2.2.2.1 bt407.2.2.2.2 bt379.1 bt379.2.1 bt379.2.2.1 bt379.2.2.2.1 bt379.2.2.2.2).bind fun t415 => (if t415 = true then ((F44.f k bt391.1 bt400.2 bt391.2.2.1 bt391.2.2.2.1 bt391.2.2.2.2 1).bind fun t416 => (if t416 < 0 then (some false) else (if t416 = bt400.1 then (some true) else (some false)))) else (some false))))) else (some false))))) else (some false)))))))
theorem F11.mono : ∀ a0 a1 a2 a3 a4 k, LeO (F11.f k a0 a1 a2 a3 a4) (F11.f (k + 1) a0 a1 a2 a3 a4) := by
 intro a0 a1 a2 a3 a4 k
 unfold F11.f
 repeat' with_reducible first | exact F41.mono _ _ _ _ _ _ | exact F42.mono _ _ _ _ _ _ _ _ _ _ _ | exact F44.mono _ _ _ _ _ _ _ | exact F43.mono _ _ _ _ _ _ _ | exact F40.mono _ _ _ _ _ _ | exact LeO.refl _ | exact LeO.none _ | refine LeO.ite ?_ ?_ | refine LeO.bind ?_ (fun _ => ?_)
theorem F11.calls (k : Nat) (a0_0 : Int) (a0_1 : Int) (a0_2 : Int) (a0_3 : Int) (a1 : ByteArray) (r : Bool) (w : World) (h : F11.f k a0_0 a0_1 a0_2 a0_3 a1 = some r) :
  Calls Try.prog 11 #[.agg #[.int .i64 a0_0, .int .i64 a0_1, .int .i64 a0_2, .int .i64 a0_3], .string a1] w fun e w' => e = .returned (.bool r) ∧ Below w.heap.size w w' := by
 have hu29 := Try.underlying29
 have hu66 := Try.underlying66
 have HB := am_ (Below.refl w.heap.size w)
 have H : (if (a1.size : Int) > 1048576 then (some true) else ((F19.f a0_0 a0_1 a0_2 a0_3).bind fun bt375 => ((F40.f k bt375.1 bt375.2.1 bt375.2.2.1 bt375.2.2.2 a1).bind fun bt379 => ((F19.f a0_0 a0_1 a0_2 a0_3).bind fun bt387 => ((F41.f k bt387.1 bt387.2.1 bt387.2.2.1 bt387.2.2.2 a1).bind fun bt391 => ((F42.f k bt391.1 bt391.2.1 bt391.2.2.1 bt391.2.2.2.1 bt391.2.2.2.2 bt379.1 bt379.2.1 bt379.2.2.1 bt379.2.2.2.1 bt379.2.2.2.2).bind fun t399 => (if t399 = true then ((F43.f k bt391.1 bt391.2.1 bt391.2.2.1 bt391.2.2.2.1 bt391.2.2.2.2 1).bind fun bt400 => ((F44.f k bt391.1 bt400.2 bt391.2.2.1 bt391.2.2.2.1 bt391.2.2.2.2 1).bind fun t402 => (if t402 < 0 then (some false) else (if t402 = bt400.1 then ((F19.f a0_0 a0_1 a0_2 a0_3).bind fun bt403 => ((F41.f k bt403.1 bt403.2.1 bt403.2.2.1 bt403.2.2.2 a1).bind fun bt407 => ((F42.f k bt407.1 bt407.2.1 bt407.2.2.1 bt407.2.2.2.1 bt407.2.2.2.2 bt379.1 bt379.2.1 bt379.2.2.1 bt379.2.2.2.1 bt379.2.2.2.2).bind fun t415 => (if t415 = true then ((F44.f k bt391.1 bt400.2 bt391.2.2.1 bt391.2.2.2.1 bt391.2.2.2.2 1).bind fun t416 => (if t416 < 0 then (some false) else (if t416 = bt400.1 then (some true) else (some false)))) else (some false))))) else (some false))))) else (some false)))))))) = some r := h
 clear h
 replace H := it_ H; rcases H with ⟨(c3b0 : decide (1048576 < (a1.size : Int)) = true), H⟩ | ⟨(c3b0 : decide (1048576 < (a1.size : Int)) = false), H⟩
 ·have c3b1 : decide (1048576 < a1.size) = true := n2_ c3b0
  obtain rfl := Option.some.inj H
  go_enter Try.func11, Try.ntmps11
  go_wp2_with (first | ((with_reducible refine gate_dst (N := 2) rfl ?_); refine be_ 2 #[.int .i64 a0_0, .int .i64 a0_1, .int .i64 a0_2, .int .i64 a0_3] 29 ?_; intro gb374 hg w4 hbox hb; have BK374 := am_ (hbox); have GW374 := am_ (gw_ hg bl_); have GE374 := GW374; replace HB := hs_ w hb; clear hb hbox hg))
  go_ret
  exact ⟨au4_2, bl_⟩
 have c3b1 : decide (1048576 < a1.size) = false := n2_ c3b0
 replace H := bi_ H; rcases H with ⟨⟨t375, t376, t377, t378⟩, A5, H⟩
 replace H := bi_ H; rcases H with ⟨⟨t379, t380, t383, t384, t385⟩, A6, H⟩
 replace H := bi_ H; rcases H with ⟨⟨t387, t388, t389, t390⟩, A7, H⟩
 replace H := bi_ H; rcases H with ⟨⟨t391, t392, t395, t396, t397⟩, A8, H⟩
 replace H := bi_ H; rcases H with ⟨t399, A9, H⟩
 replace H := ib_ H; rcases H with ⟨rfl, H⟩ | ⟨rfl, H⟩
 rotate_left
 ·obtain rfl := Option.some.inj H
  go_enter Try.func11, Try.ntmps11
  go_wp2_with (first | ((with_reducible refine gate_dst (N := 2) rfl ?_); refine be_ 2 #[.int .i64 a0_0, .int .i64 a0_1, .int .i64 a0_2, .int .i64 a0_3] 29 ?_; intro gb374 hg w204 hbox hb; have BK374 := am_ (hbox); have GW374 := am_ (gw_ hg bl_); have GE374 := GW374; replace HB := hs_ w hb; clear hb hbox hg; obtain ⟨hcz205_0, hcz205_1, hcz205_2, hcz205_3, hfz205_0, hfz205_1, hfz205_2, hfz205_3⟩ := cellsF4 BK374.out) | ((with_reducible refine gate_callee (f := 19) rfl ?_); refine gl_ 14 Try.func19 #[.agg #[.int .i64 a0_0, .int .i64 a0_1, .int .i64 a0_2, .int .i64 a0_3]] ?_ rfl rfl rfl rfl; (with_reducible refine (F19.calls a0_0 a0_1 a0_2 a0_3 t375 t376 t377 t378 _ A5.out).mono ?_); rintro e w206 ⟨rfl, hb⟩; refine ⟨_, rfl, ?_⟩; replace BK374 := bb_ BK374 hb; replace HB := hs_ w hb; (try clear hb)) | ((with_reducible refine gate_callee (f := 40) rfl ?_); refine gl_ 16 Try.func40 #[.agg #[.int .i64 t375, .int .i64 t376, .int .i64 t377, .int .i64 t378], .string a1] ?_ rfl rfl rfl rfl; (with_reducible refine (F40.calls k t375 t376 t377 t378 a1 t379 t380 t383 t384 t385 _ A6.out).mono ?_); rintro e w207 ⟨v381, rfl, ho0, hb⟩; refine ⟨_, rfl, ?_⟩; have HO382 := am_ (Kd.S_lower ho0 (below_size bl_)); replace BK374 := bb_ BK374 hb; replace HB := hs_ w hb; (try clear hb); (try clear ho0)) | ((with_reducible refine gate_dst (N := 5) rfl ?_); refine be_ 5 #[.string (⟨#[]⟩ : ByteArray), .slice none 0 0, .int .i64 0, .int .i64 0, .int .i64 0] 66 ?_; intro gb386 hg w208 hbox hb; replace HO382 := am_ (Kd.S_below au4_0 hb); have BK386 := am_ (hbox); have GW386 := am_ (gw_ hg bl_); have GE386 := GW386; replace HB := hs_ w hb; have NB374_386 := am_ (gn_ hg (blkl_ BK374)); have NB386_374 := am_ (gm_ hg (blkl_ BK374)); replace BK374 := bb_ BK374 hb; clear hb hbox hg; have hnb209 := NB386_374.out; have hnc209 := NB374_386.out; obtain ⟨hcz210_0, hcz210_1, hcz210_2, hcz210_3, hcz210_4, hfz210_0, hfz210_1, hfz210_2, hfz210_3, hfz210_4⟩ := cellsF5 BK386.out; obtain ⟨Ao211, co211, eo211⟩ := Kd.S_slice HO382.out; subst eo211; obtain ⟨hcz212_0, hcz212_1, hcz212_2, hcz212_3, hfz212_0, hfz212_1, hfz212_2, hfz212_3⟩ := cellsF4 BK374.out) | ((with_reducible refine gate_callee (f := 19) rfl ?_); refine gl_ 18 Try.func19 #[.agg #[.int .i64 a0_0, .int .i64 a0_1, .int .i64 a0_2, .int .i64 a0_3]] ?_ rfl rfl rfl rfl; (with_reducible refine (F19.calls a0_0 a0_1 a0_2 a0_3 t387 t388 t389 t390 _ A7.out).mono ?_); rintro e w213 ⟨rfl, hb⟩; refine ⟨_, rfl, ?_⟩; replace HO382 := am_ (Kd.S_below (by (with_reducible repeat (first | apply Kd.S_alloc | apply Kd.S_drewN | apply Kd.S_drew)); exact (Kd.S_mono (Kd.S_far (p := ⟨gb386, 4, none⟩) (Kd.S_far (p := ⟨gb386, 3, none⟩) (Kd.S_far (p := ⟨gb386, 2, none⟩) (Kd.S_far (p := ⟨gb386, 1, none⟩) (Kd.S_far (p := ⟨gb386, 0, none⟩) (Kd.S_types HO382.out BK386.out (by decide)) (fun _ hk => hk.2) (.string t379)) (fun _ hk => hk.2) (.slice Ao211 t380.length co211)) (fun _ hk => hk.2) (.int .i64 t383)) (fun _ hk => hk.2) (.int .i64 t384)) (fun _ hk => hk.2) (.int .i64 t385)) (fun _ h_ => h_.1))) hb); replace BK374 := am_ (blk_below (g := gb374) (o := .cells #[.int .i64 a0_0, .int .i64 a0_1, .int .i64 a0_2, .int .i64 a0_3] 29 (0, 0)) (bf_ BK374) hb); replace BK386 := am_ (blk_below (g := gb386) (o := .cells #[.string t379, .slice Ao211 t380.length co211, .int .i64 t383, .int .i64 t384, .int .i64 t385] 66 (0, 0)) (bq_ BK386) hb); replace HB := hs_ w hb; (try clear hb); (try clear hb2); (try clear hk); (try clear hi)) | ((with_reducible refine gate_callee (f := 41) rfl ?_); refine gl_ 20 Try.func41 #[.agg #[.int .i64 t387, .int .i64 t388, .int .i64 t389, .int .i64 t390], .string a1] ?_ rfl rfl rfl rfl; (with_reducible refine (F41.calls k t387 t388 t389 t390 a1 t391 t392 t395 t396 t397 _ A8.out).mono ?_); rintro e w214 ⟨v393, rfl, ho0, hb⟩; refine ⟨_, rfl, ?_⟩; have HO394 := am_ (Kd.S_lower (Kd.S_new' ho0 (Kd.S_lt au4_0)) (below_size bl_)); replace HO382 := am_ (Kd.S_elder' au4_0 (Kd.S_base ho0) hb); replace BK374 := bb_ BK374 hb; replace BK386 := bb_ BK386 hb; replace HB := hs_ w hb; (try clear hb); (try clear hb2); (try clear hk); (try clear hi); (try clear ho0)) | ((with_reducible refine gate_dst (N := 6) rfl ?_); refine be_ 6 #[.string (⟨#[]⟩ : ByteArray), .slice none 0 0, .int .i64 0, .int .i64 0, .int .i64 0] 66 ?_; intro gb398 hg w215 hbox hb; replace HO382 := am_ (Kd.S_below au4_0 hb); replace HO394 := am_ (Kd.S_below au4_1 hb); have BK398 := am_ (hbox); have GW398 := am_ (gw_ hg bl_); have GE398 := GW398; replace HB := hs_ w hb; have NB374_398 := am_ (gn_ hg (blkl_ BK374)); have NB398_374 := am_ (gm_ hg (blkl_ BK374)); replace BK374 := bb_ BK374 hb; have NB386_398 := am_ (gn_ hg (blkl_ BK386)); have NB398_386 := am_ (gm_ hg (blkl_ BK386)); replace BK386 := bb_ BK386 hb; clear hb hbox hg; have hnb216 := NB398_374.out; have hnc216 := NB374_398.out; have hnb217 := NB398_386.out; have hnc217 := NB386_398.out; obtain ⟨hcz218_0, hcz218_1, hcz218_2, hcz218_3, hcz218_4, hfz218_0, hfz218_1, hfz218_2, hfz218_3, hfz218_4⟩ := cellsF5 BK398.out; obtain ⟨Ao219, co219, eo219⟩ := Kd.S_slice HO394.out; subst eo219; obtain ⟨hcz220_0, hcz220_1, hcz220_2, hcz220_3, hcz220_4, hfz220_0, hfz220_1, hfz220_2, hfz220_3, hfz220_4⟩ := cellsF5 BK386.out) | ((with_reducible refine gate_callee (f := 42) rfl ?_); refine gl_ 23 Try.func42 #[.agg #[.string t391, .slice Ao219 t392.length co219, .int .i64 t395, .int .i64 t396, .int .i64 t397], .agg #[.string t379, .slice Ao211 t380.length co211, .int .i64 t383, .int .i64 t384, .int .i64 t385]] ?_ rfl rfl rfl rfl; (with_reducible refine (F42.calls k t391 _ _ t392 t395 t396 t397 t379 _ _ t380 t383 t384 t385 false _ ?s1 ?s2 ?s3 ?s4 A9.out).mono ?_); (case s1 => refine (Kd.S_reads' (e := 102) (base := w.heap.size) (ok := fun k_ => (True ∧ some k_ ≠ (.slice Ao211 t380.length co211 : Value).ownBlock)) (n := t392.length) (c := co219) ?_).2.2; exact au4_23); (case s2 => exact au4_40); (case s3 => refine (Kd.S_reads' (e := 102) (base := w.heap.size) (ok := fun k_ => (True ∧ some k_ ≠ (.slice Ao219 t392.length co219 : Value).ownBlock)) (n := t380.length) (c := co211) ?_).2.2; exact au4_24); (case s4 => exact au4_33); rintro e w221 ⟨rfl, hb⟩; refine ⟨_, rfl, ?_⟩; replace HO382 := am_ (Kd.S_below au4_24 hb); replace HO394 := am_ (Kd.S_below au4_23 hb); replace BK374 := am_ (blk_below (g := gb374) (o := .cells #[.int .i64 a0_0, .int .i64 a0_1, .int .i64 a0_2, .int .i64 a0_3] 29 (0, 0)) (bf_ BK374) hb); replace BK386 := am_ (blk_below (g := gb386) (o := .cells #[.string t379, .slice Ao211 t380.length co211, .int .i64 t383, .int .i64 t384, .int .i64 t385] 66 (0, 0)) (bf_ BK386) hb); replace BK398 := am_ (blk_below (g := gb398) (o := .cells #[.string t391, .slice Ao219 t392.length co219, .int .i64 t395, .int .i64 t396, .int .i64 t397] 66 (0, 0)) (bq_ BK398) hb); replace HB := hs_ w hb; (try clear hb); (try clear hb2); (try clear hk); (try clear hi)))
  go_ret
  exact ⟨au4_2, bl_⟩

 replace H := bi_ H; rcases H with ⟨⟨t400, t401⟩, A11, H⟩
 replace H := bi_ H; rcases H with ⟨t402, A12, H⟩
 replace H := it_ H; rcases H with ⟨c13b0, H⟩ | ⟨c13b0, H⟩
 ·obtain rfl := Option.some.inj H
  go_enter Try.func11, Try.ntmps11
  go_wp2_with (first | ((with_reducible refine gate_dst (N := 2) rfl ?_); refine be_ 2 #[.int .i64 a0_0, .int .i64 a0_1, .int .i64 a0_2, .int .i64 a0_3] 29 ?_; intro gb374 hg w14 hbox hb; have BK374 := am_ (hbox); have GW374 := am_ (gw_ hg bl_); have GE374 := GW374; replace HB := hs_ w hb; clear hb hbox hg; obtain ⟨hcz15_0, hcz15_1, hcz15_2, hcz15_3, hfz15_0, hfz15_1, hfz15_2, hfz15_3⟩ := cellsF4 BK374.out) | ((with_reducible refine gate_callee (f := 19) rfl ?_); refine gl_ 14 Try.func19 #[.agg #[.int .i64 a0_0, .int .i64 a0_1, .int .i64 a0_2, .int .i64 a0_3]] ?_ rfl rfl rfl rfl; (with_reducible refine (F19.calls a0_0 a0_1 a0_2 a0_3 t375 t376 t377 t378 _ A5.out).mono ?_); rintro e w16 ⟨rfl, hb⟩; refine ⟨_, rfl, ?_⟩; replace BK374 := bb_ BK374 hb; replace HB := hs_ w hb; (try clear hb)) | ((with_reducible refine gate_callee (f := 40) rfl ?_); refine gl_ 16 Try.func40 #[.agg #[.int .i64 t375, .int .i64 t376, .int .i64 t377, .int .i64 t378], .string a1] ?_ rfl rfl rfl rfl; (with_reducible refine (F40.calls k t375 t376 t377 t378 a1 t379 t380 t383 t384 t385 _ A6.out).mono ?_); rintro e w17 ⟨v381, rfl, ho0, hb⟩; refine ⟨_, rfl, ?_⟩; have HO382 := am_ (Kd.S_lower ho0 (below_size bl_)); replace BK374 := bb_ BK374 hb; replace HB := hs_ w hb; (try clear hb); (try clear ho0)) | ((with_reducible refine gate_dst (N := 5) rfl ?_); refine be_ 5 #[.string (⟨#[]⟩ : ByteArray), .slice none 0 0, .int .i64 0, .int .i64 0, .int .i64 0] 66 ?_; intro gb386 hg w18 hbox hb; replace HO382 := am_ (Kd.S_below au4_0 hb); have BK386 := am_ (hbox); have GW386 := am_ (gw_ hg bl_); have GE386 := GW386; replace HB := hs_ w hb; have NB374_386 := am_ (gn_ hg (blkl_ BK374)); have NB386_374 := am_ (gm_ hg (blkl_ BK374)); replace BK374 := bb_ BK374 hb; clear hb hbox hg; have hnb19 := NB386_374.out; have hnc19 := NB374_386.out; obtain ⟨hcz20_0, hcz20_1, hcz20_2, hcz20_3, hcz20_4, hfz20_0, hfz20_1, hfz20_2, hfz20_3, hfz20_4⟩ := cellsF5 BK386.out; obtain ⟨Ao21, co21, eo21⟩ := Kd.S_slice HO382.out; subst eo21; obtain ⟨hcz22_0, hcz22_1, hcz22_2, hcz22_3, hfz22_0, hfz22_1, hfz22_2, hfz22_3⟩ := cellsF4 BK374.out) | ((with_reducible refine gate_callee (f := 19) rfl ?_); refine gl_ 18 Try.func19 #[.agg #[.int .i64 a0_0, .int .i64 a0_1, .int .i64 a0_2, .int .i64 a0_3]] ?_ rfl rfl rfl rfl; (with_reducible refine (F19.calls a0_0 a0_1 a0_2 a0_3 t387 t388 t389 t390 _ A7.out).mono ?_); rintro e w23 ⟨rfl, hb⟩; refine ⟨_, rfl, ?_⟩; replace HO382 := am_ (Kd.S_below (by (with_reducible repeat (first | apply Kd.S_alloc | apply Kd.S_drewN | apply Kd.S_drew)); exact (Kd.S_mono (Kd.S_far (p := ⟨gb386, 4, none⟩) (Kd.S_far (p := ⟨gb386, 3, none⟩) (Kd.S_far (p := ⟨gb386, 2, none⟩) (Kd.S_far (p := ⟨gb386, 1, none⟩) (Kd.S_far (p := ⟨gb386, 0, none⟩) (Kd.S_types HO382.out BK386.out (by decide)) (fun _ hk => hk.2) (.string t379)) (fun _ hk => hk.2) (.slice Ao21 t380.length co21)) (fun _ hk => hk.2) (.int .i64 t383)) (fun _ hk => hk.2) (.int .i64 t384)) (fun _ hk => hk.2) (.int .i64 t385)) (fun _ h_ => h_.1))) hb); replace BK374 := am_ (blk_below (g := gb374) (o := .cells #[.int .i64 a0_0, .int .i64 a0_1, .int .i64 a0_2, .int .i64 a0_3] 29 (0, 0)) (bf_ BK374) hb); replace BK386 := am_ (blk_below (g := gb386) (o := .cells #[.string t379, .slice Ao21 t380.length co21, .int .i64 t383, .int .i64 t384, .int .i64 t385] 66 (0, 0)) (bq_ BK386) hb); replace HB := hs_ w hb; (try clear hb); (try clear hb2); (try clear hk); (try clear hi)) | ((with_reducible refine gate_callee (f := 41) rfl ?_); refine gl_ 20 Try.func41 #[.agg #[.int .i64 t387, .int .i64 t388, .int .i64 t389, .int .i64 t390], .string a1] ?_ rfl rfl rfl rfl; (with_reducible refine (F41.calls k t387 t388 t389 t390 a1 t391 t392 t395 t396 t397 _ A8.out).mono ?_); rintro e w24 ⟨v393, rfl, ho0, hb⟩; refine ⟨_, rfl, ?_⟩; obtain ⟨b9_, n1_, n2_⟩ := ap_ au4_0 ho0 hb (below_size bl_); have HO394 := am_ n1_; replace HO382 := am_ n2_; clear n1_ n2_; replace BK374 := bb_ BK374 hb; replace BK386 := bb_ BK386 hb; replace HB := hs_ w hb; (try clear hb); (try clear hb2); (try clear hk); (try clear hi); (try clear ho0)) | ((with_reducible refine gate_dst (N := 6) rfl ?_); refine be_ 6 #[.string (⟨#[]⟩ : ByteArray), .slice none 0 0, .int .i64 0, .int .i64 0, .int .i64 0] 66 ?_; intro gb398 hg w25 hbox hb; replace HO382 := am_ (Kd.S_below au4_0 hb); replace HO394 := am_ (Kd.S_below au4_1 hb); have BK398 := am_ (hbox); have GW398 := am_ (gw_ hg bl_); have GE398 := GW398; replace HB := hs_ w hb; have NB374_398 := am_ (gn_ hg (blkl_ BK374)); have NB398_374 := am_ (gm_ hg (blkl_ BK374)); replace BK374 := bb_ BK374 hb; have NB386_398 := am_ (gn_ hg (blkl_ BK386)); have NB398_386 := am_ (gm_ hg (blkl_ BK386)); replace BK386 := bb_ BK386 hb; clear hb hbox hg; have hnb26 := NB398_374.out; have hnc26 := NB374_398.out; have hnb27 := NB398_386.out; have hnc27 := NB386_398.out; obtain ⟨hcz28_0, hcz28_1, hcz28_2, hcz28_3, hcz28_4, hfz28_0, hfz28_1, hfz28_2, hfz28_3, hfz28_4⟩ := cellsF5 BK398.out; obtain ⟨Ao29, co29, eo29⟩ := Kd.S_slice HO394.out; subst eo29; obtain ⟨hcz30_0, hcz30_1, hcz30_2, hcz30_3, hcz30_4, hfz30_0, hfz30_1, hfz30_2, hfz30_3, hfz30_4⟩ := cellsF5 BK386.out) | ((with_reducible refine gate_callee (f := 42) rfl ?_); refine gl_ 23 Try.func42 #[.agg #[.string t391, .slice Ao29 t392.length co29, .int .i64 t395, .int .i64 t396, .int .i64 t397], .agg #[.string t379, .slice Ao21 t380.length co21, .int .i64 t383, .int .i64 t384, .int .i64 t385]] ?_ rfl rfl rfl rfl; (with_reducible refine (F42.calls k t391 _ _ t392 t395 t396 t397 t379 _ _ t380 t383 t384 t385 true _ ?s1 ?s2 ?s3 ?s4 A9.out).mono ?_); (case s1 => refine (Kd.S_reads' (e := 102) (base := w.heap.size) (ok := fun k_ => (b9_ ≤ k_ ∧ some k_ ≠ (.slice Ao21 t380.length co21 : Value).ownBlock)) (n := t392.length) (c := co29) ?_).2.2; exact au4_25); (case s2 => exact au4_40); (case s3 => refine (Kd.S_reads' (e := 102) (base := w.heap.size) (ok := fun k_ => (k_ < b9_ ∧ some k_ ≠ (.slice Ao29 t392.length co29 : Value).ownBlock)) (n := t380.length) (c := co21) ?_).2.2; exact au4_26); (case s4 => exact au4_33); rintro e w31 ⟨rfl, hb⟩; refine ⟨_, rfl, ?_⟩; replace HO382 := am_ (Kd.S_below au4_26 hb); replace HO394 := am_ (Kd.S_below au4_25 hb); replace BK374 := am_ (blk_below (g := gb374) (o := .cells #[.int .i64 a0_0, .int .i64 a0_1, .int .i64 a0_2, .int .i64 a0_3] 29 (0, 0)) (bf_ BK374) hb); replace BK386 := am_ (blk_below (g := gb386) (o := .cells #[.string t379, .slice Ao21 t380.length co21, .int .i64 t383, .int .i64 t384, .int .i64 t385] 66 (0, 0)) (bf_ BK386) hb); replace BK398 := am_ (blk_below (g := gb398) (o := .cells #[.string t391, .slice Ao29 t392.length co29, .int .i64 t395, .int .i64 t396, .int .i64 t397] 66 (0, 0)) (bq_ BK398) hb); replace HB := hs_ w hb; (try clear hb); (try clear hb2); (try clear hk); (try clear hi); obtain ⟨hcz32_0, hcz32_1, hcz32_2, hcz32_3, hcz32_4, hfz32_0, hfz32_1, hfz32_2, hfz32_3, hfz32_4⟩ := cellsF5 BK398.out) | ((with_reducible refine gate_callee (f := 43) rfl ?_); obtain ⟨P9_, HP9_, HQ9_⟩ := pp_ HO394; refine gl_ 27 Try.func43 #[.agg #[.string t391, .slice Ao29 t392.length co29, .int .i64 t395, .int .i64 t396, .int .i64 t397], .int .i64 1] ?_ rfl rfl rfl rfl; (with_reducible refine (F43.calls k t391 P9_ (.slice Ao29 t392.length co29) t392 t395 t396 t397 1 t400 t401 w _ ?s1 ?s2 A11.out).mono ?_); (case s1 => exact au4_6); (case s2 => (with_reducible repeat (first | apply Kd.S_alloc | apply Kd.S_drewN | apply Kd.S_drew)); exact HP9_.out); rintro e w33 ⟨rfl, hy0, hb, hkp⟩; refine ⟨_, rfl, ?_⟩; replace BK374 := am_ (blk_kept (bk_ BK374) hkp (fun hs_ => nt_ (HQ9_.out _ hs_).2 BK374.out (by decide))); replace HO382 := am_ (Kd.S_mono (ok' := fun k_ => some k_ ≠ (.slice Ao29 t392.length co29 : Value).ownBlock) (Kd.S_keptB (HO382.out) hkp (fun k_ hk_ hs_ => Nat.not_le.2 hk_.1 (HQ9_.out _ hs_).1.1)) (fun k_ hk_ => hk_.1.2)); replace BK386 := am_ (blk_kept (bk_ BK386) hkp (fun hs_ => nt_ (HQ9_.out _ hs_).2 BK386.out (by decide))); replace BK398 := am_ (blk_kept (bk_ BK398) hkp (fun hs_ => nt_ (HQ9_.out _ hs_).2 BK398.out (by decide))); replace HO394 := am_ hy0; replace HB := am_ (hb); (try clear hb); (try clear hkp); (try clear hy0); obtain ⟨hcz34_0, hcz34_1, hcz34_2, hcz34_3, hcz34_4, hfz34_0, hfz34_1, hfz34_2, hfz34_3, hfz34_4⟩ := cellsF5 BK398.out) | ((with_reducible refine gate_callee (f := 44) rfl ?_); refine goesL_ (some 30) rfl rfl Try.func44 (by kernel_rfl) rfl #[.agg #[.string t391, .slice Ao29 t401.length co29, .int .i64 t395, .int .i64 t396, .int .i64 t397], .int .i64 1] rfl au4_3 ?_; (with_reducible refine (F44.calls k t391 _ _ t401 t395 t396 t397 1 t402 _ ?s1 ?s2 A12.out).mono ?_); (case s1 => exact au4_5); (case s2 => exact au4_8); rintro e w35 ⟨rfl, hb⟩; refine ⟨_, rfl, ?_⟩; replace HO382 := am_ (Kd.S_below au4_0 hb); replace HO394 := am_ (Kd.S_below au4_1 hb); replace BK374 := bb_ BK374 hb; replace BK386 := bb_ BK386 hb; replace BK398 := bb_ BK398 hb; replace HB := hs_ w hb; (try clear hb); (try clear hb2); (try clear hk); (try clear hi)))
  go_ret
  exact ⟨au4_2, bl_⟩
 by_cases c36 : t402 = t400
 rotate_left
 ·rw [if_neg c36] at H
  have c36b0 : (t402 == t400) = false := beq_eq_false_iff_ne.mpr c36
  have c36b1 : (t402 != t400) = true := bne_iff_ne.mpr c36
  obtain rfl := Option.some.inj H
  go_enter Try.func11, Try.ntmps11
  go_wp2_with (first | ((with_reducible refine gate_dst (N := 2) rfl ?_); refine be_ 2 #[.int .i64 a0_0, .int .i64 a0_1, .int .i64 a0_2, .int .i64 a0_3] 29 ?_; intro gb374 hg w182 hbox hb; have BK374 := am_ (hbox); have GW374 := am_ (gw_ hg bl_); have GE374 := GW374; replace HB := hs_ w hb; clear hb hbox hg; obtain ⟨hcz183_0, hcz183_1, hcz183_2, hcz183_3, hfz183_0, hfz183_1, hfz183_2, hfz183_3⟩ := cellsF4 BK374.out) | ((with_reducible refine gate_callee (f := 19) rfl ?_); refine gl_ 14 Try.func19 #[.agg #[.int .i64 a0_0, .int .i64 a0_1, .int .i64 a0_2, .int .i64 a0_3]] ?_ rfl rfl rfl rfl; (with_reducible refine (F19.calls a0_0 a0_1 a0_2 a0_3 t375 t376 t377 t378 _ A5.out).mono ?_); rintro e w184 ⟨rfl, hb⟩; refine ⟨_, rfl, ?_⟩; replace BK374 := bb_ BK374 hb; replace HB := hs_ w hb; (try clear hb)) | ((with_reducible refine gate_callee (f := 40) rfl ?_); refine gl_ 16 Try.func40 #[.agg #[.int .i64 t375, .int .i64 t376, .int .i64 t377, .int .i64 t378], .string a1] ?_ rfl rfl rfl rfl; (with_reducible refine (F40.calls k t375 t376 t377 t378 a1 t379 t380 t383 t384 t385 _ A6.out).mono ?_); rintro e w185 ⟨v381, rfl, ho0, hb⟩; refine ⟨_, rfl, ?_⟩; have HO382 := am_ (Kd.S_lower ho0 (below_size bl_)); replace BK374 := bb_ BK374 hb; replace HB := hs_ w hb; (try clear hb); (try clear ho0)) | ((with_reducible refine gate_dst (N := 5) rfl ?_); refine be_ 5 #[.string (⟨#[]⟩ : ByteArray), .slice none 0 0, .int .i64 0, .int .i64 0, .int .i64 0] 66 ?_; intro gb386 hg w186 hbox hb; replace HO382 := am_ (Kd.S_below au4_0 hb); have BK386 := am_ (hbox); have GW386 := am_ (gw_ hg bl_); have GE386 := GW386; replace HB := hs_ w hb; have NB374_386 := am_ (gn_ hg (blkl_ BK374)); have NB386_374 := am_ (gm_ hg (blkl_ BK374)); replace BK374 := bb_ BK374 hb; clear hb hbox hg; have hnb187 := NB386_374.out; have hnc187 := NB374_386.out; obtain ⟨hcz188_0, hcz188_1, hcz188_2, hcz188_3, hcz188_4, hfz188_0, hfz188_1, hfz188_2, hfz188_3, hfz188_4⟩ := cellsF5 BK386.out; obtain ⟨Ao189, co189, eo189⟩ := Kd.S_slice HO382.out; subst eo189; obtain ⟨hcz190_0, hcz190_1, hcz190_2, hcz190_3, hfz190_0, hfz190_1, hfz190_2, hfz190_3⟩ := cellsF4 BK374.out) | ((with_reducible refine gate_callee (f := 19) rfl ?_); refine gl_ 18 Try.func19 #[.agg #[.int .i64 a0_0, .int .i64 a0_1, .int .i64 a0_2, .int .i64 a0_3]] ?_ rfl rfl rfl rfl; (with_reducible refine (F19.calls a0_0 a0_1 a0_2 a0_3 t387 t388 t389 t390 _ A7.out).mono ?_); rintro e w191 ⟨rfl, hb⟩; refine ⟨_, rfl, ?_⟩; replace HO382 := am_ (Kd.S_below (by (with_reducible repeat (first | apply Kd.S_alloc | apply Kd.S_drewN | apply Kd.S_drew)); exact (Kd.S_mono (Kd.S_far (p := ⟨gb386, 4, none⟩) (Kd.S_far (p := ⟨gb386, 3, none⟩) (Kd.S_far (p := ⟨gb386, 2, none⟩) (Kd.S_far (p := ⟨gb386, 1, none⟩) (Kd.S_far (p := ⟨gb386, 0, none⟩) (Kd.S_types HO382.out BK386.out (by decide)) (fun _ hk => hk.2) (.string t379)) (fun _ hk => hk.2) (.slice Ao189 t380.length co189)) (fun _ hk => hk.2) (.int .i64 t383)) (fun _ hk => hk.2) (.int .i64 t384)) (fun _ hk => hk.2) (.int .i64 t385)) (fun _ h_ => h_.1))) hb); replace BK374 := am_ (blk_below (g := gb374) (o := .cells #[.int .i64 a0_0, .int .i64 a0_1, .int .i64 a0_2, .int .i64 a0_3] 29 (0, 0)) (bf_ BK374) hb); replace BK386 := am_ (blk_below (g := gb386) (o := .cells #[.string t379, .slice Ao189 t380.length co189, .int .i64 t383, .int .i64 t384, .int .i64 t385] 66 (0, 0)) (bq_ BK386) hb); replace HB := hs_ w hb; (try clear hb); (try clear hb2); (try clear hk); (try clear hi)) | ((with_reducible refine gate_callee (f := 41) rfl ?_); refine gl_ 20 Try.func41 #[.agg #[.int .i64 t387, .int .i64 t388, .int .i64 t389, .int .i64 t390], .string a1] ?_ rfl rfl rfl rfl; (with_reducible refine (F41.calls k t387 t388 t389 t390 a1 t391 t392 t395 t396 t397 _ A8.out).mono ?_); rintro e w192 ⟨v393, rfl, ho0, hb⟩; refine ⟨_, rfl, ?_⟩; obtain ⟨b9_, n1_, n2_⟩ := ap_ au4_0 ho0 hb (below_size bl_); have HO394 := am_ n1_; replace HO382 := am_ n2_; clear n1_ n2_; replace BK374 := bb_ BK374 hb; replace BK386 := bb_ BK386 hb; replace HB := hs_ w hb; (try clear hb); (try clear hb2); (try clear hk); (try clear hi); (try clear ho0)) | ((with_reducible refine gate_dst (N := 6) rfl ?_); refine be_ 6 #[.string (⟨#[]⟩ : ByteArray), .slice none 0 0, .int .i64 0, .int .i64 0, .int .i64 0] 66 ?_; intro gb398 hg w193 hbox hb; replace HO382 := am_ (Kd.S_below au4_0 hb); replace HO394 := am_ (Kd.S_below au4_1 hb); have BK398 := am_ (hbox); have GW398 := am_ (gw_ hg bl_); have GE398 := GW398; replace HB := hs_ w hb; have NB374_398 := am_ (gn_ hg (blkl_ BK374)); have NB398_374 := am_ (gm_ hg (blkl_ BK374)); replace BK374 := bb_ BK374 hb; have NB386_398 := am_ (gn_ hg (blkl_ BK386)); have NB398_386 := am_ (gm_ hg (blkl_ BK386)); replace BK386 := bb_ BK386 hb; clear hb hbox hg; have hnb194 := NB398_374.out; have hnc194 := NB374_398.out; have hnb195 := NB398_386.out; have hnc195 := NB386_398.out; obtain ⟨hcz196_0, hcz196_1, hcz196_2, hcz196_3, hcz196_4, hfz196_0, hfz196_1, hfz196_2, hfz196_3, hfz196_4⟩ := cellsF5 BK398.out; obtain ⟨Ao197, co197, eo197⟩ := Kd.S_slice HO394.out; subst eo197; obtain ⟨hcz198_0, hcz198_1, hcz198_2, hcz198_3, hcz198_4, hfz198_0, hfz198_1, hfz198_2, hfz198_3, hfz198_4⟩ := cellsF5 BK386.out) | ((with_reducible refine gate_callee (f := 42) rfl ?_); refine gl_ 23 Try.func42 #[.agg #[.string t391, .slice Ao197 t392.length co197, .int .i64 t395, .int .i64 t396, .int .i64 t397], .agg #[.string t379, .slice Ao189 t380.length co189, .int .i64 t383, .int .i64 t384, .int .i64 t385]] ?_ rfl rfl rfl rfl; (with_reducible refine (F42.calls k t391 _ _ t392 t395 t396 t397 t379 _ _ t380 t383 t384 t385 true _ ?s1 ?s2 ?s3 ?s4 A9.out).mono ?_); (case s1 => refine (Kd.S_reads' (e := 102) (base := w.heap.size) (ok := fun k_ => (b9_ ≤ k_ ∧ some k_ ≠ (.slice Ao189 t380.length co189 : Value).ownBlock)) (n := t392.length) (c := co197) ?_).2.2; exact au4_21); (case s2 => exact au4_40); (case s3 => refine (Kd.S_reads' (e := 102) (base := w.heap.size) (ok := fun k_ => (k_ < b9_ ∧ some k_ ≠ (.slice Ao197 t392.length co197 : Value).ownBlock)) (n := t380.length) (c := co189) ?_).2.2; exact au4_22); (case s4 => exact au4_33); rintro e w199 ⟨rfl, hb⟩; refine ⟨_, rfl, ?_⟩; replace HO382 := am_ (Kd.S_below au4_22 hb); replace HO394 := am_ (Kd.S_below au4_21 hb); replace BK374 := am_ (blk_below (g := gb374) (o := .cells #[.int .i64 a0_0, .int .i64 a0_1, .int .i64 a0_2, .int .i64 a0_3] 29 (0, 0)) (bf_ BK374) hb); replace BK386 := am_ (blk_below (g := gb386) (o := .cells #[.string t379, .slice Ao189 t380.length co189, .int .i64 t383, .int .i64 t384, .int .i64 t385] 66 (0, 0)) (bf_ BK386) hb); replace BK398 := am_ (blk_below (g := gb398) (o := .cells #[.string t391, .slice Ao197 t392.length co197, .int .i64 t395, .int .i64 t396, .int .i64 t397] 66 (0, 0)) (bq_ BK398) hb); replace HB := hs_ w hb; (try clear hb); (try clear hb2); (try clear hk); (try clear hi); obtain ⟨hcz200_0, hcz200_1, hcz200_2, hcz200_3, hcz200_4, hfz200_0, hfz200_1, hfz200_2, hfz200_3, hfz200_4⟩ := cellsF5 BK398.out) | ((with_reducible refine gate_callee (f := 43) rfl ?_); obtain ⟨P9_, HP9_, HQ9_⟩ := pp_ HO394; refine gl_ 27 Try.func43 #[.agg #[.string t391, .slice Ao197 t392.length co197, .int .i64 t395, .int .i64 t396, .int .i64 t397], .int .i64 1] ?_ rfl rfl rfl rfl; (with_reducible refine (F43.calls k t391 P9_ (.slice Ao197 t392.length co197) t392 t395 t396 t397 1 t400 t401 w _ ?s1 ?s2 A11.out).mono ?_); (case s1 => exact au4_6); (case s2 => (with_reducible repeat (first | apply Kd.S_alloc | apply Kd.S_drewN | apply Kd.S_drew)); exact HP9_.out); rintro e w201 ⟨rfl, hy0, hb, hkp⟩; refine ⟨_, rfl, ?_⟩; replace BK374 := am_ (blk_kept (bk_ BK374) hkp (fun hs_ => nt_ (HQ9_.out _ hs_).2 BK374.out (by decide))); replace HO382 := am_ (Kd.S_mono (ok' := fun k_ => some k_ ≠ (.slice Ao197 t392.length co197 : Value).ownBlock) (Kd.S_keptB (HO382.out) hkp (fun k_ hk_ hs_ => Nat.not_le.2 hk_.1 (HQ9_.out _ hs_).1.1)) (fun k_ hk_ => hk_.1.2)); replace BK386 := am_ (blk_kept (bk_ BK386) hkp (fun hs_ => nt_ (HQ9_.out _ hs_).2 BK386.out (by decide))); replace BK398 := am_ (blk_kept (bk_ BK398) hkp (fun hs_ => nt_ (HQ9_.out _ hs_).2 BK398.out (by decide))); replace HO394 := am_ hy0; replace HB := am_ (hb); (try clear hb); (try clear hkp); (try clear hy0); obtain ⟨hcz202_0, hcz202_1, hcz202_2, hcz202_3, hcz202_4, hfz202_0, hfz202_1, hfz202_2, hfz202_3, hfz202_4⟩ := cellsF5 BK398.out) | ((with_reducible refine gate_callee (f := 44) rfl ?_); refine goesL_ (some 30) rfl rfl Try.func44 (by kernel_rfl) rfl #[.agg #[.string t391, .slice Ao197 t401.length co197, .int .i64 t395, .int .i64 t396, .int .i64 t397], .int .i64 1] rfl au4_3 ?_; (with_reducible refine (F44.calls k t391 _ _ t401 t395 t396 t397 1 t402 _ ?s1 ?s2 A12.out).mono ?_); (case s1 => exact au4_5); (case s2 => exact au4_8); rintro e w203 ⟨rfl, hb⟩; refine ⟨_, rfl, ?_⟩; replace HO382 := am_ (Kd.S_below au4_0 hb); replace HO394 := am_ (Kd.S_below au4_1 hb); replace BK374 := bb_ BK374 hb; replace BK386 := bb_ BK386 hb; replace BK398 := bb_ BK398 hb; replace HB := hs_ w hb; (try clear hb); (try clear hb2); (try clear hk); (try clear hi)))
  go_ret
  exact ⟨au4_2, bl_⟩
 rw [if_pos c36] at H
 have c36b0 : (t402 == t400) = true := beq_iff_eq.mpr c36
 have c36b1 : (t402 != t400) = false := bne_eq_false_iff_eq.mpr c36
 clear c36
 replace H := bi_ H; rcases H with ⟨⟨t403, t404, t405, t406⟩, A37, H⟩
 replace H := bi_ H; rcases H with ⟨⟨t407, t408, t411, t412, t413⟩, A38, H⟩
 replace H := bi_ H; rcases H with ⟨t415, A39, H⟩
 replace H := ib_ H; rcases H with ⟨rfl, H⟩ | ⟨rfl, H⟩
 rotate_left
 ·obtain rfl := Option.some.inj H
  go_enter Try.func11, Try.ntmps11
  go_wp2_with (first | ((with_reducible refine gate_dst (N := 2) rfl ?_); refine be_ 2 #[.int .i64 a0_0, .int .i64 a0_1, .int .i64 a0_2, .int .i64 a0_3] 29 ?_; intro gb374 hg w149 hbox hb; have BK374 := am_ (hbox); have GW374 := am_ (gw_ hg bl_); have GE374 := GW374; replace HB := hs_ w hb; clear hb hbox hg; obtain ⟨hcz150_0, hcz150_1, hcz150_2, hcz150_3, hfz150_0, hfz150_1, hfz150_2, hfz150_3⟩ := cellsF4 BK374.out) | ((with_reducible refine gate_callee (f := 19) rfl ?_); refine gl_ 14 Try.func19 #[.agg #[.int .i64 a0_0, .int .i64 a0_1, .int .i64 a0_2, .int .i64 a0_3]] ?_ rfl rfl rfl rfl; (with_reducible refine (F19.calls a0_0 a0_1 a0_2 a0_3 t375 t376 t377 t378 _ A5.out).mono ?_); rintro e w151 ⟨rfl, hb⟩; refine ⟨_, rfl, ?_⟩; replace BK374 := bb_ BK374 hb; replace HB := hs_ w hb; (try clear hb)) | ((with_reducible refine gate_callee (f := 40) rfl ?_); refine gl_ 16 Try.func40 #[.agg #[.int .i64 t375, .int .i64 t376, .int .i64 t377, .int .i64 t378], .string a1] ?_ rfl rfl rfl rfl; (with_reducible refine (F40.calls k t375 t376 t377 t378 a1 t379 t380 t383 t384 t385 _ A6.out).mono ?_); rintro e w152 ⟨v381, rfl, ho0, hb⟩; refine ⟨_, rfl, ?_⟩; have HO382 := am_ (Kd.S_lower ho0 (below_size bl_)); replace BK374 := bb_ BK374 hb; replace HB := hs_ w hb; (try clear hb); (try clear ho0)) | ((with_reducible refine gate_dst (N := 5) rfl ?_); refine be_ 5 #[.string (⟨#[]⟩ : ByteArray), .slice none 0 0, .int .i64 0, .int .i64 0, .int .i64 0] 66 ?_; intro gb386 hg w153 hbox hb; replace HO382 := am_ (Kd.S_below au4_0 hb); have BK386 := am_ (hbox); have GW386 := am_ (gw_ hg bl_); have GE386 := GW386; replace HB := hs_ w hb; have NB374_386 := am_ (gn_ hg (blkl_ BK374)); have NB386_374 := am_ (gm_ hg (blkl_ BK374)); replace BK374 := bb_ BK374 hb; clear hb hbox hg; have hnb154 := NB386_374.out; have hnc154 := NB374_386.out; obtain ⟨hcz155_0, hcz155_1, hcz155_2, hcz155_3, hcz155_4, hfz155_0, hfz155_1, hfz155_2, hfz155_3, hfz155_4⟩ := cellsF5 BK386.out; obtain ⟨Ao156, co156, eo156⟩ := Kd.S_slice HO382.out; subst eo156; obtain ⟨hcz157_0, hcz157_1, hcz157_2, hcz157_3, hfz157_0, hfz157_1, hfz157_2, hfz157_3⟩ := cellsF4 BK374.out) | ((with_reducible refine gate_callee (f := 19) rfl ?_); refine gl_ 18 Try.func19 #[.agg #[.int .i64 a0_0, .int .i64 a0_1, .int .i64 a0_2, .int .i64 a0_3]] ?_ rfl rfl rfl rfl; (with_reducible refine (F19.calls a0_0 a0_1 a0_2 a0_3 t387 t388 t389 t390 _ A7.out).mono ?_); rintro e w158 ⟨rfl, hb⟩; refine ⟨_, rfl, ?_⟩; replace HO382 := am_ (Kd.S_below (by (with_reducible repeat (first | apply Kd.S_alloc | apply Kd.S_drewN | apply Kd.S_drew)); exact (Kd.S_mono (Kd.S_far (p := ⟨gb386, 4, none⟩) (Kd.S_far (p := ⟨gb386, 3, none⟩) (Kd.S_far (p := ⟨gb386, 2, none⟩) (Kd.S_far (p := ⟨gb386, 1, none⟩) (Kd.S_far (p := ⟨gb386, 0, none⟩) (Kd.S_types HO382.out BK386.out (by decide)) (fun _ hk => hk.2) (.string t379)) (fun _ hk => hk.2) (.slice Ao156 t380.length co156)) (fun _ hk => hk.2) (.int .i64 t383)) (fun _ hk => hk.2) (.int .i64 t384)) (fun _ hk => hk.2) (.int .i64 t385)) (fun _ h_ => h_.1))) hb); replace BK374 := am_ (blk_below (g := gb374) (o := .cells #[.int .i64 a0_0, .int .i64 a0_1, .int .i64 a0_2, .int .i64 a0_3] 29 (0, 0)) (bf_ BK374) hb); replace BK386 := am_ (blk_below (g := gb386) (o := .cells #[.string t379, .slice Ao156 t380.length co156, .int .i64 t383, .int .i64 t384, .int .i64 t385] 66 (0, 0)) (bq_ BK386) hb); replace HB := hs_ w hb; (try clear hb); (try clear hb2); (try clear hk); (try clear hi)) | ((with_reducible refine gate_callee (f := 41) rfl ?_); refine gl_ 20 Try.func41 #[.agg #[.int .i64 t387, .int .i64 t388, .int .i64 t389, .int .i64 t390], .string a1] ?_ rfl rfl rfl rfl; (with_reducible refine (F41.calls k t387 t388 t389 t390 a1 t391 t392 t395 t396 t397 _ A8.out).mono ?_); rintro e w159 ⟨v393, rfl, ho0, hb⟩; refine ⟨_, rfl, ?_⟩; obtain ⟨b9_, n1_, n2_⟩ := ap_ au4_0 ho0 hb (below_size bl_); have HO394 := am_ n1_; replace HO382 := am_ n2_; clear n1_ n2_; replace BK374 := bb_ BK374 hb; replace BK386 := bb_ BK386 hb; replace HB := hs_ w hb; (try clear hb); (try clear hb2); (try clear hk); (try clear hi); (try clear ho0)) | ((with_reducible refine gate_dst (N := 6) rfl ?_); refine be_ 6 #[.string (⟨#[]⟩ : ByteArray), .slice none 0 0, .int .i64 0, .int .i64 0, .int .i64 0] 66 ?_; intro gb398 hg w160 hbox hb; replace HO382 := am_ (Kd.S_below au4_0 hb); replace HO394 := am_ (Kd.S_below au4_1 hb); have BK398 := am_ (hbox); have GW398 := am_ (gw_ hg bl_); have GE398 := GW398; replace HB := hs_ w hb; have NB374_398 := am_ (gn_ hg (blkl_ BK374)); have NB398_374 := am_ (gm_ hg (blkl_ BK374)); replace BK374 := bb_ BK374 hb; have NB386_398 := am_ (gn_ hg (blkl_ BK386)); have NB398_386 := am_ (gm_ hg (blkl_ BK386)); replace BK386 := bb_ BK386 hb; clear hb hbox hg; have hnb161 := NB398_374.out; have hnc161 := NB374_398.out; have hnb162 := NB398_386.out; have hnc162 := NB386_398.out; obtain ⟨hcz163_0, hcz163_1, hcz163_2, hcz163_3, hcz163_4, hfz163_0, hfz163_1, hfz163_2, hfz163_3, hfz163_4⟩ := cellsF5 BK398.out; obtain ⟨Ao164, co164, eo164⟩ := Kd.S_slice HO394.out; subst eo164; obtain ⟨hcz165_0, hcz165_1, hcz165_2, hcz165_3, hcz165_4, hfz165_0, hfz165_1, hfz165_2, hfz165_3, hfz165_4⟩ := cellsF5 BK386.out) | ((with_reducible refine gate_callee (f := 42) rfl ?_); refine gl_ 23 Try.func42 #[.agg #[.string t391, .slice Ao164 t392.length co164, .int .i64 t395, .int .i64 t396, .int .i64 t397], .agg #[.string t379, .slice Ao156 t380.length co156, .int .i64 t383, .int .i64 t384, .int .i64 t385]] ?_ rfl rfl rfl rfl; (with_reducible refine (F42.calls k t391 _ _ t392 t395 t396 t397 t379 _ _ t380 t383 t384 t385 true _ ?s1 ?s2 ?s3 ?s4 A9.out).mono ?_); (case s1 => refine (Kd.S_reads' (e := 102) (base := w.heap.size) (ok := fun k_ => (b9_ ≤ k_ ∧ some k_ ≠ (.slice Ao156 t380.length co156 : Value).ownBlock)) (n := t392.length) (c := co164) ?_).2.2; exact au4_17); (case s2 => exact au4_40); (case s3 => refine (Kd.S_reads' (e := 102) (base := w.heap.size) (ok := fun k_ => (k_ < b9_ ∧ some k_ ≠ (.slice Ao164 t392.length co164 : Value).ownBlock)) (n := t380.length) (c := co156) ?_).2.2; exact au4_18); (case s4 => exact au4_33); rintro e w166 ⟨rfl, hb⟩; refine ⟨_, rfl, ?_⟩; replace HO382 := am_ (Kd.S_below au4_18 hb); replace HO394 := am_ (Kd.S_below au4_17 hb); replace BK374 := am_ (blk_below (g := gb374) (o := .cells #[.int .i64 a0_0, .int .i64 a0_1, .int .i64 a0_2, .int .i64 a0_3] 29 (0, 0)) (bf_ BK374) hb); replace BK386 := am_ (blk_below (g := gb386) (o := .cells #[.string t379, .slice Ao156 t380.length co156, .int .i64 t383, .int .i64 t384, .int .i64 t385] 66 (0, 0)) (bf_ BK386) hb); replace BK398 := am_ (blk_below (g := gb398) (o := .cells #[.string t391, .slice Ao164 t392.length co164, .int .i64 t395, .int .i64 t396, .int .i64 t397] 66 (0, 0)) (bq_ BK398) hb); replace HB := hs_ w hb; (try clear hb); (try clear hb2); (try clear hk); (try clear hi); obtain ⟨hcz167_0, hcz167_1, hcz167_2, hcz167_3, hcz167_4, hfz167_0, hfz167_1, hfz167_2, hfz167_3, hfz167_4⟩ := cellsF5 BK398.out) | ((with_reducible refine gate_callee (f := 43) rfl ?_); obtain ⟨P9_, HP9_, HQ9_⟩ := pp_ HO394; refine gl_ 27 Try.func43 #[.agg #[.string t391, .slice Ao164 t392.length co164, .int .i64 t395, .int .i64 t396, .int .i64 t397], .int .i64 1] ?_ rfl rfl rfl rfl; (with_reducible refine (F43.calls k t391 P9_ (.slice Ao164 t392.length co164) t392 t395 t396 t397 1 t400 t401 w _ ?s1 ?s2 A11.out).mono ?_); (case s1 => exact au4_6); (case s2 => (with_reducible repeat (first | apply Kd.S_alloc | apply Kd.S_drewN | apply Kd.S_drew)); exact HP9_.out); rintro e w168 ⟨rfl, hy0, hb, hkp⟩; refine ⟨_, rfl, ?_⟩; replace BK374 := am_ (blk_kept (bk_ BK374) hkp (fun hs_ => nt_ (HQ9_.out _ hs_).2 BK374.out (by decide))); replace HO382 := am_ (Kd.S_mono (ok' := fun k_ => some k_ ≠ (.slice Ao164 t392.length co164 : Value).ownBlock) (Kd.S_keptB (HO382.out) hkp (fun k_ hk_ hs_ => Nat.not_le.2 hk_.1 (HQ9_.out _ hs_).1.1)) (fun k_ hk_ => hk_.1.2)); replace BK386 := am_ (blk_kept (bk_ BK386) hkp (fun hs_ => nt_ (HQ9_.out _ hs_).2 BK386.out (by decide))); replace BK398 := am_ (blk_kept (bk_ BK398) hkp (fun hs_ => nt_ (HQ9_.out _ hs_).2 BK398.out (by decide))); replace HO394 := am_ hy0; replace HB := am_ (hb); (try clear hb); (try clear hkp); (try clear hy0); obtain ⟨hcz169_0, hcz169_1, hcz169_2, hcz169_3, hcz169_4, hfz169_0, hfz169_1, hfz169_2, hfz169_3, hfz169_4⟩ := cellsF5 BK398.out) | ((with_reducible refine gate_callee (f := 44) rfl ?_); refine goesL_ (some 30) rfl rfl Try.func44 (by kernel_rfl) rfl #[.agg #[.string t391, .slice Ao164 t401.length co164, .int .i64 t395, .int .i64 t396, .int .i64 t397], .int .i64 1] rfl au4_3 ?_; (with_reducible refine (F44.calls k t391 _ _ t401 t395 t396 t397 1 t402 _ ?s1 ?s2 A12.out).mono ?_); (case s1 => exact au4_5); (case s2 => exact au4_8); rintro e w170 ⟨rfl, hb⟩; refine ⟨_, rfl, ?_⟩; replace HO382 := am_ (Kd.S_below au4_0 hb); replace HO394 := am_ (Kd.S_below au4_1 hb); replace BK374 := bb_ BK374 hb; replace BK386 := bb_ BK386 hb; replace BK398 := bb_ BK398 hb; replace HB := hs_ w hb; (try clear hb); (try clear hb2); (try clear hk); (try clear hi); obtain ⟨hcz171_0, hcz171_1, hcz171_2, hcz171_3, hfz171_0, hfz171_1, hfz171_2, hfz171_3⟩ := cellsF4 BK374.out) | ((with_reducible refine gate_callee (f := 19) rfl ?_); refine gl_ 37 Try.func19 #[.agg #[.int .i64 a0_0, .int .i64 a0_1, .int .i64 a0_2, .int .i64 a0_3]] ?_ rfl rfl rfl rfl; (with_reducible refine (F19.calls a0_0 a0_1 a0_2 a0_3 t403 t404 t405 t406 _ A37.out).mono ?_); rintro e w172 ⟨rfl, hb⟩; refine ⟨_, rfl, ?_⟩; replace HO382 := am_ (Kd.S_below au4_0 hb); replace HO394 := am_ (Kd.S_below au4_1 hb); replace BK374 := bb_ BK374 hb; replace BK386 := bb_ BK386 hb; replace BK398 := bb_ BK398 hb; replace HB := hs_ w hb; (try clear hb); (try clear hb2); (try clear hk); (try clear hi)) | ((with_reducible refine gate_callee (f := 41) rfl ?_); refine gl_ 39 Try.func41 #[.agg #[.int .i64 t403, .int .i64 t404, .int .i64 t405, .int .i64 t406], .string a1] ?_ rfl rfl rfl rfl; (with_reducible refine (F41.calls k t403 t404 t405 t406 a1 t407 t408 t411 t412 t413 _ A38.out).mono ?_); rintro e w173 ⟨v409, rfl, ho0, hb⟩; refine ⟨_, rfl, ?_⟩; have HO410 := am_ (Kd.S_lower (Kd.S_new' (Kd.S_new' ho0 (Kd.S_lt au4_0)) (Kd.S_lt au4_1)) (below_size bl_)); replace HO382 := am_ (Kd.S_elder' au4_0 (Kd.S_base ho0) hb); replace HO394 := am_ (Kd.S_elder' au4_1 (Kd.S_base ho0) hb); replace BK374 := bb_ BK374 hb; replace BK386 := bb_ BK386 hb; replace BK398 := bb_ BK398 hb; replace HB := hs_ w hb; (try clear hb); (try clear hb2); (try clear hk); (try clear hi); (try clear ho0)) | ((with_reducible refine gate_dst (N := 9) rfl ?_); refine be_ 9 #[.string (⟨#[]⟩ : ByteArray), .slice none 0 0, .int .i64 0, .int .i64 0, .int .i64 0] 66 ?_; intro gb414 hg w174 hbox hb; replace HO382 := am_ (Kd.S_below au4_0 hb); replace HO394 := am_ (Kd.S_below au4_1 hb); replace HO410 := am_ (Kd.S_below au4_10 hb); have BK414 := am_ (hbox); have GW414 := am_ (gw_ hg bl_); have GE414 := GW414; replace HB := hs_ w hb; have NB374_414 := am_ (gn_ hg (blkl_ BK374)); have NB414_374 := am_ (gm_ hg (blkl_ BK374)); replace BK374 := bb_ BK374 hb; have NB386_414 := am_ (gn_ hg (blkl_ BK386)); have NB414_386 := am_ (gm_ hg (blkl_ BK386)); replace BK386 := bb_ BK386 hb; have NB398_414 := am_ (gn_ hg (blkl_ BK398)); have NB414_398 := am_ (gm_ hg (blkl_ BK398)); replace BK398 := bb_ BK398 hb; clear hb hbox hg; have hnb175 := NB414_374.out; have hnc175 := NB374_414.out; have hnb176 := NB414_386.out; have hnc176 := NB386_414.out; have hnb177 := NB414_398.out; have hnc177 := NB398_414.out; obtain ⟨hcz178_0, hcz178_1, hcz178_2, hcz178_3, hcz178_4, hfz178_0, hfz178_1, hfz178_2, hfz178_3, hfz178_4⟩ := cellsF5 BK414.out; obtain ⟨Ao179, co179, eo179⟩ := Kd.S_slice HO410.out; subst eo179; obtain ⟨hcz180_0, hcz180_1, hcz180_2, hcz180_3, hcz180_4, hfz180_0, hfz180_1, hfz180_2, hfz180_3, hfz180_4⟩ := cellsF5 BK386.out) | ((with_reducible refine gate_callee (f := 42) rfl ?_); refine gl_ 42 Try.func42 #[.agg #[.string t407, .slice Ao179 t408.length co179, .int .i64 t411, .int .i64 t412, .int .i64 t413], .agg #[.string t379, .slice Ao156 t380.length co156, .int .i64 t383, .int .i64 t384, .int .i64 t385]] ?_ rfl rfl rfl rfl; (with_reducible refine (F42.calls k t407 _ _ t408 t411 t412 t413 t379 _ _ t380 t383 t384 t385 false _ ?s1 ?s2 ?s3 ?s4 A39.out).mono ?_); (case s1 => refine (Kd.S_reads' (e := 102) (base := w.heap.size) (ok := fun k_ => ((True ∧ some k_ ≠ (.slice Ao156 t380.length co156 : Value).ownBlock) ∧ some k_ ≠ (.slice Ao164 t392.length co164 : Value).ownBlock)) (n := t408.length) (c := co179) ?_).2.2; exact au4_19); (case s2 => exact au4_48); (case s3 => refine (Kd.S_reads' (e := 102) (base := w.heap.size) (ok := fun k_ => (some k_ ≠ (.slice Ao164 t392.length co164 : Value).ownBlock ∧ some k_ ≠ (.slice Ao179 t408.length co179 : Value).ownBlock)) (n := t380.length) (c := co156) ?_).2.2; exact au4_20); (case s4 => exact au4_33); rintro e w181 ⟨rfl, hb⟩; refine ⟨_, rfl, ?_⟩; replace HO382 := am_ (Kd.S_below au4_20 hb); replace HO394 := am_ (Kd.S_below (by (with_reducible repeat (first | apply Kd.S_alloc | apply Kd.S_drewN | apply Kd.S_drew)); exact (Kd.S_mono (Kd.S_far (p := ⟨gb414, 4, none⟩) (Kd.S_far (p := ⟨gb414, 3, none⟩) (Kd.S_far (p := ⟨gb414, 2, none⟩) (Kd.S_far (p := ⟨gb414, 1, none⟩) (Kd.S_far (p := ⟨gb414, 0, none⟩) (Kd.S_types HO394.out BK414.out (by decide)) (fun _ hk => hk.2) (.string t407)) (fun _ hk => hk.2) (.slice Ao179 t408.length co179)) (fun _ hk => hk.2) (.int .i64 t411)) (fun _ hk => hk.2) (.int .i64 t412)) (fun _ hk => hk.2) (.int .i64 t413)) (fun _ h_ => h_.1))) hb); replace HO410 := am_ (Kd.S_below au4_19 hb); replace BK374 := am_ (blk_below (g := gb374) (o := .cells #[.int .i64 a0_0, .int .i64 a0_1, .int .i64 a0_2, .int .i64 a0_3] 29 (0, 0)) (bf_ BK374) hb); replace BK386 := am_ (blk_below (g := gb386) (o := .cells #[.string t379, .slice Ao156 t380.length co156, .int .i64 t383, .int .i64 t384, .int .i64 t385] 66 (0, 0)) (bf_ BK386) hb); replace BK398 := am_ (blk_below (g := gb398) (o := .cells #[.string t391, .slice Ao164 t392.length co164, .int .i64 t395, .int .i64 t396, .int .i64 t397] 66 (0, 0)) (bf_ BK398) hb); replace BK414 := am_ (blk_below (g := gb414) (o := .cells #[.string t407, .slice Ao179 t408.length co179, .int .i64 t411, .int .i64 t412, .int .i64 t413] 66 (0, 0)) (bq_ BK414) hb); replace HB := hs_ w hb; (try clear hb); (try clear hb2); (try clear hk); (try clear hi)))
  go_ret
  exact ⟨au4_2, bl_⟩
 replace H := bi_ H; rcases H with ⟨t416, A41, H⟩
 replace H := it_ H; rcases H with ⟨c42b0, H⟩ | ⟨c42b0, H⟩
 ·obtain rfl := Option.some.inj H
  go_enter Try.func11, Try.ntmps11
  go_wp2_with (first | ((with_reducible refine gate_dst (N := 2) rfl ?_); refine be_ 2 #[.int .i64 a0_0, .int .i64 a0_1, .int .i64 a0_2, .int .i64 a0_3] 29 ?_; intro gb374 hg w43 hbox hb; have BK374 := am_ (hbox); have GW374 := am_ (gw_ hg bl_); have GE374 := GW374; replace HB := hs_ w hb; clear hb hbox hg; obtain ⟨hcz44_0, hcz44_1, hcz44_2, hcz44_3, hfz44_0, hfz44_1, hfz44_2, hfz44_3⟩ := cellsF4 BK374.out) | ((with_reducible refine gate_callee (f := 19) rfl ?_); refine gl_ 14 Try.func19 #[.agg #[.int .i64 a0_0, .int .i64 a0_1, .int .i64 a0_2, .int .i64 a0_3]] ?_ rfl rfl rfl rfl; (with_reducible refine (F19.calls a0_0 a0_1 a0_2 a0_3 t375 t376 t377 t378 _ A5.out).mono ?_); rintro e w45 ⟨rfl, hb⟩; refine ⟨_, rfl, ?_⟩; replace BK374 := bb_ BK374 hb; replace HB := hs_ w hb; (try clear hb)) | ((with_reducible refine gate_callee (f := 40) rfl ?_); refine gl_ 16 Try.func40 #[.agg #[.int .i64 t375, .int .i64 t376, .int .i64 t377, .int .i64 t378], .string a1] ?_ rfl rfl rfl rfl; (with_reducible refine (F40.calls k t375 t376 t377 t378 a1 t379 t380 t383 t384 t385 _ A6.out).mono ?_); rintro e w46 ⟨v381, rfl, ho0, hb⟩; refine ⟨_, rfl, ?_⟩; have HO382 := am_ (Kd.S_lower ho0 (below_size bl_)); replace BK374 := bb_ BK374 hb; replace HB := hs_ w hb; (try clear hb); (try clear ho0)) | ((with_reducible refine gate_dst (N := 5) rfl ?_); refine be_ 5 #[.string (⟨#[]⟩ : ByteArray), .slice none 0 0, .int .i64 0, .int .i64 0, .int .i64 0] 66 ?_; intro gb386 hg w47 hbox hb; replace HO382 := am_ (Kd.S_below au4_0 hb); have BK386 := am_ (hbox); have GW386 := am_ (gw_ hg bl_); have GE386 := GW386; replace HB := hs_ w hb; have NB374_386 := am_ (gn_ hg (blkl_ BK374)); have NB386_374 := am_ (gm_ hg (blkl_ BK374)); replace BK374 := bb_ BK374 hb; clear hb hbox hg; have hnb48 := NB386_374.out; have hnc48 := NB374_386.out; obtain ⟨hcz49_0, hcz49_1, hcz49_2, hcz49_3, hcz49_4, hfz49_0, hfz49_1, hfz49_2, hfz49_3, hfz49_4⟩ := cellsF5 BK386.out; obtain ⟨Ao50, co50, eo50⟩ := Kd.S_slice HO382.out; subst eo50; obtain ⟨hcz51_0, hcz51_1, hcz51_2, hcz51_3, hfz51_0, hfz51_1, hfz51_2, hfz51_3⟩ := cellsF4 BK374.out) | ((with_reducible refine gate_callee (f := 19) rfl ?_); refine gl_ 18 Try.func19 #[.agg #[.int .i64 a0_0, .int .i64 a0_1, .int .i64 a0_2, .int .i64 a0_3]] ?_ rfl rfl rfl rfl; (with_reducible refine (F19.calls a0_0 a0_1 a0_2 a0_3 t387 t388 t389 t390 _ A7.out).mono ?_); rintro e w52 ⟨rfl, hb⟩; refine ⟨_, rfl, ?_⟩; replace HO382 := am_ (Kd.S_below (by (with_reducible repeat (first | apply Kd.S_alloc | apply Kd.S_drewN | apply Kd.S_drew)); exact (Kd.S_mono (Kd.S_far (p := ⟨gb386, 4, none⟩) (Kd.S_far (p := ⟨gb386, 3, none⟩) (Kd.S_far (p := ⟨gb386, 2, none⟩) (Kd.S_far (p := ⟨gb386, 1, none⟩) (Kd.S_far (p := ⟨gb386, 0, none⟩) (Kd.S_types HO382.out BK386.out (by decide)) (fun _ hk => hk.2) (.string t379)) (fun _ hk => hk.2) (.slice Ao50 t380.length co50)) (fun _ hk => hk.2) (.int .i64 t383)) (fun _ hk => hk.2) (.int .i64 t384)) (fun _ hk => hk.2) (.int .i64 t385)) (fun _ h_ => h_.1))) hb); replace BK374 := am_ (blk_below (g := gb374) (o := .cells #[.int .i64 a0_0, .int .i64 a0_1, .int .i64 a0_2, .int .i64 a0_3] 29 (0, 0)) (bf_ BK374) hb); replace BK386 := am_ (blk_below (g := gb386) (o := .cells #[.string t379, .slice Ao50 t380.length co50, .int .i64 t383, .int .i64 t384, .int .i64 t385] 66 (0, 0)) (bq_ BK386) hb); replace HB := hs_ w hb; (try clear hb); (try clear hb2); (try clear hk); (try clear hi)) | ((with_reducible refine gate_callee (f := 41) rfl ?_); refine gl_ 20 Try.func41 #[.agg #[.int .i64 t387, .int .i64 t388, .int .i64 t389, .int .i64 t390], .string a1] ?_ rfl rfl rfl rfl; (with_reducible refine (F41.calls k t387 t388 t389 t390 a1 t391 t392 t395 t396 t397 _ A8.out).mono ?_); rintro e w53 ⟨v393, rfl, ho0, hb⟩; refine ⟨_, rfl, ?_⟩; obtain ⟨b9_, n1_, n2_⟩ := ap_ au4_0 ho0 hb (below_size bl_); have HO394 := am_ n1_; replace HO382 := am_ n2_; clear n1_ n2_; replace BK374 := bb_ BK374 hb; replace BK386 := bb_ BK386 hb; replace HB := hs_ w hb; (try clear hb); (try clear hb2); (try clear hk); (try clear hi); (try clear ho0)) | ((with_reducible refine gate_dst (N := 6) rfl ?_); refine be_ 6 #[.string (⟨#[]⟩ : ByteArray), .slice none 0 0, .int .i64 0, .int .i64 0, .int .i64 0] 66 ?_; intro gb398 hg w54 hbox hb; replace HO382 := am_ (Kd.S_below au4_0 hb); replace HO394 := am_ (Kd.S_below au4_1 hb); have BK398 := am_ (hbox); have GW398 := am_ (gw_ hg bl_); have GE398 := GW398; replace HB := hs_ w hb; have NB374_398 := am_ (gn_ hg (blkl_ BK374)); have NB398_374 := am_ (gm_ hg (blkl_ BK374)); replace BK374 := bb_ BK374 hb; have NB386_398 := am_ (gn_ hg (blkl_ BK386)); have NB398_386 := am_ (gm_ hg (blkl_ BK386)); replace BK386 := bb_ BK386 hb; clear hb hbox hg; have hnb55 := NB398_374.out; have hnc55 := NB374_398.out; have hnb56 := NB398_386.out; have hnc56 := NB386_398.out; obtain ⟨hcz57_0, hcz57_1, hcz57_2, hcz57_3, hcz57_4, hfz57_0, hfz57_1, hfz57_2, hfz57_3, hfz57_4⟩ := cellsF5 BK398.out; obtain ⟨Ao58, co58, eo58⟩ := Kd.S_slice HO394.out; subst eo58; obtain ⟨hcz59_0, hcz59_1, hcz59_2, hcz59_3, hcz59_4, hfz59_0, hfz59_1, hfz59_2, hfz59_3, hfz59_4⟩ := cellsF5 BK386.out) | ((with_reducible refine gate_callee (f := 42) rfl ?_); refine gl_ 23 Try.func42 #[.agg #[.string t391, .slice Ao58 t392.length co58, .int .i64 t395, .int .i64 t396, .int .i64 t397], .agg #[.string t379, .slice Ao50 t380.length co50, .int .i64 t383, .int .i64 t384, .int .i64 t385]] ?_ rfl rfl rfl rfl; (with_reducible refine (F42.calls k t391 _ _ t392 t395 t396 t397 t379 _ _ t380 t383 t384 t385 true _ ?s1 ?s2 ?s3 ?s4 A9.out).mono ?_); (case s1 => refine (Kd.S_reads' (e := 102) (base := w.heap.size) (ok := fun k_ => (b9_ ≤ k_ ∧ some k_ ≠ (.slice Ao50 t380.length co50 : Value).ownBlock)) (n := t392.length) (c := co58) ?_).2.2; exact au4_27); (case s2 => exact au4_40); (case s3 => refine (Kd.S_reads' (e := 102) (base := w.heap.size) (ok := fun k_ => (k_ < b9_ ∧ some k_ ≠ (.slice Ao58 t392.length co58 : Value).ownBlock)) (n := t380.length) (c := co50) ?_).2.2; exact au4_28); (case s4 => exact au4_33); rintro e w60 ⟨rfl, hb⟩; refine ⟨_, rfl, ?_⟩; replace HO382 := am_ (Kd.S_below au4_28 hb); replace HO394 := am_ (Kd.S_below au4_27 hb); replace BK374 := am_ (blk_below (g := gb374) (o := .cells #[.int .i64 a0_0, .int .i64 a0_1, .int .i64 a0_2, .int .i64 a0_3] 29 (0, 0)) (bf_ BK374) hb); replace BK386 := am_ (blk_below (g := gb386) (o := .cells #[.string t379, .slice Ao50 t380.length co50, .int .i64 t383, .int .i64 t384, .int .i64 t385] 66 (0, 0)) (bf_ BK386) hb); replace BK398 := am_ (blk_below (g := gb398) (o := .cells #[.string t391, .slice Ao58 t392.length co58, .int .i64 t395, .int .i64 t396, .int .i64 t397] 66 (0, 0)) (bq_ BK398) hb); replace HB := hs_ w hb; (try clear hb); (try clear hb2); (try clear hk); (try clear hi); obtain ⟨hcz61_0, hcz61_1, hcz61_2, hcz61_3, hcz61_4, hfz61_0, hfz61_1, hfz61_2, hfz61_3, hfz61_4⟩ := cellsF5 BK398.out) | ((with_reducible refine gate_callee (f := 43) rfl ?_); obtain ⟨P9_, HP9_, HQ9_⟩ := pp_ HO394; refine gl_ 27 Try.func43 #[.agg #[.string t391, .slice Ao58 t392.length co58, .int .i64 t395, .int .i64 t396, .int .i64 t397], .int .i64 1] ?_ rfl rfl rfl rfl; (with_reducible refine (F43.calls k t391 P9_ (.slice Ao58 t392.length co58) t392 t395 t396 t397 1 t400 t401 w _ ?s1 ?s2 A11.out).mono ?_); (case s1 => exact au4_6); (case s2 => (with_reducible repeat (first | apply Kd.S_alloc | apply Kd.S_drewN | apply Kd.S_drew)); exact HP9_.out); rintro e w62 ⟨rfl, hy0, hb, hkp⟩; refine ⟨_, rfl, ?_⟩; replace BK374 := am_ (blk_kept (bk_ BK374) hkp (fun hs_ => nt_ (HQ9_.out _ hs_).2 BK374.out (by decide))); replace HO382 := am_ (Kd.S_mono (ok' := fun k_ => some k_ ≠ (.slice Ao58 t392.length co58 : Value).ownBlock) (Kd.S_keptB (HO382.out) hkp (fun k_ hk_ hs_ => Nat.not_le.2 hk_.1 (HQ9_.out _ hs_).1.1)) (fun k_ hk_ => hk_.1.2)); replace BK386 := am_ (blk_kept (bk_ BK386) hkp (fun hs_ => nt_ (HQ9_.out _ hs_).2 BK386.out (by decide))); replace BK398 := am_ (blk_kept (bk_ BK398) hkp (fun hs_ => nt_ (HQ9_.out _ hs_).2 BK398.out (by decide))); replace HO394 := am_ hy0; replace HB := am_ (hb); (try clear hb); (try clear hkp); (try clear hy0); obtain ⟨hcz63_0, hcz63_1, hcz63_2, hcz63_3, hcz63_4, hfz63_0, hfz63_1, hfz63_2, hfz63_3, hfz63_4⟩ := cellsF5 BK398.out) | ((with_reducible refine gate_callee (f := 44) rfl ?_); refine goesL_ (some 30) rfl rfl Try.func44 (by kernel_rfl) rfl #[.agg #[.string t391, .slice Ao58 t401.length co58, .int .i64 t395, .int .i64 t396, .int .i64 t397], .int .i64 1] rfl au4_3 ?_; (with_reducible refine (F44.calls k t391 _ _ t401 t395 t396 t397 1 t402 _ ?s1 ?s2 A12.out).mono ?_); (case s1 => exact au4_5); (case s2 => exact au4_8); rintro e w64 ⟨rfl, hb⟩; refine ⟨_, rfl, ?_⟩; replace HO382 := am_ (Kd.S_below au4_0 hb); replace HO394 := am_ (Kd.S_below au4_1 hb); replace BK374 := bb_ BK374 hb; replace BK386 := bb_ BK386 hb; replace BK398 := bb_ BK398 hb; replace HB := hs_ w hb; (try clear hb); (try clear hb2); (try clear hk); (try clear hi); obtain ⟨hcz65_0, hcz65_1, hcz65_2, hcz65_3, hfz65_0, hfz65_1, hfz65_2, hfz65_3⟩ := cellsF4 BK374.out) | ((with_reducible refine gate_callee (f := 19) rfl ?_); refine gl_ 37 Try.func19 #[.agg #[.int .i64 a0_0, .int .i64 a0_1, .int .i64 a0_2, .int .i64 a0_3]] ?_ rfl rfl rfl rfl; (with_reducible refine (F19.calls a0_0 a0_1 a0_2 a0_3 t403 t404 t405 t406 _ A37.out).mono ?_); rintro e w66 ⟨rfl, hb⟩; refine ⟨_, rfl, ?_⟩; replace HO382 := am_ (Kd.S_below au4_0 hb); replace HO394 := am_ (Kd.S_below au4_1 hb); replace BK374 := bb_ BK374 hb; replace BK386 := bb_ BK386 hb; replace BK398 := bb_ BK398 hb; replace HB := hs_ w hb; (try clear hb); (try clear hb2); (try clear hk); (try clear hi)) | ((with_reducible refine gate_callee (f := 41) rfl ?_); refine gl_ 39 Try.func41 #[.agg #[.int .i64 t403, .int .i64 t404, .int .i64 t405, .int .i64 t406], .string a1] ?_ rfl rfl rfl rfl; (with_reducible refine (F41.calls k t403 t404 t405 t406 a1 t407 t408 t411 t412 t413 _ A38.out).mono ?_); rintro e w67 ⟨v409, rfl, ho0, hb⟩; refine ⟨_, rfl, ?_⟩; have HO410 := am_ (Kd.S_lower (Kd.S_new' (Kd.S_new' ho0 (Kd.S_lt au4_0)) (Kd.S_lt au4_1)) (below_size bl_)); replace HO382 := am_ (Kd.S_elder' au4_0 (Kd.S_base ho0) hb); replace HO394 := am_ (Kd.S_elder' au4_1 (Kd.S_base ho0) hb); replace BK374 := bb_ BK374 hb; replace BK386 := bb_ BK386 hb; replace BK398 := bb_ BK398 hb; replace HB := hs_ w hb; (try clear hb); (try clear hb2); (try clear hk); (try clear hi); (try clear ho0)) | ((with_reducible refine gate_dst (N := 9) rfl ?_); refine be_ 9 #[.string (⟨#[]⟩ : ByteArray), .slice none 0 0, .int .i64 0, .int .i64 0, .int .i64 0] 66 ?_; intro gb414 hg w68 hbox hb; replace HO382 := am_ (Kd.S_below au4_0 hb); replace HO394 := am_ (Kd.S_below au4_1 hb); replace HO410 := am_ (Kd.S_below au4_10 hb); have BK414 := am_ (hbox); have GW414 := am_ (gw_ hg bl_); have GE414 := GW414; replace HB := hs_ w hb; have NB374_414 := am_ (gn_ hg (blkl_ BK374)); have NB414_374 := am_ (gm_ hg (blkl_ BK374)); replace BK374 := bb_ BK374 hb; have NB386_414 := am_ (gn_ hg (blkl_ BK386)); have NB414_386 := am_ (gm_ hg (blkl_ BK386)); replace BK386 := bb_ BK386 hb; have NB398_414 := am_ (gn_ hg (blkl_ BK398)); have NB414_398 := am_ (gm_ hg (blkl_ BK398)); replace BK398 := bb_ BK398 hb; clear hb hbox hg; have hnb69 := NB414_374.out; have hnc69 := NB374_414.out; have hnb70 := NB414_386.out; have hnc70 := NB386_414.out; have hnb71 := NB414_398.out; have hnc71 := NB398_414.out; obtain ⟨hcz72_0, hcz72_1, hcz72_2, hcz72_3, hcz72_4, hfz72_0, hfz72_1, hfz72_2, hfz72_3, hfz72_4⟩ := cellsF5 BK414.out; obtain ⟨Ao73, co73, eo73⟩ := Kd.S_slice HO410.out; subst eo73; obtain ⟨hcz74_0, hcz74_1, hcz74_2, hcz74_3, hcz74_4, hfz74_0, hfz74_1, hfz74_2, hfz74_3, hfz74_4⟩ := cellsF5 BK386.out) | ((with_reducible refine gate_callee (f := 42) rfl ?_); refine gl_ 42 Try.func42 #[.agg #[.string t407, .slice Ao73 t408.length co73, .int .i64 t411, .int .i64 t412, .int .i64 t413], .agg #[.string t379, .slice Ao50 t380.length co50, .int .i64 t383, .int .i64 t384, .int .i64 t385]] ?_ rfl rfl rfl rfl; (with_reducible refine (F42.calls k t407 _ _ t408 t411 t412 t413 t379 _ _ t380 t383 t384 t385 true _ ?s1 ?s2 ?s3 ?s4 A39.out).mono ?_); (case s1 => refine (Kd.S_reads' (e := 102) (base := w.heap.size) (ok := fun k_ => ((True ∧ some k_ ≠ (.slice Ao50 t380.length co50 : Value).ownBlock) ∧ some k_ ≠ (.slice Ao58 t392.length co58 : Value).ownBlock)) (n := t408.length) (c := co73) ?_).2.2; exact au4_29); (case s2 => exact au4_48); (case s3 => refine (Kd.S_reads' (e := 102) (base := w.heap.size) (ok := fun k_ => (some k_ ≠ (.slice Ao58 t392.length co58 : Value).ownBlock ∧ some k_ ≠ (.slice Ao73 t408.length co73 : Value).ownBlock)) (n := t380.length) (c := co50) ?_).2.2; exact au4_30); (case s4 => exact au4_33); rintro e w75 ⟨rfl, hb⟩; refine ⟨_, rfl, ?_⟩; replace HO382 := am_ (Kd.S_below au4_30 hb); replace HO394 := am_ (Kd.S_below (by (with_reducible repeat (first | apply Kd.S_alloc | apply Kd.S_drewN | apply Kd.S_drew)); exact (Kd.S_mono (Kd.S_far (p := ⟨gb414, 4, none⟩) (Kd.S_far (p := ⟨gb414, 3, none⟩) (Kd.S_far (p := ⟨gb414, 2, none⟩) (Kd.S_far (p := ⟨gb414, 1, none⟩) (Kd.S_far (p := ⟨gb414, 0, none⟩) (Kd.S_types HO394.out BK414.out (by decide)) (fun _ hk => hk.2) (.string t407)) (fun _ hk => hk.2) (.slice Ao73 t408.length co73)) (fun _ hk => hk.2) (.int .i64 t411)) (fun _ hk => hk.2) (.int .i64 t412)) (fun _ hk => hk.2) (.int .i64 t413)) (fun _ h_ => h_.1))) hb); replace HO410 := am_ (Kd.S_below au4_29 hb); replace BK374 := am_ (blk_below (g := gb374) (o := .cells #[.int .i64 a0_0, .int .i64 a0_1, .int .i64 a0_2, .int .i64 a0_3] 29 (0, 0)) (bf_ BK374) hb); replace BK386 := am_ (blk_below (g := gb386) (o := .cells #[.string t379, .slice Ao50 t380.length co50, .int .i64 t383, .int .i64 t384, .int .i64 t385] 66 (0, 0)) (bf_ BK386) hb); replace BK398 := am_ (blk_below (g := gb398) (o := .cells #[.string t391, .slice Ao58 t392.length co58, .int .i64 t395, .int .i64 t396, .int .i64 t397] 66 (0, 0)) (bf_ BK398) hb); replace BK414 := am_ (blk_below (g := gb414) (o := .cells #[.string t407, .slice Ao73 t408.length co73, .int .i64 t411, .int .i64 t412, .int .i64 t413] 66 (0, 0)) (bq_ BK414) hb); replace HB := hs_ w hb; (try clear hb); (try clear hb2); (try clear hk); (try clear hi); obtain ⟨hcz76_0, hcz76_1, hcz76_2, hcz76_3, hcz76_4, hfz76_0, hfz76_1, hfz76_2, hfz76_3, hfz76_4⟩ := cellsF5 BK398.out) | ((with_reducible refine gate_callee (f := 44) rfl ?_); refine goesL_ (some 46) rfl rfl Try.func44 (by kernel_rfl) rfl #[.agg #[.string t391, .slice Ao58 t401.length co58, .int .i64 t395, .int .i64 t396, .int .i64 t397], .int .i64 1] rfl au4_3 ?_; (with_reducible refine (F44.calls k t391 _ _ t401 t395 t396 t397 1 t416 _ ?s1 ?s2 A41.out).mono ?_); (case s1 => exact au4_5); (case s2 => exact au4_8); rintro e w77 ⟨rfl, hb⟩; refine ⟨_, rfl, ?_⟩; replace HO382 := am_ (Kd.S_below au4_0 hb); replace HO394 := am_ (Kd.S_below au4_1 hb); replace HO410 := am_ (Kd.S_below au4_10 hb); replace BK374 := bb_ BK374 hb; replace BK386 := bb_ BK386 hb; replace BK398 := bb_ BK398 hb; replace BK414 := bb_ BK414 hb; replace HB := hs_ w hb; (try clear hb); (try clear hb2); (try clear hk); (try clear hi)))
  go_ret
  exact ⟨au4_2, bl_⟩
 by_cases c78 : t416 = t400
 rotate_left
 ·rw [if_neg c78] at H
  have c78b0 : (t416 == t400) = false := beq_eq_false_iff_ne.mpr c78
  have c78b1 : (t416 != t400) = true := bne_iff_ne.mpr c78
  obtain rfl := Option.some.inj H
  go_enter Try.func11, Try.ntmps11
  go_wp2_with (first | ((with_reducible refine gate_dst (N := 2) rfl ?_); refine be_ 2 #[.int .i64 a0_0, .int .i64 a0_1, .int .i64 a0_2, .int .i64 a0_3] 29 ?_; intro gb374 hg w114 hbox hb; have BK374 := am_ (hbox); have GW374 := am_ (gw_ hg bl_); have GE374 := GW374; replace HB := hs_ w hb; clear hb hbox hg; obtain ⟨hcz115_0, hcz115_1, hcz115_2, hcz115_3, hfz115_0, hfz115_1, hfz115_2, hfz115_3⟩ := cellsF4 BK374.out) | ((with_reducible refine gate_callee (f := 19) rfl ?_); refine gl_ 14 Try.func19 #[.agg #[.int .i64 a0_0, .int .i64 a0_1, .int .i64 a0_2, .int .i64 a0_3]] ?_ rfl rfl rfl rfl; (with_reducible refine (F19.calls a0_0 a0_1 a0_2 a0_3 t375 t376 t377 t378 _ A5.out).mono ?_); rintro e w116 ⟨rfl, hb⟩; refine ⟨_, rfl, ?_⟩; replace BK374 := bb_ BK374 hb; replace HB := hs_ w hb; (try clear hb)) | ((with_reducible refine gate_callee (f := 40) rfl ?_); refine gl_ 16 Try.func40 #[.agg #[.int .i64 t375, .int .i64 t376, .int .i64 t377, .int .i64 t378], .string a1] ?_ rfl rfl rfl rfl; (with_reducible refine (F40.calls k t375 t376 t377 t378 a1 t379 t380 t383 t384 t385 _ A6.out).mono ?_); rintro e w117 ⟨v381, rfl, ho0, hb⟩; refine ⟨_, rfl, ?_⟩; have HO382 := am_ (Kd.S_lower ho0 (below_size bl_)); replace BK374 := bb_ BK374 hb; replace HB := hs_ w hb; (try clear hb); (try clear ho0)) | ((with_reducible refine gate_dst (N := 5) rfl ?_); refine be_ 5 #[.string (⟨#[]⟩ : ByteArray), .slice none 0 0, .int .i64 0, .int .i64 0, .int .i64 0] 66 ?_; intro gb386 hg w118 hbox hb; replace HO382 := am_ (Kd.S_below au4_0 hb); have BK386 := am_ (hbox); have GW386 := am_ (gw_ hg bl_); have GE386 := GW386; replace HB := hs_ w hb; have NB374_386 := am_ (gn_ hg (blkl_ BK374)); have NB386_374 := am_ (gm_ hg (blkl_ BK374)); replace BK374 := bb_ BK374 hb; clear hb hbox hg; have hnb119 := NB386_374.out; have hnc119 := NB374_386.out; obtain ⟨hcz120_0, hcz120_1, hcz120_2, hcz120_3, hcz120_4, hfz120_0, hfz120_1, hfz120_2, hfz120_3, hfz120_4⟩ := cellsF5 BK386.out; obtain ⟨Ao121, co121, eo121⟩ := Kd.S_slice HO382.out; subst eo121; obtain ⟨hcz122_0, hcz122_1, hcz122_2, hcz122_3, hfz122_0, hfz122_1, hfz122_2, hfz122_3⟩ := cellsF4 BK374.out) | ((with_reducible refine gate_callee (f := 19) rfl ?_); refine gl_ 18 Try.func19 #[.agg #[.int .i64 a0_0, .int .i64 a0_1, .int .i64 a0_2, .int .i64 a0_3]] ?_ rfl rfl rfl rfl; (with_reducible refine (F19.calls a0_0 a0_1 a0_2 a0_3 t387 t388 t389 t390 _ A7.out).mono ?_); rintro e w123 ⟨rfl, hb⟩; refine ⟨_, rfl, ?_⟩; replace HO382 := am_ (Kd.S_below (by (with_reducible repeat (first | apply Kd.S_alloc | apply Kd.S_drewN | apply Kd.S_drew)); exact (Kd.S_mono (Kd.S_far (p := ⟨gb386, 4, none⟩) (Kd.S_far (p := ⟨gb386, 3, none⟩) (Kd.S_far (p := ⟨gb386, 2, none⟩) (Kd.S_far (p := ⟨gb386, 1, none⟩) (Kd.S_far (p := ⟨gb386, 0, none⟩) (Kd.S_types HO382.out BK386.out (by decide)) (fun _ hk => hk.2) (.string t379)) (fun _ hk => hk.2) (.slice Ao121 t380.length co121)) (fun _ hk => hk.2) (.int .i64 t383)) (fun _ hk => hk.2) (.int .i64 t384)) (fun _ hk => hk.2) (.int .i64 t385)) (fun _ h_ => h_.1))) hb); replace BK374 := am_ (blk_below (g := gb374) (o := .cells #[.int .i64 a0_0, .int .i64 a0_1, .int .i64 a0_2, .int .i64 a0_3] 29 (0, 0)) (bf_ BK374) hb); replace BK386 := am_ (blk_below (g := gb386) (o := .cells #[.string t379, .slice Ao121 t380.length co121, .int .i64 t383, .int .i64 t384, .int .i64 t385] 66 (0, 0)) (bq_ BK386) hb); replace HB := hs_ w hb; (try clear hb); (try clear hb2); (try clear hk); (try clear hi)) | ((with_reducible refine gate_callee (f := 41) rfl ?_); refine gl_ 20 Try.func41 #[.agg #[.int .i64 t387, .int .i64 t388, .int .i64 t389, .int .i64 t390], .string a1] ?_ rfl rfl rfl rfl; (with_reducible refine (F41.calls k t387 t388 t389 t390 a1 t391 t392 t395 t396 t397 _ A8.out).mono ?_); rintro e w124 ⟨v393, rfl, ho0, hb⟩; refine ⟨_, rfl, ?_⟩; obtain ⟨b9_, n1_, n2_⟩ := ap_ au4_0 ho0 hb (below_size bl_); have HO394 := am_ n1_; replace HO382 := am_ n2_; clear n1_ n2_; replace BK374 := bb_ BK374 hb; replace BK386 := bb_ BK386 hb; replace HB := hs_ w hb; (try clear hb); (try clear hb2); (try clear hk); (try clear hi); (try clear ho0)) | ((with_reducible refine gate_dst (N := 6) rfl ?_); refine be_ 6 #[.string (⟨#[]⟩ : ByteArray), .slice none 0 0, .int .i64 0, .int .i64 0, .int .i64 0] 66 ?_; intro gb398 hg w125 hbox hb; replace HO382 := am_ (Kd.S_below au4_0 hb); replace HO394 := am_ (Kd.S_below au4_1 hb); have BK398 := am_ (hbox); have GW398 := am_ (gw_ hg bl_); have GE398 := GW398; replace HB := hs_ w hb; have NB374_398 := am_ (gn_ hg (blkl_ BK374)); have NB398_374 := am_ (gm_ hg (blkl_ BK374)); replace BK374 := bb_ BK374 hb; have NB386_398 := am_ (gn_ hg (blkl_ BK386)); have NB398_386 := am_ (gm_ hg (blkl_ BK386)); replace BK386 := bb_ BK386 hb; clear hb hbox hg; have hnb126 := NB398_374.out; have hnc126 := NB374_398.out; have hnb127 := NB398_386.out; have hnc127 := NB386_398.out; obtain ⟨hcz128_0, hcz128_1, hcz128_2, hcz128_3, hcz128_4, hfz128_0, hfz128_1, hfz128_2, hfz128_3, hfz128_4⟩ := cellsF5 BK398.out; obtain ⟨Ao129, co129, eo129⟩ := Kd.S_slice HO394.out; subst eo129; obtain ⟨hcz130_0, hcz130_1, hcz130_2, hcz130_3, hcz130_4, hfz130_0, hfz130_1, hfz130_2, hfz130_3, hfz130_4⟩ := cellsF5 BK386.out) | ((with_reducible refine gate_callee (f := 42) rfl ?_); refine gl_ 23 Try.func42 #[.agg #[.string t391, .slice Ao129 t392.length co129, .int .i64 t395, .int .i64 t396, .int .i64 t397], .agg #[.string t379, .slice Ao121 t380.length co121, .int .i64 t383, .int .i64 t384, .int .i64 t385]] ?_ rfl rfl rfl rfl; (with_reducible refine (F42.calls k t391 _ _ t392 t395 t396 t397 t379 _ _ t380 t383 t384 t385 true _ ?s1 ?s2 ?s3 ?s4 A9.out).mono ?_); (case s1 => refine (Kd.S_reads' (e := 102) (base := w.heap.size) (ok := fun k_ => (b9_ ≤ k_ ∧ some k_ ≠ (.slice Ao121 t380.length co121 : Value).ownBlock)) (n := t392.length) (c := co129) ?_).2.2; exact au4_13); (case s2 => exact au4_40); (case s3 => refine (Kd.S_reads' (e := 102) (base := w.heap.size) (ok := fun k_ => (k_ < b9_ ∧ some k_ ≠ (.slice Ao129 t392.length co129 : Value).ownBlock)) (n := t380.length) (c := co121) ?_).2.2; exact au4_14); (case s4 => exact au4_33); rintro e w131 ⟨rfl, hb⟩; refine ⟨_, rfl, ?_⟩; replace HO382 := am_ (Kd.S_below au4_14 hb); replace HO394 := am_ (Kd.S_below au4_13 hb); replace BK374 := am_ (blk_below (g := gb374) (o := .cells #[.int .i64 a0_0, .int .i64 a0_1, .int .i64 a0_2, .int .i64 a0_3] 29 (0, 0)) (bf_ BK374) hb); replace BK386 := am_ (blk_below (g := gb386) (o := .cells #[.string t379, .slice Ao121 t380.length co121, .int .i64 t383, .int .i64 t384, .int .i64 t385] 66 (0, 0)) (bf_ BK386) hb); replace BK398 := am_ (blk_below (g := gb398) (o := .cells #[.string t391, .slice Ao129 t392.length co129, .int .i64 t395, .int .i64 t396, .int .i64 t397] 66 (0, 0)) (bq_ BK398) hb); replace HB := hs_ w hb; (try clear hb); (try clear hb2); (try clear hk); (try clear hi); obtain ⟨hcz132_0, hcz132_1, hcz132_2, hcz132_3, hcz132_4, hfz132_0, hfz132_1, hfz132_2, hfz132_3, hfz132_4⟩ := cellsF5 BK398.out) | ((with_reducible refine gate_callee (f := 43) rfl ?_); obtain ⟨P9_, HP9_, HQ9_⟩ := pp_ HO394; refine gl_ 27 Try.func43 #[.agg #[.string t391, .slice Ao129 t392.length co129, .int .i64 t395, .int .i64 t396, .int .i64 t397], .int .i64 1] ?_ rfl rfl rfl rfl; (with_reducible refine (F43.calls k t391 P9_ (.slice Ao129 t392.length co129) t392 t395 t396 t397 1 t400 t401 w _ ?s1 ?s2 A11.out).mono ?_); (case s1 => exact au4_6); (case s2 => (with_reducible repeat (first | apply Kd.S_alloc | apply Kd.S_drewN | apply Kd.S_drew)); exact HP9_.out); rintro e w133 ⟨rfl, hy0, hb, hkp⟩; refine ⟨_, rfl, ?_⟩; replace BK374 := am_ (blk_kept (bk_ BK374) hkp (fun hs_ => nt_ (HQ9_.out _ hs_).2 BK374.out (by decide))); replace HO382 := am_ (Kd.S_mono (ok' := fun k_ => some k_ ≠ (.slice Ao129 t392.length co129 : Value).ownBlock) (Kd.S_keptB (HO382.out) hkp (fun k_ hk_ hs_ => Nat.not_le.2 hk_.1 (HQ9_.out _ hs_).1.1)) (fun k_ hk_ => hk_.1.2)); replace BK386 := am_ (blk_kept (bk_ BK386) hkp (fun hs_ => nt_ (HQ9_.out _ hs_).2 BK386.out (by decide))); replace BK398 := am_ (blk_kept (bk_ BK398) hkp (fun hs_ => nt_ (HQ9_.out _ hs_).2 BK398.out (by decide))); replace HO394 := am_ hy0; replace HB := am_ (hb); (try clear hb); (try clear hkp); (try clear hy0); obtain ⟨hcz134_0, hcz134_1, hcz134_2, hcz134_3, hcz134_4, hfz134_0, hfz134_1, hfz134_2, hfz134_3, hfz134_4⟩ := cellsF5 BK398.out) | ((with_reducible refine gate_callee (f := 44) rfl ?_); refine goesL_ (some 30) rfl rfl Try.func44 (by kernel_rfl) rfl #[.agg #[.string t391, .slice Ao129 t401.length co129, .int .i64 t395, .int .i64 t396, .int .i64 t397], .int .i64 1] rfl au4_3 ?_; (with_reducible refine (F44.calls k t391 _ _ t401 t395 t396 t397 1 t402 _ ?s1 ?s2 A12.out).mono ?_); (case s1 => exact au4_5); (case s2 => exact au4_8); rintro e w135 ⟨rfl, hb⟩; refine ⟨_, rfl, ?_⟩; replace HO382 := am_ (Kd.S_below au4_0 hb); replace HO394 := am_ (Kd.S_below au4_1 hb); replace BK374 := bb_ BK374 hb; replace BK386 := bb_ BK386 hb; replace BK398 := bb_ BK398 hb; replace HB := hs_ w hb; (try clear hb); (try clear hb2); (try clear hk); (try clear hi); obtain ⟨hcz136_0, hcz136_1, hcz136_2, hcz136_3, hfz136_0, hfz136_1, hfz136_2, hfz136_3⟩ := cellsF4 BK374.out) | ((with_reducible refine gate_callee (f := 19) rfl ?_); refine gl_ 37 Try.func19 #[.agg #[.int .i64 a0_0, .int .i64 a0_1, .int .i64 a0_2, .int .i64 a0_3]] ?_ rfl rfl rfl rfl; (with_reducible refine (F19.calls a0_0 a0_1 a0_2 a0_3 t403 t404 t405 t406 _ A37.out).mono ?_); rintro e w137 ⟨rfl, hb⟩; refine ⟨_, rfl, ?_⟩; replace HO382 := am_ (Kd.S_below au4_0 hb); replace HO394 := am_ (Kd.S_below au4_1 hb); replace BK374 := bb_ BK374 hb; replace BK386 := bb_ BK386 hb; replace BK398 := bb_ BK398 hb; replace HB := hs_ w hb; (try clear hb); (try clear hb2); (try clear hk); (try clear hi)) | ((with_reducible refine gate_callee (f := 41) rfl ?_); refine gl_ 39 Try.func41 #[.agg #[.int .i64 t403, .int .i64 t404, .int .i64 t405, .int .i64 t406], .string a1] ?_ rfl rfl rfl rfl; (with_reducible refine (F41.calls k t403 t404 t405 t406 a1 t407 t408 t411 t412 t413 _ A38.out).mono ?_); rintro e w138 ⟨v409, rfl, ho0, hb⟩; refine ⟨_, rfl, ?_⟩; have HO410 := am_ (Kd.S_lower (Kd.S_new' (Kd.S_new' ho0 (Kd.S_lt au4_0)) (Kd.S_lt au4_1)) (below_size bl_)); replace HO382 := am_ (Kd.S_elder' au4_0 (Kd.S_base ho0) hb); replace HO394 := am_ (Kd.S_elder' au4_1 (Kd.S_base ho0) hb); replace BK374 := bb_ BK374 hb; replace BK386 := bb_ BK386 hb; replace BK398 := bb_ BK398 hb; replace HB := hs_ w hb; (try clear hb); (try clear hb2); (try clear hk); (try clear hi); (try clear ho0)) | ((with_reducible refine gate_dst (N := 9) rfl ?_); refine be_ 9 #[.string (⟨#[]⟩ : ByteArray), .slice none 0 0, .int .i64 0, .int .i64 0, .int .i64 0] 66 ?_; intro gb414 hg w139 hbox hb; replace HO382 := am_ (Kd.S_below au4_0 hb); replace HO394 := am_ (Kd.S_below au4_1 hb); replace HO410 := am_ (Kd.S_below au4_10 hb); have BK414 := am_ (hbox); have GW414 := am_ (gw_ hg bl_); have GE414 := GW414; replace HB := hs_ w hb; have NB374_414 := am_ (gn_ hg (blkl_ BK374)); have NB414_374 := am_ (gm_ hg (blkl_ BK374)); replace BK374 := bb_ BK374 hb; have NB386_414 := am_ (gn_ hg (blkl_ BK386)); have NB414_386 := am_ (gm_ hg (blkl_ BK386)); replace BK386 := bb_ BK386 hb; have NB398_414 := am_ (gn_ hg (blkl_ BK398)); have NB414_398 := am_ (gm_ hg (blkl_ BK398)); replace BK398 := bb_ BK398 hb; clear hb hbox hg; have hnb140 := NB414_374.out; have hnc140 := NB374_414.out; have hnb141 := NB414_386.out; have hnc141 := NB386_414.out; have hnb142 := NB414_398.out; have hnc142 := NB398_414.out; obtain ⟨hcz143_0, hcz143_1, hcz143_2, hcz143_3, hcz143_4, hfz143_0, hfz143_1, hfz143_2, hfz143_3, hfz143_4⟩ := cellsF5 BK414.out; obtain ⟨Ao144, co144, eo144⟩ := Kd.S_slice HO410.out; subst eo144; obtain ⟨hcz145_0, hcz145_1, hcz145_2, hcz145_3, hcz145_4, hfz145_0, hfz145_1, hfz145_2, hfz145_3, hfz145_4⟩ := cellsF5 BK386.out) | ((with_reducible refine gate_callee (f := 42) rfl ?_); refine gl_ 42 Try.func42 #[.agg #[.string t407, .slice Ao144 t408.length co144, .int .i64 t411, .int .i64 t412, .int .i64 t413], .agg #[.string t379, .slice Ao121 t380.length co121, .int .i64 t383, .int .i64 t384, .int .i64 t385]] ?_ rfl rfl rfl rfl; (with_reducible refine (F42.calls k t407 _ _ t408 t411 t412 t413 t379 _ _ t380 t383 t384 t385 true _ ?s1 ?s2 ?s3 ?s4 A39.out).mono ?_); (case s1 => refine (Kd.S_reads' (e := 102) (base := w.heap.size) (ok := fun k_ => ((True ∧ some k_ ≠ (.slice Ao121 t380.length co121 : Value).ownBlock) ∧ some k_ ≠ (.slice Ao129 t392.length co129 : Value).ownBlock)) (n := t408.length) (c := co144) ?_).2.2; exact au4_15); (case s2 => exact au4_48); (case s3 => refine (Kd.S_reads' (e := 102) (base := w.heap.size) (ok := fun k_ => (some k_ ≠ (.slice Ao129 t392.length co129 : Value).ownBlock ∧ some k_ ≠ (.slice Ao144 t408.length co144 : Value).ownBlock)) (n := t380.length) (c := co121) ?_).2.2; exact au4_16); (case s4 => exact au4_33); rintro e w146 ⟨rfl, hb⟩; refine ⟨_, rfl, ?_⟩; replace HO382 := am_ (Kd.S_below au4_16 hb); replace HO394 := am_ (Kd.S_below (by (with_reducible repeat (first | apply Kd.S_alloc | apply Kd.S_drewN | apply Kd.S_drew)); exact (Kd.S_mono (Kd.S_far (p := ⟨gb414, 4, none⟩) (Kd.S_far (p := ⟨gb414, 3, none⟩) (Kd.S_far (p := ⟨gb414, 2, none⟩) (Kd.S_far (p := ⟨gb414, 1, none⟩) (Kd.S_far (p := ⟨gb414, 0, none⟩) (Kd.S_types HO394.out BK414.out (by decide)) (fun _ hk => hk.2) (.string t407)) (fun _ hk => hk.2) (.slice Ao144 t408.length co144)) (fun _ hk => hk.2) (.int .i64 t411)) (fun _ hk => hk.2) (.int .i64 t412)) (fun _ hk => hk.2) (.int .i64 t413)) (fun _ h_ => h_.1))) hb); replace HO410 := am_ (Kd.S_below au4_15 hb); replace BK374 := am_ (blk_below (g := gb374) (o := .cells #[.int .i64 a0_0, .int .i64 a0_1, .int .i64 a0_2, .int .i64 a0_3] 29 (0, 0)) (bf_ BK374) hb); replace BK386 := am_ (blk_below (g := gb386) (o := .cells #[.string t379, .slice Ao121 t380.length co121, .int .i64 t383, .int .i64 t384, .int .i64 t385] 66 (0, 0)) (bf_ BK386) hb); replace BK398 := am_ (blk_below (g := gb398) (o := .cells #[.string t391, .slice Ao129 t392.length co129, .int .i64 t395, .int .i64 t396, .int .i64 t397] 66 (0, 0)) (bf_ BK398) hb); replace BK414 := am_ (blk_below (g := gb414) (o := .cells #[.string t407, .slice Ao144 t408.length co144, .int .i64 t411, .int .i64 t412, .int .i64 t413] 66 (0, 0)) (bq_ BK414) hb); replace HB := hs_ w hb; (try clear hb); (try clear hb2); (try clear hk); (try clear hi); obtain ⟨hcz147_0, hcz147_1, hcz147_2, hcz147_3, hcz147_4, hfz147_0, hfz147_1, hfz147_2, hfz147_3, hfz147_4⟩ := cellsF5 BK398.out) | ((with_reducible refine gate_callee (f := 44) rfl ?_); refine goesL_ (some 46) rfl rfl Try.func44 (by kernel_rfl) rfl #[.agg #[.string t391, .slice Ao129 t401.length co129, .int .i64 t395, .int .i64 t396, .int .i64 t397], .int .i64 1] rfl au4_3 ?_; (with_reducible refine (F44.calls k t391 _ _ t401 t395 t396 t397 1 t416 _ ?s1 ?s2 A41.out).mono ?_); (case s1 => exact au4_5); (case s2 => exact au4_8); rintro e w148 ⟨rfl, hb⟩; refine ⟨_, rfl, ?_⟩; replace HO382 := am_ (Kd.S_below au4_0 hb); replace HO394 := am_ (Kd.S_below au4_1 hb); replace HO410 := am_ (Kd.S_below au4_10 hb); replace BK374 := bb_ BK374 hb; replace BK386 := bb_ BK386 hb; replace BK398 := bb_ BK398 hb; replace BK414 := bb_ BK414 hb; replace HB := hs_ w hb; (try clear hb); (try clear hb2); (try clear hk); (try clear hi)))
  go_ret
  exact ⟨au4_2, bl_⟩
 rw [if_pos c78] at H
 have c78b0 : (t416 == t400) = true := beq_iff_eq.mpr c78
 have c78b1 : (t416 != t400) = false := bne_eq_false_iff_eq.mpr c78
 clear c78
 obtain rfl := Option.some.inj H
 go_enter Try.func11, Try.ntmps11
 go_wp2_with (first | ((with_reducible refine gate_dst (N := 2) rfl ?_); refine be_ 2 #[.int .i64 a0_0, .int .i64 a0_1, .int .i64 a0_2, .int .i64 a0_3] 29 ?_; intro gb374 hg w79 hbox hb; have BK374 := am_ (hbox); have GW374 := am_ (gw_ hg bl_); have GE374 := GW374; replace HB := hs_ w hb; clear hb hbox hg; obtain ⟨hcz80_0, hcz80_1, hcz80_2, hcz80_3, hfz80_0, hfz80_1, hfz80_2, hfz80_3⟩ := cellsF4 BK374.out) | ((with_reducible refine gate_callee (f := 19) rfl ?_); refine gl_ 14 Try.func19 #[.agg #[.int .i64 a0_0, .int .i64 a0_1, .int .i64 a0_2, .int .i64 a0_3]] ?_ rfl rfl rfl rfl; (with_reducible refine (F19.calls a0_0 a0_1 a0_2 a0_3 t375 t376 t377 t378 _ A5.out).mono ?_); rintro e w81 ⟨rfl, hb⟩; refine ⟨_, rfl, ?_⟩; replace BK374 := bb_ BK374 hb; replace HB := hs_ w hb; (try clear hb)) | ((with_reducible refine gate_callee (f := 40) rfl ?_); refine gl_ 16 Try.func40 #[.agg #[.int .i64 t375, .int .i64 t376, .int .i64 t377, .int .i64 t378], .string a1] ?_ rfl rfl rfl rfl; (with_reducible refine (F40.calls k t375 t376 t377 t378 a1 t379 t380 t383 t384 t385 _ A6.out).mono ?_); rintro e w82 ⟨v381, rfl, ho0, hb⟩; refine ⟨_, rfl, ?_⟩; have HO382 := am_ (Kd.S_lower ho0 (below_size bl_)); replace BK374 := bb_ BK374 hb; replace HB := hs_ w hb; (try clear hb); (try clear ho0)) | ((with_reducible refine gate_dst (N := 5) rfl ?_); refine be_ 5 #[.string (⟨#[]⟩ : ByteArray), .slice none 0 0, .int .i64 0, .int .i64 0, .int .i64 0] 66 ?_; intro gb386 hg w83 hbox hb; replace HO382 := am_ (Kd.S_below au4_0 hb); have BK386 := am_ (hbox); have GW386 := am_ (gw_ hg bl_); have GE386 := GW386; replace HB := hs_ w hb; have NB374_386 := am_ (gn_ hg (blkl_ BK374)); have NB386_374 := am_ (gm_ hg (blkl_ BK374)); replace BK374 := bb_ BK374 hb; clear hb hbox hg; have hnb84 := NB386_374.out; have hnc84 := NB374_386.out; obtain ⟨hcz85_0, hcz85_1, hcz85_2, hcz85_3, hcz85_4, hfz85_0, hfz85_1, hfz85_2, hfz85_3, hfz85_4⟩ := cellsF5 BK386.out; obtain ⟨Ao86, co86, eo86⟩ := Kd.S_slice HO382.out; subst eo86; obtain ⟨hcz87_0, hcz87_1, hcz87_2, hcz87_3, hfz87_0, hfz87_1, hfz87_2, hfz87_3⟩ := cellsF4 BK374.out) | ((with_reducible refine gate_callee (f := 19) rfl ?_); refine gl_ 18 Try.func19 #[.agg #[.int .i64 a0_0, .int .i64 a0_1, .int .i64 a0_2, .int .i64 a0_3]] ?_ rfl rfl rfl rfl; (with_reducible refine (F19.calls a0_0 a0_1 a0_2 a0_3 t387 t388 t389 t390 _ A7.out).mono ?_); rintro e w88 ⟨rfl, hb⟩; refine ⟨_, rfl, ?_⟩; replace HO382 := am_ (Kd.S_below (by (with_reducible repeat (first | apply Kd.S_alloc | apply Kd.S_drewN | apply Kd.S_drew)); exact (Kd.S_mono (Kd.S_far (p := ⟨gb386, 4, none⟩) (Kd.S_far (p := ⟨gb386, 3, none⟩) (Kd.S_far (p := ⟨gb386, 2, none⟩) (Kd.S_far (p := ⟨gb386, 1, none⟩) (Kd.S_far (p := ⟨gb386, 0, none⟩) (Kd.S_types HO382.out BK386.out (by decide)) (fun _ hk => hk.2) (.string t379)) (fun _ hk => hk.2) (.slice Ao86 t380.length co86)) (fun _ hk => hk.2) (.int .i64 t383)) (fun _ hk => hk.2) (.int .i64 t384)) (fun _ hk => hk.2) (.int .i64 t385)) (fun _ h_ => h_.1))) hb); replace BK374 := am_ (blk_below (g := gb374) (o := .cells #[.int .i64 a0_0, .int .i64 a0_1, .int .i64 a0_2, .int .i64 a0_3] 29 (0, 0)) (bf_ BK374) hb); replace BK386 := am_ (blk_below (g := gb386) (o := .cells #[.string t379, .slice Ao86 t380.length co86, .int .i64 t383, .int .i64 t384, .int .i64 t385] 66 (0, 0)) (bq_ BK386) hb); replace HB := hs_ w hb; (try clear hb); (try clear hb2); (try clear hk); (try clear hi)) | ((with_reducible refine gate_callee (f := 41) rfl ?_); refine gl_ 20 Try.func41 #[.agg #[.int .i64 t387, .int .i64 t388, .int .i64 t389, .int .i64 t390], .string a1] ?_ rfl rfl rfl rfl; (with_reducible refine (F41.calls k t387 t388 t389 t390 a1 t391 t392 t395 t396 t397 _ A8.out).mono ?_); rintro e w89 ⟨v393, rfl, ho0, hb⟩; refine ⟨_, rfl, ?_⟩; obtain ⟨b9_, n1_, n2_⟩ := ap_ au4_0 ho0 hb (below_size bl_); have HO394 := am_ n1_; replace HO382 := am_ n2_; clear n1_ n2_; replace BK374 := bb_ BK374 hb; replace BK386 := bb_ BK386 hb; replace HB := hs_ w hb; (try clear hb); (try clear hb2); (try clear hk); (try clear hi); (try clear ho0)) | ((with_reducible refine gate_dst (N := 6) rfl ?_); refine be_ 6 #[.string (⟨#[]⟩ : ByteArray), .slice none 0 0, .int .i64 0, .int .i64 0, .int .i64 0] 66 ?_; intro gb398 hg w90 hbox hb; replace HO382 := am_ (Kd.S_below au4_0 hb); replace HO394 := am_ (Kd.S_below au4_1 hb); have BK398 := am_ (hbox); have GW398 := am_ (gw_ hg bl_); have GE398 := GW398; replace HB := hs_ w hb; have NB374_398 := am_ (gn_ hg (blkl_ BK374)); have NB398_374 := am_ (gm_ hg (blkl_ BK374)); replace BK374 := bb_ BK374 hb; have NB386_398 := am_ (gn_ hg (blkl_ BK386)); have NB398_386 := am_ (gm_ hg (blkl_ BK386)); replace BK386 := bb_ BK386 hb; clear hb hbox hg; have hnb91 := NB398_374.out; have hnc91 := NB374_398.out; have hnb92 := NB398_386.out; have hnc92 := NB386_398.out; obtain ⟨hcz93_0, hcz93_1, hcz93_2, hcz93_3, hcz93_4, hfz93_0, hfz93_1, hfz93_2, hfz93_3, hfz93_4⟩ := cellsF5 BK398.out; obtain ⟨Ao94, co94, eo94⟩ := Kd.S_slice HO394.out; subst eo94; obtain ⟨hcz95_0, hcz95_1, hcz95_2, hcz95_3, hcz95_4, hfz95_0, hfz95_1, hfz95_2, hfz95_3, hfz95_4⟩ := cellsF5 BK386.out) | ((with_reducible refine gate_callee (f := 42) rfl ?_); refine gl_ 23 Try.func42 #[.agg #[.string t391, .slice Ao94 t392.length co94, .int .i64 t395, .int .i64 t396, .int .i64 t397], .agg #[.string t379, .slice Ao86 t380.length co86, .int .i64 t383, .int .i64 t384, .int .i64 t385]] ?_ rfl rfl rfl rfl; (with_reducible refine (F42.calls k t391 _ _ t392 t395 t396 t397 t379 _ _ t380 t383 t384 t385 true _ ?s1 ?s2 ?s3 ?s4 A9.out).mono ?_); (case s1 => refine (Kd.S_reads' (e := 102) (base := w.heap.size) (ok := fun k_ => (b9_ ≤ k_ ∧ some k_ ≠ (.slice Ao86 t380.length co86 : Value).ownBlock)) (n := t392.length) (c := co94) ?_).2.2; exact au4_31); (case s2 => exact au4_40); (case s3 => refine (Kd.S_reads' (e := 102) (base := w.heap.size) (ok := fun k_ => (k_ < b9_ ∧ some k_ ≠ (.slice Ao94 t392.length co94 : Value).ownBlock)) (n := t380.length) (c := co86) ?_).2.2; exact au4_32); (case s4 => exact au4_33); rintro e w96 ⟨rfl, hb⟩; refine ⟨_, rfl, ?_⟩; replace HO382 := am_ (Kd.S_below au4_32 hb); replace HO394 := am_ (Kd.S_below au4_31 hb); replace BK374 := am_ (blk_below (g := gb374) (o := .cells #[.int .i64 a0_0, .int .i64 a0_1, .int .i64 a0_2, .int .i64 a0_3] 29 (0, 0)) (bf_ BK374) hb); replace BK386 := am_ (blk_below (g := gb386) (o := .cells #[.string t379, .slice Ao86 t380.length co86, .int .i64 t383, .int .i64 t384, .int .i64 t385] 66 (0, 0)) (bf_ BK386) hb); replace BK398 := am_ (blk_below (g := gb398) (o := .cells #[.string t391, .slice Ao94 t392.length co94, .int .i64 t395, .int .i64 t396, .int .i64 t397] 66 (0, 0)) (bq_ BK398) hb); replace HB := hs_ w hb; (try clear hb); (try clear hb2); (try clear hk); (try clear hi); obtain ⟨hcz97_0, hcz97_1, hcz97_2, hcz97_3, hcz97_4, hfz97_0, hfz97_1, hfz97_2, hfz97_3, hfz97_4⟩ := cellsF5 BK398.out) | ((with_reducible refine gate_callee (f := 43) rfl ?_); obtain ⟨P9_, HP9_, HQ9_⟩ := pp_ HO394; refine gl_ 27 Try.func43 #[.agg #[.string t391, .slice Ao94 t392.length co94, .int .i64 t395, .int .i64 t396, .int .i64 t397], .int .i64 1] ?_ rfl rfl rfl rfl; (with_reducible refine (F43.calls k t391 P9_ (.slice Ao94 t392.length co94) t392 t395 t396 t397 1 t400 t401 w _ ?s1 ?s2 A11.out).mono ?_); (case s1 => exact au4_6); (case s2 => (with_reducible repeat (first | apply Kd.S_alloc | apply Kd.S_drewN | apply Kd.S_drew)); exact HP9_.out); rintro e w98 ⟨rfl, hy0, hb, hkp⟩; refine ⟨_, rfl, ?_⟩; replace BK374 := am_ (blk_kept (bk_ BK374) hkp (fun hs_ => nt_ (HQ9_.out _ hs_).2 BK374.out (by decide))); replace HO382 := am_ (Kd.S_mono (ok' := fun k_ => some k_ ≠ (.slice Ao94 t392.length co94 : Value).ownBlock) (Kd.S_keptB (HO382.out) hkp (fun k_ hk_ hs_ => Nat.not_le.2 hk_.1 (HQ9_.out _ hs_).1.1)) (fun k_ hk_ => hk_.1.2)); replace BK386 := am_ (blk_kept (bk_ BK386) hkp (fun hs_ => nt_ (HQ9_.out _ hs_).2 BK386.out (by decide))); replace BK398 := am_ (blk_kept (bk_ BK398) hkp (fun hs_ => nt_ (HQ9_.out _ hs_).2 BK398.out (by decide))); replace HO394 := am_ hy0; replace HB := am_ (hb); (try clear hb); (try clear hkp); (try clear hy0); obtain ⟨hcz99_0, hcz99_1, hcz99_2, hcz99_3, hcz99_4, hfz99_0, hfz99_1, hfz99_2, hfz99_3, hfz99_4⟩ := cellsF5 BK398.out) | ((with_reducible refine gate_callee (f := 44) rfl ?_); refine goesL_ (some 30) rfl rfl Try.func44 (by kernel_rfl) rfl #[.agg #[.string t391, .slice Ao94 t401.length co94, .int .i64 t395, .int .i64 t396, .int .i64 t397], .int .i64 1] rfl au4_3 ?_; (with_reducible refine (F44.calls k t391 _ _ t401 t395 t396 t397 1 t402 _ ?s1 ?s2 A12.out).mono ?_); (case s1 => exact au4_5); (case s2 => exact au4_8); rintro e w100 ⟨rfl, hb⟩; refine ⟨_, rfl, ?_⟩; replace HO382 := am_ (Kd.S_below au4_0 hb); replace HO394 := am_ (Kd.S_below au4_1 hb); replace BK374 := bb_ BK374 hb; replace BK386 := bb_ BK386 hb; replace BK398 := bb_ BK398 hb; replace HB := hs_ w hb; (try clear hb); (try clear hb2); (try clear hk); (try clear hi); obtain ⟨hcz101_0, hcz101_1, hcz101_2, hcz101_3, hfz101_0, hfz101_1, hfz101_2, hfz101_3⟩ := cellsF4 BK374.out) | ((with_reducible refine gate_callee (f := 19) rfl ?_); refine gl_ 37 Try.func19 #[.agg #[.int .i64 a0_0, .int .i64 a0_1, .int .i64 a0_2, .int .i64 a0_3]] ?_ rfl rfl rfl rfl; (with_reducible refine (F19.calls a0_0 a0_1 a0_2 a0_3 t403 t404 t405 t406 _ A37.out).mono ?_); rintro e w102 ⟨rfl, hb⟩; refine ⟨_, rfl, ?_⟩; replace HO382 := am_ (Kd.S_below au4_0 hb); replace HO394 := am_ (Kd.S_below au4_1 hb); replace BK374 := bb_ BK374 hb; replace BK386 := bb_ BK386 hb; replace BK398 := bb_ BK398 hb; replace HB := hs_ w hb; (try clear hb); (try clear hb2); (try clear hk); (try clear hi)) | ((with_reducible refine gate_callee (f := 41) rfl ?_); refine gl_ 39 Try.func41 #[.agg #[.int .i64 t403, .int .i64 t404, .int .i64 t405, .int .i64 t406], .string a1] ?_ rfl rfl rfl rfl; (with_reducible refine (F41.calls k t403 t404 t405 t406 a1 t407 t408 t411 t412 t413 _ A38.out).mono ?_); rintro e w103 ⟨v409, rfl, ho0, hb⟩; refine ⟨_, rfl, ?_⟩; have HO410 := am_ (Kd.S_lower (Kd.S_new' (Kd.S_new' ho0 (Kd.S_lt au4_0)) (Kd.S_lt au4_1)) (below_size bl_)); replace HO382 := am_ (Kd.S_elder' au4_0 (Kd.S_base ho0) hb); replace HO394 := am_ (Kd.S_elder' au4_1 (Kd.S_base ho0) hb); replace BK374 := bb_ BK374 hb; replace BK386 := bb_ BK386 hb; replace BK398 := bb_ BK398 hb; replace HB := hs_ w hb; (try clear hb); (try clear hb2); (try clear hk); (try clear hi); (try clear ho0)) | ((with_reducible refine gate_dst (N := 9) rfl ?_); refine be_ 9 #[.string (⟨#[]⟩ : ByteArray), .slice none 0 0, .int .i64 0, .int .i64 0, .int .i64 0] 66 ?_; intro gb414 hg w104 hbox hb; replace HO382 := am_ (Kd.S_below au4_0 hb); replace HO394 := am_ (Kd.S_below au4_1 hb); replace HO410 := am_ (Kd.S_below au4_10 hb); have BK414 := am_ (hbox); have GW414 := am_ (gw_ hg bl_); have GE414 := GW414; replace HB := hs_ w hb; have NB374_414 := am_ (gn_ hg (blkl_ BK374)); have NB414_374 := am_ (gm_ hg (blkl_ BK374)); replace BK374 := bb_ BK374 hb; have NB386_414 := am_ (gn_ hg (blkl_ BK386)); have NB414_386 := am_ (gm_ hg (blkl_ BK386)); replace BK386 := bb_ BK386 hb; have NB398_414 := am_ (gn_ hg (blkl_ BK398)); have NB414_398 := am_ (gm_ hg (blkl_ BK398)); replace BK398 := bb_ BK398 hb; clear hb hbox hg; have hnb105 := NB414_374.out; have hnc105 := NB374_414.out; have hnb106 := NB414_386.out; have hnc106 := NB386_414.out; have hnb107 := NB414_398.out; have hnc107 := NB398_414.out; obtain ⟨hcz108_0, hcz108_1, hcz108_2, hcz108_3, hcz108_4, hfz108_0, hfz108_1, hfz108_2, hfz108_3, hfz108_4⟩ := cellsF5 BK414.out; obtain ⟨Ao109, co109, eo109⟩ := Kd.S_slice HO410.out; subst eo109; obtain ⟨hcz110_0, hcz110_1, hcz110_2, hcz110_3, hcz110_4, hfz110_0, hfz110_1, hfz110_2, hfz110_3, hfz110_4⟩ := cellsF5 BK386.out) | ((with_reducible refine gate_callee (f := 42) rfl ?_); refine gl_ 42 Try.func42 #[.agg #[.string t407, .slice Ao109 t408.length co109, .int .i64 t411, .int .i64 t412, .int .i64 t413], .agg #[.string t379, .slice Ao86 t380.length co86, .int .i64 t383, .int .i64 t384, .int .i64 t385]] ?_ rfl rfl rfl rfl; (with_reducible refine (F42.calls k t407 _ _ t408 t411 t412 t413 t379 _ _ t380 t383 t384 t385 true _ ?s1 ?s2 ?s3 ?s4 A39.out).mono ?_); (case s1 => refine (Kd.S_reads' (e := 102) (base := w.heap.size) (ok := fun k_ => ((True ∧ some k_ ≠ (.slice Ao86 t380.length co86 : Value).ownBlock) ∧ some k_ ≠ (.slice Ao94 t392.length co94 : Value).ownBlock)) (n := t408.length) (c := co109) ?_).2.2; exact au4_11); (case s2 => exact au4_48); (case s3 => refine (Kd.S_reads' (e := 102) (base := w.heap.size) (ok := fun k_ => (some k_ ≠ (.slice Ao94 t392.length co94 : Value).ownBlock ∧ some k_ ≠ (.slice Ao109 t408.length co109 : Value).ownBlock)) (n := t380.length) (c := co86) ?_).2.2; exact au4_12); (case s4 => exact au4_33); rintro e w111 ⟨rfl, hb⟩; refine ⟨_, rfl, ?_⟩; replace HO382 := am_ (Kd.S_below au4_12 hb); replace HO394 := am_ (Kd.S_below (by (with_reducible repeat (first | apply Kd.S_alloc | apply Kd.S_drewN | apply Kd.S_drew)); exact (Kd.S_mono (Kd.S_far (p := ⟨gb414, 4, none⟩) (Kd.S_far (p := ⟨gb414, 3, none⟩) (Kd.S_far (p := ⟨gb414, 2, none⟩) (Kd.S_far (p := ⟨gb414, 1, none⟩) (Kd.S_far (p := ⟨gb414, 0, none⟩) (Kd.S_types HO394.out BK414.out (by decide)) (fun _ hk => hk.2) (.string t407)) (fun _ hk => hk.2) (.slice Ao109 t408.length co109)) (fun _ hk => hk.2) (.int .i64 t411)) (fun _ hk => hk.2) (.int .i64 t412)) (fun _ hk => hk.2) (.int .i64 t413)) (fun _ h_ => h_.1))) hb); replace HO410 := am_ (Kd.S_below au4_11 hb); replace BK374 := am_ (blk_below (g := gb374) (o := .cells #[.int .i64 a0_0, .int .i64 a0_1, .int .i64 a0_2, .int .i64 a0_3] 29 (0, 0)) (bf_ BK374) hb); replace BK386 := am_ (blk_below (g := gb386) (o := .cells #[.string t379, .slice Ao86 t380.length co86, .int .i64 t383, .int .i64 t384, .int .i64 t385] 66 (0, 0)) (bf_ BK386) hb); replace BK398 := am_ (blk_below (g := gb398) (o := .cells #[.string t391, .slice Ao94 t392.length co94, .int .i64 t395, .int .i64 t396, .int .i64 t397] 66 (0, 0)) (bf_ BK398) hb); replace BK414 := am_ (blk_below (g := gb414) (o := .cells #[.string t407, .slice Ao109 t408.length co109, .int .i64 t411, .int .i64 t412, .int .i64 t413] 66 (0, 0)) (bq_ BK414) hb); replace HB := hs_ w hb; (try clear hb); (try clear hb2); (try clear hk); (try clear hi); obtain ⟨hcz112_0, hcz112_1, hcz112_2, hcz112_3, hcz112_4, hfz112_0, hfz112_1, hfz112_2, hfz112_3, hfz112_4⟩ := cellsF5 BK398.out) | ((with_reducible refine gate_callee (f := 44) rfl ?_); refine goesL_ (some 46) rfl rfl Try.func44 (by kernel_rfl) rfl #[.agg #[.string t391, .slice Ao94 t401.length co94, .int .i64 t395, .int .i64 t396, .int .i64 t397], .int .i64 1] rfl au4_3 ?_; (with_reducible refine (F44.calls k t391 _ _ t401 t395 t396 t397 1 t416 _ ?s1 ?s2 A41.out).mono ?_); (case s1 => exact au4_5); (case s2 => exact au4_8); rintro e w113 ⟨rfl, hb⟩; refine ⟨_, rfl, ?_⟩; replace HO382 := am_ (Kd.S_below au4_0 hb); replace HO394 := am_ (Kd.S_below au4_1 hb); replace HO410 := am_ (Kd.S_below au4_10 hb); replace BK374 := bb_ BK374 hb; replace BK386 := bb_ BK386 hb; replace BK398 := bb_ BK398 hb; replace BK414 := bb_ BK414 hb; replace HB := hs_ w hb; (try clear hb); (try clear hb2); (try clear hk); (try clear hi)))
 go_ret
 exact ⟨au4_2, bl_⟩
/-- THE ONE PURE STATEMENT of F11: yours. -/
def F11.Pure : Prop := ∀ (a0_0 : Int) (a0_1 : Int) (a0_2 : Int) (a0_3 : Int) (a1 : ByteArray), (fun n_ : Int => (Lit.int .i64 n_).wf = true) a0_0 → (fun n_ : Int => (Lit.int .i64 n_).wf = true) a0_1 → (fun n_ : Int => (Lit.int .i64 n_).wf = true) a0_2 → (fun n_ : Int => (Lit.int .i64 n_).wf = true) a0_3 → (fun s_ : ByteArray => s_.size ≤ maxLen) a1 → ∃ k, F11.f k a0_0 a0_1 a0_2 a0_3 a1 = some true
end Go.Proofs.Ytchoalagkcdbhaa.PFnExactSegmentRead
