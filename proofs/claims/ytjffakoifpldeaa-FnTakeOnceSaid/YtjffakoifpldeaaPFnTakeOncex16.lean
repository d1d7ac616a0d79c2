-- printed by a program of this session (wip/xp/xprint.py) out of the translation; Lean checks it
import Derived.Test.YtjffakoifpldeaaPFnTakeOncex0
import Derived.Test.YtjffakoifpldeaaPFnTakeOncex1
import Derived.Test.YtjffakoifpldeaaPFnTakeOncex3
import Derived.Test.YtjffakoifpldeaaPFnTakeOncex4
import Derived.Test.YtjffakoifpldeaaPFnTakeOncex7
import Derived.Test.YtjffakoifpldeaaPFnTakeOncex9
import Derived.Test.YtjffakoifpldeaaPFnTakeOncex14
import Derived.Test.YtjffakoifpldeaaPFnTakeOncex15
namespace Go.Proofs.Ytjffakoifpldeaa.PFnTakeOnce
open Go.RowKit Go.Proofs.YtjffakoifpldeaaW.PrintWords Go.Proofs.YtjffakoifpldeaaW.PrintLast Go.Proofs.YtjffakoifpldeaaW.PrintMore
attribute [local go_sem] max2_int min2_int max_two min_two max_three min_three max_four min_four   -- for this text's walks alone
set_option linter.unusedVariables false
set_option linter.unusedSimpArgs false

attribute [local go_sem high] eqA62
theorem au16_0 {p : Prop} (h : p := by (with_reducible repeat (first | refine blk_drewN ?_ _ | refine blk_drew ?_ | refine blk_alloc ?_ _)); refine blk_far ?_ NB416_453.out _; (with_reducible repeat (first | refine blk_drewN ?_ _ | refine blk_drew ?_ | refine blk_alloc ?_ _)); refine blk_far ?_ NB416_453.out _; (with_reducible repeat (first | refine blk_drewN ?_ _ | refine blk_drew ?_ | refine blk_alloc ?_ _)); refine blk_far ?_ NB416_453.out _; (with_reducible repeat (first | refine blk_drewN ?_ _ | refine blk_drew ?_ | refine blk_alloc ?_ _)); refine blk_far ?_ NB416_453.out _; (with_reducible repeat (first | refine blk_drewN ?_ _ | refine blk_drew ?_ | refine blk_alloc ?_ _)); refine blk_far ?_ NB416_453.out _; (with_reducible repeat (first | refine blk_drewN ?_ _ | refine blk_drew ?_ | refine blk_alloc ?_ _)); refine blk_far ?_ NB416_453.out _; (with_reducible repeat (first | refine blk_drewN ?_ _ | refine blk_drew ?_ | refine blk_alloc ?_ _)); refine blk_far ?_ NB416_453.out _; (with_reducible repeat (first | refine blk_drewN ?_ _ | refine blk_drew ?_ | refine blk_alloc ?_ _)); refine blk_far ?_ NB416_453.out _; (with_reducible repeat (first | refine blk_drewN ?_ _ | refine blk_drew ?_ | refine blk_alloc ?_ _)); refine blk_far ?_ NB416_453.out _; (with_reducible repeat (first | refine blk_drewN ?_ _ | refine blk_drew ?_ | refine blk_alloc ?_ _)); exact BK416.out) : p := h
theorem au16_1 {p : Prop} (h : p := by (with_reducible repeat (first | refine blk_drewN ?_ _ | refine blk_drew ?_ | refine blk_alloc ?_ _)); refine blk_far ?_ NB428_453.out _; (with_reducible repeat (first | refine blk_drewN ?_ _ | refine blk_drew ?_ | refine blk_alloc ?_ _)); refine blk_far ?_ NB428_453.out _; (with_reducible repeat (first | refine blk_drewN ?_ _ | refine blk_drew ?_ | refine blk_alloc ?_ _)); refine blk_far ?_ NB428_453.out _; (with_reducible repeat (first | refine blk_drewN ?_ _ | refine blk_drew ?_ | refine blk_alloc ?_ _)); refine blk_far ?_ NB428_453.out _; (with_reducible repeat (first | refine blk_drewN ?_ _ | refine blk_drew ?_ | refine blk_alloc ?_ _)); refine blk_far ?_ NB428_453.out _; (with_reducible repeat (first | refine blk_drewN ?_ _ | refine blk_drew ?_ | refine blk_alloc ?_ _)); refine blk_far ?_ NB428_453.out _; (with_reducible repeat (first | refine blk_drewN ?_ _ | refine blk_drew ?_ | refine blk_alloc ?_ _)); refine blk_far ?_ NB428_453.out _; (with_reducible repeat (first | refine blk_drewN ?_ _ | refine blk_drew ?_ | refine blk_alloc ?_ _)); refine blk_far ?_ NB428_453.out _; (with_reducible repeat (first | refine blk_drewN ?_ _ | refine blk_drew ?_ | refine blk_alloc ?_ _)); refine blk_far ?_ NB428_453.out _; (with_reducible repeat (first | refine blk_drewN ?_ _ | refine blk_drew ?_ | refine blk_alloc ?_ _)); exact BK428.out) : p := h
theorem au16_2 {p : Prop} (h : p := by (with_reducible repeat (first | refine blk_drewN ?_ _ | refine blk_drew ?_ | refine blk_alloc ?_ _)); refine blk_far ?_ NB440_453.out _; (with_reducible repeat (first | refine blk_drewN ?_ _ | refine blk_drew ?_ | refine blk_alloc ?_ _)); refine blk_far ?_ NB440_453.out _; (with_reducible repeat (first | refine blk_drewN ?_ _ | refine blk_drew ?_ | refine blk_alloc ?_ _)); refine blk_far ?_ NB440_453.out _; (with_reducible repeat (first | refine blk_drewN ?_ _ | refine blk_drew ?_ | refine blk_alloc ?_ _)); refine blk_far ?_ NB440_453.out _; (with_reducible repeat (first | refine blk_drewN ?_ _ | refine blk_drew ?_ | refine blk_alloc ?_ _)); refine blk_far ?_ NB440_453.out _; (with_reducible repeat (first | refine blk_drewN ?_ _ | refine blk_drew ?_ | refine blk_alloc ?_ _)); refine blk_far ?_ NB440_453.out _; (with_reducible repeat (first | refine blk_drewN ?_ _ | refine blk_drew ?_ | refine blk_alloc ?_ _)); refine blk_far ?_ NB440_453.out _; (with_reducible repeat (first | refine blk_drewN ?_ _ | refine blk_drew ?_ | refine blk_alloc ?_ _)); refine blk_far ?_ NB440_453.out _; (with_reducible repeat (first | refine blk_drewN ?_ _ | refine blk_drew ?_ | refine blk_alloc ?_ _)); refine blk_far ?_ NB440_453.out _; (with_reducible repeat (first | refine blk_drewN ?_ _ | refine blk_drew ?_ | refine blk_alloc ?_ _)); exact BK440.out) : p := h
theorem au16_3 {p : Prop} (h : p := by (with_reducible repeat (first | refine blk_drewN ?_ _ | refine blk_drew ?_ | refine blk_alloc ?_ _)); refine blk_put (cs := #[.string t429, .int .i64 t430, .int .i64 t431, .slice Ao22 t432.length co22, .int .i64 t435, .int .i64 t436, .int .i64 t437, .int .i64 t438, .int .i64 0]) ?_ 8 _ rfl; (with_reducible repeat (first | refine blk_drewN ?_ _ | refine blk_drew ?_ | refine blk_alloc ?_ _)); refine blk_put (cs := #[.string t429, .int .i64 t430, .int .i64 t431, .slice Ao22 t432.length co22, .int .i64 t435, .int .i64 t436, .int .i64 t437, .int .i64 0, .int .i64 0]) ?_ 7 _ rfl; (with_reducible repeat (first | refine blk_drewN ?_ _ | refine blk_drew ?_ | refine blk_alloc ?_ _)); refine blk_put (cs := #[.string t429, .int .i64 t430, .int .i64 t431, .slice Ao22 t432.length co22, .int .i64 t435, .int .i64 t436, .int .i64 0, .int .i64 0, .int .i64 0]) ?_ 6 _ rfl; (with_reducible repeat (first | refine blk_drewN ?_ _ | refine blk_drew ?_ | refine blk_alloc ?_ _)); refine blk_put (cs := #[.string t429, .int .i64 t430, .int .i64 t431, .slice Ao22 t432.length co22, .int .i64 t435, .int .i64 0, .int .i64 0, .int .i64 0, .int .i64 0]) ?_ 5 _ rfl; (with_reducible repeat (first | refine blk_drewN ?_ _ | refine blk_drew ?_ | refine blk_alloc ?_ _)); refine blk_put (cs := #[.string t429, .int .i64 t430, .int .i64 t431, .slice Ao22 t432.length co22, .int .i64 0, .int .i64 0, .int .i64 0, .int .i64 0, .int .i64 0]) ?_ 4 _ rfl; (with_reducible repeat (first | refine blk_drewN ?_ _ | refine blk_drew ?_ | refine blk_alloc ?_ _)); refine blk_put (cs := #[.string t429, .int .i64 t430, .int .i64 t431, .slice none 0 0, .int .i64 0, .int .i64 0, .int .i64 0, .int .i64 0, .int .i64 0]) ?_ 3 _ rfl; (with_reducible repeat (first | refine blk_drewN ?_ _ | refine blk_drew ?_ | refine blk_alloc ?_ _)); refine blk_put (cs := #[.string t429, .int .i64 t430, .int .i64 0, .slice none 0 0, .int .i64 0, .int .i64 0, .int .i64 0, .int .i64 0, .int .i64 0]) ?_ 2 _ rfl; (with_reducible repeat (first | refine blk_drewN ?_ _ | refine blk_drew ?_ | refine blk_alloc ?_ _)); refine blk_put (cs := #[.string t429, .int .i64 0, .int .i64 0, .slice none 0 0, .int .i64 0, .int .i64 0, .int .i64 0, .int .i64 0, .int .i64 0]) ?_ 1 _ rfl; (with_reducible repeat (first | refine blk_drewN ?_ _ | refine blk_drew ?_ | refine blk_alloc ?_ _)); refine blk_put (cs := #[.string (⟨#[]⟩ : ByteArray), .int .i64 0, .int .i64 0, .slice none 0 0, .int .i64 0, .int .i64 0, .int .i64 0, .int .i64 0, .int .i64 0]) ?_ 0 _ rfl; (with_reducible repeat (first | refine blk_drewN ?_ _ | refine blk_drew ?_ | refine blk_alloc ?_ _)); exact BK440.out) : p := h
theorem au16_4 {p : Prop} (h : p := by repeat (first | exact (Kd.R_reads' HO_441003.out).2.2 | (with_reducible refine Kd.C_alloc ?_ _) | (with_reducible refine Kd.C_drewN ?_ _) | (with_reducible refine Kd.C_drew ?_))) : p := h
theorem au16_5 {p : Prop} (h : p := by (with_reducible repeat (first | apply Kd.R_alloc | apply Kd.R_drewN | apply Kd.R_drew)); exact (Kd.R_mono (Kd.R_far (p := ⟨gb428, 8, none⟩) (Kd.R_far (p := ⟨gb428, 7, none⟩) (Kd.R_far (p := ⟨gb428, 6, none⟩) (Kd.R_far (p := ⟨gb428, 5, none⟩) (Kd.R_far (p := ⟨gb428, 4, none⟩) (Kd.R_far (p := ⟨gb428, 3, none⟩) (Kd.R_far (p := ⟨gb428, 2, none⟩) (Kd.R_far (p := ⟨gb428, 1, none⟩) (Kd.R_far (p := ⟨gb428, 0, none⟩) (Kd.R_types HO413.out BK428.out (by decide)) (fun _ hk => hk.2) (.string t417)) (fun _ hk => hk.2) (.int .i64 t418)) (fun _ hk => hk.2) (.int .i64 t419)) (fun _ hk => hk.2) (.slice Ao15 t420.length co15)) (fun _ hk => hk.2) (.int .i64 t423)) (fun _ hk => hk.2) (.int .i64 t424)) (fun _ hk => hk.2) (.int .i64 t425)) (fun _ hk => hk.2) (.int .i64 t426)) (fun _ hk => hk.2) (.int .i64 t427)) (fun _ h_ => h_.1))) : p := h
theorem au16_6 {p : Prop} (h : p := by (with_reducible repeat (first | refine blk_drewN ?_ _ | refine blk_drew ?_ | refine blk_alloc ?_ _)); refine blk_far ?_ NB416_440.out _; (with_reducible repeat (first | refine blk_drewN ?_ _ | refine blk_drew ?_ | refine blk_alloc ?_ _)); refine blk_far ?_ NB416_440.out _; (with_reducible repeat (first | refine blk_drewN ?_ _ | refine blk_drew ?_ | refine blk_alloc ?_ _)); refine blk_far ?_ NB416_440.out _; (with_reducible repeat (first | refine blk_drewN ?_ _ | refine blk_drew ?_ | refine blk_alloc ?_ _)); refine blk_far ?_ NB416_440.out _; (with_reducible repeat (first | refine blk_drewN ?_ _ | refine blk_drew ?_ | refine blk_alloc ?_ _)); refine blk_far ?_ NB416_440.out _; (with_reducible repeat (first | refine blk_drewN ?_ _ | refine blk_drew ?_ | refine blk_alloc ?_ _)); refine blk_far ?_ NB416_440.out _; (with_reducible repeat (first | refine blk_drewN ?_ _ | refine blk_drew ?_ | refine blk_alloc ?_ _)); refine blk_far ?_ NB416_440.out _; (with_reducible repeat (first | refine blk_drewN ?_ _ | refine blk_drew ?_ | refine blk_alloc ?_ _)); refine blk_far ?_ NB416_440.out _; (with_reducible repeat (first | refine blk_drewN ?_ _ | refine blk_drew ?_ | refine blk_alloc ?_ _)); refine blk_far ?_ NB416_440.out _; (with_reducible repeat (first | refine blk_drewN ?_ _ | refine blk_drew ?_ | refine blk_alloc ?_ _)); exact BK416.out) : p := h
theorem au16_7 {p : Prop} (h : p := by (with_reducible repeat (first | refine blk_drewN ?_ _ | refine blk_drew ?_ | refine blk_alloc ?_ _)); refine blk_far ?_ NB428_440.out _; (with_reducible repeat (first | refine blk_drewN ?_ _ | refine blk_drew ?_ | refine blk_alloc ?_ _)); refine blk_far ?_ NB428_440.out _; (with_reducible repeat (first | refine blk_drewN ?_ _ | refine blk_drew ?_ | refine blk_alloc ?_ _)); refine blk_far ?_ NB428_440.out _; (with_reducible repeat (first | refine blk_drewN ?_ _ | refine blk_drew ?_ | refine blk_alloc ?_ _)); refine blk_far ?_ NB428_440.out _; (with_reducible repeat (first | refine blk_drewN ?_ _ | refine blk_drew ?_ | refine blk_alloc ?_ _)); refine blk_far ?_ NB428_440.out _; (with_reducible repeat (first | refine blk_drewN ?_ _ | refine blk_drew ?_ | refine blk_alloc ?_ _)); refine blk_far ?_ NB428_440.out _; (with_reducible repeat (first | refine blk_drewN ?_ _ | refine blk_drew ?_ | refine blk_alloc ?_ _)); refine blk_far ?_ NB428_440.out _; (with_reducible repeat (first | refine blk_drewN ?_ _ | refine blk_drew ?_ | refine blk_alloc ?_ _)); refine blk_far ?_ NB428_440.out _; (with_reducible repeat (first | refine blk_drewN ?_ _ | refine blk_drew ?_ | refine blk_alloc ?_ _)); refine blk_far ?_ NB428_440.out _; (with_reducible repeat (first | refine blk_drewN ?_ _ | refine blk_drew ?_ | refine blk_alloc ?_ _)); exact BK428.out) : p := h
theorem au16_8 {p : Prop} (h : p := by (with_reducible repeat (first | apply Kd.R_alloc | apply Kd.R_drewN | apply Kd.R_drew)); exact (Kd.R_mono (Kd.R_far (p := ⟨gb416, 3, none⟩) (Kd.R_far (p := ⟨gb416, 2, none⟩) (Kd.R_far (p := ⟨gb416, 1, none⟩) (Kd.R_far (p := ⟨gb416, 0, none⟩) (Kd.R_types HO413.out BK416.out (by decide)) (fun _ hk => hk.2) (.string t408)) (fun _ hk => hk.2) (.int .i64 t409)) (fun _ hk => hk.2) (.int .i64 t410)) (fun _ hk => hk.2) (.slice Ao10 t411.length co10)) (fun _ h_ => h_.1))) : p := h
theorem au16_9 {p : Prop} (h : p := by (with_reducible repeat (first | apply Kd.R_alloc | apply Kd.R_drewN | apply Kd.R_drew)); exact Kd.R_mono (Kd.R_far (p := ⟨gb440, 8, none⟩) (Kd.R_far (p := ⟨gb440, 7, none⟩) (Kd.R_far (p := ⟨gb440, 6, none⟩) (Kd.R_far (p := ⟨gb440, 5, none⟩) (Kd.R_far (p := ⟨gb440, 4, none⟩) (Kd.R_far (p := ⟨gb440, 3, none⟩) (Kd.R_far (p := ⟨gb440, 2, none⟩) (Kd.R_far (p := ⟨gb440, 1, none⟩) (Kd.R_far (p := ⟨gb440, 0, none⟩) (Kd.R_types HO413.out BK440.out (by decide)) (fun _ hk => hk.2) (.string t429)) (fun _ hk => hk.2) (.int .i64 t430)) (fun _ hk => hk.2) (.int .i64 t431)) (fun _ hk => hk.2) (.slice Ao22 t432.length co22)) (fun _ hk => hk.2) (.int .i64 t435)) (fun _ hk => hk.2) (.int .i64 t436)) (fun _ hk => hk.2) (.int .i64 t437)) (fun _ hk => hk.2) (.int .i64 t438)) (fun _ hk => hk.2) (.int .i64 t439)) (fun _ hk => ⟨hk.1.1.2, hk.1.2⟩)) : p := h
theorem au16_10 {p : Prop} (h : p := by (with_reducible repeat (first | apply Kd.R_alloc | apply Kd.R_drewN | apply Kd.R_drew)); exact Kd.R_mono (Kd.R_far (p := ⟨gb440, 8, none⟩) (Kd.R_far (p := ⟨gb440, 7, none⟩) (Kd.R_far (p := ⟨gb440, 6, none⟩) (Kd.R_far (p := ⟨gb440, 5, none⟩) (Kd.R_far (p := ⟨gb440, 4, none⟩) (Kd.R_far (p := ⟨gb440, 3, none⟩) (Kd.R_far (p := ⟨gb440, 2, none⟩) (Kd.R_far (p := ⟨gb440, 1, none⟩) (Kd.R_far (p := ⟨gb440, 0, none⟩) (Kd.R_types HO422.out BK440.out (by decide)) (fun _ hk => hk.2) (.string t429)) (fun _ hk => hk.2) (.int .i64 t430)) (fun _ hk => hk.2) (.int .i64 t431)) (fun _ hk => hk.2) (.slice Ao22 t432.length co22)) (fun _ hk => hk.2) (.int .i64 t435)) (fun _ hk => hk.2) (.int .i64 t436)) (fun _ hk => hk.2) (.int .i64 t437)) (fun _ hk => hk.2) (.int .i64 t438)) (fun _ hk => hk.2) (.int .i64 t439)) (fun _ hk => ⟨hk.1.1.2, hk.1.2⟩)) : p := h
theorem au16_11 {p : Prop} (h : p := by (with_reducible repeat (first | apply Kd.R_alloc | apply Kd.R_drewN | apply Kd.R_drew)); exact Kd.R_mono (Kd.R_far (p := ⟨gb440, 8, none⟩) (Kd.R_far (p := ⟨gb440, 7, none⟩) (Kd.R_far (p := ⟨gb440, 6, none⟩) (Kd.R_far (p := ⟨gb440, 5, none⟩) (Kd.R_far (p := ⟨gb440, 4, none⟩) (Kd.R_far (p := ⟨gb440, 3, none⟩) (Kd.R_far (p := ⟨gb440, 2, none⟩) (Kd.R_far (p := ⟨gb440, 1, none⟩) (Kd.R_far (p := ⟨gb440, 0, none⟩) (Kd.R_types HO434.out BK440.out (by decide)) (fun _ hk => hk.2) (.string t429)) (fun _ hk => hk.2) (.int .i64 t430)) (fun _ hk => hk.2) (.int .i64 t431)) (fun _ hk => hk.2) (.slice Ao22 t432.length co22)) (fun _ hk => hk.2) (.int .i64 t435)) (fun _ hk => hk.2) (.int .i64 t436)) (fun _ hk => hk.2) (.int .i64 t437)) (fun _ hk => hk.2) (.int .i64 t438)) (fun _ hk => hk.2) (.int .i64 t439)) (fun _ hk => ⟨hk.1.1.2, hk.1.2⟩)) : p := h
theorem au16_12 {p : Prop} (h : p := by (with_reducible repeat (first | apply Kd.R_alloc | apply Kd.R_drewN | apply Kd.R_drew)); exact (Kd.R_mono (Kd.R_far (p := ⟨gb453, 8, none⟩) (Kd.R_far (p := ⟨gb453, 7, none⟩) (Kd.R_far (p := ⟨gb453, 6, none⟩) (Kd.R_far (p := ⟨gb453, 5, none⟩) (Kd.R_far (p := ⟨gb453, 4, none⟩) (Kd.R_far (p := ⟨gb453, 3, none⟩) (Kd.R_far (p := ⟨gb453, 2, none⟩) (Kd.R_far (p := ⟨gb453, 1, none⟩) (Kd.R_far (p := ⟨gb453, 0, none⟩) (Kd.R_types HO_441003.out BK453.out (by decide)) (fun _ hk => hk.2) (.string t442)) (fun _ hk => hk.2) (.int .i64 t443)) (fun _ hk => hk.2) (.int .i64 t444)) (fun _ hk => hk.2) (.slice Ao109 t445.length co109)) (fun _ hk => hk.2) (.int .i64 t448)) (fun _ hk => hk.2) (.int .i64 t449)) (fun _ hk => hk.2) (.int .i64 t450)) (fun _ hk => hk.2) (.int .i64 t451)) (fun _ hk => hk.2) (.int .i64 t452)) (fun _ h_ => h_.1))) : p := h
theorem au16_13 {p : Prop} (h : p := by (with_reducible repeat (first | apply Kd.R_alloc | apply Kd.R_drewN | apply Kd.R_drew)); exact (Kd.R_mono (Kd.R_far (p := ⟨gb453, 8, none⟩) (Kd.R_far (p := ⟨gb453, 7, none⟩) (Kd.R_far (p := ⟨gb453, 6, none⟩) (Kd.R_far (p := ⟨gb453, 5, none⟩) (Kd.R_far (p := ⟨gb453, 4, none⟩) (Kd.R_far (p := ⟨gb453, 3, none⟩) (Kd.R_far (p := ⟨gb453, 2, none⟩) (Kd.R_far (p := ⟨gb453, 1, none⟩) (Kd.R_far (p := ⟨gb453, 0, none⟩) (Kd.R_types HO_441003.out BK453.out (by decide)) (fun _ hk => hk.2) (.string t442)) (fun _ hk => hk.2) (.int .i64 t443)) (fun _ hk => hk.2) (.int .i64 t444)) (fun _ hk => hk.2) (.slice Ao124 t445.length co124)) (fun _ hk => hk.2) (.int .i64 t448)) (fun _ hk => hk.2) (.int .i64 t449)) (fun _ hk => hk.2) (.int .i64 t450)) (fun _ hk => hk.2) (.int .i64 t451)) (fun _ hk => hk.2) (.int .i64 t452)) (fun _ h_ => h_.1))) : p := h
theorem au16_14 {p : Prop} (h : p := by (with_reducible repeat (first | apply Kd.R_alloc | apply Kd.R_drewN | apply Kd.R_drew)); exact (Kd.R_mono (Kd.R_far (p := ⟨gb453, 8, none⟩) (Kd.R_far (p := ⟨gb453, 7, none⟩) (Kd.R_far (p := ⟨gb453, 6, none⟩) (Kd.R_far (p := ⟨gb453, 5, none⟩) (Kd.R_far (p := ⟨gb453, 4, none⟩) (Kd.R_far (p := ⟨gb453, 3, none⟩) (Kd.R_far (p := ⟨gb453, 2, none⟩) (Kd.R_far (p := ⟨gb453, 1, none⟩) (Kd.R_far (p := ⟨gb453, 0, none⟩) (Kd.R_types HO_441003.out BK453.out (by decide)) (fun _ hk => hk.2) (.string t442)) (fun _ hk => hk.2) (.int .i64 t443)) (fun _ hk => hk.2) (.int .i64 t444)) (fun _ hk => hk.2) (.slice Ao138 t445.length co138)) (fun _ hk => hk.2) (.int .i64 t448)) (fun _ hk => hk.2) (.int .i64 t449)) (fun _ hk => hk.2) (.int .i64 t450)) (fun _ hk => hk.2) (.int .i64 t451)) (fun _ hk => hk.2) (.int .i64 t452)) (fun _ h_ => h_.1))) : p := h
theorem au16_15 {p : Prop} (h : p := by (with_reducible repeat (first | apply Kd.R_alloc | apply Kd.R_drewN | apply Kd.R_drew)); exact (Kd.R_mono (Kd.R_far (p := ⟨gb453, 8, none⟩) (Kd.R_far (p := ⟨gb453, 7, none⟩) (Kd.R_far (p := ⟨gb453, 6, none⟩) (Kd.R_far (p := ⟨gb453, 5, none⟩) (Kd.R_far (p := ⟨gb453, 4, none⟩) (Kd.R_far (p := ⟨gb453, 3, none⟩) (Kd.R_far (p := ⟨gb453, 2, none⟩) (Kd.R_far (p := ⟨gb453, 1, none⟩) (Kd.R_far (p := ⟨gb453, 0, none⟩) (Kd.R_types HO_441003.out BK453.out (by decide)) (fun _ hk => hk.2) (.string t442)) (fun _ hk => hk.2) (.int .i64 t443)) (fun _ hk => hk.2) (.int .i64 t444)) (fun _ hk => hk.2) (.slice Ao73 t445.length co73)) (fun _ hk => hk.2) (.int .i64 t448)) (fun _ hk => hk.2) (.int .i64 t449)) (fun _ hk => hk.2) (.int .i64 t450)) (fun _ hk => hk.2) (.int .i64 t451)) (fun _ hk => hk.2) (.int .i64 t452)) (fun _ h_ => h_.1))) : p := h
theorem au16_16 {p : Prop} (h : p := by (with_reducible repeat (first | apply Kd.R_alloc | apply Kd.R_drewN | apply Kd.R_drew)); exact (Kd.R_mono (Kd.R_far (p := ⟨gb453, 8, none⟩) (Kd.R_far (p := ⟨gb453, 7, none⟩) (Kd.R_far (p := ⟨gb453, 6, none⟩) (Kd.R_far (p := ⟨gb453, 5, none⟩) (Kd.R_far (p := ⟨gb453, 4, none⟩) (Kd.R_far (p := ⟨gb453, 3, none⟩) (Kd.R_far (p := ⟨gb453, 2, none⟩) (Kd.R_far (p := ⟨gb453, 1, none⟩) (Kd.R_far (p := ⟨gb453, 0, none⟩) (Kd.R_types HO_441003.out BK453.out (by decide)) (fun _ hk => hk.2) (.string t442)) (fun _ hk => hk.2) (.int .i64 t443)) (fun _ hk => hk.2) (.int .i64 t444)) (fun _ hk => hk.2) (.slice Ao92 t445.length co92)) (fun _ hk => hk.2) (.int .i64 t448)) (fun _ hk => hk.2) (.int .i64 t449)) (fun _ hk => hk.2) (.int .i64 t450)) (fun _ hk => hk.2) (.int .i64 t451)) (fun _ hk => hk.2) (.int .i64 t452)) (fun _ h_ => h_.1))) : p := h
theorem au16_17 {p : Prop} (h : p := by (with_reducible repeat (first | apply Kd.R_alloc | apply Kd.R_drewN | apply Kd.R_drew)); exact (Kd.R_mono (Kd.R_far (p := ⟨gb428, 8, none⟩) (Kd.R_far (p := ⟨gb428, 7, none⟩) (Kd.R_far (p := ⟨gb428, 6, none⟩) (Kd.R_far (p := ⟨gb428, 5, none⟩) (Kd.R_far (p := ⟨gb428, 4, none⟩) (Kd.R_far (p := ⟨gb428, 3, none⟩) (Kd.R_far (p := ⟨gb428, 2, none⟩) (Kd.R_far (p := ⟨gb428, 1, none⟩) (Kd.R_far (p := ⟨gb428, 0, none⟩) (Kd.R_types HO422.out BK428.out (by decide)) (fun _ hk => hk.2) (.string t417)) (fun _ hk => hk.2) (.int .i64 t418)) (fun _ hk => hk.2) (.int .i64 t419)) (fun _ hk => hk.2) (.slice Ao15 t420.length co15)) (fun _ hk => hk.2) (.int .i64 t423)) (fun _ hk => hk.2) (.int .i64 t424)) (fun _ hk => hk.2) (.int .i64 t425)) (fun _ hk => hk.2) (.int .i64 t426)) (fun _ hk => hk.2) (.int .i64 t427)) (fun _ h_ => h_.1))) : p := h
theorem au16_18 {p : Prop} (h : p := by first | rfl | (simp [errW_none, errW_some] <;> rfl) | (simp [*, errW_none, errW_some] <;> rfl)) : p := h
theorem au16_19 {p : Prop} (h : p := by exact (Kd.R_reads' HO_441003.out).2.1) : p := h

/-! ### laws_FnTakeOnce: function 12 -/
mutual
def laws_FnTakeOnce.j0 : Nat → Int → Int → Bool → ByteArray → Int → Int → List (S62) → ByteArray → Int → Int → List (S62) → Int → Int → Int → Int → Int → ByteArray → Int → Int → List (S62) → Int → Int → Int → Int → Int → Option (Bool)
  | 0, _, _, _, _, _, _, _, _, _, _, _, _, _, _, _, _, _, _, _, _, _, _, _, _, _ => none
  | k + 1, x4, x5, x37, x417000, x417001, x417002, x417003, x429000, x429001, x429002, x429003, x429004, x429005, x429006, x429007, x429008, x441000, x441001, x441002, x441003, x441004, x441005, x441006, x441007, x441008 => if x37 = true then (some false) else (if x429008 = 0 then (laws_FnTakeOnce.j1 k x4 x5 (x429004 != 1) x417000 x417001 x417002 x417003 x429000 x429001 x429002 x429003 x429004 x429005 x429006 x429007 x429008 x441000 x441001 x441002 x441003 x441004 x441005 x441006 x441007 x441008) else (laws_FnTakeOnce.j1 k x4 x5 true x417000 x417001 x417002 x417003 x429000 x429001 x429002 x429003 x429004 x429005 x429006 x429007 x429008 x441000 x441001 x441002 x441003 x441004 x441005 x441006 x441007 x441008))
def laws_FnTakeOnce.j1 : Nat → Int → Int → Bool → ByteArray → Int → Int → List (S62) → ByteArray → Int → Int → List (S62) → Int → Int → Int → Int → Int → ByteArray → Int → Int → List (S62) → Int → Int → Int → Int → Int → Option (Bool)
  | 0, _, _, _, _, _, _, _, _, _, _, _, _, _, _, _, _, _, _, _, _, _, _, _, _, _ => none
  | k + 1, x4, x5, x45, x417000, x417001, x417002, x417003, x429000, x429001, x429002, x429003, x429004, x429005, x429006, x429007, x429008, x441000, x441001, x441002, x441003, x441004, x441005, x441006, x441007, x441008 => if x45 = true then (if x429008 = 0 then ((laws_lwPartner.f k x441000 x441001 x441002 x441003 x417000 x417001 x417002 x417003).bind fun t441 => (some t441)) else (some true)) else ((impl_PartnerTake.f k x441000 x441001 x441002 x441003 x4 0).bind fun bt442 => ((impl_PartnerRight.f k x441000 x441001 x441002 x441003).bind fun t454 => (if t454 = true then ((impl_PartnerAsk.f k x441000 x441001 x441002 x441003 x4).bind fun t455 => (if t455 = 2 then (if bt442.2.2.2.2.1 = 2 then (if (bt442.2.2.2.2.2.1 == x4 && (bt442.2.2.2.2.2.2.1 == x417002 && (bt442.2.2.2.2.2.2.2.1 == x5))) = true then ((laws_lwPartner.f k bt442.1 bt442.2.1 bt442.2.2.1 bt442.2.2.2.1 x441000 x441001 x441002 x441003).bind fun t456 => (some t456)) else (some false)) else (some false)) else (some false))) else (some false))))
end
def laws_FnTakeOnce.f (k : Nat) (l0 : List Int) : Option (Bool) := if (l0.length : Int) > 1048576 then (some true) else ((spec_DrawPartnerTake.f k l0).bind fun bt408 => ((spec_PartnerTake.f k bt408.1 bt408.2.1 bt408.2.2.1 bt408.2.2.2.1 bt408.2.2.2.2.1 bt408.2.2.2.2.2).bind fun bt417 => ((impl_PartnerTake.f k bt408.1 bt408.2.1 bt408.2.2.1 bt408.2.2.2.1 bt408.2.2.2.2.1 bt408.2.2.2.2.2).bind fun bt429 => (if bt429.2.2.2.2.2.2.2.2 = bt417.2.2.2.2.2.2.2.2 then (laws_FnTakeOnce.j0 k bt408.2.2.2.2.1 bt408.2.2.2.2.2 (bt429.2.2.2.2.1 != bt417.2.2.2.2.1) bt408.1 bt408.2.1 bt408.2.2.1 bt408.2.2.2.1 bt417.1 bt417.2.1 bt417.2.2.1 bt417.2.2.2.1 bt417.2.2.2.2.1 bt417.2.2.2.2.2.1 bt417.2.2.2.2.2.2.1 bt417.2.2.2.2.2.2.2.1 bt417.2.2.2.2.2.2.2.2 bt429.1 bt429.2.1 bt429.2.2.1 bt429.2.2.2.1 bt429.2.2.2.2.1 bt429.2.2.2.2.2.1 bt429.2.2.2.2.2.2.1 bt429.2.2.2.2.2.2.2.1 bt429.2.2.2.2.2.2.2.2) else (laws_FnTakeOnce.j0 k bt408.2.2.2.2.1 bt408.2.2.2.2.2 true bt408.1 bt408.2.1 bt408.2.2.1 bt408.2.2.2.1 bt417.1 bt417.2.1 bt417.2.2.1 bt417.2.2.2.1 bt417.2.2.2.2.1 bt417.2.2.2.2.2.1 bt417.2.2.2.2.2.2.1 bt417.2.2.2.2.2.2.2.1 bt417.2.2.2.2.2.2.2.2 bt429.1 bt429.2.1 bt429.2.2.1 bt429.2.2.2.1 bt429.2.2.2.2.1 bt429.2.2.2.2.2.1 bt429.2.2.2.2.2.2.1 bt429.2.2.2.2.2.2.2.1 bt429.2.2.2.2.2.2.2.2)))))
theorem laws_FnTakeOnce.mono_l : ∀ k, (∀ y0 y1 y2 y3 y4 y5 y6 y7 y8 y9 y10 y11 y12 y13 y14 y15 y16 y17 y18 y19 y20 y21 y22 y23 y24, LeO (laws_FnTakeOnce.j0 k y0 y1 y2 y3 y4 y5 y6 y7 y8 y9 y10 y11 y12 y13 y14 y15 y16 y17 y18 y19 y20 y21 y22 y23 y24) (laws_FnTakeOnce.j0 (k + 1) y0 y1 y2 y3 y4 y5 y6 y7 y8 y9 y10 y11 y12 y13 y14 y15 y16 y17 y18 y19 y20 y21 y22 y23 y24)) ∧ (∀ y0 y1 y2 y3 y4 y5 y6 y7 y8 y9 y10 y11 y12 y13 y14 y15 y16 y17 y18 y19 y20 y21 y22 y23 y24, LeO (laws_FnTakeOnce.j1 k y0 y1 y2 y3 y4 y5 y6 y7 y8 y9 y10 y11 y12 y13 y14 y15 y16 y17 y18 y19 y20 y21 y22 y23 y24) (laws_FnTakeOnce.j1 (k + 1) y0 y1 y2 y3 y4 y5 y6 y7 y8 y9 y10 y11 y12 y13 y14 y15 y16 y17 y18 y19 y20 y21 y22 y23 y24))
  | 0 => ⟨fun _ _ _ _ _ _ _ _ _ _ _ _ _ _ _ _ _ _ _ _ _ _ _ _ _ r h => by simp [laws_FnTakeOnce.j0] at h, fun _ _ _ _ _ _ _ _ _ _ _ _ _ _ _ _ _ _ _ _ _ _ _ _ _ r h => by simp [laws_FnTakeOnce.j1] at h⟩
  | k + 1 => by
    obtain ⟨ih0, ih1⟩ := laws_FnTakeOnce.mono_l k
    refine ⟨?_, ?_⟩
    · intro y0 y1 y2 y3 y4 y5 y6 y7 y8 y9 y10 y11 y12 y13 y14 y15 y16 y17 y18 y19 y20 y21 y22 y23 y24
      unfold laws_FnTakeOnce.j0
      repeat' first
      | (with_reducible exact ih0 _ _ _ _ _ _ _ _ _ _ _ _ _ _ _ _ _ _ _ _ _ _ _ _ _)
      | (with_reducible exact ih1 _ _ _ _ _ _ _ _ _ _ _ _ _ _ _ _ _ _ _ _ _ _ _ _ _)
      | (with_reducible exact impl_PartnerAsk.mono _ _ _ _ _ _)
      | (with_reducible exact impl_PartnerRight.mono _ _ _ _ _)
      | (with_reducible exact impl_PartnerTake.mono _ _ _ _ _ _ _)
      | (with_reducible exact laws_lwPartner.mono _ _ _ _ _ _ _ _ _)
      | (with_reducible exact spec_DrawPartnerTake.mono _ _)
      | (with_reducible exact spec_PartnerTake.mono _ _ _ _ _ _ _)
      | (with_reducible exact LeO.refl _)
      | (with_reducible exact LeO.none _)
      | (with_reducible refine LeO.ite ?_ ?_)
      | (with_reducible refine LeO.bind ?_ (fun _ => ?_))
      | exact ih0 _ _ _ _ _ _ _ _ _ _ _ _ _ _ _ _ _ _ _ _ _ _ _ _ _
      | exact ih1 _ _ _ _ _ _ _ _ _ _ _ _ _ _ _ _ _ _ _ _ _ _ _ _ _
      | exact impl_PartnerAsk.mono _ _ _ _ _ _
      | exact impl_PartnerRight.mono _ _ _ _ _
      | exact impl_PartnerTake.mono _ _ _ _ _ _ _
      | exact laws_lwPartner.mono _ _ _ _ _ _ _ _ _
      | exact spec_DrawPartnerTake.mono _ _
      | exact spec_PartnerTake.mono _ _ _ _ _ _ _
      | exact LeO.none _
      | refine LeO.ite ?_ ?_
      | refine LeO.bind ?_ (fun _ => ?_)
    · intro y0 y1 y2 y3 y4 y5 y6 y7 y8 y9 y10 y11 y12 y13 y14 y15 y16 y17 y18 y19 y20 y21 y22 y23 y24
      unfold laws_FnTakeOnce.j1
      repeat' first
      | (with_reducible exact ih0 _ _ _ _ _ _ _ _ _ _ _ _ _ _ _ _ _ _ _ _ _ _ _ _ _)
      | (with_reducible exact ih1 _ _ _ _ _ _ _ _ _ _ _ _ _ _ _ _ _ _ _ _ _ _ _ _ _)
      | (with_reducible exact impl_PartnerAsk.mono _ _ _ _ _ _)
      | (with_reducible exact impl_PartnerRight.mono _ _ _ _ _)
      | (with_reducible exact impl_PartnerTake.mono _ _ _ _ _ _ _)
      | (with_reducible exact laws_lwPartner.mono _ _ _ _ _ _ _ _ _)
      | (with_reducible exact spec_DrawPartnerTake.mono _ _)
      | (with_reducible exact spec_PartnerTake.mono _ _ _ _ _ _ _)
      | (with_reducible exact LeO.refl _)
      | (with_reducible exact LeO.none _)
      | (with_reducible refine LeO.ite ?_ ?_)
      | (with_reducible refine LeO.bind ?_ (fun _ => ?_))
      | exact ih0 _ _ _ _ _ _ _ _ _ _ _ _ _ _ _ _ _ _ _ _ _ _ _ _ _
      | exact ih1 _ _ _ _ _ _ _ _ _ _ _ _ _ _ _ _ _ _ _ _ _ _ _ _ _
      | exact impl_PartnerAsk.mono _ _ _ _ _ _
      | exact impl_PartnerRight.mono _ _ _ _ _
      | exact impl_PartnerTake.mono _ _ _ _ _ _ _
      | exact laws_lwPartner.mono _ _ _ _ _ _ _ _ _
      | exact spec_DrawPartnerTake.mono _ _
      | exact spec_PartnerTake.mono _ _ _ _ _ _ _
      | exact LeO.none _
      | refine LeO.ite ?_ ?_
      | refine LeO.bind ?_ (fun _ => ?_)
theorem laws_FnTakeOnce.mono : ∀ a0 k, LeO (laws_FnTakeOnce.f k a0) (laws_FnTakeOnce.f (k + 1) a0) := by
  intro a0 k
  obtain ⟨ih0, ih1⟩ := laws_FnTakeOnce.mono_l k
  unfold laws_FnTakeOnce.f
  repeat' first
      | (with_reducible exact ih0 _ _ _ _ _ _ _ _ _ _ _ _ _ _ _ _ _ _ _ _ _ _ _ _ _)
      | (with_reducible exact ih1 _ _ _ _ _ _ _ _ _ _ _ _ _ _ _ _ _ _ _ _ _ _ _ _ _)
      | (with_reducible exact impl_PartnerAsk.mono _ _ _ _ _ _)
      | (with_reducible exact impl_PartnerRight.mono _ _ _ _ _)
      | (with_reducible exact impl_PartnerTake.mono _ _ _ _ _ _ _)
      | (with_reducible exact laws_lwPartner.mono _ _ _ _ _ _ _ _ _)
      | (with_reducible exact spec_DrawPartnerTake.mono _ _)
      | (with_reducible exact spec_PartnerTake.mono _ _ _ _ _ _ _)
      | (with_reducible exact LeO.refl _)
      | (with_reducible exact LeO.none _)
      | (with_reducible refine LeO.ite ?_ ?_)
      | (with_reducible refine LeO.bind ?_ (fun _ => ?_))
      | exact ih0 _ _ _ _ _ _ _ _ _ _ _ _ _ _ _ _ _ _ _ _ _ _ _ _ _
      | exact ih1 _ _ _ _ _ _ _ _ _ _ _ _ _ _ _ _ _ _ _ _ _ _ _ _ _
      | exact impl_PartnerAsk.mono _ _ _ _ _ _
      | exact impl_PartnerRight.mono _ _ _ _ _
      | exact impl_PartnerTake.mono _ _ _ _ _ _ _
      | exact laws_lwPartner.mono _ _ _ _ _ _ _ _ _
      | exact spec_DrawPartnerTake.mono _ _
      | exact spec_PartnerTake.mono _ _ _ _ _ _ _
      | exact LeO.none _
      | refine LeO.ite ?_ ?_
      | refine LeO.bind ?_ (fun _ => ?_)
set_option maxHeartbeats 8000000 in
set_option maxRecDepth 100000 in
theorem laws_FnTakeOnce.calls (k : Nat) (A0 : Option Addr) (c0 : Nat) (l0 : List Int) (r : Bool) (w : World) (hr0 : Kd.C (Kd.int .u8) w A0 l0.length l0) (hc0 : l0.length ≤ c0) (h : laws_FnTakeOnce.f k l0 = some r) :
    Calls Try.prog 12 #[.slice A0 l0.length c0] w fun e w' => e = .returned (.bool r) ∧ Below w.heap.size w w' := by
  have hu51 := Try.underlying51
  have hu64 := Try.underlying64
  have hu62 := Try.underlying62
  have HR0 := Aside0.mk hr0
  have HC0 := Aside0.mk hc0
  clear hr0 hc0
  have HB := Aside0.mk (Below.refl w.heap.size w)
  have H : (if (l0.length : Int) > 1048576 then (some true) else ((spec_DrawPartnerTake.f k l0).bind fun bt408 => ((spec_PartnerTake.f k bt408.1 bt408.2.1 bt408.2.2.1 bt408.2.2.2.1 bt408.2.2.2.2.1 bt408.2.2.2.2.2).bind fun bt417 => ((impl_PartnerTake.f k bt408.1 bt408.2.1 bt408.2.2.1 bt408.2.2.2.1 bt408.2.2.2.2.1 bt408.2.2.2.2.2).bind fun bt429 => (if bt429.2.2.2.2.2.2.2.2 = bt417.2.2.2.2.2.2.2.2 then (laws_FnTakeOnce.j0 k bt408.2.2.2.2.1 bt408.2.2.2.2.2 (bt429.2.2.2.2.1 != bt417.2.2.2.2.1) bt408.1 bt408.2.1 bt408.2.2.1 bt408.2.2.2.1 bt417.1 bt417.2.1 bt417.2.2.1 bt417.2.2.2.1 bt417.2.2.2.2.1 bt417.2.2.2.2.2.1 bt417.2.2.2.2.2.2.1 bt417.2.2.2.2.2.2.2.1 bt417.2.2.2.2.2.2.2.2 bt429.1 bt429.2.1 bt429.2.2.1 bt429.2.2.2.1 bt429.2.2.2.2.1 bt429.2.2.2.2.2.1 bt429.2.2.2.2.2.2.1 bt429.2.2.2.2.2.2.2.1 bt429.2.2.2.2.2.2.2.2) else (laws_FnTakeOnce.j0 k bt408.2.2.2.2.1 bt408.2.2.2.2.2 true bt408.1 bt408.2.1 bt408.2.2.1 bt408.2.2.2.1 bt417.1 bt417.2.1 bt417.2.2.1 bt417.2.2.2.1 bt417.2.2.2.2.1 bt417.2.2.2.2.2.1 bt417.2.2.2.2.2.2.1 bt417.2.2.2.2.2.2.2.1 bt417.2.2.2.2.2.2.2.2 bt429.1 bt429.2.1 bt429.2.2.1 bt429.2.2.2.1 bt429.2.2.2.2.1 bt429.2.2.2.2.2.1 bt429.2.2.2.2.2.2.1 bt429.2.2.2.2.2.2.2.1 bt429.2.2.2.2.2.2.2.2)))))) = some r := h
  clear h
  by_cases c2 : (l0.length : Int) > 1048576
  · rw [if_pos c2] at H
    have c2b0 : decide (1048576 < (l0.length : Int)) = true := decide_eq_true c2
    have c2b1 : decide (1048576 < l0.length) = true := decide_eq_true (by omega)
    clear c2
    obtain rfl := Option.some.inj H
    go_enter Try.func12, Try.ntmps12
    go_wp2
    go_ret
    exact ⟨au16_18, bl_⟩
  · rw [if_neg c2] at H
    have c2b0 : decide (1048576 < (l0.length : Int)) = false := decide_eq_false c2
    have c2b1 : decide (1048576 < l0.length) = false := decide_eq_false (by omega)
    clear c2
    replace H := Option.bind_eq_some_iff.mp H
    obtain ⟨⟨t408, t409, t410, t411, t414, t415⟩, A30, H⟩ := H
    replace H : ((spec_PartnerTake.f k t408 t409 t410 t411 t414 t415).bind fun bt417 => ((impl_PartnerTake.f k t408 t409 t410 t411 t414 t415).bind fun bt429 => (if bt429.2.2.2.2.2.2.2.2 = bt417.2.2.2.2.2.2.2.2 then (laws_FnTakeOnce.j0 k t414 t415 (bt429.2.2.2.2.1 != bt417.2.2.2.2.1) t408 t409 t410 t411 bt417.1 bt417.2.1 bt417.2.2.1 bt417.2.2.2.1 bt417.2.2.2.2.1 bt417.2.2.2.2.2.1 bt417.2.2.2.2.2.2.1 bt417.2.2.2.2.2.2.2.1 bt417.2.2.2.2.2.2.2.2 bt429.1 bt429.2.1 bt429.2.2.1 bt429.2.2.2.1 bt429.2.2.2.2.1 bt429.2.2.2.2.2.1 bt429.2.2.2.2.2.2.1 bt429.2.2.2.2.2.2.2.1 bt429.2.2.2.2.2.2.2.2) else (laws_FnTakeOnce.j0 k t414 t415 true t408 t409 t410 t411 bt417.1 bt417.2.1 bt417.2.2.1 bt417.2.2.2.1 bt417.2.2.2.2.1 bt417.2.2.2.2.2.1 bt417.2.2.2.2.2.2.1 bt417.2.2.2.2.2.2.2.1 bt417.2.2.2.2.2.2.2.2 bt429.1 bt429.2.1 bt429.2.2.1 bt429.2.2.2.1 bt429.2.2.2.2.1 bt429.2.2.2.2.2.1 bt429.2.2.2.2.2.2.1 bt429.2.2.2.2.2.2.2.1 bt429.2.2.2.2.2.2.2.2)))) = some r := H
    have A3 := Aside0.mk A30
    clear A30
    replace H := Option.bind_eq_some_iff.mp H
    obtain ⟨⟨t417, t418, t419, t420, t423, t424, t425, t426, t427⟩, A40, H⟩ := H
    replace H : ((impl_PartnerTake.f k t408 t409 t410 t411 t414 t415).bind fun bt429 => (if bt429.2.2.2.2.2.2.2.2 = t427 then (laws_FnTakeOnce.j0 k t414 t415 (bt429.2.2.2.2.1 != t423) t408 t409 t410 t411 t417 t418 t419 t420 t423 t424 t425 t426 t427 bt429.1 bt429.2.1 bt429.2.2.1 bt429.2.2.2.1 bt429.2.2.2.2.1 bt429.2.2.2.2.2.1 bt429.2.2.2.2.2.2.1 bt429.2.2.2.2.2.2.2.1 bt429.2.2.2.2.2.2.2.2) else (laws_FnTakeOnce.j0 k t414 t415 true t408 t409 t410 t411 t417 t418 t419 t420 t423 t424 t425 t426 t427 bt429.1 bt429.2.1 bt429.2.2.1 bt429.2.2.2.1 bt429.2.2.2.2.1 bt429.2.2.2.2.2.1 bt429.2.2.2.2.2.2.1 bt429.2.2.2.2.2.2.2.1 bt429.2.2.2.2.2.2.2.2))) = some r := H
    have A4 := Aside0.mk A40
    clear A40
    replace H := Option.bind_eq_some_iff.mp H
    obtain ⟨⟨t429, t430, t431, t432, t435, t436, t437, t438, t439⟩, A50, H⟩ := H
    replace H : (if t439 = t427 then (laws_FnTakeOnce.j0 k t414 t415 (t435 != t423) t408 t409 t410 t411 t417 t418 t419 t420 t423 t424 t425 t426 t427 t429 t430 t431 t432 t435 t436 t437 t438 t439) else (laws_FnTakeOnce.j0 k t414 t415 true t408 t409 t410 t411 t417 t418 t419 t420 t423 t424 t425 t426 t427 t429 t430 t431 t432 t435 t436 t437 t438 t439)) = some r := H
    have A5 := Aside0.mk A50
    clear A50
    have HC6 := Aside0.mk H
    clear H
    go_enter Try.func12, Try.ntmps12
    go_upto_region 6 with (first | (go_at_call 50; (with_reducible refine (spec_DrawPartnerTake.calls k _ _ l0 t408 t409 t410 t411 t414 t415 _ ?side1 ?side2 A3.out).mono ?_); (case side1 => repeat (first | exact HR0.out | (with_reducible refine Kd.C_alloc ?_ _) | (with_reducible refine Kd.C_drewN ?_ _) | (with_reducible refine Kd.C_drew ?_))); (case side2 => exact HC0.out); rintro e w7 ⟨v412, rfl, ho0, hb⟩; (try clear A3); have n0_ := Aside0.mk (Kd.R_lower ho0 (below_size bl_)); have n1_ := Aside0.mk (below_step bl_ hb); clear HB; have HO413 := n0_; have HB := n1_; clear n0_ n1_; (try clear hb); (try clear hb2); (try clear hk); (try clear hi); (try clear ho0)) | ((with_reducible refine gate_dst (N := 3) rfl ?_); refine box_event ?hg (N := 3) ?hd (cs := #[.string (⟨#[]⟩ : ByteArray), .int .i64 0, .int .i64 0, .slice none 0 0]) (t := 51) ?hr ?_; (case hd => rfl); (case hg => rfl); (case hr => exact hr_); intro gb416 hg w8 hbox hb; have n0_ := Aside0.mk (Kd.R_below (rk_ HO413) hb); have n1_ := Aside0.mk (below_step bl_ hb); have n2_ := Aside0.mk (hbox); have n3_ := Aside0.mk (gw_ hg bl_); have n4_ := Aside0.mk (gw_ hg bl_); clear HO413; clear HB; have HO413 := n0_; have HB := n1_; have BK416 := n2_; have GW416 := n3_; have GE416 := n4_; clear n0_ n1_ n2_ n3_ n4_; clear hb hbox hg; obtain ⟨hcz9_0, hcz9_1, hcz9_2, hcz9_3, hfz9_0, hfz9_1, hfz9_2, hfz9_3⟩ := cellsF4 BK416.out; obtain ⟨Ao10, co10, eo10⟩ := Kd.R_slice HO413.out; subst eo10) | (go_at_call 44; (with_reducible refine (spec_PartnerTake.calls k t408 t409 t410 _ _ t411 t414 t415 t417 t418 t419 t420 t423 t424 t425 t426 t427 _ ?side1 ?side2 A4.out).mono ?_); (case side1 => refine (Kd.R_reads' (e := 62) (base := w.heap.size) (ok := fun k_ => True) (n := t411.length) (c := co10) ?_).2.2; exact au16_8); (case side2 => exact (Kd.R_reads' HO413.out).2.1); rintro e w11 ⟨v421, rfl, ho0, hb⟩; (try clear A4); have n0_ := Aside0.mk (Kd.R_elder' au16_8 (Kd.R_base ho0) hb); have n1_ := Aside0.mk (Kd.R_lower (Kd.R_new' ho0 (Kd.R_lt au16_8)) (below_size bl_)); have n2_ := Aside0.mk (blk_below (g := gb416) (o := .cells #[.string t408, .int .i64 t409, .int .i64 t410, .slice Ao10 t411.length co10] 51 (0, 0)) (by (with_reducible repeat (first | refine blk_drewN ?_ _ | refine blk_drew ?_ | refine blk_alloc ?_ _)); refine blk_put (cs := #[.string t408, .int .i64 t409, .int .i64 t410, .slice none 0 0]) ?_ 3 _ rfl; (with_reducible repeat (first | refine blk_drewN ?_ _ | refine blk_drew ?_ | refine blk_alloc ?_ _)); refine blk_put (cs := #[.string t408, .int .i64 t409, .int .i64 0, .slice none 0 0]) ?_ 2 _ rfl; (with_reducible repeat (first | refine blk_drewN ?_ _ | refine blk_drew ?_ | refine blk_alloc ?_ _)); refine blk_put (cs := #[.string t408, .int .i64 0, .int .i64 0, .slice none 0 0]) ?_ 1 _ rfl; (with_reducible repeat (first | refine blk_drewN ?_ _ | refine blk_drew ?_ | refine blk_alloc ?_ _)); refine blk_put (cs := #[.string (⟨#[]⟩ : ByteArray), .int .i64 0, .int .i64 0, .slice none 0 0]) ?_ 0 _ rfl; (with_reducible repeat (first | refine blk_drewN ?_ _ | refine blk_drew ?_ | refine blk_alloc ?_ _)); exact BK416.out) hb); have n3_ := Aside0.mk (below_step bl_ hb); clear HO413; clear BK416; clear HB; have HO413 := n0_; have HO422 := n1_; have BK416 := n2_; have HB := n3_; clear n0_ n1_ n2_ n3_; (try clear hb); (try clear hb2); (try clear hk); (try clear hi); (try clear ho0)) | ((with_reducible refine gate_dst (N := 6) rfl ?_); refine box_event ?hg (N := 6) ?hd (cs := #[.string (⟨#[]⟩ : ByteArray), .int .i64 0, .int .i64 0, .slice none 0 0, .int .i64 0, .int .i64 0, .int .i64 0, .int .i64 0, .int .i64 0]) (t := 64) ?hr ?_; (case hd => rfl); (case hg => rfl); (case hr => exact hr_); intro gb428 hg w12 hbox hb; have n0_ := Aside0.mk (Kd.R_below (rk_ HO413) hb); have n1_ := Aside0.mk (Kd.R_below (rk_ HO422) hb); have n2_ := Aside0.mk (blkb_ BK416 hb); have n3_ := Aside0.mk (below_step bl_ hb); have n4_ := Aside0.mk (hbox); have n5_ := Aside0.mk (gw_ hg bl_); have n6_ := Aside0.mk (gw_ hg bl_); have n7_ := Aside0.mk (gn_ hg (blkl_ BK416)); have n8_ := Aside0.mk (gm_ hg (blkl_ BK416)); clear HO413; clear HO422; clear BK416; clear HB; have HO413 := n0_; have HO422 := n1_; have BK416 := n2_; have HB := n3_; have BK428 := n4_; have GW428 := n5_; have GE428 := n6_; have NB416_428 := n7_; have NB428_416 := n8_; clear n0_ n1_ n2_ n3_ n4_ n5_ n6_ n7_ n8_; clear hb hbox hg; have hnb13 := NB428_416.out; have hnc13 := NB416_428.out; obtain ⟨hcz14_0, hcz14_1, hcz14_2, hcz14_3, hcz14_4, hcz14_5, hcz14_6, hcz14_7, hcz14_8, hfz14_0, hfz14_1, hfz14_2, hfz14_3, hfz14_4, hfz14_5, hfz14_6, hfz14_7, hfz14_8⟩ := cellsF9 BK428.out; obtain ⟨Ao15, co15, eo15⟩ := Kd.R_slice HO422.out; subst eo15; obtain ⟨hcz16_0, hcz16_1, hcz16_2, hcz16_3, hfz16_0, hfz16_1, hfz16_2, hfz16_3⟩ := cellsF4 BK416.out) | (go_at_call 45; (with_reducible refine (impl_PartnerTake.calls k t408 t409 t410 _ _ t411 t414 t415 t429 t430 t431 t432 t435 t436 t437 t438 t439 _ ?side1 ?side2 A5.out).mono ?_); (case side1 => refine (Kd.R_reads' (e := 62) (base := w.heap.size) (ok := fun k_ => (True ∧ some k_ ≠ (.slice Ao15 t420.length co15 : Value).ownBlock)) (n := t411.length) (c := co10) ?_).2.2; exact au16_5); (case side2 => exact (Kd.R_reads' HO413.out).2.1); rintro e w17 ⟨v433, rfl, ho0, hb⟩; (try clear A5); have n0_ := Aside0.mk (Kd.R_elder' au16_5 (Kd.R_base ho0) hb); have n1_ := Aside0.mk (Kd.R_elder' au16_17 (Kd.R_base ho0) hb); have n2_ := Aside0.mk (Kd.R_lower (Kd.R_new' (Kd.R_new' ho0 (Kd.R_lt au16_5)) (Kd.R_lt au16_17)) (below_size bl_)); have n3_ := Aside0.mk (blk_below (g := gb416) (o := .cells #[.string t408, .int .i64 t409, .int .i64 t410, .slice Ao10 t411.length co10] 51 (0, 0)) (by (with_reducible repeat (first | refine blk_drewN ?_ _ | refine blk_drew ?_ | refine blk_alloc ?_ _)); refine blk_far ?_ NB416_428.out _; (with_reducible repeat (first | refine blk_drewN ?_ _ | refine blk_drew ?_ | refine blk_alloc ?_ _)); refine blk_far ?_ NB416_428.out _; (with_reducible repeat (first | refine blk_drewN ?_ _ | refine blk_drew ?_ | refine blk_alloc ?_ _)); refine blk_far ?_ NB416_428.out _; (with_reducible repeat (first | refine blk_drewN ?_ _ | refine blk_drew ?_ | refine blk_alloc ?_ _)); refine blk_far ?_ NB416_428.out _; (with_reducible repeat (first | refine blk_drewN ?_ _ | refine blk_drew ?_ | refine blk_alloc ?_ _)); refine blk_far ?_ NB416_428.out _; (with_reducible repeat (first | refine blk_drewN ?_ _ | refine blk_drew ?_ | refine blk_alloc ?_ _)); refine blk_far ?_ NB416_428.out _; (with_reducible repeat (first | refine blk_drewN ?_ _ | refine blk_drew ?_ | refine blk_alloc ?_ _)); refine blk_far ?_ NB416_428.out _; (with_reducible repeat (first | refine blk_drewN ?_ _ | refine blk_drew ?_ | refine blk_alloc ?_ _)); refine blk_far ?_ NB416_428.out _; (with_reducible repeat (first | refine blk_drewN ?_ _ | refine blk_drew ?_ | refine blk_alloc ?_ _)); refine blk_far ?_ NB416_428.out _; (with_reducible repeat (first | refine blk_drewN ?_ _ | refine blk_drew ?_ | refine blk_alloc ?_ _)); exact BK416.out) hb); have n4_ := Aside0.mk (blk_below (g := gb428) (o := .cells #[.string t417, .int .i64 t418, .int .i64 t419, .slice Ao15 t420.length co15, .int .i64 t423, .int .i64 t424, .int .i64 t425, .int .i64 t426, .int .i64 t427] 64 (0, 0)) (by (with_reducible repeat (first | refine blk_drewN ?_ _ | refine blk_drew ?_ | refine blk_alloc ?_ _)); refine blk_put (cs := #[.string t417, .int .i64 t418, .int .i64 t419, .slice Ao15 t420.length co15, .int .i64 t423, .int .i64 t424, .int .i64 t425, .int .i64 t426, .int .i64 0]) ?_ 8 _ rfl; (with_reducible repeat (first | refine blk_drewN ?_ _ | refine blk_drew ?_ | refine blk_alloc ?_ _)); refine blk_put (cs := #[.string t417, .int .i64 t418, .int .i64 t419, .slice Ao15 t420.length co15, .int .i64 t423, .int .i64 t424, .int .i64 t425, .int .i64 0, .int .i64 0]) ?_ 7 _ rfl; (with_reducible repeat (first | refine blk_drewN ?_ _ | refine blk_drew ?_ | refine blk_alloc ?_ _)); refine blk_put (cs := #[.string t417, .int .i64 t418, .int .i64 t419, .slice Ao15 t420.length co15, .int .i64 t423, .int .i64 t424, .int .i64 0, .int .i64 0, .int .i64 0]) ?_ 6 _ rfl; (with_reducible repeat (first | refine blk_drewN ?_ _ | refine blk_drew ?_ | refine blk_alloc ?_ _)); refine blk_put (cs := #[.string t417, .int .i64 t418, .int .i64 t419, .slice Ao15 t420.length co15, .int .i64 t423, .int .i64 0, .int .i64 0, .int .i64 0, .int .i64 0]) ?_ 5 _ rfl; (with_reducible repeat (first | refine blk_drewN ?_ _ | refine blk_drew ?_ | refine blk_alloc ?_ _)); refine blk_put (cs := #[.string t417, .int .i64 t418, .int .i64 t419, .slice Ao15 t420.length co15, .int .i64 0, .int .i64 0, .int .i64 0, .int .i64 0, .int .i64 0]) ?_ 4 _ rfl; (with_reducible repeat (first | refine blk_drewN ?_ _ | refine blk_drew ?_ | refine blk_alloc ?_ _)); refine blk_put (cs := #[.string t417, .int .i64 t418, .int .i64 t419, .slice none 0 0, .int .i64 0, .int .i64 0, .int .i64 0, .int .i64 0, .int .i64 0]) ?_ 3 _ rfl; (with_reducible repeat (first | refine blk_drewN ?_ _ | refine blk_drew ?_ | refine blk_alloc ?_ _)); refine blk_put (cs := #[.string t417, .int .i64 t418, .int .i64 0, .slice none 0 0, .int .i64 0, .int .i64 0, .int .i64 0, .int .i64 0, .int .i64 0]) ?_ 2 _ rfl; (with_reducible repeat (first | refine blk_drewN ?_ _ | refine blk_drew ?_ | refine blk_alloc ?_ _)); refine blk_put (cs := #[.string t417, .int .i64 0, .int .i64 0, .slice none 0 0, .int .i64 0, .int .i64 0, .int .i64 0, .int .i64 0, .int .i64 0]) ?_ 1 _ rfl; (with_reducible repeat (first | refine blk_drewN ?_ _ | refine blk_drew ?_ | refine blk_alloc ?_ _)); refine blk_put (cs := #[.string (⟨#[]⟩ : ByteArray), .int .i64 0, .int .i64 0, .slice none 0 0, .int .i64 0, .int .i64 0, .int .i64 0, .int .i64 0, .int .i64 0]) ?_ 0 _ rfl; (with_reducible repeat (first | refine blk_drewN ?_ _ | refine blk_drew ?_ | refine blk_alloc ?_ _)); exact BK428.out) hb); have n5_ := Aside0.mk (below_step bl_ hb); clear HO413; clear HO422; clear BK416; clear BK428; clear HB; have HO413 := n0_; have HO422 := n1_; have HO434 := n2_; have BK416 := n3_; have BK428 := n4_; have HB := n5_; clear n0_ n1_ n2_ n3_ n4_ n5_; (try clear hb); (try clear hb2); (try clear hk); (try clear hi); (try clear ho0)) | ((with_reducible refine gate_dst (N := 7) rfl ?_); refine box_event ?hg (N := 7) ?hd (cs := #[.string (⟨#[]⟩ : ByteArray), .int .i64 0, .int .i64 0, .slice none 0 0, .int .i64 0, .int .i64 0, .int .i64 0, .int .i64 0, .int .i64 0]) (t := 64) ?hr ?_; (case hd => rfl); (case hg => rfl); (case hr => exact hr_); intro gb440 hg w18 hbox hb; have n0_ := Aside0.mk (Kd.R_below (rk_ HO413) hb); have n1_ := Aside0.mk (Kd.R_below (rk_ HO422) hb); have n2_ := Aside0.mk (Kd.R_below (rk_ HO434) hb); have n3_ := Aside0.mk (blkb_ BK416 hb); have n4_ := Aside0.mk (blkb_ BK428 hb); have n5_ := Aside0.mk (below_step bl_ hb); have n6_ := Aside0.mk (hbox); have n7_ := Aside0.mk (gw_ hg bl_); have n8_ := Aside0.mk (gw_ hg bl_); have n9_ := Aside0.mk (gn_ hg (blkl_ BK416)); have n10_ := Aside0.mk (gm_ hg (blkl_ BK416)); have n11_ := Aside0.mk (gn_ hg (blkl_ BK428)); have n12_ := Aside0.mk (gm_ hg (blkl_ BK428)); clear HO413; clear HO422; clear HO434; clear BK416; clear BK428; clear HB; have HO413 := n0_; have HO422 := n1_; have HO434 := n2_; have BK416 := n3_; have BK428 := n4_; have HB := n5_; have BK440 := n6_; have GW440 := n7_; have GE440 := n8_; have NB416_440 := n9_; have NB440_416 := n10_; have NB428_440 := n11_; have NB440_428 := n12_; clear n0_ n1_ n2_ n3_ n4_ n5_ n6_ n7_ n8_ n9_ n10_ n11_ n12_; clear hb hbox hg; have hnb19 := NB440_416.out; have hnc19 := NB416_440.out; have hnb20 := NB440_428.out; have hnc20 := NB428_440.out; obtain ⟨hcz21_0, hcz21_1, hcz21_2, hcz21_3, hcz21_4, hcz21_5, hcz21_6, hcz21_7, hcz21_8, hfz21_0, hfz21_1, hfz21_2, hfz21_3, hfz21_4, hfz21_5, hfz21_6, hfz21_7, hfz21_8⟩ := cellsF9 BK440.out; obtain ⟨Ao22, co22, eo22⟩ := Kd.R_slice HO434.out; subst eo22))
    (try simp only [Act.put, List.setIfInBounds_toArray, List.set_cons_zero, List.set_cons_succ])
    go_cut [37] (fun v37 wc => ∃ (kq : Nat) (x37_5 : Bool), v37 = .bool x37_5 ∧ Aside0 (laws_FnTakeOnce.j0 kq t414 t415 x37_5 t408 t409 t410 t411 t417 t418 t419 t420 t423 t424 t425 t426 t427 t429 t430 t431 t432 t435 t436 t437 t438 t439 = some r) ∧ Aside0 (kq ≤ k) ∧ Aside0 (Kd.R k62 62 wc w.heap.size (fun k_ => some k_ ≠ ((.slice Ao15 t420.length co15) : Value).ownBlock ∧ some k_ ≠ ((.slice Ao22 t432.length co22) : Value).ownBlock) (.slice Ao10 t411.length co10) t411) ∧ Aside0 (Kd.R k62 62 wc w.heap.size (fun k_ => some k_ ≠ ((.slice Ao10 t411.length co10) : Value).ownBlock ∧ some k_ ≠ ((.slice Ao22 t432.length co22) : Value).ownBlock) (.slice Ao15 t420.length co15) t420) ∧ Aside0 (Kd.R k62 62 wc w.heap.size (fun k_ => some k_ ≠ ((.slice Ao10 t411.length co10) : Value).ownBlock ∧ some k_ ≠ ((.slice Ao15 t420.length co15) : Value).ownBlock) (.slice Ao22 t432.length co22) t432) ∧ Aside0 (wc.heap[gb416]? = some (.cells #[.string t408, .int .i64 t409, .int .i64 t410, (.slice Ao10 t411.length co10)] 51 (0, 0))) ∧ Aside0 (wc.heap[gb428]? = some (.cells #[.string t417, .int .i64 t418, .int .i64 t419, (.slice Ao15 t420.length co15), .int .i64 t423, .int .i64 t424, .int .i64 t425, .int .i64 t426, .int .i64 t427] 64 (0, 0))) ∧ Aside0 (wc.heap[gb440]? = some (.cells #[.string t429, .int .i64 t430, .int .i64 t431, (.slice Ao22 t432.length co22), .int .i64 t435, .int .i64 t436, .int .i64 t437, .int .i64 t438, .int .i64 t439] 64 (0, 0))) ∧ Aside0 (Below w.heap.size w wc))
    case first =>
      have H := HC6.out
      clear HC6
      by_cases c23 : t439 = t427
      · rw [if_pos c23] at H
        have c23b0 : (t439 == t427) = true := beq_iff_eq.mpr c23
        have c23b1 : (t439 != t427) = false := bne_eq_false_iff_eq.mpr c23
        clear c23
        (first | rw [c23b0] | (simp only [i64_w, i32_w]; rw [c23b0]) | skip)
        have H' := Aside0.mk H
        clear H
        have hnb24 := NB440_416.out
        have hnc24 := NB416_440.out
        have hnb25 := NB440_428.out
        have hnc25 := NB428_440.out
        obtain ⟨hcz26_0, hcz26_1, hcz26_2, hcz26_3, hcz26_4, hcz26_5, hcz26_6, hcz26_7, hcz26_8, hfz26_0, hfz26_1, hfz26_2, hfz26_3, hfz26_4, hfz26_5, hfz26_6, hfz26_7, hfz26_8⟩ := cellsF9 BK440.out
        have hnb27 := NB428_416.out
        have hnc27 := NB416_428.out
        obtain ⟨hcz28_0, hcz28_1, hcz28_2, hcz28_3, hcz28_4, hcz28_5, hcz28_6, hcz28_7, hcz28_8, hfz28_0, hfz28_1, hfz28_2, hfz28_3, hfz28_4, hfz28_5, hfz28_6, hfz28_7, hfz28_8⟩ := cellsF9 BK428.out
        go_wp2
        go_meet
        case rel => exact ⟨_, ((t435 != t423)), er_, H', ⟨by first | omega | exact Nat.le_refl _⟩, ⟨au16_9⟩, ⟨au16_10⟩, ⟨au16_11⟩, ⟨au16_6⟩, ⟨au16_7⟩, ⟨au16_3⟩, ⟨bl_⟩⟩
      · rw [if_neg c23] at H
        have c23b0 : (t439 == t427) = false := beq_eq_false_iff_ne.mpr c23
        have c23b1 : (t439 != t427) = true := bne_iff_ne.mpr c23
        (first | rw [c23b0] | (simp only [i64_w, i32_w]; rw [c23b0]) | skip)
        have H' := Aside0.mk H
        clear H
        have hnb29 := NB440_416.out
        have hnc29 := NB416_440.out
        have hnb30 := NB440_428.out
        have hnc30 := NB428_440.out
        obtain ⟨hcz31_0, hcz31_1, hcz31_2, hcz31_3, hcz31_4, hcz31_5, hcz31_6, hcz31_7, hcz31_8, hfz31_0, hfz31_1, hfz31_2, hfz31_3, hfz31_4, hfz31_5, hfz31_6, hfz31_7, hfz31_8⟩ := cellsF9 BK440.out
        have hnb32 := NB428_416.out
        have hnc32 := NB416_428.out
        obtain ⟨hcz33_0, hcz33_1, hcz33_2, hcz33_3, hcz33_4, hcz33_5, hcz33_6, hcz33_7, hcz33_8, hfz33_0, hfz33_1, hfz33_2, hfz33_3, hfz33_4, hfz33_5, hfz33_6, hfz33_7, hfz33_8⟩ := cellsF9 BK428.out
        go_wp2
        go_meet
        case rel => exact ⟨_, (true), er_, H', ⟨by first | omega | exact Nat.le_refl _⟩, ⟨au16_9⟩, ⟨au16_10⟩, ⟨au16_11⟩, ⟨au16_6⟩, ⟨au16_7⟩, ⟨au16_3⟩, ⟨bl_⟩⟩
    case rest =>
      clear HC6
      try clear c1
      try clear c2
      try clear c2b0
      try clear c2b1
      try clear p2
      try clear c3
      try clear c12
      try clear c13
      try clear c19
      try clear c20
      try clear c23
      try clear c23b0
      try clear c23b1
      try clear c24
      try clear c25
      try clear c27
      try clear c29
      try clear c30
      try clear c32
      try clear hcz14_0
      try clear hcz14_1
      try clear hcz14_2
      try clear hcz14_3
      try clear hcz14_4
      try clear hcz14_5
      try clear hcz14_6
      try clear hcz14_7
      try clear hcz14_8
      try clear hcz16_0
      try clear hcz16_1
      try clear hcz16_2
      try clear hcz16_3
      try clear hcz21_0
      try clear hcz21_1
      try clear hcz21_2
      try clear hcz21_3
      try clear hcz21_4
      try clear hcz21_5
      try clear hcz21_6
      try clear hcz21_7
      try clear hcz21_8
      try clear hcz26_0
      try clear hcz26_1
      try clear hcz26_2
      try clear hcz26_3
      try clear hcz26_4
      try clear hcz26_5
      try clear hcz26_6
      try clear hcz26_7
      try clear hcz26_8
      try clear hcz28_0
      try clear hcz28_1
      try clear hcz28_2
      try clear hcz28_3
      try clear hcz28_4
      try clear hcz28_5
      try clear hcz28_6
      try clear hcz28_7
      try clear hcz28_8
      try clear hcz31_0
      try clear hcz31_1
      try clear hcz31_2
      try clear hcz31_3
      try clear hcz31_4
      try clear hcz31_5
      try clear hcz31_6
      try clear hcz31_7
      try clear hcz31_8
      try clear hcz33_0
      try clear hcz33_1
      try clear hcz33_2
      try clear hcz33_3
      try clear hcz33_4
      try clear hcz33_5
      try clear hcz33_6
      try clear hcz33_7
      try clear hcz33_8
      try clear hcz9_0
      try clear hcz9_1
      try clear hcz9_2
      try clear hcz9_3
      try clear hfz14_0
      try clear hfz14_1
      try clear hfz14_2
      try clear hfz14_3
      try clear hfz14_4
      try clear hfz14_5
      try clear hfz14_6
      try clear hfz14_7
      try clear hfz14_8
      try clear hfz16_0
      try clear hfz16_1
      try clear hfz16_2
      try clear hfz16_3
      try clear hfz21_0
      try clear hfz21_1
      try clear hfz21_2
      try clear hfz21_3
      try clear hfz21_4
      try clear hfz21_5
      try clear hfz21_6
      try clear hfz21_7
      try clear hfz21_8
      try clear hfz26_0
      try clear hfz26_1
      try clear hfz26_2
      try clear hfz26_3
      try clear hfz26_4
      try clear hfz26_5
      try clear hfz26_6
      try clear hfz26_7
      try clear hfz26_8
      try clear hfz28_0
      try clear hfz28_1
      try clear hfz28_2
      try clear hfz28_3
      try clear hfz28_4
      try clear hfz28_5
      try clear hfz28_6
      try clear hfz28_7
      try clear hfz28_8
      try clear hfz31_0
      try clear hfz31_1
      try clear hfz31_2
      try clear hfz31_3
      try clear hfz31_4
      try clear hfz31_5
      try clear hfz31_6
      try clear hfz31_7
      try clear hfz31_8
      try clear hfz33_0
      try clear hfz33_1
      try clear hfz33_2
      try clear hfz33_3
      try clear hfz33_4
      try clear hfz33_5
      try clear hfz33_6
      try clear hfz33_7
      try clear hfz33_8
      try clear hfz9_0
      try clear hfz9_1
      try clear hfz9_2
      try clear hfz9_3
      obtain ⟨kq, x37_5, rfl, HA, HJ5, HO_417003, HO_429003, HO_441003, BK416, BK428, BK440, HB⟩ := hcut
      cases kq with
      | zero => exact absurd HA.out (by simp [laws_FnTakeOnce.j0])
      | succ kj5 =>
        have H := HA.out
        clear HA
        simp only [laws_FnTakeOnce.j0] at H
        by_cases c34 : x37_5 = true
        · subst c34
          have H1 : (some false) = some r := by rw [if_pos rfl] at H; exact H
          clear H
          have H := H1
          clear H1
          obtain rfl := Option.some.inj H
          go_wp2
          go_ret
          exact ⟨au16_18, bl_⟩
        · replace c34 := Bool.eq_false_iff.mpr c34
          subst c34
          have H1 : (if t427 = 0 then (laws_FnTakeOnce.j1 kj5 t414 t415 (t423 != 1) t408 t409 t410 t411 t417 t418 t419 t420 t423 t424 t425 t426 t427 t429 t430 t431 t432 t435 t436 t437 t438 t439) else (laws_FnTakeOnce.j1 kj5 t414 t415 true t408 t409 t410 t411 t417 t418 t419 t420 t423 t424 t425 t426 t427 t429 t430 t431 t432 t435 t436 t437 t438 t439)) = some r := by rw [if_neg (show ¬ (false = true) by decide)] at H; exact H
          clear H
          have H := H1
          clear H1
          have HC35 := Aside0.mk H
          clear H
          go_upto_region 8 with (fail)
          go_cut [45] (fun v45 wc => ∃ (kq : Nat) (x45_34 : Bool), v45 = .bool x45_34 ∧ Aside0 (laws_FnTakeOnce.j1 kq t414 t415 x45_34 t408 t409 t410 t411 t417 t418 t419 t420 t423 t424 t425 t426 t427 t429 t430 t431 t432 t435 t436 t437 t438 t439 = some r) ∧ Aside0 (kq ≤ kj5) ∧ Aside0 (Kd.R k62 62 wc w.heap.size (fun k_ => some k_ ≠ ((.slice Ao15 t420.length co15) : Value).ownBlock ∧ some k_ ≠ ((.slice Ao22 t432.length co22) : Value).ownBlock) (.slice Ao10 t411.length co10) t411) ∧ Aside0 (Kd.R k62 62 wc w.heap.size (fun k_ => some k_ ≠ ((.slice Ao10 t411.length co10) : Value).ownBlock ∧ some k_ ≠ ((.slice Ao22 t432.length co22) : Value).ownBlock) (.slice Ao15 t420.length co15) t420) ∧ Aside0 (Kd.R k62 62 wc w.heap.size (fun k_ => some k_ ≠ ((.slice Ao10 t411.length co10) : Value).ownBlock ∧ some k_ ≠ ((.slice Ao15 t420.length co15) : Value).ownBlock) (.slice Ao22 t432.length co22) t432) ∧ Aside0 (wc.heap[gb416]? = some (.cells #[.string t408, .int .i64 t409, .int .i64 t410, (.slice Ao10 t411.length co10)] 51 (0, 0))) ∧ Aside0 (wc.heap[gb428]? = some (.cells #[.string t417, .int .i64 t418, .int .i64 t419, (.slice Ao15 t420.length co15), .int .i64 t423, .int .i64 t424, .int .i64 t425, .int .i64 t426, .int .i64 t427] 64 (0, 0))) ∧ Aside0 (wc.heap[gb440]? = some (.cells #[.string t429, .int .i64 t430, .int .i64 t431, (.slice Ao22 t432.length co22), .int .i64 t435, .int .i64 t436, .int .i64 t437, .int .i64 t438, .int .i64 t439] 64 (0, 0))) ∧ Aside0 (Below w.heap.size w wc))
          case first =>
            have H := HC35.out
            clear HC35
            by_cases c36 : t427 = 0
            · rw [if_pos c36] at H
              have c36b0 : (t427 == 0) = true := beq_iff_eq.mpr c36
              have c36b1 : (t427 != 0) = false := bne_eq_false_iff_eq.mpr c36
              clear c36
              (first | rw [c36b0] | (simp only [i64_w, i32_w]; rw [c36b0]) | skip)
              have H' := Aside0.mk H
              clear H
              have hnb37 := NB428_416.out
              have hnc37 := NB416_428.out
              have hnb38 := NB428_440.out
              have hnc38 := NB440_428.out
              obtain ⟨hcz39_0, hcz39_1, hcz39_2, hcz39_3, hcz39_4, hcz39_5, hcz39_6, hcz39_7, hcz39_8, hfz39_0, hfz39_1, hfz39_2, hfz39_3, hfz39_4, hfz39_5, hfz39_6, hfz39_7, hfz39_8⟩ := cellsF9 BK428.out
              go_wp2
              go_meet
              case rel => exact ⟨_, ((t423 != 1)), er_, H', ⟨by have := HJ5.out; first | omega | exact Nat.le_refl _⟩, ⟨rk_ HO_417003⟩, ⟨rk_ HO_429003⟩, ⟨rk_ HO_441003⟩, ⟨bk_ BK416⟩, ⟨bk_ BK428⟩, ⟨bk_ BK440⟩, ⟨bl_⟩⟩
            · rw [if_neg c36] at H
              have c36b0 : (t427 == 0) = false := beq_eq_false_iff_ne.mpr c36
              have c36b1 : (t427 != 0) = true := bne_iff_ne.mpr c36
              (first | rw [c36b0] | (simp only [i64_w, i32_w]; rw [c36b0]) | skip)
              have H' := Aside0.mk H
              clear H
              have hnb40 := NB428_416.out
              have hnc40 := NB416_428.out
              have hnb41 := NB428_440.out
              have hnc41 := NB440_428.out
              obtain ⟨hcz42_0, hcz42_1, hcz42_2, hcz42_3, hcz42_4, hcz42_5, hcz42_6, hcz42_7, hcz42_8, hfz42_0, hfz42_1, hfz42_2, hfz42_3, hfz42_4, hfz42_5, hfz42_6, hfz42_7, hfz42_8⟩ := cellsF9 BK428.out
              go_wp2
              go_meet
              case rel => exact ⟨_, (true), er_, H', ⟨by have := HJ5.out; first | omega | exact Nat.le_refl _⟩, ⟨rk_ HO_417003⟩, ⟨rk_ HO_429003⟩, ⟨rk_ HO_441003⟩, ⟨bk_ BK416⟩, ⟨bk_ BK428⟩, ⟨bk_ BK440⟩, ⟨bl_⟩⟩
          case rest =>
            clear HC35
            try clear c1
            try clear c2
            try clear c2b0
            try clear c2b1
            try clear p2
            try clear c3
            try clear c4
            try clear c12
            try clear c13
            try clear c19
            try clear c20
            try clear c23
            try clear c23b0
            try clear c23b1
            try clear c24
            try clear c25
            try clear c27
            try clear c29
            try clear c30
            try clear c32
            try clear c34
            try clear c36
            try clear c36b0
            try clear c36b1
            try clear c37
            try clear c38
            try clear c40
            try clear c41
            try clear hcz14_0
            try clear hcz14_1
            try clear hcz14_2
            try clear hcz14_3
            try clear hcz14_4
            try clear hcz14_5
            try clear hcz14_6
            try clear hcz14_7
            try clear hcz14_8
            try clear hcz16_0
            try clear hcz16_1
            try clear hcz16_2
            try clear hcz16_3
            try clear hcz21_0
            try clear hcz21_1
            try clear hcz21_2
            try clear hcz21_3
            try clear hcz21_4
            try clear hcz21_5
            try clear hcz21_6
            try clear hcz21_7
            try clear hcz21_8
            try clear hcz26_0
            try clear hcz26_1
            try clear hcz26_2
            try clear hcz26_3
            try clear hcz26_4
            try clear hcz26_5
            try clear hcz26_6
            try clear hcz26_7
            try clear hcz26_8
            try clear hcz28_0
            try clear hcz28_1
            try clear hcz28_2
            try clear hcz28_3
            try clear hcz28_4
            try clear hcz28_5
            try clear hcz28_6
            try clear hcz28_7
            try clear hcz28_8
            try clear hcz31_0
            try clear hcz31_1
            try clear hcz31_2
            try clear hcz31_3
            try clear hcz31_4
            try clear hcz31_5
            try clear hcz31_6
            try clear hcz31_7
            try clear hcz31_8
            try clear hcz33_0
            try clear hcz33_1
            try clear hcz33_2
            try clear hcz33_3
            try clear hcz33_4
            try clear hcz33_5
            try clear hcz33_6
            try clear hcz33_7
            try clear hcz33_8
            try clear hcz39_0
            try clear hcz39_1
            try clear hcz39_2
            try clear hcz39_3
            try clear hcz39_4
            try clear hcz39_5
            try clear hcz39_6
            try clear hcz39_7
            try clear hcz39_8
            try clear hcz42_0
            try clear hcz42_1
            try clear hcz42_2
            try clear hcz42_3
            try clear hcz42_4
            try clear hcz42_5
            try clear hcz42_6
            try clear hcz42_7
            try clear hcz42_8
            try clear hcz9_0
            try clear hcz9_1
            try clear hcz9_2
            try clear hcz9_3
            try clear hfz14_0
            try clear hfz14_1
            try clear hfz14_2
            try clear hfz14_3
            try clear hfz14_4
            try clear hfz14_5
            try clear hfz14_6
            try clear hfz14_7
            try clear hfz14_8
            try clear hfz16_0
            try clear hfz16_1
            try clear hfz16_2
            try clear hfz16_3
            try clear hfz21_0
            try clear hfz21_1
            try clear hfz21_2
            try clear hfz21_3
            try clear hfz21_4
            try clear hfz21_5
            try clear hfz21_6
            try clear hfz21_7
            try clear hfz21_8
            try clear hfz26_0
            try clear hfz26_1
            try clear hfz26_2
            try clear hfz26_3
            try clear hfz26_4
            try clear hfz26_5
            try clear hfz26_6
            try clear hfz26_7
            try clear hfz26_8
            try clear hfz28_0
            try clear hfz28_1
            try clear hfz28_2
            try clear hfz28_3
            try clear hfz28_4
            try clear hfz28_5
            try clear hfz28_6
            try clear hfz28_7
            try clear hfz28_8
            try clear hfz31_0
            try clear hfz31_1
            try clear hfz31_2
            try clear hfz31_3
            try clear hfz31_4
            try clear hfz31_5
            try clear hfz31_6
            try clear hfz31_7
            try clear hfz31_8
            try clear hfz33_0
            try clear hfz33_1
            try clear hfz33_2
            try clear hfz33_3
            try clear hfz33_4
            try clear hfz33_5
            try clear hfz33_6
            try clear hfz33_7
            try clear hfz33_8
            try clear hfz39_0
            try clear hfz39_1
            try clear hfz39_2
            try clear hfz39_3
            try clear hfz39_4
            try clear hfz39_5
            try clear hfz39_6
            try clear hfz39_7
            try clear hfz39_8
            try clear hfz42_0
            try clear hfz42_1
            try clear hfz42_2
            try clear hfz42_3
            try clear hfz42_4
            try clear hfz42_5
            try clear hfz42_6
            try clear hfz42_7
            try clear hfz42_8
            try clear hfz9_0
            try clear hfz9_1
            try clear hfz9_2
            try clear hfz9_3
            try clear p2
            obtain ⟨kq, x45_34, rfl, HA, HJ34, HO_417003, HO_429003, HO_441003, BK416, BK428, BK440, HB⟩ := hcut
            cases kq with
            | zero => exact absurd HA.out (by simp [laws_FnTakeOnce.j1])
            | succ kj34 =>
              have H := HA.out
              clear HA
              simp only [laws_FnTakeOnce.j1] at H
              by_cases c43 : x45_34 = true
              · subst c43
                have H1 : (if t427 = 0 then ((laws_lwPartner.f kj34 t429 t430 t431 t432 t408 t409 t410 t411).bind fun t441 => (some t441)) else (some true)) = some r := by rw [if_pos rfl] at H; exact H
                clear H
                have H := H1
                clear H1
                by_cases c44 : t427 = 0
                · rw [if_pos c44] at H
                  have c44b0 : (t427 == 0) = true := beq_iff_eq.mpr c44
                  have c44b1 : (t427 != 0) = false := bne_eq_false_iff_eq.mpr c44
                  clear c44
                  replace H := Option.bind_eq_some_iff.mp H
                  obtain ⟨t441, A450, H⟩ := H
                  replace H : (some t441) = some r := H
                  have A45 := Aside0.mk A450
                  clear A450
                  obtain rfl := Option.some.inj H
                  have hnb46 := NB428_416.out
                  have hnc46 := NB416_428.out
                  have hnb47 := NB428_440.out
                  have hnc47 := NB440_428.out
                  obtain ⟨hcz48_0, hcz48_1, hcz48_2, hcz48_3, hcz48_4, hcz48_5, hcz48_6, hcz48_7, hcz48_8, hfz48_0, hfz48_1, hfz48_2, hfz48_3, hfz48_4, hfz48_5, hfz48_6, hfz48_7, hfz48_8⟩ := cellsF9 BK428.out
                  have hnb49 := NB440_416.out
                  have hnc49 := NB416_440.out
                  obtain ⟨hcz50_0, hcz50_1, hcz50_2, hcz50_3, hcz50_4, hcz50_5, hcz50_6, hcz50_7, hcz50_8, hfz50_0, hfz50_1, hfz50_2, hfz50_3, hfz50_4, hfz50_5, hfz50_6, hfz50_7, hfz50_8⟩ := cellsF9 BK440.out
                  obtain ⟨hcz51_0, hcz51_1, hcz51_2, hcz51_3, hfz51_0, hfz51_1, hfz51_2, hfz51_3⟩ := cellsF4 BK416.out
                  go_wp2_with (first | (go_at_call 51; (with_reducible refine (laws_lwPartner.calls kj34 t429 t430 t431 _ _ t432 t408 t409 t410 _ _ t411 t441 _ ?side1 ?side2 ?side3 ?side4 A45.out).mono ?_); (case side1 => exact au16_4); (case side2 => exact au16_19); (case side3 => repeat (first | exact (Kd.R_reads' HO_417003.out).2.2 | (with_reducible refine Kd.C_alloc ?_ _) | (with_reducible refine Kd.C_drewN ?_ _) | (with_reducible refine Kd.C_drew ?_))); (case side4 => exact (Kd.R_reads' HO_417003.out).2.1); rintro e w52 ⟨rfl, hb⟩; (try clear A45); have n0_ := Aside0.mk (Kd.R_below (rk_ HO_417003) hb); have n1_ := Aside0.mk (Kd.R_below (rk_ HO_429003) hb); have n2_ := Aside0.mk (Kd.R_below (rk_ HO_441003) hb); have n3_ := Aside0.mk (blkb_ BK416 hb); have n4_ := Aside0.mk (blkb_ BK428 hb); have n5_ := Aside0.mk (blkb_ BK440 hb); have n6_ := Aside0.mk (below_step bl_ hb); clear HO_417003; clear HO_429003; clear HO_441003; clear BK416; clear BK428; clear BK440; clear HB; have HO_417003 := n0_; have HO_429003 := n1_; have HO_441003 := n2_; have BK416 := n3_; have BK428 := n4_; have BK440 := n5_; have HB := n6_; clear n0_ n1_ n2_ n3_ n4_ n5_ n6_; (try clear hb); (try clear hb2); (try clear hk); (try clear hi)))
                  go_ret
                  exact ⟨au16_18, bl_⟩
                · rw [if_neg c44] at H
                  have c44b0 : (t427 == 0) = false := beq_eq_false_iff_ne.mpr c44
                  have c44b1 : (t427 != 0) = true := bne_iff_ne.mpr c44
                  obtain rfl := Option.some.inj H
                  have hnb53 := NB428_416.out
                  have hnc53 := NB416_428.out
                  have hnb54 := NB428_440.out
                  have hnc54 := NB440_428.out
                  obtain ⟨hcz55_0, hcz55_1, hcz55_2, hcz55_3, hcz55_4, hcz55_5, hcz55_6, hcz55_7, hcz55_8, hfz55_0, hfz55_1, hfz55_2, hfz55_3, hfz55_4, hfz55_5, hfz55_6, hfz55_7, hfz55_8⟩ := cellsF9 BK428.out
                  go_wp2
                  go_ret
                  exact ⟨au16_18, bl_⟩
              · replace c43 := Bool.eq_false_iff.mpr c43
                subst c43
                have H1 : ((impl_PartnerTake.f kj34 t429 t430 t431 t432 t414 0).bind fun bt442 => ((impl_PartnerRight.f kj34 t429 t430 t431 t432).bind fun t454 => (if t454 = true then ((impl_PartnerAsk.f kj34 t429 t430 t431 t432 t414).bind fun t455 => (if t455 = 2 then (if bt442.2.2.2.2.1 = 2 then (if (bt442.2.2.2.2.2.1 == t414 && (bt442.2.2.2.2.2.2.1 == t410 && (bt442.2.2.2.2.2.2.2.1 == t415))) = true then ((laws_lwPartner.f kj34 bt442.1 bt442.2.1 bt442.2.2.1 bt442.2.2.2.1 t429 t430 t431 t432).bind fun t456 => (some t456)) else (some false)) else (some false)) else (some false))) else (some false)))) = some r := by rw [if_neg (show ¬ (false = true) by decide)] at H; exact H
                clear H
                have H := H1
                clear H1
                replace H := Option.bind_eq_some_iff.mp H
                obtain ⟨⟨t442, t443, t444, t445, t448, t449, t450, t451, t452⟩, A560, H⟩ := H
                replace H : ((impl_PartnerRight.f kj34 t429 t430 t431 t432).bind fun t454 => (if t454 = true then ((impl_PartnerAsk.f kj34 t429 t430 t431 t432 t414).bind fun t455 => (if t455 = 2 then (if t448 = 2 then (if (t449 == t414 && (t450 == t410 && (t451 == t415))) = true then ((laws_lwPartner.f kj34 t442 t443 t444 t445 t429 t430 t431 t432).bind fun t456 => (some t456)) else (some false)) else (some false)) else (some false))) else (some false))) = some r := H
                have A56 := Aside0.mk A560
                clear A560
                replace H := Option.bind_eq_some_iff.mp H
                obtain ⟨t454, A570, H⟩ := H
                replace H : (if t454 = true then ((impl_PartnerAsk.f kj34 t429 t430 t431 t432 t414).bind fun t455 => (if t455 = 2 then (if t448 = 2 then (if (t449 == t414 && (t450 == t410 && (t451 == t415))) = true then ((laws_lwPartner.f kj34 t442 t443 t444 t445 t429 t430 t431 t432).bind fun t456 => (some t456)) else (some false)) else (some false)) else (some false))) else (some false)) = some r := H
                have A57 := Aside0.mk A570
                clear A570
                by_cases c58 : t454 = true
                · subst c58
                  have H1 : ((impl_PartnerAsk.f kj34 t429 t430 t431 t432 t414).bind fun t455 => (if t455 = 2 then (if t448 = 2 then (if (t449 == t414 && (t450 == t410 && (t451 == t415))) = true then ((laws_lwPartner.f kj34 t442 t443 t444 t445 t429 t430 t431 t432).bind fun t456 => (some t456)) else (some false)) else (some false)) else (some false))) = some r := by rw [if_pos rfl] at H; exact H
                  clear H
                  have H := H1
                  clear H1
                  replace H := Option.bind_eq_some_iff.mp H
                  obtain ⟨t455, A590, H⟩ := H
                  replace H : (if t455 = 2 then (if t448 = 2 then (if (t449 == t414 && (t450 == t410 && (t451 == t415))) = true then ((laws_lwPartner.f kj34 t442 t443 t444 t445 t429 t430 t431 t432).bind fun t456 => (some t456)) else (some false)) else (some false)) else (some false)) = some r := H
                  have A59 := Aside0.mk A590
                  clear A590
                  by_cases c60 : t455 = 2
                  · rw [if_pos c60] at H
                    have c60b0 : (t455 == 2) = true := beq_iff_eq.mpr c60
                    have c60b1 : (t455 != 2) = false := bne_eq_false_iff_eq.mpr c60
                    clear c60
                    by_cases c61 : t448 = 2
                    · rw [if_pos c61] at H
                      have c61b0 : (t448 == 2) = true := beq_iff_eq.mpr c61
                      have c61b1 : (t448 != 2) = false := bne_eq_false_iff_eq.mpr c61
                      clear c61
                      by_cases c62 : (t449 == t414 && (t450 == t410 && (t451 == t415))) = true
                      · rw [if_pos c62] at H
                        have c62b0 : (t449 == t414 && (t450 == t410 && (t451 == t415))) = true := c62
                        (try (have c62b1 : decide (t449 = t414 && (t450 == t410 && (t451 == t415))) = true := by simpa using c62))
                        (try (have c62b2 : (t449 == t414 && (t450 == t410 && (t451 == t415))) = true := by simpa using c62))
                        clear c62
                        replace H := Option.bind_eq_some_iff.mp H
                        obtain ⟨t456, A630, H⟩ := H
                        replace H : (some t456) = some r := H
                        have A63 := Aside0.mk A630
                        clear A630
                        obtain rfl := Option.some.inj H
                        have hnb64 := NB440_416.out
                        have hnc64 := NB416_440.out
                        have hnb65 := NB440_428.out
                        have hnc65 := NB428_440.out
                        obtain ⟨hcz66_0, hcz66_1, hcz66_2, hcz66_3, hcz66_4, hcz66_5, hcz66_6, hcz66_7, hcz66_8, hfz66_0, hfz66_1, hfz66_2, hfz66_3, hfz66_4, hfz66_5, hfz66_6, hfz66_7, hfz66_8⟩ := cellsF9 BK440.out
                        go_wp2_with (first | (go_at_call 45; (with_reducible refine (impl_PartnerTake.calls kj34 t429 t430 t431 _ _ t432 t414 0 t442 t443 t444 t445 t448 t449 t450 t451 t452 _ ?side1 ?side2 A56.out).mono ?_); (case side1 => exact au16_4); (case side2 => exact au16_19); rintro e w67 ⟨v446, rfl, ho0, hb⟩; (try clear A56); have n0_ := Aside0.mk (Kd.R_elder' (rk_ HO_417003) (Kd.R_base ho0) hb); have n1_ := Aside0.mk (Kd.R_elder' (rk_ HO_429003) (Kd.R_base ho0) hb); have n2_ := Aside0.mk (Kd.R_elder' (rk_ HO_441003) (Kd.R_base ho0) hb); have n3_ := Aside0.mk (Kd.R_lower (Kd.R_new' (Kd.R_new' (Kd.R_new' ho0 (Kd.R_lt (rk_ HO_417003))) (Kd.R_lt (rk_ HO_429003))) (Kd.R_lt (rk_ HO_441003))) (below_size bl_)); have n4_ := Aside0.mk (blkb_ BK416 hb); have n5_ := Aside0.mk (blkb_ BK428 hb); have n6_ := Aside0.mk (blkb_ BK440 hb); have n7_ := Aside0.mk (below_step bl_ hb); clear HO_417003; clear HO_429003; clear HO_441003; clear BK416; clear BK428; clear BK440; clear HB; have HO_417003 := n0_; have HO_429003 := n1_; have HO_441003 := n2_; have HO447 := n3_; have BK416 := n4_; have BK428 := n5_; have BK440 := n6_; have HB := n7_; clear n0_ n1_ n2_ n3_ n4_ n5_ n6_ n7_; (try clear hb); (try clear hb2); (try clear hk); (try clear hi); (try clear ho0)) | ((with_reducible refine gate_dst (N := 8) rfl ?_); refine box_event ?hg (N := 8) ?hd (cs := #[.string (⟨#[]⟩ : ByteArray), .int .i64 0, .int .i64 0, .slice none 0 0, .int .i64 0, .int .i64 0, .int .i64 0, .int .i64 0, .int .i64 0]) (t := 64) ?hr ?_; (case hd => rfl); (case hg => rfl); (case hr => exact hr_); intro gb453 hg w68 hbox hb; have n0_ := Aside0.mk (Kd.R_below (rk_ HO_417003) hb); have n1_ := Aside0.mk (Kd.R_below (rk_ HO_429003) hb); have n2_ := Aside0.mk (Kd.R_below (rk_ HO_441003) hb); have n3_ := Aside0.mk (Kd.R_below (rk_ HO447) hb); have n4_ := Aside0.mk (blkb_ BK416 hb); have n5_ := Aside0.mk (blkb_ BK428 hb); have n6_ := Aside0.mk (blkb_ BK440 hb); have n7_ := Aside0.mk (below_step bl_ hb); have n8_ := Aside0.mk (hbox); have n9_ := Aside0.mk (gw_ hg bl_); have n10_ := Aside0.mk (gw_ hg bl_); have n11_ := Aside0.mk (gn_ hg (blkl_ BK416)); have n12_ := Aside0.mk (gm_ hg (blkl_ BK416)); have n13_ := Aside0.mk (gn_ hg (blkl_ BK428)); have n14_ := Aside0.mk (gm_ hg (blkl_ BK428)); have n15_ := Aside0.mk (gn_ hg (blkl_ BK440)); have n16_ := Aside0.mk (gm_ hg (blkl_ BK440)); clear HO_417003; clear HO_429003; clear HO_441003; clear HO447; clear BK416; clear BK428; clear BK440; clear HB; have HO_417003 := n0_; have HO_429003 := n1_; have HO_441003 := n2_; have HO447 := n3_; have BK416 := n4_; have BK428 := n5_; have BK440 := n6_; have HB := n7_; have BK453 := n8_; have GW453 := n9_; have GE453 := n10_; have NB416_453 := n11_; have NB453_416 := n12_; have NB428_453 := n13_; have NB453_428 := n14_; have NB440_453 := n15_; have NB453_440 := n16_; clear n0_ n1_ n2_ n3_ n4_ n5_ n6_ n7_ n8_ n9_ n10_ n11_ n12_ n13_ n14_ n15_ n16_; clear hb hbox hg; have hnb69 := NB453_416.out; have hnc69 := NB416_453.out; have hnb70 := NB453_428.out; have hnc70 := NB428_453.out; have hnb71 := NB453_440.out; have hnc71 := NB440_453.out; obtain ⟨hcz72_0, hcz72_1, hcz72_2, hcz72_3, hcz72_4, hcz72_5, hcz72_6, hcz72_7, hcz72_8, hfz72_0, hfz72_1, hfz72_2, hfz72_3, hfz72_4, hfz72_5, hfz72_6, hfz72_7, hfz72_8⟩ := cellsF9 BK453.out; obtain ⟨Ao73, co73, eo73⟩ := Kd.R_slice HO447.out; subst eo73; obtain ⟨hcz74_0, hcz74_1, hcz74_2, hcz74_3, hcz74_4, hcz74_5, hcz74_6, hcz74_7, hcz74_8, hfz74_0, hfz74_1, hfz74_2, hfz74_3, hfz74_4, hfz74_5, hfz74_6, hfz74_7, hfz74_8⟩ := cellsF9 BK440.out) | (go_at_call 52; (with_reducible refine (impl_PartnerRight.calls kj34 t429 t430 t431 _ _ t432 true _ ?side1 ?side2 A57.out).mono ?_); (case side1 => refine (Kd.R_reads' (e := 62) (base := w.heap.size) (ok := fun k_ => ((some k_ ≠ (.slice Ao10 t411.length co10 : Value).ownBlock ∧ some k_ ≠ (.slice Ao15 t420.length co15 : Value).ownBlock) ∧ some k_ ≠ (.slice Ao73 t445.length co73 : Value).ownBlock)) (n := t432.length) (c := co22) ?_).2.2; exact au16_15); (case side2 => exact au16_19); rintro e w75 ⟨rfl, hb⟩; (try clear A57); have n0_ := Aside0.mk (Kd.R_below (by (with_reducible repeat (first | apply Kd.R_alloc | apply Kd.R_drewN | apply Kd.R_drew)); exact (Kd.R_mono (Kd.R_far (p := ⟨gb453, 8, none⟩) (Kd.R_far (p := ⟨gb453, 7, none⟩) (Kd.R_far (p := ⟨gb453, 6, none⟩) (Kd.R_far (p := ⟨gb453, 5, none⟩) (Kd.R_far (p := ⟨gb453, 4, none⟩) (Kd.R_far (p := ⟨gb453, 3, none⟩) (Kd.R_far (p := ⟨gb453, 2, none⟩) (Kd.R_far (p := ⟨gb453, 1, none⟩) (Kd.R_far (p := ⟨gb453, 0, none⟩) (Kd.R_types HO_417003.out BK453.out (by decide)) (fun _ hk => hk.2) (.string t442)) (fun _ hk => hk.2) (.int .i64 t443)) (fun _ hk => hk.2) (.int .i64 t444)) (fun _ hk => hk.2) (.slice Ao73 t445.length co73)) (fun _ hk => hk.2) (.int .i64 t448)) (fun _ hk => hk.2) (.int .i64 t449)) (fun _ hk => hk.2) (.int .i64 t450)) (fun _ hk => hk.2) (.int .i64 t451)) (fun _ hk => hk.2) (.int .i64 t452)) (fun _ h_ => h_.1))) hb); have n1_ := Aside0.mk (Kd.R_below (by (with_reducible repeat (first | apply Kd.R_alloc | apply Kd.R_drewN | apply Kd.R_drew)); exact (Kd.R_mono (Kd.R_far (p := ⟨gb453, 8, none⟩) (Kd.R_far (p := ⟨gb453, 7, none⟩) (Kd.R_far (p := ⟨gb453, 6, none⟩) (Kd.R_far (p := ⟨gb453, 5, none⟩) (Kd.R_far (p := ⟨gb453, 4, none⟩) (Kd.R_far (p := ⟨gb453, 3, none⟩) (Kd.R_far (p := ⟨gb453, 2, none⟩) (Kd.R_far (p := ⟨gb453, 1, none⟩) (Kd.R_far (p := ⟨gb453, 0, none⟩) (Kd.R_types HO_429003.out BK453.out (by decide)) (fun _ hk => hk.2) (.string t442)) (fun _ hk => hk.2) (.int .i64 t443)) (fun _ hk => hk.2) (.int .i64 t444)) (fun _ hk => hk.2) (.slice Ao73 t445.length co73)) (fun _ hk => hk.2) (.int .i64 t448)) (fun _ hk => hk.2) (.int .i64 t449)) (fun _ hk => hk.2) (.int .i64 t450)) (fun _ hk => hk.2) (.int .i64 t451)) (fun _ hk => hk.2) (.int .i64 t452)) (fun _ h_ => h_.1))) hb); have n2_ := Aside0.mk (Kd.R_below au16_15 hb); have n3_ := Aside0.mk (Kd.R_below (by (with_reducible repeat (first | apply Kd.R_alloc | apply Kd.R_drewN | apply Kd.R_drew)); exact (Kd.R_mono (Kd.R_far (p := ⟨gb453, 8, none⟩) (Kd.R_far (p := ⟨gb453, 7, none⟩) (Kd.R_far (p := ⟨gb453, 6, none⟩) (Kd.R_far (p := ⟨gb453, 5, none⟩) (Kd.R_far (p := ⟨gb453, 4, none⟩) (Kd.R_far (p := ⟨gb453, 3, none⟩) (Kd.R_far (p := ⟨gb453, 2, none⟩) (Kd.R_far (p := ⟨gb453, 1, none⟩) (Kd.R_far (p := ⟨gb453, 0, none⟩) (Kd.R_types HO447.out BK453.out (by decide)) (fun _ hk => hk.2) (.string t442)) (fun _ hk => hk.2) (.int .i64 t443)) (fun _ hk => hk.2) (.int .i64 t444)) (fun _ hk => hk.2) (.slice Ao73 t445.length co73)) (fun _ hk => hk.2) (.int .i64 t448)) (fun _ hk => hk.2) (.int .i64 t449)) (fun _ hk => hk.2) (.int .i64 t450)) (fun _ hk => hk.2) (.int .i64 t451)) (fun _ hk => hk.2) (.int .i64 t452)) (fun _ h_ => h_.1))) hb); have n4_ := Aside0.mk (blk_below (g := gb416) (o := .cells #[.string t408, .int .i64 t409, .int .i64 t410, .slice Ao10 t411.length co10] 51 (0, 0)) au16_0 hb); have n5_ := Aside0.mk (blk_below (g := gb428) (o := .cells #[.string t417, .int .i64 t418, .int .i64 t419, .slice Ao15 t420.length co15, .int .i64 t423, .int .i64 t424, .int .i64 t425, .int .i64 t426, .int .i64 t427] 64 (0, 0)) au16_1 hb); have n6_ := Aside0.mk (blk_below (g := gb440) (o := .cells #[.string t429, .int .i64 t430, .int .i64 t431, .slice Ao22 t432.length co22, .int .i64 t435, .int .i64 t436, .int .i64 t437, .int .i64 t438, .int .i64 t439] 64 (0, 0)) au16_2 hb); have n7_ := Aside0.mk (blk_below (g := gb453) (o := .cells #[.string t442, .int .i64 t443, .int .i64 t444, .slice Ao73 t445.length co73, .int .i64 t448, .int .i64 t449, .int .i64 t450, .int .i64 t451, .int .i64 t452] 64 (0, 0)) (by (with_reducible repeat (first | refine blk_drewN ?_ _ | refine blk_drew ?_ | refine blk_alloc ?_ _)); refine blk_put (cs := #[.string t442, .int .i64 t443, .int .i64 t444, .slice Ao73 t445.length co73, .int .i64 t448, .int .i64 t449, .int .i64 t450, .int .i64 t451, .int .i64 0]) ?_ 8 _ rfl; (with_reducible repeat (first | refine blk_drewN ?_ _ | refine blk_drew ?_ | refine blk_alloc ?_ _)); refine blk_put (cs := #[.string t442, .int .i64 t443, .int .i64 t444, .slice Ao73 t445.length co73, .int .i64 t448, .int .i64 t449, .int .i64 t450, .int .i64 0, .int .i64 0]) ?_ 7 _ rfl; (with_reducible repeat (first | refine blk_drewN ?_ _ | refine blk_drew ?_ | refine blk_alloc ?_ _)); refine blk_put (cs := #[.string t442, .int .i64 t443, .int .i64 t444, .slice Ao73 t445.length co73, .int .i64 t448, .int .i64 t449, .int .i64 0, .int .i64 0, .int .i64 0]) ?_ 6 _ rfl; (with_reducible repeat (first | refine blk_drewN ?_ _ | refine blk_drew ?_ | refine blk_alloc ?_ _)); refine blk_put (cs := #[.string t442, .int .i64 t443, .int .i64 t444, .slice Ao73 t445.length co73, .int .i64 t448, .int .i64 0, .int .i64 0, .int .i64 0, .int .i64 0]) ?_ 5 _ rfl; (with_reducible repeat (first | refine blk_drewN ?_ _ | refine blk_drew ?_ | refine blk_alloc ?_ _)); refine blk_put (cs := #[.string t442, .int .i64 t443, .int .i64 t444, .slice Ao73 t445.length co73, .int .i64 0, .int .i64 0, .int .i64 0, .int .i64 0, .int .i64 0]) ?_ 4 _ rfl; (with_reducible repeat (first | refine blk_drewN ?_ _ | refine blk_drew ?_ | refine blk_alloc ?_ _)); refine blk_put (cs := #[.string t442, .int .i64 t443, .int .i64 t444, .slice none 0 0, .int .i64 0, .int .i64 0, .int .i64 0, .int .i64 0, .int .i64 0]) ?_ 3 _ rfl; (with_reducible repeat (first | refine blk_drewN ?_ _ | refine blk_drew ?_ | refine blk_alloc ?_ _)); refine blk_put (cs := #[.string t442, .int .i64 t443, .int .i64 0, .slice none 0 0, .int .i64 0, .int .i64 0, .int .i64 0, .int .i64 0, .int .i64 0]) ?_ 2 _ rfl; (with_reducible repeat (first | refine blk_drewN ?_ _ | refine blk_drew ?_ | refine blk_alloc ?_ _)); refine blk_put (cs := #[.string t442, .int .i64 0, .int .i64 0, .slice none 0 0, .int .i64 0, .int .i64 0, .int .i64 0, .int .i64 0, .int .i64 0]) ?_ 1 _ rfl; (with_reducible repeat (first | refine blk_drewN ?_ _ | refine blk_drew ?_ | refine blk_alloc ?_ _)); refine blk_put (cs := #[.string (⟨#[]⟩ : ByteArray), .int .i64 0, .int .i64 0, .slice none 0 0, .int .i64 0, .int .i64 0, .int .i64 0, .int .i64 0, .int .i64 0]) ?_ 0 _ rfl; (with_reducible repeat (first | refine blk_drewN ?_ _ | refine blk_drew ?_ | refine blk_alloc ?_ _)); exact BK453.out) hb); have n8_ := Aside0.mk (below_step bl_ hb); clear HO_417003; clear HO_429003; clear HO_441003; clear HO447; clear BK416; clear BK428; clear BK440; clear BK453; clear HB; have HO_417003 := n0_; have HO_429003 := n1_; have HO_441003 := n2_; have HO447 := n3_; have BK416 := n4_; have BK428 := n5_; have BK440 := n6_; have BK453 := n7_; have HB := n8_; clear n0_ n1_ n2_ n3_ n4_ n5_ n6_ n7_ n8_; (try clear hb); (try clear hb2); (try clear hk); (try clear hi); obtain ⟨hcz76_0, hcz76_1, hcz76_2, hcz76_3, hcz76_4, hcz76_5, hcz76_6, hcz76_7, hcz76_8, hfz76_0, hfz76_1, hfz76_2, hfz76_3, hfz76_4, hfz76_5, hfz76_6, hfz76_7, hfz76_8⟩ := cellsF9 BK440.out) | (go_at_call 36; (with_reducible refine (impl_PartnerAsk.calls kj34 t429 t430 t431 _ _ t432 t414 t455 _ ?side1 ?side2 A59.out).mono ?_); (case side1 => exact au16_4); (case side2 => exact au16_19); rintro e w77 ⟨rfl, hb⟩; (try clear A59); have n0_ := Aside0.mk (Kd.R_below (rk_ HO_417003) hb); have n1_ := Aside0.mk (Kd.R_below (rk_ HO_429003) hb); have n2_ := Aside0.mk (Kd.R_below (rk_ HO_441003) hb); have n3_ := Aside0.mk (Kd.R_below (rk_ HO447) hb); have n4_ := Aside0.mk (blkb_ BK416 hb); have n5_ := Aside0.mk (blkb_ BK428 hb); have n6_ := Aside0.mk (blkb_ BK440 hb); have n7_ := Aside0.mk (blkb_ BK453 hb); have n8_ := Aside0.mk (below_step bl_ hb); clear HO_417003; clear HO_429003; clear HO_441003; clear HO447; clear BK416; clear BK428; clear BK440; clear BK453; clear HB; have HO_417003 := n0_; have HO_429003 := n1_; have HO_441003 := n2_; have HO447 := n3_; have BK416 := n4_; have BK428 := n5_; have BK440 := n6_; have BK453 := n7_; have HB := n8_; clear n0_ n1_ n2_ n3_ n4_ n5_ n6_ n7_ n8_; (try clear hb); (try clear hb2); (try clear hk); (try clear hi); obtain ⟨hcz78_0, hcz78_1, hcz78_2, hcz78_3, hcz78_4, hcz78_5, hcz78_6, hcz78_7, hcz78_8, hfz78_0, hfz78_1, hfz78_2, hfz78_3, hfz78_4, hfz78_5, hfz78_6, hfz78_7, hfz78_8⟩ := cellsF9 BK453.out; have hnb79 := NB416_428.out; have hnc79 := NB428_416.out; obtain ⟨hcz80_0, hcz80_1, hcz80_2, hcz80_3, hfz80_0, hfz80_1, hfz80_2, hfz80_3⟩ := cellsF4 BK416.out; obtain ⟨hcz81_0, hcz81_1, hcz81_2, hcz81_3, hcz81_4, hcz81_5, hcz81_6, hcz81_7, hcz81_8, hfz81_0, hfz81_1, hfz81_2, hfz81_3, hfz81_4, hfz81_5, hfz81_6, hfz81_7, hfz81_8⟩ := cellsF9 BK440.out) | (go_at_call 51; (with_reducible refine (laws_lwPartner.calls kj34 t442 t443 t444 _ _ t445 t429 t430 t431 _ _ t432 t456 _ ?side1 ?side2 ?side3 ?side4 A63.out).mono ?_); (case side1 => repeat (first | exact (Kd.R_reads' HO447.out).2.2 | (with_reducible refine Kd.C_alloc ?_ _) | (with_reducible refine Kd.C_drewN ?_ _) | (with_reducible refine Kd.C_drew ?_))); (case side2 => exact (Kd.R_reads' HO447.out).2.1); (case side3 => exact au16_4); (case side4 => exact au16_19); rintro e w82 ⟨rfl, hb⟩; (try clear A63); have n0_ := Aside0.mk (Kd.R_below (rk_ HO_417003) hb); have n1_ := Aside0.mk (Kd.R_below (rk_ HO_429003) hb); have n2_ := Aside0.mk (Kd.R_below (rk_ HO_441003) hb); have n3_ := Aside0.mk (Kd.R_below (rk_ HO447) hb); have n4_ := Aside0.mk (blkb_ BK416 hb); have n5_ := Aside0.mk (blkb_ BK428 hb); have n6_ := Aside0.mk (blkb_ BK440 hb); have n7_ := Aside0.mk (blkb_ BK453 hb); have n8_ := Aside0.mk (below_step bl_ hb); clear HO_417003; clear HO_429003; clear HO_441003; clear HO447; clear BK416; clear BK428; clear BK440; clear BK453; clear HB; have HO_417003 := n0_; have HO_429003 := n1_; have HO_441003 := n2_; have HO447 := n3_; have BK416 := n4_; have BK428 := n5_; have BK440 := n6_; have BK453 := n7_; have HB := n8_; clear n0_ n1_ n2_ n3_ n4_ n5_ n6_ n7_ n8_; (try clear hb); (try clear hb2); (try clear hk); (try clear hi)))
                        go_ret
                        exact ⟨au16_18, bl_⟩
                      · rw [if_neg c62] at H
                        have c62b0 : (t449 == t414 && (t450 == t410 && (t451 == t415))) = false := by simpa using c62
                        (try (have c62b1 : decide (t449 = t414 && (t450 == t410 && (t451 == t415))) = false := by simpa using c62))
                        (try (have c62b2 : (t449 == t414 && (t450 == t410 && (t451 == t415))) = false := by simpa using c62))
                        (try (have c62b3 : ¬ (t449 = t414 && (t450 == t410 && (t451 == t415))) := by simpa using c62))
                        clear c62
                        obtain rfl := Option.some.inj H
                        have hnb83 := NB440_416.out
                        have hnc83 := NB416_440.out
                        have hnb84 := NB440_428.out
                        have hnc84 := NB428_440.out
                        obtain ⟨hcz85_0, hcz85_1, hcz85_2, hcz85_3, hcz85_4, hcz85_5, hcz85_6, hcz85_7, hcz85_8, hfz85_0, hfz85_1, hfz85_2, hfz85_3, hfz85_4, hfz85_5, hfz85_6, hfz85_7, hfz85_8⟩ := cellsF9 BK440.out
                        go_wp2_with (first | (go_at_call 45; (with_reducible refine (impl_PartnerTake.calls kj34 t429 t430 t431 _ _ t432 t414 0 t442 t443 t444 t445 t448 t449 t450 t451 t452 _ ?side1 ?side2 A56.out).mono ?_); (case side1 => exact au16_4); (case side2 => exact au16_19); rintro e w86 ⟨v446, rfl, ho0, hb⟩; (try clear A56); have n0_ := Aside0.mk (Kd.R_elder' (rk_ HO_417003) (Kd.R_base ho0) hb); have n1_ := Aside0.mk (Kd.R_elder' (rk_ HO_429003) (Kd.R_base ho0) hb); have n2_ := Aside0.mk (Kd.R_elder' (rk_ HO_441003) (Kd.R_base ho0) hb); have n3_ := Aside0.mk (Kd.R_lower (Kd.R_new' (Kd.R_new' (Kd.R_new' ho0 (Kd.R_lt (rk_ HO_417003))) (Kd.R_lt (rk_ HO_429003))) (Kd.R_lt (rk_ HO_441003))) (below_size bl_)); have n4_ := Aside0.mk (blkb_ BK416 hb); have n5_ := Aside0.mk (blkb_ BK428 hb); have n6_ := Aside0.mk (blkb_ BK440 hb); have n7_ := Aside0.mk (below_step bl_ hb); clear HO_417003; clear HO_429003; clear HO_441003; clear BK416; clear BK428; clear BK440; clear HB; have HO_417003 := n0_; have HO_429003 := n1_; have HO_441003 := n2_; have HO447 := n3_; have BK416 := n4_; have BK428 := n5_; have BK440 := n6_; have HB := n7_; clear n0_ n1_ n2_ n3_ n4_ n5_ n6_ n7_; (try clear hb); (try clear hb2); (try clear hk); (try clear hi); (try clear ho0)) | ((with_reducible refine gate_dst (N := 8) rfl ?_); refine box_event ?hg (N := 8) ?hd (cs := #[.string (⟨#[]⟩ : ByteArray), .int .i64 0, .int .i64 0, .slice none 0 0, .int .i64 0, .int .i64 0, .int .i64 0, .int .i64 0, .int .i64 0]) (t := 64) ?hr ?_; (case hd => rfl); (case hg => rfl); (case hr => exact hr_); intro gb453 hg w87 hbox hb; have n0_ := Aside0.mk (Kd.R_below (rk_ HO_417003) hb); have n1_ := Aside0.mk (Kd.R_below (rk_ HO_429003) hb); have n2_ := Aside0.mk (Kd.R_below (rk_ HO_441003) hb); have n3_ := Aside0.mk (Kd.R_below (rk_ HO447) hb); have n4_ := Aside0.mk (blkb_ BK416 hb); have n5_ := Aside0.mk (blkb_ BK428 hb); have n6_ := Aside0.mk (blkb_ BK440 hb); have n7_ := Aside0.mk (below_step bl_ hb); have n8_ := Aside0.mk (hbox); have n9_ := Aside0.mk (gw_ hg bl_); have n10_ := Aside0.mk (gw_ hg bl_); have n11_ := Aside0.mk (gn_ hg (blkl_ BK416)); have n12_ := Aside0.mk (gm_ hg (blkl_ BK416)); have n13_ := Aside0.mk (gn_ hg (blkl_ BK428)); have n14_ := Aside0.mk (gm_ hg (blkl_ BK428)); have n15_ := Aside0.mk (gn_ hg (blkl_ BK440)); have n16_ := Aside0.mk (gm_ hg (blkl_ BK440)); clear HO_417003; clear HO_429003; clear HO_441003; clear HO447; clear BK416; clear BK428; clear BK440; clear HB; have HO_417003 := n0_; have HO_429003 := n1_; have HO_441003 := n2_; have HO447 := n3_; have BK416 := n4_; have BK428 := n5_; have BK440 := n6_; have HB := n7_; have BK453 := n8_; have GW453 := n9_; have GE453 := n10_; have NB416_453 := n11_; have NB453_416 := n12_; have NB428_453 := n13_; have NB453_428 := n14_; have NB440_453 := n15_; have NB453_440 := n16_; clear n0_ n1_ n2_ n3_ n4_ n5_ n6_ n7_ n8_ n9_ n10_ n11_ n12_ n13_ n14_ n15_ n16_; clear hb hbox hg; have hnb88 := NB453_416.out; have hnc88 := NB416_453.out; have hnb89 := NB453_428.out; have hnc89 := NB428_453.out; have hnb90 := NB453_440.out; have hnc90 := NB440_453.out; obtain ⟨hcz91_0, hcz91_1, hcz91_2, hcz91_3, hcz91_4, hcz91_5, hcz91_6, hcz91_7, hcz91_8, hfz91_0, hfz91_1, hfz91_2, hfz91_3, hfz91_4, hfz91_5, hfz91_6, hfz91_7, hfz91_8⟩ := cellsF9 BK453.out; obtain ⟨Ao92, co92, eo92⟩ := Kd.R_slice HO447.out; subst eo92; obtain ⟨hcz93_0, hcz93_1, hcz93_2, hcz93_3, hcz93_4, hcz93_5, hcz93_6, hcz93_7, hcz93_8, hfz93_0, hfz93_1, hfz93_2, hfz93_3, hfz93_4, hfz93_5, hfz93_6, hfz93_7, hfz93_8⟩ := cellsF9 BK440.out) | (go_at_call 52; (with_reducible refine (impl_PartnerRight.calls kj34 t429 t430 t431 _ _ t432 true _ ?side1 ?side2 A57.out).mono ?_); (case side1 => refine (Kd.R_reads' (e := 62) (base := w.heap.size) (ok := fun k_ => ((some k_ ≠ (.slice Ao10 t411.length co10 : Value).ownBlock ∧ some k_ ≠ (.slice Ao15 t420.length co15 : Value).ownBlock) ∧ some k_ ≠ (.slice Ao92 t445.length co92 : Value).ownBlock)) (n := t432.length) (c := co22) ?_).2.2; exact au16_16); (case side2 => exact au16_19); rintro e w94 ⟨rfl, hb⟩; (try clear A57); have n0_ := Aside0.mk (Kd.R_below (by (with_reducible repeat (first | apply Kd.R_alloc | apply Kd.R_drewN | apply Kd.R_drew)); exact (Kd.R_mono (Kd.R_far (p := ⟨gb453, 8, none⟩) (Kd.R_far (p := ⟨gb453, 7, none⟩) (Kd.R_far (p := ⟨gb453, 6, none⟩) (Kd.R_far (p := ⟨gb453, 5, none⟩) (Kd.R_far (p := ⟨gb453, 4, none⟩) (Kd.R_far (p := ⟨gb453, 3, none⟩) (Kd.R_far (p := ⟨gb453, 2, none⟩) (Kd.R_far (p := ⟨gb453, 1, none⟩) (Kd.R_far (p := ⟨gb453, 0, none⟩) (Kd.R_types HO_417003.out BK453.out (by decide)) (fun _ hk => hk.2) (.string t442)) (fun _ hk => hk.2) (.int .i64 t443)) (fun _ hk => hk.2) (.int .i64 t444)) (fun _ hk => hk.2) (.slice Ao92 t445.length co92)) (fun _ hk => hk.2) (.int .i64 t448)) (fun _ hk => hk.2) (.int .i64 t449)) (fun _ hk => hk.2) (.int .i64 t450)) (fun _ hk => hk.2) (.int .i64 t451)) (fun _ hk => hk.2) (.int .i64 t452)) (fun _ h_ => h_.1))) hb); have n1_ := Aside0.mk (Kd.R_below (by (with_reducible repeat (first | apply Kd.R_alloc | apply Kd.R_drewN | apply Kd.R_drew)); exact (Kd.R_mono (Kd.R_far (p := ⟨gb453, 8, none⟩) (Kd.R_far (p := ⟨gb453, 7, none⟩) (Kd.R_far (p := ⟨gb453, 6, none⟩) (Kd.R_far (p := ⟨gb453, 5, none⟩) (Kd.R_far (p := ⟨gb453, 4, none⟩) (Kd.R_far (p := ⟨gb453, 3, none⟩) (Kd.R_far (p := ⟨gb453, 2, none⟩) (Kd.R_far (p := ⟨gb453, 1, none⟩) (Kd.R_far (p := ⟨gb453, 0, none⟩) (Kd.R_types HO_429003.out BK453.out (by decide)) (fun _ hk => hk.2) (.string t442)) (fun _ hk => hk.2) (.int .i64 t443)) (fun _ hk => hk.2) (.int .i64 t444)) (fun _ hk => hk.2) (.slice Ao92 t445.length co92)) (fun _ hk => hk.2) (.int .i64 t448)) (fun _ hk => hk.2) (.int .i64 t449)) (fun _ hk => hk.2) (.int .i64 t450)) (fun _ hk => hk.2) (.int .i64 t451)) (fun _ hk => hk.2) (.int .i64 t452)) (fun _ h_ => h_.1))) hb); have n2_ := Aside0.mk (Kd.R_below au16_16 hb); have n3_ := Aside0.mk (Kd.R_below (by (with_reducible repeat (first | apply Kd.R_alloc | apply Kd.R_drewN | apply Kd.R_drew)); exact (Kd.R_mono (Kd.R_far (p := ⟨gb453, 8, none⟩) (Kd.R_far (p := ⟨gb453, 7, none⟩) (Kd.R_far (p := ⟨gb453, 6, none⟩) (Kd.R_far (p := ⟨gb453, 5, none⟩) (Kd.R_far (p := ⟨gb453, 4, none⟩) (Kd.R_far (p := ⟨gb453, 3, none⟩) (Kd.R_far (p := ⟨gb453, 2, none⟩) (Kd.R_far (p := ⟨gb453, 1, none⟩) (Kd.R_far (p := ⟨gb453, 0, none⟩) (Kd.R_types HO447.out BK453.out (by decide)) (fun _ hk => hk.2) (.string t442)) (fun _ hk => hk.2) (.int .i64 t443)) (fun _ hk => hk.2) (.int .i64 t444)) (fun _ hk => hk.2) (.slice Ao92 t445.length co92)) (fun _ hk => hk.2) (.int .i64 t448)) (fun _ hk => hk.2) (.int .i64 t449)) (fun _ hk => hk.2) (.int .i64 t450)) (fun _ hk => hk.2) (.int .i64 t451)) (fun _ hk => hk.2) (.int .i64 t452)) (fun _ h_ => h_.1))) hb); have n4_ := Aside0.mk (blk_below (g := gb416) (o := .cells #[.string t408, .int .i64 t409, .int .i64 t410, .slice Ao10 t411.length co10] 51 (0, 0)) au16_0 hb); have n5_ := Aside0.mk (blk_below (g := gb428) (o := .cells #[.string t417, .int .i64 t418, .int .i64 t419, .slice Ao15 t420.length co15, .int .i64 t423, .int .i64 t424, .int .i64 t425, .int .i64 t426, .int .i64 t427] 64 (0, 0)) au16_1 hb); have n6_ := Aside0.mk (blk_below (g := gb440) (o := .cells #[.string t429, .int .i64 t430, .int .i64 t431, .slice Ao22 t432.length co22, .int .i64 t435, .int .i64 t436, .int .i64 t437, .int .i64 t438, .int .i64 t439] 64 (0, 0)) au16_2 hb); have n7_ := Aside0.mk (blk_below (g := gb453) (o := .cells #[.string t442, .int .i64 t443, .int .i64 t444, .slice Ao92 t445.length co92, .int .i64 t448, .int .i64 t449, .int .i64 t450, .int .i64 t451, .int .i64 t452] 64 (0, 0)) (by (with_reducible repeat (first | refine blk_drewN ?_ _ | refine blk_drew ?_ | refine blk_alloc ?_ _)); refine blk_put (cs := #[.string t442, .int .i64 t443, .int .i64 t444, .slice Ao92 t445.length co92, .int .i64 t448, .int .i64 t449, .int .i64 t450, .int .i64 t451, .int .i64 0]) ?_ 8 _ rfl; (with_reducible repeat (first | refine blk_drewN ?_ _ | refine blk_drew ?_ | refine blk_alloc ?_ _)); refine blk_put (cs := #[.string t442, .int .i64 t443, .int .i64 t444, .slice Ao92 t445.length co92, .int .i64 t448, .int .i64 t449, .int .i64 t450, .int .i64 0, .int .i64 0]) ?_ 7 _ rfl; (with_reducible repeat (first | refine blk_drewN ?_ _ | refine blk_drew ?_ | refine blk_alloc ?_ _)); refine blk_put (cs := #[.string t442, .int .i64 t443, .int .i64 t444, .slice Ao92 t445.length co92, .int .i64 t448, .int .i64 t449, .int .i64 0, .int .i64 0, .int .i64 0]) ?_ 6 _ rfl; (with_reducible repeat (first | refine blk_drewN ?_ _ | refine blk_drew ?_ | refine blk_alloc ?_ _)); refine blk_put (cs := #[.string t442, .int .i64 t443, .int .i64 t444, .slice Ao92 t445.length co92, .int .i64 t448, .int .i64 0, .int .i64 0, .int .i64 0, .int .i64 0]) ?_ 5 _ rfl; (with_reducible repeat (first | refine blk_drewN ?_ _ | refine blk_drew ?_ | refine blk_alloc ?_ _)); refine blk_put (cs := #[.string t442, .int .i64 t443, .int .i64 t444, .slice Ao92 t445.length co92, .int .i64 0, .int .i64 0, .int .i64 0, .int .i64 0, .int .i64 0]) ?_ 4 _ rfl; (with_reducible repeat (first | refine blk_drewN ?_ _ | refine blk_drew ?_ | refine blk_alloc ?_ _)); refine blk_put (cs := #[.string t442, .int .i64 t443, .int .i64 t444, .slice none 0 0, .int .i64 0, .int .i64 0, .int .i64 0, .int .i64 0, .int .i64 0]) ?_ 3 _ rfl; (with_reducible repeat (first | refine blk_drewN ?_ _ | refine blk_drew ?_ | refine blk_alloc ?_ _)); refine blk_put (cs := #[.string t442, .int .i64 t443, .int .i64 0, .slice none 0 0, .int .i64 0, .int .i64 0, .int .i64 0, .int .i64 0, .int .i64 0]) ?_ 2 _ rfl; (with_reducible repeat (first | refine blk_drewN ?_ _ | refine blk_drew ?_ | refine blk_alloc ?_ _)); refine blk_put (cs := #[.string t442, .int .i64 0, .int .i64 0, .slice none 0 0, .int .i64 0, .int .i64 0, .int .i64 0, .int .i64 0, .int .i64 0]) ?_ 1 _ rfl; (with_reducible repeat (first | refine blk_drewN ?_ _ | refine blk_drew ?_ | refine blk_alloc ?_ _)); refine blk_put (cs := #[.string (⟨#[]⟩ : ByteArray), .int .i64 0, .int .i64 0, .slice none 0 0, .int .i64 0, .int .i64 0, .int .i64 0, .int .i64 0, .int .i64 0]) ?_ 0 _ rfl; (with_reducible repeat (first | refine blk_drewN ?_ _ | refine blk_drew ?_ | refine blk_alloc ?_ _)); exact BK453.out) hb); have n8_ := Aside0.mk (below_step bl_ hb); clear HO_417003; clear HO_429003; clear HO_441003; clear HO447; clear BK416; clear BK428; clear BK440; clear BK453; clear HB; have HO_417003 := n0_; have HO_429003 := n1_; have HO_441003 := n2_; have HO447 := n3_; have BK416 := n4_; have BK428 := n5_; have BK440 := n6_; have BK453 := n7_; have HB := n8_; clear n0_ n1_ n2_ n3_ n4_ n5_ n6_ n7_ n8_; (try clear hb); (try clear hb2); (try clear hk); (try clear hi); obtain ⟨hcz95_0, hcz95_1, hcz95_2, hcz95_3, hcz95_4, hcz95_5, hcz95_6, hcz95_7, hcz95_8, hfz95_0, hfz95_1, hfz95_2, hfz95_3, hfz95_4, hfz95_5, hfz95_6, hfz95_7, hfz95_8⟩ := cellsF9 BK440.out) | (go_at_call 36; (with_reducible refine (impl_PartnerAsk.calls kj34 t429 t430 t431 _ _ t432 t414 t455 _ ?side1 ?side2 A59.out).mono ?_); (case side1 => exact au16_4); (case side2 => exact au16_19); rintro e w96 ⟨rfl, hb⟩; (try clear A59); have n0_ := Aside0.mk (Kd.R_below (rk_ HO_417003) hb); have n1_ := Aside0.mk (Kd.R_below (rk_ HO_429003) hb); have n2_ := Aside0.mk (Kd.R_below (rk_ HO_441003) hb); have n3_ := Aside0.mk (Kd.R_below (rk_ HO447) hb); have n4_ := Aside0.mk (blkb_ BK416 hb); have n5_ := Aside0.mk (blkb_ BK428 hb); have n6_ := Aside0.mk (blkb_ BK440 hb); have n7_ := Aside0.mk (blkb_ BK453 hb); have n8_ := Aside0.mk (below_step bl_ hb); clear HO_417003; clear HO_429003; clear HO_441003; clear HO447; clear BK416; clear BK428; clear BK440; clear BK453; clear HB; have HO_417003 := n0_; have HO_429003 := n1_; have HO_441003 := n2_; have HO447 := n3_; have BK416 := n4_; have BK428 := n5_; have BK440 := n6_; have BK453 := n7_; have HB := n8_; clear n0_ n1_ n2_ n3_ n4_ n5_ n6_ n7_ n8_; (try clear hb); (try clear hb2); (try clear hk); (try clear hi); obtain ⟨hcz97_0, hcz97_1, hcz97_2, hcz97_3, hcz97_4, hcz97_5, hcz97_6, hcz97_7, hcz97_8, hfz97_0, hfz97_1, hfz97_2, hfz97_3, hfz97_4, hfz97_5, hfz97_6, hfz97_7, hfz97_8⟩ := cellsF9 BK453.out; have hnb98 := NB416_428.out; have hnc98 := NB428_416.out; obtain ⟨hcz99_0, hcz99_1, hcz99_2, hcz99_3, hfz99_0, hfz99_1, hfz99_2, hfz99_3⟩ := cellsF4 BK416.out))
                        go_ret
                        exact ⟨au16_18, bl_⟩
                    · rw [if_neg c61] at H
                      have c61b0 : (t448 == 2) = false := beq_eq_false_iff_ne.mpr c61
                      have c61b1 : (t448 != 2) = true := bne_iff_ne.mpr c61
                      obtain rfl := Option.some.inj H
                      have hnb100 := NB440_416.out
                      have hnc100 := NB416_440.out
                      have hnb101 := NB440_428.out
                      have hnc101 := NB428_440.out
                      obtain ⟨hcz102_0, hcz102_1, hcz102_2, hcz102_3, hcz102_4, hcz102_5, hcz102_6, hcz102_7, hcz102_8, hfz102_0, hfz102_1, hfz102_2, hfz102_3, hfz102_4, hfz102_5, hfz102_6, hfz102_7, hfz102_8⟩ := cellsF9 BK440.out
                      go_wp2_with (first | (go_at_call 45; (with_reducible refine (impl_PartnerTake.calls kj34 t429 t430 t431 _ _ t432 t414 0 t442 t443 t444 t445 t448 t449 t450 t451 t452 _ ?side1 ?side2 A56.out).mono ?_); (case side1 => exact au16_4); (case side2 => exact au16_19); rintro e w103 ⟨v446, rfl, ho0, hb⟩; (try clear A56); have n0_ := Aside0.mk (Kd.R_elder' (rk_ HO_417003) (Kd.R_base ho0) hb); have n1_ := Aside0.mk (Kd.R_elder' (rk_ HO_429003) (Kd.R_base ho0) hb); have n2_ := Aside0.mk (Kd.R_elder' (rk_ HO_441003) (Kd.R_base ho0) hb); have n3_ := Aside0.mk (Kd.R_lower (Kd.R_new' (Kd.R_new' (Kd.R_new' ho0 (Kd.R_lt (rk_ HO_417003))) (Kd.R_lt (rk_ HO_429003))) (Kd.R_lt (rk_ HO_441003))) (below_size bl_)); have n4_ := Aside0.mk (blkb_ BK416 hb); have n5_ := Aside0.mk (blkb_ BK428 hb); have n6_ := Aside0.mk (blkb_ BK440 hb); have n7_ := Aside0.mk (below_step bl_ hb); clear HO_417003; clear HO_429003; clear HO_441003; clear BK416; clear BK428; clear BK440; clear HB; have HO_417003 := n0_; have HO_429003 := n1_; have HO_441003 := n2_; have HO447 := n3_; have BK416 := n4_; have BK428 := n5_; have BK440 := n6_; have HB := n7_; clear n0_ n1_ n2_ n3_ n4_ n5_ n6_ n7_; (try clear hb); (try clear hb2); (try clear hk); (try clear hi); (try clear ho0)) | ((with_reducible refine gate_dst (N := 8) rfl ?_); refine box_event ?hg (N := 8) ?hd (cs := #[.string (⟨#[]⟩ : ByteArray), .int .i64 0, .int .i64 0, .slice none 0 0, .int .i64 0, .int .i64 0, .int .i64 0, .int .i64 0, .int .i64 0]) (t := 64) ?hr ?_; (case hd => rfl); (case hg => rfl); (case hr => exact hr_); intro gb453 hg w104 hbox hb; have n0_ := Aside0.mk (Kd.R_below (rk_ HO_417003) hb); have n1_ := Aside0.mk (Kd.R_below (rk_ HO_429003) hb); have n2_ := Aside0.mk (Kd.R_below (rk_ HO_441003) hb); have n3_ := Aside0.mk (Kd.R_below (rk_ HO447) hb); have n4_ := Aside0.mk (blkb_ BK416 hb); have n5_ := Aside0.mk (blkb_ BK428 hb); have n6_ := Aside0.mk (blkb_ BK440 hb); have n7_ := Aside0.mk (below_step bl_ hb); have n8_ := Aside0.mk (hbox); have n9_ := Aside0.mk (gw_ hg bl_); have n10_ := Aside0.mk (gw_ hg bl_); have n11_ := Aside0.mk (gn_ hg (blkl_ BK416)); have n12_ := Aside0.mk (gm_ hg (blkl_ BK416)); have n13_ := Aside0.mk (gn_ hg (blkl_ BK428)); have n14_ := Aside0.mk (gm_ hg (blkl_ BK428)); have n15_ := Aside0.mk (gn_ hg (blkl_ BK440)); have n16_ := Aside0.mk (gm_ hg (blkl_ BK440)); clear HO_417003; clear HO_429003; clear HO_441003; clear HO447; clear BK416; clear BK428; clear BK440; clear HB; have HO_417003 := n0_; have HO_429003 := n1_; have HO_441003 := n2_; have HO447 := n3_; have BK416 := n4_; have BK428 := n5_; have BK440 := n6_; have HB := n7_; have BK453 := n8_; have GW453 := n9_; have GE453 := n10_; have NB416_453 := n11_; have NB453_416 := n12_; have NB428_453 := n13_; have NB453_428 := n14_; have NB440_453 := n15_; have NB453_440 := n16_; clear n0_ n1_ n2_ n3_ n4_ n5_ n6_ n7_ n8_ n9_ n10_ n11_ n12_ n13_ n14_ n15_ n16_; clear hb hbox hg; have hnb105 := NB453_416.out; have hnc105 := NB416_453.out; have hnb106 := NB453_428.out; have hnc106 := NB428_453.out; have hnb107 := NB453_440.out; have hnc107 := NB440_453.out; obtain ⟨hcz108_0, hcz108_1, hcz108_2, hcz108_3, hcz108_4, hcz108_5, hcz108_6, hcz108_7, hcz108_8, hfz108_0, hfz108_1, hfz108_2, hfz108_3, hfz108_4, hfz108_5, hfz108_6, hfz108_7, hfz108_8⟩ := cellsF9 BK453.out; obtain ⟨Ao109, co109, eo109⟩ := Kd.R_slice HO447.out; subst eo109; obtain ⟨hcz110_0, hcz110_1, hcz110_2, hcz110_3, hcz110_4, hcz110_5, hcz110_6, hcz110_7, hcz110_8, hfz110_0, hfz110_1, hfz110_2, hfz110_3, hfz110_4, hfz110_5, hfz110_6, hfz110_7, hfz110_8⟩ := cellsF9 BK440.out) | (go_at_call 52; (with_reducible refine (impl_PartnerRight.calls kj34 t429 t430 t431 _ _ t432 true _ ?side1 ?side2 A57.out).mono ?_); (case side1 => refine (Kd.R_reads' (e := 62) (base := w.heap.size) (ok := fun k_ => ((some k_ ≠ (.slice Ao10 t411.length co10 : Value).ownBlock ∧ some k_ ≠ (.slice Ao15 t420.length co15 : Value).ownBlock) ∧ some k_ ≠ (.slice Ao109 t445.length co109 : Value).ownBlock)) (n := t432.length) (c := co22) ?_).2.2; exact au16_12); (case side2 => exact au16_19); rintro e w111 ⟨rfl, hb⟩; (try clear A57); have n0_ := Aside0.mk (Kd.R_below (by (with_reducible repeat (first | apply Kd.R_alloc | apply Kd.R_drewN | apply Kd.R_drew)); exact (Kd.R_mono (Kd.R_far (p := ⟨gb453, 8, none⟩) (Kd.R_far (p := ⟨gb453, 7, none⟩) (Kd.R_far (p := ⟨gb453, 6, none⟩) (Kd.R_far (p := ⟨gb453, 5, none⟩) (Kd.R_far (p := ⟨gb453, 4, none⟩) (Kd.R_far (p := ⟨gb453, 3, none⟩) (Kd.R_far (p := ⟨gb453, 2, none⟩) (Kd.R_far (p := ⟨gb453, 1, none⟩) (Kd.R_far (p := ⟨gb453, 0, none⟩) (Kd.R_types HO_417003.out BK453.out (by decide)) (fun _ hk => hk.2) (.string t442)) (fun _ hk => hk.2) (.int .i64 t443)) (fun _ hk => hk.2) (.int .i64 t444)) (fun _ hk => hk.2) (.slice Ao109 t445.length co109)) (fun _ hk => hk.2) (.int .i64 t448)) (fun _ hk => hk.2) (.int .i64 t449)) (fun _ hk => hk.2) (.int .i64 t450)) (fun _ hk => hk.2) (.int .i64 t451)) (fun _ hk => hk.2) (.int .i64 t452)) (fun _ h_ => h_.1))) hb); have n1_ := Aside0.mk (Kd.R_below (by (with_reducible repeat (first | apply Kd.R_alloc | apply Kd.R_drewN | apply Kd.R_drew)); exact (Kd.R_mono (Kd.R_far (p := ⟨gb453, 8, none⟩) (Kd.R_far (p := ⟨gb453, 7, none⟩) (Kd.R_far (p := ⟨gb453, 6, none⟩) (Kd.R_far (p := ⟨gb453, 5, none⟩) (Kd.R_far (p := ⟨gb453, 4, none⟩) (Kd.R_far (p := ⟨gb453, 3, none⟩) (Kd.R_far (p := ⟨gb453, 2, none⟩) (Kd.R_far (p := ⟨gb453, 1, none⟩) (Kd.R_far (p := ⟨gb453, 0, none⟩) (Kd.R_types HO_429003.out BK453.out (by decide)) (fun _ hk => hk.2) (.string t442)) (fun _ hk => hk.2) (.int .i64 t443)) (fun _ hk => hk.2) (.int .i64 t444)) (fun _ hk => hk.2) (.slice Ao109 t445.length co109)) (fun _ hk => hk.2) (.int .i64 t448)) (fun _ hk => hk.2) (.int .i64 t449)) (fun _ hk => hk.2) (.int .i64 t450)) (fun _ hk => hk.2) (.int .i64 t451)) (fun _ hk => hk.2) (.int .i64 t452)) (fun _ h_ => h_.1))) hb); have n2_ := Aside0.mk (Kd.R_below au16_12 hb); have n3_ := Aside0.mk (Kd.R_below (by (with_reducible repeat (first | apply Kd.R_alloc | apply Kd.R_drewN | apply Kd.R_drew)); exact (Kd.R_mono (Kd.R_far (p := ⟨gb453, 8, none⟩) (Kd.R_far (p := ⟨gb453, 7, none⟩) (Kd.R_far (p := ⟨gb453, 6, none⟩) (Kd.R_far (p := ⟨gb453, 5, none⟩) (Kd.R_far (p := ⟨gb453, 4, none⟩) (Kd.R_far (p := ⟨gb453, 3, none⟩) (Kd.R_far (p := ⟨gb453, 2, none⟩) (Kd.R_far (p := ⟨gb453, 1, none⟩) (Kd.R_far (p := ⟨gb453, 0, none⟩) (Kd.R_types HO447.out BK453.out (by decide)) (fun _ hk => hk.2) (.string t442)) (fun _ hk => hk.2) (.int .i64 t443)) (fun _ hk => hk.2) (.int .i64 t444)) (fun _ hk => hk.2) (.slice Ao109 t445.length co109)) (fun _ hk => hk.2) (.int .i64 t448)) (fun _ hk => hk.2) (.int .i64 t449)) (fun _ hk => hk.2) (.int .i64 t450)) (fun _ hk => hk.2) (.int .i64 t451)) (fun _ hk => hk.2) (.int .i64 t452)) (fun _ h_ => h_.1))) hb); have n4_ := Aside0.mk (blk_below (g := gb416) (o := .cells #[.string t408, .int .i64 t409, .int .i64 t410, .slice Ao10 t411.length co10] 51 (0, 0)) au16_0 hb); have n5_ := Aside0.mk (blk_below (g := gb428) (o := .cells #[.string t417, .int .i64 t418, .int .i64 t419, .slice Ao15 t420.length co15, .int .i64 t423, .int .i64 t424, .int .i64 t425, .int .i64 t426, .int .i64 t427] 64 (0, 0)) au16_1 hb); have n6_ := Aside0.mk (blk_below (g := gb440) (o := .cells #[.string t429, .int .i64 t430, .int .i64 t431, .slice Ao22 t432.length co22, .int .i64 t435, .int .i64 t436, .int .i64 t437, .int .i64 t438, .int .i64 t439] 64 (0, 0)) au16_2 hb); have n7_ := Aside0.mk (blk_below (g := gb453) (o := .cells #[.string t442, .int .i64 t443, .int .i64 t444, .slice Ao109 t445.length co109, .int .i64 t448, .int .i64 t449, .int .i64 t450, .int .i64 t451, .int .i64 t452] 64 (0, 0)) (by (with_reducible repeat (first | refine blk_drewN ?_ _ | refine blk_drew ?_ | refine blk_alloc ?_ _)); refine blk_put (cs := #[.string t442, .int .i64 t443, .int .i64 t444, .slice Ao109 t445.length co109, .int .i64 t448, .int .i64 t449, .int .i64 t450, .int .i64 t451, .int .i64 0]) ?_ 8 _ rfl; (with_reducible repeat (first | refine blk_drewN ?_ _ | refine blk_drew ?_ | refine blk_alloc ?_ _)); refine blk_put (cs := #[.string t442, .int .i64 t443, .int .i64 t444, .slice Ao109 t445.length co109, .int .i64 t448, .int .i64 t449, .int .i64 t450, .int .i64 0, .int .i64 0]) ?_ 7 _ rfl; (with_reducible repeat (first | refine blk_drewN ?_ _ | refine blk_drew ?_ | refine blk_alloc ?_ _)); refine blk_put (cs := #[.string t442, .int .i64 t443, .int .i64 t444, .slice Ao109 t445.length co109, .int .i64 t448, .int .i64 t449, .int .i64 0, .int .i64 0, .int .i64 0]) ?_ 6 _ rfl; (with_reducible repeat (first | refine blk_drewN ?_ _ | refine blk_drew ?_ | refine blk_alloc ?_ _)); refine blk_put (cs := #[.string t442, .int .i64 t443, .int .i64 t444, .slice Ao109 t445.length co109, .int .i64 t448, .int .i64 0, .int .i64 0, .int .i64 0, .int .i64 0]) ?_ 5 _ rfl; (with_reducible repeat (first | refine blk_drewN ?_ _ | refine blk_drew ?_ | refine blk_alloc ?_ _)); refine blk_put (cs := #[.string t442, .int .i64 t443, .int .i64 t444, .slice Ao109 t445.length co109, .int .i64 0, .int .i64 0, .int .i64 0, .int .i64 0, .int .i64 0]) ?_ 4 _ rfl; (with_reducible repeat (first | refine blk_drewN ?_ _ | refine blk_drew ?_ | refine blk_alloc ?_ _)); refine blk_put (cs := #[.string t442, .int .i64 t443, .int .i64 t444, .slice none 0 0, .int .i64 0, .int .i64 0, .int .i64 0, .int .i64 0, .int .i64 0]) ?_ 3 _ rfl; (with_reducible repeat (first | refine blk_drewN ?_ _ | refine blk_drew ?_ | refine blk_alloc ?_ _)); refine blk_put (cs := #[.string t442, .int .i64 t443, .int .i64 0, .slice none 0 0, .int .i64 0, .int .i64 0, .int .i64 0, .int .i64 0, .int .i64 0]) ?_ 2 _ rfl; (with_reducible repeat (first | refine blk_drewN ?_ _ | refine blk_drew ?_ | refine blk_alloc ?_ _)); refine blk_put (cs := #[.string t442, .int .i64 0, .int .i64 0, .slice none 0 0, .int .i64 0, .int .i64 0, .int .i64 0, .int .i64 0, .int .i64 0]) ?_ 1 _ rfl; (with_reducible repeat (first | refine blk_drewN ?_ _ | refine blk_drew ?_ | refine blk_alloc ?_ _)); refine blk_put (cs := #[.string (⟨#[]⟩ : ByteArray), .int .i64 0, .int .i64 0, .slice none 0 0, .int .i64 0, .int .i64 0, .int .i64 0, .int .i64 0, .int .i64 0]) ?_ 0 _ rfl; (with_reducible repeat (first | refine blk_drewN ?_ _ | refine blk_drew ?_ | refine blk_alloc ?_ _)); exact BK453.out) hb); have n8_ := Aside0.mk (below_step bl_ hb); clear HO_417003; clear HO_429003; clear HO_441003; clear HO447; clear BK416; clear BK428; clear BK440; clear BK453; clear HB; have HO_417003 := n0_; have HO_429003 := n1_; have HO_441003 := n2_; have HO447 := n3_; have BK416 := n4_; have BK428 := n5_; have BK440 := n6_; have BK453 := n7_; have HB := n8_; clear n0_ n1_ n2_ n3_ n4_ n5_ n6_ n7_ n8_; (try clear hb); (try clear hb2); (try clear hk); (try clear hi); obtain ⟨hcz112_0, hcz112_1, hcz112_2, hcz112_3, hcz112_4, hcz112_5, hcz112_6, hcz112_7, hcz112_8, hfz112_0, hfz112_1, hfz112_2, hfz112_3, hfz112_4, hfz112_5, hfz112_6, hfz112_7, hfz112_8⟩ := cellsF9 BK440.out) | (go_at_call 36; (with_reducible refine (impl_PartnerAsk.calls kj34 t429 t430 t431 _ _ t432 t414 t455 _ ?side1 ?side2 A59.out).mono ?_); (case side1 => exact au16_4); (case side2 => exact au16_19); rintro e w113 ⟨rfl, hb⟩; (try clear A59); have n0_ := Aside0.mk (Kd.R_below (rk_ HO_417003) hb); have n1_ := Aside0.mk (Kd.R_below (rk_ HO_429003) hb); have n2_ := Aside0.mk (Kd.R_below (rk_ HO_441003) hb); have n3_ := Aside0.mk (Kd.R_below (rk_ HO447) hb); have n4_ := Aside0.mk (blkb_ BK416 hb); have n5_ := Aside0.mk (blkb_ BK428 hb); have n6_ := Aside0.mk (blkb_ BK440 hb); have n7_ := Aside0.mk (blkb_ BK453 hb); have n8_ := Aside0.mk (below_step bl_ hb); clear HO_417003; clear HO_429003; clear HO_441003; clear HO447; clear BK416; clear BK428; clear BK440; clear BK453; clear HB; have HO_417003 := n0_; have HO_429003 := n1_; have HO_441003 := n2_; have HO447 := n3_; have BK416 := n4_; have BK428 := n5_; have BK440 := n6_; have BK453 := n7_; have HB := n8_; clear n0_ n1_ n2_ n3_ n4_ n5_ n6_ n7_ n8_; (try clear hb); (try clear hb2); (try clear hk); (try clear hi); obtain ⟨hcz114_0, hcz114_1, hcz114_2, hcz114_3, hcz114_4, hcz114_5, hcz114_6, hcz114_7, hcz114_8, hfz114_0, hfz114_1, hfz114_2, hfz114_3, hfz114_4, hfz114_5, hfz114_6, hfz114_7, hfz114_8⟩ := cellsF9 BK453.out))
                      go_ret
                      exact ⟨au16_18, bl_⟩
                  · rw [if_neg c60] at H
                    have c60b0 : (t455 == 2) = false := beq_eq_false_iff_ne.mpr c60
                    have c60b1 : (t455 != 2) = true := bne_iff_ne.mpr c60
                    obtain rfl := Option.some.inj H
                    have hnb115 := NB440_416.out
                    have hnc115 := NB416_440.out
                    have hnb116 := NB440_428.out
                    have hnc116 := NB428_440.out
                    obtain ⟨hcz117_0, hcz117_1, hcz117_2, hcz117_3, hcz117_4, hcz117_5, hcz117_6, hcz117_7, hcz117_8, hfz117_0, hfz117_1, hfz117_2, hfz117_3, hfz117_4, hfz117_5, hfz117_6, hfz117_7, hfz117_8⟩ := cellsF9 BK440.out
                    go_wp2_with (first | (go_at_call 45; (with_reducible refine (impl_PartnerTake.calls kj34 t429 t430 t431 _ _ t432 t414 0 t442 t443 t444 t445 t448 t449 t450 t451 t452 _ ?side1 ?side2 A56.out).mono ?_); (case side1 => exact au16_4); (case side2 => exact au16_19); rintro e w118 ⟨v446, rfl, ho0, hb⟩; (try clear A56); have n0_ := Aside0.mk (Kd.R_elder' (rk_ HO_417003) (Kd.R_base ho0) hb); have n1_ := Aside0.mk (Kd.R_elder' (rk_ HO_429003) (Kd.R_base ho0) hb); have n2_ := Aside0.mk (Kd.R_elder' (rk_ HO_441003) (Kd.R_base ho0) hb); have n3_ := Aside0.mk (Kd.R_lower (Kd.R_new' (Kd.R_new' (Kd.R_new' ho0 (Kd.R_lt (rk_ HO_417003))) (Kd.R_lt (rk_ HO_429003))) (Kd.R_lt (rk_ HO_441003))) (below_size bl_)); have n4_ := Aside0.mk (blkb_ BK416 hb); have n5_ := Aside0.mk (blkb_ BK428 hb); have n6_ := Aside0.mk (blkb_ BK440 hb); have n7_ := Aside0.mk (below_step bl_ hb); clear HO_417003; clear HO_429003; clear HO_441003; clear BK416; clear BK428; clear BK440; clear HB; have HO_417003 := n0_; have HO_429003 := n1_; have HO_441003 := n2_; have HO447 := n3_; have BK416 := n4_; have BK428 := n5_; have BK440 := n6_; have HB := n7_; clear n0_ n1_ n2_ n3_ n4_ n5_ n6_ n7_; (try clear hb); (try clear hb2); (try clear hk); (try clear hi); (try clear ho0)) | ((with_reducible refine gate_dst (N := 8) rfl ?_); refine box_event ?hg (N := 8) ?hd (cs := #[.string (⟨#[]⟩ : ByteArray), .int .i64 0, .int .i64 0, .slice none 0 0, .int .i64 0, .int .i64 0, .int .i64 0, .int .i64 0, .int .i64 0]) (t := 64) ?hr ?_; (case hd => rfl); (case hg => rfl); (case hr => exact hr_); intro gb453 hg w119 hbox hb; have n0_ := Aside0.mk (Kd.R_below (rk_ HO_417003) hb); have n1_ := Aside0.mk (Kd.R_below (rk_ HO_429003) hb); have n2_ := Aside0.mk (Kd.R_below (rk_ HO_441003) hb); have n3_ := Aside0.mk (Kd.R_below (rk_ HO447) hb); have n4_ := Aside0.mk (blkb_ BK416 hb); have n5_ := Aside0.mk (blkb_ BK428 hb); have n6_ := Aside0.mk (blkb_ BK440 hb); have n7_ := Aside0.mk (below_step bl_ hb); have n8_ := Aside0.mk (hbox); have n9_ := Aside0.mk (gw_ hg bl_); have n10_ := Aside0.mk (gw_ hg bl_); have n11_ := Aside0.mk (gn_ hg (blkl_ BK416)); have n12_ := Aside0.mk (gm_ hg (blkl_ BK416)); have n13_ := Aside0.mk (gn_ hg (blkl_ BK428)); have n14_ := Aside0.mk (gm_ hg (blkl_ BK428)); have n15_ := Aside0.mk (gn_ hg (blkl_ BK440)); have n16_ := Aside0.mk (gm_ hg (blkl_ BK440)); clear HO_417003; clear HO_429003; clear HO_441003; clear HO447; clear BK416; clear BK428; clear BK440; clear HB; have HO_417003 := n0_; have HO_429003 := n1_; have HO_441003 := n2_; have HO447 := n3_; have BK416 := n4_; have BK428 := n5_; have BK440 := n6_; have HB := n7_; have BK453 := n8_; have GW453 := n9_; have GE453 := n10_; have NB416_453 := n11_; have NB453_416 := n12_; have NB428_453 := n13_; have NB453_428 := n14_; have NB440_453 := n15_; have NB453_440 := n16_; clear n0_ n1_ n2_ n3_ n4_ n5_ n6_ n7_ n8_ n9_ n10_ n11_ n12_ n13_ n14_ n15_ n16_; clear hb hbox hg; have hnb120 := NB453_416.out; have hnc120 := NB416_453.out; have hnb121 := NB453_428.out; have hnc121 := NB428_453.out; have hnb122 := NB453_440.out; have hnc122 := NB440_453.out; obtain ⟨hcz123_0, hcz123_1, hcz123_2, hcz123_3, hcz123_4, hcz123_5, hcz123_6, hcz123_7, hcz123_8, hfz123_0, hfz123_1, hfz123_2, hfz123_3, hfz123_4, hfz123_5, hfz123_6, hfz123_7, hfz123_8⟩ := cellsF9 BK453.out; obtain ⟨Ao124, co124, eo124⟩ := Kd.R_slice HO447.out; subst eo124; obtain ⟨hcz125_0, hcz125_1, hcz125_2, hcz125_3, hcz125_4, hcz125_5, hcz125_6, hcz125_7, hcz125_8, hfz125_0, hfz125_1, hfz125_2, hfz125_3, hfz125_4, hfz125_5, hfz125_6, hfz125_7, hfz125_8⟩ := cellsF9 BK440.out) | (go_at_call 52; (with_reducible refine (impl_PartnerRight.calls kj34 t429 t430 t431 _ _ t432 true _ ?side1 ?side2 A57.out).mono ?_); (case side1 => refine (Kd.R_reads' (e := 62) (base := w.heap.size) (ok := fun k_ => ((some k_ ≠ (.slice Ao10 t411.length co10 : Value).ownBlock ∧ some k_ ≠ (.slice Ao15 t420.length co15 : Value).ownBlock) ∧ some k_ ≠ (.slice Ao124 t445.length co124 : Value).ownBlock)) (n := t432.length) (c := co22) ?_).2.2; exact au16_13); (case side2 => exact au16_19); rintro e w126 ⟨rfl, hb⟩; (try clear A57); have n0_ := Aside0.mk (Kd.R_below (by (with_reducible repeat (first | apply Kd.R_alloc | apply Kd.R_drewN | apply Kd.R_drew)); exact (Kd.R_mono (Kd.R_far (p := ⟨gb453, 8, none⟩) (Kd.R_far (p := ⟨gb453, 7, none⟩) (Kd.R_far (p := ⟨gb453, 6, none⟩) (Kd.R_far (p := ⟨gb453, 5, none⟩) (Kd.R_far (p := ⟨gb453, 4, none⟩) (Kd.R_far (p := ⟨gb453, 3, none⟩) (Kd.R_far (p := ⟨gb453, 2, none⟩) (Kd.R_far (p := ⟨gb453, 1, none⟩) (Kd.R_far (p := ⟨gb453, 0, none⟩) (Kd.R_types HO_417003.out BK453.out (by decide)) (fun _ hk => hk.2) (.string t442)) (fun _ hk => hk.2) (.int .i64 t443)) (fun _ hk => hk.2) (.int .i64 t444)) (fun _ hk => hk.2) (.slice Ao124 t445.length co124)) (fun _ hk => hk.2) (.int .i64 t448)) (fun _ hk => hk.2) (.int .i64 t449)) (fun _ hk => hk.2) (.int .i64 t450)) (fun _ hk => hk.2) (.int .i64 t451)) (fun _ hk => hk.2) (.int .i64 t452)) (fun _ h_ => h_.1))) hb); have n1_ := Aside0.mk (Kd.R_below (by (with_reducible repeat (first | apply Kd.R_alloc | apply Kd.R_drewN | apply Kd.R_drew)); exact (Kd.R_mono (Kd.R_far (p := ⟨gb453, 8, none⟩) (Kd.R_far (p := ⟨gb453, 7, none⟩) (Kd.R_far (p := ⟨gb453, 6, none⟩) (Kd.R_far (p := ⟨gb453, 5, none⟩) (Kd.R_far (p := ⟨gb453, 4, none⟩) (Kd.R_far (p := ⟨gb453, 3, none⟩) (Kd.R_far (p := ⟨gb453, 2, none⟩) (Kd.R_far (p := ⟨gb453, 1, none⟩) (Kd.R_far (p := ⟨gb453, 0, none⟩) (Kd.R_types HO_429003.out BK453.out (by decide)) (fun _ hk => hk.2) (.string t442)) (fun _ hk => hk.2) (.int .i64 t443)) (fun _ hk => hk.2) (.int .i64 t444)) (fun _ hk => hk.2) (.slice Ao124 t445.length co124)) (fun _ hk => hk.2) (.int .i64 t448)) (fun _ hk => hk.2) (.int .i64 t449)) (fun _ hk => hk.2) (.int .i64 t450)) (fun _ hk => hk.2) (.int .i64 t451)) (fun _ hk => hk.2) (.int .i64 t452)) (fun _ h_ => h_.1))) hb); have n2_ := Aside0.mk (Kd.R_below au16_13 hb); have n3_ := Aside0.mk (Kd.R_below (by (with_reducible repeat (first | apply Kd.R_alloc | apply Kd.R_drewN | apply Kd.R_drew)); exact (Kd.R_mono (Kd.R_far (p := ⟨gb453, 8, none⟩) (Kd.R_far (p := ⟨gb453, 7, none⟩) (Kd.R_far (p := ⟨gb453, 6, none⟩) (Kd.R_far (p := ⟨gb453, 5, none⟩) (Kd.R_far (p := ⟨gb453, 4, none⟩) (Kd.R_far (p := ⟨gb453, 3, none⟩) (Kd.R_far (p := ⟨gb453, 2, none⟩) (Kd.R_far (p := ⟨gb453, 1, none⟩) (Kd.R_far (p := ⟨gb453, 0, none⟩) (Kd.R_types HO447.out BK453.out (by decide)) (fun _ hk => hk.2) (.string t442)) (fun _ hk => hk.2) (.int .i64 t443)) (fun _ hk => hk.2) (.int .i64 t444)) (fun _ hk => hk.2) (.slice Ao124 t445.length co124)) (fun _ hk => hk.2) (.int .i64 t448)) (fun _ hk => hk.2) (.int .i64 t449)) (fun _ hk => hk.2) (.int .i64 t450)) (fun _ hk => hk.2) (.int .i64 t451)) (fun _ hk => hk.2) (.int .i64 t452)) (fun _ h_ => h_.1))) hb); have n4_ := Aside0.mk (blk_below (g := gb416) (o := .cells #[.string t408, .int .i64 t409, .int .i64 t410, .slice Ao10 t411.length co10] 51 (0, 0)) au16_0 hb); have n5_ := Aside0.mk (blk_below (g := gb428) (o := .cells #[.string t417, .int .i64 t418, .int .i64 t419, .slice Ao15 t420.length co15, .int .i64 t423, .int .i64 t424, .int .i64 t425, .int .i64 t426, .int .i64 t427] 64 (0, 0)) au16_1 hb); have n6_ := Aside0.mk (blk_below (g := gb440) (o := .cells #[.string t429, .int .i64 t430, .int .i64 t431, .slice Ao22 t432.length co22, .int .i64 t435, .int .i64 t436, .int .i64 t437, .int .i64 t438, .int .i64 t439] 64 (0, 0)) au16_2 hb); have n7_ := Aside0.mk (blk_below (g := gb453) (o := .cells #[.string t442, .int .i64 t443, .int .i64 t444, .slice Ao124 t445.length co124, .int .i64 t448, .int .i64 t449, .int .i64 t450, .int .i64 t451, .int .i64 t452] 64 (0, 0)) (by (with_reducible repeat (first | refine blk_drewN ?_ _ | refine blk_drew ?_ | refine blk_alloc ?_ _)); refine blk_put (cs := #[.string t442, .int .i64 t443, .int .i64 t444, .slice Ao124 t445.length co124, .int .i64 t448, .int .i64 t449, .int .i64 t450, .int .i64 t451, .int .i64 0]) ?_ 8 _ rfl; (with_reducible repeat (first | refine blk_drewN ?_ _ | refine blk_drew ?_ | refine blk_alloc ?_ _)); refine blk_put (cs := #[.string t442, .int .i64 t443, .int .i64 t444, .slice Ao124 t445.length co124, .int .i64 t448, .int .i64 t449, .int .i64 t450, .int .i64 0, .int .i64 0]) ?_ 7 _ rfl; (with_reducible repeat (first | refine blk_drewN ?_ _ | refine blk_drew ?_ | refine blk_alloc ?_ _)); refine blk_put (cs := #[.string t442, .int .i64 t443, .int .i64 t444, .slice Ao124 t445.length co124, .int .i64 t448, .int .i64 t449, .int .i64 0, .int .i64 0, .int .i64 0]) ?_ 6 _ rfl; (with_reducible repeat (first | refine blk_drewN ?_ _ | refine blk_drew ?_ | refine blk_alloc ?_ _)); refine blk_put (cs := #[.string t442, .int .i64 t443, .int .i64 t444, .slice Ao124 t445.length co124, .int .i64 t448, .int .i64 0, .int .i64 0, .int .i64 0, .int .i64 0]) ?_ 5 _ rfl; (with_reducible repeat (first | refine blk_drewN ?_ _ | refine blk_drew ?_ | refine blk_alloc ?_ _)); refine blk_put (cs := #[.string t442, .int .i64 t443, .int .i64 t444, .slice Ao124 t445.length co124, .int .i64 0, .int .i64 0, .int .i64 0, .int .i64 0, .int .i64 0]) ?_ 4 _ rfl; (with_reducible repeat (first | refine blk_drewN ?_ _ | refine blk_drew ?_ | refine blk_alloc ?_ _)); refine blk_put (cs := #[.string t442, .int .i64 t443, .int .i64 t444, .slice none 0 0, .int .i64 0, .int .i64 0, .int .i64 0, .int .i64 0, .int .i64 0]) ?_ 3 _ rfl; (with_reducible repeat (first | refine blk_drewN ?_ _ | refine blk_drew ?_ | refine blk_alloc ?_ _)); refine blk_put (cs := #[.string t442, .int .i64 t443, .int .i64 0, .slice none 0 0, .int .i64 0, .int .i64 0, .int .i64 0, .int .i64 0, .int .i64 0]) ?_ 2 _ rfl; (with_reducible repeat (first | refine blk_drewN ?_ _ | refine blk_drew ?_ | refine blk_alloc ?_ _)); refine blk_put (cs := #[.string t442, .int .i64 0, .int .i64 0, .slice none 0 0, .int .i64 0, .int .i64 0, .int .i64 0, .int .i64 0, .int .i64 0]) ?_ 1 _ rfl; (with_reducible repeat (first | refine blk_drewN ?_ _ | refine blk_drew ?_ | refine blk_alloc ?_ _)); refine blk_put (cs := #[.string (⟨#[]⟩ : ByteArray), .int .i64 0, .int .i64 0, .slice none 0 0, .int .i64 0, .int .i64 0, .int .i64 0, .int .i64 0, .int .i64 0]) ?_ 0 _ rfl; (with_reducible repeat (first | refine blk_drewN ?_ _ | refine blk_drew ?_ | refine blk_alloc ?_ _)); exact BK453.out) hb); have n8_ := Aside0.mk (below_step bl_ hb); clear HO_417003; clear HO_429003; clear HO_441003; clear HO447; clear BK416; clear BK428; clear BK440; clear BK453; clear HB; have HO_417003 := n0_; have HO_429003 := n1_; have HO_441003 := n2_; have HO447 := n3_; have BK416 := n4_; have BK428 := n5_; have BK440 := n6_; have BK453 := n7_; have HB := n8_; clear n0_ n1_ n2_ n3_ n4_ n5_ n6_ n7_ n8_; (try clear hb); (try clear hb2); (try clear hk); (try clear hi); obtain ⟨hcz127_0, hcz127_1, hcz127_2, hcz127_3, hcz127_4, hcz127_5, hcz127_6, hcz127_7, hcz127_8, hfz127_0, hfz127_1, hfz127_2, hfz127_3, hfz127_4, hfz127_5, hfz127_6, hfz127_7, hfz127_8⟩ := cellsF9 BK440.out) | (go_at_call 36; (with_reducible refine (impl_PartnerAsk.calls kj34 t429 t430 t431 _ _ t432 t414 t455 _ ?side1 ?side2 A59.out).mono ?_); (case side1 => exact au16_4); (case side2 => exact au16_19); rintro e w128 ⟨rfl, hb⟩; (try clear A59); have n0_ := Aside0.mk (Kd.R_below (rk_ HO_417003) hb); have n1_ := Aside0.mk (Kd.R_below (rk_ HO_429003) hb); have n2_ := Aside0.mk (Kd.R_below (rk_ HO_441003) hb); have n3_ := Aside0.mk (Kd.R_below (rk_ HO447) hb); have n4_ := Aside0.mk (blkb_ BK416 hb); have n5_ := Aside0.mk (blkb_ BK428 hb); have n6_ := Aside0.mk (blkb_ BK440 hb); have n7_ := Aside0.mk (blkb_ BK453 hb); have n8_ := Aside0.mk (below_step bl_ hb); clear HO_417003; clear HO_429003; clear HO_441003; clear HO447; clear BK416; clear BK428; clear BK440; clear BK453; clear HB; have HO_417003 := n0_; have HO_429003 := n1_; have HO_441003 := n2_; have HO447 := n3_; have BK416 := n4_; have BK428 := n5_; have BK440 := n6_; have BK453 := n7_; have HB := n8_; clear n0_ n1_ n2_ n3_ n4_ n5_ n6_ n7_ n8_; (try clear hb); (try clear hb2); (try clear hk); (try clear hi)))
                    go_ret
                    exact ⟨au16_18, bl_⟩
                · replace c58 := Bool.eq_false_iff.mpr c58
                  subst c58
                  have H1 : (some false) = some r := by rw [if_neg (show ¬ (false = true) by decide)] at H; exact H
                  clear H
                  have H := H1
                  clear H1
                  obtain rfl := Option.some.inj H
                  have hnb129 := NB440_416.out
                  have hnc129 := NB416_440.out
                  have hnb130 := NB440_428.out
                  have hnc130 := NB428_440.out
                  obtain ⟨hcz131_0, hcz131_1, hcz131_2, hcz131_3, hcz131_4, hcz131_5, hcz131_6, hcz131_7, hcz131_8, hfz131_0, hfz131_1, hfz131_2, hfz131_3, hfz131_4, hfz131_5, hfz131_6, hfz131_7, hfz131_8⟩ := cellsF9 BK440.out
                  go_wp2_with (first | (go_at_call 45; (with_reducible refine (impl_PartnerTake.calls kj34 t429 t430 t431 _ _ t432 t414 0 t442 t443 t444 t445 t448 t449 t450 t451 t452 _ ?side1 ?side2 A56.out).mono ?_); (case side1 => exact au16_4); (case side2 => exact au16_19); rintro e w132 ⟨v446, rfl, ho0, hb⟩; (try clear A56); have n0_ := Aside0.mk (Kd.R_elder' (rk_ HO_417003) (Kd.R_base ho0) hb); have n1_ := Aside0.mk (Kd.R_elder' (rk_ HO_429003) (Kd.R_base ho0) hb); have n2_ := Aside0.mk (Kd.R_elder' (rk_ HO_441003) (Kd.R_base ho0) hb); have n3_ := Aside0.mk (Kd.R_lower (Kd.R_new' (Kd.R_new' (Kd.R_new' ho0 (Kd.R_lt (rk_ HO_417003))) (Kd.R_lt (rk_ HO_429003))) (Kd.R_lt (rk_ HO_441003))) (below_size bl_)); have n4_ := Aside0.mk (blkb_ BK416 hb); have n5_ := Aside0.mk (blkb_ BK428 hb); have n6_ := Aside0.mk (blkb_ BK440 hb); have n7_ := Aside0.mk (below_step bl_ hb); clear HO_417003; clear HO_429003; clear HO_441003; clear BK416; clear BK428; clear BK440; clear HB; have HO_417003 := n0_; have HO_429003 := n1_; have HO_441003 := n2_; have HO447 := n3_; have BK416 := n4_; have BK428 := n5_; have BK440 := n6_; have HB := n7_; clear n0_ n1_ n2_ n3_ n4_ n5_ n6_ n7_; (try clear hb); (try clear hb2); (try clear hk); (try clear hi); (try clear ho0)) | ((with_reducible refine gate_dst (N := 8) rfl ?_); refine box_event ?hg (N := 8) ?hd (cs := #[.string (⟨#[]⟩ : ByteArray), .int .i64 0, .int .i64 0, .slice none 0 0, .int .i64 0, .int .i64 0, .int .i64 0, .int .i64 0, .int .i64 0]) (t := 64) ?hr ?_; (case hd => rfl); (case hg => rfl); (case hr => exact hr_); intro gb453 hg w133 hbox hb; have n0_ := Aside0.mk (Kd.R_below (rk_ HO_417003) hb); have n1_ := Aside0.mk (Kd.R_below (rk_ HO_429003) hb); have n2_ := Aside0.mk (Kd.R_below (rk_ HO_441003) hb); have n3_ := Aside0.mk (Kd.R_below (rk_ HO447) hb); have n4_ := Aside0.mk (blkb_ BK416 hb); have n5_ := Aside0.mk (blkb_ BK428 hb); have n6_ := Aside0.mk (blkb_ BK440 hb); have n7_ := Aside0.mk (below_step bl_ hb); have n8_ := Aside0.mk (hbox); have n9_ := Aside0.mk (gw_ hg bl_); have n10_ := Aside0.mk (gw_ hg bl_); have n11_ := Aside0.mk (gn_ hg (blkl_ BK416)); have n12_ := Aside0.mk (gm_ hg (blkl_ BK416)); have n13_ := Aside0.mk (gn_ hg (blkl_ BK428)); have n14_ := Aside0.mk (gm_ hg (blkl_ BK428)); have n15_ := Aside0.mk (gn_ hg (blkl_ BK440)); have n16_ := Aside0.mk (gm_ hg (blkl_ BK440)); clear HO_417003; clear HO_429003; clear HO_441003; clear HO447; clear BK416; clear BK428; clear BK440; clear HB; have HO_417003 := n0_; have HO_429003 := n1_; have HO_441003 := n2_; have HO447 := n3_; have BK416 := n4_; have BK428 := n5_; have BK440 := n6_; have HB := n7_; have BK453 := n8_; have GW453 := n9_; have GE453 := n10_; have NB416_453 := n11_; have NB453_416 := n12_; have NB428_453 := n13_; have NB453_428 := n14_; have NB440_453 := n15_; have NB453_440 := n16_; clear n0_ n1_ n2_ n3_ n4_ n5_ n6_ n7_ n8_ n9_ n10_ n11_ n12_ n13_ n14_ n15_ n16_; clear hb hbox hg; have hnb134 := NB453_416.out; have hnc134 := NB416_453.out; have hnb135 := NB453_428.out; have hnc135 := NB428_453.out; have hnb136 := NB453_440.out; have hnc136 := NB440_453.out; obtain ⟨hcz137_0, hcz137_1, hcz137_2, hcz137_3, hcz137_4, hcz137_5, hcz137_6, hcz137_7, hcz137_8, hfz137_0, hfz137_1, hfz137_2, hfz137_3, hfz137_4, hfz137_5, hfz137_6, hfz137_7, hfz137_8⟩ := cellsF9 BK453.out; obtain ⟨Ao138, co138, eo138⟩ := Kd.R_slice HO447.out; subst eo138; obtain ⟨hcz139_0, hcz139_1, hcz139_2, hcz139_3, hcz139_4, hcz139_5, hcz139_6, hcz139_7, hcz139_8, hfz139_0, hfz139_1, hfz139_2, hfz139_3, hfz139_4, hfz139_5, hfz139_6, hfz139_7, hfz139_8⟩ := cellsF9 BK440.out) | (go_at_call 52; (with_reducible refine (impl_PartnerRight.calls kj34 t429 t430 t431 _ _ t432 false _ ?side1 ?side2 A57.out).mono ?_); (case side1 => refine (Kd.R_reads' (e := 62) (base := w.heap.size) (ok := fun k_ => ((some k_ ≠ (.slice Ao10 t411.length co10 : Value).ownBlock ∧ some k_ ≠ (.slice Ao15 t420.length co15 : Value).ownBlock) ∧ some k_ ≠ (.slice Ao138 t445.length co138 : Value).ownBlock)) (n := t432.length) (c := co22) ?_).2.2; exact au16_14); (case side2 => exact au16_19); rintro e w140 ⟨rfl, hb⟩; (try clear A57); have n0_ := Aside0.mk (Kd.R_below (by (with_reducible repeat (first | apply Kd.R_alloc | apply Kd.R_drewN | apply Kd.R_drew)); exact (Kd.R_mono (Kd.R_far (p := ⟨gb453, 8, none⟩) (Kd.R_far (p := ⟨gb453, 7, none⟩) (Kd.R_far (p := ⟨gb453, 6, none⟩) (Kd.R_far (p := ⟨gb453, 5, none⟩) (Kd.R_far (p := ⟨gb453, 4, none⟩) (Kd.R_far (p := ⟨gb453, 3, none⟩) (Kd.R_far (p := ⟨gb453, 2, none⟩) (Kd.R_far (p := ⟨gb453, 1, none⟩) (Kd.R_far (p := ⟨gb453, 0, none⟩) (Kd.R_types HO_417003.out BK453.out (by decide)) (fun _ hk => hk.2) (.string t442)) (fun _ hk => hk.2) (.int .i64 t443)) (fun _ hk => hk.2) (.int .i64 t444)) (fun _ hk => hk.2) (.slice Ao138 t445.length co138)) (fun _ hk => hk.2) (.int .i64 t448)) (fun _ hk => hk.2) (.int .i64 t449)) (fun _ hk => hk.2) (.int .i64 t450)) (fun _ hk => hk.2) (.int .i64 t451)) (fun _ hk => hk.2) (.int .i64 t452)) (fun _ h_ => h_.1))) hb); have n1_ := Aside0.mk (Kd.R_below (by (with_reducible repeat (first | apply Kd.R_alloc | apply Kd.R_drewN | apply Kd.R_drew)); exact (Kd.R_mono (Kd.R_far (p := ⟨gb453, 8, none⟩) (Kd.R_far (p := ⟨gb453, 7, none⟩) (Kd.R_far (p := ⟨gb453, 6, none⟩) (Kd.R_far (p := ⟨gb453, 5, none⟩) (Kd.R_far (p := ⟨gb453, 4, none⟩) (Kd.R_far (p := ⟨gb453, 3, none⟩) (Kd.R_far (p := ⟨gb453, 2, none⟩) (Kd.R_far (p := ⟨gb453, 1, none⟩) (Kd.R_far (p := ⟨gb453, 0, none⟩) (Kd.R_types HO_429003.out BK453.out (by decide)) (fun _ hk => hk.2) (.string t442)) (fun _ hk => hk.2) (.int .i64 t443)) (fun _ hk => hk.2) (.int .i64 t444)) (fun _ hk => hk.2) (.slice Ao138 t445.length co138)) (fun _ hk => hk.2) (.int .i64 t448)) (fun _ hk => hk.2) (.int .i64 t449)) (fun _ hk => hk.2) (.int .i64 t450)) (fun _ hk => hk.2) (.int .i64 t451)) (fun _ hk => hk.2) (.int .i64 t452)) (fun _ h_ => h_.1))) hb); have n2_ := Aside0.mk (Kd.R_below au16_14 hb); have n3_ := Aside0.mk (Kd.R_below (by (with_reducible repeat (first | apply Kd.R_alloc | apply Kd.R_drewN | apply Kd.R_drew)); exact (Kd.R_mono (Kd.R_far (p := ⟨gb453, 8, none⟩) (Kd.R_far (p := ⟨gb453, 7, none⟩) (Kd.R_far (p := ⟨gb453, 6, none⟩) (Kd.R_far (p := ⟨gb453, 5, none⟩) (Kd.R_far (p := ⟨gb453, 4, none⟩) (Kd.R_far (p := ⟨gb453, 3, none⟩) (Kd.R_far (p := ⟨gb453, 2, none⟩) (Kd.R_far (p := ⟨gb453, 1, none⟩) (Kd.R_far (p := ⟨gb453, 0, none⟩) (Kd.R_types HO447.out BK453.out (by decide)) (fun _ hk => hk.2) (.string t442)) (fun _ hk => hk.2) (.int .i64 t443)) (fun _ hk => hk.2) (.int .i64 t444)) (fun _ hk => hk.2) (.slice Ao138 t445.length co138)) (fun _ hk => hk.2) (.int .i64 t448)) (fun _ hk => hk.2) (.int .i64 t449)) (fun _ hk => hk.2) (.int .i64 t450)) (fun _ hk => hk.2) (.int .i64 t451)) (fun _ hk => hk.2) (.int .i64 t452)) (fun _ h_ => h_.1))) hb); have n4_ := Aside0.mk (blk_below (g := gb416) (o := .cells #[.string t408, .int .i64 t409, .int .i64 t410, .slice Ao10 t411.length co10] 51 (0, 0)) au16_0 hb); have n5_ := Aside0.mk (blk_below (g := gb428) (o := .cells #[.string t417, .int .i64 t418, .int .i64 t419, .slice Ao15 t420.length co15, .int .i64 t423, .int .i64 t424, .int .i64 t425, .int .i64 t426, .int .i64 t427] 64 (0, 0)) au16_1 hb); have n6_ := Aside0.mk (blk_below (g := gb440) (o := .cells #[.string t429, .int .i64 t430, .int .i64 t431, .slice Ao22 t432.length co22, .int .i64 t435, .int .i64 t436, .int .i64 t437, .int .i64 t438, .int .i64 t439] 64 (0, 0)) au16_2 hb); have n7_ := Aside0.mk (blk_below (g := gb453) (o := .cells #[.string t442, .int .i64 t443, .int .i64 t444, .slice Ao138 t445.length co138, .int .i64 t448, .int .i64 t449, .int .i64 t450, .int .i64 t451, .int .i64 t452] 64 (0, 0)) (by (with_reducible repeat (first | refine blk_drewN ?_ _ | refine blk_drew ?_ | refine blk_alloc ?_ _)); refine blk_put (cs := #[.string t442, .int .i64 t443, .int .i64 t444, .slice Ao138 t445.length co138, .int .i64 t448, .int .i64 t449, .int .i64 t450, .int .i64 t451, .int .i64 0]) ?_ 8 _ rfl; (with_reducible repeat (first | refine blk_drewN ?_ _ | refine blk_drew ?_ | refine blk_alloc ?_ _)); refine blk_put (cs := #[.string t442, .int .i64 t443, .int .i64 t444, .slice Ao138 t445.length co138, .int .i64 t448, .int .i64 t449, .int .i64 t450, .int .i64 0, .int .i64 0]) ?_ 7 _ rfl; (with_reducible repeat (first | refine blk_drewN ?_ _ | refine blk_drew ?_ | refine blk_alloc ?_ _)); refine blk_put (cs := #[.string t442, .int .i64 t443, .int .i64 t444, .slice Ao138 t445.length co138, .int .i64 t448, .int .i64 t449, .int .i64 0, .int .i64 0, .int .i64 0]) ?_ 6 _ rfl; (with_reducible repeat (first | refine blk_drewN ?_ _ | refine blk_drew ?_ | refine blk_alloc ?_ _)); refine blk_put (cs := #[.string t442, .int .i64 t443, .int .i64 t444, .slice Ao138 t445.length co138, .int .i64 t448, .int .i64 0, .int .i64 0, .int .i64 0, .int .i64 0]) ?_ 5 _ rfl; (with_reducible repeat (first | refine blk_drewN ?_ _ | refine blk_drew ?_ | refine blk_alloc ?_ _)); refine blk_put (cs := #[.string t442, .int .i64 t443, .int .i64 t444, .slice Ao138 t445.length co138, .int .i64 0, .int .i64 0, .int .i64 0, .int .i64 0, .int .i64 0]) ?_ 4 _ rfl; (with_reducible repeat (first | refine blk_drewN ?_ _ | refine blk_drew ?_ | refine blk_alloc ?_ _)); refine blk_put (cs := #[.string t442, .int .i64 t443, .int .i64 t444, .slice none 0 0, .int .i64 0, .int .i64 0, .int .i64 0, .int .i64 0, .int .i64 0]) ?_ 3 _ rfl; (with_reducible repeat (first | refine blk_drewN ?_ _ | refine blk_drew ?_ | refine blk_alloc ?_ _)); refine blk_put (cs := #[.string t442, .int .i64 t443, .int .i64 0, .slice none 0 0, .int .i64 0, .int .i64 0, .int .i64 0, .int .i64 0, .int .i64 0]) ?_ 2 _ rfl; (with_reducible repeat (first | refine blk_drewN ?_ _ | refine blk_drew ?_ | refine blk_alloc ?_ _)); refine blk_put (cs := #[.string t442, .int .i64 0, .int .i64 0, .slice none 0 0, .int .i64 0, .int .i64 0, .int .i64 0, .int .i64 0, .int .i64 0]) ?_ 1 _ rfl; (with_reducible repeat (first | refine blk_drewN ?_ _ | refine blk_drew ?_ | refine blk_alloc ?_ _)); refine blk_put (cs := #[.string (⟨#[]⟩ : ByteArray), .int .i64 0, .int .i64 0, .slice none 0 0, .int .i64 0, .int .i64 0, .int .i64 0, .int .i64 0, .int .i64 0]) ?_ 0 _ rfl; (with_reducible repeat (first | refine blk_drewN ?_ _ | refine blk_drew ?_ | refine blk_alloc ?_ _)); exact BK453.out) hb); have n8_ := Aside0.mk (below_step bl_ hb); clear HO_417003; clear HO_429003; clear HO_441003; clear HO447; clear BK416; clear BK428; clear BK440; clear BK453; clear HB; have HO_417003 := n0_; have HO_429003 := n1_; have HO_441003 := n2_; have HO447 := n3_; have BK416 := n4_; have BK428 := n5_; have BK440 := n6_; have BK453 := n7_; have HB := n8_; clear n0_ n1_ n2_ n3_ n4_ n5_ n6_ n7_ n8_; (try clear hb); (try clear hb2); (try clear hk); (try clear hi)))
                  go_ret
                  exact ⟨au16_18, bl_⟩

/-- THE ONE PURE STATEMENT of laws_FnTakeOnce: yours. -/
def laws_FnTakeOnce.Pure : Prop := ∀ (l0 : List Int), l0.length ≤ maxLen → l0.length * 1 ≤ 140737488351232 → (∀ x ∈ l0, (Lit.int .u8 x).wf = true) → ∃ k, laws_FnTakeOnce.f k l0 = some true
theorem laws_FnTakeOnce.walk (P : laws_FnTakeOnce.Pure) (a0 : Option Addr) (len0 cap0 : Nat) (z0 : List Int) (w : World) (w0 : (a0 = none ∧ len0 = 0 ∧ cap0 = 0 ∧ z0 = []) ∨ ∃ x, a0 = some x ∧ len0 ≤ cap0 ∧ cap0 ≤ maxLen ∧ z0.length = cap0 ∧ (∀ i, i < z0.length → w.cell? (x.add i) = some (.int .u8 (z0.getD i 0))) ∧ ∀ n ∈ z0, (Lit.int .u8 n).wf = true) (y0 : len0 * 1 ≤ 140737488351232) :
    Calls Try.prog 12 #[.slice a0 len0 cap0] w fun e w' => e = .returned (.bool true) ∧ Below w.heap.size w w' := by
  obtain ⟨l0, rfl, hr0, hm0, hw0, hc0⟩ := ReadsInt.ofRowC w0
  obtain ⟨k, h⟩ := P l0 hm0 y0 hw0
  refine (laws_FnTakeOnce.calls k _ _ l0 true w (Kd.C_of_reads (d := (0 : Int)) (h1 := fun _ => rfl) hr0) hc0 h).mono ?_
  rintro e w' ⟨rfl, hd⟩
  exact ⟨rfl, hd⟩

end Go.Proofs.Ytjffakoifpldeaa.PFnTakeOnce
