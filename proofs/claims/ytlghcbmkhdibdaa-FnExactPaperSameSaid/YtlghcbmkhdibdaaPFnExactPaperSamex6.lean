-- printed by a program of this session (wip/xp/xprint.py) out of the translation; Lean checks it
import Derived.Test.YtlghcbmkhdibdaaPFnExactPaperSamex0
import Derived.Test.YtlghcbmkhdibdaaPFnExactPaperSamex2
import Derived.Test.YtlghcbmkhdibdaaPFnExactPaperSamex3
import Derived.Test.YtlghcbmkhdibdaaPFnExactPaperSamex4
import Derived.Test.YtlghcbmkhdibdaaPFnExactPaperSamex5
namespace Go.Proofs.Ytlghcbmkhdibdaa.PFnExactPaperSame
open Go.RowKit Go.Proofs.YtlghcbmkhdibdaaW.PrintWords Go.Proofs.YtlghcbmkhdibdaaW.PrintLast Go.Proofs.YtlghcbmkhdibdaaW.PrintMore
attribute [local go_sem] max2_int min2_int max_two min_two max_three min_three max_four min_four   -- for this text's walks alone
set_option linter.unusedVariables false
set_option linter.unusedSimpArgs false

theorem au6_0 {p : Prop} (h : p := by (with_reducible repeat (first | refine blk_drewN ?_ _ | refine blk_drew ?_ | refine blk_alloc ?_ _)); refine blk_far ?_ NB163_198.out _; (with_reducible repeat (first | refine blk_drewN ?_ _ | refine blk_drew ?_ | refine blk_alloc ?_ _)); refine blk_far ?_ NB163_198.out _; (with_reducible repeat (first | refine blk_drewN ?_ _ | refine blk_drew ?_ | refine blk_alloc ?_ _)); refine blk_far ?_ NB163_198.out _; (with_reducible repeat (first | refine blk_drewN ?_ _ | refine blk_drew ?_ | refine blk_alloc ?_ _)); refine blk_far ?_ NB163_198.out _; (with_reducible repeat (first | refine blk_drewN ?_ _ | refine blk_drew ?_ | refine blk_alloc ?_ _)); refine blk_far ?_ NB163_198.out _; (with_reducible repeat (first | refine blk_drewN ?_ _ | refine blk_drew ?_ | refine blk_alloc ?_ _)); refine blk_far ?_ NB163_198.out _; (with_reducible repeat (first | refine blk_drewN ?_ _ | refine blk_drew ?_ | refine blk_alloc ?_ _)); exact BK163.out) : p := h
theorem au6_1 {p : Prop} (h : p := by (with_reducible repeat (first | refine blk_drewN ?_ _ | refine blk_drew ?_ | refine blk_alloc ?_ _)); refine blk_far ?_ NB164_198.out _; (with_reducible repeat (first | refine blk_drewN ?_ _ | refine blk_drew ?_ | refine blk_alloc ?_ _)); refine blk_far ?_ NB164_198.out _; (with_reducible repeat (first | refine blk_drewN ?_ _ | refine blk_drew ?_ | refine blk_alloc ?_ _)); refine blk_far ?_ NB164_198.out _; (with_reducible repeat (first | refine blk_drewN ?_ _ | refine blk_drew ?_ | refine blk_alloc ?_ _)); refine blk_far ?_ NB164_198.out _; (with_reducible repeat (first | refine blk_drewN ?_ _ | refine blk_drew ?_ | refine blk_alloc ?_ _)); refine blk_far ?_ NB164_198.out _; (with_reducible repeat (first | refine blk_drewN ?_ _ | refine blk_drew ?_ | refine blk_alloc ?_ _)); refine blk_far ?_ NB164_198.out _; (with_reducible repeat (first | refine blk_drewN ?_ _ | refine blk_drew ?_ | refine blk_alloc ?_ _)); exact BK164.out) : p := h
theorem au6_2 {p : Prop} (h : p := by (with_reducible repeat (first | refine blk_drewN ?_ _ | refine blk_drew ?_ | refine blk_alloc ?_ _)); refine blk_far ?_ NB163_209.out _; (with_reducible repeat (first | refine blk_drewN ?_ _ | refine blk_drew ?_ | refine blk_alloc ?_ _)); refine blk_far ?_ NB163_209.out _; (with_reducible repeat (first | refine blk_drewN ?_ _ | refine blk_drew ?_ | refine blk_alloc ?_ _)); refine blk_far ?_ NB163_209.out _; (with_reducible repeat (first | refine blk_drewN ?_ _ | refine blk_drew ?_ | refine blk_alloc ?_ _)); refine blk_far ?_ NB163_209.out _; (with_reducible repeat (first | refine blk_drewN ?_ _ | refine blk_drew ?_ | refine blk_alloc ?_ _)); refine blk_far ?_ NB163_209.out _; (with_reducible repeat (first | refine blk_drewN ?_ _ | refine blk_drew ?_ | refine blk_alloc ?_ _)); refine blk_far ?_ NB163_209.out _; (with_reducible repeat (first | refine blk_drewN ?_ _ | refine blk_drew ?_ | refine blk_alloc ?_ _)); exact BK163.out) : p := h
theorem au6_3 {p : Prop} (h : p := by (with_reducible repeat (first | refine blk_drewN ?_ _ | refine blk_drew ?_ | refine blk_alloc ?_ _)); refine blk_far ?_ NB164_209.out _; (with_reducible repeat (first | refine blk_drewN ?_ _ | refine blk_drew ?_ | refine blk_alloc ?_ _)); refine blk_far ?_ NB164_209.out _; (with_reducible repeat (first | refine blk_drewN ?_ _ | refine blk_drew ?_ | refine blk_alloc ?_ _)); refine blk_far ?_ NB164_209.out _; (with_reducible repeat (first | refine blk_drewN ?_ _ | refine blk_drew ?_ | refine blk_alloc ?_ _)); refine blk_far ?_ NB164_209.out _; (with_reducible repeat (first | refine blk_drewN ?_ _ | refine blk_drew ?_ | refine blk_alloc ?_ _)); refine blk_far ?_ NB164_209.out _; (with_reducible repeat (first | refine blk_drewN ?_ _ | refine blk_drew ?_ | refine blk_alloc ?_ _)); refine blk_far ?_ NB164_209.out _; (with_reducible repeat (first | refine blk_drewN ?_ _ | refine blk_drew ?_ | refine blk_alloc ?_ _)); exact BK164.out) : p := h
theorem au6_4 {p : Prop} (h : p := by (with_reducible repeat (first | refine blk_drewN ?_ _ | refine blk_drew ?_ | refine blk_alloc ?_ _)); refine blk_far ?_ NB198_209.out _; (with_reducible repeat (first | refine blk_drewN ?_ _ | refine blk_drew ?_ | refine blk_alloc ?_ _)); refine blk_far ?_ NB198_209.out _; (with_reducible repeat (first | refine blk_drewN ?_ _ | refine blk_drew ?_ | refine blk_alloc ?_ _)); refine blk_far ?_ NB198_209.out _; (with_reducible repeat (first | refine blk_drewN ?_ _ | refine blk_drew ?_ | refine blk_alloc ?_ _)); refine blk_far ?_ NB198_209.out _; (with_reducible repeat (first | refine blk_drewN ?_ _ | refine blk_drew ?_ | refine blk_alloc ?_ _)); refine blk_far ?_ NB198_209.out _; (with_reducible repeat (first | refine blk_drewN ?_ _ | refine blk_drew ?_ | refine blk_alloc ?_ _)); refine blk_far ?_ NB198_209.out _; (with_reducible repeat (first | refine blk_drewN ?_ _ | refine blk_drew ?_ | refine blk_alloc ?_ _)); exact BK198.out) : p := h
theorem au6_5 {p : Prop} (h : p := by repeat (first | exact (Kd.C_below HR0_4.out HB.out) | (with_reducible refine Kd.C_alloc ?_ _) | (with_reducible refine Kd.C_drewN ?_ _) | (with_reducible refine Kd.C_drew ?_))) : p := h
theorem au6_6 {p : Prop} (h : p := by repeat (first | exact (Kd.C_below HR0_5.out HB.out) | (with_reducible refine Kd.C_alloc ?_ _) | (with_reducible refine Kd.C_drewN ?_ _) | (with_reducible refine Kd.C_drew ?_))) : p := h
theorem au6_7 {p : Prop} (h : p := by repeat (first | exact (Kd.C_below HR1_4.out HB.out) | (with_reducible refine Kd.C_alloc ?_ _) | (with_reducible refine Kd.C_drewN ?_ _) | (with_reducible refine Kd.C_drew ?_))) : p := h
theorem au6_8 {p : Prop} (h : p := by repeat (first | exact (Kd.C_below HR1_5.out HB.out) | (with_reducible refine Kd.C_alloc ?_ _) | (with_reducible refine Kd.C_drewN ?_ _) | (with_reducible refine Kd.C_drew ?_))) : p := h
theorem au6_9 {p : Prop} (h : p := by (with_reducible repeat (first | apply Kd.R_alloc | apply Kd.R_drewN | apply Kd.R_drew)); exact (Kd.R_mono (Kd.R_far (p := ⟨gb198, 5, none⟩) (Kd.R_far (p := ⟨gb198, 4, none⟩) (Kd.R_far (p := ⟨gb198, 3, none⟩) (Kd.R_far (p := ⟨gb198, 2, none⟩) (Kd.R_far (p := ⟨gb198, 1, none⟩) (Kd.R_far (p := ⟨gb198, 0, none⟩) (Kd.R_types HO173.out BK198.out (by decide)) (fun _ hk => hk.2) (.int .i64 t188)) (fun _ hk => hk.2) (.string t189)) (fun _ hk => hk.2) (.string t190)) (fun _ hk => hk.2) (.int .i64 t191)) (fun _ hk => hk.2) (.slice Ao131 t192.length co131)) (fun _ hk => hk.2) (.slice Ao132 t195.length co132)) (fun _ h_ => h_.1))) : p := h
theorem au6_10 {p : Prop} (h : p := by (with_reducible repeat (first | apply Kd.R_alloc | apply Kd.R_drewN | apply Kd.R_drew)); exact (Kd.R_mono (Kd.R_far (p := ⟨gb198, 5, none⟩) (Kd.R_far (p := ⟨gb198, 4, none⟩) (Kd.R_far (p := ⟨gb198, 3, none⟩) (Kd.R_far (p := ⟨gb198, 2, none⟩) (Kd.R_far (p := ⟨gb198, 1, none⟩) (Kd.R_far (p := ⟨gb198, 0, none⟩) (Kd.R_types HO176.out BK198.out (by decide)) (fun _ hk => hk.2) (.int .i64 t188)) (fun _ hk => hk.2) (.string t189)) (fun _ hk => hk.2) (.string t190)) (fun _ hk => hk.2) (.int .i64 t191)) (fun _ hk => hk.2) (.slice Ao131 t192.length co131)) (fun _ hk => hk.2) (.slice Ao132 t195.length co132)) (fun _ h_ => h_.1))) : p := h
theorem au6_11 {p : Prop} (h : p := by (with_reducible repeat (first | apply Kd.R_alloc | apply Kd.R_drewN | apply Kd.R_drew)); exact (Kd.R_mono (Kd.R_far (p := ⟨gb198, 5, none⟩) (Kd.R_far (p := ⟨gb198, 4, none⟩) (Kd.R_far (p := ⟨gb198, 3, none⟩) (Kd.R_far (p := ⟨gb198, 2, none⟩) (Kd.R_far (p := ⟨gb198, 1, none⟩) (Kd.R_far (p := ⟨gb198, 0, none⟩) (Kd.R_types HO183.out BK198.out (by decide)) (fun _ hk => hk.2) (.int .i64 t188)) (fun _ hk => hk.2) (.string t189)) (fun _ hk => hk.2) (.string t190)) (fun _ hk => hk.2) (.int .i64 t191)) (fun _ hk => hk.2) (.slice Ao131 t192.length co131)) (fun _ hk => hk.2) (.slice Ao132 t195.length co132)) (fun _ h_ => h_.1))) : p := h
theorem au6_12 {p : Prop} (h : p := by (with_reducible repeat (first | apply Kd.R_alloc | apply Kd.R_drewN | apply Kd.R_drew)); exact (Kd.R_mono (Kd.R_far (p := ⟨gb198, 5, none⟩) (Kd.R_far (p := ⟨gb198, 4, none⟩) (Kd.R_far (p := ⟨gb198, 3, none⟩) (Kd.R_far (p := ⟨gb198, 2, none⟩) (Kd.R_far (p := ⟨gb198, 1, none⟩) (Kd.R_far (p := ⟨gb198, 0, none⟩) (Kd.R_types HO186.out BK198.out (by decide)) (fun _ hk => hk.2) (.int .i64 t188)) (fun _ hk => hk.2) (.string t189)) (fun _ hk => hk.2) (.string t190)) (fun _ hk => hk.2) (.int .i64 t191)) (fun _ hk => hk.2) (.slice Ao131 t192.length co131)) (fun _ hk => hk.2) (.slice Ao132 t195.length co132)) (fun _ h_ => h_.1))) : p := h
theorem au6_13 {p : Prop} (h : p := by (with_reducible repeat (first | apply Kd.R_alloc | apply Kd.R_drewN | apply Kd.R_drew)); exact (Kd.R_mono (Kd.R_far (p := ⟨gb198, 5, none⟩) (Kd.R_far (p := ⟨gb198, 4, none⟩) (Kd.R_far (p := ⟨gb198, 3, none⟩) (Kd.R_far (p := ⟨gb198, 2, none⟩) (Kd.R_far (p := ⟨gb198, 1, none⟩) (Kd.R_far (p := ⟨gb198, 0, none⟩) (Kd.R_types HO194.out BK198.out (by decide)) (fun _ hk => hk.2) (.int .i64 t188)) (fun _ hk => hk.2) (.string t189)) (fun _ hk => hk.2) (.string t190)) (fun _ hk => hk.2) (.int .i64 t191)) (fun _ hk => hk.2) (.slice Ao131 t192.length co131)) (fun _ hk => hk.2) (.slice Ao132 t195.length co132)) (fun _ h_ => h_.1))) : p := h
theorem au6_14 {p : Prop} (h : p := by (with_reducible repeat (first | apply Kd.R_alloc | apply Kd.R_drewN | apply Kd.R_drew)); exact (Kd.R_mono (Kd.R_far (p := ⟨gb198, 5, none⟩) (Kd.R_far (p := ⟨gb198, 4, none⟩) (Kd.R_far (p := ⟨gb198, 3, none⟩) (Kd.R_far (p := ⟨gb198, 2, none⟩) (Kd.R_far (p := ⟨gb198, 1, none⟩) (Kd.R_far (p := ⟨gb198, 0, none⟩) (Kd.R_types HO197.out BK198.out (by decide)) (fun _ hk => hk.2) (.int .i64 t188)) (fun _ hk => hk.2) (.string t189)) (fun _ hk => hk.2) (.string t190)) (fun _ hk => hk.2) (.int .i64 t191)) (fun _ hk => hk.2) (.slice Ao131 t192.length co131)) (fun _ hk => hk.2) (.slice Ao132 t195.length co132)) (fun _ h_ => h_.1))) : p := h
theorem au6_15 {p : Prop} (h : p := by (with_reducible repeat (first | apply Kd.R_alloc | apply Kd.R_drewN | apply Kd.R_drew)); exact (Kd.R_mono (Kd.R_far (p := ⟨gb209, 5, none⟩) (Kd.R_far (p := ⟨gb209, 4, none⟩) (Kd.R_far (p := ⟨gb209, 3, none⟩) (Kd.R_far (p := ⟨gb209, 2, none⟩) (Kd.R_far (p := ⟨gb209, 1, none⟩) (Kd.R_far (p := ⟨gb209, 0, none⟩) (Kd.R_types HO194.out BK209.out (by decide)) (fun _ hk => hk.2) (.int .i64 t199)) (fun _ hk => hk.2) (.string t200)) (fun _ hk => hk.2) (.string t201)) (fun _ hk => hk.2) (.int .i64 t202)) (fun _ hk => hk.2) (.slice Ao140 t203.length co140)) (fun _ hk => hk.2) (.slice Ao141 t206.length co141)) (fun _ h_ => h_.1))) : p := h
theorem au6_16 {p : Prop} (h : p := by (with_reducible repeat (first | apply Kd.R_alloc | apply Kd.R_drewN | apply Kd.R_drew)); exact (Kd.R_mono (Kd.R_far (p := ⟨gb209, 5, none⟩) (Kd.R_far (p := ⟨gb209, 4, none⟩) (Kd.R_far (p := ⟨gb209, 3, none⟩) (Kd.R_far (p := ⟨gb209, 2, none⟩) (Kd.R_far (p := ⟨gb209, 1, none⟩) (Kd.R_far (p := ⟨gb209, 0, none⟩) (Kd.R_types HO197.out BK209.out (by decide)) (fun _ hk => hk.2) (.int .i64 t199)) (fun _ hk => hk.2) (.string t200)) (fun _ hk => hk.2) (.string t201)) (fun _ hk => hk.2) (.int .i64 t202)) (fun _ hk => hk.2) (.slice Ao140 t203.length co140)) (fun _ hk => hk.2) (.slice Ao141 t206.length co141)) (fun _ h_ => h_.1))) : p := h
theorem au6_17 {p : Prop} (h : p := by (with_reducible repeat (first | apply Kd.R_alloc | apply Kd.R_drewN | apply Kd.R_drew)); exact (Kd.R_mono (Kd.R_far (p := ⟨gb209, 5, none⟩) (Kd.R_far (p := ⟨gb209, 4, none⟩) (Kd.R_far (p := ⟨gb209, 3, none⟩) (Kd.R_far (p := ⟨gb209, 2, none⟩) (Kd.R_far (p := ⟨gb209, 1, none⟩) (Kd.R_far (p := ⟨gb209, 0, none⟩) (Kd.R_types HO205.out BK209.out (by decide)) (fun _ hk => hk.2) (.int .i64 t199)) (fun _ hk => hk.2) (.string t200)) (fun _ hk => hk.2) (.string t201)) (fun _ hk => hk.2) (.int .i64 t202)) (fun _ hk => hk.2) (.slice Ao140 t203.length co140)) (fun _ hk => hk.2) (.slice Ao141 t206.length co141)) (fun _ h_ => h_.1))) : p := h
theorem au6_18 {p : Prop} (h : p := by (with_reducible repeat (first | apply Kd.R_alloc | apply Kd.R_drewN | apply Kd.R_drew)); exact (Kd.R_mono (Kd.R_far (p := ⟨gb209, 5, none⟩) (Kd.R_far (p := ⟨gb209, 4, none⟩) (Kd.R_far (p := ⟨gb209, 3, none⟩) (Kd.R_far (p := ⟨gb209, 2, none⟩) (Kd.R_far (p := ⟨gb209, 1, none⟩) (Kd.R_far (p := ⟨gb209, 0, none⟩) (Kd.R_types HO208.out BK209.out (by decide)) (fun _ hk => hk.2) (.int .i64 t199)) (fun _ hk => hk.2) (.string t200)) (fun _ hk => hk.2) (.string t201)) (fun _ hk => hk.2) (.int .i64 t202)) (fun _ hk => hk.2) (.slice Ao140 t203.length co140)) (fun _ hk => hk.2) (.slice Ao141 t206.length co141)) (fun _ h_ => h_.1))) : p := h
theorem au6_19 {p : Prop} (h : p := by (with_reducible repeat (first | apply Kd.R_alloc | apply Kd.R_drewN | apply Kd.R_drew)); exact (Kd.R_mono (Kd.R_far (p := ⟨gb198, 5, none⟩) (Kd.R_far (p := ⟨gb198, 4, none⟩) (Kd.R_far (p := ⟨gb198, 3, none⟩) (Kd.R_far (p := ⟨gb198, 2, none⟩) (Kd.R_far (p := ⟨gb198, 1, none⟩) (Kd.R_far (p := ⟨gb198, 0, none⟩) (Kd.R_types HO173.out BK198.out (by decide)) (fun _ hk => hk.2) (.int .i64 t188)) (fun _ hk => hk.2) (.string t189)) (fun _ hk => hk.2) (.string t190)) (fun _ hk => hk.2) (.int .i64 t191)) (fun _ hk => hk.2) (.slice Ao175 t192.length co175)) (fun _ hk => hk.2) (.slice Ao176 t195.length co176)) (fun _ h_ => h_.1))) : p := h
theorem au6_20 {p : Prop} (h : p := by (with_reducible repeat (first | apply Kd.R_alloc | apply Kd.R_drewN | apply Kd.R_drew)); exact (Kd.R_mono (Kd.R_far (p := ⟨gb198, 5, none⟩) (Kd.R_far (p := ⟨gb198, 4, none⟩) (Kd.R_far (p := ⟨gb198, 3, none⟩) (Kd.R_far (p := ⟨gb198, 2, none⟩) (Kd.R_far (p := ⟨gb198, 1, none⟩) (Kd.R_far (p := ⟨gb198, 0, none⟩) (Kd.R_types HO176.out BK198.out (by decide)) (fun _ hk => hk.2) (.int .i64 t188)) (fun _ hk => hk.2) (.string t189)) (fun _ hk => hk.2) (.string t190)) (fun _ hk => hk.2) (.int .i64 t191)) (fun _ hk => hk.2) (.slice Ao175 t192.length co175)) (fun _ hk => hk.2) (.slice Ao176 t195.length co176)) (fun _ h_ => h_.1))) : p := h
theorem au6_21 {p : Prop} (h : p := by (with_reducible repeat (first | apply Kd.R_alloc | apply Kd.R_drewN | apply Kd.R_drew)); exact (Kd.R_mono (Kd.R_far (p := ⟨gb198, 5, none⟩) (Kd.R_far (p := ⟨gb198, 4, none⟩) (Kd.R_far (p := ⟨gb198, 3, none⟩) (Kd.R_far (p := ⟨gb198, 2, none⟩) (Kd.R_far (p := ⟨gb198, 1, none⟩) (Kd.R_far (p := ⟨gb198, 0, none⟩) (Kd.R_types HO183.out BK198.out (by decide)) (fun _ hk => hk.2) (.int .i64 t188)) (fun _ hk => hk.2) (.string t189)) (fun _ hk => hk.2) (.string t190)) (fun _ hk => hk.2) (.int .i64 t191)) (fun _ hk => hk.2) (.slice Ao175 t192.length co175)) (fun _ hk => hk.2) (.slice Ao176 t195.length co176)) (fun _ h_ => h_.1))) : p := h
theorem au6_22 {p : Prop} (h : p := by (with_reducible repeat (first | apply Kd.R_alloc | apply Kd.R_drewN | apply Kd.R_drew)); exact (Kd.R_mono (Kd.R_far (p := ⟨gb198, 5, none⟩) (Kd.R_far (p := ⟨gb198, 4, none⟩) (Kd.R_far (p := ⟨gb198, 3, none⟩) (Kd.R_far (p := ⟨gb198, 2, none⟩) (Kd.R_far (p := ⟨gb198, 1, none⟩) (Kd.R_far (p := ⟨gb198, 0, none⟩) (Kd.R_types HO186.out BK198.out (by decide)) (fun _ hk => hk.2) (.int .i64 t188)) (fun _ hk => hk.2) (.string t189)) (fun _ hk => hk.2) (.string t190)) (fun _ hk => hk.2) (.int .i64 t191)) (fun _ hk => hk.2) (.slice Ao175 t192.length co175)) (fun _ hk => hk.2) (.slice Ao176 t195.length co176)) (fun _ h_ => h_.1))) : p := h
theorem au6_23 {p : Prop} (h : p := by (with_reducible repeat (first | apply Kd.R_alloc | apply Kd.R_drewN | apply Kd.R_drew)); exact (Kd.R_mono (Kd.R_far (p := ⟨gb198, 5, none⟩) (Kd.R_far (p := ⟨gb198, 4, none⟩) (Kd.R_far (p := ⟨gb198, 3, none⟩) (Kd.R_far (p := ⟨gb198, 2, none⟩) (Kd.R_far (p := ⟨gb198, 1, none⟩) (Kd.R_far (p := ⟨gb198, 0, none⟩) (Kd.R_types HO194.out BK198.out (by decide)) (fun _ hk => hk.2) (.int .i64 t188)) (fun _ hk => hk.2) (.string t189)) (fun _ hk => hk.2) (.string t190)) (fun _ hk => hk.2) (.int .i64 t191)) (fun _ hk => hk.2) (.slice Ao175 t192.length co175)) (fun _ hk => hk.2) (.slice Ao176 t195.length co176)) (fun _ h_ => h_.1))) : p := h
theorem au6_24 {p : Prop} (h : p := by (with_reducible repeat (first | apply Kd.R_alloc | apply Kd.R_drewN | apply Kd.R_drew)); exact (Kd.R_mono (Kd.R_far (p := ⟨gb198, 5, none⟩) (Kd.R_far (p := ⟨gb198, 4, none⟩) (Kd.R_far (p := ⟨gb198, 3, none⟩) (Kd.R_far (p := ⟨gb198, 2, none⟩) (Kd.R_far (p := ⟨gb198, 1, none⟩) (Kd.R_far (p := ⟨gb198, 0, none⟩) (Kd.R_types HO197.out BK198.out (by decide)) (fun _ hk => hk.2) (.int .i64 t188)) (fun _ hk => hk.2) (.string t189)) (fun _ hk => hk.2) (.string t190)) (fun _ hk => hk.2) (.int .i64 t191)) (fun _ hk => hk.2) (.slice Ao175 t192.length co175)) (fun _ hk => hk.2) (.slice Ao176 t195.length co176)) (fun _ h_ => h_.1))) : p := h
theorem au6_25 {p : Prop} (h : p := by (with_reducible repeat (first | apply Kd.R_alloc | apply Kd.R_drewN | apply Kd.R_drew)); exact (Kd.R_mono (Kd.R_far (p := ⟨gb209, 5, none⟩) (Kd.R_far (p := ⟨gb209, 4, none⟩) (Kd.R_far (p := ⟨gb209, 3, none⟩) (Kd.R_far (p := ⟨gb209, 2, none⟩) (Kd.R_far (p := ⟨gb209, 1, none⟩) (Kd.R_far (p := ⟨gb209, 0, none⟩) (Kd.R_types HO194.out BK209.out (by decide)) (fun _ hk => hk.2) (.int .i64 t199)) (fun _ hk => hk.2) (.string t200)) (fun _ hk => hk.2) (.string t201)) (fun _ hk => hk.2) (.int .i64 t202)) (fun _ hk => hk.2) (.slice Ao184 t203.length co184)) (fun _ hk => hk.2) (.slice Ao185 t206.length co185)) (fun _ h_ => h_.1))) : p := h
theorem au6_26 {p : Prop} (h : p := by (with_reducible repeat (first | apply Kd.R_alloc | apply Kd.R_drewN | apply Kd.R_drew)); exact (Kd.R_mono (Kd.R_far (p := ⟨gb209, 5, none⟩) (Kd.R_far (p := ⟨gb209, 4, none⟩) (Kd.R_far (p := ⟨gb209, 3, none⟩) (Kd.R_far (p := ⟨gb209, 2, none⟩) (Kd.R_far (p := ⟨gb209, 1, none⟩) (Kd.R_far (p := ⟨gb209, 0, none⟩) (Kd.R_types HO197.out BK209.out (by decide)) (fun _ hk => hk.2) (.int .i64 t199)) (fun _ hk => hk.2) (.string t200)) (fun _ hk => hk.2) (.string t201)) (fun _ hk => hk.2) (.int .i64 t202)) (fun _ hk => hk.2) (.slice Ao184 t203.length co184)) (fun _ hk => hk.2) (.slice Ao185 t206.length co185)) (fun _ h_ => h_.1))) : p := h
theorem au6_27 {p : Prop} (h : p := by (with_reducible repeat (first | apply Kd.R_alloc | apply Kd.R_drewN | apply Kd.R_drew)); exact (Kd.R_mono (Kd.R_far (p := ⟨gb209, 5, none⟩) (Kd.R_far (p := ⟨gb209, 4, none⟩) (Kd.R_far (p := ⟨gb209, 3, none⟩) (Kd.R_far (p := ⟨gb209, 2, none⟩) (Kd.R_far (p := ⟨gb209, 1, none⟩) (Kd.R_far (p := ⟨gb209, 0, none⟩) (Kd.R_types HO205.out BK209.out (by decide)) (fun _ hk => hk.2) (.int .i64 t199)) (fun _ hk => hk.2) (.string t200)) (fun _ hk => hk.2) (.string t201)) (fun _ hk => hk.2) (.int .i64 t202)) (fun _ hk => hk.2) (.slice Ao184 t203.length co184)) (fun _ hk => hk.2) (.slice Ao185 t206.length co185)) (fun _ h_ => h_.1))) : p := h
theorem au6_28 {p : Prop} (h : p := by (with_reducible repeat (first | apply Kd.R_alloc | apply Kd.R_drewN | apply Kd.R_drew)); exact (Kd.R_mono (Kd.R_far (p := ⟨gb209, 5, none⟩) (Kd.R_far (p := ⟨gb209, 4, none⟩) (Kd.R_far (p := ⟨gb209, 3, none⟩) (Kd.R_far (p := ⟨gb209, 2, none⟩) (Kd.R_far (p := ⟨gb209, 1, none⟩) (Kd.R_far (p := ⟨gb209, 0, none⟩) (Kd.R_types HO208.out BK209.out (by decide)) (fun _ hk => hk.2) (.int .i64 t199)) (fun _ hk => hk.2) (.string t200)) (fun _ hk => hk.2) (.string t201)) (fun _ hk => hk.2) (.int .i64 t202)) (fun _ hk => hk.2) (.slice Ao184 t203.length co184)) (fun _ hk => hk.2) (.slice Ao185 t206.length co185)) (fun _ h_ => h_.1))) : p := h
theorem au6_29 {p : Prop} (h : p := by (with_reducible repeat (first | apply Kd.R_alloc | apply Kd.R_drewN | apply Kd.R_drew)); exact (Kd.R_mono (Kd.R_far (p := ⟨gb198, 5, none⟩) (Kd.R_far (p := ⟨gb198, 4, none⟩) (Kd.R_far (p := ⟨gb198, 3, none⟩) (Kd.R_far (p := ⟨gb198, 2, none⟩) (Kd.R_far (p := ⟨gb198, 1, none⟩) (Kd.R_far (p := ⟨gb198, 0, none⟩) (Kd.R_types HO173.out BK198.out (by decide)) (fun _ hk => hk.2) (.int .i64 t188)) (fun _ hk => hk.2) (.string t189)) (fun _ hk => hk.2) (.string t190)) (fun _ hk => hk.2) (.int .i64 t191)) (fun _ hk => hk.2) (.slice Ao47 t192.length co47)) (fun _ hk => hk.2) (.slice Ao48 t195.length co48)) (fun _ h_ => h_.1))) : p := h
theorem au6_30 {p : Prop} (h : p := by (with_reducible repeat (first | apply Kd.R_alloc | apply Kd.R_drewN | apply Kd.R_drew)); exact (Kd.R_mono (Kd.R_far (p := ⟨gb198, 5, none⟩) (Kd.R_far (p := ⟨gb198, 4, none⟩) (Kd.R_far (p := ⟨gb198, 3, none⟩) (Kd.R_far (p := ⟨gb198, 2, none⟩) (Kd.R_far (p := ⟨gb198, 1, none⟩) (Kd.R_far (p := ⟨gb198, 0, none⟩) (Kd.R_types HO176.out BK198.out (by decide)) (fun _ hk => hk.2) (.int .i64 t188)) (fun _ hk => hk.2) (.string t189)) (fun _ hk => hk.2) (.string t190)) (fun _ hk => hk.2) (.int .i64 t191)) (fun _ hk => hk.2) (.slice Ao47 t192.length co47)) (fun _ hk => hk.2) (.slice Ao48 t195.length co48)) (fun _ h_ => h_.1))) : p := h
theorem au6_31 {p : Prop} (h : p := by (with_reducible repeat (first | apply Kd.R_alloc | apply Kd.R_drewN | apply Kd.R_drew)); exact (Kd.R_mono (Kd.R_far (p := ⟨gb198, 5, none⟩) (Kd.R_far (p := ⟨gb198, 4, none⟩) (Kd.R_far (p := ⟨gb198, 3, none⟩) (Kd.R_far (p := ⟨gb198, 2, none⟩) (Kd.R_far (p := ⟨gb198, 1, none⟩) (Kd.R_far (p := ⟨gb198, 0, none⟩) (Kd.R_types HO183.out BK198.out (by decide)) (fun _ hk => hk.2) (.int .i64 t188)) (fun _ hk => hk.2) (.string t189)) (fun _ hk => hk.2) (.string t190)) (fun _ hk => hk.2) (.int .i64 t191)) (fun _ hk => hk.2) (.slice Ao47 t192.length co47)) (fun _ hk => hk.2) (.slice Ao48 t195.length co48)) (fun _ h_ => h_.1))) : p := h
theorem au6_32 {p : Prop} (h : p := by (with_reducible repeat (first | apply Kd.R_alloc | apply Kd.R_drewN | apply Kd.R_drew)); exact (Kd.R_mono (Kd.R_far (p := ⟨gb198, 5, none⟩) (Kd.R_far (p := ⟨gb198, 4, none⟩) (Kd.R_far (p := ⟨gb198, 3, none⟩) (Kd.R_far (p := ⟨gb198, 2, none⟩) (Kd.R_far (p := ⟨gb198, 1, none⟩) (Kd.R_far (p := ⟨gb198, 0, none⟩) (Kd.R_types HO186.out BK198.out (by decide)) (fun _ hk => hk.2) (.int .i64 t188)) (fun _ hk => hk.2) (.string t189)) (fun _ hk => hk.2) (.string t190)) (fun _ hk => hk.2) (.int .i64 t191)) (fun _ hk => hk.2) (.slice Ao47 t192.length co47)) (fun _ hk => hk.2) (.slice Ao48 t195.length co48)) (fun _ h_ => h_.1))) : p := h
theorem au6_33 {p : Prop} (h : p := by (with_reducible repeat (first | apply Kd.R_alloc | apply Kd.R_drewN | apply Kd.R_drew)); exact (Kd.R_mono (Kd.R_far (p := ⟨gb198, 5, none⟩) (Kd.R_far (p := ⟨gb198, 4, none⟩) (Kd.R_far (p := ⟨gb198, 3, none⟩) (Kd.R_far (p := ⟨gb198, 2, none⟩) (Kd.R_far (p := ⟨gb198, 1, none⟩) (Kd.R_far (p := ⟨gb198, 0, none⟩) (Kd.R_types HO194.out BK198.out (by decide)) (fun _ hk => hk.2) (.int .i64 t188)) (fun _ hk => hk.2) (.string t189)) (fun _ hk => hk.2) (.string t190)) (fun _ hk => hk.2) (.int .i64 t191)) (fun _ hk => hk.2) (.slice Ao47 t192.length co47)) (fun _ hk => hk.2) (.slice Ao48 t195.length co48)) (fun _ h_ => h_.1))) : p := h
theorem au6_34 {p : Prop} (h : p := by (with_reducible repeat (first | apply Kd.R_alloc | apply Kd.R_drewN | apply Kd.R_drew)); exact (Kd.R_mono (Kd.R_far (p := ⟨gb198, 5, none⟩) (Kd.R_far (p := ⟨gb198, 4, none⟩) (Kd.R_far (p := ⟨gb198, 3, none⟩) (Kd.R_far (p := ⟨gb198, 2, none⟩) (Kd.R_far (p := ⟨gb198, 1, none⟩) (Kd.R_far (p := ⟨gb198, 0, none⟩) (Kd.R_types HO197.out BK198.out (by decide)) (fun _ hk => hk.2) (.int .i64 t188)) (fun _ hk => hk.2) (.string t189)) (fun _ hk => hk.2) (.string t190)) (fun _ hk => hk.2) (.int .i64 t191)) (fun _ hk => hk.2) (.slice Ao47 t192.length co47)) (fun _ hk => hk.2) (.slice Ao48 t195.length co48)) (fun _ h_ => h_.1))) : p := h
theorem au6_35 {p : Prop} (h : p := by (with_reducible repeat (first | apply Kd.R_alloc | apply Kd.R_drewN | apply Kd.R_drew)); exact (Kd.R_mono (Kd.R_far (p := ⟨gb209, 5, none⟩) (Kd.R_far (p := ⟨gb209, 4, none⟩) (Kd.R_far (p := ⟨gb209, 3, none⟩) (Kd.R_far (p := ⟨gb209, 2, none⟩) (Kd.R_far (p := ⟨gb209, 1, none⟩) (Kd.R_far (p := ⟨gb209, 0, none⟩) (Kd.R_types HO194.out BK209.out (by decide)) (fun _ hk => hk.2) (.int .i64 t199)) (fun _ hk => hk.2) (.string t200)) (fun _ hk => hk.2) (.string t201)) (fun _ hk => hk.2) (.int .i64 t202)) (fun _ hk => hk.2) (.slice Ao56 t203.length co56)) (fun _ hk => hk.2) (.slice Ao57 t206.length co57)) (fun _ h_ => h_.1))) : p := h
theorem au6_36 {p : Prop} (h : p := by (with_reducible repeat (first | apply Kd.R_alloc | apply Kd.R_drewN | apply Kd.R_drew)); exact (Kd.R_mono (Kd.R_far (p := ⟨gb209, 5, none⟩) (Kd.R_far (p := ⟨gb209, 4, none⟩) (Kd.R_far (p := ⟨gb209, 3, none⟩) (Kd.R_far (p := ⟨gb209, 2, none⟩) (Kd.R_far (p := ⟨gb209, 1, none⟩) (Kd.R_far (p := ⟨gb209, 0, none⟩) (Kd.R_types HO197.out BK209.out (by decide)) (fun _ hk => hk.2) (.int .i64 t199)) (fun _ hk => hk.2) (.string t200)) (fun _ hk => hk.2) (.string t201)) (fun _ hk => hk.2) (.int .i64 t202)) (fun _ hk => hk.2) (.slice Ao56 t203.length co56)) (fun _ hk => hk.2) (.slice Ao57 t206.length co57)) (fun _ h_ => h_.1))) : p := h
theorem au6_37 {p : Prop} (h : p := by (with_reducible repeat (first | apply Kd.R_alloc | apply Kd.R_drewN | apply Kd.R_drew)); exact (Kd.R_mono (Kd.R_far (p := ⟨gb209, 5, none⟩) (Kd.R_far (p := ⟨gb209, 4, none⟩) (Kd.R_far (p := ⟨gb209, 3, none⟩) (Kd.R_far (p := ⟨gb209, 2, none⟩) (Kd.R_far (p := ⟨gb209, 1, none⟩) (Kd.R_far (p := ⟨gb209, 0, none⟩) (Kd.R_types HO205.out BK209.out (by decide)) (fun _ hk => hk.2) (.int .i64 t199)) (fun _ hk => hk.2) (.string t200)) (fun _ hk => hk.2) (.string t201)) (fun _ hk => hk.2) (.int .i64 t202)) (fun _ hk => hk.2) (.slice Ao56 t203.length co56)) (fun _ hk => hk.2) (.slice Ao57 t206.length co57)) (fun _ h_ => h_.1))) : p := h
theorem au6_38 {p : Prop} (h : p := by (with_reducible repeat (first | apply Kd.R_alloc | apply Kd.R_drewN | apply Kd.R_drew)); exact (Kd.R_mono (Kd.R_far (p := ⟨gb209, 5, none⟩) (Kd.R_far (p := ⟨gb209, 4, none⟩) (Kd.R_far (p := ⟨gb209, 3, none⟩) (Kd.R_far (p := ⟨gb209, 2, none⟩) (Kd.R_far (p := ⟨gb209, 1, none⟩) (Kd.R_far (p := ⟨gb209, 0, none⟩) (Kd.R_types HO208.out BK209.out (by decide)) (fun _ hk => hk.2) (.int .i64 t199)) (fun _ hk => hk.2) (.string t200)) (fun _ hk => hk.2) (.string t201)) (fun _ hk => hk.2) (.int .i64 t202)) (fun _ hk => hk.2) (.slice Ao56 t203.length co56)) (fun _ hk => hk.2) (.slice Ao57 t206.length co57)) (fun _ h_ => h_.1))) : p := h
theorem au6_39 {p : Prop} (h : p := by (with_reducible repeat (first | apply Kd.R_alloc | apply Kd.R_drewN | apply Kd.R_drew)); exact (Kd.R_mono (Kd.R_far (p := ⟨gb198, 5, none⟩) (Kd.R_far (p := ⟨gb198, 4, none⟩) (Kd.R_far (p := ⟨gb198, 3, none⟩) (Kd.R_far (p := ⟨gb198, 2, none⟩) (Kd.R_far (p := ⟨gb198, 1, none⟩) (Kd.R_far (p := ⟨gb198, 0, none⟩) (Kd.R_types HO173.out BK198.out (by decide)) (fun _ hk => hk.2) (.int .i64 t188)) (fun _ hk => hk.2) (.string t189)) (fun _ hk => hk.2) (.string t190)) (fun _ hk => hk.2) (.int .i64 t191)) (fun _ hk => hk.2) (.slice Ao87 t192.length co87)) (fun _ hk => hk.2) (.slice Ao88 t195.length co88)) (fun _ h_ => h_.1))) : p := h
theorem au6_40 {p : Prop} (h : p := by (with_reducible repeat (first | apply Kd.R_alloc | apply Kd.R_drewN | apply Kd.R_drew)); exact (Kd.R_mono (Kd.R_far (p := ⟨gb198, 5, none⟩) (Kd.R_far (p := ⟨gb198, 4, none⟩) (Kd.R_far (p := ⟨gb198, 3, none⟩) (Kd.R_far (p := ⟨gb198, 2, none⟩) (Kd.R_far (p := ⟨gb198, 1, none⟩) (Kd.R_far (p := ⟨gb198, 0, none⟩) (Kd.R_types HO176.out BK198.out (by decide)) (fun _ hk => hk.2) (.int .i64 t188)) (fun _ hk => hk.2) (.string t189)) (fun _ hk => hk.2) (.string t190)) (fun _ hk => hk.2) (.int .i64 t191)) (fun _ hk => hk.2) (.slice Ao87 t192.length co87)) (fun _ hk => hk.2) (.slice Ao88 t195.length co88)) (fun _ h_ => h_.1))) : p := h
theorem au6_41 {p : Prop} (h : p := by (with_reducible repeat (first | apply Kd.R_alloc | apply Kd.R_drewN | apply Kd.R_drew)); exact (Kd.R_mono (Kd.R_far (p := ⟨gb198, 5, none⟩) (Kd.R_far (p := ⟨gb198, 4, none⟩) (Kd.R_far (p := ⟨gb198, 3, none⟩) (Kd.R_far (p := ⟨gb198, 2, none⟩) (Kd.R_far (p := ⟨gb198, 1, none⟩) (Kd.R_far (p := ⟨gb198, 0, none⟩) (Kd.R_types HO183.out BK198.out (by decide)) (fun _ hk => hk.2) (.int .i64 t188)) (fun _ hk => hk.2) (.string t189)) (fun _ hk => hk.2) (.string t190)) (fun _ hk => hk.2) (.int .i64 t191)) (fun _ hk => hk.2) (.slice Ao87 t192.length co87)) (fun _ hk => hk.2) (.slice Ao88 t195.length co88)) (fun _ h_ => h_.1))) : p := h
theorem au6_42 {p : Prop} (h : p := by (with_reducible repeat (first | apply Kd.R_alloc | apply Kd.R_drewN | apply Kd.R_drew)); exact (Kd.R_mono (Kd.R_far (p := ⟨gb198, 5, none⟩) (Kd.R_far (p := ⟨gb198, 4, none⟩) (Kd.R_far (p := ⟨gb198, 3, none⟩) (Kd.R_far (p := ⟨gb198, 2, none⟩) (Kd.R_far (p := ⟨gb198, 1, none⟩) (Kd.R_far (p := ⟨gb198, 0, none⟩) (Kd.R_types HO186.out BK198.out (by decide)) (fun _ hk => hk.2) (.int .i64 t188)) (fun _ hk => hk.2) (.string t189)) (fun _ hk => hk.2) (.string t190)) (fun _ hk => hk.2) (.int .i64 t191)) (fun _ hk => hk.2) (.slice Ao87 t192.length co87)) (fun _ hk => hk.2) (.slice Ao88 t195.length co88)) (fun _ h_ => h_.1))) : p := h
theorem au6_43 {p : Prop} (h : p := by (with_reducible repeat (first | apply Kd.R_alloc | apply Kd.R_drewN | apply Kd.R_drew)); exact (Kd.R_mono (Kd.R_far (p := ⟨gb198, 5, none⟩) (Kd.R_far (p := ⟨gb198, 4, none⟩) (Kd.R_far (p := ⟨gb198, 3, none⟩) (Kd.R_far (p := ⟨gb198, 2, none⟩) (Kd.R_far (p := ⟨gb198, 1, none⟩) (Kd.R_far (p := ⟨gb198, 0, none⟩) (Kd.R_types HO194.out BK198.out (by decide)) (fun _ hk => hk.2) (.int .i64 t188)) (fun _ hk => hk.2) (.string t189)) (fun _ hk => hk.2) (.string t190)) (fun _ hk => hk.2) (.int .i64 t191)) (fun _ hk => hk.2) (.slice Ao87 t192.length co87)) (fun _ hk => hk.2) (.slice Ao88 t195.length co88)) (fun _ h_ => h_.1))) : p := h
theorem au6_44 {p : Prop} (h : p := by (with_reducible repeat (first | apply Kd.R_alloc | apply Kd.R_drewN | apply Kd.R_drew)); exact (Kd.R_mono (Kd.R_far (p := ⟨gb198, 5, none⟩) (Kd.R_far (p := ⟨gb198, 4, none⟩) (Kd.R_far (p := ⟨gb198, 3, none⟩) (Kd.R_far (p := ⟨gb198, 2, none⟩) (Kd.R_far (p := ⟨gb198, 1, none⟩) (Kd.R_far (p := ⟨gb198, 0, none⟩) (Kd.R_types HO197.out BK198.out (by decide)) (fun _ hk => hk.2) (.int .i64 t188)) (fun _ hk => hk.2) (.string t189)) (fun _ hk => hk.2) (.string t190)) (fun _ hk => hk.2) (.int .i64 t191)) (fun _ hk => hk.2) (.slice Ao87 t192.length co87)) (fun _ hk => hk.2) (.slice Ao88 t195.length co88)) (fun _ h_ => h_.1))) : p := h
theorem au6_45 {p : Prop} (h : p := by (with_reducible repeat (first | apply Kd.R_alloc | apply Kd.R_drewN | apply Kd.R_drew)); exact (Kd.R_mono (Kd.R_far (p := ⟨gb209, 5, none⟩) (Kd.R_far (p := ⟨gb209, 4, none⟩) (Kd.R_far (p := ⟨gb209, 3, none⟩) (Kd.R_far (p := ⟨gb209, 2, none⟩) (Kd.R_far (p := ⟨gb209, 1, none⟩) (Kd.R_far (p := ⟨gb209, 0, none⟩) (Kd.R_types HO194.out BK209.out (by decide)) (fun _ hk => hk.2) (.int .i64 t199)) (fun _ hk => hk.2) (.string t200)) (fun _ hk => hk.2) (.string t201)) (fun _ hk => hk.2) (.int .i64 t202)) (fun _ hk => hk.2) (.slice Ao96 t203.length co96)) (fun _ hk => hk.2) (.slice Ao97 t206.length co97)) (fun _ h_ => h_.1))) : p := h
theorem au6_46 {p : Prop} (h : p := by (with_reducible repeat (first | apply Kd.R_alloc | apply Kd.R_drewN | apply Kd.R_drew)); exact (Kd.R_mono (Kd.R_far (p := ⟨gb209, 5, none⟩) (Kd.R_far (p := ⟨gb209, 4, none⟩) (Kd.R_far (p := ⟨gb209, 3, none⟩) (Kd.R_far (p := ⟨gb209, 2, none⟩) (Kd.R_far (p := ⟨gb209, 1, none⟩) (Kd.R_far (p := ⟨gb209, 0, none⟩) (Kd.R_types HO197.out BK209.out (by decide)) (fun _ hk => hk.2) (.int .i64 t199)) (fun _ hk => hk.2) (.string t200)) (fun _ hk => hk.2) (.string t201)) (fun _ hk => hk.2) (.int .i64 t202)) (fun _ hk => hk.2) (.slice Ao96 t203.length co96)) (fun _ hk => hk.2) (.slice Ao97 t206.length co97)) (fun _ h_ => h_.1))) : p := h
theorem au6_47 {p : Prop} (h : p := by (with_reducible repeat (first | apply Kd.R_alloc | apply Kd.R_drewN | apply Kd.R_drew)); exact (Kd.R_mono (Kd.R_far (p := ⟨gb209, 5, none⟩) (Kd.R_far (p := ⟨gb209, 4, none⟩) (Kd.R_far (p := ⟨gb209, 3, none⟩) (Kd.R_far (p := ⟨gb209, 2, none⟩) (Kd.R_far (p := ⟨gb209, 1, none⟩) (Kd.R_far (p := ⟨gb209, 0, none⟩) (Kd.R_types HO205.out BK209.out (by decide)) (fun _ hk => hk.2) (.int .i64 t199)) (fun _ hk => hk.2) (.string t200)) (fun _ hk => hk.2) (.string t201)) (fun _ hk => hk.2) (.int .i64 t202)) (fun _ hk => hk.2) (.slice Ao96 t203.length co96)) (fun _ hk => hk.2) (.slice Ao97 t206.length co97)) (fun _ h_ => h_.1))) : p := h
theorem au6_48 {p : Prop} (h : p := by (with_reducible repeat (first | apply Kd.R_alloc | apply Kd.R_drewN | apply Kd.R_drew)); exact (Kd.R_mono (Kd.R_far (p := ⟨gb209, 5, none⟩) (Kd.R_far (p := ⟨gb209, 4, none⟩) (Kd.R_far (p := ⟨gb209, 3, none⟩) (Kd.R_far (p := ⟨gb209, 2, none⟩) (Kd.R_far (p := ⟨gb209, 1, none⟩) (Kd.R_far (p := ⟨gb209, 0, none⟩) (Kd.R_types HO208.out BK209.out (by decide)) (fun _ hk => hk.2) (.int .i64 t199)) (fun _ hk => hk.2) (.string t200)) (fun _ hk => hk.2) (.string t201)) (fun _ hk => hk.2) (.int .i64 t202)) (fun _ hk => hk.2) (.slice Ao96 t203.length co96)) (fun _ hk => hk.2) (.slice Ao97 t206.length co97)) (fun _ h_ => h_.1))) : p := h
theorem au6_49 {p : Prop} (h : p := by repeat (first | exact (Kd.R_reads' HO173.out).2.2 | (with_reducible refine Kd.C_alloc ?_ _) | (with_reducible refine Kd.C_drewN ?_ _) | (with_reducible refine Kd.C_drew ?_))) : p := h
theorem au6_50 {p : Prop} (h : p := by repeat (first | exact (Kd.R_reads' HO176.out).2.2 | (with_reducible refine Kd.C_alloc ?_ _) | (with_reducible refine Kd.C_drewN ?_ _) | (with_reducible refine Kd.C_drew ?_))) : p := h
theorem au6_51 {p : Prop} (h : p := by repeat (first | exact (Kd.R_reads' HO183.out).2.2 | (with_reducible refine Kd.C_alloc ?_ _) | (with_reducible refine Kd.C_drewN ?_ _) | (with_reducible refine Kd.C_drew ?_))) : p := h
theorem au6_52 {p : Prop} (h : p := by repeat (first | exact (Kd.R_reads' HO186.out).2.2 | (with_reducible refine Kd.C_alloc ?_ _) | (with_reducible refine Kd.C_drewN ?_ _) | (with_reducible refine Kd.C_drew ?_))) : p := h
theorem au6_53 {p : Prop} (h : p := by first | rfl | (simp [errW_none, errW_some] <;> rfl) | (simp [*, errW_none, errW_some] <;> rfl)) : p := h
theorem au6_54 {p : Prop} (h : p := by repeat (first | exact (Kd.R_reads' HO194.out).2.2 | (with_reducible refine Kd.C_alloc ?_ _) | (with_reducible refine Kd.C_drewN ?_ _) | (with_reducible refine Kd.C_drew ?_))) : p := h
theorem au6_55 {p : Prop} (h : p := by repeat (first | exact (Kd.R_reads' HO197.out).2.2 | (with_reducible refine Kd.C_alloc ?_ _) | (with_reducible refine Kd.C_drewN ?_ _) | (with_reducible refine Kd.C_drew ?_))) : p := h
theorem au6_56 {p : Prop} (h : p := by repeat (first | exact (Kd.R_reads' HO217.out).2.2 | (with_reducible refine Kd.C_alloc ?_ _) | (with_reducible refine Kd.C_drewN ?_ _) | (with_reducible refine Kd.C_drew ?_))) : p := h
theorem au6_57 {p : Prop} (h : p := by repeat (first | exact (Kd.R_reads' HO220.out).2.2 | (with_reducible refine Kd.C_alloc ?_ _) | (with_reducible refine Kd.C_drewN ?_ _) | (with_reducible refine Kd.C_drew ?_))) : p := h
theorem au6_58 {p : Prop} (h : p := by repeat (first | exact (Kd.R_reads' HO205.out).2.2 | (with_reducible refine Kd.C_alloc ?_ _) | (with_reducible refine Kd.C_drewN ?_ _) | (with_reducible refine Kd.C_drew ?_))) : p := h
theorem au6_59 {p : Prop} (h : p := by repeat (first | exact (Kd.R_reads' HO208.out).2.2 | (with_reducible refine Kd.C_alloc ?_ _) | (with_reducible refine Kd.C_drewN ?_ _) | (with_reducible refine Kd.C_drew ?_))) : p := h
theorem au6_60 {p : Prop} (h : p := by repeat (first | exact (Kd.R_reads' HO228.out).2.2 | (with_reducible refine Kd.C_alloc ?_ _) | (with_reducible refine Kd.C_drewN ?_ _) | (with_reducible refine Kd.C_drew ?_))) : p := h
theorem au6_61 {p : Prop} (h : p := by repeat (first | exact (Kd.R_reads' HO231.out).2.2 | (with_reducible refine Kd.C_alloc ?_ _) | (with_reducible refine Kd.C_drewN ?_ _) | (with_reducible refine Kd.C_drew ?_))) : p := h
theorem au6_62 {p : Prop} (h : p := by exact (Kd.R_reads' HO194.out).2.1) : p := h
theorem au6_63 {p : Prop} (h : p := by exact (Kd.R_reads' HO197.out).2.1) : p := h
theorem au6_64 {p : Prop} (h : p := by exact (Kd.R_reads' HO205.out).2.1) : p := h
theorem au6_65 {p : Prop} (h : p := by exact (Kd.R_reads' HO208.out).2.1) : p := h
theorem au6_66 {p : Prop} (h : p := by exact (Kd.R_reads' HO173.out).2.1) : p := h
theorem au6_67 {p : Prop} (h : p := by exact (Kd.R_reads' HO176.out).2.1) : p := h
theorem au6_68 {p : Prop} (h : p := by exact (Kd.R_reads' HO183.out).2.1) : p := h
theorem au6_69 {p : Prop} (h : p := by exact (Kd.R_reads' HO186.out).2.1) : p := h
theorem au6_70 {p : Prop} (h : p := by exact Kd.C_below HR1_4.out bl_) : p := h
theorem au6_71 {p : Prop} (h : p := by exact Kd.C_below HR1_5.out bl_) : p := h

/-! ### laws_FnExactPaperSame: function 3 -/
def laws_FnExactPaperSame.f (k : Nat) (a0_0 : Int) (a0_1 : ByteArray) (a0_2 : ByteArray) (a0_3 : Int) (l0_4 : List ByteArray) (l0_5 : List (S111)) (a1_0 : Int) (a1_1 : ByteArray) (a1_2 : ByteArray) (a1_3 : Int) (l1_4 : List ByteArray) (l1_5 : List (S111)) : Option (Bool) := (laws_szPaper.f k a0_0 a0_1 a0_2 a0_3 l0_4 l0_5 1048576).bind fun t165 => (if t165 < 0 then (some true) else ((laws_szPaper.f k a1_0 a1_1 a1_2 a1_3 l1_4 l1_5 t165).bind fun t166 => (if t166 < 0 then (some true) else ((laws_toPaper.f k a0_0 a0_1 a0_2 a0_3 l0_4 l0_5).bind fun bt167 => ((laws_toPaper.f k a1_0 a1_1 a1_2 a1_3 l1_4 l1_5).bind fun bt177 => ((spec_PaperSame.f k bt167.1 bt167.2.1 bt167.2.2.1 bt167.2.2.2.1 bt167.2.2.2.2.1 bt167.2.2.2.2.2 bt177.1 bt177.2.1 bt177.2.2.1 bt177.2.2.2.1 bt177.2.2.2.2.1 bt177.2.2.2.2.2).bind fun t187 => ((laws_toPaper.f k a0_0 a0_1 a0_2 a0_3 l0_4 l0_5).bind fun bt188 => ((laws_toPaper.f k a1_0 a1_1 a1_2 a1_3 l1_4 l1_5).bind fun bt199 => ((impl_PaperSame.f k bt188.1 bt188.2.1 bt188.2.2.1 bt188.2.2.2.1 bt188.2.2.2.2.1 bt188.2.2.2.2.2 bt199.1 bt199.2.1 bt199.2.2.1 bt199.2.2.2.1 bt199.2.2.2.2.1 bt199.2.2.2.2.2).bind fun t210 => (if (t210 != t187) = true then (some false) else ((laws_toPaper.f k a0_0 a0_1 a0_2 a0_3 l0_4 l0_5).bind fun bt211 => ((laws_eqPaper.f k bt188.1 bt188.2.1 bt188.2.2.1 bt188.2.2.2.1 bt188.2.2.2.2.1 bt188.2.2.2.2.2 bt211.1 bt211.2.1 bt211.2.2.1 bt211.2.2.2.1 bt211.2.2.2.2.1 bt211.2.2.2.2.2).bind fun t221 => (if t221 = true then ((laws_toPaper.f k a1_0 a1_1 a1_2 a1_3 l1_4 l1_5).bind fun bt222 => ((laws_eqPaper.f k bt199.1 bt199.2.1 bt199.2.2.1 bt199.2.2.2.1 bt199.2.2.2.2.1 bt199.2.2.2.2.2 bt222.1 bt222.2.1 bt222.2.2.1 bt222.2.2.2.1 bt222.2.2.2.2.1 bt222.2.2.2.2.2).bind fun t232 => (if t232 = true then (some true) else (some false)))) else (some false))))))))))))))
theorem laws_FnExactPaperSame.mono : ∀ a0 a1 a2 a3 a4 a5 a6 a7 a8 a9 a10 a11 k, LeO (laws_FnExactPaperSame.f k a0 a1 a2 a3 a4 a5 a6 a7 a8 a9 a10 a11) (laws_FnExactPaperSame.f (k + 1) a0 a1 a2 a3 a4 a5 a6 a7 a8 a9 a10 a11) := by
  intro a0 a1 a2 a3 a4 a5 a6 a7 a8 a9 a10 a11 k
  unfold laws_FnExactPaperSame.f
  repeat' first
      | (with_reducible exact impl_PaperSame.mono _ _ _ _ _ _ _ _ _ _ _ _ _)
      | (with_reducible exact laws_eqPaper.mono _ _ _ _ _ _ _ _ _ _ _ _ _)
      | (with_reducible exact laws_szPaper.mono _ _ _ _ _ _ _ _)
      | (with_reducible exact laws_toPaper.mono _ _ _ _ _ _ _)
      | (with_reducible exact spec_PaperSame.mono _ _ _ _ _ _ _ _ _ _ _ _ _)
      | (with_reducible exact LeO.refl _)
      | (with_reducible exact LeO.none _)
      | (with_reducible refine LeO.ite ?_ ?_)
      | (with_reducible refine LeO.bind ?_ (fun _ => ?_))
      | exact impl_PaperSame.mono _ _ _ _ _ _ _ _ _ _ _ _ _
      | exact laws_eqPaper.mono _ _ _ _ _ _ _ _ _ _ _ _ _
      | exact laws_szPaper.mono _ _ _ _ _ _ _ _
      | exact laws_toPaper.mono _ _ _ _ _ _ _
      | exact spec_PaperSame.mono _ _ _ _ _ _ _ _ _ _ _ _ _
      | exact LeO.none _
      | refine LeO.ite ?_ ?_
      | refine LeO.bind ?_ (fun _ => ?_)
set_option maxHeartbeats 8000000 in
set_option maxRecDepth 100000 in
theorem laws_FnExactPaperSame.calls (k : Nat) (a0_0 : Int) (a0_1 : ByteArray) (a0_2 : ByteArray) (a0_3 : Int) (A0_4 : Option Addr) (c0_4 : Nat) (l0_4 : List ByteArray) (A0_5 : Option Addr) (c0_5 : Nat) (l0_5 : List (S111)) (a1_0 : Int) (a1_1 : ByteArray) (a1_2 : ByteArray) (a1_3 : Int) (A1_4 : Option Addr) (c1_4 : Nat) (l1_4 : List ByteArray) (A1_5 : Option Addr) (c1_5 : Nat) (l1_5 : List (S111)) (r : Bool) (w : World) (hr0_4 : Kd.C Kd.string w A0_4 l0_4.length l0_4) (hc0_4 : l0_4.length ≤ c0_4) (hr0_5 : Kd.C k111 w A0_5 l0_5.length l0_5) (hc0_5 : l0_5.length ≤ c0_5) (hr1_4 : Kd.C Kd.string w A1_4 l1_4.length l1_4) (hc1_4 : l1_4.length ≤ c1_4) (hr1_5 : Kd.C k111 w A1_5 l1_5.length l1_5) (hc1_5 : l1_5.length ≤ c1_5) (h : laws_FnExactPaperSame.f k a0_0 a0_1 a0_2 a0_3 l0_4 l0_5 a1_0 a1_1 a1_2 a1_3 l1_4 l1_5 = some r) :
    Calls Try.prog 3 #[.agg #[.int .i64 a0_0, .string a0_1, .string a0_2, .int .i64 a0_3, .slice A0_4 l0_4.length c0_4, .slice A0_5 l0_5.length c0_5], .agg #[.int .i64 a1_0, .string a1_1, .string a1_2, .int .i64 a1_3, .slice A1_4 l1_4.length c1_4, .slice A1_5 l1_5.length c1_5]] w fun e w' => e = .returned (.bool r) ∧ Below w.heap.size w w' := by
  have hu25 := Try.underlying25
  have hu30 := Try.underlying30
  have HR0_4 := Aside0.mk hr0_4
  have HC0_4 := Aside0.mk hc0_4
  clear hr0_4 hc0_4
  have HR0_5 := Aside0.mk hr0_5
  have HC0_5 := Aside0.mk hc0_5
  clear hr0_5 hc0_5
  have HR1_4 := Aside0.mk hr1_4
  have HC1_4 := Aside0.mk hc1_4
  clear hr1_4 hc1_4
  have HR1_5 := Aside0.mk hr1_5
  have HC1_5 := Aside0.mk hc1_5
  clear hr1_5 hc1_5
  have HB := Aside0.mk (Below.refl w.heap.size w)
  have H : ((laws_szPaper.f k a0_0 a0_1 a0_2 a0_3 l0_4 l0_5 1048576).bind fun t165 => (if t165 < 0 then (some true) else ((laws_szPaper.f k a1_0 a1_1 a1_2 a1_3 l1_4 l1_5 t165).bind fun t166 => (if t166 < 0 then (some true) else ((laws_toPaper.f k a0_0 a0_1 a0_2 a0_3 l0_4 l0_5).bind fun bt167 => ((laws_toPaper.f k a1_0 a1_1 a1_2 a1_3 l1_4 l1_5).bind fun bt177 => ((spec_PaperSame.f k bt167.1 bt167.2.1 bt167.2.2.1 bt167.2.2.2.1 bt167.2.2.2.2.1 bt167.2.2.2.2.2 bt177.1 bt177.2.1 bt177.2.2.1 bt177.2.2.2.1 bt177.2.2.2.2.1 bt177.2.2.2.2.2).bind fun t187 => ((laws_toPaper.f k a0_0 a0_1 a0_2 a0_3 l0_4 l0_5).bind fun bt188 => ((laws_toPaper.f k a1_0 a1_1 a1_2 a1_3 l1_4 l1_5).bind fun bt199 => ((impl_PaperSame.f k bt188.1 bt188.2.1 bt188.2.2.1 bt188.2.2.2.1 bt188.2.2.2.2.1 bt188.2.2.2.2.2 bt199.1 bt199.2.1 bt199.2.2.1 bt199.2.2.2.1 bt199.2.2.2.2.1 bt199.2.2.2.2.2).bind fun t210 => (if (t210 != t187) = true then (some false) else ((laws_toPaper.f k a0_0 a0_1 a0_2 a0_3 l0_4 l0_5).bind fun bt211 => ((laws_eqPaper.f k bt188.1 bt188.2.1 bt188.2.2.1 bt188.2.2.2.1 bt188.2.2.2.2.1 bt188.2.2.2.2.2 bt211.1 bt211.2.1 bt211.2.2.1 bt211.2.2.2.1 bt211.2.2.2.2.1 bt211.2.2.2.2.2).bind fun t221 => (if t221 = true then ((laws_toPaper.f k a1_0 a1_1 a1_2 a1_3 l1_4 l1_5).bind fun bt222 => ((laws_eqPaper.f k bt199.1 bt199.2.1 bt199.2.2.1 bt199.2.2.2.1 bt199.2.2.2.2.1 bt199.2.2.2.2.2 bt222.1 bt222.2.1 bt222.2.2.1 bt222.2.2.2.1 bt222.2.2.2.2.1 bt222.2.2.2.2.2).bind fun t232 => (if t232 = true then (some true) else (some false)))) else (some false))))))))))))))) = some r := h
  clear h
  replace H := Option.bind_eq_some_iff.mp H
  obtain ⟨t165, A30, H⟩ := H
  replace H : (if t165 < 0 then (some true) else ((laws_szPaper.f k a1_0 a1_1 a1_2 a1_3 l1_4 l1_5 t165).bind fun t166 => (if t166 < 0 then (some true) else ((laws_toPaper.f k a0_0 a0_1 a0_2 a0_3 l0_4 l0_5).bind fun bt167 => ((laws_toPaper.f k a1_0 a1_1 a1_2 a1_3 l1_4 l1_5).bind fun bt177 => ((spec_PaperSame.f k bt167.1 bt167.2.1 bt167.2.2.1 bt167.2.2.2.1 bt167.2.2.2.2.1 bt167.2.2.2.2.2 bt177.1 bt177.2.1 bt177.2.2.1 bt177.2.2.2.1 bt177.2.2.2.2.1 bt177.2.2.2.2.2).bind fun t187 => ((laws_toPaper.f k a0_0 a0_1 a0_2 a0_3 l0_4 l0_5).bind fun bt188 => ((laws_toPaper.f k a1_0 a1_1 a1_2 a1_3 l1_4 l1_5).bind fun bt199 => ((impl_PaperSame.f k bt188.1 bt188.2.1 bt188.2.2.1 bt188.2.2.2.1 bt188.2.2.2.2.1 bt188.2.2.2.2.2 bt199.1 bt199.2.1 bt199.2.2.1 bt199.2.2.2.1 bt199.2.2.2.2.1 bt199.2.2.2.2.2).bind fun t210 => (if (t210 != t187) = true then (some false) else ((laws_toPaper.f k a0_0 a0_1 a0_2 a0_3 l0_4 l0_5).bind fun bt211 => ((laws_eqPaper.f k bt188.1 bt188.2.1 bt188.2.2.1 bt188.2.2.2.1 bt188.2.2.2.2.1 bt188.2.2.2.2.2 bt211.1 bt211.2.1 bt211.2.2.1 bt211.2.2.2.1 bt211.2.2.2.2.1 bt211.2.2.2.2.2).bind fun t221 => (if t221 = true then ((laws_toPaper.f k a1_0 a1_1 a1_2 a1_3 l1_4 l1_5).bind fun bt222 => ((laws_eqPaper.f k bt199.1 bt199.2.1 bt199.2.2.1 bt199.2.2.2.1 bt199.2.2.2.2.1 bt199.2.2.2.2.2 bt222.1 bt222.2.1 bt222.2.2.1 bt222.2.2.2.1 bt222.2.2.2.2.1 bt222.2.2.2.2.2).bind fun t232 => (if t232 = true then (some true) else (some false)))) else (some false)))))))))))))) = some r := H
  have A3 := Aside0.mk A30
  clear A30
  by_cases c4 : t165 < 0
  · rw [if_pos c4] at H
    have c4b0 : decide (t165 < 0) = true := decide_eq_true c4
    clear c4
    obtain rfl := Option.some.inj H
    go_enter Try.func3, Try.ntmps3
    go_wp2_with (first | ((with_reducible refine gate_dst (N := 2) rfl ?_); refine box_event ?hg (N := 2) ?hd (cs := #[.int .i64 a0_0, .string a0_1, .string a0_2, .int .i64 a0_3, .slice A0_4 l0_4.length c0_4, .slice A0_5 l0_5.length c0_5]) (t := 25) ?hr ?_; (case hd => rfl); (case hg => rfl); (case hr => exact hr_); intro gb163 hg w5 hbox hb; have n0_ := Aside0.mk (below_step bl_ hb); have n1_ := Aside0.mk (hbox); have n2_ := Aside0.mk (gw_ hg bl_); have n3_ := Aside0.mk (gw_ hg bl_); clear HB; have HB := n0_; have BK163 := n1_; have GW163 := n2_; have GE163 := n3_; clear n0_ n1_ n2_ n3_; clear hb hbox hg) | ((with_reducible refine gate_dst (N := 3) rfl ?_); refine box_event ?hg (N := 3) ?hd (cs := #[.int .i64 a1_0, .string a1_1, .string a1_2, .int .i64 a1_3, .slice A1_4 l1_4.length c1_4, .slice A1_5 l1_5.length c1_5]) (t := 25) ?hr ?_; (case hd => rfl); (case hg => rfl); (case hr => exact hr_); intro gb164 hg w6 hbox hb; have n0_ := Aside0.mk (blkb_ BK163 hb); have n1_ := Aside0.mk (below_step bl_ hb); have n2_ := Aside0.mk (hbox); have n3_ := Aside0.mk (gw_ hg bl_); have n4_ := Aside0.mk (gw_ hg bl_); have n5_ := Aside0.mk (gn_ hg (blkl_ BK163)); have n6_ := Aside0.mk (gm_ hg (blkl_ BK163)); clear BK163; clear HB; have BK163 := n0_; have HB := n1_; have BK164 := n2_; have GW164 := n3_; have GE164 := n4_; have NB163_164 := n5_; have NB164_163 := n6_; clear n0_ n1_ n2_ n3_ n4_ n5_ n6_; clear hb hbox hg; have hnb7 := NB163_164.out; have hnc7 := NB164_163.out; obtain ⟨hcz8_0, hcz8_1, hcz8_2, hcz8_3, hcz8_4, hcz8_5, hfz8_0, hfz8_1, hfz8_2, hfz8_3, hfz8_4, hfz8_5⟩ := cellsF6 BK163.out) | ((with_reducible refine gate_callee (f := 8) rfl ?_); refine gl_ 12 Try.func8 #[.agg #[.int .i64 a0_0, .string a0_1, .string a0_2, .int .i64 a0_3, .slice A0_4 l0_4.length c0_4, .slice A0_5 l0_5.length c0_5], .int .i64 1048576] ?_ rfl rfl rfl rfl; (with_reducible refine (laws_szPaper.calls k a0_0 a0_1 a0_2 a0_3 _ _ l0_4 _ _ l0_5 1048576 t165 _ ?side1 ?side2 ?side3 ?side4 A3.out).mono ?_); (case side1 => exact au6_5); (case side2 => exact HC0_4.out); (case side3 => exact au6_6); (case side4 => exact HC0_5.out); rintro e w9 ⟨rfl, hb⟩; refine ⟨_, rfl, ?_⟩; have n0_ := Aside0.mk (blkb_ BK163 hb); have n1_ := Aside0.mk (blkb_ BK164 hb); have n2_ := Aside0.mk (below_step bl_ hb); clear BK163; clear BK164; clear HB; have BK163 := n0_; have BK164 := n1_; have HB := n2_; clear n0_ n1_ n2_; (try clear hb); (try clear hb2); (try clear hk); (try clear hi)))
    go_ret
    exact ⟨au6_53, bl_⟩
  · rw [if_neg c4] at H
    have c4b0 : decide (t165 < 0) = false := decide_eq_false c4
    clear c4
    replace H := Option.bind_eq_some_iff.mp H
    obtain ⟨t166, A100, H⟩ := H
    replace H : (if t166 < 0 then (some true) else ((laws_toPaper.f k a0_0 a0_1 a0_2 a0_3 l0_4 l0_5).bind fun bt167 => ((laws_toPaper.f k a1_0 a1_1 a1_2 a1_3 l1_4 l1_5).bind fun bt177 => ((spec_PaperSame.f k bt167.1 bt167.2.1 bt167.2.2.1 bt167.2.2.2.1 bt167.2.2.2.2.1 bt167.2.2.2.2.2 bt177.1 bt177.2.1 bt177.2.2.1 bt177.2.2.2.1 bt177.2.2.2.2.1 bt177.2.2.2.2.2).bind fun t187 => ((laws_toPaper.f k a0_0 a0_1 a0_2 a0_3 l0_4 l0_5).bind fun bt188 => ((laws_toPaper.f k a1_0 a1_1 a1_2 a1_3 l1_4 l1_5).bind fun bt199 => ((impl_PaperSame.f k bt188.1 bt188.2.1 bt188.2.2.1 bt188.2.2.2.1 bt188.2.2.2.2.1 bt188.2.2.2.2.2 bt199.1 bt199.2.1 bt199.2.2.1 bt199.2.2.2.1 bt199.2.2.2.2.1 bt199.2.2.2.2.2).bind fun t210 => (if (t210 != t187) = true then (some false) else ((laws_toPaper.f k a0_0 a0_1 a0_2 a0_3 l0_4 l0_5).bind fun bt211 => ((laws_eqPaper.f k bt188.1 bt188.2.1 bt188.2.2.1 bt188.2.2.2.1 bt188.2.2.2.2.1 bt188.2.2.2.2.2 bt211.1 bt211.2.1 bt211.2.2.1 bt211.2.2.2.1 bt211.2.2.2.2.1 bt211.2.2.2.2.2).bind fun t221 => (if t221 = true then ((laws_toPaper.f k a1_0 a1_1 a1_2 a1_3 l1_4 l1_5).bind fun bt222 => ((laws_eqPaper.f k bt199.1 bt199.2.1 bt199.2.2.1 bt199.2.2.2.1 bt199.2.2.2.2.1 bt199.2.2.2.2.2 bt222.1 bt222.2.1 bt222.2.2.1 bt222.2.2.2.1 bt222.2.2.2.2.1 bt222.2.2.2.2.2).bind fun t232 => (if t232 = true then (some true) else (some false)))) else (some false)))))))))))) = some r := H
    have A10 := Aside0.mk A100
    clear A100
    by_cases c11 : t166 < 0
    · rw [if_pos c11] at H
      have c11b0 : decide (t166 < 0) = true := decide_eq_true c11
      clear c11
      obtain rfl := Option.some.inj H
      go_enter Try.func3, Try.ntmps3
      go_wp2_with (first | ((with_reducible refine gate_dst (N := 2) rfl ?_); refine box_event ?hg (N := 2) ?hd (cs := #[.int .i64 a0_0, .string a0_1, .string a0_2, .int .i64 a0_3, .slice A0_4 l0_4.length c0_4, .slice A0_5 l0_5.length c0_5]) (t := 25) ?hr ?_; (case hd => rfl); (case hg => rfl); (case hr => exact hr_); intro gb163 hg w12 hbox hb; have n0_ := Aside0.mk (below_step bl_ hb); have n1_ := Aside0.mk (hbox); have n2_ := Aside0.mk (gw_ hg bl_); have n3_ := Aside0.mk (gw_ hg bl_); clear HB; have HB := n0_; have BK163 := n1_; have GW163 := n2_; have GE163 := n3_; clear n0_ n1_ n2_ n3_; clear hb hbox hg) | ((with_reducible refine gate_dst (N := 3) rfl ?_); refine box_event ?hg (N := 3) ?hd (cs := #[.int .i64 a1_0, .string a1_1, .string a1_2, .int .i64 a1_3, .slice A1_4 l1_4.length c1_4, .slice A1_5 l1_5.length c1_5]) (t := 25) ?hr ?_; (case hd => rfl); (case hg => rfl); (case hr => exact hr_); intro gb164 hg w13 hbox hb; have n0_ := Aside0.mk (blkb_ BK163 hb); have n1_ := Aside0.mk (below_step bl_ hb); have n2_ := Aside0.mk (hbox); have n3_ := Aside0.mk (gw_ hg bl_); have n4_ := Aside0.mk (gw_ hg bl_); have n5_ := Aside0.mk (gn_ hg (blkl_ BK163)); have n6_ := Aside0.mk (gm_ hg (blkl_ BK163)); clear BK163; clear HB; have BK163 := n0_; have HB := n1_; have BK164 := n2_; have GW164 := n3_; have GE164 := n4_; have NB163_164 := n5_; have NB164_163 := n6_; clear n0_ n1_ n2_ n3_ n4_ n5_ n6_; clear hb hbox hg; have hnb14 := NB163_164.out; have hnc14 := NB164_163.out; obtain ⟨hcz15_0, hcz15_1, hcz15_2, hcz15_3, hcz15_4, hcz15_5, hfz15_0, hfz15_1, hfz15_2, hfz15_3, hfz15_4, hfz15_5⟩ := cellsF6 BK163.out) | ((with_reducible refine gate_callee (f := 8) rfl ?_); refine gl_ 12 Try.func8 #[.agg #[.int .i64 a0_0, .string a0_1, .string a0_2, .int .i64 a0_3, .slice A0_4 l0_4.length c0_4, .slice A0_5 l0_5.length c0_5], .int .i64 1048576] ?_ rfl rfl rfl rfl; (with_reducible refine (laws_szPaper.calls k a0_0 a0_1 a0_2 a0_3 _ _ l0_4 _ _ l0_5 1048576 t165 _ ?side1 ?side2 ?side3 ?side4 A3.out).mono ?_); (case side1 => exact au6_5); (case side2 => exact HC0_4.out); (case side3 => exact au6_6); (case side4 => exact HC0_5.out); rintro e w16 ⟨rfl, hb⟩; refine ⟨_, rfl, ?_⟩; have n0_ := Aside0.mk (blkb_ BK163 hb); have n1_ := Aside0.mk (blkb_ BK164 hb); have n2_ := Aside0.mk (below_step bl_ hb); clear BK163; clear BK164; clear HB; have BK163 := n0_; have BK164 := n1_; have HB := n2_; clear n0_ n1_ n2_; (try clear hb); (try clear hb2); (try clear hk); (try clear hi); obtain ⟨hcz17_0, hcz17_1, hcz17_2, hcz17_3, hcz17_4, hcz17_5, hfz17_0, hfz17_1, hfz17_2, hfz17_3, hfz17_4, hfz17_5⟩ := cellsF6 BK164.out) | ((with_reducible refine gate_callee (f := 8) rfl ?_); refine gl_ 17 Try.func8 #[.agg #[.int .i64 a1_0, .string a1_1, .string a1_2, .int .i64 a1_3, .slice A1_4 l1_4.length c1_4, .slice A1_5 l1_5.length c1_5], .int .i64 t165] ?_ rfl rfl rfl rfl; (with_reducible refine (laws_szPaper.calls k a1_0 a1_1 a1_2 a1_3 _ _ l1_4 _ _ l1_5 t165 t166 _ ?side1 ?side2 ?side3 ?side4 A10.out).mono ?_); (case side1 => exact au6_7); (case side2 => exact HC1_4.out); (case side3 => exact au6_8); (case side4 => exact HC1_5.out); rintro e w18 ⟨rfl, hb⟩; refine ⟨_, rfl, ?_⟩; have n0_ := Aside0.mk (blkb_ BK163 hb); have n1_ := Aside0.mk (blkb_ BK164 hb); have n2_ := Aside0.mk (below_step bl_ hb); clear BK163; clear BK164; clear HB; have BK163 := n0_; have BK164 := n1_; have HB := n2_; clear n0_ n1_ n2_; (try clear hb); (try clear hb2); (try clear hk); (try clear hi)))
      go_ret
      exact ⟨au6_53, bl_⟩
    · rw [if_neg c11] at H
      have c11b0 : decide (t166 < 0) = false := decide_eq_false c11
      clear c11
      replace H := Option.bind_eq_some_iff.mp H
      obtain ⟨⟨t167, t168, t169, t170, t171, t174⟩, A190, H⟩ := H
      replace H : ((laws_toPaper.f k a1_0 a1_1 a1_2 a1_3 l1_4 l1_5).bind fun bt177 => ((spec_PaperSame.f k t167 t168 t169 t170 t171 t174 bt177.1 bt177.2.1 bt177.2.2.1 bt177.2.2.2.1 bt177.2.2.2.2.1 bt177.2.2.2.2.2).bind fun t187 => ((laws_toPaper.f k a0_0 a0_1 a0_2 a0_3 l0_4 l0_5).bind fun bt188 => ((laws_toPaper.f k a1_0 a1_1 a1_2 a1_3 l1_4 l1_5).bind fun bt199 => ((impl_PaperSame.f k bt188.1 bt188.2.1 bt188.2.2.1 bt188.2.2.2.1 bt188.2.2.2.2.1 bt188.2.2.2.2.2 bt199.1 bt199.2.1 bt199.2.2.1 bt199.2.2.2.1 bt199.2.2.2.2.1 bt199.2.2.2.2.2).bind fun t210 => (if (t210 != t187) = true then (some false) else ((laws_toPaper.f k a0_0 a0_1 a0_2 a0_3 l0_4 l0_5).bind fun bt211 => ((laws_eqPaper.f k bt188.1 bt188.2.1 bt188.2.2.1 bt188.2.2.2.1 bt188.2.2.2.2.1 bt188.2.2.2.2.2 bt211.1 bt211.2.1 bt211.2.2.1 bt211.2.2.2.1 bt211.2.2.2.2.1 bt211.2.2.2.2.2).bind fun t221 => (if t221 = true then ((laws_toPaper.f k a1_0 a1_1 a1_2 a1_3 l1_4 l1_5).bind fun bt222 => ((laws_eqPaper.f k bt199.1 bt199.2.1 bt199.2.2.1 bt199.2.2.2.1 bt199.2.2.2.2.1 bt199.2.2.2.2.2 bt222.1 bt222.2.1 bt222.2.2.1 bt222.2.2.2.1 bt222.2.2.2.2.1 bt222.2.2.2.2.2).bind fun t232 => (if t232 = true then (some true) else (some false)))) else (some false)))))))))) = some r := H
      have A19 := Aside0.mk A190
      clear A190
      replace H := Option.bind_eq_some_iff.mp H
      obtain ⟨⟨t177, t178, t179, t180, t181, t184⟩, A200, H⟩ := H
      replace H : ((spec_PaperSame.f k t167 t168 t169 t170 t171 t174 t177 t178 t179 t180 t181 t184).bind fun t187 => ((laws_toPaper.f k a0_0 a0_1 a0_2 a0_3 l0_4 l0_5).bind fun bt188 => ((laws_toPaper.f k a1_0 a1_1 a1_2 a1_3 l1_4 l1_5).bind fun bt199 => ((impl_PaperSame.f k bt188.1 bt188.2.1 bt188.2.2.1 bt188.2.2.2.1 bt188.2.2.2.2.1 bt188.2.2.2.2.2 bt199.1 bt199.2.1 bt199.2.2.1 bt199.2.2.2.1 bt199.2.2.2.2.1 bt199.2.2.2.2.2).bind fun t210 => (if (t210 != t187) = true then (some false) else ((laws_toPaper.f k a0_0 a0_1 a0_2 a0_3 l0_4 l0_5).bind fun bt211 => ((laws_eqPaper.f k bt188.1 bt188.2.1 bt188.2.2.1 bt188.2.2.2.1 bt188.2.2.2.2.1 bt188.2.2.2.2.2 bt211.1 bt211.2.1 bt211.2.2.1 bt211.2.2.2.1 bt211.2.2.2.2.1 bt211.2.2.2.2.2).bind fun t221 => (if t221 = true then ((laws_toPaper.f k a1_0 a1_1 a1_2 a1_3 l1_4 l1_5).bind fun bt222 => ((laws_eqPaper.f k bt199.1 bt199.2.1 bt199.2.2.1 bt199.2.2.2.1 bt199.2.2.2.2.1 bt199.2.2.2.2.2 bt222.1 bt222.2.1 bt222.2.2.1 bt222.2.2.2.1 bt222.2.2.2.2.1 bt222.2.2.2.2.2).bind fun t232 => (if t232 = true then (some true) else (some false)))) else (some false))))))))) = some r := H
      have A20 := Aside0.mk A200
      clear A200
      replace H := Option.bind_eq_some_iff.mp H
      obtain ⟨t187, A210, H⟩ := H
      replace H : ((laws_toPaper.f k a0_0 a0_1 a0_2 a0_3 l0_4 l0_5).bind fun bt188 => ((laws_toPaper.f k a1_0 a1_1 a1_2 a1_3 l1_4 l1_5).bind fun bt199 => ((impl_PaperSame.f k bt188.1 bt188.2.1 bt188.2.2.1 bt188.2.2.2.1 bt188.2.2.2.2.1 bt188.2.2.2.2.2 bt199.1 bt199.2.1 bt199.2.2.1 bt199.2.2.2.1 bt199.2.2.2.2.1 bt199.2.2.2.2.2).bind fun t210 => (if (t210 != t187) = true then (some false) else ((laws_toPaper.f k a0_0 a0_1 a0_2 a0_3 l0_4 l0_5).bind fun bt211 => ((laws_eqPaper.f k bt188.1 bt188.2.1 bt188.2.2.1 bt188.2.2.2.1 bt188.2.2.2.2.1 bt188.2.2.2.2.2 bt211.1 bt211.2.1 bt211.2.2.1 bt211.2.2.2.1 bt211.2.2.2.2.1 bt211.2.2.2.2.2).bind fun t221 => (if t221 = true then ((laws_toPaper.f k a1_0 a1_1 a1_2 a1_3 l1_4 l1_5).bind fun bt222 => ((laws_eqPaper.f k bt199.1 bt199.2.1 bt199.2.2.1 bt199.2.2.2.1 bt199.2.2.2.2.1 bt199.2.2.2.2.2 bt222.1 bt222.2.1 bt222.2.2.1 bt222.2.2.2.1 bt222.2.2.2.2.1 bt222.2.2.2.2.2).bind fun t232 => (if t232 = true then (some true) else (some false)))) else (some false)))))))) = some r := H
      have A21 := Aside0.mk A210
      clear A210
      replace H := Option.bind_eq_some_iff.mp H
      obtain ⟨⟨t188, t189, t190, t191, t192, t195⟩, A220, H⟩ := H
      replace H : ((laws_toPaper.f k a1_0 a1_1 a1_2 a1_3 l1_4 l1_5).bind fun bt199 => ((impl_PaperSame.f k t188 t189 t190 t191 t192 t195 bt199.1 bt199.2.1 bt199.2.2.1 bt199.2.2.2.1 bt199.2.2.2.2.1 bt199.2.2.2.2.2).bind fun t210 => (if (t210 != t187) = true then (some false) else ((laws_toPaper.f k a0_0 a0_1 a0_2 a0_3 l0_4 l0_5).bind fun bt211 => ((laws_eqPaper.f k t188 t189 t190 t191 t192 t195 bt211.1 bt211.2.1 bt211.2.2.1 bt211.2.2.2.1 bt211.2.2.2.2.1 bt211.2.2.2.2.2).bind fun t221 => (if t221 = true then ((laws_toPaper.f k a1_0 a1_1 a1_2 a1_3 l1_4 l1_5).bind fun bt222 => ((laws_eqPaper.f k bt199.1 bt199.2.1 bt199.2.2.1 bt199.2.2.2.1 bt199.2.2.2.2.1 bt199.2.2.2.2.2 bt222.1 bt222.2.1 bt222.2.2.1 bt222.2.2.2.1 bt222.2.2.2.2.1 bt222.2.2.2.2.2).bind fun t232 => (if t232 = true then (some true) else (some false)))) else (some false))))))) = some r := H
      have A22 := Aside0.mk A220
      clear A220
      replace H := Option.bind_eq_some_iff.mp H
      obtain ⟨⟨t199, t200, t201, t202, t203, t206⟩, A230, H⟩ := H
      replace H : ((impl_PaperSame.f k t188 t189 t190 t191 t192 t195 t199 t200 t201 t202 t203 t206).bind fun t210 => (if (t210 != t187) = true then (some false) else ((laws_toPaper.f k a0_0 a0_1 a0_2 a0_3 l0_4 l0_5).bind fun bt211 => ((laws_eqPaper.f k t188 t189 t190 t191 t192 t195 bt211.1 bt211.2.1 bt211.2.2.1 bt211.2.2.2.1 bt211.2.2.2.2.1 bt211.2.2.2.2.2).bind fun t221 => (if t221 = true then ((laws_toPaper.f k a1_0 a1_1 a1_2 a1_3 l1_4 l1_5).bind fun bt222 => ((laws_eqPaper.f k t199 t200 t201 t202 t203 t206 bt222.1 bt222.2.1 bt222.2.2.1 bt222.2.2.2.1 bt222.2.2.2.2.1 bt222.2.2.2.2.2).bind fun t232 => (if t232 = true then (some true) else (some false)))) else (some false)))))) = some r := H
      have A23 := Aside0.mk A230
      clear A230
      replace H := Option.bind_eq_some_iff.mp H
      obtain ⟨t210, A240, H⟩ := H
      replace H : (if (t210 != t187) = true then (some false) else ((laws_toPaper.f k a0_0 a0_1 a0_2 a0_3 l0_4 l0_5).bind fun bt211 => ((laws_eqPaper.f k t188 t189 t190 t191 t192 t195 bt211.1 bt211.2.1 bt211.2.2.1 bt211.2.2.2.1 bt211.2.2.2.2.1 bt211.2.2.2.2.2).bind fun t221 => (if t221 = true then ((laws_toPaper.f k a1_0 a1_1 a1_2 a1_3 l1_4 l1_5).bind fun bt222 => ((laws_eqPaper.f k t199 t200 t201 t202 t203 t206 bt222.1 bt222.2.1 bt222.2.2.1 bt222.2.2.2.1 bt222.2.2.2.2.1 bt222.2.2.2.2.2).bind fun t232 => (if t232 = true then (some true) else (some false)))) else (some false))))) = some r := H
      have A24 := Aside0.mk A240
      clear A240
      by_cases c25 : (t210 != t187) = true
      · rw [if_pos c25] at H
        have c25b0 : (t210 != t187) = true := c25
        (try (have c25b1 : decide (t210 = t187) = false := by simpa using c25))
        (try (have c25b2 : (t210 == t187) = false := by simpa using c25))
        (try (have c25b3 : ¬ (t210 = t187) := by simpa using c25))
        clear c25
        obtain rfl := Option.some.inj H
        go_enter Try.func3, Try.ntmps3
        try go_wp2_with (first | ((with_reducible refine gate_dst (N := 2) rfl ?_); refine box_event ?hg (N := 2) ?hd (cs := #[.int .i64 a0_0, .string a0_1, .string a0_2, .int .i64 a0_3, .slice A0_4 l0_4.length c0_4, .slice A0_5 l0_5.length c0_5]) (t := 25) ?hr ?_; (case hd => rfl); (case hg => rfl); (case hr => exact hr_); intro gb163 hg w26 hbox hb; have n0_ := Aside0.mk (below_step bl_ hb); have n1_ := Aside0.mk (hbox); have n2_ := Aside0.mk (gw_ hg bl_); have n3_ := Aside0.mk (gw_ hg bl_); clear HB; have HB := n0_; have BK163 := n1_; have GW163 := n2_; have GE163 := n3_; clear n0_ n1_ n2_ n3_; clear hb hbox hg) | ((with_reducible refine gate_dst (N := 3) rfl ?_); refine box_event ?hg (N := 3) ?hd (cs := #[.int .i64 a1_0, .string a1_1, .string a1_2, .int .i64 a1_3, .slice A1_4 l1_4.length c1_4, .slice A1_5 l1_5.length c1_5]) (t := 25) ?hr ?_; (case hd => rfl); (case hg => rfl); (case hr => exact hr_); intro gb164 hg w27 hbox hb; have n0_ := Aside0.mk (blkb_ BK163 hb); have n1_ := Aside0.mk (below_step bl_ hb); have n2_ := Aside0.mk (hbox); have n3_ := Aside0.mk (gw_ hg bl_); have n4_ := Aside0.mk (gw_ hg bl_); have n5_ := Aside0.mk (gn_ hg (blkl_ BK163)); have n6_ := Aside0.mk (gm_ hg (blkl_ BK163)); clear BK163; clear HB; have BK163 := n0_; have HB := n1_; have BK164 := n2_; have GW164 := n3_; have GE164 := n4_; have NB163_164 := n5_; have NB164_163 := n6_; clear n0_ n1_ n2_ n3_ n4_ n5_ n6_; clear hb hbox hg; have hnb28 := NB163_164.out; have hnc28 := NB164_163.out; obtain ⟨hcz29_0, hcz29_1, hcz29_2, hcz29_3, hcz29_4, hcz29_5, hfz29_0, hfz29_1, hfz29_2, hfz29_3, hfz29_4, hfz29_5⟩ := cellsF6 BK163.out) | ((with_reducible refine gate_callee (f := 8) rfl ?_); refine gl_ 12 Try.func8 #[.agg #[.int .i64 a0_0, .string a0_1, .string a0_2, .int .i64 a0_3, .slice A0_4 l0_4.length c0_4, .slice A0_5 l0_5.length c0_5], .int .i64 1048576] ?_ rfl rfl rfl rfl; (with_reducible refine (laws_szPaper.calls k a0_0 a0_1 a0_2 a0_3 _ _ l0_4 _ _ l0_5 1048576 t165 _ ?side1 ?side2 ?side3 ?side4 A3.out).mono ?_); (case side1 => exact au6_5); (case side2 => exact HC0_4.out); (case side3 => exact au6_6); (case side4 => exact HC0_5.out); rintro e w30 ⟨rfl, hb⟩; refine ⟨_, rfl, ?_⟩; have n0_ := Aside0.mk (blkb_ BK163 hb); have n1_ := Aside0.mk (blkb_ BK164 hb); have n2_ := Aside0.mk (below_step bl_ hb); clear BK163; clear BK164; clear HB; have BK163 := n0_; have BK164 := n1_; have HB := n2_; clear n0_ n1_ n2_; (try clear hb); (try clear hb2); (try clear hk); (try clear hi); obtain ⟨hcz31_0, hcz31_1, hcz31_2, hcz31_3, hcz31_4, hcz31_5, hfz31_0, hfz31_1, hfz31_2, hfz31_3, hfz31_4, hfz31_5⟩ := cellsF6 BK164.out) | ((with_reducible refine gate_callee (f := 8) rfl ?_); refine gl_ 17 Try.func8 #[.agg #[.int .i64 a1_0, .string a1_1, .string a1_2, .int .i64 a1_3, .slice A1_4 l1_4.length c1_4, .slice A1_5 l1_5.length c1_5], .int .i64 t165] ?_ rfl rfl rfl rfl; (with_reducible refine (laws_szPaper.calls k a1_0 a1_1 a1_2 a1_3 _ _ l1_4 _ _ l1_5 t165 t166 _ ?side1 ?side2 ?side3 ?side4 A10.out).mono ?_); (case side1 => exact au6_7); (case side2 => exact HC1_4.out); (case side3 => exact au6_8); (case side4 => exact HC1_5.out); rintro e w32 ⟨rfl, hb⟩; refine ⟨_, rfl, ?_⟩; have n0_ := Aside0.mk (blkb_ BK163 hb); have n1_ := Aside0.mk (blkb_ BK164 hb); have n2_ := Aside0.mk (below_step bl_ hb); clear BK163; clear BK164; clear HB; have BK163 := n0_; have BK164 := n1_; have HB := n2_; clear n0_ n1_ n2_; (try clear hb); (try clear hb2); (try clear hk); (try clear hi)))
        have n0_ := Aside0.mk (blk_drew BK163.out)
        have n1_ := Aside0.mk (blk_drew BK164.out)
        have n2_ := Aside0.mk (below_drew1 HB.out)
        clear BK163
        clear BK164
        clear HB
        have BK163 := n0_
        have BK164 := n1_
        have HB := n2_
        clear n0_ n1_ n2_
        refine start_ (n := 6) (S := fun w' => w'.cell? ⟨gb163, 0, none⟩ = some (.int .i64 a0_0) ∧ w'.cell? ⟨gb163, 1, none⟩ = some (.string a0_1) ∧ w'.cell? ⟨gb163, 2, none⟩ = some (.string a0_2) ∧ w'.cell? ⟨gb163, 3, none⟩ = some (.int .i64 a0_3) ∧ w'.cell? ⟨gb163, 4, none⟩ = some (.slice A0_4 l0_4.length c0_4) ∧ w'.cell? ⟨gb163, 5, none⟩ = some (.slice A0_5 l0_5.length c0_5) ∧ w'.cell? ⟨gb164, 0, none⟩ = some (.int .i64 a1_0) ∧ w'.cell? ⟨gb164, 1, none⟩ = some (.string a1_1) ∧ w'.cell? ⟨gb164, 2, none⟩ = some (.string a1_2) ∧ w'.cell? ⟨gb164, 3, none⟩ = some (.int .i64 a1_3) ∧ w'.cell? ⟨gb164, 4, none⟩ = some (.slice A1_4 l1_4.length c1_4) ∧ w'.cell? ⟨gb164, 5, none⟩ = some (.slice A1_5 l1_5.length c1_5)) (ds := []) (bs 6 0) (by kernel_rfl) rfl rfl ⟨(blk_cell BK163.out 0).trans rfl, (blk_cell BK163.out 1).trans rfl, (blk_cell BK163.out 2).trans rfl, (blk_cell BK163.out 3).trans rfl, (blk_cell BK163.out 4).trans rfl, (blk_cell BK163.out 5).trans rfl, (blk_cell BK164.out 0).trans rfl, (blk_cell BK164.out 1).trans rfl, (blk_cell BK164.out 2).trans rfl, (blk_cell BK164.out 3).trans rfl, (blk_cell BK164.out 4).trans rfl, (blk_cell BK164.out 5).trans rfl⟩ (fun hHeld => ?_)
        generalize w32.drew = w33 at BK163 BK164 HB hHeld ⊢
        refine take_ (i := 0) (N := some 20) (v := ?_) (a' := ?_) (bs 6 1) rfl rfl (by kernel_rfl) (fun _ _ _ h => h) (Or.inl ⟨by rfl, ?_⟩) hHeld ?_ ?_
        rotate_left
        · rintro w' ⟨s0, s1, s2, s3, s4, s5, s6, s7, s8, s9, s10, s11⟩
          go_simp
          with_reducible rfl
        rotate_left
        · simp only [Act.put, List.setIfInBounds_toArray, List.set_cons_zero, List.set_cons_succ, i64_w, i32_w]
          rfl
        refine take_ (i := 2) (N := some 22) (v := ?_) (a' := ?_) (bs 6 5) rfl rfl (by kernel_rfl) (fun _ _ _ h => h) (Or.inl ⟨by rfl, ?_⟩) hHeld ?_ ?_
        rotate_left
        · rintro w' ⟨s0, s1, s2, s3, s4, s5, s6, s7, s8, s9, s10, s11⟩
          go_simp
          with_reducible rfl
        rotate_left
        · simp only [Act.put, List.setIfInBounds_toArray, List.set_cons_zero, List.set_cons_succ, i64_w, i32_w]
          rfl
        refine one_ (i := 1) (N := some 21) (bs 6 7) rfl rfl (by kernel_rfl) (by decide) (fun K hK => ?_)
        refine gr_ Try.func10 #[.agg #[.int .i64 a0_0, .string a0_1, .string a0_2, .int .i64 a0_3, .slice A0_4 l0_4.length c0_4, .slice A0_5 l0_5.length c0_5]] (by rfl) ?_ rfl rfl rfl
        with_reducible refine (laws_toPaper.calls k a0_0 a0_1 a0_2 a0_3 _ _ l0_4 _ _ l0_5 t167 t168 t169 t170 t171 t174 _ ?side1 ?side2 ?side3 ?side4 A19.out).mono ?_
        (case side1 => exact au6_5)
        (case side2 => exact HC0_4.out)
        (case side3 => exact au6_6)
        (case side4 => exact HC0_5.out)
        rintro e w34 ⟨v172, v175, rfl, ho0, ho1, hb⟩
        refine ⟨_, rfl, ?_⟩
        have n0_ := Aside0.mk (Kd.R_lower ho0 (below_size bl_))
        have n1_ := Aside0.mk (Kd.R_lower ho1 (below_size bl_))
        have n2_ := Aside0.mk (blkb_ BK163 hb)
        have n3_ := Aside0.mk (blkb_ BK164 hb)
        have n4_ := Aside0.mk (below_step bl_ hb)
        clear BK163
        clear BK164
        clear HB
        have HO173 := n0_
        have HO176 := n1_
        have BK163 := n2_
        have BK164 := n3_
        have HB := n4_
        clear n0_ n1_ n2_ n3_ n4_
        (try clear hb)
        (try clear hb2)
        (try clear hk)
        (try clear hi)
        (try clear ho0)
        (try clear ho1)
        refine hK.out _ _ ⟨(blk_cell BK163.out 0).trans rfl, (blk_cell BK163.out 1).trans rfl, (blk_cell BK163.out 2).trans rfl, (blk_cell BK163.out 3).trans rfl, (blk_cell BK163.out 4).trans rfl, (blk_cell BK163.out 5).trans rfl, (blk_cell BK164.out 0).trans rfl, (blk_cell BK164.out 1).trans rfl, (blk_cell BK164.out 2).trans rfl, (blk_cell BK164.out 3).trans rfl, (blk_cell BK164.out 4).trans rfl, (blk_cell BK164.out 5).trans rfl⟩ (fun hHeld => ?_)
        clear hK K
        refine norm_ (a' := ?_) ?_ ?_
        rotate_left
        · show Act.put _ (some 21) _ = _
          simp only [Act.put, List.setIfInBounds_toArray, List.set_cons_zero, List.set_cons_succ, i64_w, i32_w]
          rfl
        refine one_ (i := 3) (N := some 23) (bs 6 15) rfl rfl (by kernel_rfl) (by decide) (fun K hK => ?_)
        refine gr_ Try.func10 #[.agg #[.int .i64 a1_0, .string a1_1, .string a1_2, .int .i64 a1_3, .slice A1_4 l1_4.length c1_4, .slice A1_5 l1_5.length c1_5]] (by rfl) ?_ rfl rfl rfl
        with_reducible refine (laws_toPaper.calls k a1_0 a1_1 a1_2 a1_3 _ _ l1_4 _ _ l1_5 t177 t178 t179 t180 t181 t184 _ ?side1 ?side2 ?side3 ?side4 A20.out).mono ?_
        (case side1 => exact au6_7)
        (case side2 => exact HC1_4.out)
        (case side3 => exact au6_8)
        (case side4 => exact HC1_5.out)
        rintro e w35 ⟨v182, v185, rfl, ho0, ho1, hb⟩
        refine ⟨_, rfl, ?_⟩
        have n0_ := Aside0.mk (Kd.R_elder' (rk_ HO173) (Kd.R_base ho0) hb)
        have n1_ := Aside0.mk (Kd.R_elder' (rk_ HO176) (Kd.R_base ho1) hb)
        have n2_ := Aside0.mk (Kd.R_lower (Kd.R_new' ho0 (Kd.R_lt (rk_ HO173))) (below_size bl_))
        have n3_ := Aside0.mk (Kd.R_lower (Kd.R_new' ho1 (Kd.R_lt (rk_ HO176))) (below_size bl_))
        have n4_ := Aside0.mk (blkb_ BK163 hb)
        have n5_ := Aside0.mk (blkb_ BK164 hb)
        have n6_ := Aside0.mk (below_step bl_ hb)
        clear HO173
        clear HO176
        clear BK163
        clear BK164
        clear HB
        have HO173 := n0_
        have HO176 := n1_
        have HO183 := n2_
        have HO186 := n3_
        have BK163 := n4_
        have BK164 := n5_
        have HB := n6_
        clear n0_ n1_ n2_ n3_ n4_ n5_ n6_
        (try clear hb)
        (try clear hb2)
        (try clear hk)
        (try clear hi)
        (try clear ho0)
        (try clear ho1)
        obtain ⟨Ao36, co36, eo36⟩ := Kd.R_slice HO173.out
        (first | subst eo36 | (injection eo36 with f1_ f2_ f3_; have f4_ := f1_.symm; have f5_ := f3_.symm; clear f1_ f2_ f3_; subst f4_; subst f5_))
        obtain ⟨Ao37, co37, eo37⟩ := Kd.R_slice HO176.out
        (first | subst eo37 | (injection eo37 with f1_ f2_ f3_; have f4_ := f1_.symm; have f5_ := f3_.symm; clear f1_ f2_ f3_; subst f4_; subst f5_))
        obtain ⟨Ao38, co38, eo38⟩ := Kd.R_slice HO183.out
        (first | subst eo38 | (injection eo38 with f1_ f2_ f3_; have f4_ := f1_.symm; have f5_ := f3_.symm; clear f1_ f2_ f3_; subst f4_; subst f5_))
        obtain ⟨Ao39, co39, eo39⟩ := Kd.R_slice HO186.out
        (first | subst eo39 | (injection eo39 with f1_ f2_ f3_; have f4_ := f1_.symm; have f5_ := f3_.symm; clear f1_ f2_ f3_; subst f4_; subst f5_))
        refine hK.out _ _ ⟨(blk_cell BK163.out 0).trans rfl, (blk_cell BK163.out 1).trans rfl, (blk_cell BK163.out 2).trans rfl, (blk_cell BK163.out 3).trans rfl, (blk_cell BK163.out 4).trans rfl, (blk_cell BK163.out 5).trans rfl, (blk_cell BK164.out 0).trans rfl, (blk_cell BK164.out 1).trans rfl, (blk_cell BK164.out 2).trans rfl, (blk_cell BK164.out 3).trans rfl, (blk_cell BK164.out 4).trans rfl, (blk_cell BK164.out 5).trans rfl⟩ (fun hHeld => ?_)
        clear hK K
        refine norm_ (a' := ?_) ?_ ?_
        rotate_left
        · show Act.put _ (some 23) _ = _
          simp only [Act.put, List.setIfInBounds_toArray, List.set_cons_zero, List.set_cons_succ, i64_w, i32_w]
          rfl
        refine one_ (i := 4) (N := some 24) (bs 6 31) rfl rfl (by kernel_rfl) (by decide) (fun K hK => ?_)
        refine gr_ Try.func9 #[.agg #[.int .i64 t167, .string t168, .string t169, .int .i64 t170, .slice Ao36 t171.length co36, .slice Ao37 t174.length co37], .agg #[.int .i64 t177, .string t178, .string t179, .int .i64 t180, .slice Ao38 t181.length co38, .slice Ao39 t184.length co39]] (by rfl) ?_ rfl rfl rfl
        with_reducible refine (spec_PaperSame.calls k t167 t168 t169 t170 _ _ t171 _ _ t174 t177 t178 t179 t180 _ _ t181 _ _ t184 t187 _ ?side1 ?side2 ?side3 ?side4 ?side5 ?side6 ?side7 ?side8 A21.out).mono ?_
        (case side1 => exact au6_49)
        (case side2 => exact au6_66)
        (case side3 => exact au6_50)
        (case side4 => exact au6_67)
        (case side5 => exact au6_51)
        (case side6 => exact au6_68)
        (case side7 => exact au6_52)
        (case side8 => exact au6_69)
        rintro e w40 ⟨rfl, hb⟩
        refine ⟨_, rfl, ?_⟩
        have n0_ := Aside0.mk (Kd.R_below (rk_ HO173) hb)
        have n1_ := Aside0.mk (Kd.R_below (rk_ HO176) hb)
        have n2_ := Aside0.mk (Kd.R_below (rk_ HO183) hb)
        have n3_ := Aside0.mk (Kd.R_below (rk_ HO186) hb)
        have n4_ := Aside0.mk (blkb_ BK163 hb)
        have n5_ := Aside0.mk (blkb_ BK164 hb)
        have n6_ := Aside0.mk (below_step bl_ hb)
        clear HO173
        clear HO176
        clear HO183
        clear HO186
        clear BK163
        clear BK164
        clear HB
        have HO173 := n0_
        have HO176 := n1_
        have HO183 := n2_
        have HO186 := n3_
        have BK163 := n4_
        have BK164 := n5_
        have HB := n6_
        clear n0_ n1_ n2_ n3_ n4_ n5_ n6_
        (try clear hb)
        (try clear hb2)
        (try clear hk)
        (try clear hi)
        refine hK.out _ _ ⟨(blk_cell BK163.out 0).trans rfl, (blk_cell BK163.out 1).trans rfl, (blk_cell BK163.out 2).trans rfl, (blk_cell BK163.out 3).trans rfl, (blk_cell BK163.out 4).trans rfl, (blk_cell BK163.out 5).trans rfl, (blk_cell BK164.out 0).trans rfl, (blk_cell BK164.out 1).trans rfl, (blk_cell BK164.out 2).trans rfl, (blk_cell BK164.out 3).trans rfl, (blk_cell BK164.out 4).trans rfl, (blk_cell BK164.out 5).trans rfl⟩ (fun hHeld => ?_)
        clear hK K
        refine norm_ (a' := ?_) ?_ ?_
        rotate_left
        · show Act.put _ (some 24) _ = _
          simp only [Act.put, List.setIfInBounds_toArray, List.set_cons_zero, List.set_cons_succ, i64_w, i32_w]
          rfl
        refine pure_ (i := 5) (N := some 6) (v := ?_) (a' := ?_) (bs 6 63) rfl rfl (by kernel_rfl) (fun _ _ _ h => h) (Or.inl ⟨by rfl, ?_⟩) ?_ ?_
        rotate_left
        · intro w'
          go_simp
          with_reducible rfl
        rotate_left
        · simp only [Act.put, List.setIfInBounds_toArray, List.set_cons_zero, List.set_cons_succ, i64_w, i32_w]
          rfl
        refine done_ (by kernel_rfl) ?_
        obtain ⟨hcz41_0, hcz41_1, hcz41_2, hcz41_3, hcz41_4, hcz41_5, hfz41_0, hfz41_1, hfz41_2, hfz41_3, hfz41_4, hfz41_5⟩ := cellsF6 BK163.out
        try go_wp2_with (first | ((with_reducible refine gate_callee (f := 10) rfl ?_); refine gl_ 26 Try.func10 #[.agg #[.int .i64 a0_0, .string a0_1, .string a0_2, .int .i64 a0_3, .slice A0_4 l0_4.length c0_4, .slice A0_5 l0_5.length c0_5]] ?_ rfl rfl rfl rfl; (with_reducible refine (laws_toPaper.calls k a0_0 a0_1 a0_2 a0_3 _ _ l0_4 _ _ l0_5 t188 t189 t190 t191 t192 t195 _ ?side1 ?side2 ?side3 ?side4 A22.out).mono ?_); (case side1 => exact au6_5); (case side2 => exact HC0_4.out); (case side3 => exact au6_6); (case side4 => exact HC0_5.out); rintro e w42 ⟨v193, v196, rfl, ho0, ho1, hb⟩; refine ⟨_, rfl, ?_⟩; have n0_ := Aside0.mk (Kd.R_elder' (rk_ HO173) (Kd.R_base ho0) hb); have n1_ := Aside0.mk (Kd.R_elder' (rk_ HO176) (Kd.R_base ho1) hb); have n2_ := Aside0.mk (Kd.R_elder' (rk_ HO183) (Kd.R_base ho0) hb); have n3_ := Aside0.mk (Kd.R_elder' (rk_ HO186) (Kd.R_base ho1) hb); have n4_ := Aside0.mk (Kd.R_lower (Kd.R_new' (Kd.R_new' ho0 (Kd.R_lt (rk_ HO173))) (Kd.R_lt (rk_ HO183))) (below_size bl_)); have n5_ := Aside0.mk (Kd.R_lower (Kd.R_new' (Kd.R_new' ho1 (Kd.R_lt (rk_ HO176))) (Kd.R_lt (rk_ HO186))) (below_size bl_)); have n6_ := Aside0.mk (blkb_ BK163 hb); have n7_ := Aside0.mk (blkb_ BK164 hb); have n8_ := Aside0.mk (below_step bl_ hb); clear HO173; clear HO176; clear HO183; clear HO186; clear BK163; clear BK164; clear HB; have HO173 := n0_; have HO176 := n1_; have HO183 := n2_; have HO186 := n3_; have HO194 := n4_; have HO197 := n5_; have BK163 := n6_; have BK164 := n7_; have HB := n8_; clear n0_ n1_ n2_ n3_ n4_ n5_ n6_ n7_ n8_; (try clear hb); (try clear hb2); (try clear hk); (try clear hi); (try clear ho0); (try clear ho1)) | ((with_reducible refine gate_dst (N := 7) rfl ?_); refine box_event ?hg (N := 7) ?hd (cs := #[.int .i64 0, .string (⟨#[]⟩ : ByteArray), .string (⟨#[]⟩ : ByteArray), .int .i64 0, .slice none 0 0, .slice none 0 0]) (t := 30) ?hr ?_; (case hd => rfl); (case hg => rfl); (case hr => exact hr_); intro gb198 hg w43 hbox hb; have n0_ := Aside0.mk (Kd.R_below (rk_ HO173) hb); have n1_ := Aside0.mk (Kd.R_below (rk_ HO176) hb); have n2_ := Aside0.mk (Kd.R_below (rk_ HO183) hb); have n3_ := Aside0.mk (Kd.R_below (rk_ HO186) hb); have n4_ := Aside0.mk (Kd.R_below (rk_ HO194) hb); have n5_ := Aside0.mk (Kd.R_below (rk_ HO197) hb); have n6_ := Aside0.mk (blkb_ BK163 hb); have n7_ := Aside0.mk (blkb_ BK164 hb); have n8_ := Aside0.mk (below_step bl_ hb); have n9_ := Aside0.mk (hbox); have n10_ := Aside0.mk (gw_ hg bl_); have n11_ := Aside0.mk (gw_ hg bl_); have n12_ := Aside0.mk (gn_ hg (blkl_ BK163)); have n13_ := Aside0.mk (gm_ hg (blkl_ BK163)); have n14_ := Aside0.mk (gn_ hg (blkl_ BK164)); have n15_ := Aside0.mk (gm_ hg (blkl_ BK164)); clear HO173; clear HO176; clear HO183; clear HO186; clear HO194; clear HO197; clear BK163; clear BK164; clear HB; have HO173 := n0_; have HO176 := n1_; have HO183 := n2_; have HO186 := n3_; have HO194 := n4_; have HO197 := n5_; have BK163 := n6_; have BK164 := n7_; have HB := n8_; have BK198 := n9_; have GW198 := n10_; have GE198 := n11_; have NB163_198 := n12_; have NB198_163 := n13_; have NB164_198 := n14_; have NB198_164 := n15_; clear n0_ n1_ n2_ n3_ n4_ n5_ n6_ n7_ n8_ n9_ n10_ n11_ n12_ n13_ n14_ n15_; clear hb hbox hg; have hnb44 := NB198_163.out; have hnc44 := NB163_198.out; have hnb45 := NB198_164.out; have hnc45 := NB164_198.out; obtain ⟨hcz46_0, hcz46_1, hcz46_2, hcz46_3, hcz46_4, hcz46_5, hfz46_0, hfz46_1, hfz46_2, hfz46_3, hfz46_4, hfz46_5⟩ := cellsF6 BK198.out; obtain ⟨Ao47, co47, eo47⟩ := Kd.R_slice HO194.out; subst eo47; obtain ⟨Ao48, co48, eo48⟩ := Kd.R_slice HO197.out; subst eo48; obtain ⟨hcz49_0, hcz49_1, hcz49_2, hcz49_3, hcz49_4, hcz49_5, hfz49_0, hfz49_1, hfz49_2, hfz49_3, hfz49_4, hfz49_5⟩ := cellsF6 BK164.out) | ((with_reducible refine gate_callee (f := 10) rfl ?_); refine gl_ 28 Try.func10 #[.agg #[.int .i64 a1_0, .string a1_1, .string a1_2, .int .i64 a1_3, .slice A1_4 l1_4.length c1_4, .slice A1_5 l1_5.length c1_5]] ?_ rfl rfl rfl rfl; (with_reducible refine (laws_toPaper.calls k a1_0 a1_1 a1_2 a1_3 _ _ l1_4 _ _ l1_5 t199 t200 t201 t202 t203 t206 _ ?side1 ?side2 ?side3 ?side4 A23.out).mono ?_); (case side1 => exact au6_70); (case side2 => exact HC1_4.out); (case side3 => exact au6_71); (case side4 => exact HC1_5.out); rintro e w50 ⟨v204, v207, rfl, ho0, ho1, hb⟩; refine ⟨_, rfl, ?_⟩; have n0_ := Aside0.mk (Kd.R_elder' au6_29 (Kd.R_base ho0) hb); have n1_ := Aside0.mk (Kd.R_elder' au6_30 (Kd.R_base ho1) hb); have n2_ := Aside0.mk (Kd.R_elder' au6_31 (Kd.R_base ho0) hb); have n3_ := Aside0.mk (Kd.R_elder' au6_32 (Kd.R_base ho1) hb); have n4_ := Aside0.mk (Kd.R_elder' au6_33 (Kd.R_base ho0) hb); have n5_ := Aside0.mk (Kd.R_elder' au6_34 (Kd.R_base ho1) hb); have n6_ := Aside0.mk (Kd.R_lower (Kd.R_new' (Kd.R_new' (Kd.R_new' ho0 (Kd.R_lt au6_29)) (Kd.R_lt au6_31)) (Kd.R_lt au6_33)) (below_size bl_)); have n7_ := Aside0.mk (Kd.R_lower (Kd.R_new' (Kd.R_new' (Kd.R_new' ho1 (Kd.R_lt au6_30)) (Kd.R_lt au6_32)) (Kd.R_lt au6_34)) (below_size bl_)); have n8_ := Aside0.mk (blk_below (g := gb163) (o := .cells #[.int .i64 a0_0, .string a0_1, .string a0_2, .int .i64 a0_3, .slice A0_4 l0_4.length c0_4, .slice A0_5 l0_5.length c0_5] 25 (0, 0)) au6_0 hb); have n9_ := Aside0.mk (blk_below (g := gb164) (o := .cells #[.int .i64 a1_0, .string a1_1, .string a1_2, .int .i64 a1_3, .slice A1_4 l1_4.length c1_4, .slice A1_5 l1_5.length c1_5] 25 (0, 0)) au6_1 hb); have n10_ := Aside0.mk (blk_below (g := gb198) (o := .cells #[.int .i64 t188, .string t189, .string t190, .int .i64 t191, .slice Ao47 t192.length co47, .slice Ao48 t195.length co48] 30 (0, 0)) (by (with_reducible repeat (first | refine blk_drewN ?_ _ | refine blk_drew ?_ | refine blk_alloc ?_ _)); refine blk_put (cs := #[.int .i64 t188, .string t189, .string t190, .int .i64 t191, .slice Ao47 t192.length co47, .slice none 0 0]) ?_ 5 _ rfl; (with_reducible repeat (first | refine blk_drewN ?_ _ | refine blk_drew ?_ | refine blk_alloc ?_ _)); refine blk_put (cs := #[.int .i64 t188, .string t189, .string t190, .int .i64 t191, .slice none 0 0, .slice none 0 0]) ?_ 4 _ rfl; (with_reducible repeat (first | refine blk_drewN ?_ _ | refine blk_drew ?_ | refine blk_alloc ?_ _)); refine blk_put (cs := #[.int .i64 t188, .string t189, .string t190, .int .i64 0, .slice none 0 0, .slice none 0 0]) ?_ 3 _ rfl; (with_reducible repeat (first | refine blk_drewN ?_ _ | refine blk_drew ?_ | refine blk_alloc ?_ _)); refine blk_put (cs := #[.int .i64 t188, .string t189, .string (⟨#[]⟩ : ByteArray), .int .i64 0, .slice none 0 0, .slice none 0 0]) ?_ 2 _ rfl; (with_reducible repeat (first | refine blk_drewN ?_ _ | refine blk_drew ?_ | refine blk_alloc ?_ _)); refine blk_put (cs := #[.int .i64 t188, .string (⟨#[]⟩ : ByteArray), .string (⟨#[]⟩ : ByteArray), .int .i64 0, .slice none 0 0, .slice none 0 0]) ?_ 1 _ rfl; (with_reducible repeat (first | refine blk_drewN ?_ _ | refine blk_drew ?_ | refine blk_alloc ?_ _)); refine blk_put (cs := #[.int .i64 0, .string (⟨#[]⟩ : ByteArray), .string (⟨#[]⟩ : ByteArray), .int .i64 0, .slice none 0 0, .slice none 0 0]) ?_ 0 _ rfl; (with_reducible repeat (first | refine blk_drewN ?_ _ | refine blk_drew ?_ | refine blk_alloc ?_ _)); exact BK198.out) hb); have n11_ := Aside0.mk (below_step bl_ hb); clear HO173; clear HO176; clear HO183; clear HO186; clear HO194; clear HO197; clear BK163; clear BK164; clear BK198; clear HB; have HO173 := n0_; have HO176 := n1_; have HO183 := n2_; have HO186 := n3_; have HO194 := n4_; have HO197 := n5_; have HO205 := n6_; have HO208 := n7_; have BK163 := n8_; have BK164 := n9_; have BK198 := n10_; have HB := n11_; clear n0_ n1_ n2_ n3_ n4_ n5_ n6_ n7_ n8_ n9_ n10_ n11_; (try clear hb); (try clear hb2); (try clear hk); (try clear hi); (try clear ho0); (try clear ho1)) | ((with_reducible refine gate_dst (N := 8) rfl ?_); refine box_event ?hg (N := 8) ?hd (cs := #[.int .i64 0, .string (⟨#[]⟩ : ByteArray), .string (⟨#[]⟩ : ByteArray), .int .i64 0, .slice none 0 0, .slice none 0 0]) (t := 30) ?hr ?_; (case hd => rfl); (case hg => rfl); (case hr => exact hr_); intro gb209 hg w51 hbox hb; have n0_ := Aside0.mk (Kd.R_below (rk_ HO173) hb); have n1_ := Aside0.mk (Kd.R_below (rk_ HO176) hb); have n2_ := Aside0.mk (Kd.R_below (rk_ HO183) hb); have n3_ := Aside0.mk (Kd.R_below (rk_ HO186) hb); have n4_ := Aside0.mk (Kd.R_below (rk_ HO194) hb); have n5_ := Aside0.mk (Kd.R_below (rk_ HO197) hb); have n6_ := Aside0.mk (Kd.R_below (rk_ HO205) hb); have n7_ := Aside0.mk (Kd.R_below (rk_ HO208) hb); have n8_ := Aside0.mk (blkb_ BK163 hb); have n9_ := Aside0.mk (blkb_ BK164 hb); have n10_ := Aside0.mk (blkb_ BK198 hb); have n11_ := Aside0.mk (below_step bl_ hb); have n12_ := Aside0.mk (hbox); have n13_ := Aside0.mk (gw_ hg bl_); have n14_ := Aside0.mk (gw_ hg bl_); have n15_ := Aside0.mk (gn_ hg (blkl_ BK163)); have n16_ := Aside0.mk (gm_ hg (blkl_ BK163)); have n17_ := Aside0.mk (gn_ hg (blkl_ BK164)); have n18_ := Aside0.mk (gm_ hg (blkl_ BK164)); have n19_ := Aside0.mk (gn_ hg (blkl_ BK198)); have n20_ := Aside0.mk (gm_ hg (blkl_ BK198)); clear HO173; clear HO176; clear HO183; clear HO186; clear HO194; clear HO197; clear HO205; clear HO208; clear BK163; clear BK164; clear BK198; clear HB; have HO173 := n0_; have HO176 := n1_; have HO183 := n2_; have HO186 := n3_; have HO194 := n4_; have HO197 := n5_; have HO205 := n6_; have HO208 := n7_; have BK163 := n8_; have BK164 := n9_; have BK198 := n10_; have HB := n11_; have BK209 := n12_; have GW209 := n13_; have GE209 := n14_; have NB163_209 := n15_; have NB209_163 := n16_; have NB164_209 := n17_; have NB209_164 := n18_; have NB198_209 := n19_; have NB209_198 := n20_; clear n0_ n1_ n2_ n3_ n4_ n5_ n6_ n7_ n8_ n9_ n10_ n11_ n12_ n13_ n14_ n15_ n16_ n17_ n18_ n19_ n20_; clear hb hbox hg; have hnb52 := NB209_163.out; have hnc52 := NB163_209.out; have hnb53 := NB209_164.out; have hnc53 := NB164_209.out; have hnb54 := NB209_198.out; have hnc54 := NB198_209.out; obtain ⟨hcz55_0, hcz55_1, hcz55_2, hcz55_3, hcz55_4, hcz55_5, hfz55_0, hfz55_1, hfz55_2, hfz55_3, hfz55_4, hfz55_5⟩ := cellsF6 BK209.out; obtain ⟨Ao56, co56, eo56⟩ := Kd.R_slice HO205.out; subst eo56; obtain ⟨Ao57, co57, eo57⟩ := Kd.R_slice HO208.out; subst eo57; obtain ⟨hcz58_0, hcz58_1, hcz58_2, hcz58_3, hcz58_4, hcz58_5, hfz58_0, hfz58_1, hfz58_2, hfz58_3, hfz58_4, hfz58_5⟩ := cellsF6 BK198.out) | ((with_reducible refine gate_callee (f := 11) rfl ?_); refine gl_ 31 Try.func11 #[.agg #[.int .i64 t188, .string t189, .string t190, .int .i64 t191, .slice Ao47 t192.length co47, .slice Ao48 t195.length co48], .agg #[.int .i64 t199, .string t200, .string t201, .int .i64 t202, .slice Ao56 t203.length co56, .slice Ao57 t206.length co57]] ?_ rfl rfl rfl rfl; (with_reducible refine (impl_PaperSame.calls k t188 t189 t190 t191 _ _ t192 _ _ t195 t199 t200 t201 t202 _ _ t203 _ _ t206 t210 _ ?side1 ?side2 ?side3 ?side4 ?side5 ?side6 ?side7 ?side8 A24.out).mono ?_); (case side1 => refine (Kd.R_reads' (e := 9) (base := w.heap.size) (ok := fun k_ => (((True ∧ some k_ ≠ (.slice Ao36 t171.length co36 : Value).ownBlock) ∧ some k_ ≠ (.slice Ao38 t181.length co38 : Value).ownBlock) ∧ some k_ ≠ (.slice Ao56 t203.length co56 : Value).ownBlock)) (n := t192.length) (c := co47) ?_).2.2; exact au6_35); (case side2 => exact au6_62); (case side3 => refine (Kd.R_reads' (e := 71) (base := w.heap.size) (ok := fun k_ => (((True ∧ some k_ ≠ (.slice Ao37 t174.length co37 : Value).ownBlock) ∧ some k_ ≠ (.slice Ao39 t184.length co39 : Value).ownBlock) ∧ some k_ ≠ (.slice Ao57 t206.length co57 : Value).ownBlock)) (n := t195.length) (c := co48) ?_).2.2; exact au6_36); (case side4 => exact au6_63); (case side5 => refine (Kd.R_reads' (e := 9) (base := w.heap.size) (ok := fun k_ => (((True ∧ some k_ ≠ (.slice Ao36 t171.length co36 : Value).ownBlock) ∧ some k_ ≠ (.slice Ao38 t181.length co38 : Value).ownBlock) ∧ some k_ ≠ (.slice Ao47 t192.length co47 : Value).ownBlock)) (n := t203.length) (c := co56) ?_).2.2; exact au6_37); (case side6 => exact au6_64); (case side7 => refine (Kd.R_reads' (e := 71) (base := w.heap.size) (ok := fun k_ => (((True ∧ some k_ ≠ (.slice Ao37 t174.length co37 : Value).ownBlock) ∧ some k_ ≠ (.slice Ao39 t184.length co39 : Value).ownBlock) ∧ some k_ ≠ (.slice Ao48 t195.length co48 : Value).ownBlock)) (n := t206.length) (c := co57) ?_).2.2; exact au6_38); (case side8 => exact au6_65); rintro e w59 ⟨rfl, hb⟩; refine ⟨_, rfl, ?_⟩; have n0_ := Aside0.mk (Kd.R_below (by (with_reducible repeat (first | apply Kd.R_alloc | apply Kd.R_drewN | apply Kd.R_drew)); exact (Kd.R_mono (Kd.R_far (p := ⟨gb209, 5, none⟩) (Kd.R_far (p := ⟨gb209, 4, none⟩) (Kd.R_far (p := ⟨gb209, 3, none⟩) (Kd.R_far (p := ⟨gb209, 2, none⟩) (Kd.R_far (p := ⟨gb209, 1, none⟩) (Kd.R_far (p := ⟨gb209, 0, none⟩) (Kd.R_types HO173.out BK209.out (by decide)) (fun _ hk => hk.2) (.int .i64 t199)) (fun _ hk => hk.2) (.string t200)) (fun _ hk => hk.2) (.string t201)) (fun _ hk => hk.2) (.int .i64 t202)) (fun _ hk => hk.2) (.slice Ao56 t203.length co56)) (fun _ hk => hk.2) (.slice Ao57 t206.length co57)) (fun _ h_ => h_.1))) hb); have n1_ := Aside0.mk (Kd.R_below (by (with_reducible repeat (first | apply Kd.R_alloc | apply Kd.R_drewN | apply Kd.R_drew)); exact (Kd.R_mono (Kd.R_far (p := ⟨gb209, 5, none⟩) (Kd.R_far (p := ⟨gb209, 4, none⟩) (Kd.R_far (p := ⟨gb209, 3, none⟩) (Kd.R_far (p := ⟨gb209, 2, none⟩) (Kd.R_far (p := ⟨gb209, 1, none⟩) (Kd.R_far (p := ⟨gb209, 0, none⟩) (Kd.R_types HO176.out BK209.out (by decide)) (fun _ hk => hk.2) (.int .i64 t199)) (fun _ hk => hk.2) (.string t200)) (fun _ hk => hk.2) (.string t201)) (fun _ hk => hk.2) (.int .i64 t202)) (fun _ hk => hk.2) (.slice Ao56 t203.length co56)) (fun _ hk => hk.2) (.slice Ao57 t206.length co57)) (fun _ h_ => h_.1))) hb); have n2_ := Aside0.mk (Kd.R_below (by (with_reducible repeat (first | apply Kd.R_alloc | apply Kd.R_drewN | apply Kd.R_drew)); exact (Kd.R_mono (Kd.R_far (p := ⟨gb209, 5, none⟩) (Kd.R_far (p := ⟨gb209, 4, none⟩) (Kd.R_far (p := ⟨gb209, 3, none⟩) (Kd.R_far (p := ⟨gb209, 2, none⟩) (Kd.R_far (p := ⟨gb209, 1, none⟩) (Kd.R_far (p := ⟨gb209, 0, none⟩) (Kd.R_types HO183.out BK209.out (by decide)) (fun _ hk => hk.2) (.int .i64 t199)) (fun _ hk => hk.2) (.string t200)) (fun _ hk => hk.2) (.string t201)) (fun _ hk => hk.2) (.int .i64 t202)) (fun _ hk => hk.2) (.slice Ao56 t203.length co56)) (fun _ hk => hk.2) (.slice Ao57 t206.length co57)) (fun _ h_ => h_.1))) hb); have n3_ := Aside0.mk (Kd.R_below (by (with_reducible repeat (first | apply Kd.R_alloc | apply Kd.R_drewN | apply Kd.R_drew)); exact (Kd.R_mono (Kd.R_far (p := ⟨gb209, 5, none⟩) (Kd.R_far (p := ⟨gb209, 4, none⟩) (Kd.R_far (p := ⟨gb209, 3, none⟩) (Kd.R_far (p := ⟨gb209, 2, none⟩) (Kd.R_far (p := ⟨gb209, 1, none⟩) (Kd.R_far (p := ⟨gb209, 0, none⟩) (Kd.R_types HO186.out BK209.out (by decide)) (fun _ hk => hk.2) (.int .i64 t199)) (fun _ hk => hk.2) (.string t200)) (fun _ hk => hk.2) (.string t201)) (fun _ hk => hk.2) (.int .i64 t202)) (fun _ hk => hk.2) (.slice Ao56 t203.length co56)) (fun _ hk => hk.2) (.slice Ao57 t206.length co57)) (fun _ h_ => h_.1))) hb); have n4_ := Aside0.mk (Kd.R_below au6_35 hb); have n5_ := Aside0.mk (Kd.R_below au6_36 hb); have n6_ := Aside0.mk (Kd.R_below au6_37 hb); have n7_ := Aside0.mk (Kd.R_below au6_38 hb); have n8_ := Aside0.mk (blk_below (g := gb163) (o := .cells #[.int .i64 a0_0, .string a0_1, .string a0_2, .int .i64 a0_3, .slice A0_4 l0_4.length c0_4, .slice A0_5 l0_5.length c0_5] 25 (0, 0)) au6_2 hb); have n9_ := Aside0.mk (blk_below (g := gb164) (o := .cells #[.int .i64 a1_0, .string a1_1, .string a1_2, .int .i64 a1_3, .slice A1_4 l1_4.length c1_4, .slice A1_5 l1_5.length c1_5] 25 (0, 0)) au6_3 hb); have n10_ := Aside0.mk (blk_below (g := gb198) (o := .cells #[.int .i64 t188, .string t189, .string t190, .int .i64 t191, .slice Ao47 t192.length co47, .slice Ao48 t195.length co48] 30 (0, 0)) au6_4 hb); have n11_ := Aside0.mk (blk_below (g := gb209) (o := .cells #[.int .i64 t199, .string t200, .string t201, .int .i64 t202, .slice Ao56 t203.length co56, .slice Ao57 t206.length co57] 30 (0, 0)) (by (with_reducible repeat (first | refine blk_drewN ?_ _ | refine blk_drew ?_ | refine blk_alloc ?_ _)); refine blk_put (cs := #[.int .i64 t199, .string t200, .string t201, .int .i64 t202, .slice Ao56 t203.length co56, .slice none 0 0]) ?_ 5 _ rfl; (with_reducible repeat (first | refine blk_drewN ?_ _ | refine blk_drew ?_ | refine blk_alloc ?_ _)); refine blk_put (cs := #[.int .i64 t199, .string t200, .string t201, .int .i64 t202, .slice none 0 0, .slice none 0 0]) ?_ 4 _ rfl; (with_reducible repeat (first | refine blk_drewN ?_ _ | refine blk_drew ?_ | refine blk_alloc ?_ _)); refine blk_put (cs := #[.int .i64 t199, .string t200, .string t201, .int .i64 0, .slice none 0 0, .slice none 0 0]) ?_ 3 _ rfl; (with_reducible repeat (first | refine blk_drewN ?_ _ | refine blk_drew ?_ | refine blk_alloc ?_ _)); refine blk_put (cs := #[.int .i64 t199, .string t200, .string (⟨#[]⟩ : ByteArray), .int .i64 0, .slice none 0 0, .slice none 0 0]) ?_ 2 _ rfl; (with_reducible repeat (first | refine blk_drewN ?_ _ | refine blk_drew ?_ | refine blk_alloc ?_ _)); refine blk_put (cs := #[.int .i64 t199, .string (⟨#[]⟩ : ByteArray), .string (⟨#[]⟩ : ByteArray), .int .i64 0, .slice none 0 0, .slice none 0 0]) ?_ 1 _ rfl; (with_reducible repeat (first | refine blk_drewN ?_ _ | refine blk_drew ?_ | refine blk_alloc ?_ _)); refine blk_put (cs := #[.int .i64 0, .string (⟨#[]⟩ : ByteArray), .string (⟨#[]⟩ : ByteArray), .int .i64 0, .slice none 0 0, .slice none 0 0]) ?_ 0 _ rfl; (with_reducible repeat (first | refine blk_drewN ?_ _ | refine blk_drew ?_ | refine blk_alloc ?_ _)); exact BK209.out) hb); have n12_ := Aside0.mk (below_step bl_ hb); clear HO173; clear HO176; clear HO183; clear HO186; clear HO194; clear HO197; clear HO205; clear HO208; clear BK163; clear BK164; clear BK198; clear BK209; clear HB; have HO173 := n0_; have HO176 := n1_; have HO183 := n2_; have HO186 := n3_; have HO194 := n4_; have HO197 := n5_; have HO205 := n6_; have HO208 := n7_; have BK163 := n8_; have BK164 := n9_; have BK198 := n10_; have BK209 := n11_; have HB := n12_; clear n0_ n1_ n2_ n3_ n4_ n5_ n6_ n7_ n8_ n9_ n10_ n11_ n12_; (try clear hb); (try clear hb2); (try clear hk); (try clear hi)))
        go_ret
        exact ⟨au6_53, bl_⟩
      · rw [if_neg c25] at H
        have c25b0 : (t210 != t187) = false := by simpa using c25
        (try (have c25b1 : decide (t210 = t187) = true := by simpa using c25))
        (try (have c25b2 : (t210 == t187) = true := by simpa using c25))
        clear c25
        replace H := Option.bind_eq_some_iff.mp H
        obtain ⟨⟨t211, t212, t213, t214, t215, t218⟩, A600, H⟩ := H
        replace H : ((laws_eqPaper.f k t188 t189 t190 t191 t192 t195 t211 t212 t213 t214 t215 t218).bind fun t221 => (if t221 = true then ((laws_toPaper.f k a1_0 a1_1 a1_2 a1_3 l1_4 l1_5).bind fun bt222 => ((laws_eqPaper.f k t199 t200 t201 t202 t203 t206 bt222.1 bt222.2.1 bt222.2.2.1 bt222.2.2.2.1 bt222.2.2.2.2.1 bt222.2.2.2.2.2).bind fun t232 => (if t232 = true then (some true) else (some false)))) else (some false))) = some r := H
        have A60 := Aside0.mk A600
        clear A600
        replace H := Option.bind_eq_some_iff.mp H
        obtain ⟨t221, A610, H⟩ := H
        replace H : (if t221 = true then ((laws_toPaper.f k a1_0 a1_1 a1_2 a1_3 l1_4 l1_5).bind fun bt222 => ((laws_eqPaper.f k t199 t200 t201 t202 t203 t206 bt222.1 bt222.2.1 bt222.2.2.1 bt222.2.2.2.1 bt222.2.2.2.2.1 bt222.2.2.2.2.2).bind fun t232 => (if t232 = true then (some true) else (some false)))) else (some false)) = some r := H
        have A61 := Aside0.mk A610
        clear A610
        by_cases c62 : t221 = true
        · subst c62
          have H1 : ((laws_toPaper.f k a1_0 a1_1 a1_2 a1_3 l1_4 l1_5).bind fun bt222 => ((laws_eqPaper.f k t199 t200 t201 t202 t203 t206 bt222.1 bt222.2.1 bt222.2.2.1 bt222.2.2.2.1 bt222.2.2.2.2.1 bt222.2.2.2.2.2).bind fun t232 => (if t232 = true then (some true) else (some false)))) = some r := by rw [if_pos rfl] at H; exact H
          clear H
          have H := H1
          clear H1
          replace H := Option.bind_eq_some_iff.mp H
          obtain ⟨⟨t222, t223, t224, t225, t226, t229⟩, A630, H⟩ := H
          replace H : ((laws_eqPaper.f k t199 t200 t201 t202 t203 t206 t222 t223 t224 t225 t226 t229).bind fun t232 => (if t232 = true then (some true) else (some false))) = some r := H
          have A63 := Aside0.mk A630
          clear A630
          replace H := Option.bind_eq_some_iff.mp H
          obtain ⟨t232, A640, H⟩ := H
          replace H : (if t232 = true then (some true) else (some false)) = some r := H
          have A64 := Aside0.mk A640
          clear A640
          by_cases c65 : t232 = true
          · subst c65
            have H1 : (some true) = some r := by rw [if_pos rfl] at H; exact H
            clear H
            have H := H1
            clear H1
            obtain rfl := Option.some.inj H
            go_enter Try.func3, Try.ntmps3
            try go_wp2_with (first | ((with_reducible refine gate_dst (N := 2) rfl ?_); refine box_event ?hg (N := 2) ?hd (cs := #[.int .i64 a0_0, .string a0_1, .string a0_2, .int .i64 a0_3, .slice A0_4 l0_4.length c0_4, .slice A0_5 l0_5.length c0_5]) (t := 25) ?hr ?_; (case hd => rfl); (case hg => rfl); (case hr => exact hr_); intro gb163 hg w66 hbox hb; have n0_ := Aside0.mk (below_step bl_ hb); have n1_ := Aside0.mk (hbox); have n2_ := Aside0.mk (gw_ hg bl_); have n3_ := Aside0.mk (gw_ hg bl_); clear HB; have HB := n0_; have BK163 := n1_; have GW163 := n2_; have GE163 := n3_; clear n0_ n1_ n2_ n3_; clear hb hbox hg) | ((with_reducible refine gate_dst (N := 3) rfl ?_); refine box_event ?hg (N := 3) ?hd (cs := #[.int .i64 a1_0, .string a1_1, .string a1_2, .int .i64 a1_3, .slice A1_4 l1_4.length c1_4, .slice A1_5 l1_5.length c1_5]) (t := 25) ?hr ?_; (case hd => rfl); (case hg => rfl); (case hr => exact hr_); intro gb164 hg w67 hbox hb; have n0_ := Aside0.mk (blkb_ BK163 hb); have n1_ := Aside0.mk (below_step bl_ hb); have n2_ := Aside0.mk (hbox); have n3_ := Aside0.mk (gw_ hg bl_); have n4_ := Aside0.mk (gw_ hg bl_); have n5_ := Aside0.mk (gn_ hg (blkl_ BK163)); have n6_ := Aside0.mk (gm_ hg (blkl_ BK163)); clear BK163; clear HB; have BK163 := n0_; have HB := n1_; have BK164 := n2_; have GW164 := n3_; have GE164 := n4_; have NB163_164 := n5_; have NB164_163 := n6_; clear n0_ n1_ n2_ n3_ n4_ n5_ n6_; clear hb hbox hg; have hnb68 := NB163_164.out; have hnc68 := NB164_163.out; obtain ⟨hcz69_0, hcz69_1, hcz69_2, hcz69_3, hcz69_4, hcz69_5, hfz69_0, hfz69_1, hfz69_2, hfz69_3, hfz69_4, hfz69_5⟩ := cellsF6 BK163.out) | ((with_reducible refine gate_callee (f := 8) rfl ?_); refine gl_ 12 Try.func8 #[.agg #[.int .i64 a0_0, .string a0_1, .string a0_2, .int .i64 a0_3, .slice A0_4 l0_4.length c0_4, .slice A0_5 l0_5.length c0_5], .int .i64 1048576] ?_ rfl rfl rfl rfl; (with_reducible refine (laws_szPaper.calls k a0_0 a0_1 a0_2 a0_3 _ _ l0_4 _ _ l0_5 1048576 t165 _ ?side1 ?side2 ?side3 ?side4 A3.out).mono ?_); (case side1 => exact au6_5); (case side2 => exact HC0_4.out); (case side3 => exact au6_6); (case side4 => exact HC0_5.out); rintro e w70 ⟨rfl, hb⟩; refine ⟨_, rfl, ?_⟩; have n0_ := Aside0.mk (blkb_ BK163 hb); have n1_ := Aside0.mk (blkb_ BK164 hb); have n2_ := Aside0.mk (below_step bl_ hb); clear BK163; clear BK164; clear HB; have BK163 := n0_; have BK164 := n1_; have HB := n2_; clear n0_ n1_ n2_; (try clear hb); (try clear hb2); (try clear hk); (try clear hi); obtain ⟨hcz71_0, hcz71_1, hcz71_2, hcz71_3, hcz71_4, hcz71_5, hfz71_0, hfz71_1, hfz71_2, hfz71_3, hfz71_4, hfz71_5⟩ := cellsF6 BK164.out) | ((with_reducible refine gate_callee (f := 8) rfl ?_); refine gl_ 17 Try.func8 #[.agg #[.int .i64 a1_0, .string a1_1, .string a1_2, .int .i64 a1_3, .slice A1_4 l1_4.length c1_4, .slice A1_5 l1_5.length c1_5], .int .i64 t165] ?_ rfl rfl rfl rfl; (with_reducible refine (laws_szPaper.calls k a1_0 a1_1 a1_2 a1_3 _ _ l1_4 _ _ l1_5 t165 t166 _ ?side1 ?side2 ?side3 ?side4 A10.out).mono ?_); (case side1 => exact au6_7); (case side2 => exact HC1_4.out); (case side3 => exact au6_8); (case side4 => exact HC1_5.out); rintro e w72 ⟨rfl, hb⟩; refine ⟨_, rfl, ?_⟩; have n0_ := Aside0.mk (blkb_ BK163 hb); have n1_ := Aside0.mk (blkb_ BK164 hb); have n2_ := Aside0.mk (below_step bl_ hb); clear BK163; clear BK164; clear HB; have BK163 := n0_; have BK164 := n1_; have HB := n2_; clear n0_ n1_ n2_; (try clear hb); (try clear hb2); (try clear hk); (try clear hi)))
            have n0_ := Aside0.mk (blk_drew BK163.out)
            have n1_ := Aside0.mk (blk_drew BK164.out)
            have n2_ := Aside0.mk (below_drew1 HB.out)
            clear BK163
            clear BK164
            clear HB
            have BK163 := n0_
            have BK164 := n1_
            have HB := n2_
            clear n0_ n1_ n2_
            refine start_ (n := 6) (S := fun w' => w'.cell? ⟨gb163, 0, none⟩ = some (.int .i64 a0_0) ∧ w'.cell? ⟨gb163, 1, none⟩ = some (.string a0_1) ∧ w'.cell? ⟨gb163, 2, none⟩ = some (.string a0_2) ∧ w'.cell? ⟨gb163, 3, none⟩ = some (.int .i64 a0_3) ∧ w'.cell? ⟨gb163, 4, none⟩ = some (.slice A0_4 l0_4.length c0_4) ∧ w'.cell? ⟨gb163, 5, none⟩ = some (.slice A0_5 l0_5.length c0_5) ∧ w'.cell? ⟨gb164, 0, none⟩ = some (.int .i64 a1_0) ∧ w'.cell? ⟨gb164, 1, none⟩ = some (.string a1_1) ∧ w'.cell? ⟨gb164, 2, none⟩ = some (.string a1_2) ∧ w'.cell? ⟨gb164, 3, none⟩ = some (.int .i64 a1_3) ∧ w'.cell? ⟨gb164, 4, none⟩ = some (.slice A1_4 l1_4.length c1_4) ∧ w'.cell? ⟨gb164, 5, none⟩ = some (.slice A1_5 l1_5.length c1_5)) (ds := []) (bs 6 0) (by kernel_rfl) rfl rfl ⟨(blk_cell BK163.out 0).trans rfl, (blk_cell BK163.out 1).trans rfl, (blk_cell BK163.out 2).trans rfl, (blk_cell BK163.out 3).trans rfl, (blk_cell BK163.out 4).trans rfl, (blk_cell BK163.out 5).trans rfl, (blk_cell BK164.out 0).trans rfl, (blk_cell BK164.out 1).trans rfl, (blk_cell BK164.out 2).trans rfl, (blk_cell BK164.out 3).trans rfl, (blk_cell BK164.out 4).trans rfl, (blk_cell BK164.out 5).trans rfl⟩ (fun hHeld => ?_)
            generalize w72.drew = w73 at BK163 BK164 HB hHeld ⊢
            refine take_ (i := 0) (N := some 20) (v := ?_) (a' := ?_) (bs 6 1) rfl rfl (by kernel_rfl) (fun _ _ _ h => h) (Or.inl ⟨by rfl, ?_⟩) hHeld ?_ ?_
            rotate_left
            · rintro w' ⟨s0, s1, s2, s3, s4, s5, s6, s7, s8, s9, s10, s11⟩
              go_simp
              with_reducible rfl
            rotate_left
            · simp only [Act.put, List.setIfInBounds_toArray, List.set_cons_zero, List.set_cons_succ, i64_w, i32_w]
              rfl
            refine take_ (i := 2) (N := some 22) (v := ?_) (a' := ?_) (bs 6 5) rfl rfl (by kernel_rfl) (fun _ _ _ h => h) (Or.inl ⟨by rfl, ?_⟩) hHeld ?_ ?_
            rotate_left
            · rintro w' ⟨s0, s1, s2, s3, s4, s5, s6, s7, s8, s9, s10, s11⟩
              go_simp
              with_reducible rfl
            rotate_left
            · simp only [Act.put, List.setIfInBounds_toArray, List.set_cons_zero, List.set_cons_succ, i64_w, i32_w]
              rfl
            refine one_ (i := 1) (N := some 21) (bs 6 7) rfl rfl (by kernel_rfl) (by decide) (fun K hK => ?_)
            refine gr_ Try.func10 #[.agg #[.int .i64 a0_0, .string a0_1, .string a0_2, .int .i64 a0_3, .slice A0_4 l0_4.length c0_4, .slice A0_5 l0_5.length c0_5]] (by rfl) ?_ rfl rfl rfl
            with_reducible refine (laws_toPaper.calls k a0_0 a0_1 a0_2 a0_3 _ _ l0_4 _ _ l0_5 t167 t168 t169 t170 t171 t174 _ ?side1 ?side2 ?side3 ?side4 A19.out).mono ?_
            (case side1 => exact au6_5)
            (case side2 => exact HC0_4.out)
            (case side3 => exact au6_6)
            (case side4 => exact HC0_5.out)
            rintro e w74 ⟨v172, v175, rfl, ho0, ho1, hb⟩
            refine ⟨_, rfl, ?_⟩
            have n0_ := Aside0.mk (Kd.R_lower ho0 (below_size bl_))
            have n1_ := Aside0.mk (Kd.R_lower ho1 (below_size bl_))
            have n2_ := Aside0.mk (blkb_ BK163 hb)
            have n3_ := Aside0.mk (blkb_ BK164 hb)
            have n4_ := Aside0.mk (below_step bl_ hb)
            clear BK163
            clear BK164
            clear HB
            have HO173 := n0_
            have HO176 := n1_
            have BK163 := n2_
            have BK164 := n3_
            have HB := n4_
            clear n0_ n1_ n2_ n3_ n4_
            (try clear hb)
            (try clear hb2)
            (try clear hk)
            (try clear hi)
            (try clear ho0)
            (try clear ho1)
            refine hK.out _ _ ⟨(blk_cell BK163.out 0).trans rfl, (blk_cell BK163.out 1).trans rfl, (blk_cell BK163.out 2).trans rfl, (blk_cell BK163.out 3).trans rfl, (blk_cell BK163.out 4).trans rfl, (blk_cell BK163.out 5).trans rfl, (blk_cell BK164.out 0).trans rfl, (blk_cell BK164.out 1).trans rfl, (blk_cell BK164.out 2).trans rfl, (blk_cell BK164.out 3).trans rfl, (blk_cell BK164.out 4).trans rfl, (blk_cell BK164.out 5).trans rfl⟩ (fun hHeld => ?_)
            clear hK K
            refine norm_ (a' := ?_) ?_ ?_
            rotate_left
            · show Act.put _ (some 21) _ = _
              simp only [Act.put, List.setIfInBounds_toArray, List.set_cons_zero, List.set_cons_succ, i64_w, i32_w]
              rfl
            refine one_ (i := 3) (N := some 23) (bs 6 15) rfl rfl (by kernel_rfl) (by decide) (fun K hK => ?_)
            refine gr_ Try.func10 #[.agg #[.int .i64 a1_0, .string a1_1, .string a1_2, .int .i64 a1_3, .slice A1_4 l1_4.length c1_4, .slice A1_5 l1_5.length c1_5]] (by rfl) ?_ rfl rfl rfl
            with_reducible refine (laws_toPaper.calls k a1_0 a1_1 a1_2 a1_3 _ _ l1_4 _ _ l1_5 t177 t178 t179 t180 t181 t184 _ ?side1 ?side2 ?side3 ?side4 A20.out).mono ?_
            (case side1 => exact au6_7)
            (case side2 => exact HC1_4.out)
            (case side3 => exact au6_8)
            (case side4 => exact HC1_5.out)
            rintro e w75 ⟨v182, v185, rfl, ho0, ho1, hb⟩
            refine ⟨_, rfl, ?_⟩
            have n0_ := Aside0.mk (Kd.R_elder' (rk_ HO173) (Kd.R_base ho0) hb)
            have n1_ := Aside0.mk (Kd.R_elder' (rk_ HO176) (Kd.R_base ho1) hb)
            have n2_ := Aside0.mk (Kd.R_lower (Kd.R_new' ho0 (Kd.R_lt (rk_ HO173))) (below_size bl_))
            have n3_ := Aside0.mk (Kd.R_lower (Kd.R_new' ho1 (Kd.R_lt (rk_ HO176))) (below_size bl_))
            have n4_ := Aside0.mk (blkb_ BK163 hb)
            have n5_ := Aside0.mk (blkb_ BK164 hb)
            have n6_ := Aside0.mk (below_step bl_ hb)
            clear HO173
            clear HO176
            clear BK163
            clear BK164
            clear HB
            have HO173 := n0_
            have HO176 := n1_
            have HO183 := n2_
            have HO186 := n3_
            have BK163 := n4_
            have BK164 := n5_
            have HB := n6_
            clear n0_ n1_ n2_ n3_ n4_ n5_ n6_
            (try clear hb)
            (try clear hb2)
            (try clear hk)
            (try clear hi)
            (try clear ho0)
            (try clear ho1)
            obtain ⟨Ao76, co76, eo76⟩ := Kd.R_slice HO173.out
            (first | subst eo76 | (injection eo76 with f1_ f2_ f3_; have f4_ := f1_.symm; have f5_ := f3_.symm; clear f1_ f2_ f3_; subst f4_; subst f5_))
            obtain ⟨Ao77, co77, eo77⟩ := Kd.R_slice HO176.out
            (first | subst eo77 | (injection eo77 with f1_ f2_ f3_; have f4_ := f1_.symm; have f5_ := f3_.symm; clear f1_ f2_ f3_; subst f4_; subst f5_))
            obtain ⟨Ao78, co78, eo78⟩ := Kd.R_slice HO183.out
            (first | subst eo78 | (injection eo78 with f1_ f2_ f3_; have f4_ := f1_.symm; have f5_ := f3_.symm; clear f1_ f2_ f3_; subst f4_; subst f5_))
            obtain ⟨Ao79, co79, eo79⟩ := Kd.R_slice HO186.out
            (first | subst eo79 | (injection eo79 with f1_ f2_ f3_; have f4_ := f1_.symm; have f5_ := f3_.symm; clear f1_ f2_ f3_; subst f4_; subst f5_))
            refine hK.out _ _ ⟨(blk_cell BK163.out 0).trans rfl, (blk_cell BK163.out 1).trans rfl, (blk_cell BK163.out 2).trans rfl, (blk_cell BK163.out 3).trans rfl, (blk_cell BK163.out 4).trans rfl, (blk_cell BK163.out 5).trans rfl, (blk_cell BK164.out 0).trans rfl, (blk_cell BK164.out 1).trans rfl, (blk_cell BK164.out 2).trans rfl, (blk_cell BK164.out 3).trans rfl, (blk_cell BK164.out 4).trans rfl, (blk_cell BK164.out 5).trans rfl⟩ (fun hHeld => ?_)
            clear hK K
            refine norm_ (a' := ?_) ?_ ?_
            rotate_left
            · show Act.put _ (some 23) _ = _
              simp only [Act.put, List.setIfInBounds_toArray, List.set_cons_zero, List.set_cons_succ, i64_w, i32_w]
              rfl
            refine one_ (i := 4) (N := some 24) (bs 6 31) rfl rfl (by kernel_rfl) (by decide) (fun K hK => ?_)
            refine gr_ Try.func9 #[.agg #[.int .i64 t167, .string t168, .string t169, .int .i64 t170, .slice Ao76 t171.length co76, .slice Ao77 t174.length co77], .agg #[.int .i64 t177, .string t178, .string t179, .int .i64 t180, .slice Ao78 t181.length co78, .slice Ao79 t184.length co79]] (by rfl) ?_ rfl rfl rfl
            with_reducible refine (spec_PaperSame.calls k t167 t168 t169 t170 _ _ t171 _ _ t174 t177 t178 t179 t180 _ _ t181 _ _ t184 t187 _ ?side1 ?side2 ?side3 ?side4 ?side5 ?side6 ?side7 ?side8 A21.out).mono ?_
            (case side1 => exact au6_49)
            (case side2 => exact au6_66)
            (case side3 => exact au6_50)
            (case side4 => exact au6_67)
            (case side5 => exact au6_51)
            (case side6 => exact au6_68)
            (case side7 => exact au6_52)
            (case side8 => exact au6_69)
            rintro e w80 ⟨rfl, hb⟩
            refine ⟨_, rfl, ?_⟩
            have n0_ := Aside0.mk (Kd.R_below (rk_ HO173) hb)
            have n1_ := Aside0.mk (Kd.R_below (rk_ HO176) hb)
            have n2_ := Aside0.mk (Kd.R_below (rk_ HO183) hb)
            have n3_ := Aside0.mk (Kd.R_below (rk_ HO186) hb)
            have n4_ := Aside0.mk (blkb_ BK163 hb)
            have n5_ := Aside0.mk (blkb_ BK164 hb)
            have n6_ := Aside0.mk (below_step bl_ hb)
            clear HO173
            clear HO176
            clear HO183
            clear HO186
            clear BK163
            clear BK164
            clear HB
            have HO173 := n0_
            have HO176 := n1_
            have HO183 := n2_
            have HO186 := n3_
            have BK163 := n4_
            have BK164 := n5_
            have HB := n6_
            clear n0_ n1_ n2_ n3_ n4_ n5_ n6_
            (try clear hb)
            (try clear hb2)
            (try clear hk)
            (try clear hi)
            refine hK.out _ _ ⟨(blk_cell BK163.out 0).trans rfl, (blk_cell BK163.out 1).trans rfl, (blk_cell BK163.out 2).trans rfl, (blk_cell BK163.out 3).trans rfl, (blk_cell BK163.out 4).trans rfl, (blk_cell BK163.out 5).trans rfl, (blk_cell BK164.out 0).trans rfl, (blk_cell BK164.out 1).trans rfl, (blk_cell BK164.out 2).trans rfl, (blk_cell BK164.out 3).trans rfl, (blk_cell BK164.out 4).trans rfl, (blk_cell BK164.out 5).trans rfl⟩ (fun hHeld => ?_)
            clear hK K
            refine norm_ (a' := ?_) ?_ ?_
            rotate_left
            · show Act.put _ (some 24) _ = _
              simp only [Act.put, List.setIfInBounds_toArray, List.set_cons_zero, List.set_cons_succ, i64_w, i32_w]
              rfl
            refine pure_ (i := 5) (N := some 6) (v := ?_) (a' := ?_) (bs 6 63) rfl rfl (by kernel_rfl) (fun _ _ _ h => h) (Or.inl ⟨by rfl, ?_⟩) ?_ ?_
            rotate_left
            · intro w'
              go_simp
              with_reducible rfl
            rotate_left
            · simp only [Act.put, List.setIfInBounds_toArray, List.set_cons_zero, List.set_cons_succ, i64_w, i32_w]
              rfl
            refine done_ (by kernel_rfl) ?_
            obtain ⟨hcz81_0, hcz81_1, hcz81_2, hcz81_3, hcz81_4, hcz81_5, hfz81_0, hfz81_1, hfz81_2, hfz81_3, hfz81_4, hfz81_5⟩ := cellsF6 BK163.out
            try go_wp2_with (first | ((with_reducible refine gate_callee (f := 10) rfl ?_); refine gl_ 26 Try.func10 #[.agg #[.int .i64 a0_0, .string a0_1, .string a0_2, .int .i64 a0_3, .slice A0_4 l0_4.length c0_4, .slice A0_5 l0_5.length c0_5]] ?_ rfl rfl rfl rfl; (with_reducible refine (laws_toPaper.calls k a0_0 a0_1 a0_2 a0_3 _ _ l0_4 _ _ l0_5 t188 t189 t190 t191 t192 t195 _ ?side1 ?side2 ?side3 ?side4 A22.out).mono ?_); (case side1 => exact au6_5); (case side2 => exact HC0_4.out); (case side3 => exact au6_6); (case side4 => exact HC0_5.out); rintro e w82 ⟨v193, v196, rfl, ho0, ho1, hb⟩; refine ⟨_, rfl, ?_⟩; have n0_ := Aside0.mk (Kd.R_elder' (rk_ HO173) (Kd.R_base ho0) hb); have n1_ := Aside0.mk (Kd.R_elder' (rk_ HO176) (Kd.R_base ho1) hb); have n2_ := Aside0.mk (Kd.R_elder' (rk_ HO183) (Kd.R_base ho0) hb); have n3_ := Aside0.mk (Kd.R_elder' (rk_ HO186) (Kd.R_base ho1) hb); have n4_ := Aside0.mk (Kd.R_lower (Kd.R_new' (Kd.R_new' ho0 (Kd.R_lt (rk_ HO173))) (Kd.R_lt (rk_ HO183))) (below_size bl_)); have n5_ := Aside0.mk (Kd.R_lower (Kd.R_new' (Kd.R_new' ho1 (Kd.R_lt (rk_ HO176))) (Kd.R_lt (rk_ HO186))) (below_size bl_)); have n6_ := Aside0.mk (blkb_ BK163 hb); have n7_ := Aside0.mk (blkb_ BK164 hb); have n8_ := Aside0.mk (below_step bl_ hb); clear HO173; clear HO176; clear HO183; clear HO186; clear BK163; clear BK164; clear HB; have HO173 := n0_; have HO176 := n1_; have HO183 := n2_; have HO186 := n3_; have HO194 := n4_; have HO197 := n5_; have BK163 := n6_; have BK164 := n7_; have HB := n8_; clear n0_ n1_ n2_ n3_ n4_ n5_ n6_ n7_ n8_; (try clear hb); (try clear hb2); (try clear hk); (try clear hi); (try clear ho0); (try clear ho1)) | ((with_reducible refine gate_dst (N := 7) rfl ?_); refine box_event ?hg (N := 7) ?hd (cs := #[.int .i64 0, .string (⟨#[]⟩ : ByteArray), .string (⟨#[]⟩ : ByteArray), .int .i64 0, .slice none 0 0, .slice none 0 0]) (t := 30) ?hr ?_; (case hd => rfl); (case hg => rfl); (case hr => exact hr_); intro gb198 hg w83 hbox hb; have n0_ := Aside0.mk (Kd.R_below (rk_ HO173) hb); have n1_ := Aside0.mk (Kd.R_below (rk_ HO176) hb); have n2_ := Aside0.mk (Kd.R_below (rk_ HO183) hb); have n3_ := Aside0.mk (Kd.R_below (rk_ HO186) hb); have n4_ := Aside0.mk (Kd.R_below (rk_ HO194) hb); have n5_ := Aside0.mk (Kd.R_below (rk_ HO197) hb); have n6_ := Aside0.mk (blkb_ BK163 hb); have n7_ := Aside0.mk (blkb_ BK164 hb); have n8_ := Aside0.mk (below_step bl_ hb); have n9_ := Aside0.mk (hbox); have n10_ := Aside0.mk (gw_ hg bl_); have n11_ := Aside0.mk (gw_ hg bl_); have n12_ := Aside0.mk (gn_ hg (blkl_ BK163)); have n13_ := Aside0.mk (gm_ hg (blkl_ BK163)); have n14_ := Aside0.mk (gn_ hg (blkl_ BK164)); have n15_ := Aside0.mk (gm_ hg (blkl_ BK164)); clear HO173; clear HO176; clear HO183; clear HO186; clear HO194; clear HO197; clear BK163; clear BK164; clear HB; have HO173 := n0_; have HO176 := n1_; have HO183 := n2_; have HO186 := n3_; have HO194 := n4_; have HO197 := n5_; have BK163 := n6_; have BK164 := n7_; have HB := n8_; have BK198 := n9_; have GW198 := n10_; have GE198 := n11_; have NB163_198 := n12_; have NB198_163 := n13_; have NB164_198 := n14_; have NB198_164 := n15_; clear n0_ n1_ n2_ n3_ n4_ n5_ n6_ n7_ n8_ n9_ n10_ n11_ n12_ n13_ n14_ n15_; clear hb hbox hg; have hnb84 := NB198_163.out; have hnc84 := NB163_198.out; have hnb85 := NB198_164.out; have hnc85 := NB164_198.out; obtain ⟨hcz86_0, hcz86_1, hcz86_2, hcz86_3, hcz86_4, hcz86_5, hfz86_0, hfz86_1, hfz86_2, hfz86_3, hfz86_4, hfz86_5⟩ := cellsF6 BK198.out; obtain ⟨Ao87, co87, eo87⟩ := Kd.R_slice HO194.out; subst eo87; obtain ⟨Ao88, co88, eo88⟩ := Kd.R_slice HO197.out; subst eo88; obtain ⟨hcz89_0, hcz89_1, hcz89_2, hcz89_3, hcz89_4, hcz89_5, hfz89_0, hfz89_1, hfz89_2, hfz89_3, hfz89_4, hfz89_5⟩ := cellsF6 BK164.out) | ((with_reducible refine gate_callee (f := 10) rfl ?_); refine gl_ 28 Try.func10 #[.agg #[.int .i64 a1_0, .string a1_1, .string a1_2, .int .i64 a1_3, .slice A1_4 l1_4.length c1_4, .slice A1_5 l1_5.length c1_5]] ?_ rfl rfl rfl rfl; (with_reducible refine (laws_toPaper.calls k a1_0 a1_1 a1_2 a1_3 _ _ l1_4 _ _ l1_5 t199 t200 t201 t202 t203 t206 _ ?side1 ?side2 ?side3 ?side4 A23.out).mono ?_); (case side1 => exact au6_70); (case side2 => exact HC1_4.out); (case side3 => exact au6_71); (case side4 => exact HC1_5.out); rintro e w90 ⟨v204, v207, rfl, ho0, ho1, hb⟩; refine ⟨_, rfl, ?_⟩; have n0_ := Aside0.mk (Kd.R_elder' au6_39 (Kd.R_base ho0) hb); have n1_ := Aside0.mk (Kd.R_elder' au6_40 (Kd.R_base ho1) hb); have n2_ := Aside0.mk (Kd.R_elder' au6_41 (Kd.R_base ho0) hb); have n3_ := Aside0.mk (Kd.R_elder' au6_42 (Kd.R_base ho1) hb); have n4_ := Aside0.mk (Kd.R_elder' au6_43 (Kd.R_base ho0) hb); have n5_ := Aside0.mk (Kd.R_elder' au6_44 (Kd.R_base ho1) hb); have n6_ := Aside0.mk (Kd.R_lower (Kd.R_new' (Kd.R_new' (Kd.R_new' ho0 (Kd.R_lt au6_39)) (Kd.R_lt au6_41)) (Kd.R_lt au6_43)) (below_size bl_)); have n7_ := Aside0.mk (Kd.R_lower (Kd.R_new' (Kd.R_new' (Kd.R_new' ho1 (Kd.R_lt au6_40)) (Kd.R_lt au6_42)) (Kd.R_lt au6_44)) (below_size bl_)); have n8_ := Aside0.mk (blk_below (g := gb163) (o := .cells #[.int .i64 a0_0, .string a0_1, .string a0_2, .int .i64 a0_3, .slice A0_4 l0_4.length c0_4, .slice A0_5 l0_5.length c0_5] 25 (0, 0)) au6_0 hb); have n9_ := Aside0.mk (blk_below (g := gb164) (o := .cells #[.int .i64 a1_0, .string a1_1, .string a1_2, .int .i64 a1_3, .slice A1_4 l1_4.length c1_4, .slice A1_5 l1_5.length c1_5] 25 (0, 0)) au6_1 hb); have n10_ := Aside0.mk (blk_below (g := gb198) (o := .cells #[.int .i64 t188, .string t189, .string t190, .int .i64 t191, .slice Ao87 t192.length co87, .slice Ao88 t195.length co88] 30 (0, 0)) (by (with_reducible repeat (first | refine blk_drewN ?_ _ | refine blk_drew ?_ | refine blk_alloc ?_ _)); refine blk_put (cs := #[.int .i64 t188, .string t189, .string t190, .int .i64 t191, .slice Ao87 t192.length co87, .slice none 0 0]) ?_ 5 _ rfl; (with_reducible repeat (first | refine blk_drewN ?_ _ | refine blk_drew ?_ | refine blk_alloc ?_ _)); refine blk_put (cs := #[.int .i64 t188, .string t189, .string t190, .int .i64 t191, .slice none 0 0, .slice none 0 0]) ?_ 4 _ rfl; (with_reducible repeat (first | refine blk_drewN ?_ _ | refine blk_drew ?_ | refine blk_alloc ?_ _)); refine blk_put (cs := #[.int .i64 t188, .string t189, .string t190, .int .i64 0, .slice none 0 0, .slice none 0 0]) ?_ 3 _ rfl; (with_reducible repeat (first | refine blk_drewN ?_ _ | refine blk_drew ?_ | refine blk_alloc ?_ _)); refine blk_put (cs := #[.int .i64 t188, .string t189, .string (⟨#[]⟩ : ByteArray), .int .i64 0, .slice none 0 0, .slice none 0 0]) ?_ 2 _ rfl; (with_reducible repeat (first | refine blk_drewN ?_ _ | refine blk_drew ?_ | refine blk_alloc ?_ _)); refine blk_put (cs := #[.int .i64 t188, .string (⟨#[]⟩ : ByteArray), .string (⟨#[]⟩ : ByteArray), .int .i64 0, .slice none 0 0, .slice none 0 0]) ?_ 1 _ rfl; (with_reducible repeat (first | refine blk_drewN ?_ _ | refine blk_drew ?_ | refine blk_alloc ?_ _)); refine blk_put (cs := #[.int .i64 0, .string (⟨#[]⟩ : ByteArray), .string (⟨#[]⟩ : ByteArray), .int .i64 0, .slice none 0 0, .slice none 0 0]) ?_ 0 _ rfl; (with_reducible repeat (first | refine blk_drewN ?_ _ | refine blk_drew ?_ | refine blk_alloc ?_ _)); exact BK198.out) hb); have n11_ := Aside0.mk (below_step bl_ hb); clear HO173; clear HO176; clear HO183; clear HO186; clear HO194; clear HO197; clear BK163; clear BK164; clear BK198; clear HB; have HO173 := n0_; have HO176 := n1_; have HO183 := n2_; have HO186 := n3_; have HO194 := n4_; have HO197 := n5_; have HO205 := n6_; have HO208 := n7_; have BK163 := n8_; have BK164 := n9_; have BK198 := n10_; have HB := n11_; clear n0_ n1_ n2_ n3_ n4_ n5_ n6_ n7_ n8_ n9_ n10_ n11_; (try clear hb); (try clear hb2); (try clear hk); (try clear hi); (try clear ho0); (try clear ho1)) | ((with_reducible refine gate_dst (N := 8) rfl ?_); refine box_event ?hg (N := 8) ?hd (cs := #[.int .i64 0, .string (⟨#[]⟩ : ByteArray), .string (⟨#[]⟩ : ByteArray), .int .i64 0, .slice none 0 0, .slice none 0 0]) (t := 30) ?hr ?_; (case hd => rfl); (case hg => rfl); (case hr => exact hr_); intro gb209 hg w91 hbox hb; have n0_ := Aside0.mk (Kd.R_below (rk_ HO173) hb); have n1_ := Aside0.mk (Kd.R_below (rk_ HO176) hb); have n2_ := Aside0.mk (Kd.R_below (rk_ HO183) hb); have n3_ := Aside0.mk (Kd.R_below (rk_ HO186) hb); have n4_ := Aside0.mk (Kd.R_below (rk_ HO194) hb); have n5_ := Aside0.mk (Kd.R_below (rk_ HO197) hb); have n6_ := Aside0.mk (Kd.R_below (rk_ HO205) hb); have n7_ := Aside0.mk (Kd.R_below (rk_ HO208) hb); have n8_ := Aside0.mk (blkb_ BK163 hb); have n9_ := Aside0.mk (blkb_ BK164 hb); have n10_ := Aside0.mk (blkb_ BK198 hb); have n11_ := Aside0.mk (below_step bl_ hb); have n12_ := Aside0.mk (hbox); have n13_ := Aside0.mk (gw_ hg bl_); have n14_ := Aside0.mk (gw_ hg bl_); have n15_ := Aside0.mk (gn_ hg (blkl_ BK163)); have n16_ := Aside0.mk (gm_ hg (blkl_ BK163)); have n17_ := Aside0.mk (gn_ hg (blkl_ BK164)); have n18_ := Aside0.mk (gm_ hg (blkl_ BK164)); have n19_ := Aside0.mk (gn_ hg (blkl_ BK198)); have n20_ := Aside0.mk (gm_ hg (blkl_ BK198)); clear HO173; clear HO176; clear HO183; clear HO186; clear HO194; clear HO197; clear HO205; clear HO208; clear BK163; clear BK164; clear BK198; clear HB; have HO173 := n0_; have HO176 := n1_; have HO183 := n2_; have HO186 := n3_; have HO194 := n4_; have HO197 := n5_; have HO205 := n6_; have HO208 := n7_; have BK163 := n8_; have BK164 := n9_; have BK198 := n10_; have HB := n11_; have BK209 := n12_; have GW209 := n13_; have GE209 := n14_; have NB163_209 := n15_; have NB209_163 := n16_; have NB164_209 := n17_; have NB209_164 := n18_; have NB198_209 := n19_; have NB209_198 := n20_; clear n0_ n1_ n2_ n3_ n4_ n5_ n6_ n7_ n8_ n9_ n10_ n11_ n12_ n13_ n14_ n15_ n16_ n17_ n18_ n19_ n20_; clear hb hbox hg; have hnb92 := NB209_163.out; have hnc92 := NB163_209.out; have hnb93 := NB209_164.out; have hnc93 := NB164_209.out; have hnb94 := NB209_198.out; have hnc94 := NB198_209.out; obtain ⟨hcz95_0, hcz95_1, hcz95_2, hcz95_3, hcz95_4, hcz95_5, hfz95_0, hfz95_1, hfz95_2, hfz95_3, hfz95_4, hfz95_5⟩ := cellsF6 BK209.out; obtain ⟨Ao96, co96, eo96⟩ := Kd.R_slice HO205.out; subst eo96; obtain ⟨Ao97, co97, eo97⟩ := Kd.R_slice HO208.out; subst eo97; obtain ⟨hcz98_0, hcz98_1, hcz98_2, hcz98_3, hcz98_4, hcz98_5, hfz98_0, hfz98_1, hfz98_2, hfz98_3, hfz98_4, hfz98_5⟩ := cellsF6 BK198.out) | ((with_reducible refine gate_callee (f := 11) rfl ?_); refine gl_ 31 Try.func11 #[.agg #[.int .i64 t188, .string t189, .string t190, .int .i64 t191, .slice Ao87 t192.length co87, .slice Ao88 t195.length co88], .agg #[.int .i64 t199, .string t200, .string t201, .int .i64 t202, .slice Ao96 t203.length co96, .slice Ao97 t206.length co97]] ?_ rfl rfl rfl rfl; (with_reducible refine (impl_PaperSame.calls k t188 t189 t190 t191 _ _ t192 _ _ t195 t199 t200 t201 t202 _ _ t203 _ _ t206 t210 _ ?side1 ?side2 ?side3 ?side4 ?side5 ?side6 ?side7 ?side8 A24.out).mono ?_); (case side1 => refine (Kd.R_reads' (e := 9) (base := w.heap.size) (ok := fun k_ => (((True ∧ some k_ ≠ (.slice Ao76 t171.length co76 : Value).ownBlock) ∧ some k_ ≠ (.slice Ao78 t181.length co78 : Value).ownBlock) ∧ some k_ ≠ (.slice Ao96 t203.length co96 : Value).ownBlock)) (n := t192.length) (c := co87) ?_).2.2; exact au6_45); (case side2 => exact au6_62); (case side3 => refine (Kd.R_reads' (e := 71) (base := w.heap.size) (ok := fun k_ => (((True ∧ some k_ ≠ (.slice Ao77 t174.length co77 : Value).ownBlock) ∧ some k_ ≠ (.slice Ao79 t184.length co79 : Value).ownBlock) ∧ some k_ ≠ (.slice Ao97 t206.length co97 : Value).ownBlock)) (n := t195.length) (c := co88) ?_).2.2; exact au6_46); (case side4 => exact au6_63); (case side5 => refine (Kd.R_reads' (e := 9) (base := w.heap.size) (ok := fun k_ => (((True ∧ some k_ ≠ (.slice Ao76 t171.length co76 : Value).ownBlock) ∧ some k_ ≠ (.slice Ao78 t181.length co78 : Value).ownBlock) ∧ some k_ ≠ (.slice Ao87 t192.length co87 : Value).ownBlock)) (n := t203.length) (c := co96) ?_).2.2; exact au6_47); (case side6 => exact au6_64); (case side7 => refine (Kd.R_reads' (e := 71) (base := w.heap.size) (ok := fun k_ => (((True ∧ some k_ ≠ (.slice Ao77 t174.length co77 : Value).ownBlock) ∧ some k_ ≠ (.slice Ao79 t184.length co79 : Value).ownBlock) ∧ some k_ ≠ (.slice Ao88 t195.length co88 : Value).ownBlock)) (n := t206.length) (c := co97) ?_).2.2; exact au6_48); (case side8 => exact au6_65); rintro e w99 ⟨rfl, hb⟩; refine ⟨_, rfl, ?_⟩; have n0_ := Aside0.mk (Kd.R_below (by (with_reducible repeat (first | apply Kd.R_alloc | apply Kd.R_drewN | apply Kd.R_drew)); exact (Kd.R_mono (Kd.R_far (p := ⟨gb209, 5, none⟩) (Kd.R_far (p := ⟨gb209, 4, none⟩) (Kd.R_far (p := ⟨gb209, 3, none⟩) (Kd.R_far (p := ⟨gb209, 2, none⟩) (Kd.R_far (p := ⟨gb209, 1, none⟩) (Kd.R_far (p := ⟨gb209, 0, none⟩) (Kd.R_types HO173.out BK209.out (by decide)) (fun _ hk => hk.2) (.int .i64 t199)) (fun _ hk => hk.2) (.string t200)) (fun _ hk => hk.2) (.string t201)) (fun _ hk => hk.2) (.int .i64 t202)) (fun _ hk => hk.2) (.slice Ao96 t203.length co96)) (fun _ hk => hk.2) (.slice Ao97 t206.length co97)) (fun _ h_ => h_.1))) hb); have n1_ := Aside0.mk (Kd.R_below (by (with_reducible repeat (first | apply Kd.R_alloc | apply Kd.R_drewN | apply Kd.R_drew)); exact (Kd.R_mono (Kd.R_far (p := ⟨gb209, 5, none⟩) (Kd.R_far (p := ⟨gb209, 4, none⟩) (Kd.R_far (p := ⟨gb209, 3, none⟩) (Kd.R_far (p := ⟨gb209, 2, none⟩) (Kd.R_far (p := ⟨gb209, 1, none⟩) (Kd.R_far (p := ⟨gb209, 0, none⟩) (Kd.R_types HO176.out BK209.out (by decide)) (fun _ hk => hk.2) (.int .i64 t199)) (fun _ hk => hk.2) (.string t200)) (fun _ hk => hk.2) (.string t201)) (fun _ hk => hk.2) (.int .i64 t202)) (fun _ hk => hk.2) (.slice Ao96 t203.length co96)) (fun _ hk => hk.2) (.slice Ao97 t206.length co97)) (fun _ h_ => h_.1))) hb); have n2_ := Aside0.mk (Kd.R_below (by (with_reducible repeat (first | apply Kd.R_alloc | apply Kd.R_drewN | apply Kd.R_drew)); exact (Kd.R_mono (Kd.R_far (p := ⟨gb209, 5, none⟩) (Kd.R_far (p := ⟨gb209, 4, none⟩) (Kd.R_far (p := ⟨gb209, 3, none⟩) (Kd.R_far (p := ⟨gb209, 2, none⟩) (Kd.R_far (p := ⟨gb209, 1, none⟩) (Kd.R_far (p := ⟨gb209, 0, none⟩) (Kd.R_types HO183.out BK209.out (by decide)) (fun _ hk => hk.2) (.int .i64 t199)) (fun _ hk => hk.2) (.string t200)) (fun _ hk => hk.2) (.string t201)) (fun _ hk => hk.2) (.int .i64 t202)) (fun _ hk => hk.2) (.slice Ao96 t203.length co96)) (fun _ hk => hk.2) (.slice Ao97 t206.length co97)) (fun _ h_ => h_.1))) hb); have n3_ := Aside0.mk (Kd.R_below (by (with_reducible repeat (first | apply Kd.R_alloc | apply Kd.R_drewN | apply Kd.R_drew)); exact (Kd.R_mono (Kd.R_far (p := ⟨gb209, 5, none⟩) (Kd.R_far (p := ⟨gb209, 4, none⟩) (Kd.R_far (p := ⟨gb209, 3, none⟩) (Kd.R_far (p := ⟨gb209, 2, none⟩) (Kd.R_far (p := ⟨gb209, 1, none⟩) (Kd.R_far (p := ⟨gb209, 0, none⟩) (Kd.R_types HO186.out BK209.out (by decide)) (fun _ hk => hk.2) (.int .i64 t199)) (fun _ hk => hk.2) (.string t200)) (fun _ hk => hk.2) (.string t201)) (fun _ hk => hk.2) (.int .i64 t202)) (fun _ hk => hk.2) (.slice Ao96 t203.length co96)) (fun _ hk => hk.2) (.slice Ao97 t206.length co97)) (fun _ h_ => h_.1))) hb); have n4_ := Aside0.mk (Kd.R_below au6_45 hb); have n5_ := Aside0.mk (Kd.R_below au6_46 hb); have n6_ := Aside0.mk (Kd.R_below au6_47 hb); have n7_ := Aside0.mk (Kd.R_below au6_48 hb); have n8_ := Aside0.mk (blk_below (g := gb163) (o := .cells #[.int .i64 a0_0, .string a0_1, .string a0_2, .int .i64 a0_3, .slice A0_4 l0_4.length c0_4, .slice A0_5 l0_5.length c0_5] 25 (0, 0)) au6_2 hb); have n9_ := Aside0.mk (blk_below (g := gb164) (o := .cells #[.int .i64 a1_0, .string a1_1, .string a1_2, .int .i64 a1_3, .slice A1_4 l1_4.length c1_4, .slice A1_5 l1_5.length c1_5] 25 (0, 0)) au6_3 hb); have n10_ := Aside0.mk (blk_below (g := gb198) (o := .cells #[.int .i64 t188, .string t189, .string t190, .int .i64 t191, .slice Ao87 t192.length co87, .slice Ao88 t195.length co88] 30 (0, 0)) au6_4 hb); have n11_ := Aside0.mk (blk_below (g := gb209) (o := .cells #[.int .i64 t199, .string t200, .string t201, .int .i64 t202, .slice Ao96 t203.length co96, .slice Ao97 t206.length co97] 30 (0, 0)) (by (with_reducible repeat (first | refine blk_drewN ?_ _ | refine blk_drew ?_ | refine blk_alloc ?_ _)); refine blk_put (cs := #[.int .i64 t199, .string t200, .string t201, .int .i64 t202, .slice Ao96 t203.length co96, .slice none 0 0]) ?_ 5 _ rfl; (with_reducible repeat (first | refine blk_drewN ?_ _ | refine blk_drew ?_ | refine blk_alloc ?_ _)); refine blk_put (cs := #[.int .i64 t199, .string t200, .string t201, .int .i64 t202, .slice none 0 0, .slice none 0 0]) ?_ 4 _ rfl; (with_reducible repeat (first | refine blk_drewN ?_ _ | refine blk_drew ?_ | refine blk_alloc ?_ _)); refine blk_put (cs := #[.int .i64 t199, .string t200, .string t201, .int .i64 0, .slice none 0 0, .slice none 0 0]) ?_ 3 _ rfl; (with_reducible repeat (first | refine blk_drewN ?_ _ | refine blk_drew ?_ | refine blk_alloc ?_ _)); refine blk_put (cs := #[.int .i64 t199, .string t200, .string (⟨#[]⟩ : ByteArray), .int .i64 0, .slice none 0 0, .slice none 0 0]) ?_ 2 _ rfl; (with_reducible repeat (first | refine blk_drewN ?_ _ | refine blk_drew ?_ | refine blk_alloc ?_ _)); refine blk_put (cs := #[.int .i64 t199, .string (⟨#[]⟩ : ByteArray), .string (⟨#[]⟩ : ByteArray), .int .i64 0, .slice none 0 0, .slice none 0 0]) ?_ 1 _ rfl; (with_reducible repeat (first | refine blk_drewN ?_ _ | refine blk_drew ?_ | refine blk_alloc ?_ _)); refine blk_put (cs := #[.int .i64 0, .string (⟨#[]⟩ : ByteArray), .string (⟨#[]⟩ : ByteArray), .int .i64 0, .slice none 0 0, .slice none 0 0]) ?_ 0 _ rfl; (with_reducible repeat (first | refine blk_drewN ?_ _ | refine blk_drew ?_ | refine blk_alloc ?_ _)); exact BK209.out) hb); have n12_ := Aside0.mk (below_step bl_ hb); clear HO173; clear HO176; clear HO183; clear HO186; clear HO194; clear HO197; clear HO205; clear HO208; clear BK163; clear BK164; clear BK198; clear BK209; clear HB; have HO173 := n0_; have HO176 := n1_; have HO183 := n2_; have HO186 := n3_; have HO194 := n4_; have HO197 := n5_; have HO205 := n6_; have HO208 := n7_; have BK163 := n8_; have BK164 := n9_; have BK198 := n10_; have BK209 := n11_; have HB := n12_; clear n0_ n1_ n2_ n3_ n4_ n5_ n6_ n7_ n8_ n9_ n10_ n11_ n12_; (try clear hb); (try clear hb2); (try clear hk); (try clear hi)))
            have n0_ := Aside0.mk (Kd.R_drew HO173.out)
            have n1_ := Aside0.mk (Kd.R_drew HO176.out)
            have n2_ := Aside0.mk (Kd.R_drew HO183.out)
            have n3_ := Aside0.mk (Kd.R_drew HO186.out)
            have n4_ := Aside0.mk (Kd.R_drew HO194.out)
            have n5_ := Aside0.mk (Kd.R_drew HO197.out)
            have n6_ := Aside0.mk (Kd.R_drew HO205.out)
            have n7_ := Aside0.mk (Kd.R_drew HO208.out)
            have n8_ := Aside0.mk (blk_drew BK163.out)
            have n9_ := Aside0.mk (blk_drew BK164.out)
            have n10_ := Aside0.mk (blk_drew BK198.out)
            have n11_ := Aside0.mk (blk_drew BK209.out)
            have n12_ := Aside0.mk (below_drew1 HB.out)
            clear HO173
            clear HO176
            clear HO183
            clear HO186
            clear HO194
            clear HO197
            clear HO205
            clear HO208
            clear BK163
            clear BK164
            clear BK198
            clear BK209
            clear HB
            have HO173 := n0_
            have HO176 := n1_
            have HO183 := n2_
            have HO186 := n3_
            have HO194 := n4_
            have HO197 := n5_
            have HO205 := n6_
            have HO208 := n7_
            have BK163 := n8_
            have BK164 := n9_
            have BK198 := n10_
            have BK209 := n11_
            have HB := n12_
            clear n0_ n1_ n2_ n3_ n4_ n5_ n6_ n7_ n8_ n9_ n10_ n11_ n12_
            refine start_ (n := 5) (S := fun w' => w'.cell? ⟨gb198, 0, none⟩ = some (.int .i64 t188) ∧ w'.cell? ⟨gb198, 1, none⟩ = some (.string t189) ∧ w'.cell? ⟨gb198, 2, none⟩ = some (.string t190) ∧ w'.cell? ⟨gb198, 3, none⟩ = some (.int .i64 t191) ∧ w'.cell? ⟨gb198, 4, none⟩ = some (.slice Ao87 t192.length co87) ∧ w'.cell? ⟨gb198, 5, none⟩ = some (.slice Ao88 t195.length co88) ∧ w'.cell? ⟨gb163, 0, none⟩ = some (.int .i64 a0_0) ∧ w'.cell? ⟨gb163, 1, none⟩ = some (.string a0_1) ∧ w'.cell? ⟨gb163, 2, none⟩ = some (.string a0_2) ∧ w'.cell? ⟨gb163, 3, none⟩ = some (.int .i64 a0_3) ∧ w'.cell? ⟨gb163, 4, none⟩ = some (.slice A0_4 l0_4.length c0_4) ∧ w'.cell? ⟨gb163, 5, none⟩ = some (.slice A0_5 l0_5.length c0_5)) (ds := []) #[false, false, false, false, false] (by kernel_rfl) rfl rfl ⟨(blk_cell BK198.out 0).trans rfl, (blk_cell BK198.out 1).trans rfl, (blk_cell BK198.out 2).trans rfl, (blk_cell BK198.out 3).trans rfl, (blk_cell BK198.out 4).trans rfl, (blk_cell BK198.out 5).trans rfl, (blk_cell BK163.out 0).trans rfl, (blk_cell BK163.out 1).trans rfl, (blk_cell BK163.out 2).trans rfl, (blk_cell BK163.out 3).trans rfl, (blk_cell BK163.out 4).trans rfl, (blk_cell BK163.out 5).trans rfl⟩ (fun hHeld => ?_)
            generalize w99.drew = w100 at HO173 HO176 HO183 HO186 HO194 HO197 HO205 HO208 BK163 BK164 BK198 BK209 HB hHeld ⊢
            refine take_ (i := 0) (N := some 35) (v := ?_) (a' := ?_) #[true, false, false, false, false] rfl rfl (by kernel_rfl) (fun _ _ _ h => h) (Or.inl ⟨by rfl, ?_⟩) hHeld ?_ ?_
            rotate_left
            · rintro w' ⟨s0, s1, s2, s3, s4, s5, s6, s7, s8, s9, s10, s11⟩
              go_simp
              with_reducible rfl
            rotate_left
            · simp only [Act.put, List.setIfInBounds_toArray, List.set_cons_zero, List.set_cons_succ, i64_w, i32_w]
              rfl
            refine take_ (i := 1) (N := some 36) (v := ?_) (a' := ?_) #[true, true, false, false, false] rfl rfl (by kernel_rfl) (fun _ _ _ h => h) (Or.inl ⟨by rfl, ?_⟩) hHeld ?_ ?_
            rotate_left
            · rintro w' ⟨s0, s1, s2, s3, s4, s5, s6, s7, s8, s9, s10, s11⟩
              go_simp
              with_reducible rfl
            rotate_left
            · simp only [Act.put, List.setIfInBounds_toArray, List.set_cons_zero, List.set_cons_succ, i64_w, i32_w]
              rfl
            refine one_ (i := 2) (N := some 37) #[true, true, true, false, false] rfl rfl (by kernel_rfl) (by decide) (fun K hK => ?_)
            refine gr_ Try.func10 #[.agg #[.int .i64 a0_0, .string a0_1, .string a0_2, .int .i64 a0_3, .slice A0_4 l0_4.length c0_4, .slice A0_5 l0_5.length c0_5]] (by rfl) ?_ rfl rfl rfl
            with_reducible refine (laws_toPaper.calls k a0_0 a0_1 a0_2 a0_3 _ _ l0_4 _ _ l0_5 t211 t212 t213 t214 t215 t218 _ ?side1 ?side2 ?side3 ?side4 A60.out).mono ?_
            (case side1 => exact au6_5)
            (case side2 => exact HC0_4.out)
            (case side3 => exact au6_6)
            (case side4 => exact HC0_5.out)
            rintro e w101 ⟨v216, v219, rfl, ho0, ho1, hb⟩
            refine ⟨_, rfl, ?_⟩
            have n0_ := Aside0.mk (Kd.R_elder' (rk_ HO173) (Kd.R_base ho0) hb)
            have n1_ := Aside0.mk (Kd.R_elder' (rk_ HO176) (Kd.R_base ho1) hb)
            have n2_ := Aside0.mk (Kd.R_elder' (rk_ HO183) (Kd.R_base ho0) hb)
            have n3_ := Aside0.mk (Kd.R_elder' (rk_ HO186) (Kd.R_base ho1) hb)
            have n4_ := Aside0.mk (Kd.R_elder' (rk_ HO194) (Kd.R_base ho0) hb)
            have n5_ := Aside0.mk (Kd.R_elder' (rk_ HO197) (Kd.R_base ho1) hb)
            have n6_ := Aside0.mk (Kd.R_elder' (rk_ HO205) (Kd.R_base ho0) hb)
            have n7_ := Aside0.mk (Kd.R_elder' (rk_ HO208) (Kd.R_base ho1) hb)
            have n8_ := Aside0.mk (Kd.R_lower (Kd.R_new' (Kd.R_new' (Kd.R_new' (Kd.R_new' ho0 (Kd.R_lt (rk_ HO173))) (Kd.R_lt (rk_ HO183))) (Kd.R_lt (rk_ HO194))) (Kd.R_lt (rk_ HO205))) (below_size bl_))
            have n9_ := Aside0.mk (Kd.R_lower (Kd.R_new' (Kd.R_new' (Kd.R_new' (Kd.R_new' ho1 (Kd.R_lt (rk_ HO176))) (Kd.R_lt (rk_ HO186))) (Kd.R_lt (rk_ HO197))) (Kd.R_lt (rk_ HO208))) (below_size bl_))
            have n10_ := Aside0.mk (blkb_ BK163 hb)
            have n11_ := Aside0.mk (blkb_ BK164 hb)
            have n12_ := Aside0.mk (blkb_ BK198 hb)
            have n13_ := Aside0.mk (blkb_ BK209 hb)
            have n14_ := Aside0.mk (below_step bl_ hb)
            clear HO173
            clear HO176
            clear HO183
            clear HO186
            clear HO194
            clear HO197
            clear HO205
            clear HO208
            clear BK163
            clear BK164
            clear BK198
            clear BK209
            clear HB
            have HO173 := n0_
            have HO176 := n1_
            have HO183 := n2_
            have HO186 := n3_
            have HO194 := n4_
            have HO197 := n5_
            have HO205 := n6_
            have HO208 := n7_
            have HO217 := n8_
            have HO220 := n9_
            have BK163 := n10_
            have BK164 := n11_
            have BK198 := n12_
            have BK209 := n13_
            have HB := n14_
            clear n0_ n1_ n2_ n3_ n4_ n5_ n6_ n7_ n8_ n9_ n10_ n11_ n12_ n13_ n14_
            (try clear hb)
            (try clear hb2)
            (try clear hk)
            (try clear hi)
            (try clear ho0)
            (try clear ho1)
            obtain ⟨Ao102, co102, eo102⟩ := Kd.R_slice HO217.out
            (first | subst eo102 | (injection eo102 with f1_ f2_ f3_; have f4_ := f1_.symm; have f5_ := f3_.symm; clear f1_ f2_ f3_; subst f4_; subst f5_))
            obtain ⟨Ao103, co103, eo103⟩ := Kd.R_slice HO220.out
            (first | subst eo103 | (injection eo103 with f1_ f2_ f3_; have f4_ := f1_.symm; have f5_ := f3_.symm; clear f1_ f2_ f3_; subst f4_; subst f5_))
            refine hK.out _ _ ⟨(blk_cell BK198.out 0).trans rfl, (blk_cell BK198.out 1).trans rfl, (blk_cell BK198.out 2).trans rfl, (blk_cell BK198.out 3).trans rfl, (blk_cell BK198.out 4).trans rfl, (blk_cell BK198.out 5).trans rfl, (blk_cell BK163.out 0).trans rfl, (blk_cell BK163.out 1).trans rfl, (blk_cell BK163.out 2).trans rfl, (blk_cell BK163.out 3).trans rfl, (blk_cell BK163.out 4).trans rfl, (blk_cell BK163.out 5).trans rfl⟩ (fun hHeld => ?_)
            clear hK K
            refine norm_ (a' := ?_) ?_ ?_
            rotate_left
            · show Act.put _ (some 37) _ = _
              simp only [Act.put, List.setIfInBounds_toArray, List.set_cons_zero, List.set_cons_succ, i64_w, i32_w]
              rfl
            refine one_ (i := 3) (N := some 38) #[true, true, true, true, false] rfl rfl (by kernel_rfl) (by decide) (fun K hK => ?_)
            refine gr_ Try.func12 #[.agg #[.int .i64 t188, .string t189, .string t190, .int .i64 t191, .slice Ao87 t192.length co87, .slice Ao88 t195.length co88], .agg #[.int .i64 t211, .string t212, .string t213, .int .i64 t214, .slice Ao102 t215.length co102, .slice Ao103 t218.length co103]] (by rfl) ?_ rfl rfl rfl
            with_reducible refine (laws_eqPaper.calls k t188 t189 t190 t191 _ _ t192 _ _ t195 t211 t212 t213 t214 _ _ t215 _ _ t218 true _ ?side1 ?side2 ?side3 ?side4 ?side5 ?side6 ?side7 ?side8 A61.out).mono ?_
            (case side1 => exact au6_54)
            (case side2 => exact au6_62)
            (case side3 => exact au6_55)
            (case side4 => exact au6_63)
            (case side5 => exact au6_56)
            (case side6 => exact (Kd.R_reads' HO217.out).2.1)
            (case side7 => exact au6_57)
            (case side8 => exact (Kd.R_reads' HO220.out).2.1)
            rintro e w104 ⟨rfl, hb⟩
            refine ⟨_, rfl, ?_⟩
            have n0_ := Aside0.mk (Kd.R_below (rk_ HO173) hb)
            have n1_ := Aside0.mk (Kd.R_below (rk_ HO176) hb)
            have n2_ := Aside0.mk (Kd.R_below (rk_ HO183) hb)
            have n3_ := Aside0.mk (Kd.R_below (rk_ HO186) hb)
            have n4_ := Aside0.mk (Kd.R_below (rk_ HO194) hb)
            have n5_ := Aside0.mk (Kd.R_below (rk_ HO197) hb)
            have n6_ := Aside0.mk (Kd.R_below (rk_ HO205) hb)
            have n7_ := Aside0.mk (Kd.R_below (rk_ HO208) hb)
            have n8_ := Aside0.mk (Kd.R_below (rk_ HO217) hb)
            have n9_ := Aside0.mk (Kd.R_below (rk_ HO220) hb)
            have n10_ := Aside0.mk (blkb_ BK163 hb)
            have n11_ := Aside0.mk (blkb_ BK164 hb)
            have n12_ := Aside0.mk (blkb_ BK198 hb)
            have n13_ := Aside0.mk (blkb_ BK209 hb)
            have n14_ := Aside0.mk (below_step bl_ hb)
            clear HO173
            clear HO176
            clear HO183
            clear HO186
            clear HO194
            clear HO197
            clear HO205
            clear HO208
            clear HO217
            clear HO220
            clear BK163
            clear BK164
            clear BK198
            clear BK209
            clear HB
            have HO173 := n0_
            have HO176 := n1_
            have HO183 := n2_
            have HO186 := n3_
            have HO194 := n4_
            have HO197 := n5_
            have HO205 := n6_
            have HO208 := n7_
            have HO217 := n8_
            have HO220 := n9_
            have BK163 := n10_
            have BK164 := n11_
            have BK198 := n12_
            have BK209 := n13_
            have HB := n14_
            clear n0_ n1_ n2_ n3_ n4_ n5_ n6_ n7_ n8_ n9_ n10_ n11_ n12_ n13_ n14_
            (try clear hb)
            (try clear hb2)
            (try clear hk)
            (try clear hi)
            refine hK.out _ _ ⟨(blk_cell BK198.out 0).trans rfl, (blk_cell BK198.out 1).trans rfl, (blk_cell BK198.out 2).trans rfl, (blk_cell BK198.out 3).trans rfl, (blk_cell BK198.out 4).trans rfl, (blk_cell BK198.out 5).trans rfl, (blk_cell BK163.out 0).trans rfl, (blk_cell BK163.out 1).trans rfl, (blk_cell BK163.out 2).trans rfl, (blk_cell BK163.out 3).trans rfl, (blk_cell BK163.out 4).trans rfl, (blk_cell BK163.out 5).trans rfl⟩ (fun hHeld => ?_)
            clear hK K
            refine norm_ (a' := ?_) ?_ ?_
            rotate_left
            · show Act.put _ (some 38) _ = _
              simp only [Act.put, List.setIfInBounds_toArray, List.set_cons_zero, List.set_cons_succ, i64_w, i32_w]
              rfl
            refine pure_ (i := 4) (N := some 39) (v := ?_) (a' := ?_) #[true, true, true, true, true] rfl rfl (by kernel_rfl) (fun _ _ _ h => h) (Or.inl ⟨by rfl, ?_⟩) ?_ ?_
            rotate_left
            · intro w'
              go_simp
              with_reducible rfl
            rotate_left
            · simp only [Act.put, List.setIfInBounds_toArray, List.set_cons_zero, List.set_cons_succ, i64_w, i32_w]
              rfl
            refine done_ (by kernel_rfl) ?_
            try go_wp2
            have n0_ := Aside0.mk (Kd.R_drew HO173.out)
            have n1_ := Aside0.mk (Kd.R_drew HO176.out)
            have n2_ := Aside0.mk (Kd.R_drew HO183.out)
            have n3_ := Aside0.mk (Kd.R_drew HO186.out)
            have n4_ := Aside0.mk (Kd.R_drew HO194.out)
            have n5_ := Aside0.mk (Kd.R_drew HO197.out)
            have n6_ := Aside0.mk (Kd.R_drew HO205.out)
            have n7_ := Aside0.mk (Kd.R_drew HO208.out)
            have n8_ := Aside0.mk (Kd.R_drew HO217.out)
            have n9_ := Aside0.mk (Kd.R_drew HO220.out)
            have n10_ := Aside0.mk (blk_drew BK163.out)
            have n11_ := Aside0.mk (blk_drew BK164.out)
            have n12_ := Aside0.mk (blk_drew BK198.out)
            have n13_ := Aside0.mk (blk_drew BK209.out)
            have n14_ := Aside0.mk (below_drew1 HB.out)
            clear HO173
            clear HO176
            clear HO183
            clear HO186
            clear HO194
            clear HO197
            clear HO205
            clear HO208
            clear HO217
            clear HO220
            clear BK163
            clear BK164
            clear BK198
            clear BK209
            clear HB
            have HO173 := n0_
            have HO176 := n1_
            have HO183 := n2_
            have HO186 := n3_
            have HO194 := n4_
            have HO197 := n5_
            have HO205 := n6_
            have HO208 := n7_
            have HO217 := n8_
            have HO220 := n9_
            have BK163 := n10_
            have BK164 := n11_
            have BK198 := n12_
            have BK209 := n13_
            have HB := n14_
            clear n0_ n1_ n2_ n3_ n4_ n5_ n6_ n7_ n8_ n9_ n10_ n11_ n12_ n13_ n14_
            refine start_ (n := 5) (S := fun w' => w'.cell? ⟨gb209, 0, none⟩ = some (.int .i64 t199) ∧ w'.cell? ⟨gb209, 1, none⟩ = some (.string t200) ∧ w'.cell? ⟨gb209, 2, none⟩ = some (.string t201) ∧ w'.cell? ⟨gb209, 3, none⟩ = some (.int .i64 t202) ∧ w'.cell? ⟨gb209, 4, none⟩ = some (.slice Ao96 t203.length co96) ∧ w'.cell? ⟨gb209, 5, none⟩ = some (.slice Ao97 t206.length co97) ∧ w'.cell? ⟨gb164, 0, none⟩ = some (.int .i64 a1_0) ∧ w'.cell? ⟨gb164, 1, none⟩ = some (.string a1_1) ∧ w'.cell? ⟨gb164, 2, none⟩ = some (.string a1_2) ∧ w'.cell? ⟨gb164, 3, none⟩ = some (.int .i64 a1_3) ∧ w'.cell? ⟨gb164, 4, none⟩ = some (.slice A1_4 l1_4.length c1_4) ∧ w'.cell? ⟨gb164, 5, none⟩ = some (.slice A1_5 l1_5.length c1_5)) (ds := []) #[false, false, false, false, false] (by kernel_rfl) rfl rfl ⟨(blk_cell BK209.out 0).trans rfl, (blk_cell BK209.out 1).trans rfl, (blk_cell BK209.out 2).trans rfl, (blk_cell BK209.out 3).trans rfl, (blk_cell BK209.out 4).trans rfl, (blk_cell BK209.out 5).trans rfl, (blk_cell BK164.out 0).trans rfl, (blk_cell BK164.out 1).trans rfl, (blk_cell BK164.out 2).trans rfl, (blk_cell BK164.out 3).trans rfl, (blk_cell BK164.out 4).trans rfl, (blk_cell BK164.out 5).trans rfl⟩ (fun hHeld => ?_)
            generalize w104.drew = w105 at HO173 HO176 HO183 HO186 HO194 HO197 HO205 HO208 HO217 HO220 BK163 BK164 BK198 BK209 HB hHeld ⊢
            refine take_ (i := 0) (N := some 40) (v := ?_) (a' := ?_) #[true, false, false, false, false] rfl rfl (by kernel_rfl) (fun _ _ _ h => h) (Or.inl ⟨by rfl, ?_⟩) hHeld ?_ ?_
            rotate_left
            · rintro w' ⟨s0, s1, s2, s3, s4, s5, s6, s7, s8, s9, s10, s11⟩
              go_simp
              with_reducible rfl
            rotate_left
            · simp only [Act.put, List.setIfInBounds_toArray, List.set_cons_zero, List.set_cons_succ, i64_w, i32_w]
              rfl
            refine take_ (i := 1) (N := some 41) (v := ?_) (a' := ?_) #[true, true, false, false, false] rfl rfl (by kernel_rfl) (fun _ _ _ h => h) (Or.inl ⟨by rfl, ?_⟩) hHeld ?_ ?_
            rotate_left
            · rintro w' ⟨s0, s1, s2, s3, s4, s5, s6, s7, s8, s9, s10, s11⟩
              go_simp
              with_reducible rfl
            rotate_left
            · simp only [Act.put, List.setIfInBounds_toArray, List.set_cons_zero, List.set_cons_succ, i64_w, i32_w]
              rfl
            refine one_ (i := 2) (N := some 42) #[true, true, true, false, false] rfl rfl (by kernel_rfl) (by decide) (fun K hK => ?_)
            refine gr_ Try.func10 #[.agg #[.int .i64 a1_0, .string a1_1, .string a1_2, .int .i64 a1_3, .slice A1_4 l1_4.length c1_4, .slice A1_5 l1_5.length c1_5]] (by rfl) ?_ rfl rfl rfl
            with_reducible refine (laws_toPaper.calls k a1_0 a1_1 a1_2 a1_3 _ _ l1_4 _ _ l1_5 t222 t223 t224 t225 t226 t229 _ ?side1 ?side2 ?side3 ?side4 A63.out).mono ?_
            (case side1 => exact au6_7)
            (case side2 => exact HC1_4.out)
            (case side3 => exact au6_8)
            (case side4 => exact HC1_5.out)
            rintro e w106 ⟨v227, v230, rfl, ho0, ho1, hb⟩
            refine ⟨_, rfl, ?_⟩
            have n0_ := Aside0.mk (Kd.R_elder' (rk_ HO173) (Kd.R_base ho0) hb)
            have n1_ := Aside0.mk (Kd.R_elder' (rk_ HO176) (Kd.R_base ho1) hb)
            have n2_ := Aside0.mk (Kd.R_elder' (rk_ HO183) (Kd.R_base ho0) hb)
            have n3_ := Aside0.mk (Kd.R_elder' (rk_ HO186) (Kd.R_base ho1) hb)
            have n4_ := Aside0.mk (Kd.R_elder' (rk_ HO194) (Kd.R_base ho0) hb)
            have n5_ := Aside0.mk (Kd.R_elder' (rk_ HO197) (Kd.R_base ho1) hb)
            have n6_ := Aside0.mk (Kd.R_elder' (rk_ HO205) (Kd.R_base ho0) hb)
            have n7_ := Aside0.mk (Kd.R_elder' (rk_ HO208) (Kd.R_base ho1) hb)
            have n8_ := Aside0.mk (Kd.R_elder' (rk_ HO217) (Kd.R_base ho0) hb)
            have n9_ := Aside0.mk (Kd.R_elder' (rk_ HO220) (Kd.R_base ho1) hb)
            have n10_ := Aside0.mk (Kd.R_lower (Kd.R_new' (Kd.R_new' (Kd.R_new' (Kd.R_new' (Kd.R_new' ho0 (Kd.R_lt (rk_ HO173))) (Kd.R_lt (rk_ HO183))) (Kd.R_lt (rk_ HO194))) (Kd.R_lt (rk_ HO205))) (Kd.R_lt (rk_ HO217))) (below_size bl_))
            have n11_ := Aside0.mk (Kd.R_lower (Kd.R_new' (Kd.R_new' (Kd.R_new' (Kd.R_new' (Kd.R_new' ho1 (Kd.R_lt (rk_ HO176))) (Kd.R_lt (rk_ HO186))) (Kd.R_lt (rk_ HO197))) (Kd.R_lt (rk_ HO208))) (Kd.R_lt (rk_ HO220))) (below_size bl_))
            have n12_ := Aside0.mk (blkb_ BK163 hb)
            have n13_ := Aside0.mk (blkb_ BK164 hb)
            have n14_ := Aside0.mk (blkb_ BK198 hb)
            have n15_ := Aside0.mk (blkb_ BK209 hb)
            have n16_ := Aside0.mk (below_step bl_ hb)
            clear HO173
            clear HO176
            clear HO183
            clear HO186
            clear HO194
            clear HO197
            clear HO205
            clear HO208
            clear HO217
            clear HO220
            clear BK163
            clear BK164
            clear BK198
            clear BK209
            clear HB
            have HO173 := n0_
            have HO176 := n1_
            have HO183 := n2_
            have HO186 := n3_
            have HO194 := n4_
            have HO197 := n5_
            have HO205 := n6_
            have HO208 := n7_
            have HO217 := n8_
            have HO220 := n9_
            have HO228 := n10_
            have HO231 := n11_
            have BK163 := n12_
            have BK164 := n13_
            have BK198 := n14_
            have BK209 := n15_
            have HB := n16_
            clear n0_ n1_ n2_ n3_ n4_ n5_ n6_ n7_ n8_ n9_ n10_ n11_ n12_ n13_ n14_ n15_ n16_
            (try clear hb)
            (try clear hb2)
            (try clear hk)
            (try clear hi)
            (try clear ho0)
            (try clear ho1)
            obtain ⟨Ao107, co107, eo107⟩ := Kd.R_slice HO228.out
            (first | subst eo107 | (injection eo107 with f1_ f2_ f3_; have f4_ := f1_.symm; have f5_ := f3_.symm; clear f1_ f2_ f3_; subst f4_; subst f5_))
            obtain ⟨Ao108, co108, eo108⟩ := Kd.R_slice HO231.out
            (first | subst eo108 | (injection eo108 with f1_ f2_ f3_; have f4_ := f1_.symm; have f5_ := f3_.symm; clear f1_ f2_ f3_; subst f4_; subst f5_))
            refine hK.out _ _ ⟨(blk_cell BK209.out 0).trans rfl, (blk_cell BK209.out 1).trans rfl, (blk_cell BK209.out 2).trans rfl, (blk_cell BK209.out 3).trans rfl, (blk_cell BK209.out 4).trans rfl, (blk_cell BK209.out 5).trans rfl, (blk_cell BK164.out 0).trans rfl, (blk_cell BK164.out 1).trans rfl, (blk_cell BK164.out 2).trans rfl, (blk_cell BK164.out 3).trans rfl, (blk_cell BK164.out 4).trans rfl, (blk_cell BK164.out 5).trans rfl⟩ (fun hHeld => ?_)
            clear hK K
            refine norm_ (a' := ?_) ?_ ?_
            rotate_left
            · show Act.put _ (some 42) _ = _
              simp only [Act.put, List.setIfInBounds_toArray, List.set_cons_zero, List.set_cons_succ, i64_w, i32_w]
              rfl
            refine one_ (i := 3) (N := some 43) #[true, true, true, true, false] rfl rfl (by kernel_rfl) (by decide) (fun K hK => ?_)
            refine gr_ Try.func12 #[.agg #[.int .i64 t199, .string t200, .string t201, .int .i64 t202, .slice Ao96 t203.length co96, .slice Ao97 t206.length co97], .agg #[.int .i64 t222, .string t223, .string t224, .int .i64 t225, .slice Ao107 t226.length co107, .slice Ao108 t229.length co108]] (by rfl) ?_ rfl rfl rfl
            with_reducible refine (laws_eqPaper.calls k t199 t200 t201 t202 _ _ t203 _ _ t206 t222 t223 t224 t225 _ _ t226 _ _ t229 true _ ?side1 ?side2 ?side3 ?side4 ?side5 ?side6 ?side7 ?side8 A64.out).mono ?_
            (case side1 => exact au6_58)
            (case side2 => exact au6_64)
            (case side3 => exact au6_59)
            (case side4 => exact au6_65)
            (case side5 => exact au6_60)
            (case side6 => exact (Kd.R_reads' HO228.out).2.1)
            (case side7 => exact au6_61)
            (case side8 => exact (Kd.R_reads' HO231.out).2.1)
            rintro e w109 ⟨rfl, hb⟩
            refine ⟨_, rfl, ?_⟩
            have n0_ := Aside0.mk (Kd.R_below (rk_ HO173) hb)
            have n1_ := Aside0.mk (Kd.R_below (rk_ HO176) hb)
            have n2_ := Aside0.mk (Kd.R_below (rk_ HO183) hb)
            have n3_ := Aside0.mk (Kd.R_below (rk_ HO186) hb)
            have n4_ := Aside0.mk (Kd.R_below (rk_ HO194) hb)
            have n5_ := Aside0.mk (Kd.R_below (rk_ HO197) hb)
            have n6_ := Aside0.mk (Kd.R_below (rk_ HO205) hb)
            have n7_ := Aside0.mk (Kd.R_below (rk_ HO208) hb)
            have n8_ := Aside0.mk (Kd.R_below (rk_ HO217) hb)
            have n9_ := Aside0.mk (Kd.R_below (rk_ HO220) hb)
            have n10_ := Aside0.mk (Kd.R_below (rk_ HO228) hb)
            have n11_ := Aside0.mk (Kd.R_below (rk_ HO231) hb)
            have n12_ := Aside0.mk (blkb_ BK163 hb)
            have n13_ := Aside0.mk (blkb_ BK164 hb)
            have n14_ := Aside0.mk (blkb_ BK198 hb)
            have n15_ := Aside0.mk (blkb_ BK209 hb)
            have n16_ := Aside0.mk (below_step bl_ hb)
            clear HO173
            clear HO176
            clear HO183
            clear HO186
            clear HO194
            clear HO197
            clear HO205
            clear HO208
            clear HO217
            clear HO220
            clear HO228
            clear HO231
            clear BK163
            clear BK164
            clear BK198
            clear BK209
            clear HB
            have HO173 := n0_
            have HO176 := n1_
            have HO183 := n2_
            have HO186 := n3_
            have HO194 := n4_
            have HO197 := n5_
            have HO205 := n6_
            have HO208 := n7_
            have HO217 := n8_
            have HO220 := n9_
            have HO228 := n10_
            have HO231 := n11_
            have BK163 := n12_
            have BK164 := n13_
            have BK198 := n14_
            have BK209 := n15_
            have HB := n16_
            clear n0_ n1_ n2_ n3_ n4_ n5_ n6_ n7_ n8_ n9_ n10_ n11_ n12_ n13_ n14_ n15_ n16_
            (try clear hb)
            (try clear hb2)
            (try clear hk)
            (try clear hi)
            refine hK.out _ _ ⟨(blk_cell BK209.out 0).trans rfl, (blk_cell BK209.out 1).trans rfl, (blk_cell BK209.out 2).trans rfl, (blk_cell BK209.out 3).trans rfl, (blk_cell BK209.out 4).trans rfl, (blk_cell BK209.out 5).trans rfl, (blk_cell BK164.out 0).trans rfl, (blk_cell BK164.out 1).trans rfl, (blk_cell BK164.out 2).trans rfl, (blk_cell BK164.out 3).trans rfl, (blk_cell BK164.out 4).trans rfl, (blk_cell BK164.out 5).trans rfl⟩ (fun hHeld => ?_)
            clear hK K
            refine norm_ (a' := ?_) ?_ ?_
            rotate_left
            · show Act.put _ (some 43) _ = _
              simp only [Act.put, List.setIfInBounds_toArray, List.set_cons_zero, List.set_cons_succ, i64_w, i32_w]
              rfl
            refine pure_ (i := 4) (N := some 44) (v := ?_) (a' := ?_) #[true, true, true, true, true] rfl rfl (by kernel_rfl) (fun _ _ _ h => h) (Or.inl ⟨by rfl, ?_⟩) ?_ ?_
            rotate_left
            · intro w'
              go_simp
              with_reducible rfl
            rotate_left
            · simp only [Act.put, List.setIfInBounds_toArray, List.set_cons_zero, List.set_cons_succ, i64_w, i32_w]
              rfl
            refine done_ (by kernel_rfl) ?_
            try go_wp2
            go_ret
            exact ⟨au6_53, bl_⟩
          · replace c65 := Bool.eq_false_iff.mpr c65
            subst c65
            have H1 : (some false) = some r := by rw [if_neg (show ¬ (false = true) by decide)] at H; exact H
            clear H
            have H := H1
            clear H1
            obtain rfl := Option.some.inj H
            go_enter Try.func3, Try.ntmps3
            try go_wp2_with (first | ((with_reducible refine gate_dst (N := 2) rfl ?_); refine box_event ?hg (N := 2) ?hd (cs := #[.int .i64 a0_0, .string a0_1, .string a0_2, .int .i64 a0_3, .slice A0_4 l0_4.length c0_4, .slice A0_5 l0_5.length c0_5]) (t := 25) ?hr ?_; (case hd => rfl); (case hg => rfl); (case hr => exact hr_); intro gb163 hg w110 hbox hb; have n0_ := Aside0.mk (below_step bl_ hb); have n1_ := Aside0.mk (hbox); have n2_ := Aside0.mk (gw_ hg bl_); have n3_ := Aside0.mk (gw_ hg bl_); clear HB; have HB := n0_; have BK163 := n1_; have GW163 := n2_; have GE163 := n3_; clear n0_ n1_ n2_ n3_; clear hb hbox hg) | ((with_reducible refine gate_dst (N := 3) rfl ?_); refine box_event ?hg (N := 3) ?hd (cs := #[.int .i64 a1_0, .string a1_1, .string a1_2, .int .i64 a1_3, .slice A1_4 l1_4.length c1_4, .slice A1_5 l1_5.length c1_5]) (t := 25) ?hr ?_; (case hd => rfl); (case hg => rfl); (case hr => exact hr_); intro gb164 hg w111 hbox hb; have n0_ := Aside0.mk (blkb_ BK163 hb); have n1_ := Aside0.mk (below_step bl_ hb); have n2_ := Aside0.mk (hbox); have n3_ := Aside0.mk (gw_ hg bl_); have n4_ := Aside0.mk (gw_ hg bl_); have n5_ := Aside0.mk (gn_ hg (blkl_ BK163)); have n6_ := Aside0.mk (gm_ hg (blkl_ BK163)); clear BK163; clear HB; have BK163 := n0_; have HB := n1_; have BK164 := n2_; have GW164 := n3_; have GE164 := n4_; have NB163_164 := n5_; have NB164_163 := n6_; clear n0_ n1_ n2_ n3_ n4_ n5_ n6_; clear hb hbox hg; have hnb112 := NB163_164.out; have hnc112 := NB164_163.out; obtain ⟨hcz113_0, hcz113_1, hcz113_2, hcz113_3, hcz113_4, hcz113_5, hfz113_0, hfz113_1, hfz113_2, hfz113_3, hfz113_4, hfz113_5⟩ := cellsF6 BK163.out) | ((with_reducible refine gate_callee (f := 8) rfl ?_); refine gl_ 12 Try.func8 #[.agg #[.int .i64 a0_0, .string a0_1, .string a0_2, .int .i64 a0_3, .slice A0_4 l0_4.length c0_4, .slice A0_5 l0_5.length c0_5], .int .i64 1048576] ?_ rfl rfl rfl rfl; (with_reducible refine (laws_szPaper.calls k a0_0 a0_1 a0_2 a0_3 _ _ l0_4 _ _ l0_5 1048576 t165 _ ?side1 ?side2 ?side3 ?side4 A3.out).mono ?_); (case side1 => exact au6_5); (case side2 => exact HC0_4.out); (case side3 => exact au6_6); (case side4 => exact HC0_5.out); rintro e w114 ⟨rfl, hb⟩; refine ⟨_, rfl, ?_⟩; have n0_ := Aside0.mk (blkb_ BK163 hb); have n1_ := Aside0.mk (blkb_ BK164 hb); have n2_ := Aside0.mk (below_step bl_ hb); clear BK163; clear BK164; clear HB; have BK163 := n0_; have BK164 := n1_; have HB := n2_; clear n0_ n1_ n2_; (try clear hb); (try clear hb2); (try clear hk); (try clear hi); obtain ⟨hcz115_0, hcz115_1, hcz115_2, hcz115_3, hcz115_4, hcz115_5, hfz115_0, hfz115_1, hfz115_2, hfz115_3, hfz115_4, hfz115_5⟩ := cellsF6 BK164.out) | ((with_reducible refine gate_callee (f := 8) rfl ?_); refine gl_ 17 Try.func8 #[.agg #[.int .i64 a1_0, .string a1_1, .string a1_2, .int .i64 a1_3, .slice A1_4 l1_4.length c1_4, .slice A1_5 l1_5.length c1_5], .int .i64 t165] ?_ rfl rfl rfl rfl; (with_reducible refine (laws_szPaper.calls k a1_0 a1_1 a1_2 a1_3 _ _ l1_4 _ _ l1_5 t165 t166 _ ?side1 ?side2 ?side3 ?side4 A10.out).mono ?_); (case side1 => exact au6_7); (case side2 => exact HC1_4.out); (case side3 => exact au6_8); (case side4 => exact HC1_5.out); rintro e w116 ⟨rfl, hb⟩; refine ⟨_, rfl, ?_⟩; have n0_ := Aside0.mk (blkb_ BK163 hb); have n1_ := Aside0.mk (blkb_ BK164 hb); have n2_ := Aside0.mk (below_step bl_ hb); clear BK163; clear BK164; clear HB; have BK163 := n0_; have BK164 := n1_; have HB := n2_; clear n0_ n1_ n2_; (try clear hb); (try clear hb2); (try clear hk); (try clear hi)))
            have n0_ := Aside0.mk (blk_drew BK163.out)
            have n1_ := Aside0.mk (blk_drew BK164.out)
            have n2_ := Aside0.mk (below_drew1 HB.out)
            clear BK163
            clear BK164
            clear HB
            have BK163 := n0_
            have BK164 := n1_
            have HB := n2_
            clear n0_ n1_ n2_
            refine start_ (n := 6) (S := fun w' => w'.cell? ⟨gb163, 0, none⟩ = some (.int .i64 a0_0) ∧ w'.cell? ⟨gb163, 1, none⟩ = some (.string a0_1) ∧ w'.cell? ⟨gb163, 2, none⟩ = some (.string a0_2) ∧ w'.cell? ⟨gb163, 3, none⟩ = some (.int .i64 a0_3) ∧ w'.cell? ⟨gb163, 4, none⟩ = some (.slice A0_4 l0_4.length c0_4) ∧ w'.cell? ⟨gb163, 5, none⟩ = some (.slice A0_5 l0_5.length c0_5) ∧ w'.cell? ⟨gb164, 0, none⟩ = some (.int .i64 a1_0) ∧ w'.cell? ⟨gb164, 1, none⟩ = some (.string a1_1) ∧ w'.cell? ⟨gb164, 2, none⟩ = some (.string a1_2) ∧ w'.cell? ⟨gb164, 3, none⟩ = some (.int .i64 a1_3) ∧ w'.cell? ⟨gb164, 4, none⟩ = some (.slice A1_4 l1_4.length c1_4) ∧ w'.cell? ⟨gb164, 5, none⟩ = some (.slice A1_5 l1_5.length c1_5)) (ds := []) (bs 6 0) (by kernel_rfl) rfl rfl ⟨(blk_cell BK163.out 0).trans rfl, (blk_cell BK163.out 1).trans rfl, (blk_cell BK163.out 2).trans rfl, (blk_cell BK163.out 3).trans rfl, (blk_cell BK163.out 4).trans rfl, (blk_cell BK163.out 5).trans rfl, (blk_cell BK164.out 0).trans rfl, (blk_cell BK164.out 1).trans rfl, (blk_cell BK164.out 2).trans rfl, (blk_cell BK164.out 3).trans rfl, (blk_cell BK164.out 4).trans rfl, (blk_cell BK164.out 5).trans rfl⟩ (fun hHeld => ?_)
            generalize w116.drew = w117 at BK163 BK164 HB hHeld ⊢
            refine take_ (i := 0) (N := some 20) (v := ?_) (a' := ?_) (bs 6 1) rfl rfl (by kernel_rfl) (fun _ _ _ h => h) (Or.inl ⟨by rfl, ?_⟩) hHeld ?_ ?_
            rotate_left
            · rintro w' ⟨s0, s1, s2, s3, s4, s5, s6, s7, s8, s9, s10, s11⟩
              go_simp
              with_reducible rfl
            rotate_left
            · simp only [Act.put, List.setIfInBounds_toArray, List.set_cons_zero, List.set_cons_succ, i64_w, i32_w]
              rfl
            refine take_ (i := 2) (N := some 22) (v := ?_) (a' := ?_) (bs 6 5) rfl rfl (by kernel_rfl) (fun _ _ _ h => h) (Or.inl ⟨by rfl, ?_⟩) hHeld ?_ ?_
            rotate_left
            · rintro w' ⟨s0, s1, s2, s3, s4, s5, s6, s7, s8, s9, s10, s11⟩
              go_simp
              with_reducible rfl
            rotate_left
            · simp only [Act.put, List.setIfInBounds_toArray, List.set_cons_zero, List.set_cons_succ, i64_w, i32_w]
              rfl
            refine one_ (i := 1) (N := some 21) (bs 6 7) rfl rfl (by kernel_rfl) (by decide) (fun K hK => ?_)
            refine gr_ Try.func10 #[.agg #[.int .i64 a0_0, .string a0_1, .string a0_2, .int .i64 a0_3, .slice A0_4 l0_4.length c0_4, .slice A0_5 l0_5.length c0_5]] (by rfl) ?_ rfl rfl rfl
            with_reducible refine (laws_toPaper.calls k a0_0 a0_1 a0_2 a0_3 _ _ l0_4 _ _ l0_5 t167 t168 t169 t170 t171 t174 _ ?side1 ?side2 ?side3 ?side4 A19.out).mono ?_
            (case side1 => exact au6_5)
            (case side2 => exact HC0_4.out)
            (case side3 => exact au6_6)
            (case side4 => exact HC0_5.out)
            rintro e w118 ⟨v172, v175, rfl, ho0, ho1, hb⟩
            refine ⟨_, rfl, ?_⟩
            have n0_ := Aside0.mk (Kd.R_lower ho0 (below_size bl_))
            have n1_ := Aside0.mk (Kd.R_lower ho1 (below_size bl_))
            have n2_ := Aside0.mk (blkb_ BK163 hb)
            have n3_ := Aside0.mk (blkb_ BK164 hb)
            have n4_ := Aside0.mk (below_step bl_ hb)
            clear BK163
            clear BK164
            clear HB
            have HO173 := n0_
            have HO176 := n1_
            have BK163 := n2_
            have BK164 := n3_
            have HB := n4_
            clear n0_ n1_ n2_ n3_ n4_
            (try clear hb)
            (try clear hb2)
            (try clear hk)
            (try clear hi)
            (try clear ho0)
            (try clear ho1)
            refine hK.out _ _ ⟨(blk_cell BK163.out 0).trans rfl, (blk_cell BK163.out 1).trans rfl, (blk_cell BK163.out 2).trans rfl, (blk_cell BK163.out 3).trans rfl, (blk_cell BK163.out 4).trans rfl, (blk_cell BK163.out 5).trans rfl, (blk_cell BK164.out 0).trans rfl, (blk_cell BK164.out 1).trans rfl, (blk_cell BK164.out 2).trans rfl, (blk_cell BK164.out 3).trans rfl, (blk_cell BK164.out 4).trans rfl, (blk_cell BK164.out 5).trans rfl⟩ (fun hHeld => ?_)
            clear hK K
            refine norm_ (a' := ?_) ?_ ?_
            rotate_left
            · show Act.put _ (some 21) _ = _
              simp only [Act.put, List.setIfInBounds_toArray, List.set_cons_zero, List.set_cons_succ, i64_w, i32_w]
              rfl
            refine one_ (i := 3) (N := some 23) (bs 6 15) rfl rfl (by kernel_rfl) (by decide) (fun K hK => ?_)
            refine gr_ Try.func10 #[.agg #[.int .i64 a1_0, .string a1_1, .string a1_2, .int .i64 a1_3, .slice A1_4 l1_4.length c1_4, .slice A1_5 l1_5.length c1_5]] (by rfl) ?_ rfl rfl rfl
            with_reducible refine (laws_toPaper.calls k a1_0 a1_1 a1_2 a1_3 _ _ l1_4 _ _ l1_5 t177 t178 t179 t180 t181 t184 _ ?side1 ?side2 ?side3 ?side4 A20.out).mono ?_
            (case side1 => exact au6_7)
            (case side2 => exact HC1_4.out)
            (case side3 => exact au6_8)
            (case side4 => exact HC1_5.out)
            rintro e w119 ⟨v182, v185, rfl, ho0, ho1, hb⟩
            refine ⟨_, rfl, ?_⟩
            have n0_ := Aside0.mk (Kd.R_elder' (rk_ HO173) (Kd.R_base ho0) hb)
            have n1_ := Aside0.mk (Kd.R_elder' (rk_ HO176) (Kd.R_base ho1) hb)
            have n2_ := Aside0.mk (Kd.R_lower (Kd.R_new' ho0 (Kd.R_lt (rk_ HO173))) (below_size bl_))
            have n3_ := Aside0.mk (Kd.R_lower (Kd.R_new' ho1 (Kd.R_lt (rk_ HO176))) (below_size bl_))
            have n4_ := Aside0.mk (blkb_ BK163 hb)
            have n5_ := Aside0.mk (blkb_ BK164 hb)
            have n6_ := Aside0.mk (below_step bl_ hb)
            clear HO173
            clear HO176
            clear BK163
            clear BK164
            clear HB
            have HO173 := n0_
            have HO176 := n1_
            have HO183 := n2_
            have HO186 := n3_
            have BK163 := n4_
            have BK164 := n5_
            have HB := n6_
            clear n0_ n1_ n2_ n3_ n4_ n5_ n6_
            (try clear hb)
            (try clear hb2)
            (try clear hk)
            (try clear hi)
            (try clear ho0)
            (try clear ho1)
            obtain ⟨Ao120, co120, eo120⟩ := Kd.R_slice HO173.out
            (first | subst eo120 | (injection eo120 with f1_ f2_ f3_; have f4_ := f1_.symm; have f5_ := f3_.symm; clear f1_ f2_ f3_; subst f4_; subst f5_))
            obtain ⟨Ao121, co121, eo121⟩ := Kd.R_slice HO176.out
            (first | subst eo121 | (injection eo121 with f1_ f2_ f3_; have f4_ := f1_.symm; have f5_ := f3_.symm; clear f1_ f2_ f3_; subst f4_; subst f5_))
            obtain ⟨Ao122, co122, eo122⟩ := Kd.R_slice HO183.out
            (first | subst eo122 | (injection eo122 with f1_ f2_ f3_; have f4_ := f1_.symm; have f5_ := f3_.symm; clear f1_ f2_ f3_; subst f4_; subst f5_))
            obtain ⟨Ao123, co123, eo123⟩ := Kd.R_slice HO186.out
            (first | subst eo123 | (injection eo123 with f1_ f2_ f3_; have f4_ := f1_.symm; have f5_ := f3_.symm; clear f1_ f2_ f3_; subst f4_; subst f5_))
            refine hK.out _ _ ⟨(blk_cell BK163.out 0).trans rfl, (blk_cell BK163.out 1).trans rfl, (blk_cell BK163.out 2).trans rfl, (blk_cell BK163.out 3).trans rfl, (blk_cell BK163.out 4).trans rfl, (blk_cell BK163.out 5).trans rfl, (blk_cell BK164.out 0).trans rfl, (blk_cell BK164.out 1).trans rfl, (blk_cell BK164.out 2).trans rfl, (blk_cell BK164.out 3).trans rfl, (blk_cell BK164.out 4).trans rfl, (blk_cell BK164.out 5).trans rfl⟩ (fun hHeld => ?_)
            clear hK K
            refine norm_ (a' := ?_) ?_ ?_
            rotate_left
            · show Act.put _ (some 23) _ = _
              simp only [Act.put, List.setIfInBounds_toArray, List.set_cons_zero, List.set_cons_succ, i64_w, i32_w]
              rfl
            refine one_ (i := 4) (N := some 24) (bs 6 31) rfl rfl (by kernel_rfl) (by decide) (fun K hK => ?_)
            refine gr_ Try.func9 #[.agg #[.int .i64 t167, .string t168, .string t169, .int .i64 t170, .slice Ao120 t171.length co120, .slice Ao121 t174.length co121], .agg #[.int .i64 t177, .string t178, .string t179, .int .i64 t180, .slice Ao122 t181.length co122, .slice Ao123 t184.length co123]] (by rfl) ?_ rfl rfl rfl
            with_reducible refine (spec_PaperSame.calls k t167 t168 t169 t170 _ _ t171 _ _ t174 t177 t178 t179 t180 _ _ t181 _ _ t184 t187 _ ?side1 ?side2 ?side3 ?side4 ?side5 ?side6 ?side7 ?side8 A21.out).mono ?_
            (case side1 => exact au6_49)
            (case side2 => exact au6_66)
            (case side3 => exact au6_50)
            (case side4 => exact au6_67)
            (case side5 => exact au6_51)
            (case side6 => exact au6_68)
            (case side7 => exact au6_52)
            (case side8 => exact au6_69)
            rintro e w124 ⟨rfl, hb⟩
            refine ⟨_, rfl, ?_⟩
            have n0_ := Aside0.mk (Kd.R_below (rk_ HO173) hb)
            have n1_ := Aside0.mk (Kd.R_below (rk_ HO176) hb)
            have n2_ := Aside0.mk (Kd.R_below (rk_ HO183) hb)
            have n3_ := Aside0.mk (Kd.R_below (rk_ HO186) hb)
            have n4_ := Aside0.mk (blkb_ BK163 hb)
            have n5_ := Aside0.mk (blkb_ BK164 hb)
            have n6_ := Aside0.mk (below_step bl_ hb)
            clear HO173
            clear HO176
            clear HO183
            clear HO186
            clear BK163
            clear BK164
            clear HB
            have HO173 := n0_
            have HO176 := n1_
            have HO183 := n2_
            have HO186 := n3_
            have BK163 := n4_
            have BK164 := n5_
            have HB := n6_
            clear n0_ n1_ n2_ n3_ n4_ n5_ n6_
            (try clear hb)
            (try clear hb2)
            (try clear hk)
            (try clear hi)
            refine hK.out _ _ ⟨(blk_cell BK163.out 0).trans rfl, (blk_cell BK163.out 1).trans rfl, (blk_cell BK163.out 2).trans rfl, (blk_cell BK163.out 3).trans rfl, (blk_cell BK163.out 4).trans rfl, (blk_cell BK163.out 5).trans rfl, (blk_cell BK164.out 0).trans rfl, (blk_cell BK164.out 1).trans rfl, (blk_cell BK164.out 2).trans rfl, (blk_cell BK164.out 3).trans rfl, (blk_cell BK164.out 4).trans rfl, (blk_cell BK164.out 5).trans rfl⟩ (fun hHeld => ?_)
            clear hK K
            refine norm_ (a' := ?_) ?_ ?_
            rotate_left
            · show Act.put _ (some 24) _ = _
              simp only [Act.put, List.setIfInBounds_toArray, List.set_cons_zero, List.set_cons_succ, i64_w, i32_w]
              rfl
            refine pure_ (i := 5) (N := some 6) (v := ?_) (a' := ?_) (bs 6 63) rfl rfl (by kernel_rfl) (fun _ _ _ h => h) (Or.inl ⟨by rfl, ?_⟩) ?_ ?_
            rotate_left
            · intro w'
              go_simp
              with_reducible rfl
            rotate_left
            · simp only [Act.put, List.setIfInBounds_toArray, List.set_cons_zero, List.set_cons_succ, i64_w, i32_w]
              rfl
            refine done_ (by kernel_rfl) ?_
            obtain ⟨hcz125_0, hcz125_1, hcz125_2, hcz125_3, hcz125_4, hcz125_5, hfz125_0, hfz125_1, hfz125_2, hfz125_3, hfz125_4, hfz125_5⟩ := cellsF6 BK163.out
            try go_wp2_with (first | ((with_reducible refine gate_callee (f := 10) rfl ?_); refine gl_ 26 Try.func10 #[.agg #[.int .i64 a0_0, .string a0_1, .string a0_2, .int .i64 a0_3, .slice A0_4 l0_4.length c0_4, .slice A0_5 l0_5.length c0_5]] ?_ rfl rfl rfl rfl; (with_reducible refine (laws_toPaper.calls k a0_0 a0_1 a0_2 a0_3 _ _ l0_4 _ _ l0_5 t188 t189 t190 t191 t192 t195 _ ?side1 ?side2 ?side3 ?side4 A22.out).mono ?_); (case side1 => exact au6_5); (case side2 => exact HC0_4.out); (case side3 => exact au6_6); (case side4 => exact HC0_5.out); rintro e w126 ⟨v193, v196, rfl, ho0, ho1, hb⟩; refine ⟨_, rfl, ?_⟩; have n0_ := Aside0.mk (Kd.R_elder' (rk_ HO173) (Kd.R_base ho0) hb); have n1_ := Aside0.mk (Kd.R_elder' (rk_ HO176) (Kd.R_base ho1) hb); have n2_ := Aside0.mk (Kd.R_elder' (rk_ HO183) (Kd.R_base ho0) hb); have n3_ := Aside0.mk (Kd.R_elder' (rk_ HO186) (Kd.R_base ho1) hb); have n4_ := Aside0.mk (Kd.R_lower (Kd.R_new' (Kd.R_new' ho0 (Kd.R_lt (rk_ HO173))) (Kd.R_lt (rk_ HO183))) (below_size bl_)); have n5_ := Aside0.mk (Kd.R_lower (Kd.R_new' (Kd.R_new' ho1 (Kd.R_lt (rk_ HO176))) (Kd.R_lt (rk_ HO186))) (below_size bl_)); have n6_ := Aside0.mk (blkb_ BK163 hb); have n7_ := Aside0.mk (blkb_ BK164 hb); have n8_ := Aside0.mk (below_step bl_ hb); clear HO173; clear HO176; clear HO183; clear HO186; clear BK163; clear BK164; clear HB; have HO173 := n0_; have HO176 := n1_; have HO183 := n2_; have HO186 := n3_; have HO194 := n4_; have HO197 := n5_; have BK163 := n6_; have BK164 := n7_; have HB := n8_; clear n0_ n1_ n2_ n3_ n4_ n5_ n6_ n7_ n8_; (try clear hb); (try clear hb2); (try clear hk); (try clear hi); (try clear ho0); (try clear ho1)) | ((with_reducible refine gate_dst (N := 7) rfl ?_); refine box_event ?hg (N := 7) ?hd (cs := #[.int .i64 0, .string (⟨#[]⟩ : ByteArray), .string (⟨#[]⟩ : ByteArray), .int .i64 0, .slice none 0 0, .slice none 0 0]) (t := 30) ?hr ?_; (case hd => rfl); (case hg => rfl); (case hr => exact hr_); intro gb198 hg w127 hbox hb; have n0_ := Aside0.mk (Kd.R_below (rk_ HO173) hb); have n1_ := Aside0.mk (Kd.R_below (rk_ HO176) hb); have n2_ := Aside0.mk (Kd.R_below (rk_ HO183) hb); have n3_ := Aside0.mk (Kd.R_below (rk_ HO186) hb); have n4_ := Aside0.mk (Kd.R_below (rk_ HO194) hb); have n5_ := Aside0.mk (Kd.R_below (rk_ HO197) hb); have n6_ := Aside0.mk (blkb_ BK163 hb); have n7_ := Aside0.mk (blkb_ BK164 hb); have n8_ := Aside0.mk (below_step bl_ hb); have n9_ := Aside0.mk (hbox); have n10_ := Aside0.mk (gw_ hg bl_); have n11_ := Aside0.mk (gw_ hg bl_); have n12_ := Aside0.mk (gn_ hg (blkl_ BK163)); have n13_ := Aside0.mk (gm_ hg (blkl_ BK163)); have n14_ := Aside0.mk (gn_ hg (blkl_ BK164)); have n15_ := Aside0.mk (gm_ hg (blkl_ BK164)); clear HO173; clear HO176; clear HO183; clear HO186; clear HO194; clear HO197; clear BK163; clear BK164; clear HB; have HO173 := n0_; have HO176 := n1_; have HO183 := n2_; have HO186 := n3_; have HO194 := n4_; have HO197 := n5_; have BK163 := n6_; have BK164 := n7_; have HB := n8_; have BK198 := n9_; have GW198 := n10_; have GE198 := n11_; have NB163_198 := n12_; have NB198_163 := n13_; have NB164_198 := n14_; have NB198_164 := n15_; clear n0_ n1_ n2_ n3_ n4_ n5_ n6_ n7_ n8_ n9_ n10_ n11_ n12_ n13_ n14_ n15_; clear hb hbox hg; have hnb128 := NB198_163.out; have hnc128 := NB163_198.out; have hnb129 := NB198_164.out; have hnc129 := NB164_198.out; obtain ⟨hcz130_0, hcz130_1, hcz130_2, hcz130_3, hcz130_4, hcz130_5, hfz130_0, hfz130_1, hfz130_2, hfz130_3, hfz130_4, hfz130_5⟩ := cellsF6 BK198.out; obtain ⟨Ao131, co131, eo131⟩ := Kd.R_slice HO194.out; subst eo131; obtain ⟨Ao132, co132, eo132⟩ := Kd.R_slice HO197.out; subst eo132; obtain ⟨hcz133_0, hcz133_1, hcz133_2, hcz133_3, hcz133_4, hcz133_5, hfz133_0, hfz133_1, hfz133_2, hfz133_3, hfz133_4, hfz133_5⟩ := cellsF6 BK164.out) | ((with_reducible refine gate_callee (f := 10) rfl ?_); refine gl_ 28 Try.func10 #[.agg #[.int .i64 a1_0, .string a1_1, .string a1_2, .int .i64 a1_3, .slice A1_4 l1_4.length c1_4, .slice A1_5 l1_5.length c1_5]] ?_ rfl rfl rfl rfl; (with_reducible refine (laws_toPaper.calls k a1_0 a1_1 a1_2 a1_3 _ _ l1_4 _ _ l1_5 t199 t200 t201 t202 t203 t206 _ ?side1 ?side2 ?side3 ?side4 A23.out).mono ?_); (case side1 => exact au6_70); (case side2 => exact HC1_4.out); (case side3 => exact au6_71); (case side4 => exact HC1_5.out); rintro e w134 ⟨v204, v207, rfl, ho0, ho1, hb⟩; refine ⟨_, rfl, ?_⟩; have n0_ := Aside0.mk (Kd.R_elder' au6_9 (Kd.R_base ho0) hb); have n1_ := Aside0.mk (Kd.R_elder' au6_10 (Kd.R_base ho1) hb); have n2_ := Aside0.mk (Kd.R_elder' au6_11 (Kd.R_base ho0) hb); have n3_ := Aside0.mk (Kd.R_elder' au6_12 (Kd.R_base ho1) hb); have n4_ := Aside0.mk (Kd.R_elder' au6_13 (Kd.R_base ho0) hb); have n5_ := Aside0.mk (Kd.R_elder' au6_14 (Kd.R_base ho1) hb); have n6_ := Aside0.mk (Kd.R_lower (Kd.R_new' (Kd.R_new' (Kd.R_new' ho0 (Kd.R_lt au6_9)) (Kd.R_lt au6_11)) (Kd.R_lt au6_13)) (below_size bl_)); have n7_ := Aside0.mk (Kd.R_lower (Kd.R_new' (Kd.R_new' (Kd.R_new' ho1 (Kd.R_lt au6_10)) (Kd.R_lt au6_12)) (Kd.R_lt au6_14)) (below_size bl_)); have n8_ := Aside0.mk (blk_below (g := gb163) (o := .cells #[.int .i64 a0_0, .string a0_1, .string a0_2, .int .i64 a0_3, .slice A0_4 l0_4.length c0_4, .slice A0_5 l0_5.length c0_5] 25 (0, 0)) au6_0 hb); have n9_ := Aside0.mk (blk_below (g := gb164) (o := .cells #[.int .i64 a1_0, .string a1_1, .string a1_2, .int .i64 a1_3, .slice A1_4 l1_4.length c1_4, .slice A1_5 l1_5.length c1_5] 25 (0, 0)) au6_1 hb); have n10_ := Aside0.mk (blk_below (g := gb198) (o := .cells #[.int .i64 t188, .string t189, .string t190, .int .i64 t191, .slice Ao131 t192.length co131, .slice Ao132 t195.length co132] 30 (0, 0)) (by (with_reducible repeat (first | refine blk_drewN ?_ _ | refine blk_drew ?_ | refine blk_alloc ?_ _)); refine blk_put (cs := #[.int .i64 t188, .string t189, .string t190, .int .i64 t191, .slice Ao131 t192.length co131, .slice none 0 0]) ?_ 5 _ rfl; (with_reducible repeat (first | refine blk_drewN ?_ _ | refine blk_drew ?_ | refine blk_alloc ?_ _)); refine blk_put (cs := #[.int .i64 t188, .string t189, .string t190, .int .i64 t191, .slice none 0 0, .slice none 0 0]) ?_ 4 _ rfl; (with_reducible repeat (first | refine blk_drewN ?_ _ | refine blk_drew ?_ | refine blk_alloc ?_ _)); refine blk_put (cs := #[.int .i64 t188, .string t189, .string t190, .int .i64 0, .slice none 0 0, .slice none 0 0]) ?_ 3 _ rfl; (with_reducible repeat (first | refine blk_drewN ?_ _ | refine blk_drew ?_ | refine blk_alloc ?_ _)); refine blk_put (cs := #[.int .i64 t188, .string t189, .string (⟨#[]⟩ : ByteArray), .int .i64 0, .slice none 0 0, .slice none 0 0]) ?_ 2 _ rfl; (with_reducible repeat (first | refine blk_drewN ?_ _ | refine blk_drew ?_ | refine blk_alloc ?_ _)); refine blk_put (cs := #[.int .i64 t188, .string (⟨#[]⟩ : ByteArray), .string (⟨#[]⟩ : ByteArray), .int .i64 0, .slice none 0 0, .slice none 0 0]) ?_ 1 _ rfl; (with_reducible repeat (first | refine blk_drewN ?_ _ | refine blk_drew ?_ | refine blk_alloc ?_ _)); refine blk_put (cs := #[.int .i64 0, .string (⟨#[]⟩ : ByteArray), .string (⟨#[]⟩ : ByteArray), .int .i64 0, .slice none 0 0, .slice none 0 0]) ?_ 0 _ rfl; (with_reducible repeat (first | refine blk_drewN ?_ _ | refine blk_drew ?_ | refine blk_alloc ?_ _)); exact BK198.out) hb); have n11_ := Aside0.mk (below_step bl_ hb); clear HO173; clear HO176; clear HO183; clear HO186; clear HO194; clear HO197; clear BK163; clear BK164; clear BK198; clear HB; have HO173 := n0_; have HO176 := n1_; have HO183 := n2_; have HO186 := n3_; have HO194 := n4_; have HO197 := n5_; have HO205 := n6_; have HO208 := n7_; have BK163 := n8_; have BK164 := n9_; have BK198 := n10_; have HB := n11_; clear n0_ n1_ n2_ n3_ n4_ n5_ n6_ n7_ n8_ n9_ n10_ n11_; (try clear hb); (try clear hb2); (try clear hk); (try clear hi); (try clear ho0); (try clear ho1)) | ((with_reducible refine gate_dst (N := 8) rfl ?_); refine box_event ?hg (N := 8) ?hd (cs := #[.int .i64 0, .string (⟨#[]⟩ : ByteArray), .string (⟨#[]⟩ : ByteArray), .int .i64 0, .slice none 0 0, .slice none 0 0]) (t := 30) ?hr ?_; (case hd => rfl); (case hg => rfl); (case hr => exact hr_); intro gb209 hg w135 hbox hb; have n0_ := Aside0.mk (Kd.R_below (rk_ HO173) hb); have n1_ := Aside0.mk (Kd.R_below (rk_ HO176) hb); have n2_ := Aside0.mk (Kd.R_below (rk_ HO183) hb); have n3_ := Aside0.mk (Kd.R_below (rk_ HO186) hb); have n4_ := Aside0.mk (Kd.R_below (rk_ HO194) hb); have n5_ := Aside0.mk (Kd.R_below (rk_ HO197) hb); have n6_ := Aside0.mk (Kd.R_below (rk_ HO205) hb); have n7_ := Aside0.mk (Kd.R_below (rk_ HO208) hb); have n8_ := Aside0.mk (blkb_ BK163 hb); have n9_ := Aside0.mk (blkb_ BK164 hb); have n10_ := Aside0.mk (blkb_ BK198 hb); have n11_ := Aside0.mk (below_step bl_ hb); have n12_ := Aside0.mk (hbox); have n13_ := Aside0.mk (gw_ hg bl_); have n14_ := Aside0.mk (gw_ hg bl_); have n15_ := Aside0.mk (gn_ hg (blkl_ BK163)); have n16_ := Aside0.mk (gm_ hg (blkl_ BK163)); have n17_ := Aside0.mk (gn_ hg (blkl_ BK164)); have n18_ := Aside0.mk (gm_ hg (blkl_ BK164)); have n19_ := Aside0.mk (gn_ hg (blkl_ BK198)); have n20_ := Aside0.mk (gm_ hg (blkl_ BK198)); clear HO173; clear HO176; clear HO183; clear HO186; clear HO194; clear HO197; clear HO205; clear HO208; clear BK163; clear BK164; clear BK198; clear HB; have HO173 := n0_; have HO176 := n1_; have HO183 := n2_; have HO186 := n3_; have HO194 := n4_; have HO197 := n5_; have HO205 := n6_; have HO208 := n7_; have BK163 := n8_; have BK164 := n9_; have BK198 := n10_; have HB := n11_; have BK209 := n12_; have GW209 := n13_; have GE209 := n14_; have NB163_209 := n15_; have NB209_163 := n16_; have NB164_209 := n17_; have NB209_164 := n18_; have NB198_209 := n19_; have NB209_198 := n20_; clear n0_ n1_ n2_ n3_ n4_ n5_ n6_ n7_ n8_ n9_ n10_ n11_ n12_ n13_ n14_ n15_ n16_ n17_ n18_ n19_ n20_; clear hb hbox hg; have hnb136 := NB209_163.out; have hnc136 := NB163_209.out; have hnb137 := NB209_164.out; have hnc137 := NB164_209.out; have hnb138 := NB209_198.out; have hnc138 := NB198_209.out; obtain ⟨hcz139_0, hcz139_1, hcz139_2, hcz139_3, hcz139_4, hcz139_5, hfz139_0, hfz139_1, hfz139_2, hfz139_3, hfz139_4, hfz139_5⟩ := cellsF6 BK209.out; obtain ⟨Ao140, co140, eo140⟩ := Kd.R_slice HO205.out; subst eo140; obtain ⟨Ao141, co141, eo141⟩ := Kd.R_slice HO208.out; subst eo141; obtain ⟨hcz142_0, hcz142_1, hcz142_2, hcz142_3, hcz142_4, hcz142_5, hfz142_0, hfz142_1, hfz142_2, hfz142_3, hfz142_4, hfz142_5⟩ := cellsF6 BK198.out) | ((with_reducible refine gate_callee (f := 11) rfl ?_); refine gl_ 31 Try.func11 #[.agg #[.int .i64 t188, .string t189, .string t190, .int .i64 t191, .slice Ao131 t192.length co131, .slice Ao132 t195.length co132], .agg #[.int .i64 t199, .string t200, .string t201, .int .i64 t202, .slice Ao140 t203.length co140, .slice Ao141 t206.length co141]] ?_ rfl rfl rfl rfl; (with_reducible refine (impl_PaperSame.calls k t188 t189 t190 t191 _ _ t192 _ _ t195 t199 t200 t201 t202 _ _ t203 _ _ t206 t210 _ ?side1 ?side2 ?side3 ?side4 ?side5 ?side6 ?side7 ?side8 A24.out).mono ?_); (case side1 => refine (Kd.R_reads' (e := 9) (base := w.heap.size) (ok := fun k_ => (((True ∧ some k_ ≠ (.slice Ao120 t171.length co120 : Value).ownBlock) ∧ some k_ ≠ (.slice Ao122 t181.length co122 : Value).ownBlock) ∧ some k_ ≠ (.slice Ao140 t203.length co140 : Value).ownBlock)) (n := t192.length) (c := co131) ?_).2.2; exact au6_15); (case side2 => exact au6_62); (case side3 => refine (Kd.R_reads' (e := 71) (base := w.heap.size) (ok := fun k_ => (((True ∧ some k_ ≠ (.slice Ao121 t174.length co121 : Value).ownBlock) ∧ some k_ ≠ (.slice Ao123 t184.length co123 : Value).ownBlock) ∧ some k_ ≠ (.slice Ao141 t206.length co141 : Value).ownBlock)) (n := t195.length) (c := co132) ?_).2.2; exact au6_16); (case side4 => exact au6_63); (case side5 => refine (Kd.R_reads' (e := 9) (base := w.heap.size) (ok := fun k_ => (((True ∧ some k_ ≠ (.slice Ao120 t171.length co120 : Value).ownBlock) ∧ some k_ ≠ (.slice Ao122 t181.length co122 : Value).ownBlock) ∧ some k_ ≠ (.slice Ao131 t192.length co131 : Value).ownBlock)) (n := t203.length) (c := co140) ?_).2.2; exact au6_17); (case side6 => exact au6_64); (case side7 => refine (Kd.R_reads' (e := 71) (base := w.heap.size) (ok := fun k_ => (((True ∧ some k_ ≠ (.slice Ao121 t174.length co121 : Value).ownBlock) ∧ some k_ ≠ (.slice Ao123 t184.length co123 : Value).ownBlock) ∧ some k_ ≠ (.slice Ao132 t195.length co132 : Value).ownBlock)) (n := t206.length) (c := co141) ?_).2.2; exact au6_18); (case side8 => exact au6_65); rintro e w143 ⟨rfl, hb⟩; refine ⟨_, rfl, ?_⟩; have n0_ := Aside0.mk (Kd.R_below (by (with_reducible repeat (first | apply Kd.R_alloc | apply Kd.R_drewN | apply Kd.R_drew)); exact (Kd.R_mono (Kd.R_far (p := ⟨gb209, 5, none⟩) (Kd.R_far (p := ⟨gb209, 4, none⟩) (Kd.R_far (p := ⟨gb209, 3, none⟩) (Kd.R_far (p := ⟨gb209, 2, none⟩) (Kd.R_far (p := ⟨gb209, 1, none⟩) (Kd.R_far (p := ⟨gb209, 0, none⟩) (Kd.R_types HO173.out BK209.out (by decide)) (fun _ hk => hk.2) (.int .i64 t199)) (fun _ hk => hk.2) (.string t200)) (fun _ hk => hk.2) (.string t201)) (fun _ hk => hk.2) (.int .i64 t202)) (fun _ hk => hk.2) (.slice Ao140 t203.length co140)) (fun _ hk => hk.2) (.slice Ao141 t206.length co141)) (fun _ h_ => h_.1))) hb); have n1_ := Aside0.mk (Kd.R_below (by (with_reducible repeat (first | apply Kd.R_alloc | apply Kd.R_drewN | apply Kd.R_drew)); exact (Kd.R_mono (Kd.R_far (p := ⟨gb209, 5, none⟩) (Kd.R_far (p := ⟨gb209, 4, none⟩) (Kd.R_far (p := ⟨gb209, 3, none⟩) (Kd.R_far (p := ⟨gb209, 2, none⟩) (Kd.R_far (p := ⟨gb209, 1, none⟩) (Kd.R_far (p := ⟨gb209, 0, none⟩) (Kd.R_types HO176.out BK209.out (by decide)) (fun _ hk => hk.2) (.int .i64 t199)) (fun _ hk => hk.2) (.string t200)) (fun _ hk => hk.2) (.string t201)) (fun _ hk => hk.2) (.int .i64 t202)) (fun _ hk => hk.2) (.slice Ao140 t203.length co140)) (fun _ hk => hk.2) (.slice Ao141 t206.length co141)) (fun _ h_ => h_.1))) hb); have n2_ := Aside0.mk (Kd.R_below (by (with_reducible repeat (first | apply Kd.R_alloc | apply Kd.R_drewN | apply Kd.R_drew)); exact (Kd.R_mono (Kd.R_far (p := ⟨gb209, 5, none⟩) (Kd.R_far (p := ⟨gb209, 4, none⟩) (Kd.R_far (p := ⟨gb209, 3, none⟩) (Kd.R_far (p := ⟨gb209, 2, none⟩) (Kd.R_far (p := ⟨gb209, 1, none⟩) (Kd.R_far (p := ⟨gb209, 0, none⟩) (Kd.R_types HO183.out BK209.out (by decide)) (fun _ hk => hk.2) (.int .i64 t199)) (fun _ hk => hk.2) (.string t200)) (fun _ hk => hk.2) (.string t201)) (fun _ hk => hk.2) (.int .i64 t202)) (fun _ hk => hk.2) (.slice Ao140 t203.length co140)) (fun _ hk => hk.2) (.slice Ao141 t206.length co141)) (fun _ h_ => h_.1))) hb); have n3_ := Aside0.mk (Kd.R_below (by (with_reducible repeat (first | apply Kd.R_alloc | apply Kd.R_drewN | apply Kd.R_drew)); exact (Kd.R_mono (Kd.R_far (p := ⟨gb209, 5, none⟩) (Kd.R_far (p := ⟨gb209, 4, none⟩) (Kd.R_far (p := ⟨gb209, 3, none⟩) (Kd.R_far (p := ⟨gb209, 2, none⟩) (Kd.R_far (p := ⟨gb209, 1, none⟩) (Kd.R_far (p := ⟨gb209, 0, none⟩) (Kd.R_types HO186.out BK209.out (by decide)) (fun _ hk => hk.2) (.int .i64 t199)) (fun _ hk => hk.2) (.string t200)) (fun _ hk => hk.2) (.string t201)) (fun _ hk => hk.2) (.int .i64 t202)) (fun _ hk => hk.2) (.slice Ao140 t203.length co140)) (fun _ hk => hk.2) (.slice Ao141 t206.length co141)) (fun _ h_ => h_.1))) hb); have n4_ := Aside0.mk (Kd.R_below au6_15 hb); have n5_ := Aside0.mk (Kd.R_below au6_16 hb); have n6_ := Aside0.mk (Kd.R_below au6_17 hb); have n7_ := Aside0.mk (Kd.R_below au6_18 hb); have n8_ := Aside0.mk (blk_below (g := gb163) (o := .cells #[.int .i64 a0_0, .string a0_1, .string a0_2, .int .i64 a0_3, .slice A0_4 l0_4.length c0_4, .slice A0_5 l0_5.length c0_5] 25 (0, 0)) au6_2 hb); have n9_ := Aside0.mk (blk_below (g := gb164) (o := .cells #[.int .i64 a1_0, .string a1_1, .string a1_2, .int .i64 a1_3, .slice A1_4 l1_4.length c1_4, .slice A1_5 l1_5.length c1_5] 25 (0, 0)) au6_3 hb); have n10_ := Aside0.mk (blk_below (g := gb198) (o := .cells #[.int .i64 t188, .string t189, .string t190, .int .i64 t191, .slice Ao131 t192.length co131, .slice Ao132 t195.length co132] 30 (0, 0)) au6_4 hb); have n11_ := Aside0.mk (blk_below (g := gb209) (o := .cells #[.int .i64 t199, .string t200, .string t201, .int .i64 t202, .slice Ao140 t203.length co140, .slice Ao141 t206.length co141] 30 (0, 0)) (by (with_reducible repeat (first | refine blk_drewN ?_ _ | refine blk_drew ?_ | refine blk_alloc ?_ _)); refine blk_put (cs := #[.int .i64 t199, .string t200, .string t201, .int .i64 t202, .slice Ao140 t203.length co140, .slice none 0 0]) ?_ 5 _ rfl; (with_reducible repeat (first | refine blk_drewN ?_ _ | refine blk_drew ?_ | refine blk_alloc ?_ _)); refine blk_put (cs := #[.int .i64 t199, .string t200, .string t201, .int .i64 t202, .slice none 0 0, .slice none 0 0]) ?_ 4 _ rfl; (with_reducible repeat (first | refine blk_drewN ?_ _ | refine blk_drew ?_ | refine blk_alloc ?_ _)); refine blk_put (cs := #[.int .i64 t199, .string t200, .string t201, .int .i64 0, .slice none 0 0, .slice none 0 0]) ?_ 3 _ rfl; (with_reducible repeat (first | refine blk_drewN ?_ _ | refine blk_drew ?_ | refine blk_alloc ?_ _)); refine blk_put (cs := #[.int .i64 t199, .string t200, .string (⟨#[]⟩ : ByteArray), .int .i64 0, .slice none 0 0, .slice none 0 0]) ?_ 2 _ rfl; (with_reducible repeat (first | refine blk_drewN ?_ _ | refine blk_drew ?_ | refine blk_alloc ?_ _)); refine blk_put (cs := #[.int .i64 t199, .string (⟨#[]⟩ : ByteArray), .string (⟨#[]⟩ : ByteArray), .int .i64 0, .slice none 0 0, .slice none 0 0]) ?_ 1 _ rfl; (with_reducible repeat (first | refine blk_drewN ?_ _ | refine blk_drew ?_ | refine blk_alloc ?_ _)); refine blk_put (cs := #[.int .i64 0, .string (⟨#[]⟩ : ByteArray), .string (⟨#[]⟩ : ByteArray), .int .i64 0, .slice none 0 0, .slice none 0 0]) ?_ 0 _ rfl; (with_reducible repeat (first | refine blk_drewN ?_ _ | refine blk_drew ?_ | refine blk_alloc ?_ _)); exact BK209.out) hb); have n12_ := Aside0.mk (below_step bl_ hb); clear HO173; clear HO176; clear HO183; clear HO186; clear HO194; clear HO197; clear HO205; clear HO208; clear BK163; clear BK164; clear BK198; clear BK209; clear HB; have HO173 := n0_; have HO176 := n1_; have HO183 := n2_; have HO186 := n3_; have HO194 := n4_; have HO197 := n5_; have HO205 := n6_; have HO208 := n7_; have BK163 := n8_; have BK164 := n9_; have BK198 := n10_; have BK209 := n11_; have HB := n12_; clear n0_ n1_ n2_ n3_ n4_ n5_ n6_ n7_ n8_ n9_ n10_ n11_ n12_; (try clear hb); (try clear hb2); (try clear hk); (try clear hi)))
            have n0_ := Aside0.mk (Kd.R_drew HO173.out)
            have n1_ := Aside0.mk (Kd.R_drew HO176.out)
            have n2_ := Aside0.mk (Kd.R_drew HO183.out)
            have n3_ := Aside0.mk (Kd.R_drew HO186.out)
            have n4_ := Aside0.mk (Kd.R_drew HO194.out)
            have n5_ := Aside0.mk (Kd.R_drew HO197.out)
            have n6_ := Aside0.mk (Kd.R_drew HO205.out)
            have n7_ := Aside0.mk (Kd.R_drew HO208.out)
            have n8_ := Aside0.mk (blk_drew BK163.out)
            have n9_ := Aside0.mk (blk_drew BK164.out)
            have n10_ := Aside0.mk (blk_drew BK198.out)
            have n11_ := Aside0.mk (blk_drew BK209.out)
            have n12_ := Aside0.mk (below_drew1 HB.out)
            clear HO173
            clear HO176
            clear HO183
            clear HO186
            clear HO194
            clear HO197
            clear HO205
            clear HO208
            clear BK163
            clear BK164
            clear BK198
            clear BK209
            clear HB
            have HO173 := n0_
            have HO176 := n1_
            have HO183 := n2_
            have HO186 := n3_
            have HO194 := n4_
            have HO197 := n5_
            have HO205 := n6_
            have HO208 := n7_
            have BK163 := n8_
            have BK164 := n9_
            have BK198 := n10_
            have BK209 := n11_
            have HB := n12_
            clear n0_ n1_ n2_ n3_ n4_ n5_ n6_ n7_ n8_ n9_ n10_ n11_ n12_
            refine start_ (n := 5) (S := fun w' => w'.cell? ⟨gb198, 0, none⟩ = some (.int .i64 t188) ∧ w'.cell? ⟨gb198, 1, none⟩ = some (.string t189) ∧ w'.cell? ⟨gb198, 2, none⟩ = some (.string t190) ∧ w'.cell? ⟨gb198, 3, none⟩ = some (.int .i64 t191) ∧ w'.cell? ⟨gb198, 4, none⟩ = some (.slice Ao131 t192.length co131) ∧ w'.cell? ⟨gb198, 5, none⟩ = some (.slice Ao132 t195.length co132) ∧ w'.cell? ⟨gb163, 0, none⟩ = some (.int .i64 a0_0) ∧ w'.cell? ⟨gb163, 1, none⟩ = some (.string a0_1) ∧ w'.cell? ⟨gb163, 2, none⟩ = some (.string a0_2) ∧ w'.cell? ⟨gb163, 3, none⟩ = some (.int .i64 a0_3) ∧ w'.cell? ⟨gb163, 4, none⟩ = some (.slice A0_4 l0_4.length c0_4) ∧ w'.cell? ⟨gb163, 5, none⟩ = some (.slice A0_5 l0_5.length c0_5)) (ds := []) #[false, false, false, false, false] (by kernel_rfl) rfl rfl ⟨(blk_cell BK198.out 0).trans rfl, (blk_cell BK198.out 1).trans rfl, (blk_cell BK198.out 2).trans rfl, (blk_cell BK198.out 3).trans rfl, (blk_cell BK198.out 4).trans rfl, (blk_cell BK198.out 5).trans rfl, (blk_cell BK163.out 0).trans rfl, (blk_cell BK163.out 1).trans rfl, (blk_cell BK163.out 2).trans rfl, (blk_cell BK163.out 3).trans rfl, (blk_cell BK163.out 4).trans rfl, (blk_cell BK163.out 5).trans rfl⟩ (fun hHeld => ?_)
            generalize w143.drew = w144 at HO173 HO176 HO183 HO186 HO194 HO197 HO205 HO208 BK163 BK164 BK198 BK209 HB hHeld ⊢
            refine take_ (i := 0) (N := some 35) (v := ?_) (a' := ?_) #[true, false, false, false, false] rfl rfl (by kernel_rfl) (fun _ _ _ h => h) (Or.inl ⟨by rfl, ?_⟩) hHeld ?_ ?_
            rotate_left
            · rintro w' ⟨s0, s1, s2, s3, s4, s5, s6, s7, s8, s9, s10, s11⟩
              go_simp
              with_reducible rfl
            rotate_left
            · simp only [Act.put, List.setIfInBounds_toArray, List.set_cons_zero, List.set_cons_succ, i64_w, i32_w]
              rfl
            refine take_ (i := 1) (N := some 36) (v := ?_) (a' := ?_) #[true, true, false, false, false] rfl rfl (by kernel_rfl) (fun _ _ _ h => h) (Or.inl ⟨by rfl, ?_⟩) hHeld ?_ ?_
            rotate_left
            · rintro w' ⟨s0, s1, s2, s3, s4, s5, s6, s7, s8, s9, s10, s11⟩
              go_simp
              with_reducible rfl
            rotate_left
            · simp only [Act.put, List.setIfInBounds_toArray, List.set_cons_zero, List.set_cons_succ, i64_w, i32_w]
              rfl
            refine one_ (i := 2) (N := some 37) #[true, true, true, false, false] rfl rfl (by kernel_rfl) (by decide) (fun K hK => ?_)
            refine gr_ Try.func10 #[.agg #[.int .i64 a0_0, .string a0_1, .string a0_2, .int .i64 a0_3, .slice A0_4 l0_4.length c0_4, .slice A0_5 l0_5.length c0_5]] (by rfl) ?_ rfl rfl rfl
            with_reducible refine (laws_toPaper.calls k a0_0 a0_1 a0_2 a0_3 _ _ l0_4 _ _ l0_5 t211 t212 t213 t214 t215 t218 _ ?side1 ?side2 ?side3 ?side4 A60.out).mono ?_
            (case side1 => exact au6_5)
            (case side2 => exact HC0_4.out)
            (case side3 => exact au6_6)
            (case side4 => exact HC0_5.out)
            rintro e w145 ⟨v216, v219, rfl, ho0, ho1, hb⟩
            refine ⟨_, rfl, ?_⟩
            have n0_ := Aside0.mk (Kd.R_elder' (rk_ HO173) (Kd.R_base ho0) hb)
            have n1_ := Aside0.mk (Kd.R_elder' (rk_ HO176) (Kd.R_base ho1) hb)
            have n2_ := Aside0.mk (Kd.R_elder' (rk_ HO183) (Kd.R_base ho0) hb)
            have n3_ := Aside0.mk (Kd.R_elder' (rk_ HO186) (Kd.R_base ho1) hb)
            have n4_ := Aside0.mk (Kd.R_elder' (rk_ HO194) (Kd.R_base ho0) hb)
            have n5_ := Aside0.mk (Kd.R_elder' (rk_ HO197) (Kd.R_base ho1) hb)
            have n6_ := Aside0.mk (Kd.R_elder' (rk_ HO205) (Kd.R_base ho0) hb)
            have n7_ := Aside0.mk (Kd.R_elder' (rk_ HO208) (Kd.R_base ho1) hb)
            have n8_ := Aside0.mk (Kd.R_lower (Kd.R_new' (Kd.R_new' (Kd.R_new' (Kd.R_new' ho0 (Kd.R_lt (rk_ HO173))) (Kd.R_lt (rk_ HO183))) (Kd.R_lt (rk_ HO194))) (Kd.R_lt (rk_ HO205))) (below_size bl_))
            have n9_ := Aside0.mk (Kd.R_lower (Kd.R_new' (Kd.R_new' (Kd.R_new' (Kd.R_new' ho1 (Kd.R_lt (rk_ HO176))) (Kd.R_lt (rk_ HO186))) (Kd.R_lt (rk_ HO197))) (Kd.R_lt (rk_ HO208))) (below_size bl_))
            have n10_ := Aside0.mk (blkb_ BK163 hb)
            have n11_ := Aside0.mk (blkb_ BK164 hb)
            have n12_ := Aside0.mk (blkb_ BK198 hb)
            have n13_ := Aside0.mk (blkb_ BK209 hb)
            have n14_ := Aside0.mk (below_step bl_ hb)
            clear HO173
            clear HO176
            clear HO183
            clear HO186
            clear HO194
            clear HO197
            clear HO205
            clear HO208
            clear BK163
            clear BK164
            clear BK198
            clear BK209
            clear HB
            have HO173 := n0_
            have HO176 := n1_
            have HO183 := n2_
            have HO186 := n3_
            have HO194 := n4_
            have HO197 := n5_
            have HO205 := n6_
            have HO208 := n7_
            have HO217 := n8_
            have HO220 := n9_
            have BK163 := n10_
            have BK164 := n11_
            have BK198 := n12_
            have BK209 := n13_
            have HB := n14_
            clear n0_ n1_ n2_ n3_ n4_ n5_ n6_ n7_ n8_ n9_ n10_ n11_ n12_ n13_ n14_
            (try clear hb)
            (try clear hb2)
            (try clear hk)
            (try clear hi)
            (try clear ho0)
            (try clear ho1)
            obtain ⟨Ao146, co146, eo146⟩ := Kd.R_slice HO217.out
            (first | subst eo146 | (injection eo146 with f1_ f2_ f3_; have f4_ := f1_.symm; have f5_ := f3_.symm; clear f1_ f2_ f3_; subst f4_; subst f5_))
            obtain ⟨Ao147, co147, eo147⟩ := Kd.R_slice HO220.out
            (first | subst eo147 | (injection eo147 with f1_ f2_ f3_; have f4_ := f1_.symm; have f5_ := f3_.symm; clear f1_ f2_ f3_; subst f4_; subst f5_))
            refine hK.out _ _ ⟨(blk_cell BK198.out 0).trans rfl, (blk_cell BK198.out 1).trans rfl, (blk_cell BK198.out 2).trans rfl, (blk_cell BK198.out 3).trans rfl, (blk_cell BK198.out 4).trans rfl, (blk_cell BK198.out 5).trans rfl, (blk_cell BK163.out 0).trans rfl, (blk_cell BK163.out 1).trans rfl, (blk_cell BK163.out 2).trans rfl, (blk_cell BK163.out 3).trans rfl, (blk_cell BK163.out 4).trans rfl, (blk_cell BK163.out 5).trans rfl⟩ (fun hHeld => ?_)
            clear hK K
            refine norm_ (a' := ?_) ?_ ?_
            rotate_left
            · show Act.put _ (some 37) _ = _
              simp only [Act.put, List.setIfInBounds_toArray, List.set_cons_zero, List.set_cons_succ, i64_w, i32_w]
              rfl
            refine one_ (i := 3) (N := some 38) #[true, true, true, true, false] rfl rfl (by kernel_rfl) (by decide) (fun K hK => ?_)
            refine gr_ Try.func12 #[.agg #[.int .i64 t188, .string t189, .string t190, .int .i64 t191, .slice Ao131 t192.length co131, .slice Ao132 t195.length co132], .agg #[.int .i64 t211, .string t212, .string t213, .int .i64 t214, .slice Ao146 t215.length co146, .slice Ao147 t218.length co147]] (by rfl) ?_ rfl rfl rfl
            with_reducible refine (laws_eqPaper.calls k t188 t189 t190 t191 _ _ t192 _ _ t195 t211 t212 t213 t214 _ _ t215 _ _ t218 true _ ?side1 ?side2 ?side3 ?side4 ?side5 ?side6 ?side7 ?side8 A61.out).mono ?_
            (case side1 => exact au6_54)
            (case side2 => exact au6_62)
            (case side3 => exact au6_55)
            (case side4 => exact au6_63)
            (case side5 => exact au6_56)
            (case side6 => exact (Kd.R_reads' HO217.out).2.1)
            (case side7 => exact au6_57)
            (case side8 => exact (Kd.R_reads' HO220.out).2.1)
            rintro e w148 ⟨rfl, hb⟩
            refine ⟨_, rfl, ?_⟩
            have n0_ := Aside0.mk (Kd.R_below (rk_ HO173) hb)
            have n1_ := Aside0.mk (Kd.R_below (rk_ HO176) hb)
            have n2_ := Aside0.mk (Kd.R_below (rk_ HO183) hb)
            have n3_ := Aside0.mk (Kd.R_below (rk_ HO186) hb)
            have n4_ := Aside0.mk (Kd.R_below (rk_ HO194) hb)
            have n5_ := Aside0.mk (Kd.R_below (rk_ HO197) hb)
            have n6_ := Aside0.mk (Kd.R_below (rk_ HO205) hb)
            have n7_ := Aside0.mk (Kd.R_below (rk_ HO208) hb)
            have n8_ := Aside0.mk (Kd.R_below (rk_ HO217) hb)
            have n9_ := Aside0.mk (Kd.R_below (rk_ HO220) hb)
            have n10_ := Aside0.mk (blkb_ BK163 hb)
            have n11_ := Aside0.mk (blkb_ BK164 hb)
            have n12_ := Aside0.mk (blkb_ BK198 hb)
            have n13_ := Aside0.mk (blkb_ BK209 hb)
            have n14_ := Aside0.mk (below_step bl_ hb)
            clear HO173
            clear HO176
            clear HO183
            clear HO186
            clear HO194
            clear HO197
            clear HO205
            clear HO208
            clear HO217
            clear HO220
            clear BK163
            clear BK164
            clear BK198
            clear BK209
            clear HB
            have HO173 := n0_
            have HO176 := n1_
            have HO183 := n2_
            have HO186 := n3_
            have HO194 := n4_
            have HO197 := n5_
            have HO205 := n6_
            have HO208 := n7_
            have HO217 := n8_
            have HO220 := n9_
            have BK163 := n10_
            have BK164 := n11_
            have BK198 := n12_
            have BK209 := n13_
            have HB := n14_
            clear n0_ n1_ n2_ n3_ n4_ n5_ n6_ n7_ n8_ n9_ n10_ n11_ n12_ n13_ n14_
            (try clear hb)
            (try clear hb2)
            (try clear hk)
            (try clear hi)
            refine hK.out _ _ ⟨(blk_cell BK198.out 0).trans rfl, (blk_cell BK198.out 1).trans rfl, (blk_cell BK198.out 2).trans rfl, (blk_cell BK198.out 3).trans rfl, (blk_cell BK198.out 4).trans rfl, (blk_cell BK198.out 5).trans rfl, (blk_cell BK163.out 0).trans rfl, (blk_cell BK163.out 1).trans rfl, (blk_cell BK163.out 2).trans rfl, (blk_cell BK163.out 3).trans rfl, (blk_cell BK163.out 4).trans rfl, (blk_cell BK163.out 5).trans rfl⟩ (fun hHeld => ?_)
            clear hK K
            refine norm_ (a' := ?_) ?_ ?_
            rotate_left
            · show Act.put _ (some 38) _ = _
              simp only [Act.put, List.setIfInBounds_toArray, List.set_cons_zero, List.set_cons_succ, i64_w, i32_w]
              rfl
            refine pure_ (i := 4) (N := some 39) (v := ?_) (a' := ?_) #[true, true, true, true, true] rfl rfl (by kernel_rfl) (fun _ _ _ h => h) (Or.inl ⟨by rfl, ?_⟩) ?_ ?_
            rotate_left
            · intro w'
              go_simp
              with_reducible rfl
            rotate_left
            · simp only [Act.put, List.setIfInBounds_toArray, List.set_cons_zero, List.set_cons_succ, i64_w, i32_w]
              rfl
            refine done_ (by kernel_rfl) ?_
            try go_wp2
            have n0_ := Aside0.mk (Kd.R_drew HO173.out)
            have n1_ := Aside0.mk (Kd.R_drew HO176.out)
            have n2_ := Aside0.mk (Kd.R_drew HO183.out)
            have n3_ := Aside0.mk (Kd.R_drew HO186.out)
            have n4_ := Aside0.mk (Kd.R_drew HO194.out)
            have n5_ := Aside0.mk (Kd.R_drew HO197.out)
            have n6_ := Aside0.mk (Kd.R_drew HO205.out)
            have n7_ := Aside0.mk (Kd.R_drew HO208.out)
            have n8_ := Aside0.mk (Kd.R_drew HO217.out)
            have n9_ := Aside0.mk (Kd.R_drew HO220.out)
            have n10_ := Aside0.mk (blk_drew BK163.out)
            have n11_ := Aside0.mk (blk_drew BK164.out)
            have n12_ := Aside0.mk (blk_drew BK198.out)
            have n13_ := Aside0.mk (blk_drew BK209.out)
            have n14_ := Aside0.mk (below_drew1 HB.out)
            clear HO173
            clear HO176
            clear HO183
            clear HO186
            clear HO194
            clear HO197
            clear HO205
            clear HO208
            clear HO217
            clear HO220
            clear BK163
            clear BK164
            clear BK198
            clear BK209
            clear HB
            have HO173 := n0_
            have HO176 := n1_
            have HO183 := n2_
            have HO186 := n3_
            have HO194 := n4_
            have HO197 := n5_
            have HO205 := n6_
            have HO208 := n7_
            have HO217 := n8_
            have HO220 := n9_
            have BK163 := n10_
            have BK164 := n11_
            have BK198 := n12_
            have BK209 := n13_
            have HB := n14_
            clear n0_ n1_ n2_ n3_ n4_ n5_ n6_ n7_ n8_ n9_ n10_ n11_ n12_ n13_ n14_
            refine start_ (n := 5) (S := fun w' => w'.cell? ⟨gb209, 0, none⟩ = some (.int .i64 t199) ∧ w'.cell? ⟨gb209, 1, none⟩ = some (.string t200) ∧ w'.cell? ⟨gb209, 2, none⟩ = some (.string t201) ∧ w'.cell? ⟨gb209, 3, none⟩ = some (.int .i64 t202) ∧ w'.cell? ⟨gb209, 4, none⟩ = some (.slice Ao140 t203.length co140) ∧ w'.cell? ⟨gb209, 5, none⟩ = some (.slice Ao141 t206.length co141) ∧ w'.cell? ⟨gb164, 0, none⟩ = some (.int .i64 a1_0) ∧ w'.cell? ⟨gb164, 1, none⟩ = some (.string a1_1) ∧ w'.cell? ⟨gb164, 2, none⟩ = some (.string a1_2) ∧ w'.cell? ⟨gb164, 3, none⟩ = some (.int .i64 a1_3) ∧ w'.cell? ⟨gb164, 4, none⟩ = some (.slice A1_4 l1_4.length c1_4) ∧ w'.cell? ⟨gb164, 5, none⟩ = some (.slice A1_5 l1_5.length c1_5)) (ds := []) #[false, false, false, false, false] (by kernel_rfl) rfl rfl ⟨(blk_cell BK209.out 0).trans rfl, (blk_cell BK209.out 1).trans rfl, (blk_cell BK209.out 2).trans rfl, (blk_cell BK209.out 3).trans rfl, (blk_cell BK209.out 4).trans rfl, (blk_cell BK209.out 5).trans rfl, (blk_cell BK164.out 0).trans rfl, (blk_cell BK164.out 1).trans rfl, (blk_cell BK164.out 2).trans rfl, (blk_cell BK164.out 3).trans rfl, (blk_cell BK164.out 4).trans rfl, (blk_cell BK164.out 5).trans rfl⟩ (fun hHeld => ?_)
            generalize w148.drew = w149 at HO173 HO176 HO183 HO186 HO194 HO197 HO205 HO208 HO217 HO220 BK163 BK164 BK198 BK209 HB hHeld ⊢
            refine take_ (i := 0) (N := some 40) (v := ?_) (a' := ?_) #[true, false, false, false, false] rfl rfl (by kernel_rfl) (fun _ _ _ h => h) (Or.inl ⟨by rfl, ?_⟩) hHeld ?_ ?_
            rotate_left
            · rintro w' ⟨s0, s1, s2, s3, s4, s5, s6, s7, s8, s9, s10, s11⟩
              go_simp
              with_reducible rfl
            rotate_left
            · simp only [Act.put, List.setIfInBounds_toArray, List.set_cons_zero, List.set_cons_succ, i64_w, i32_w]
              rfl
            refine take_ (i := 1) (N := some 41) (v := ?_) (a' := ?_) #[true, true, false, false, false] rfl rfl (by kernel_rfl) (fun _ _ _ h => h) (Or.inl ⟨by rfl, ?_⟩) hHeld ?_ ?_
            rotate_left
            · rintro w' ⟨s0, s1, s2, s3, s4, s5, s6, s7, s8, s9, s10, s11⟩
              go_simp
              with_reducible rfl
            rotate_left
            · simp only [Act.put, List.setIfInBounds_toArray, List.set_cons_zero, List.set_cons_succ, i64_w, i32_w]
              rfl
            refine one_ (i := 2) (N := some 42) #[true, true, true, false, false] rfl rfl (by kernel_rfl) (by decide) (fun K hK => ?_)
            refine gr_ Try.func10 #[.agg #[.int .i64 a1_0, .string a1_1, .string a1_2, .int .i64 a1_3, .slice A1_4 l1_4.length c1_4, .slice A1_5 l1_5.length c1_5]] (by rfl) ?_ rfl rfl rfl
            with_reducible refine (laws_toPaper.calls k a1_0 a1_1 a1_2 a1_3 _ _ l1_4 _ _ l1_5 t222 t223 t224 t225 t226 t229 _ ?side1 ?side2 ?side3 ?side4 A63.out).mono ?_
            (case side1 => exact au6_7)
            (case side2 => exact HC1_4.out)
            (case side3 => exact au6_8)
            (case side4 => exact HC1_5.out)
            rintro e w150 ⟨v227, v230, rfl, ho0, ho1, hb⟩
            refine ⟨_, rfl, ?_⟩
            have n0_ := Aside0.mk (Kd.R_elder' (rk_ HO173) (Kd.R_base ho0) hb)
            have n1_ := Aside0.mk (Kd.R_elder' (rk_ HO176) (Kd.R_base ho1) hb)
            have n2_ := Aside0.mk (Kd.R_elder' (rk_ HO183) (Kd.R_base ho0) hb)
            have n3_ := Aside0.mk (Kd.R_elder' (rk_ HO186) (Kd.R_base ho1) hb)
            have n4_ := Aside0.mk (Kd.R_elder' (rk_ HO194) (Kd.R_base ho0) hb)
            have n5_ := Aside0.mk (Kd.R_elder' (rk_ HO197) (Kd.R_base ho1) hb)
            have n6_ := Aside0.mk (Kd.R_elder' (rk_ HO205) (Kd.R_base ho0) hb)
            have n7_ := Aside0.mk (Kd.R_elder' (rk_ HO208) (Kd.R_base ho1) hb)
            have n8_ := Aside0.mk (Kd.R_elder' (rk_ HO217) (Kd.R_base ho0) hb)
            have n9_ := Aside0.mk (Kd.R_elder' (rk_ HO220) (Kd.R_base ho1) hb)
            have n10_ := Aside0.mk (Kd.R_lower (Kd.R_new' (Kd.R_new' (Kd.R_new' (Kd.R_new' (Kd.R_new' ho0 (Kd.R_lt (rk_ HO173))) (Kd.R_lt (rk_ HO183))) (Kd.R_lt (rk_ HO194))) (Kd.R_lt (rk_ HO205))) (Kd.R_lt (rk_ HO217))) (below_size bl_))
            have n11_ := Aside0.mk (Kd.R_lower (Kd.R_new' (Kd.R_new' (Kd.R_new' (Kd.R_new' (Kd.R_new' ho1 (Kd.R_lt (rk_ HO176))) (Kd.R_lt (rk_ HO186))) (Kd.R_lt (rk_ HO197))) (Kd.R_lt (rk_ HO208))) (Kd.R_lt (rk_ HO220))) (below_size bl_))
            have n12_ := Aside0.mk (blkb_ BK163 hb)
            have n13_ := Aside0.mk (blkb_ BK164 hb)
            have n14_ := Aside0.mk (blkb_ BK198 hb)
            have n15_ := Aside0.mk (blkb_ BK209 hb)
            have n16_ := Aside0.mk (below_step bl_ hb)
            clear HO173
            clear HO176
            clear HO183
            clear HO186
            clear HO194
            clear HO197
            clear HO205
            clear HO208
            clear HO217
            clear HO220
            clear BK163
            clear BK164
            clear BK198
            clear BK209
            clear HB
            have HO173 := n0_
            have HO176 := n1_
            have HO183 := n2_
            have HO186 := n3_
            have HO194 := n4_
            have HO197 := n5_
            have HO205 := n6_
            have HO208 := n7_
            have HO217 := n8_
            have HO220 := n9_
            have HO228 := n10_
            have HO231 := n11_
            have BK163 := n12_
            have BK164 := n13_
            have BK198 := n14_
            have BK209 := n15_
            have HB := n16_
            clear n0_ n1_ n2_ n3_ n4_ n5_ n6_ n7_ n8_ n9_ n10_ n11_ n12_ n13_ n14_ n15_ n16_
            (try clear hb)
            (try clear hb2)
            (try clear hk)
            (try clear hi)
            (try clear ho0)
            (try clear ho1)
            obtain ⟨Ao151, co151, eo151⟩ := Kd.R_slice HO228.out
            (first | subst eo151 | (injection eo151 with f1_ f2_ f3_; have f4_ := f1_.symm; have f5_ := f3_.symm; clear f1_ f2_ f3_; subst f4_; subst f5_))
            obtain ⟨Ao152, co152, eo152⟩ := Kd.R_slice HO231.out
            (first | subst eo152 | (injection eo152 with f1_ f2_ f3_; have f4_ := f1_.symm; have f5_ := f3_.symm; clear f1_ f2_ f3_; subst f4_; subst f5_))
            refine hK.out _ _ ⟨(blk_cell BK209.out 0).trans rfl, (blk_cell BK209.out 1).trans rfl, (blk_cell BK209.out 2).trans rfl, (blk_cell BK209.out 3).trans rfl, (blk_cell BK209.out 4).trans rfl, (blk_cell BK209.out 5).trans rfl, (blk_cell BK164.out 0).trans rfl, (blk_cell BK164.out 1).trans rfl, (blk_cell BK164.out 2).trans rfl, (blk_cell BK164.out 3).trans rfl, (blk_cell BK164.out 4).trans rfl, (blk_cell BK164.out 5).trans rfl⟩ (fun hHeld => ?_)
            clear hK K
            refine norm_ (a' := ?_) ?_ ?_
            rotate_left
            · show Act.put _ (some 42) _ = _
              simp only [Act.put, List.setIfInBounds_toArray, List.set_cons_zero, List.set_cons_succ, i64_w, i32_w]
              rfl
            refine one_ (i := 3) (N := some 43) #[true, true, true, true, false] rfl rfl (by kernel_rfl) (by decide) (fun K hK => ?_)
            refine gr_ Try.func12 #[.agg #[.int .i64 t199, .string t200, .string t201, .int .i64 t202, .slice Ao140 t203.length co140, .slice Ao141 t206.length co141], .agg #[.int .i64 t222, .string t223, .string t224, .int .i64 t225, .slice Ao151 t226.length co151, .slice Ao152 t229.length co152]] (by rfl) ?_ rfl rfl rfl
            with_reducible refine (laws_eqPaper.calls k t199 t200 t201 t202 _ _ t203 _ _ t206 t222 t223 t224 t225 _ _ t226 _ _ t229 false _ ?side1 ?side2 ?side3 ?side4 ?side5 ?side6 ?side7 ?side8 A64.out).mono ?_
            (case side1 => exact au6_58)
            (case side2 => exact au6_64)
            (case side3 => exact au6_59)
            (case side4 => exact au6_65)
            (case side5 => exact au6_60)
            (case side6 => exact (Kd.R_reads' HO228.out).2.1)
            (case side7 => exact au6_61)
            (case side8 => exact (Kd.R_reads' HO231.out).2.1)
            rintro e w153 ⟨rfl, hb⟩
            refine ⟨_, rfl, ?_⟩
            have n0_ := Aside0.mk (Kd.R_below (rk_ HO173) hb)
            have n1_ := Aside0.mk (Kd.R_below (rk_ HO176) hb)
            have n2_ := Aside0.mk (Kd.R_below (rk_ HO183) hb)
            have n3_ := Aside0.mk (Kd.R_below (rk_ HO186) hb)
            have n4_ := Aside0.mk (Kd.R_below (rk_ HO194) hb)
            have n5_ := Aside0.mk (Kd.R_below (rk_ HO197) hb)
            have n6_ := Aside0.mk (Kd.R_below (rk_ HO205) hb)
            have n7_ := Aside0.mk (Kd.R_below (rk_ HO208) hb)
            have n8_ := Aside0.mk (Kd.R_below (rk_ HO217) hb)
            have n9_ := Aside0.mk (Kd.R_below (rk_ HO220) hb)
            have n10_ := Aside0.mk (Kd.R_below (rk_ HO228) hb)
            have n11_ := Aside0.mk (Kd.R_below (rk_ HO231) hb)
            have n12_ := Aside0.mk (blkb_ BK163 hb)
            have n13_ := Aside0.mk (blkb_ BK164 hb)
            have n14_ := Aside0.mk (blkb_ BK198 hb)
            have n15_ := Aside0.mk (blkb_ BK209 hb)
            have n16_ := Aside0.mk (below_step bl_ hb)
            clear HO173
            clear HO176
            clear HO183
            clear HO186
            clear HO194
            clear HO197
            clear HO205
            clear HO208
            clear HO217
            clear HO220
            clear HO228
            clear HO231
            clear BK163
            clear BK164
            clear BK198
            clear BK209
            clear HB
            have HO173 := n0_
            have HO176 := n1_
            have HO183 := n2_
            have HO186 := n3_
            have HO194 := n4_
            have HO197 := n5_
            have HO205 := n6_
            have HO208 := n7_
            have HO217 := n8_
            have HO220 := n9_
            have HO228 := n10_
            have HO231 := n11_
            have BK163 := n12_
            have BK164 := n13_
            have BK198 := n14_
            have BK209 := n15_
            have HB := n16_
            clear n0_ n1_ n2_ n3_ n4_ n5_ n6_ n7_ n8_ n9_ n10_ n11_ n12_ n13_ n14_ n15_ n16_
            (try clear hb)
            (try clear hb2)
            (try clear hk)
            (try clear hi)
            refine hK.out _ _ ⟨(blk_cell BK209.out 0).trans rfl, (blk_cell BK209.out 1).trans rfl, (blk_cell BK209.out 2).trans rfl, (blk_cell BK209.out 3).trans rfl, (blk_cell BK209.out 4).trans rfl, (blk_cell BK209.out 5).trans rfl, (blk_cell BK164.out 0).trans rfl, (blk_cell BK164.out 1).trans rfl, (blk_cell BK164.out 2).trans rfl, (blk_cell BK164.out 3).trans rfl, (blk_cell BK164.out 4).trans rfl, (blk_cell BK164.out 5).trans rfl⟩ (fun hHeld => ?_)
            clear hK K
            refine norm_ (a' := ?_) ?_ ?_
            rotate_left
            · show Act.put _ (some 43) _ = _
              simp only [Act.put, List.setIfInBounds_toArray, List.set_cons_zero, List.set_cons_succ, i64_w, i32_w]
              rfl
            refine pure_ (i := 4) (N := some 44) (v := ?_) (a' := ?_) #[true, true, true, true, true] rfl rfl (by kernel_rfl) (fun _ _ _ h => h) (Or.inl ⟨by rfl, ?_⟩) ?_ ?_
            rotate_left
            · intro w'
              go_simp
              with_reducible rfl
            rotate_left
            · simp only [Act.put, List.setIfInBounds_toArray, List.set_cons_zero, List.set_cons_succ, i64_w, i32_w]
              rfl
            refine done_ (by kernel_rfl) ?_
            try go_wp2
            go_ret
            exact ⟨au6_53, bl_⟩
        · replace c62 := Bool.eq_false_iff.mpr c62
          subst c62
          have H1 : (some false) = some r := by rw [if_neg (show ¬ (false = true) by decide)] at H; exact H
          clear H
          have H := H1
          clear H1
          obtain rfl := Option.some.inj H
          go_enter Try.func3, Try.ntmps3
          try go_wp2_with (first | ((with_reducible refine gate_dst (N := 2) rfl ?_); refine box_event ?hg (N := 2) ?hd (cs := #[.int .i64 a0_0, .string a0_1, .string a0_2, .int .i64 a0_3, .slice A0_4 l0_4.length c0_4, .slice A0_5 l0_5.length c0_5]) (t := 25) ?hr ?_; (case hd => rfl); (case hg => rfl); (case hr => exact hr_); intro gb163 hg w154 hbox hb; have n0_ := Aside0.mk (below_step bl_ hb); have n1_ := Aside0.mk (hbox); have n2_ := Aside0.mk (gw_ hg bl_); have n3_ := Aside0.mk (gw_ hg bl_); clear HB; have HB := n0_; have BK163 := n1_; have GW163 := n2_; have GE163 := n3_; clear n0_ n1_ n2_ n3_; clear hb hbox hg) | ((with_reducible refine gate_dst (N := 3) rfl ?_); refine box_event ?hg (N := 3) ?hd (cs := #[.int .i64 a1_0, .string a1_1, .string a1_2, .int .i64 a1_3, .slice A1_4 l1_4.length c1_4, .slice A1_5 l1_5.length c1_5]) (t := 25) ?hr ?_; (case hd => rfl); (case hg => rfl); (case hr => exact hr_); intro gb164 hg w155 hbox hb; have n0_ := Aside0.mk (blkb_ BK163 hb); have n1_ := Aside0.mk (below_step bl_ hb); have n2_ := Aside0.mk (hbox); have n3_ := Aside0.mk (gw_ hg bl_); have n4_ := Aside0.mk (gw_ hg bl_); have n5_ := Aside0.mk (gn_ hg (blkl_ BK163)); have n6_ := Aside0.mk (gm_ hg (blkl_ BK163)); clear BK163; clear HB; have BK163 := n0_; have HB := n1_; have BK164 := n2_; have GW164 := n3_; have GE164 := n4_; have NB163_164 := n5_; have NB164_163 := n6_; clear n0_ n1_ n2_ n3_ n4_ n5_ n6_; clear hb hbox hg; have hnb156 := NB163_164.out; have hnc156 := NB164_163.out; obtain ⟨hcz157_0, hcz157_1, hcz157_2, hcz157_3, hcz157_4, hcz157_5, hfz157_0, hfz157_1, hfz157_2, hfz157_3, hfz157_4, hfz157_5⟩ := cellsF6 BK163.out) | ((with_reducible refine gate_callee (f := 8) rfl ?_); refine gl_ 12 Try.func8 #[.agg #[.int .i64 a0_0, .string a0_1, .string a0_2, .int .i64 a0_3, .slice A0_4 l0_4.length c0_4, .slice A0_5 l0_5.length c0_5], .int .i64 1048576] ?_ rfl rfl rfl rfl; (with_reducible refine (laws_szPaper.calls k a0_0 a0_1 a0_2 a0_3 _ _ l0_4 _ _ l0_5 1048576 t165 _ ?side1 ?side2 ?side3 ?side4 A3.out).mono ?_); (case side1 => exact au6_5); (case side2 => exact HC0_4.out); (case side3 => exact au6_6); (case side4 => exact HC0_5.out); rintro e w158 ⟨rfl, hb⟩; refine ⟨_, rfl, ?_⟩; have n0_ := Aside0.mk (blkb_ BK163 hb); have n1_ := Aside0.mk (blkb_ BK164 hb); have n2_ := Aside0.mk (below_step bl_ hb); clear BK163; clear BK164; clear HB; have BK163 := n0_; have BK164 := n1_; have HB := n2_; clear n0_ n1_ n2_; (try clear hb); (try clear hb2); (try clear hk); (try clear hi); obtain ⟨hcz159_0, hcz159_1, hcz159_2, hcz159_3, hcz159_4, hcz159_5, hfz159_0, hfz159_1, hfz159_2, hfz159_3, hfz159_4, hfz159_5⟩ := cellsF6 BK164.out) | ((with_reducible refine gate_callee (f := 8) rfl ?_); refine gl_ 17 Try.func8 #[.agg #[.int .i64 a1_0, .string a1_1, .string a1_2, .int .i64 a1_3, .slice A1_4 l1_4.length c1_4, .slice A1_5 l1_5.length c1_5], .int .i64 t165] ?_ rfl rfl rfl rfl; (with_reducible refine (laws_szPaper.calls k a1_0 a1_1 a1_2 a1_3 _ _ l1_4 _ _ l1_5 t165 t166 _ ?side1 ?side2 ?side3 ?side4 A10.out).mono ?_); (case side1 => exact au6_7); (case side2 => exact HC1_4.out); (case side3 => exact au6_8); (case side4 => exact HC1_5.out); rintro e w160 ⟨rfl, hb⟩; refine ⟨_, rfl, ?_⟩; have n0_ := Aside0.mk (blkb_ BK163 hb); have n1_ := Aside0.mk (blkb_ BK164 hb); have n2_ := Aside0.mk (below_step bl_ hb); clear BK163; clear BK164; clear HB; have BK163 := n0_; have BK164 := n1_; have HB := n2_; clear n0_ n1_ n2_; (try clear hb); (try clear hb2); (try clear hk); (try clear hi)))
          have n0_ := Aside0.mk (blk_drew BK163.out)
          have n1_ := Aside0.mk (blk_drew BK164.out)
          have n2_ := Aside0.mk (below_drew1 HB.out)
          clear BK163
          clear BK164
          clear HB
          have BK163 := n0_
          have BK164 := n1_
          have HB := n2_
          clear n0_ n1_ n2_
          refine start_ (n := 6) (S := fun w' => w'.cell? ⟨gb163, 0, none⟩ = some (.int .i64 a0_0) ∧ w'.cell? ⟨gb163, 1, none⟩ = some (.string a0_1) ∧ w'.cell? ⟨gb163, 2, none⟩ = some (.string a0_2) ∧ w'.cell? ⟨gb163, 3, none⟩ = some (.int .i64 a0_3) ∧ w'.cell? ⟨gb163, 4, none⟩ = some (.slice A0_4 l0_4.length c0_4) ∧ w'.cell? ⟨gb163, 5, none⟩ = some (.slice A0_5 l0_5.length c0_5) ∧ w'.cell? ⟨gb164, 0, none⟩ = some (.int .i64 a1_0) ∧ w'.cell? ⟨gb164, 1, none⟩ = some (.string a1_1) ∧ w'.cell? ⟨gb164, 2, none⟩ = some (.string a1_2) ∧ w'.cell? ⟨gb164, 3, none⟩ = some (.int .i64 a1_3) ∧ w'.cell? ⟨gb164, 4, none⟩ = some (.slice A1_4 l1_4.length c1_4) ∧ w'.cell? ⟨gb164, 5, none⟩ = some (.slice A1_5 l1_5.length c1_5)) (ds := []) (bs 6 0) (by kernel_rfl) rfl rfl ⟨(blk_cell BK163.out 0).trans rfl, (blk_cell BK163.out 1).trans rfl, (blk_cell BK163.out 2).trans rfl, (blk_cell BK163.out 3).trans rfl, (blk_cell BK163.out 4).trans rfl, (blk_cell BK163.out 5).trans rfl, (blk_cell BK164.out 0).trans rfl, (blk_cell BK164.out 1).trans rfl, (blk_cell BK164.out 2).trans rfl, (blk_cell BK164.out 3).trans rfl, (blk_cell BK164.out 4).trans rfl, (blk_cell BK164.out 5).trans rfl⟩ (fun hHeld => ?_)
          generalize w160.drew = w161 at BK163 BK164 HB hHeld ⊢
          refine take_ (i := 0) (N := some 20) (v := ?_) (a' := ?_) (bs 6 1) rfl rfl (by kernel_rfl) (fun _ _ _ h => h) (Or.inl ⟨by rfl, ?_⟩) hHeld ?_ ?_
          rotate_left
          · rintro w' ⟨s0, s1, s2, s3, s4, s5, s6, s7, s8, s9, s10, s11⟩
            go_simp
            with_reducible rfl
          rotate_left
          · simp only [Act.put, List.setIfInBounds_toArray, List.set_cons_zero, List.set_cons_succ, i64_w, i32_w]
            rfl
          refine take_ (i := 2) (N := some 22) (v := ?_) (a' := ?_) (bs 6 5) rfl rfl (by kernel_rfl) (fun _ _ _ h => h) (Or.inl ⟨by rfl, ?_⟩) hHeld ?_ ?_
          rotate_left
          · rintro w' ⟨s0, s1, s2, s3, s4, s5, s6, s7, s8, s9, s10, s11⟩
            go_simp
            with_reducible rfl
          rotate_left
          · simp only [Act.put, List.setIfInBounds_toArray, List.set_cons_zero, List.set_cons_succ, i64_w, i32_w]
            rfl
          refine one_ (i := 1) (N := some 21) (bs 6 7) rfl rfl (by kernel_rfl) (by decide) (fun K hK => ?_)
          refine gr_ Try.func10 #[.agg #[.int .i64 a0_0, .string a0_1, .string a0_2, .int .i64 a0_3, .slice A0_4 l0_4.length c0_4, .slice A0_5 l0_5.length c0_5]] (by rfl) ?_ rfl rfl rfl
          with_reducible refine (laws_toPaper.calls k a0_0 a0_1 a0_2 a0_3 _ _ l0_4 _ _ l0_5 t167 t168 t169 t170 t171 t174 _ ?side1 ?side2 ?side3 ?side4 A19.out).mono ?_
          (case side1 => exact au6_5)
          (case side2 => exact HC0_4.out)
          (case side3 => exact au6_6)
          (case side4 => exact HC0_5.out)
          rintro e w162 ⟨v172, v175, rfl, ho0, ho1, hb⟩
          refine ⟨_, rfl, ?_⟩
          have n0_ := Aside0.mk (Kd.R_lower ho0 (below_size bl_))
          have n1_ := Aside0.mk (Kd.R_lower ho1 (below_size bl_))
          have n2_ := Aside0.mk (blkb_ BK163 hb)
          have n3_ := Aside0.mk (blkb_ BK164 hb)
          have n4_ := Aside0.mk (below_step bl_ hb)
          clear BK163
          clear BK164
          clear HB
          have HO173 := n0_
          have HO176 := n1_
          have BK163 := n2_
          have BK164 := n3_
          have HB := n4_
          clear n0_ n1_ n2_ n3_ n4_
          (try clear hb)
          (try clear hb2)
          (try clear hk)
          (try clear hi)
          (try clear ho0)
          (try clear ho1)
          refine hK.out _ _ ⟨(blk_cell BK163.out 0).trans rfl, (blk_cell BK163.out 1).trans rfl, (blk_cell BK163.out 2).trans rfl, (blk_cell BK163.out 3).trans rfl, (blk_cell BK163.out 4).trans rfl, (blk_cell BK163.out 5).trans rfl, (blk_cell BK164.out 0).trans rfl, (blk_cell BK164.out 1).trans rfl, (blk_cell BK164.out 2).trans rfl, (blk_cell BK164.out 3).trans rfl, (blk_cell BK164.out 4).trans rfl, (blk_cell BK164.out 5).trans rfl⟩ (fun hHeld => ?_)
          clear hK K
          refine norm_ (a' := ?_) ?_ ?_
          rotate_left
          · show Act.put _ (some 21) _ = _
            simp only [Act.put, List.setIfInBounds_toArray, List.set_cons_zero, List.set_cons_succ, i64_w, i32_w]
            rfl
          refine one_ (i := 3) (N := some 23) (bs 6 15) rfl rfl (by kernel_rfl) (by decide) (fun K hK => ?_)
          refine gr_ Try.func10 #[.agg #[.int .i64 a1_0, .string a1_1, .string a1_2, .int .i64 a1_3, .slice A1_4 l1_4.length c1_4, .slice A1_5 l1_5.length c1_5]] (by rfl) ?_ rfl rfl rfl
          with_reducible refine (laws_toPaper.calls k a1_0 a1_1 a1_2 a1_3 _ _ l1_4 _ _ l1_5 t177 t178 t179 t180 t181 t184 _ ?side1 ?side2 ?side3 ?side4 A20.out).mono ?_
          (case side1 => exact au6_7)
          (case side2 => exact HC1_4.out)
          (case side3 => exact au6_8)
          (case side4 => exact HC1_5.out)
          rintro e w163 ⟨v182, v185, rfl, ho0, ho1, hb⟩
          refine ⟨_, rfl, ?_⟩
          have n0_ := Aside0.mk (Kd.R_elder' (rk_ HO173) (Kd.R_base ho0) hb)
          have n1_ := Aside0.mk (Kd.R_elder' (rk_ HO176) (Kd.R_base ho1) hb)
          have n2_ := Aside0.mk (Kd.R_lower (Kd.R_new' ho0 (Kd.R_lt (rk_ HO173))) (below_size bl_))
          have n3_ := Aside0.mk (Kd.R_lower (Kd.R_new' ho1 (Kd.R_lt (rk_ HO176))) (below_size bl_))
          have n4_ := Aside0.mk (blkb_ BK163 hb)
          have n5_ := Aside0.mk (blkb_ BK164 hb)
          have n6_ := Aside0.mk (below_step bl_ hb)
          clear HO173
          clear HO176
          clear BK163
          clear BK164
          clear HB
          have HO173 := n0_
          have HO176 := n1_
          have HO183 := n2_
          have HO186 := n3_
          have BK163 := n4_
          have BK164 := n5_
          have HB := n6_
          clear n0_ n1_ n2_ n3_ n4_ n5_ n6_
          (try clear hb)
          (try clear hb2)
          (try clear hk)
          (try clear hi)
          (try clear ho0)
          (try clear ho1)
          obtain ⟨Ao164, co164, eo164⟩ := Kd.R_slice HO173.out
          (first | subst eo164 | (injection eo164 with f1_ f2_ f3_; have f4_ := f1_.symm; have f5_ := f3_.symm; clear f1_ f2_ f3_; subst f4_; subst f5_))
          obtain ⟨Ao165, co165, eo165⟩ := Kd.R_slice HO176.out
          (first | subst eo165 | (injection eo165 with f1_ f2_ f3_; have f4_ := f1_.symm; have f5_ := f3_.symm; clear f1_ f2_ f3_; subst f4_; subst f5_))
          obtain ⟨Ao166, co166, eo166⟩ := Kd.R_slice HO183.out
          (first | subst eo166 | (injection eo166 with f1_ f2_ f3_; have f4_ := f1_.symm; have f5_ := f3_.symm; clear f1_ f2_ f3_; subst f4_; subst f5_))
          obtain ⟨Ao167, co167, eo167⟩ := Kd.R_slice HO186.out
          (first | subst eo167 | (injection eo167 with f1_ f2_ f3_; have f4_ := f1_.symm; have f5_ := f3_.symm; clear f1_ f2_ f3_; subst f4_; subst f5_))
          refine hK.out _ _ ⟨(blk_cell BK163.out 0).trans rfl, (blk_cell BK163.out 1).trans rfl, (blk_cell BK163.out 2).trans rfl, (blk_cell BK163.out 3).trans rfl, (blk_cell BK163.out 4).trans rfl, (blk_cell BK163.out 5).trans rfl, (blk_cell BK164.out 0).trans rfl, (blk_cell BK164.out 1).trans rfl, (blk_cell BK164.out 2).trans rfl, (blk_cell BK164.out 3).trans rfl, (blk_cell BK164.out 4).trans rfl, (blk_cell BK164.out 5).trans rfl⟩ (fun hHeld => ?_)
          clear hK K
          refine norm_ (a' := ?_) ?_ ?_
          rotate_left
          · show Act.put _ (some 23) _ = _
            simp only [Act.put, List.setIfInBounds_toArray, List.set_cons_zero, List.set_cons_succ, i64_w, i32_w]
            rfl
          refine one_ (i := 4) (N := some 24) (bs 6 31) rfl rfl (by kernel_rfl) (by decide) (fun K hK => ?_)
          refine gr_ Try.func9 #[.agg #[.int .i64 t167, .string t168, .string t169, .int .i64 t170, .slice Ao164 t171.length co164, .slice Ao165 t174.length co165], .agg #[.int .i64 t177, .string t178, .string t179, .int .i64 t180, .slice Ao166 t181.length co166, .slice Ao167 t184.length co167]] (by rfl) ?_ rfl rfl rfl
          with_reducible refine (spec_PaperSame.calls k t167 t168 t169 t170 _ _ t171 _ _ t174 t177 t178 t179 t180 _ _ t181 _ _ t184 t187 _ ?side1 ?side2 ?side3 ?side4 ?side5 ?side6 ?side7 ?side8 A21.out).mono ?_
          (case side1 => exact au6_49)
          (case side2 => exact au6_66)
          (case side3 => exact au6_50)
          (case side4 => exact au6_67)
          (case side5 => exact au6_51)
          (case side6 => exact au6_68)
          (case side7 => exact au6_52)
          (case side8 => exact au6_69)
          rintro e w168 ⟨rfl, hb⟩
          refine ⟨_, rfl, ?_⟩
          have n0_ := Aside0.mk (Kd.R_below (rk_ HO173) hb)
          have n1_ := Aside0.mk (Kd.R_below (rk_ HO176) hb)
          have n2_ := Aside0.mk (Kd.R_below (rk_ HO183) hb)
          have n3_ := Aside0.mk (Kd.R_below (rk_ HO186) hb)
          have n4_ := Aside0.mk (blkb_ BK163 hb)
          have n5_ := Aside0.mk (blkb_ BK164 hb)
          have n6_ := Aside0.mk (below_step bl_ hb)
          clear HO173
          clear HO176
          clear HO183
          clear HO186
          clear BK163
          clear BK164
          clear HB
          have HO173 := n0_
          have HO176 := n1_
          have HO183 := n2_
          have HO186 := n3_
          have BK163 := n4_
          have BK164 := n5_
          have HB := n6_
          clear n0_ n1_ n2_ n3_ n4_ n5_ n6_
          (try clear hb)
          (try clear hb2)
          (try clear hk)
          (try clear hi)
          refine hK.out _ _ ⟨(blk_cell BK163.out 0).trans rfl, (blk_cell BK163.out 1).trans rfl, (blk_cell BK163.out 2).trans rfl, (blk_cell BK163.out 3).trans rfl, (blk_cell BK163.out 4).trans rfl, (blk_cell BK163.out 5).trans rfl, (blk_cell BK164.out 0).trans rfl, (blk_cell BK164.out 1).trans rfl, (blk_cell BK164.out 2).trans rfl, (blk_cell BK164.out 3).trans rfl, (blk_cell BK164.out 4).trans rfl, (blk_cell BK164.out 5).trans rfl⟩ (fun hHeld => ?_)
          clear hK K
          refine norm_ (a' := ?_) ?_ ?_
          rotate_left
          · show Act.put _ (some 24) _ = _
            simp only [Act.put, List.setIfInBounds_toArray, List.set_cons_zero, List.set_cons_succ, i64_w, i32_w]
            rfl
          refine pure_ (i := 5) (N := some 6) (v := ?_) (a' := ?_) (bs 6 63) rfl rfl (by kernel_rfl) (fun _ _ _ h => h) (Or.inl ⟨by rfl, ?_⟩) ?_ ?_
          rotate_left
          · intro w'
            go_simp
            with_reducible rfl
          rotate_left
          · simp only [Act.put, List.setIfInBounds_toArray, List.set_cons_zero, List.set_cons_succ, i64_w, i32_w]
            rfl
          refine done_ (by kernel_rfl) ?_
          obtain ⟨hcz169_0, hcz169_1, hcz169_2, hcz169_3, hcz169_4, hcz169_5, hfz169_0, hfz169_1, hfz169_2, hfz169_3, hfz169_4, hfz169_5⟩ := cellsF6 BK163.out
          try go_wp2_with (first | ((with_reducible refine gate_callee (f := 10) rfl ?_); refine gl_ 26 Try.func10 #[.agg #[.int .i64 a0_0, .string a0_1, .string a0_2, .int .i64 a0_3, .slice A0_4 l0_4.length c0_4, .slice A0_5 l0_5.length c0_5]] ?_ rfl rfl rfl rfl; (with_reducible refine (laws_toPaper.calls k a0_0 a0_1 a0_2 a0_3 _ _ l0_4 _ _ l0_5 t188 t189 t190 t191 t192 t195 _ ?side1 ?side2 ?side3 ?side4 A22.out).mono ?_); (case side1 => exact au6_5); (case side2 => exact HC0_4.out); (case side3 => exact au6_6); (case side4 => exact HC0_5.out); rintro e w170 ⟨v193, v196, rfl, ho0, ho1, hb⟩; refine ⟨_, rfl, ?_⟩; have n0_ := Aside0.mk (Kd.R_elder' (rk_ HO173) (Kd.R_base ho0) hb); have n1_ := Aside0.mk (Kd.R_elder' (rk_ HO176) (Kd.R_base ho1) hb); have n2_ := Aside0.mk (Kd.R_elder' (rk_ HO183) (Kd.R_base ho0) hb); have n3_ := Aside0.mk (Kd.R_elder' (rk_ HO186) (Kd.R_base ho1) hb); have n4_ := Aside0.mk (Kd.R_lower (Kd.R_new' (Kd.R_new' ho0 (Kd.R_lt (rk_ HO173))) (Kd.R_lt (rk_ HO183))) (below_size bl_)); have n5_ := Aside0.mk (Kd.R_lower (Kd.R_new' (Kd.R_new' ho1 (Kd.R_lt (rk_ HO176))) (Kd.R_lt (rk_ HO186))) (below_size bl_)); have n6_ := Aside0.mk (blkb_ BK163 hb); have n7_ := Aside0.mk (blkb_ BK164 hb); have n8_ := Aside0.mk (below_step bl_ hb); clear HO173; clear HO176; clear HO183; clear HO186; clear BK163; clear BK164; clear HB; have HO173 := n0_; have HO176 := n1_; have HO183 := n2_; have HO186 := n3_; have HO194 := n4_; have HO197 := n5_; have BK163 := n6_; have BK164 := n7_; have HB := n8_; clear n0_ n1_ n2_ n3_ n4_ n5_ n6_ n7_ n8_; (try clear hb); (try clear hb2); (try clear hk); (try clear hi); (try clear ho0); (try clear ho1)) | ((with_reducible refine gate_dst (N := 7) rfl ?_); refine box_event ?hg (N := 7) ?hd (cs := #[.int .i64 0, .string (⟨#[]⟩ : ByteArray), .string (⟨#[]⟩ : ByteArray), .int .i64 0, .slice none 0 0, .slice none 0 0]) (t := 30) ?hr ?_; (case hd => rfl); (case hg => rfl); (case hr => exact hr_); intro gb198 hg w171 hbox hb; have n0_ := Aside0.mk (Kd.R_below (rk_ HO173) hb); have n1_ := Aside0.mk (Kd.R_below (rk_ HO176) hb); have n2_ := Aside0.mk (Kd.R_below (rk_ HO183) hb); have n3_ := Aside0.mk (Kd.R_below (rk_ HO186) hb); have n4_ := Aside0.mk (Kd.R_below (rk_ HO194) hb); have n5_ := Aside0.mk (Kd.R_below (rk_ HO197) hb); have n6_ := Aside0.mk (blkb_ BK163 hb); have n7_ := Aside0.mk (blkb_ BK164 hb); have n8_ := Aside0.mk (below_step bl_ hb); have n9_ := Aside0.mk (hbox); have n10_ := Aside0.mk (gw_ hg bl_); have n11_ := Aside0.mk (gw_ hg bl_); have n12_ := Aside0.mk (gn_ hg (blkl_ BK163)); have n13_ := Aside0.mk (gm_ hg (blkl_ BK163)); have n14_ := Aside0.mk (gn_ hg (blkl_ BK164)); have n15_ := Aside0.mk (gm_ hg (blkl_ BK164)); clear HO173; clear HO176; clear HO183; clear HO186; clear HO194; clear HO197; clear BK163; clear BK164; clear HB; have HO173 := n0_; have HO176 := n1_; have HO183 := n2_; have HO186 := n3_; have HO194 := n4_; have HO197 := n5_; have BK163 := n6_; have BK164 := n7_; have HB := n8_; have BK198 := n9_; have GW198 := n10_; have GE198 := n11_; have NB163_198 := n12_; have NB198_163 := n13_; have NB164_198 := n14_; have NB198_164 := n15_; clear n0_ n1_ n2_ n3_ n4_ n5_ n6_ n7_ n8_ n9_ n10_ n11_ n12_ n13_ n14_ n15_; clear hb hbox hg; have hnb172 := NB198_163.out; have hnc172 := NB163_198.out; have hnb173 := NB198_164.out; have hnc173 := NB164_198.out; obtain ⟨hcz174_0, hcz174_1, hcz174_2, hcz174_3, hcz174_4, hcz174_5, hfz174_0, hfz174_1, hfz174_2, hfz174_3, hfz174_4, hfz174_5⟩ := cellsF6 BK198.out; obtain ⟨Ao175, co175, eo175⟩ := Kd.R_slice HO194.out; subst eo175; obtain ⟨Ao176, co176, eo176⟩ := Kd.R_slice HO197.out; subst eo176; obtain ⟨hcz177_0, hcz177_1, hcz177_2, hcz177_3, hcz177_4, hcz177_5, hfz177_0, hfz177_1, hfz177_2, hfz177_3, hfz177_4, hfz177_5⟩ := cellsF6 BK164.out) | ((with_reducible refine gate_callee (f := 10) rfl ?_); refine gl_ 28 Try.func10 #[.agg #[.int .i64 a1_0, .string a1_1, .string a1_2, .int .i64 a1_3, .slice A1_4 l1_4.length c1_4, .slice A1_5 l1_5.length c1_5]] ?_ rfl rfl rfl rfl; (with_reducible refine (laws_toPaper.calls k a1_0 a1_1 a1_2 a1_3 _ _ l1_4 _ _ l1_5 t199 t200 t201 t202 t203 t206 _ ?side1 ?side2 ?side3 ?side4 A23.out).mono ?_); (case side1 => exact au6_70); (case side2 => exact HC1_4.out); (case side3 => exact au6_71); (case side4 => exact HC1_5.out); rintro e w178 ⟨v204, v207, rfl, ho0, ho1, hb⟩; refine ⟨_, rfl, ?_⟩; have n0_ := Aside0.mk (Kd.R_elder' au6_19 (Kd.R_base ho0) hb); have n1_ := Aside0.mk (Kd.R_elder' au6_20 (Kd.R_base ho1) hb); have n2_ := Aside0.mk (Kd.R_elder' au6_21 (Kd.R_base ho0) hb); have n3_ := Aside0.mk (Kd.R_elder' au6_22 (Kd.R_base ho1) hb); have n4_ := Aside0.mk (Kd.R_elder' au6_23 (Kd.R_base ho0) hb); have n5_ := Aside0.mk (Kd.R_elder' au6_24 (Kd.R_base ho1) hb); have n6_ := Aside0.mk (Kd.R_lower (Kd.R_new' (Kd.R_new' (Kd.R_new' ho0 (Kd.R_lt au6_19)) (Kd.R_lt au6_21)) (Kd.R_lt au6_23)) (below_size bl_)); have n7_ := Aside0.mk (Kd.R_lower (Kd.R_new' (Kd.R_new' (Kd.R_new' ho1 (Kd.R_lt au6_20)) (Kd.R_lt au6_22)) (Kd.R_lt au6_24)) (below_size bl_)); have n8_ := Aside0.mk (blk_below (g := gb163) (o := .cells #[.int .i64 a0_0, .string a0_1, .string a0_2, .int .i64 a0_3, .slice A0_4 l0_4.length c0_4, .slice A0_5 l0_5.length c0_5] 25 (0, 0)) au6_0 hb); have n9_ := Aside0.mk (blk_below (g := gb164) (o := .cells #[.int .i64 a1_0, .string a1_1, .string a1_2, .int .i64 a1_3, .slice A1_4 l1_4.length c1_4, .slice A1_5 l1_5.length c1_5] 25 (0, 0)) au6_1 hb); have n10_ := Aside0.mk (blk_below (g := gb198) (o := .cells #[.int .i64 t188, .string t189, .string t190, .int .i64 t191, .slice Ao175 t192.length co175, .slice Ao176 t195.length co176] 30 (0, 0)) (by (with_reducible repeat (first | refine blk_drewN ?_ _ | refine blk_drew ?_ | refine blk_alloc ?_ _)); refine blk_put (cs := #[.int .i64 t188, .string t189, .string t190, .int .i64 t191, .slice Ao175 t192.length co175, .slice none 0 0]) ?_ 5 _ rfl; (with_reducible repeat (first | refine blk_drewN ?_ _ | refine blk_drew ?_ | refine blk_alloc ?_ _)); refine blk_put (cs := #[.int .i64 t188, .string t189, .string t190, .int .i64 t191, .slice none 0 0, .slice none 0 0]) ?_ 4 _ rfl; (with_reducible repeat (first | refine blk_drewN ?_ _ | refine blk_drew ?_ | refine blk_alloc ?_ _)); refine blk_put (cs := #[.int .i64 t188, .string t189, .string t190, .int .i64 0, .slice none 0 0, .slice none 0 0]) ?_ 3 _ rfl; (with_reducible repeat (first | refine blk_drewN ?_ _ | refine blk_drew ?_ | refine blk_alloc ?_ _)); refine blk_put (cs := #[.int .i64 t188, .string t189, .string (⟨#[]⟩ : ByteArray), .int .i64 0, .slice none 0 0, .slice none 0 0]) ?_ 2 _ rfl; (with_reducible repeat (first | refine blk_drewN ?_ _ | refine blk_drew ?_ | refine blk_alloc ?_ _)); refine blk_put (cs := #[.int .i64 t188, .string (⟨#[]⟩ : ByteArray), .string (⟨#[]⟩ : ByteArray), .int .i64 0, .slice none 0 0, .slice none 0 0]) ?_ 1 _ rfl; (with_reducible repeat (first | refine blk_drewN ?_ _ | refine blk_drew ?_ | refine blk_alloc ?_ _)); refine blk_put (cs := #[.int .i64 0, .string (⟨#[]⟩ : ByteArray), .string (⟨#[]⟩ : ByteArray), .int .i64 0, .slice none 0 0, .slice none 0 0]) ?_ 0 _ rfl; (with_reducible repeat (first | refine blk_drewN ?_ _ | refine blk_drew ?_ | refine blk_alloc ?_ _)); exact BK198.out) hb); have n11_ := Aside0.mk (below_step bl_ hb); clear HO173; clear HO176; clear HO183; clear HO186; clear HO194; clear HO197; clear BK163; clear BK164; clear BK198; clear HB; have HO173 := n0_; have HO176 := n1_; have HO183 := n2_; have HO186 := n3_; have HO194 := n4_; have HO197 := n5_; have HO205 := n6_; have HO208 := n7_; have BK163 := n8_; have BK164 := n9_; have BK198 := n10_; have HB := n11_; clear n0_ n1_ n2_ n3_ n4_ n5_ n6_ n7_ n8_ n9_ n10_ n11_; (try clear hb); (try clear hb2); (try clear hk); (try clear hi); (try clear ho0); (try clear ho1)) | ((with_reducible refine gate_dst (N := 8) rfl ?_); refine box_event ?hg (N := 8) ?hd (cs := #[.int .i64 0, .string (⟨#[]⟩ : ByteArray), .string (⟨#[]⟩ : ByteArray), .int .i64 0, .slice none 0 0, .slice none 0 0]) (t := 30) ?hr ?_; (case hd => rfl); (case hg => rfl); (case hr => exact hr_); intro gb209 hg w179 hbox hb; have n0_ := Aside0.mk (Kd.R_below (rk_ HO173) hb); have n1_ := Aside0.mk (Kd.R_below (rk_ HO176) hb); have n2_ := Aside0.mk (Kd.R_below (rk_ HO183) hb); have n3_ := Aside0.mk (Kd.R_below (rk_ HO186) hb); have n4_ := Aside0.mk (Kd.R_below (rk_ HO194) hb); have n5_ := Aside0.mk (Kd.R_below (rk_ HO197) hb); have n6_ := Aside0.mk (Kd.R_below (rk_ HO205) hb); have n7_ := Aside0.mk (Kd.R_below (rk_ HO208) hb); have n8_ := Aside0.mk (blkb_ BK163 hb); have n9_ := Aside0.mk (blkb_ BK164 hb); have n10_ := Aside0.mk (blkb_ BK198 hb); have n11_ := Aside0.mk (below_step bl_ hb); have n12_ := Aside0.mk (hbox); have n13_ := Aside0.mk (gw_ hg bl_); have n14_ := Aside0.mk (gw_ hg bl_); have n15_ := Aside0.mk (gn_ hg (blkl_ BK163)); have n16_ := Aside0.mk (gm_ hg (blkl_ BK163)); have n17_ := Aside0.mk (gn_ hg (blkl_ BK164)); have n18_ := Aside0.mk (gm_ hg (blkl_ BK164)); have n19_ := Aside0.mk (gn_ hg (blkl_ BK198)); have n20_ := Aside0.mk (gm_ hg (blkl_ BK198)); clear HO173; clear HO176; clear HO183; clear HO186; clear HO194; clear HO197; clear HO205; clear HO208; clear BK163; clear BK164; clear BK198; clear HB; have HO173 := n0_; have HO176 := n1_; have HO183 := n2_; have HO186 := n3_; have HO194 := n4_; have HO197 := n5_; have HO205 := n6_; have HO208 := n7_; have BK163 := n8_; have BK164 := n9_; have BK198 := n10_; have HB := n11_; have BK209 := n12_; have GW209 := n13_; have GE209 := n14_; have NB163_209 := n15_; have NB209_163 := n16_; have NB164_209 := n17_; have NB209_164 := n18_; have NB198_209 := n19_; have NB209_198 := n20_; clear n0_ n1_ n2_ n3_ n4_ n5_ n6_ n7_ n8_ n9_ n10_ n11_ n12_ n13_ n14_ n15_ n16_ n17_ n18_ n19_ n20_; clear hb hbox hg; have hnb180 := NB209_163.out; have hnc180 := NB163_209.out; have hnb181 := NB209_164.out; have hnc181 := NB164_209.out; have hnb182 := NB209_198.out; have hnc182 := NB198_209.out; obtain ⟨hcz183_0, hcz183_1, hcz183_2, hcz183_3, hcz183_4, hcz183_5, hfz183_0, hfz183_1, hfz183_2, hfz183_3, hfz183_4, hfz183_5⟩ := cellsF6 BK209.out; obtain ⟨Ao184, co184, eo184⟩ := Kd.R_slice HO205.out; subst eo184; obtain ⟨Ao185, co185, eo185⟩ := Kd.R_slice HO208.out; subst eo185; obtain ⟨hcz186_0, hcz186_1, hcz186_2, hcz186_3, hcz186_4, hcz186_5, hfz186_0, hfz186_1, hfz186_2, hfz186_3, hfz186_4, hfz186_5⟩ := cellsF6 BK198.out) | ((with_reducible refine gate_callee (f := 11) rfl ?_); refine gl_ 31 Try.func11 #[.agg #[.int .i64 t188, .string t189, .string t190, .int .i64 t191, .slice Ao175 t192.length co175, .slice Ao176 t195.length co176], .agg #[.int .i64 t199, .string t200, .string t201, .int .i64 t202, .slice Ao184 t203.length co184, .slice Ao185 t206.length co185]] ?_ rfl rfl rfl rfl; (with_reducible refine (impl_PaperSame.calls k t188 t189 t190 t191 _ _ t192 _ _ t195 t199 t200 t201 t202 _ _ t203 _ _ t206 t210 _ ?side1 ?side2 ?side3 ?side4 ?side5 ?side6 ?side7 ?side8 A24.out).mono ?_); (case side1 => refine (Kd.R_reads' (e := 9) (base := w.heap.size) (ok := fun k_ => (((True ∧ some k_ ≠ (.slice Ao164 t171.length co164 : Value).ownBlock) ∧ some k_ ≠ (.slice Ao166 t181.length co166 : Value).ownBlock) ∧ some k_ ≠ (.slice Ao184 t203.length co184 : Value).ownBlock)) (n := t192.length) (c := co175) ?_).2.2; exact au6_25); (case side2 => exact au6_62); (case side3 => refine (Kd.R_reads' (e := 71) (base := w.heap.size) (ok := fun k_ => (((True ∧ some k_ ≠ (.slice Ao165 t174.length co165 : Value).ownBlock) ∧ some k_ ≠ (.slice Ao167 t184.length co167 : Value).ownBlock) ∧ some k_ ≠ (.slice Ao185 t206.length co185 : Value).ownBlock)) (n := t195.length) (c := co176) ?_).2.2; exact au6_26); (case side4 => exact au6_63); (case side5 => refine (Kd.R_reads' (e := 9) (base := w.heap.size) (ok := fun k_ => (((True ∧ some k_ ≠ (.slice Ao164 t171.length co164 : Value).ownBlock) ∧ some k_ ≠ (.slice Ao166 t181.length co166 : Value).ownBlock) ∧ some k_ ≠ (.slice Ao175 t192.length co175 : Value).ownBlock)) (n := t203.length) (c := co184) ?_).2.2; exact au6_27); (case side6 => exact au6_64); (case side7 => refine (Kd.R_reads' (e := 71) (base := w.heap.size) (ok := fun k_ => (((True ∧ some k_ ≠ (.slice Ao165 t174.length co165 : Value).ownBlock) ∧ some k_ ≠ (.slice Ao167 t184.length co167 : Value).ownBlock) ∧ some k_ ≠ (.slice Ao176 t195.length co176 : Value).ownBlock)) (n := t206.length) (c := co185) ?_).2.2; exact au6_28); (case side8 => exact au6_65); rintro e w187 ⟨rfl, hb⟩; refine ⟨_, rfl, ?_⟩; have n0_ := Aside0.mk (Kd.R_below (by (with_reducible repeat (first | apply Kd.R_alloc | apply Kd.R_drewN | apply Kd.R_drew)); exact (Kd.R_mono (Kd.R_far (p := ⟨gb209, 5, none⟩) (Kd.R_far (p := ⟨gb209, 4, none⟩) (Kd.R_far (p := ⟨gb209, 3, none⟩) (Kd.R_far (p := ⟨gb209, 2, none⟩) (Kd.R_far (p := ⟨gb209, 1, none⟩) (Kd.R_far (p := ⟨gb209, 0, none⟩) (Kd.R_types HO173.out BK209.out (by decide)) (fun _ hk => hk.2) (.int .i64 t199)) (fun _ hk => hk.2) (.string t200)) (fun _ hk => hk.2) (.string t201)) (fun _ hk => hk.2) (.int .i64 t202)) (fun _ hk => hk.2) (.slice Ao184 t203.length co184)) (fun _ hk => hk.2) (.slice Ao185 t206.length co185)) (fun _ h_ => h_.1))) hb); have n1_ := Aside0.mk (Kd.R_below (by (with_reducible repeat (first | apply Kd.R_alloc | apply Kd.R_drewN | apply Kd.R_drew)); exact (Kd.R_mono (Kd.R_far (p := ⟨gb209, 5, none⟩) (Kd.R_far (p := ⟨gb209, 4, none⟩) (Kd.R_far (p := ⟨gb209, 3, none⟩) (Kd.R_far (p := ⟨gb209, 2, none⟩) (Kd.R_far (p := ⟨gb209, 1, none⟩) (Kd.R_far (p := ⟨gb209, 0, none⟩) (Kd.R_types HO176.out BK209.out (by decide)) (fun _ hk => hk.2) (.int .i64 t199)) (fun _ hk => hk.2) (.string t200)) (fun _ hk => hk.2) (.string t201)) (fun _ hk => hk.2) (.int .i64 t202)) (fun _ hk => hk.2) (.slice Ao184 t203.length co184)) (fun _ hk => hk.2) (.slice Ao185 t206.length co185)) (fun _ h_ => h_.1))) hb); have n2_ := Aside0.mk (Kd.R_below (by (with_reducible repeat (first | apply Kd.R_alloc | apply Kd.R_drewN | apply Kd.R_drew)); exact (Kd.R_mono (Kd.R_far (p := ⟨gb209, 5, none⟩) (Kd.R_far (p := ⟨gb209, 4, none⟩) (Kd.R_far (p := ⟨gb209, 3, none⟩) (Kd.R_far (p := ⟨gb209, 2, none⟩) (Kd.R_far (p := ⟨gb209, 1, none⟩) (Kd.R_far (p := ⟨gb209, 0, none⟩) (Kd.R_types HO183.out BK209.out (by decide)) (fun _ hk => hk.2) (.int .i64 t199)) (fun _ hk => hk.2) (.string t200)) (fun _ hk => hk.2) (.string t201)) (fun _ hk => hk.2) (.int .i64 t202)) (fun _ hk => hk.2) (.slice Ao184 t203.length co184)) (fun _ hk => hk.2) (.slice Ao185 t206.length co185)) (fun _ h_ => h_.1))) hb); have n3_ := Aside0.mk (Kd.R_below (by (with_reducible repeat (first | apply Kd.R_alloc | apply Kd.R_drewN | apply Kd.R_drew)); exact (Kd.R_mono (Kd.R_far (p := ⟨gb209, 5, none⟩) (Kd.R_far (p := ⟨gb209, 4, none⟩) (Kd.R_far (p := ⟨gb209, 3, none⟩) (Kd.R_far (p := ⟨gb209, 2, none⟩) (Kd.R_far (p := ⟨gb209, 1, none⟩) (Kd.R_far (p := ⟨gb209, 0, none⟩) (Kd.R_types HO186.out BK209.out (by decide)) (fun _ hk => hk.2) (.int .i64 t199)) (fun _ hk => hk.2) (.string t200)) (fun _ hk => hk.2) (.string t201)) (fun _ hk => hk.2) (.int .i64 t202)) (fun _ hk => hk.2) (.slice Ao184 t203.length co184)) (fun _ hk => hk.2) (.slice Ao185 t206.length co185)) (fun _ h_ => h_.1))) hb); have n4_ := Aside0.mk (Kd.R_below au6_25 hb); have n5_ := Aside0.mk (Kd.R_below au6_26 hb); have n6_ := Aside0.mk (Kd.R_below au6_27 hb); have n7_ := Aside0.mk (Kd.R_below au6_28 hb); have n8_ := Aside0.mk (blk_below (g := gb163) (o := .cells #[.int .i64 a0_0, .string a0_1, .string a0_2, .int .i64 a0_3, .slice A0_4 l0_4.length c0_4, .slice A0_5 l0_5.length c0_5] 25 (0, 0)) au6_2 hb); have n9_ := Aside0.mk (blk_below (g := gb164) (o := .cells #[.int .i64 a1_0, .string a1_1, .string a1_2, .int .i64 a1_3, .slice A1_4 l1_4.length c1_4, .slice A1_5 l1_5.length c1_5] 25 (0, 0)) au6_3 hb); have n10_ := Aside0.mk (blk_below (g := gb198) (o := .cells #[.int .i64 t188, .string t189, .string t190, .int .i64 t191, .slice Ao175 t192.length co175, .slice Ao176 t195.length co176] 30 (0, 0)) au6_4 hb); have n11_ := Aside0.mk (blk_below (g := gb209) (o := .cells #[.int .i64 t199, .string t200, .string t201, .int .i64 t202, .slice Ao184 t203.length co184, .slice Ao185 t206.length co185] 30 (0, 0)) (by (with_reducible repeat (first | refine blk_drewN ?_ _ | refine blk_drew ?_ | refine blk_alloc ?_ _)); refine blk_put (cs := #[.int .i64 t199, .string t200, .string t201, .int .i64 t202, .slice Ao184 t203.length co184, .slice none 0 0]) ?_ 5 _ rfl; (with_reducible repeat (first | refine blk_drewN ?_ _ | refine blk_drew ?_ | refine blk_alloc ?_ _)); refine blk_put (cs := #[.int .i64 t199, .string t200, .string t201, .int .i64 t202, .slice none 0 0, .slice none 0 0]) ?_ 4 _ rfl; (with_reducible repeat (first | refine blk_drewN ?_ _ | refine blk_drew ?_ | refine blk_alloc ?_ _)); refine blk_put (cs := #[.int .i64 t199, .string t200, .string t201, .int .i64 0, .slice none 0 0, .slice none 0 0]) ?_ 3 _ rfl; (with_reducible repeat (first | refine blk_drewN ?_ _ | refine blk_drew ?_ | refine blk_alloc ?_ _)); refine blk_put (cs := #[.int .i64 t199, .string t200, .string (⟨#[]⟩ : ByteArray), .int .i64 0, .slice none 0 0, .slice none 0 0]) ?_ 2 _ rfl; (with_reducible repeat (first | refine blk_drewN ?_ _ | refine blk_drew ?_ | refine blk_alloc ?_ _)); refine blk_put (cs := #[.int .i64 t199, .string (⟨#[]⟩ : ByteArray), .string (⟨#[]⟩ : ByteArray), .int .i64 0, .slice none 0 0, .slice none 0 0]) ?_ 1 _ rfl; (with_reducible repeat (first | refine blk_drewN ?_ _ | refine blk_drew ?_ | refine blk_alloc ?_ _)); refine blk_put (cs := #[.int .i64 0, .string (⟨#[]⟩ : ByteArray), .string (⟨#[]⟩ : ByteArray), .int .i64 0, .slice none 0 0, .slice none 0 0]) ?_ 0 _ rfl; (with_reducible repeat (first | refine blk_drewN ?_ _ | refine blk_drew ?_ | refine blk_alloc ?_ _)); exact BK209.out) hb); have n12_ := Aside0.mk (below_step bl_ hb); clear HO173; clear HO176; clear HO183; clear HO186; clear HO194; clear HO197; clear HO205; clear HO208; clear BK163; clear BK164; clear BK198; clear BK209; clear HB; have HO173 := n0_; have HO176 := n1_; have HO183 := n2_; have HO186 := n3_; have HO194 := n4_; have HO197 := n5_; have HO205 := n6_; have HO208 := n7_; have BK163 := n8_; have BK164 := n9_; have BK198 := n10_; have BK209 := n11_; have HB := n12_; clear n0_ n1_ n2_ n3_ n4_ n5_ n6_ n7_ n8_ n9_ n10_ n11_ n12_; (try clear hb); (try clear hb2); (try clear hk); (try clear hi)))
          have n0_ := Aside0.mk (Kd.R_drew HO173.out)
          have n1_ := Aside0.mk (Kd.R_drew HO176.out)
          have n2_ := Aside0.mk (Kd.R_drew HO183.out)
          have n3_ := Aside0.mk (Kd.R_drew HO186.out)
          have n4_ := Aside0.mk (Kd.R_drew HO194.out)
          have n5_ := Aside0.mk (Kd.R_drew HO197.out)
          have n6_ := Aside0.mk (Kd.R_drew HO205.out)
          have n7_ := Aside0.mk (Kd.R_drew HO208.out)
          have n8_ := Aside0.mk (blk_drew BK163.out)
          have n9_ := Aside0.mk (blk_drew BK164.out)
          have n10_ := Aside0.mk (blk_drew BK198.out)
          have n11_ := Aside0.mk (blk_drew BK209.out)
          have n12_ := Aside0.mk (below_drew1 HB.out)
          clear HO173
          clear HO176
          clear HO183
          clear HO186
          clear HO194
          clear HO197
          clear HO205
          clear HO208
          clear BK163
          clear BK164
          clear BK198
          clear BK209
          clear HB
          have HO173 := n0_
          have HO176 := n1_
          have HO183 := n2_
          have HO186 := n3_
          have HO194 := n4_
          have HO197 := n5_
          have HO205 := n6_
          have HO208 := n7_
          have BK163 := n8_
          have BK164 := n9_
          have BK198 := n10_
          have BK209 := n11_
          have HB := n12_
          clear n0_ n1_ n2_ n3_ n4_ n5_ n6_ n7_ n8_ n9_ n10_ n11_ n12_
          refine start_ (n := 5) (S := fun w' => w'.cell? ⟨gb198, 0, none⟩ = some (.int .i64 t188) ∧ w'.cell? ⟨gb198, 1, none⟩ = some (.string t189) ∧ w'.cell? ⟨gb198, 2, none⟩ = some (.string t190) ∧ w'.cell? ⟨gb198, 3, none⟩ = some (.int .i64 t191) ∧ w'.cell? ⟨gb198, 4, none⟩ = some (.slice Ao175 t192.length co175) ∧ w'.cell? ⟨gb198, 5, none⟩ = some (.slice Ao176 t195.length co176) ∧ w'.cell? ⟨gb163, 0, none⟩ = some (.int .i64 a0_0) ∧ w'.cell? ⟨gb163, 1, none⟩ = some (.string a0_1) ∧ w'.cell? ⟨gb163, 2, none⟩ = some (.string a0_2) ∧ w'.cell? ⟨gb163, 3, none⟩ = some (.int .i64 a0_3) ∧ w'.cell? ⟨gb163, 4, none⟩ = some (.slice A0_4 l0_4.length c0_4) ∧ w'.cell? ⟨gb163, 5, none⟩ = some (.slice A0_5 l0_5.length c0_5)) (ds := []) #[false, false, false, false, false] (by kernel_rfl) rfl rfl ⟨(blk_cell BK198.out 0).trans rfl, (blk_cell BK198.out 1).trans rfl, (blk_cell BK198.out 2).trans rfl, (blk_cell BK198.out 3).trans rfl, (blk_cell BK198.out 4).trans rfl, (blk_cell BK198.out 5).trans rfl, (blk_cell BK163.out 0).trans rfl, (blk_cell BK163.out 1).trans rfl, (blk_cell BK163.out 2).trans rfl, (blk_cell BK163.out 3).trans rfl, (blk_cell BK163.out 4).trans rfl, (blk_cell BK163.out 5).trans rfl⟩ (fun hHeld => ?_)
          generalize w187.drew = w188 at HO173 HO176 HO183 HO186 HO194 HO197 HO205 HO208 BK163 BK164 BK198 BK209 HB hHeld ⊢
          refine take_ (i := 0) (N := some 35) (v := ?_) (a' := ?_) #[true, false, false, false, false] rfl rfl (by kernel_rfl) (fun _ _ _ h => h) (Or.inl ⟨by rfl, ?_⟩) hHeld ?_ ?_
          rotate_left
          · rintro w' ⟨s0, s1, s2, s3, s4, s5, s6, s7, s8, s9, s10, s11⟩
            go_simp
            with_reducible rfl
          rotate_left
          · simp only [Act.put, List.setIfInBounds_toArray, List.set_cons_zero, List.set_cons_succ, i64_w, i32_w]
            rfl
          refine take_ (i := 1) (N := some 36) (v := ?_) (a' := ?_) #[true, true, false, false, false] rfl rfl (by kernel_rfl) (fun _ _ _ h => h) (Or.inl ⟨by rfl, ?_⟩) hHeld ?_ ?_
          rotate_left
          · rintro w' ⟨s0, s1, s2, s3, s4, s5, s6, s7, s8, s9, s10, s11⟩
            go_simp
            with_reducible rfl
          rotate_left
          · simp only [Act.put, List.setIfInBounds_toArray, List.set_cons_zero, List.set_cons_succ, i64_w, i32_w]
            rfl
          refine one_ (i := 2) (N := some 37) #[true, true, true, false, false] rfl rfl (by kernel_rfl) (by decide) (fun K hK => ?_)
          refine gr_ Try.func10 #[.agg #[.int .i64 a0_0, .string a0_1, .string a0_2, .int .i64 a0_3, .slice A0_4 l0_4.length c0_4, .slice A0_5 l0_5.length c0_5]] (by rfl) ?_ rfl rfl rfl
          with_reducible refine (laws_toPaper.calls k a0_0 a0_1 a0_2 a0_3 _ _ l0_4 _ _ l0_5 t211 t212 t213 t214 t215 t218 _ ?side1 ?side2 ?side3 ?side4 A60.out).mono ?_
          (case side1 => exact au6_5)
          (case side2 => exact HC0_4.out)
          (case side3 => exact au6_6)
          (case side4 => exact HC0_5.out)
          rintro e w189 ⟨v216, v219, rfl, ho0, ho1, hb⟩
          refine ⟨_, rfl, ?_⟩
          have n0_ := Aside0.mk (Kd.R_elder' (rk_ HO173) (Kd.R_base ho0) hb)
          have n1_ := Aside0.mk (Kd.R_elder' (rk_ HO176) (Kd.R_base ho1) hb)
          have n2_ := Aside0.mk (Kd.R_elder' (rk_ HO183) (Kd.R_base ho0) hb)
          have n3_ := Aside0.mk (Kd.R_elder' (rk_ HO186) (Kd.R_base ho1) hb)
          have n4_ := Aside0.mk (Kd.R_elder' (rk_ HO194) (Kd.R_base ho0) hb)
          have n5_ := Aside0.mk (Kd.R_elder' (rk_ HO197) (Kd.R_base ho1) hb)
          have n6_ := Aside0.mk (Kd.R_elder' (rk_ HO205) (Kd.R_base ho0) hb)
          have n7_ := Aside0.mk (Kd.R_elder' (rk_ HO208) (Kd.R_base ho1) hb)
          have n8_ := Aside0.mk (Kd.R_lower (Kd.R_new' (Kd.R_new' (Kd.R_new' (Kd.R_new' ho0 (Kd.R_lt (rk_ HO173))) (Kd.R_lt (rk_ HO183))) (Kd.R_lt (rk_ HO194))) (Kd.R_lt (rk_ HO205))) (below_size bl_))
          have n9_ := Aside0.mk (Kd.R_lower (Kd.R_new' (Kd.R_new' (Kd.R_new' (Kd.R_new' ho1 (Kd.R_lt (rk_ HO176))) (Kd.R_lt (rk_ HO186))) (Kd.R_lt (rk_ HO197))) (Kd.R_lt (rk_ HO208))) (below_size bl_))
          have n10_ := Aside0.mk (blkb_ BK163 hb)
          have n11_ := Aside0.mk (blkb_ BK164 hb)
          have n12_ := Aside0.mk (blkb_ BK198 hb)
          have n13_ := Aside0.mk (blkb_ BK209 hb)
          have n14_ := Aside0.mk (below_step bl_ hb)
          clear HO173
          clear HO176
          clear HO183
          clear HO186
          clear HO194
          clear HO197
          clear HO205
          clear HO208
          clear BK163
          clear BK164
          clear BK198
          clear BK209
          clear HB
          have HO173 := n0_
          have HO176 := n1_
          have HO183 := n2_
          have HO186 := n3_
          have HO194 := n4_
          have HO197 := n5_
          have HO205 := n6_
          have HO208 := n7_
          have HO217 := n8_
          have HO220 := n9_
          have BK163 := n10_
          have BK164 := n11_
          have BK198 := n12_
          have BK209 := n13_
          have HB := n14_
          clear n0_ n1_ n2_ n3_ n4_ n5_ n6_ n7_ n8_ n9_ n10_ n11_ n12_ n13_ n14_
          (try clear hb)
          (try clear hb2)
          (try clear hk)
          (try clear hi)
          (try clear ho0)
          (try clear ho1)
          obtain ⟨Ao190, co190, eo190⟩ := Kd.R_slice HO217.out
          (first | subst eo190 | (injection eo190 with f1_ f2_ f3_; have f4_ := f1_.symm; have f5_ := f3_.symm; clear f1_ f2_ f3_; subst f4_; subst f5_))
          obtain ⟨Ao191, co191, eo191⟩ := Kd.R_slice HO220.out
          (first | subst eo191 | (injection eo191 with f1_ f2_ f3_; have f4_ := f1_.symm; have f5_ := f3_.symm; clear f1_ f2_ f3_; subst f4_; subst f5_))
          refine hK.out _ _ ⟨(blk_cell BK198.out 0).trans rfl, (blk_cell BK198.out 1).trans rfl, (blk_cell BK198.out 2).trans rfl, (blk_cell BK198.out 3).trans rfl, (blk_cell BK198.out 4).trans rfl, (blk_cell BK198.out 5).trans rfl, (blk_cell BK163.out 0).trans rfl, (blk_cell BK163.out 1).trans rfl, (blk_cell BK163.out 2).trans rfl, (blk_cell BK163.out 3).trans rfl, (blk_cell BK163.out 4).trans rfl, (blk_cell BK163.out 5).trans rfl⟩ (fun hHeld => ?_)
          clear hK K
          refine norm_ (a' := ?_) ?_ ?_
          rotate_left
          · show Act.put _ (some 37) _ = _
            simp only [Act.put, List.setIfInBounds_toArray, List.set_cons_zero, List.set_cons_succ, i64_w, i32_w]
            rfl
          refine one_ (i := 3) (N := some 38) #[true, true, true, true, false] rfl rfl (by kernel_rfl) (by decide) (fun K hK => ?_)
          refine gr_ Try.func12 #[.agg #[.int .i64 t188, .string t189, .string t190, .int .i64 t191, .slice Ao175 t192.length co175, .slice Ao176 t195.length co176], .agg #[.int .i64 t211, .string t212, .string t213, .int .i64 t214, .slice Ao190 t215.length co190, .slice Ao191 t218.length co191]] (by rfl) ?_ rfl rfl rfl
          with_reducible refine (laws_eqPaper.calls k t188 t189 t190 t191 _ _ t192 _ _ t195 t211 t212 t213 t214 _ _ t215 _ _ t218 false _ ?side1 ?side2 ?side3 ?side4 ?side5 ?side6 ?side7 ?side8 A61.out).mono ?_
          (case side1 => exact au6_54)
          (case side2 => exact au6_62)
          (case side3 => exact au6_55)
          (case side4 => exact au6_63)
          (case side5 => exact au6_56)
          (case side6 => exact (Kd.R_reads' HO217.out).2.1)
          (case side7 => exact au6_57)
          (case side8 => exact (Kd.R_reads' HO220.out).2.1)
          rintro e w192 ⟨rfl, hb⟩
          refine ⟨_, rfl, ?_⟩
          have n0_ := Aside0.mk (Kd.R_below (rk_ HO173) hb)
          have n1_ := Aside0.mk (Kd.R_below (rk_ HO176) hb)
          have n2_ := Aside0.mk (Kd.R_below (rk_ HO183) hb)
          have n3_ := Aside0.mk (Kd.R_below (rk_ HO186) hb)
          have n4_ := Aside0.mk (Kd.R_below (rk_ HO194) hb)
          have n5_ := Aside0.mk (Kd.R_below (rk_ HO197) hb)
          have n6_ := Aside0.mk (Kd.R_below (rk_ HO205) hb)
          have n7_ := Aside0.mk (Kd.R_below (rk_ HO208) hb)
          have n8_ := Aside0.mk (Kd.R_below (rk_ HO217) hb)
          have n9_ := Aside0.mk (Kd.R_below (rk_ HO220) hb)
          have n10_ := Aside0.mk (blkb_ BK163 hb)
          have n11_ := Aside0.mk (blkb_ BK164 hb)
          have n12_ := Aside0.mk (blkb_ BK198 hb)
          have n13_ := Aside0.mk (blkb_ BK209 hb)
          have n14_ := Aside0.mk (below_step bl_ hb)
          clear HO173
          clear HO176
          clear HO183
          clear HO186
          clear HO194
          clear HO197
          clear HO205
          clear HO208
          clear HO217
          clear HO220
          clear BK163
          clear BK164
          clear BK198
          clear BK209
          clear HB
          have HO173 := n0_
          have HO176 := n1_
          have HO183 := n2_
          have HO186 := n3_
          have HO194 := n4_
          have HO197 := n5_
          have HO205 := n6_
          have HO208 := n7_
          have HO217 := n8_
          have HO220 := n9_
          have BK163 := n10_
          have BK164 := n11_
          have BK198 := n12_
          have BK209 := n13_
          have HB := n14_
          clear n0_ n1_ n2_ n3_ n4_ n5_ n6_ n7_ n8_ n9_ n10_ n11_ n12_ n13_ n14_
          (try clear hb)
          (try clear hb2)
          (try clear hk)
          (try clear hi)
          refine hK.out _ _ ⟨(blk_cell BK198.out 0).trans rfl, (blk_cell BK198.out 1).trans rfl, (blk_cell BK198.out 2).trans rfl, (blk_cell BK198.out 3).trans rfl, (blk_cell BK198.out 4).trans rfl, (blk_cell BK198.out 5).trans rfl, (blk_cell BK163.out 0).trans rfl, (blk_cell BK163.out 1).trans rfl, (blk_cell BK163.out 2).trans rfl, (blk_cell BK163.out 3).trans rfl, (blk_cell BK163.out 4).trans rfl, (blk_cell BK163.out 5).trans rfl⟩ (fun hHeld => ?_)
          clear hK K
          refine norm_ (a' := ?_) ?_ ?_
          rotate_left
          · show Act.put _ (some 38) _ = _
            simp only [Act.put, List.setIfInBounds_toArray, List.set_cons_zero, List.set_cons_succ, i64_w, i32_w]
            rfl
          refine pure_ (i := 4) (N := some 39) (v := ?_) (a' := ?_) #[true, true, true, true, true] rfl rfl (by kernel_rfl) (fun _ _ _ h => h) (Or.inl ⟨by rfl, ?_⟩) ?_ ?_
          rotate_left
          · intro w'
            go_simp
            with_reducible rfl
          rotate_left
          · simp only [Act.put, List.setIfInBounds_toArray, List.set_cons_zero, List.set_cons_succ, i64_w, i32_w]
            rfl
          refine done_ (by kernel_rfl) ?_
          try go_wp2
          go_ret
          exact ⟨au6_53, bl_⟩

/-- THE ONE PURE STATEMENT of laws_FnExactPaperSame: yours. -/
def laws_FnExactPaperSame.Pure : Prop := ∀ (a0_0 : Int) (a0_1 : ByteArray) (a0_2 : ByteArray) (a0_3 : Int) (l0_4 : List ByteArray) (l0_5 : List (S111)) (a1_0 : Int) (a1_1 : ByteArray) (a1_2 : ByteArray) (a1_3 : Int) (l1_4 : List ByteArray) (l1_5 : List (S111)), (fun n_ : Int => (Lit.int .i64 n_).wf = true) a0_0 → (fun s_ : ByteArray => s_.size ≤ maxLen) a0_1 → (fun s_ : ByteArray => s_.size ≤ maxLen) a0_2 → (fun n_ : Int => (Lit.int .i64 n_).wf = true) a0_3 → (fun xs_ : List ByteArray => xs_.length ≤ maxLen ∧ ∀ x_ ∈ xs_, (fun s_ : ByteArray => s_.size ≤ maxLen) x_) l0_4 → (fun xs_ : List (S111) => xs_.length ≤ maxLen ∧ ∀ x_ ∈ xs_, q111 x_) l0_5 → (fun n_ : Int => (Lit.int .i64 n_).wf = true) a1_0 → (fun s_ : ByteArray => s_.size ≤ maxLen) a1_1 → (fun s_ : ByteArray => s_.size ≤ maxLen) a1_2 → (fun n_ : Int => (Lit.int .i64 n_).wf = true) a1_3 → (fun xs_ : List ByteArray => xs_.length ≤ maxLen ∧ ∀ x_ ∈ xs_, (fun s_ : ByteArray => s_.size ≤ maxLen) x_) l1_4 → (fun xs_ : List (S111) => xs_.length ≤ maxLen ∧ ∀ x_ ∈ xs_, q111 x_) l1_5 → ∃ k, laws_FnExactPaperSame.f k a0_0 a0_1 a0_2 a0_3 l0_4 l0_5 a1_0 a1_1 a1_2 a1_3 l1_4 l1_5 = some true

end Go.Proofs.Ytlghcbmkhdibdaa.PFnExactPaperSame
