-- printed by a program of this session (wip/xp/xprint.py) out of the translation; Lean checks it
import Derived.Test.YtlghcbmkhdibdaaPFnExactPaperSamex0
import Derived.Test.YtlghcbmkhdibdaaPFnExactPaperSamex2
import Derived.Test.YtlghcbmkhdibdaaPFnExactPaperSamex3
import Derived.Test.YtlghcbmkhdibdaaPFnExactPaperSamex4
import Derived.Test.YtlghcbmkhdibdaaPFnExactPaperSamex5
namespace Go.Proofs.Ytlghcbmkhdibdaa.PFnExactPaperSame
open Go.RowKit Go.Proofs.YtlghcbmkhdibdaaW.PrintWords Go.Proofs.YtlghcbmkhdibdaaW.PrintLast Go.Proofs.YtlghcbmkhdibdaaW.PrintMore
attribute [local go_sem] max2_int min2_int max_two min_two max_three min_three max_four min_four   -- for this text's walks alone
set_option linter.unusedVariables false
set_option linter.unusedSimpArgs false

set_option hygiene false in
local macro "mm6q0_" : tactic => `(tactic| ((with_reducible repeat (first | refine blk_drewN ?_ _ | refine blk_drew ?_ | refine blk_alloc ?_ _))))
set_option hygiene false in
local macro "mm6q1_" : tactic => `(tactic| ((with_reducible repeat (first | apply Kd.R_alloc | apply Kd.R_drewN | apply Kd.R_drew))))
set_option hygiene false in
local macro "mm6q2_" : term => `(#[.int .i64 a0_0, .string a0_1, .string a0_2, .int .i64 a0_3, .slice A0_4 l0_4.length c0_4, .slice A0_5 l0_5.length c0_5])
set_option hygiene false in
local macro "mm6q4_" : term => `(#[.int .i64 a1_0, .string a1_1, .string a1_2, .int .i64 a1_3, .slice A1_4 l1_4.length c1_4, .slice A1_5 l1_5.length c1_5])
set_option hygiene false in
local macro "mm6q6_" : tactic => `(tactic| (repeat (first | (with_reducible first | exact HB.out | apply below_alloc | apply pw_below_drewN | apply below_drew1 | refine below_set ?_ GE163.out | refine below_set ?_ GE164.out | refine below_set ?_ GE198.out) | exact HB.out)))
set_option hygiene false in
local macro "mm6q7_" : tactic => `(tactic| ((first | (with_reducible first | exact HB.out | apply below_alloc | apply pw_below_drewN | apply below_drew1 | refine below_set ?_ GE163.out | refine below_set ?_ GE164.out | refine below_set ?_ GE198.out | refine below_set ?_ GE209.out) | exact HB.out)))
set_option hygiene false in
local macro "mm6q8_" : tactic => `(tactic| ((try simp only [List.map_toArray, List.map_cons, List.map_nil]); first | done | rfl | (simp only [List.length_drop, List.length_take]; rfl)))
set_option hygiene false in
local macro "mm6q10_" : tactic => `(tactic| (repeat (first | (with_reducible first | exact HB.out | apply below_alloc | apply pw_below_drewN | apply below_drew1 | refine below_set ?_ GE163.out) | exact HB.out)))
set_option hygiene false in
local macro "mm6q11_" : tactic => `(tactic| ((with_reducible refine Kd.C_alloc ?_ _)))
set_option hygiene false in
local macro "mm6q12_" : tactic => `(tactic| ((with_reducible refine Kd.C_drewN ?_ _)))
set_option hygiene false in
local macro "mm6q13_" : tactic => `(tactic| ((with_reducible refine Kd.C_drew ?_)))
set_option hygiene false in
local macro "mm6q14_" : term => `(#[.int .i64 0, .string (⟨#[]⟩ : ByteArray), .string (⟨#[]⟩ : ByteArray), .int .i64 0, .slice none 0 0, .slice none 0 0])
set_option hygiene false in
local macro "mm6q15_" : term => `(#[.int .i64 t188, .string t189, .string t190, .int .i64 t191, .slice Ao131 t192.length co131, .slice Ao132 t195.length co132])
set_option hygiene false in
local macro "mm6q18_" : term => `(#[.int .i64 t188, .string t189, .string t190, .int .i64 t191, .slice Ao87 t192.length co87, .slice Ao88 t195.length co88])
set_option hygiene false in
local macro "mm6q21_" : term => `(#[.int .i64 t188, .string t189, .string t190, .int .i64 t191, .slice Ao175 t192.length co175, .slice Ao176 t195.length co176])
set_option hygiene false in
local macro "mm6q27_" : term => `(#[.int .i64 t199, .string t200, .string t201, .int .i64 t202, .slice Ao140 t203.length co140, .slice Ao141 t206.length co141])
set_option hygiene false in
local macro "mm6q28_" : term => `(#[.int .i64 t199, .string t200, .string t201, .int .i64 t202, .slice Ao96 t203.length co96, .slice Ao97 t206.length co97])
set_option hygiene false in
local macro "mm6q29_" : tactic => `(tactic| ((with_reducible refine (laws_szPaper.calls k a0_0 a0_1 a0_2 a0_3 _ _ l0_4 _ _ l0_5 1048576 t165 _ ?side1 ?side2 ?side3 ?side4 A3.out).mono ?_)))
set_option hygiene false in
local macro "mm6q30_" : tactic => `(tactic| ((with_reducible refine (impl_PaperSame.calls k t188 t189 t190 t191 _ _ t192 _ _ t195 t199 t200 t201 t202 _ _ t203 _ _ t206 t210 _ ?side1 ?side2 ?side3 ?side4 ?side5 ?side6 ?side7 ?side8 A24.out).mono ?_)))
set_option hygiene false in
local macro "mm6q31_" : tactic => `(tactic| ((case hr => first | (go_simp; done) | (go_simp; rfl))))
set_option hygiene false in
local macro "mm6q32_" : term => `(#[.int .i64 t188, .string t189, .string t190, .int .i64 t191, .slice Ao47 t192.length co47, .slice Ao48 t195.length co48])
set_option hygiene false in
local macro "mm6q73_" : tactic => `(tactic| ((with_reducible refine (laws_szPaper.calls k a1_0 a1_1 a1_2 a1_3 _ _ l1_4 _ _ l1_5 t165 t166 _ ?side1 ?side2 ?side3 ?side4 A10.out).mono ?_)))
set_option hygiene false in
local macro "mm6q74_" : tactic => `(tactic| ((with_reducible refine (laws_toPaper.calls k a1_0 a1_1 a1_2 a1_3 _ _ l1_4 _ _ l1_5 t199 t200 t201 t202 t203 t206 _ ?side1 ?side2 ?side3 ?side4 A23.out).mono ?_)))
set_option hygiene false in
local macro "mm6q75_" : term => `(#[.int .i64 t199, .string t200, .string t201, .int .i64 t202, .slice Ao184 t203.length co184, .slice Ao185 t206.length co185])
set_option hygiene false in
local macro "mm6q76_" : term => `(#[.int .i64 t188, .string (⟨#[]⟩ : ByteArray), .string (⟨#[]⟩ : ByteArray), .int .i64 0, .slice none 0 0, .slice none 0 0])
set_option hygiene false in
local macro "mm6q77_" : term => `(#[.int .i64 t199, .string (⟨#[]⟩ : ByteArray), .string (⟨#[]⟩ : ByteArray), .int .i64 0, .slice none 0 0, .slice none 0 0])
set_option hygiene false in
local macro "mm6q78_" : term => `(#[.int .i64 t188, .string t189, .string (⟨#[]⟩ : ByteArray), .int .i64 0, .slice none 0 0, .slice none 0 0])
set_option hygiene false in
local macro "mm6q79_" : term => `(#[.int .i64 t199, .string t200, .string (⟨#[]⟩ : ByteArray), .int .i64 0, .slice none 0 0, .slice none 0 0])
set_option hygiene false in
local macro "mm6q84_" : term => `(#[.int .i64 t188, .string t189, .string t190, .int .i64 t191, .slice none 0 0, .slice none 0 0])
set_option hygiene false in
local macro "mm6q85_" : term => `(#[.int .i64 t199, .string t200, .string t201, .int .i64 t202, .slice none 0 0, .slice none 0 0])
set_option hygiene false in
local macro "mm6q86_" : term => `(#[.int .i64 t188, .string t189, .string t190, .int .i64 0, .slice none 0 0, .slice none 0 0])
set_option hygiene false in
local macro "mm6q87_" : term => `(#[.int .i64 t199, .string t200, .string t201, .int .i64 0, .slice none 0 0, .slice none 0 0])
set_option hygiene false in
local macro "mm6q88_" : tactic => `(tactic| ((case side2 => exact (Kd.R_reads' HO194.out).2.1)))
set_option hygiene false in
local macro "mm6q89_" : tactic => `(tactic| ((case side4 => exact (Kd.R_reads' HO197.out).2.1)))
set_option hygiene false in
local macro "mm6q94_" : tactic => `(tactic| ((first | (with_reducible first | exact HB.out | apply below_alloc | apply pw_below_drewN | apply below_drew1 | refine below_set ?_ GE163.out | refine below_set ?_ GE164.out) | exact HB.out)))
set_option hygiene false in
local macro "mm6q97_" : tactic => `(tactic| ((case side2 => exact (Kd.R_reads' HO173.out).2.1)))
set_option hygiene false in
local macro "mm6q98_" : tactic => `(tactic| ((case side4 => exact (Kd.R_reads' HO176.out).2.1)))
set_option hygiene false in
local macro "mm6q99_" : tactic => `(tactic| ((case side6 => exact (Kd.R_reads' HO183.out).2.1)))
set_option hygiene false in
local macro "mm6q100_" : tactic => `(tactic| ((case side8 => exact (Kd.R_reads' HO186.out).2.1)))
set_option hygiene false in
local macro "mm6q101_" : tactic => `(tactic| ((case side6 => exact (Kd.R_reads' HO205.out).2.1)))
set_option hygiene false in
local macro "mm6q102_" : tactic => `(tactic| ((case side8 => exact (Kd.R_reads' HO208.out).2.1)))
set_option hygiene false in
local macro "mm6q103_" : term => `(#[.int .i64 t199, .string t200, .string t201, .int .i64 t202, .slice Ao56 t203.length co56, .slice Ao57 t206.length co57])
set_option hygiene false in
local macro "mm6q3_" : tactic => `(tactic| (repeat (mm6q94_)))
set_option hygiene false in
local macro "mm6q9_" : tactic => `(tactic| (((with_reducible refine gate_dst (N := 2) rfl ?_); refine box_event ?hg (N := 2) ?hd (cs := mm6q2_) (t := 25) ?hr ?_; (case hd => rfl); (case hg => rfl); (mm6q31_); intro gb163 hg w_ hbox hb; have n0_ := Aside0.mk (below_step (by repeat (first | (with_reducible first | exact HB.out | apply below_alloc | apply pw_below_drewN | apply below_drew1) | exact HB.out)) hb); have n1_ := Aside0.mk (hbox); have n2_ := Aside0.mk ((by rw [hg]; exact (below_size (by repeat (first | (with_reducible first | exact HB.out | apply below_alloc | apply pw_below_drewN | apply below_drew1) | exact HB.out))) : w.heap.size ≤ gb163)); have n3_ := Aside0.mk ((by rw [hg]; exact (below_size (by repeat (first | (with_reducible first | exact HB.out | apply below_alloc | apply pw_below_drewN | apply below_drew1) | exact HB.out))) : w.heap.size ≤ gb163)); clear HB; have HB := n0_; have BK163 := n1_; have GW163 := n2_; have GE163 := n3_; clear n0_ n1_ n2_ n3_; clear hb hbox hg)))
set_option hygiene false in
local macro "mm6q16_" : tactic => `(tactic| ((case side1 => repeat (first | exact (Kd.C_below HR0_4.out HB.out) | (mm6q11_) | (mm6q12_) | (mm6q13_)))))
set_option hygiene false in
local macro "mm6q17_" : tactic => `(tactic| ((case side3 => repeat (first | exact (Kd.C_below HR0_5.out HB.out) | (mm6q11_) | (mm6q12_) | (mm6q13_)))))
set_option hygiene false in
local macro "mm6q19_" : tactic => `(tactic| ((case side1 => repeat (first | exact (Kd.C_below HR1_4.out HB.out) | (mm6q11_) | (mm6q12_) | (mm6q13_)))))
set_option hygiene false in
local macro "mm6q20_" : tactic => `(tactic| ((case side3 => repeat (first | exact (Kd.C_below HR1_5.out HB.out) | (mm6q11_) | (mm6q12_) | (mm6q13_)))))
set_option hygiene false in
local macro "mm6q22_" : tactic => `(tactic| ((mm6q0_); refine blk_far ?_ NB163_198.out _; (mm6q0_); refine blk_far ?_ NB163_198.out _; (mm6q0_); refine blk_far ?_ NB163_198.out _; (mm6q0_); refine blk_far ?_ NB163_198.out _; (mm6q0_); refine blk_far ?_ NB163_198.out _; (mm6q0_); refine blk_far ?_ NB163_198.out _; (mm6q0_); exact BK163.out))
set_option hygiene false in
local macro "mm6q23_" : tactic => `(tactic| ((mm6q0_); refine blk_far ?_ NB164_198.out _; (mm6q0_); refine blk_far ?_ NB164_198.out _; (mm6q0_); refine blk_far ?_ NB164_198.out _; (mm6q0_); refine blk_far ?_ NB164_198.out _; (mm6q0_); refine blk_far ?_ NB164_198.out _; (mm6q0_); refine blk_far ?_ NB164_198.out _; (mm6q0_); exact BK164.out))
set_option hygiene false in
local macro "mm6q24_" : tactic => `(tactic| ((mm6q0_); refine blk_far ?_ NB163_209.out _; (mm6q0_); refine blk_far ?_ NB163_209.out _; (mm6q0_); refine blk_far ?_ NB163_209.out _; (mm6q0_); refine blk_far ?_ NB163_209.out _; (mm6q0_); refine blk_far ?_ NB163_209.out _; (mm6q0_); refine blk_far ?_ NB163_209.out _; (mm6q0_); exact BK163.out))
set_option hygiene false in
local macro "mm6q25_" : tactic => `(tactic| ((mm6q0_); refine blk_far ?_ NB164_209.out _; (mm6q0_); refine blk_far ?_ NB164_209.out _; (mm6q0_); refine blk_far ?_ NB164_209.out _; (mm6q0_); refine blk_far ?_ NB164_209.out _; (mm6q0_); refine blk_far ?_ NB164_209.out _; (mm6q0_); refine blk_far ?_ NB164_209.out _; (mm6q0_); exact BK164.out))
set_option hygiene false in
local macro "mm6q26_" : tactic => `(tactic| ((mm6q0_); refine blk_far ?_ NB198_209.out _; (mm6q0_); refine blk_far ?_ NB198_209.out _; (mm6q0_); refine blk_far ?_ NB198_209.out _; (mm6q0_); refine blk_far ?_ NB198_209.out _; (mm6q0_); refine blk_far ?_ NB198_209.out _; (mm6q0_); refine blk_far ?_ NB198_209.out _; (mm6q0_); exact BK198.out))
set_option hygiene false in
local macro "mm6q33_" : tactic => `(tactic| ((mm6q1_); exact (Kd.R_mono (Kd.R_far (p := ⟨gb198, 5, none⟩) (Kd.R_far (p := ⟨gb198, 4, none⟩) (Kd.R_far (p := ⟨gb198, 3, none⟩) (Kd.R_far (p := ⟨gb198, 2, none⟩) (Kd.R_far (p := ⟨gb198, 1, none⟩) (Kd.R_far (p := ⟨gb198, 0, none⟩) (Kd.R_types HO173.out BK198.out (by decide)) (fun _ hk => hk.2) (.int .i64 t188)) (fun _ hk => hk.2) (.string t189)) (fun _ hk => hk.2) (.string t190)) (fun _ hk => hk.2) (.int .i64 t191)) (fun _ hk => hk.2) (.slice Ao131 t192.length co131)) (fun _ hk => hk.2) (.slice Ao132 t195.length co132)) (fun _ h_ => h_.1))))
set_option hygiene false in
local macro "mm6q34_" : tactic => `(tactic| ((mm6q1_); exact (Kd.R_mono (Kd.R_far (p := ⟨gb198, 5, none⟩) (Kd.R_far (p := ⟨gb198, 4, none⟩) (Kd.R_far (p := ⟨gb198, 3, none⟩) (Kd.R_far (p := ⟨gb198, 2, none⟩) (Kd.R_far (p := ⟨gb198, 1, none⟩) (Kd.R_far (p := ⟨gb198, 0, none⟩) (Kd.R_types HO176.out BK198.out (by decide)) (fun _ hk => hk.2) (.int .i64 t188)) (fun _ hk => hk.2) (.string t189)) (fun _ hk => hk.2) (.string t190)) (fun _ hk => hk.2) (.int .i64 t191)) (fun _ hk => hk.2) (.slice Ao131 t192.length co131)) (fun _ hk => hk.2) (.slice Ao132 t195.length co132)) (fun _ h_ => h_.1))))
set_option hygiene false in
local macro "mm6q35_" : tactic => `(tactic| ((mm6q1_); exact (Kd.R_mono (Kd.R_far (p := ⟨gb198, 5, none⟩) (Kd.R_far (p := ⟨gb198, 4, none⟩) (Kd.R_far (p := ⟨gb198, 3, none⟩) (Kd.R_far (p := ⟨gb198, 2, none⟩) (Kd.R_far (p := ⟨gb198, 1, none⟩) (Kd.R_far (p := ⟨gb198, 0, none⟩) (Kd.R_types HO183.out BK198.out (by decide)) (fun _ hk => hk.2) (.int .i64 t188)) (fun _ hk => hk.2) (.string t189)) (fun _ hk => hk.2) (.string t190)) (fun _ hk => hk.2) (.int .i64 t191)) (fun _ hk => hk.2) (.slice Ao131 t192.length co131)) (fun _ hk => hk.2) (.slice Ao132 t195.length co132)) (fun _ h_ => h_.1))))
set_option hygiene false in
local macro "mm6q36_" : tactic => `(tactic| ((mm6q1_); exact (Kd.R_mono (Kd.R_far (p := ⟨gb198, 5, none⟩) (Kd.R_far (p := ⟨gb198, 4, none⟩) (Kd.R_far (p := ⟨gb198, 3, none⟩) (Kd.R_far (p := ⟨gb198, 2, none⟩) (Kd.R_far (p := ⟨gb198, 1, none⟩) (Kd.R_far (p := ⟨gb198, 0, none⟩) (Kd.R_types HO186.out BK198.out (by decide)) (fun _ hk => hk.2) (.int .i64 t188)) (fun _ hk => hk.2) (.string t189)) (fun _ hk => hk.2) (.string t190)) (fun _ hk => hk.2) (.int .i64 t191)) (fun _ hk => hk.2) (.slice Ao131 t192.length co131)) (fun _ hk => hk.2) (.slice Ao132 t195.length co132)) (fun _ h_ => h_.1))))
set_option hygiene false in
local macro "mm6q37_" : tactic => `(tactic| ((mm6q1_); exact (Kd.R_mono (Kd.R_far (p := ⟨gb198, 5, none⟩) (Kd.R_far (p := ⟨gb198, 4, none⟩) (Kd.R_far (p := ⟨gb198, 3, none⟩) (Kd.R_far (p := ⟨gb198, 2, none⟩) (Kd.R_far (p := ⟨gb198, 1, none⟩) (Kd.R_far (p := ⟨gb198, 0, none⟩) (Kd.R_types HO194.out BK198.out (by decide)) (fun _ hk => hk.2) (.int .i64 t188)) (fun _ hk => hk.2) (.string t189)) (fun _ hk => hk.2) (.string t190)) (fun _ hk => hk.2) (.int .i64 t191)) (fun _ hk => hk.2) (.slice Ao131 t192.length co131)) (fun _ hk => hk.2) (.slice Ao132 t195.length co132)) (fun _ h_ => h_.1))))
set_option hygiene false in
local macro "mm6q38_" : tactic => `(tactic| ((mm6q1_); exact (Kd.R_mono (Kd.R_far (p := ⟨gb198, 5, none⟩) (Kd.R_far (p := ⟨gb198, 4, none⟩) (Kd.R_far (p := ⟨gb198, 3, none⟩) (Kd.R_far (p := ⟨gb198, 2, none⟩) (Kd.R_far (p := ⟨gb198, 1, none⟩) (Kd.R_far (p := ⟨gb198, 0, none⟩) (Kd.R_types HO197.out BK198.out (by decide)) (fun _ hk => hk.2) (.int .i64 t188)) (fun _ hk => hk.2) (.string t189)) (fun _ hk => hk.2) (.string t190)) (fun _ hk => hk.2) (.int .i64 t191)) (fun _ hk => hk.2) (.slice Ao131 t192.length co131)) (fun _ hk => hk.2) (.slice Ao132 t195.length co132)) (fun _ h_ => h_.1))))
set_option hygiene false in
local macro "mm6q39_" : tactic => `(tactic| ((mm6q1_); exact (Kd.R_mono (Kd.R_far (p := ⟨gb209, 5, none⟩) (Kd.R_far (p := ⟨gb209, 4, none⟩) (Kd.R_far (p := ⟨gb209, 3, none⟩) (Kd.R_far (p := ⟨gb209, 2, none⟩) (Kd.R_far (p := ⟨gb209, 1, none⟩) (Kd.R_far (p := ⟨gb209, 0, none⟩) (Kd.R_types HO194.out BK209.out (by decide)) (fun _ hk => hk.2) (.int .i64 t199)) (fun _ hk => hk.2) (.string t200)) (fun _ hk => hk.2) (.string t201)) (fun _ hk => hk.2) (.int .i64 t202)) (fun _ hk => hk.2) (.slice Ao140 t203.length co140)) (fun _ hk => hk.2) (.slice Ao141 t206.length co141)) (fun _ h_ => h_.1))))
set_option hygiene false in
local macro "mm6q40_" : tactic => `(tactic| ((mm6q1_); exact (Kd.R_mono (Kd.R_far (p := ⟨gb209, 5, none⟩) (Kd.R_far (p := ⟨gb209, 4, none⟩) (Kd.R_far (p := ⟨gb209, 3, none⟩) (Kd.R_far (p := ⟨gb209, 2, none⟩) (Kd.R_far (p := ⟨gb209, 1, none⟩) (Kd.R_far (p := ⟨gb209, 0, none⟩) (Kd.R_types HO197.out BK209.out (by decide)) (fun _ hk => hk.2) (.int .i64 t199)) (fun _ hk => hk.2) (.string t200)) (fun _ hk => hk.2) (.string t201)) (fun _ hk => hk.2) (.int .i64 t202)) (fun _ hk => hk.2) (.slice Ao140 t203.length co140)) (fun _ hk => hk.2) (.slice Ao141 t206.length co141)) (fun _ h_ => h_.1))))
set_option hygiene false in
local macro "mm6q41_" : tactic => `(tactic| ((mm6q1_); exact (Kd.R_mono (Kd.R_far (p := ⟨gb209, 5, none⟩) (Kd.R_far (p := ⟨gb209, 4, none⟩) (Kd.R_far (p := ⟨gb209, 3, none⟩) (Kd.R_far (p := ⟨gb209, 2, none⟩) (Kd.R_far (p := ⟨gb209, 1, none⟩) (Kd.R_far (p := ⟨gb209, 0, none⟩) (Kd.R_types HO205.out BK209.out (by decide)) (fun _ hk => hk.2) (.int .i64 t199)) (fun _ hk => hk.2) (.string t200)) (fun _ hk => hk.2) (.string t201)) (fun _ hk => hk.2) (.int .i64 t202)) (fun _ hk => hk.2) (.slice Ao140 t203.length co140)) (fun _ hk => hk.2) (.slice Ao141 t206.length co141)) (fun _ h_ => h_.1))))
set_option hygiene false in
local macro "mm6q42_" : tactic => `(tactic| ((mm6q1_); exact (Kd.R_mono (Kd.R_far (p := ⟨gb209, 5, none⟩) (Kd.R_far (p := ⟨gb209, 4, none⟩) (Kd.R_far (p := ⟨gb209, 3, none⟩) (Kd.R_far (p := ⟨gb209, 2, none⟩) (Kd.R_far (p := ⟨gb209, 1, none⟩) (Kd.R_far (p := ⟨gb209, 0, none⟩) (Kd.R_types HO208.out BK209.out (by decide)) (fun _ hk => hk.2) (.int .i64 t199)) (fun _ hk => hk.2) (.string t200)) (fun _ hk => hk.2) (.string t201)) (fun _ hk => hk.2) (.int .i64 t202)) (fun _ hk => hk.2) (.slice Ao140 t203.length co140)) (fun _ hk => hk.2) (.slice Ao141 t206.length co141)) (fun _ h_ => h_.1))))
set_option hygiene false in
local macro "mm6q43_" : tactic => `(tactic| ((mm6q1_); exact (Kd.R_mono (Kd.R_far (p := ⟨gb198, 5, none⟩) (Kd.R_far (p := ⟨gb198, 4, none⟩) (Kd.R_far (p := ⟨gb198, 3, none⟩) (Kd.R_far (p := ⟨gb198, 2, none⟩) (Kd.R_far (p := ⟨gb198, 1, none⟩) (Kd.R_far (p := ⟨gb198, 0, none⟩) (Kd.R_types HO173.out BK198.out (by decide)) (fun _ hk => hk.2) (.int .i64 t188)) (fun _ hk => hk.2) (.string t189)) (fun _ hk => hk.2) (.string t190)) (fun _ hk => hk.2) (.int .i64 t191)) (fun _ hk => hk.2) (.slice Ao175 t192.length co175)) (fun _ hk => hk.2) (.slice Ao176 t195.length co176)) (fun _ h_ => h_.1))))
set_option hygiene false in
local macro "mm6q44_" : tactic => `(tactic| ((mm6q1_); exact (Kd.R_mono (Kd.R_far (p := ⟨gb198, 5, none⟩) (Kd.R_far (p := ⟨gb198, 4, none⟩) (Kd.R_far (p := ⟨gb198, 3, none⟩) (Kd.R_far (p := ⟨gb198, 2, none⟩) (Kd.R_far (p := ⟨gb198, 1, none⟩) (Kd.R_far (p := ⟨gb198, 0, none⟩) (Kd.R_types HO176.out BK198.out (by decide)) (fun _ hk => hk.2) (.int .i64 t188)) (fun _ hk => hk.2) (.string t189)) (fun _ hk => hk.2) (.string t190)) (fun _ hk => hk.2) (.int .i64 t191)) (fun _ hk => hk.2) (.slice Ao175 t192.length co175)) (fun _ hk => hk.2) (.slice Ao176 t195.length co176)) (fun _ h_ => h_.1))))
set_option hygiene false in
local macro "mm6q45_" : tactic => `(tactic| ((mm6q1_); exact (Kd.R_mono (Kd.R_far (p := ⟨gb198, 5, none⟩) (Kd.R_far (p := ⟨gb198, 4, none⟩) (Kd.R_far (p := ⟨gb198, 3, none⟩) (Kd.R_far (p := ⟨gb198, 2, none⟩) (Kd.R_far (p := ⟨gb198, 1, none⟩) (Kd.R_far (p := ⟨gb198, 0, none⟩) (Kd.R_types HO183.out BK198.out (by decide)) (fun _ hk => hk.2) (.int .i64 t188)) (fun _ hk => hk.2) (.string t189)) (fun _ hk => hk.2) (.string t190)) (fun _ hk => hk.2) (.int .i64 t191)) (fun _ hk => hk.2) (.slice Ao175 t192.length co175)) (fun _ hk => hk.2) (.slice Ao176 t195.length co176)) (fun _ h_ => h_.1))))
set_option hygiene false in
local macro "mm6q46_" : tactic => `(tactic| ((mm6q1_); exact (Kd.R_mono (Kd.R_far (p := ⟨gb198, 5, none⟩) (Kd.R_far (p := ⟨gb198, 4, none⟩) (Kd.R_far (p := ⟨gb198, 3, none⟩) (Kd.R_far (p := ⟨gb198, 2, none⟩) (Kd.R_far (p := ⟨gb198, 1, none⟩) (Kd.R_far (p := ⟨gb198, 0, none⟩) (Kd.R_types HO186.out BK198.out (by decide)) (fun _ hk => hk.2) (.int .i64 t188)) (fun _ hk => hk.2) (.string t189)) (fun _ hk => hk.2) (.string t190)) (fun _ hk => hk.2) (.int .i64 t191)) (fun _ hk => hk.2) (.slice Ao175 t192.length co175)) (fun _ hk => hk.2) (.slice Ao176 t195.length co176)) (fun _ h_ => h_.1))))
set_option hygiene false in
local macro "mm6q47_" : tactic => `(tactic| ((mm6q1_); exact (Kd.R_mono (Kd.R_far (p := ⟨gb198, 5, none⟩) (Kd.R_far (p := ⟨gb198, 4, none⟩) (Kd.R_far (p := ⟨gb198, 3, none⟩) (Kd.R_far (p := ⟨gb198, 2, none⟩) (Kd.R_far (p := ⟨gb198, 1, none⟩) (Kd.R_far (p := ⟨gb198, 0, none⟩) (Kd.R_types HO194.out BK198.out (by decide)) (fun _ hk => hk.2) (.int .i64 t188)) (fun _ hk => hk.2) (.string t189)) (fun _ hk => hk.2) (.string t190)) (fun _ hk => hk.2) (.int .i64 t191)) (fun _ hk => hk.2) (.slice Ao175 t192.length co175)) (fun _ hk => hk.2) (.slice Ao176 t195.length co176)) (fun _ h_ => h_.1))))
set_option hygiene false in
local macro "mm6q48_" : tactic => `(tactic| ((mm6q1_); exact (Kd.R_mono (Kd.R_far (p := ⟨gb198, 5, none⟩) (Kd.R_far (p := ⟨gb198, 4, none⟩) (Kd.R_far (p := ⟨gb198, 3, none⟩) (Kd.R_far (p := ⟨gb198, 2, none⟩) (Kd.R_far (p := ⟨gb198, 1, none⟩) (Kd.R_far (p := ⟨gb198, 0, none⟩) (Kd.R_types HO197.out BK198.out (by decide)) (fun _ hk => hk.2) (.int .i64 t188)) (fun _ hk => hk.2) (.string t189)) (fun _ hk => hk.2) (.string t190)) (fun _ hk => hk.2) (.int .i64 t191)) (fun _ hk => hk.2) (.slice Ao175 t192.length co175)) (fun _ hk => hk.2) (.slice Ao176 t195.length co176)) (fun _ h_ => h_.1))))
set_option hygiene false in
local macro "mm6q49_" : tactic => `(tactic| ((mm6q1_); exact (Kd.R_mono (Kd.R_far (p := ⟨gb209, 5, none⟩) (Kd.R_far (p := ⟨gb209, 4, none⟩) (Kd.R_far (p := ⟨gb209, 3, none⟩) (Kd.R_far (p := ⟨gb209, 2, none⟩) (Kd.R_far (p := ⟨gb209, 1, none⟩) (Kd.R_far (p := ⟨gb209, 0, none⟩) (Kd.R_types HO194.out BK209.out (by decide)) (fun _ hk => hk.2) (.int .i64 t199)) (fun _ hk => hk.2) (.string t200)) (fun _ hk => hk.2) (.string t201)) (fun _ hk => hk.2) (.int .i64 t202)) (fun _ hk => hk.2) (.slice Ao184 t203.length co184)) (fun _ hk => hk.2) (.slice Ao185 t206.length co185)) (fun _ h_ => h_.1))))
set_option hygiene false in
local macro "mm6q50_" : tactic => `(tactic| ((mm6q1_); exact (Kd.R_mono (Kd.R_far (p := ⟨gb209, 5, none⟩) (Kd.R_far (p := ⟨gb209, 4, none⟩) (Kd.R_far (p := ⟨gb209, 3, none⟩) (Kd.R_far (p := ⟨gb209, 2, none⟩) (Kd.R_far (p := ⟨gb209, 1, none⟩) (Kd.R_far (p := ⟨gb209, 0, none⟩) (Kd.R_types HO197.out BK209.out (by decide)) (fun _ hk => hk.2) (.int .i64 t199)) (fun _ hk => hk.2) (.string t200)) (fun _ hk => hk.2) (.string t201)) (fun _ hk => hk.2) (.int .i64 t202)) (fun _ hk => hk.2) (.slice Ao184 t203.length co184)) (fun _ hk => hk.2) (.slice Ao185 t206.length co185)) (fun _ h_ => h_.1))))
set_option hygiene false in
local macro "mm6q51_" : tactic => `(tactic| ((mm6q1_); exact (Kd.R_mono (Kd.R_far (p := ⟨gb209, 5, none⟩) (Kd.R_far (p := ⟨gb209, 4, none⟩) (Kd.R_far (p := ⟨gb209, 3, none⟩) (Kd.R_far (p := ⟨gb209, 2, none⟩) (Kd.R_far (p := ⟨gb209, 1, none⟩) (Kd.R_far (p := ⟨gb209, 0, none⟩) (Kd.R_types HO205.out BK209.out (by decide)) (fun _ hk => hk.2) (.int .i64 t199)) (fun _ hk => hk.2) (.string t200)) (fun _ hk => hk.2) (.string t201)) (fun _ hk => hk.2) (.int .i64 t202)) (fun _ hk => hk.2) (.slice Ao184 t203.length co184)) (fun _ hk => hk.2) (.slice Ao185 t206.length co185)) (fun _ h_ => h_.1))))
set_option hygiene false in
local macro "mm6q52_" : tactic => `(tactic| ((mm6q1_); exact (Kd.R_mono (Kd.R_far (p := ⟨gb209, 5, none⟩) (Kd.R_far (p := ⟨gb209, 4, none⟩) (Kd.R_far (p := ⟨gb209, 3, none⟩) (Kd.R_far (p := ⟨gb209, 2, none⟩) (Kd.R_far (p := ⟨gb209, 1, none⟩) (Kd.R_far (p := ⟨gb209, 0, none⟩) (Kd.R_types HO208.out BK209.out (by decide)) (fun _ hk => hk.2) (.int .i64 t199)) (fun _ hk => hk.2) (.string t200)) (fun _ hk => hk.2) (.string t201)) (fun _ hk => hk.2) (.int .i64 t202)) (fun _ hk => hk.2) (.slice Ao184 t203.length co184)) (fun _ hk => hk.2) (.slice Ao185 t206.length co185)) (fun _ h_ => h_.1))))
set_option hygiene false in
local macro "mm6q53_" : tactic => `(tactic| ((mm6q1_); exact (Kd.R_mono (Kd.R_far (p := ⟨gb198, 5, none⟩) (Kd.R_far (p := ⟨gb198, 4, none⟩) (Kd.R_far (p := ⟨gb198, 3, none⟩) (Kd.R_far (p := ⟨gb198, 2, none⟩) (Kd.R_far (p := ⟨gb198, 1, none⟩) (Kd.R_far (p := ⟨gb198, 0, none⟩) (Kd.R_types HO173.out BK198.out (by decide)) (fun _ hk => hk.2) (.int .i64 t188)) (fun _ hk => hk.2) (.string t189)) (fun _ hk => hk.2) (.string t190)) (fun _ hk => hk.2) (.int .i64 t191)) (fun _ hk => hk.2) (.slice Ao47 t192.length co47)) (fun _ hk => hk.2) (.slice Ao48 t195.length co48)) (fun _ h_ => h_.1))))
set_option hygiene false in
local macro "mm6q54_" : tactic => `(tactic| ((mm6q1_); exact (Kd.R_mono (Kd.R_far (p := ⟨gb198, 5, none⟩) (Kd.R_far (p := ⟨gb198, 4, none⟩) (Kd.R_far (p := ⟨gb198, 3, none⟩) (Kd.R_far (p := ⟨gb198, 2, none⟩) (Kd.R_far (p := ⟨gb198, 1, none⟩) (Kd.R_far (p := ⟨gb198, 0, none⟩) (Kd.R_types HO176.out BK198.out (by decide)) (fun _ hk => hk.2) (.int .i64 t188)) (fun _ hk => hk.2) (.string t189)) (fun _ hk => hk.2) (.string t190)) (fun _ hk => hk.2) (.int .i64 t191)) (fun _ hk => hk.2) (.slice Ao47 t192.length co47)) (fun _ hk => hk.2) (.slice Ao48 t195.length co48)) (fun _ h_ => h_.1))))
set_option hygiene false in
local macro "mm6q55_" : tactic => `(tactic| ((mm6q1_); exact (Kd.R_mono (Kd.R_far (p := ⟨gb198, 5, none⟩) (Kd.R_far (p := ⟨gb198, 4, none⟩) (Kd.R_far (p := ⟨gb198, 3, none⟩) (Kd.R_far (p := ⟨gb198, 2, none⟩) (Kd.R_far (p := ⟨gb198, 1, none⟩) (Kd.R_far (p := ⟨gb198, 0, none⟩) (Kd.R_types HO183.out BK198.out (by decide)) (fun _ hk => hk.2) (.int .i64 t188)) (fun _ hk => hk.2) (.string t189)) (fun _ hk => hk.2) (.string t190)) (fun _ hk => hk.2) (.int .i64 t191)) (fun _ hk => hk.2) (.slice Ao47 t192.length co47)) (fun _ hk => hk.2) (.slice Ao48 t195.length co48)) (fun _ h_ => h_.1))))
set_option hygiene false in
local macro "mm6q56_" : tactic => `(tactic| ((mm6q1_); exact (Kd.R_mono (Kd.R_far (p := ⟨gb198, 5, none⟩) (Kd.R_far (p := ⟨gb198, 4, none⟩) (Kd.R_far (p := ⟨gb198, 3, none⟩) (Kd.R_far (p := ⟨gb198, 2, none⟩) (Kd.R_far (p := ⟨gb198, 1, none⟩) (Kd.R_far (p := ⟨gb198, 0, none⟩) (Kd.R_types HO186.out BK198.out (by decide)) (fun _ hk => hk.2) (.int .i64 t188)) (fun _ hk => hk.2) (.string t189)) (fun _ hk => hk.2) (.string t190)) (fun _ hk => hk.2) (.int .i64 t191)) (fun _ hk => hk.2) (.slice Ao47 t192.length co47)) (fun _ hk => hk.2) (.slice Ao48 t195.length co48)) (fun _ h_ => h_.1))))
set_option hygiene false in
local macro "mm6q57_" : tactic => `(tactic| ((mm6q1_); exact (Kd.R_mono (Kd.R_far (p := ⟨gb198, 5, none⟩) (Kd.R_far (p := ⟨gb198, 4, none⟩) (Kd.R_far (p := ⟨gb198, 3, none⟩) (Kd.R_far (p := ⟨gb198, 2, none⟩) (Kd.R_far (p := ⟨gb198, 1, none⟩) (Kd.R_far (p := ⟨gb198, 0, none⟩) (Kd.R_types HO194.out BK198.out (by decide)) (fun _ hk => hk.2) (.int .i64 t188)) (fun _ hk => hk.2) (.string t189)) (fun _ hk => hk.2) (.string t190)) (fun _ hk => hk.2) (.int .i64 t191)) (fun _ hk => hk.2) (.slice Ao47 t192.length co47)) (fun _ hk => hk.2) (.slice Ao48 t195.length co48)) (fun _ h_ => h_.1))))
set_option hygiene false in
local macro "mm6q58_" : tactic => `(tactic| ((mm6q1_); exact (Kd.R_mono (Kd.R_far (p := ⟨gb198, 5, none⟩) (Kd.R_far (p := ⟨gb198, 4, none⟩) (Kd.R_far (p := ⟨gb198, 3, none⟩) (Kd.R_far (p := ⟨gb198, 2, none⟩) (Kd.R_far (p := ⟨gb198, 1, none⟩) (Kd.R_far (p := ⟨gb198, 0, none⟩) (Kd.R_types HO197.out BK198.out (by decide)) (fun _ hk => hk.2) (.int .i64 t188)) (fun _ hk => hk.2) (.string t189)) (fun _ hk => hk.2) (.string t190)) (fun _ hk => hk.2) (.int .i64 t191)) (fun _ hk => hk.2) (.slice Ao47 t192.length co47)) (fun _ hk => hk.2) (.slice Ao48 t195.length co48)) (fun _ h_ => h_.1))))
set_option hygiene false in
local macro "mm6q59_" : tactic => `(tactic| ((mm6q1_); exact (Kd.R_mono (Kd.R_far (p := ⟨gb209, 5, none⟩) (Kd.R_far (p := ⟨gb209, 4, none⟩) (Kd.R_far (p := ⟨gb209, 3, none⟩) (Kd.R_far (p := ⟨gb209, 2, none⟩) (Kd.R_far (p := ⟨gb209, 1, none⟩) (Kd.R_far (p := ⟨gb209, 0, none⟩) (Kd.R_types HO194.out BK209.out (by decide)) (fun _ hk => hk.2) (.int .i64 t199)) (fun _ hk => hk.2) (.string t200)) (fun _ hk => hk.2) (.string t201)) (fun _ hk => hk.2) (.int .i64 t202)) (fun _ hk => hk.2) (.slice Ao56 t203.length co56)) (fun _ hk => hk.2) (.slice Ao57 t206.length co57)) (fun _ h_ => h_.1))))
set_option hygiene false in
local macro "mm6q60_" : tactic => `(tactic| ((mm6q1_); exact (Kd.R_mono (Kd.R_far (p := ⟨gb209, 5, none⟩) (Kd.R_far (p := ⟨gb209, 4, none⟩) (Kd.R_far (p := ⟨gb209, 3, none⟩) (Kd.R_far (p := ⟨gb209, 2, none⟩) (Kd.R_far (p := ⟨gb209, 1, none⟩) (Kd.R_far (p := ⟨gb209, 0, none⟩) (Kd.R_types HO197.out BK209.out (by decide)) (fun _ hk => hk.2) (.int .i64 t199)) (fun _ hk => hk.2) (.string t200)) (fun _ hk => hk.2) (.string t201)) (fun _ hk => hk.2) (.int .i64 t202)) (fun _ hk => hk.2) (.slice Ao56 t203.length co56)) (fun _ hk => hk.2) (.slice Ao57 t206.length co57)) (fun _ h_ => h_.1))))
set_option hygiene false in
local macro "mm6q61_" : tactic => `(tactic| ((mm6q1_); exact (Kd.R_mono (Kd.R_far (p := ⟨gb209, 5, none⟩) (Kd.R_far (p := ⟨gb209, 4, none⟩) (Kd.R_far (p := ⟨gb209, 3, none⟩) (Kd.R_far (p := ⟨gb209, 2, none⟩) (Kd.R_far (p := ⟨gb209, 1, none⟩) (Kd.R_far (p := ⟨gb209, 0, none⟩) (Kd.R_types HO205.out BK209.out (by decide)) (fun _ hk => hk.2) (.int .i64 t199)) (fun _ hk => hk.2) (.string t200)) (fun _ hk => hk.2) (.string t201)) (fun _ hk => hk.2) (.int .i64 t202)) (fun _ hk => hk.2) (.slice Ao56 t203.length co56)) (fun _ hk => hk.2) (.slice Ao57 t206.length co57)) (fun _ h_ => h_.1))))
set_option hygiene false in
local macro "mm6q62_" : tactic => `(tactic| ((mm6q1_); exact (Kd.R_mono (Kd.R_far (p := ⟨gb209, 5, none⟩) (Kd.R_far (p := ⟨gb209, 4, none⟩) (Kd.R_far (p := ⟨gb209, 3, none⟩) (Kd.R_far (p := ⟨gb209, 2, none⟩) (Kd.R_far (p := ⟨gb209, 1, none⟩) (Kd.R_far (p := ⟨gb209, 0, none⟩) (Kd.R_types HO208.out BK209.out (by decide)) (fun _ hk => hk.2) (.int .i64 t199)) (fun _ hk => hk.2) (.string t200)) (fun _ hk => hk.2) (.string t201)) (fun _ hk => hk.2) (.int .i64 t202)) (fun _ hk => hk.2) (.slice Ao56 t203.length co56)) (fun _ hk => hk.2) (.slice Ao57 t206.length co57)) (fun _ h_ => h_.1))))
set_option hygiene false in
local macro "mm6q63_" : tactic => `(tactic| ((mm6q1_); exact (Kd.R_mono (Kd.R_far (p := ⟨gb198, 5, none⟩) (Kd.R_far (p := ⟨gb198, 4, none⟩) (Kd.R_far (p := ⟨gb198, 3, none⟩) (Kd.R_far (p := ⟨gb198, 2, none⟩) (Kd.R_far (p := ⟨gb198, 1, none⟩) (Kd.R_far (p := ⟨gb198, 0, none⟩) (Kd.R_types HO173.out BK198.out (by decide)) (fun _ hk => hk.2) (.int .i64 t188)) (fun _ hk => hk.2) (.string t189)) (fun _ hk => hk.2) (.string t190)) (fun _ hk => hk.2) (.int .i64 t191)) (fun _ hk => hk.2) (.slice Ao87 t192.length co87)) (fun _ hk => hk.2) (.slice Ao88 t195.length co88)) (fun _ h_ => h_.1))))
set_option hygiene false in
local macro "mm6q64_" : tactic => `(tactic| ((mm6q1_); exact (Kd.R_mono (Kd.R_far (p := ⟨gb198, 5, none⟩) (Kd.R_far (p := ⟨gb198, 4, none⟩) (Kd.R_far (p := ⟨gb198, 3, none⟩) (Kd.R_far (p := ⟨gb198, 2, none⟩) (Kd.R_far (p := ⟨gb198, 1, none⟩) (Kd.R_far (p := ⟨gb198, 0, none⟩) (Kd.R_types HO176.out BK198.out (by decide)) (fun _ hk => hk.2) (.int .i64 t188)) (fun _ hk => hk.2) (.string t189)) (fun _ hk => hk.2) (.string t190)) (fun _ hk => hk.2) (.int .i64 t191)) (fun _ hk => hk.2) (.slice Ao87 t192.length co87)) (fun _ hk => hk.2) (.slice Ao88 t195.length co88)) (fun _ h_ => h_.1))))
set_option hygiene false in
local macro "mm6q65_" : tactic => `(tactic| ((mm6q1_); exact (Kd.R_mono (Kd.R_far (p := ⟨gb198, 5, none⟩) (Kd.R_far (p := ⟨gb198, 4, none⟩) (Kd.R_far (p := ⟨gb198, 3, none⟩) (Kd.R_far (p := ⟨gb198, 2, none⟩) (Kd.R_far (p := ⟨gb198, 1, none⟩) (Kd.R_far (p := ⟨gb198, 0, none⟩) (Kd.R_types HO183.out BK198.out (by decide)) (fun _ hk => hk.2) (.int .i64 t188)) (fun _ hk => hk.2) (.string t189)) (fun _ hk => hk.2) (.string t190)) (fun _ hk => hk.2) (.int .i64 t191)) (fun _ hk => hk.2) (.slice Ao87 t192.length co87)) (fun _ hk => hk.2) (.slice Ao88 t195.length co88)) (fun _ h_ => h_.1))))
set_option hygiene false in
local macro "mm6q66_" : tactic => `(tactic| ((mm6q1_); exact (Kd.R_mono (Kd.R_far (p := ⟨gb198, 5, none⟩) (Kd.R_far (p := ⟨gb198, 4, none⟩) (Kd.R_far (p := ⟨gb198, 3, none⟩) (Kd.R_far (p := ⟨gb198, 2, none⟩) (Kd.R_far (p := ⟨gb198, 1, none⟩) (Kd.R_far (p := ⟨gb198, 0, none⟩) (Kd.R_types HO186.out BK198.out (by decide)) (fun _ hk => hk.2) (.int .i64 t188)) (fun _ hk => hk.2) (.string t189)) (fun _ hk => hk.2) (.string t190)) (fun _ hk => hk.2) (.int .i64 t191)) (fun _ hk => hk.2) (.slice Ao87 t192.length co87)) (fun _ hk => hk.2) (.slice Ao88 t195.length co88)) (fun _ h_ => h_.1))))
set_option hygiene false in
local macro "mm6q67_" : tactic => `(tactic| ((mm6q1_); exact (Kd.R_mono (Kd.R_far (p := ⟨gb198, 5, none⟩) (Kd.R_far (p := ⟨gb198, 4, none⟩) (Kd.R_far (p := ⟨gb198, 3, none⟩) (Kd.R_far (p := ⟨gb198, 2, none⟩) (Kd.R_far (p := ⟨gb198, 1, none⟩) (Kd.R_far (p := ⟨gb198, 0, none⟩) (Kd.R_types HO194.out BK198.out (by decide)) (fun _ hk => hk.2) (.int .i64 t188)) (fun _ hk => hk.2) (.string t189)) (fun _ hk => hk.2) (.string t190)) (fun _ hk => hk.2) (.int .i64 t191)) (fun _ hk => hk.2) (.slice Ao87 t192.length co87)) (fun _ hk => hk.2) (.slice Ao88 t195.length co88)) (fun _ h_ => h_.1))))
set_option hygiene false in
local macro "mm6q68_" : tactic => `(tactic| ((mm6q1_); exact (Kd.R_mono (Kd.R_far (p := ⟨gb198, 5, none⟩) (Kd.R_far (p := ⟨gb198, 4, none⟩) (Kd.R_far (p := ⟨gb198, 3, none⟩) (Kd.R_far (p := ⟨gb198, 2, none⟩) (Kd.R_far (p := ⟨gb198, 1, none⟩) (Kd.R_far (p := ⟨gb198, 0, none⟩) (Kd.R_types HO197.out BK198.out (by decide)) (fun _ hk => hk.2) (.int .i64 t188)) (fun _ hk => hk.2) (.string t189)) (fun _ hk => hk.2) (.string t190)) (fun _ hk => hk.2) (.int .i64 t191)) (fun _ hk => hk.2) (.slice Ao87 t192.length co87)) (fun _ hk => hk.2) (.slice Ao88 t195.length co88)) (fun _ h_ => h_.1))))
set_option hygiene false in
local macro "mm6q69_" : tactic => `(tactic| ((mm6q1_); exact (Kd.R_mono (Kd.R_far (p := ⟨gb209, 5, none⟩) (Kd.R_far (p := ⟨gb209, 4, none⟩) (Kd.R_far (p := ⟨gb209, 3, none⟩) (Kd.R_far (p := ⟨gb209, 2, none⟩) (Kd.R_far (p := ⟨gb209, 1, none⟩) (Kd.R_far (p := ⟨gb209, 0, none⟩) (Kd.R_types HO194.out BK209.out (by decide)) (fun _ hk => hk.2) (.int .i64 t199)) (fun _ hk => hk.2) (.string t200)) (fun _ hk => hk.2) (.string t201)) (fun _ hk => hk.2) (.int .i64 t202)) (fun _ hk => hk.2) (.slice Ao96 t203.length co96)) (fun _ hk => hk.2) (.slice Ao97 t206.length co97)) (fun _ h_ => h_.1))))
set_option hygiene false in
local macro "mm6q70_" : tactic => `(tactic| ((mm6q1_); exact (Kd.R_mono (Kd.R_far (p := ⟨gb209, 5, none⟩) (Kd.R_far (p := ⟨gb209, 4, none⟩) (Kd.R_far (p := ⟨gb209, 3, none⟩) (Kd.R_far (p := ⟨gb209, 2, none⟩) (Kd.R_far (p := ⟨gb209, 1, none⟩) (Kd.R_far (p := ⟨gb209, 0, none⟩) (Kd.R_types HO197.out BK209.out (by decide)) (fun _ hk => hk.2) (.int .i64 t199)) (fun _ hk => hk.2) (.string t200)) (fun _ hk => hk.2) (.string t201)) (fun _ hk => hk.2) (.int .i64 t202)) (fun _ hk => hk.2) (.slice Ao96 t203.length co96)) (fun _ hk => hk.2) (.slice Ao97 t206.length co97)) (fun _ h_ => h_.1))))
set_option hygiene false in
local macro "mm6q71_" : tactic => `(tactic| ((mm6q1_); exact (Kd.R_mono (Kd.R_far (p := ⟨gb209, 5, none⟩) (Kd.R_far (p := ⟨gb209, 4, none⟩) (Kd.R_far (p := ⟨gb209, 3, none⟩) (Kd.R_far (p := ⟨gb209, 2, none⟩) (Kd.R_far (p := ⟨gb209, 1, none⟩) (Kd.R_far (p := ⟨gb209, 0, none⟩) (Kd.R_types HO205.out BK209.out (by decide)) (fun _ hk => hk.2) (.int .i64 t199)) (fun _ hk => hk.2) (.string t200)) (fun _ hk => hk.2) (.string t201)) (fun _ hk => hk.2) (.int .i64 t202)) (fun _ hk => hk.2) (.slice Ao96 t203.length co96)) (fun _ hk => hk.2) (.slice Ao97 t206.length co97)) (fun _ h_ => h_.1))))
set_option hygiene false in
local macro "mm6q72_" : tactic => `(tactic| ((mm6q1_); exact (Kd.R_mono (Kd.R_far (p := ⟨gb209, 5, none⟩) (Kd.R_far (p := ⟨gb209, 4, none⟩) (Kd.R_far (p := ⟨gb209, 3, none⟩) (Kd.R_far (p := ⟨gb209, 2, none⟩) (Kd.R_far (p := ⟨gb209, 1, none⟩) (Kd.R_far (p := ⟨gb209, 0, none⟩) (Kd.R_types HO208.out BK209.out (by decide)) (fun _ hk => hk.2) (.int .i64 t199)) (fun _ hk => hk.2) (.string t200)) (fun _ hk => hk.2) (.string t201)) (fun _ hk => hk.2) (.int .i64 t202)) (fun _ hk => hk.2) (.slice Ao96 t203.length co96)) (fun _ hk => hk.2) (.slice Ao97 t206.length co97)) (fun _ h_ => h_.1))))
set_option hygiene false in
local macro "mm6q80_" : tactic => `(tactic| ((case side1 => repeat (first | exact (Kd.R_reads' HO173.out).2.2 | (mm6q11_) | (mm6q12_) | (mm6q13_)))))
set_option hygiene false in
local macro "mm6q81_" : tactic => `(tactic| ((case side3 => repeat (first | exact (Kd.R_reads' HO176.out).2.2 | (mm6q11_) | (mm6q12_) | (mm6q13_)))))
set_option hygiene false in
local macro "mm6q82_" : tactic => `(tactic| ((case side5 => repeat (first | exact (Kd.R_reads' HO183.out).2.2 | (mm6q11_) | (mm6q12_) | (mm6q13_)))))
set_option hygiene false in
local macro "mm6q83_" : tactic => `(tactic| ((case side7 => repeat (first | exact (Kd.R_reads' HO186.out).2.2 | (mm6q11_) | (mm6q12_) | (mm6q13_)))))
set_option hygiene false in
local macro "mm6q90_" : tactic => `(tactic| ((case side1 => repeat (first | exact (Kd.R_reads' HO194.out).2.2 | (mm6q11_) | (mm6q12_) | (mm6q13_)))))
set_option hygiene false in
local macro "mm6q91_" : tactic => `(tactic| ((case side3 => repeat (first | exact (Kd.R_reads' HO197.out).2.2 | (mm6q11_) | (mm6q12_) | (mm6q13_)))))
set_option hygiene false in
local macro "mm6q92_" : tactic => `(tactic| ((case side5 => repeat (first | exact (Kd.R_reads' HO217.out).2.2 | (mm6q11_) | (mm6q12_) | (mm6q13_)))))
set_option hygiene false in
local macro "mm6q93_" : tactic => `(tactic| ((case side7 => repeat (first | exact (Kd.R_reads' HO220.out).2.2 | (mm6q11_) | (mm6q12_) | (mm6q13_)))))
set_option hygiene false in
local macro "mm6q95_" : tactic => `(tactic| ((case side1 => exact Kd.C_below HR1_4.out (by mm6q6_))))
set_option hygiene false in
local macro "mm6q96_" : tactic => `(tactic| ((case side3 => exact Kd.C_below HR1_5.out (by mm6q6_))))
set_option hygiene false in
local macro "mm6q104_" : tactic => `(tactic| ((case side1 => repeat (first | exact (Kd.R_reads' HO205.out).2.2 | (mm6q11_) | (mm6q12_) | (mm6q13_)))))
set_option hygiene false in
local macro "mm6q105_" : tactic => `(tactic| ((case side3 => repeat (first | exact (Kd.R_reads' HO208.out).2.2 | (mm6q11_) | (mm6q12_) | (mm6q13_)))))
set_option hygiene false in
local macro "mm6q106_" : tactic => `(tactic| ((case side5 => repeat (first | exact (Kd.R_reads' HO228.out).2.2 | (mm6q11_) | (mm6q12_) | (mm6q13_)))))
set_option hygiene false in
local macro "mm6q107_" : tactic => `(tactic| ((case side7 => repeat (first | exact (Kd.R_reads' HO231.out).2.2 | (mm6q11_) | (mm6q12_) | (mm6q13_)))))
set_option hygiene false in
local macro "mm6q5_" : tactic => `(tactic| (((with_reducible refine gate_callee (f := 10) rfl ?_); refine goesL_ (some 26) rfl rfl Try.func10 (by kernel_rfl) rfl #[.agg mm6q2_] rfl (by mm6q8_) ?_; (with_reducible refine (laws_toPaper.calls k a0_0 a0_1 a0_2 a0_3 _ _ l0_4 _ _ l0_5 t188 t189 t190 t191 t192 t195 _ ?side1 ?side2 ?side3 ?side4 A22.out).mono ?_); (mm6q16_); (case side2 => exact HC0_4.out); (mm6q17_); (case side4 => exact HC0_5.out); rintro e w_ ⟨v193, v196, rfl, ho0, ho1, hb⟩; refine ⟨_, rfl, ?_⟩; have n0_ := Aside0.mk (Kd.R_elder' (by (mm6q1_); exact HO173.out) (Kd.R_base ho0) hb); have n1_ := Aside0.mk (Kd.R_elder' (by (mm6q1_); exact HO176.out) (Kd.R_base ho1) hb); have n2_ := Aside0.mk (Kd.R_elder' (by (mm6q1_); exact HO183.out) (Kd.R_base ho0) hb); have n3_ := Aside0.mk (Kd.R_elder' (by (mm6q1_); exact HO186.out) (Kd.R_base ho1) hb); have n4_ := Aside0.mk (Kd.R_lower (Kd.R_new' (Kd.R_new' ho0 (Kd.R_lt (by (mm6q1_); exact HO173.out))) (Kd.R_lt (by (mm6q1_); exact HO183.out))) (below_size (by mm6q3_))); have n5_ := Aside0.mk (Kd.R_lower (Kd.R_new' (Kd.R_new' ho1 (Kd.R_lt (by (mm6q1_); exact HO176.out))) (Kd.R_lt (by (mm6q1_); exact HO186.out))) (below_size (by mm6q3_))); have n6_ := Aside0.mk (blk_below (g := gb163) (o := .cells mm6q2_ 25 (0, 0)) (by (mm6q0_); exact BK163.out) hb); have n7_ := Aside0.mk (blk_below (g := gb164) (o := .cells mm6q4_ 25 (0, 0)) (by (mm6q0_); exact BK164.out) hb); have n8_ := Aside0.mk (below_step (by mm6q3_) hb); clear HO173; clear HO176; clear HO183; clear HO186; clear BK163; clear BK164; clear HB; have HO173 := n0_; have HO176 := n1_; have HO183 := n2_; have HO186 := n3_; have HO194 := n4_; have HO197 := n5_; have BK163 := n6_; have BK164 := n7_; have HB := n8_; clear n0_ n1_ n2_ n3_ n4_ n5_ n6_ n7_ n8_; (try clear hb); (try clear hb2); (try clear hk); (try clear hi); (try clear ho0); (try clear ho1))))

/-! ### laws_FnExactPaperSame: function 3 -/
def laws_FnExactPaperSame.f (k : Nat) (a0_0 : Int) (a0_1 : ByteArray) (a0_2 : ByteArray) (a0_3 : Int) (l0_4 : List ByteArray) (l0_5 : List (S111)) (a1_0 : Int) (a1_1 : ByteArray) (a1_2 : ByteArray) (a1_3 : Int) (l1_4 : List ByteArray) (l1_5 : List (S111)) : Option (Bool) := (laws_szPaper.f k a0_0 a0_1 a0_2 a0_3 l0_4 l0_5 1048576).bind fun t165 => (if t165 < 0 then (some true) else ((laws_szPaper.f k a1_0 a1_1 a1_2 a1_3 l1_4 l1_5 t165).bind fun t166 => (if t166 < 0 then (some true) else ((laws_toPaper.f k a0_0 a0_1 a0_2 a0_3 l0_4 l0_5).bind fun bt167 => ((laws_toPaper.f k a1_0 a1_1 a1_2 a1_3 l1_4 l1_5).bind fun bt177 => ((spec_PaperSame.f k bt167.1 bt167.2.1 bt167.2.2.1 bt167.2.2.2.1 bt167.2.2.2.2.1 bt167.2.2.2.2.2 bt177.1 bt177.2.1 bt177.2.2.1 bt177.2.2.2.1 bt177.2.2.2.2.1 bt177.2.2.2.2.2).bind fun t187 => ((laws_toPaper.f k a0_0 a0_1 a0_2 a0_3 l0_4 l0_5).bind fun bt188 => ((laws_toPaper.f k a1_0 a1_1 a1_2 a1_3 l1_4 l1_5).bind fun bt199 => ((impl_PaperSame.f k bt188.1 bt188.2.1 bt188.2.2.1 bt188.2.2.2.1 bt188.2.2.2.2.1 bt188.2.2.2.2.2 bt199.1 bt199.2.1 bt199.2.2.1 bt199.2.2.2.1 bt199.2.2.2.2.1 bt199.2.2.2.2.2).bind fun t210 => (if (t210 != t187) = true then (some false) else ((laws_toPaper.f k a0_0 a0_1 a0_2 a0_3 l0_4 l0_5).bind fun bt211 => ((laws_eqPaper.f k bt188.1 bt188.2.1 bt188.2.2.1 bt188.2.2.2.1 bt188.2.2.2.2.1 bt188.2.2.2.2.2 bt211.1 bt211.2.1 bt211.2.2.1 bt211.2.2.2.1 bt211.2.2.2.2.1 bt211.2.2.2.2.2).bind fun t221 => (if t221 = true then ((laws_toPaper.f k a1_0 a1_1 a1_2 a1_3 l1_4 l1_5).bind fun bt222 => ((laws_eqPaper.f k bt199.1 bt199.2.1 bt199.2.2.1 bt199.2.2.2.1 bt199.2.2.2.2.1 bt199.2.2.2.2.2 bt222.1 bt222.2.1 bt222.2.2.1 bt222.2.2.2.1 bt222.2.2.2.2.1 bt222.2.2.2.2.2).bind fun t232 => (if t232 = true then (some true) else (some false)))) else (some false))))))))))))))
theorem laws_FnExactPaperSame.mono : ∀ a0 a1 a2 a3 a4 a5 a6 a7 a8 a9 a10 a11 k, LeO (laws_FnExactPaperSame.f k a0 a1 a2 a3 a4 a5 a6 a7 a8 a9 a10 a11) (laws_FnExactPaperSame.f (k + 1) a0 a1 a2 a3 a4 a5 a6 a7 a8 a9 a10 a11) := by
  intro a0 a1 a2 a3 a4 a5 a6 a7 a8 a9 a10 a11 k
  unfold laws_FnExactPaperSame.f
  repeat' first
      | (with_reducible exact impl_PaperSame.mono _ _ _ _ _ _ _ _ _ _ _ _ _)
      | (with_reducible exact laws_eqPaper.mono _ _ _ _ _ _ _ _ _ _ _ _ _)
      | (with_reducible exact laws_szPaper.mono _ _ _ _ _ _ _ _)
      | (with_reducible exact laws_toPaper.mono _ _ _ _ _ _ _)
      | (with_reducible exact spec_PaperSame.mono _ _ _ _ _ _ _ _ _ _ _ _ _)
      | (with_reducible exact LeO.refl _)
      | (with_reducible exact LeO.none _)
      | (with_reducible refine LeO.ite ?_ ?_)
      | (with_reducible refine LeO.bind ?_ (fun _ => ?_))
      | exact impl_PaperSame.mono _ _ _ _ _ _ _ _ _ _ _ _ _
      | exact laws_eqPaper.mono _ _ _ _ _ _ _ _ _ _ _ _ _
      | exact laws_szPaper.mono _ _ _ _ _ _ _ _
      | exact laws_toPaper.mono _ _ _ _ _ _ _
      | exact spec_PaperSame.mono _ _ _ _ _ _ _ _ _ _ _ _ _
      | exact LeO.none _
      | refine LeO.ite ?_ ?_
      | refine LeO.bind ?_ (fun _ => ?_)
set_option maxHeartbeats 8000000 in
set_option maxRecDepth 100000 in
theorem laws_FnExactPaperSame.calls (k : Nat) (a0_0 : Int) (a0_1 : ByteArray) (a0_2 : ByteArray) (a0_3 : Int) (A0_4 : Option Addr) (c0_4 : Nat) (l0_4 : List ByteArray) (A0_5 : Option Addr) (c0_5 : Nat) (l0_5 : List (S111)) (a1_0 : Int) (a1_1 : ByteArray) (a1_2 : ByteArray) (a1_3 : Int) (A1_4 : Option Addr) (c1_4 : Nat) (l1_4 : List ByteArray) (A1_5 : Option Addr) (c1_5 : Nat) (l1_5 : List (S111)) (r : Bool) (w : World) (hr0_4 : Kd.C Kd.string w A0_4 l0_4.length l0_4) (hc0_4 : l0_4.length ≤ c0_4) (hr0_5 : Kd.C k111 w A0_5 l0_5.length l0_5) (hc0_5 : l0_5.length ≤ c0_5) (hr1_4 : Kd.C Kd.string w A1_4 l1_4.length l1_4) (hc1_4 : l1_4.length ≤ c1_4) (hr1_5 : Kd.C k111 w A1_5 l1_5.length l1_5) (hc1_5 : l1_5.length ≤ c1_5) (h : laws_FnExactPaperSame.f k a0_0 a0_1 a0_2 a0_3 l0_4 l0_5 a1_0 a1_1 a1_2 a1_3 l1_4 l1_5 = some r) :
    Calls Try.prog 3 #[.agg mm6q2_, .agg mm6q4_] w fun e w' => e = .returned (.bool r) ∧ Below w.heap.size w w' := by
  have hu25 := Try.underlying25
  have hu30 := Try.underlying30
  have HR0_4 := Aside0.mk hr0_4
  have HC0_4 := Aside0.mk hc0_4
  clear hr0_4 hc0_4
  have HR0_5 := Aside0.mk hr0_5
  have HC0_5 := Aside0.mk hc0_5
  clear hr0_5 hc0_5
  have HR1_4 := Aside0.mk hr1_4
  have HC1_4 := Aside0.mk hc1_4
  clear hr1_4 hc1_4
  have HR1_5 := Aside0.mk hr1_5
  have HC1_5 := Aside0.mk hc1_5
  clear hr1_5 hc1_5
  have HB := Aside0.mk (Below.refl w.heap.size w)
  have H : ((laws_szPaper.f k a0_0 a0_1 a0_2 a0_3 l0_4 l0_5 1048576).bind fun t165 => (if t165 < 0 then (some true) else ((laws_szPaper.f k a1_0 a1_1 a1_2 a1_3 l1_4 l1_5 t165).bind fun t166 => (if t166 < 0 then (some true) else ((laws_toPaper.f k a0_0 a0_1 a0_2 a0_3 l0_4 l0_5).bind fun bt167 => ((laws_toPaper.f k a1_0 a1_1 a1_2 a1_3 l1_4 l1_5).bind fun bt177 => ((spec_PaperSame.f k bt167.1 bt167.2.1 bt167.2.2.1 bt167.2.2.2.1 bt167.2.2.2.2.1 bt167.2.2.2.2.2 bt177.1 bt177.2.1 bt177.2.2.1 bt177.2.2.2.1 bt177.2.2.2.2.1 bt177.2.2.2.2.2).bind fun t187 => ((laws_toPaper.f k a0_0 a0_1 a0_2 a0_3 l0_4 l0_5).bind fun bt188 => ((laws_toPaper.f k a1_0 a1_1 a1_2 a1_3 l1_4 l1_5).bind fun bt199 => ((impl_PaperSame.f k bt188.1 bt188.2.1 bt188.2.2.1 bt188.2.2.2.1 bt188.2.2.2.2.1 bt188.2.2.2.2.2 bt199.1 bt199.2.1 bt199.2.2.1 bt199.2.2.2.1 bt199.2.2.2.2.1 bt199.2.2.2.2.2).bind fun t210 => (if (t210 != t187) = true then (some false) else ((laws_toPaper.f k a0_0 a0_1 a0_2 a0_3 l0_4 l0_5).bind fun bt211 => ((laws_eqPaper.f k bt188.1 bt188.2.1 bt188.2.2.1 bt188.2.2.2.1 bt188.2.2.2.2.1 bt188.2.2.2.2.2 bt211.1 bt211.2.1 bt211.2.2.1 bt211.2.2.2.1 bt211.2.2.2.2.1 bt211.2.2.2.2.2).bind fun t221 => (if t221 = true then ((laws_toPaper.f k a1_0 a1_1 a1_2 a1_3 l1_4 l1_5).bind fun bt222 => ((laws_eqPaper.f k bt199.1 bt199.2.1 bt199.2.2.1 bt199.2.2.2.1 bt199.2.2.2.2.1 bt199.2.2.2.2.2 bt222.1 bt222.2.1 bt222.2.2.1 bt222.2.2.2.1 bt222.2.2.2.2.1 bt222.2.2.2.2.2).bind fun t232 => (if t232 = true then (some true) else (some false)))) else (some false))))))))))))))) = some r := h
  clear h
  replace H := Option.bind_eq_some_iff.mp H
  obtain ⟨t165, A30, H⟩ := H
  replace H : (if t165 < 0 then (some true) else ((laws_szPaper.f k a1_0 a1_1 a1_2 a1_3 l1_4 l1_5 t165).bind fun t166 => (if t166 < 0 then (some true) else ((laws_toPaper.f k a0_0 a0_1 a0_2 a0_3 l0_4 l0_5).bind fun bt167 => ((laws_toPaper.f k a1_0 a1_1 a1_2 a1_3 l1_4 l1_5).bind fun bt177 => ((spec_PaperSame.f k bt167.1 bt167.2.1 bt167.2.2.1 bt167.2.2.2.1 bt167.2.2.2.2.1 bt167.2.2.2.2.2 bt177.1 bt177.2.1 bt177.2.2.1 bt177.2.2.2.1 bt177.2.2.2.2.1 bt177.2.2.2.2.2).bind fun t187 => ((laws_toPaper.f k a0_0 a0_1 a0_2 a0_3 l0_4 l0_5).bind fun bt188 => ((laws_toPaper.f k a1_0 a1_1 a1_2 a1_3 l1_4 l1_5).bind fun bt199 => ((impl_PaperSame.f k bt188.1 bt188.2.1 bt188.2.2.1 bt188.2.2.2.1 bt188.2.2.2.2.1 bt188.2.2.2.2.2 bt199.1 bt199.2.1 bt199.2.2.1 bt199.2.2.2.1 bt199.2.2.2.2.1 bt199.2.2.2.2.2).bind fun t210 => (if (t210 != t187) = true then (some false) else ((laws_toPaper.f k a0_0 a0_1 a0_2 a0_3 l0_4 l0_5).bind fun bt211 => ((laws_eqPaper.f k bt188.1 bt188.2.1 bt188.2.2.1 bt188.2.2.2.1 bt188.2.2.2.2.1 bt188.2.2.2.2.2 bt211.1 bt211.2.1 bt211.2.2.1 bt211.2.2.2.1 bt211.2.2.2.2.1 bt211.2.2.2.2.2).bind fun t221 => (if t221 = true then ((laws_toPaper.f k a1_0 a1_1 a1_2 a1_3 l1_4 l1_5).bind fun bt222 => ((laws_eqPaper.f k bt199.1 bt199.2.1 bt199.2.2.1 bt199.2.2.2.1 bt199.2.2.2.2.1 bt199.2.2.2.2.2 bt222.1 bt222.2.1 bt222.2.2.1 bt222.2.2.2.1 bt222.2.2.2.2.1 bt222.2.2.2.2.2).bind fun t232 => (if t232 = true then (some true) else (some false)))) else (some false)))))))))))))) = some r := H
  have A3 := Aside0.mk A30
  clear A30
  by_cases c4 : t165 < 0
  · rw [if_pos c4] at H
    have c4b0 : decide (t165 < 0) = true := decide_eq_true c4
    clear c4
    obtain rfl := Option.some.inj H
    go_enter Try.func3, Try.ntmps3
    go_wp2_with (first | (mm6q9_) | ((with_reducible refine gate_dst (N := 3) rfl ?_); refine box_event ?hg (N := 3) ?hd (cs := mm6q4_) (t := 25) ?hr ?_; (case hd => rfl); (case hg => rfl); (mm6q31_); intro gb164 hg w6 hbox hb; have n0_ := Aside0.mk (blk_below (g := gb163) (o := .cells mm6q2_ 25 (0, 0)) (by (mm6q0_); exact BK163.out) hb); have n1_ := Aside0.mk (below_step (by mm6q10_) hb); have n2_ := Aside0.mk (hbox); have n3_ := Aside0.mk ((by rw [hg]; exact (below_size (by mm6q10_)) : w.heap.size ≤ gb164)); have n4_ := Aside0.mk ((by rw [hg]; exact (below_size (by mm6q10_)) : w.heap.size ≤ gb164)); have n5_ := Aside0.mk ((by rw [hg]; exact Nat.ne_of_lt (blk_lt (g := gb163) (o := .cells mm6q2_ 25 (0, 0)) (by (mm6q0_); exact BK163.out)) : gb163 ≠ gb164)); have n6_ := Aside0.mk ((by rw [hg]; exact Nat.ne_of_gt (blk_lt (g := gb163) (o := .cells mm6q2_ 25 (0, 0)) (by (mm6q0_); exact BK163.out)) : gb164 ≠ gb163)); clear BK163; clear HB; have BK163 := n0_; have HB := n1_; have BK164 := n2_; have GW164 := n3_; have GE164 := n4_; have NB163_164 := n5_; have NB164_163 := n6_; clear n0_ n1_ n2_ n3_ n4_ n5_ n6_; clear hb hbox hg; have hnb7 := NB163_164.out; have hnc7 := NB164_163.out; have hcz8_0 : w6.cell? ⟨gb163, 0, none⟩ = some (.int .i64 a0_0) := (blk_cell BK163.out 0).trans rfl; have hcz8_1 : w6.cell? ⟨gb163, 1, none⟩ = some (.string a0_1) := (blk_cell BK163.out 1).trans rfl; have hcz8_2 : w6.cell? ⟨gb163, 2, none⟩ = some (.string a0_2) := (blk_cell BK163.out 2).trans rfl; have hcz8_3 : w6.cell? ⟨gb163, 3, none⟩ = some (.int .i64 a0_3) := (blk_cell BK163.out 3).trans rfl; have hcz8_4 : w6.cell? ⟨gb163, 4, none⟩ = some (.slice A0_4 l0_4.length c0_4) := (blk_cell BK163.out 4).trans rfl; have hcz8_5 : w6.cell? ⟨gb163, 5, none⟩ = some (.slice A0_5 l0_5.length c0_5) := (blk_cell BK163.out 5).trans rfl; have hfz8_0 := blk_frozen BK163.out 0; have hfz8_1 := blk_frozen BK163.out 1; have hfz8_2 := blk_frozen BK163.out 2; have hfz8_3 := blk_frozen BK163.out 3; have hfz8_4 := blk_frozen BK163.out 4; have hfz8_5 := blk_frozen BK163.out 5) | ((with_reducible refine gate_callee (f := 8) rfl ?_); refine goesL_ (some 12) rfl rfl Try.func8 (by kernel_rfl) rfl #[.agg mm6q2_, .int .i64 1048576] rfl (by mm6q8_) ?_; (mm6q29_); (mm6q16_); (case side2 => exact HC0_4.out); (mm6q17_); (case side4 => exact HC0_5.out); rintro e w_ ⟨rfl, hb⟩; refine ⟨_, rfl, ?_⟩; have n0_ := Aside0.mk (blk_below (g := gb163) (o := .cells mm6q2_ 25 (0, 0)) (by (mm6q0_); exact BK163.out) hb); have n1_ := Aside0.mk (blk_below (g := gb164) (o := .cells mm6q4_ 25 (0, 0)) (by (mm6q0_); exact BK164.out) hb); have n2_ := Aside0.mk (below_step (by mm6q3_) hb); clear BK163; clear BK164; clear HB; have BK163 := n0_; have BK164 := n1_; have HB := n2_; clear n0_ n1_ n2_; (try clear hb); (try clear hb2); (try clear hk); (try clear hi)))
    go_ret
    exact ⟨by first | rfl | (simp [errW_none, errW_some] <;> rfl) | (simp [*, errW_none, errW_some] <;> rfl), by repeat (mm6q94_)⟩
  · rw [if_neg c4] at H
    have c4b0 : decide (t165 < 0) = false := decide_eq_false c4
    clear c4
    replace H := Option.bind_eq_some_iff.mp H
    obtain ⟨t166, A100, H⟩ := H
    replace H : (if t166 < 0 then (some true) else ((laws_toPaper.f k a0_0 a0_1 a0_2 a0_3 l0_4 l0_5).bind fun bt167 => ((laws_toPaper.f k a1_0 a1_1 a1_2 a1_3 l1_4 l1_5).bind fun bt177 => ((spec_PaperSame.f k bt167.1 bt167.2.1 bt167.2.2.1 bt167.2.2.2.1 bt167.2.2.2.2.1 bt167.2.2.2.2.2 bt177.1 bt177.2.1 bt177.2.2.1 bt177.2.2.2.1 bt177.2.2.2.2.1 bt177.2.2.2.2.2).bind fun t187 => ((laws_toPaper.f k a0_0 a0_1 a0_2 a0_3 l0_4 l0_5).bind fun bt188 => ((laws_toPaper.f k a1_0 a1_1 a1_2 a1_3 l1_4 l1_5).bind fun bt199 => ((impl_PaperSame.f k bt188.1 bt188.2.1 bt188.2.2.1 bt188.2.2.2.1 bt188.2.2.2.2.1 bt188.2.2.2.2.2 bt199.1 bt199.2.1 bt199.2.2.1 bt199.2.2.2.1 bt199.2.2.2.2.1 bt199.2.2.2.2.2).bind fun t210 => (if (t210 != t187) = true then (some false) else ((laws_toPaper.f k a0_0 a0_1 a0_2 a0_3 l0_4 l0_5).bind fun bt211 => ((laws_eqPaper.f k bt188.1 bt188.2.1 bt188.2.2.1 bt188.2.2.2.1 bt188.2.2.2.2.1 bt188.2.2.2.2.2 bt211.1 bt211.2.1 bt211.2.2.1 bt211.2.2.2.1 bt211.2.2.2.2.1 bt211.2.2.2.2.2).bind fun t221 => (if t221 = true then ((laws_toPaper.f k a1_0 a1_1 a1_2 a1_3 l1_4 l1_5).bind fun bt222 => ((laws_eqPaper.f k bt199.1 bt199.2.1 bt199.2.2.1 bt199.2.2.2.1 bt199.2.2.2.2.1 bt199.2.2.2.2.2 bt222.1 bt222.2.1 bt222.2.2.1 bt222.2.2.2.1 bt222.2.2.2.2.1 bt222.2.2.2.2.2).bind fun t232 => (if t232 = true then (some true) else (some false)))) else (some false)))))))))))) = some r := H
    have A10 := Aside0.mk A100
    clear A100
    by_cases c11 : t166 < 0
    · rw [if_pos c11] at H
      have c11b0 : decide (t166 < 0) = true := decide_eq_true c11
      clear c11
      obtain rfl := Option.some.inj H
      go_enter Try.func3, Try.ntmps3
      go_wp2_with (first | (mm6q9_) | ((with_reducible refine gate_dst (N := 3) rfl ?_); refine box_event ?hg (N := 3) ?hd (cs := mm6q4_) (t := 25) ?hr ?_; (case hd => rfl); (case hg => rfl); (mm6q31_); intro gb164 hg w13 hbox hb; have n0_ := Aside0.mk (blk_below (g := gb163) (o := .cells mm6q2_ 25 (0, 0)) (by (mm6q0_); exact BK163.out) hb); have n1_ := Aside0.mk (below_step (by mm6q10_) hb); have n2_ := Aside0.mk (hbox); have n3_ := Aside0.mk ((by rw [hg]; exact (below_size (by mm6q10_)) : w.heap.size ≤ gb164)); have n4_ := Aside0.mk ((by rw [hg]; exact (below_size (by mm6q10_)) : w.heap.size ≤ gb164)); have n5_ := Aside0.mk ((by rw [hg]; exact Nat.ne_of_lt (blk_lt (g := gb163) (o := .cells mm6q2_ 25 (0, 0)) (by (mm6q0_); exact BK163.out)) : gb163 ≠ gb164)); have n6_ := Aside0.mk ((by rw [hg]; exact Nat.ne_of_gt (blk_lt (g := gb163) (o := .cells mm6q2_ 25 (0, 0)) (by (mm6q0_); exact BK163.out)) : gb164 ≠ gb163)); clear BK163; clear HB; have BK163 := n0_; have HB := n1_; have BK164 := n2_; have GW164 := n3_; have GE164 := n4_; have NB163_164 := n5_; have NB164_163 := n6_; clear n0_ n1_ n2_ n3_ n4_ n5_ n6_; clear hb hbox hg; have hnb14 := NB163_164.out; have hnc14 := NB164_163.out; have hcz15_0 : w13.cell? ⟨gb163, 0, none⟩ = some (.int .i64 a0_0) := (blk_cell BK163.out 0).trans rfl; have hcz15_1 : w13.cell? ⟨gb163, 1, none⟩ = some (.string a0_1) := (blk_cell BK163.out 1).trans rfl; have hcz15_2 : w13.cell? ⟨gb163, 2, none⟩ = some (.string a0_2) := (blk_cell BK163.out 2).trans rfl; have hcz15_3 : w13.cell? ⟨gb163, 3, none⟩ = some (.int .i64 a0_3) := (blk_cell BK163.out 3).trans rfl; have hcz15_4 : w13.cell? ⟨gb163, 4, none⟩ = some (.slice A0_4 l0_4.length c0_4) := (blk_cell BK163.out 4).trans rfl; have hcz15_5 : w13.cell? ⟨gb163, 5, none⟩ = some (.slice A0_5 l0_5.length c0_5) := (blk_cell BK163.out 5).trans rfl; have hfz15_0 := blk_frozen BK163.out 0; have hfz15_1 := blk_frozen BK163.out 1; have hfz15_2 := blk_frozen BK163.out 2; have hfz15_3 := blk_frozen BK163.out 3; have hfz15_4 := blk_frozen BK163.out 4; have hfz15_5 := blk_frozen BK163.out 5) | ((with_reducible refine gate_callee (f := 8) rfl ?_); refine goesL_ (some 12) rfl rfl Try.func8 (by kernel_rfl) rfl #[.agg mm6q2_, .int .i64 1048576] rfl (by mm6q8_) ?_; (mm6q29_); (mm6q16_); (case side2 => exact HC0_4.out); (mm6q17_); (case side4 => exact HC0_5.out); rintro e w16 ⟨rfl, hb⟩; refine ⟨_, rfl, ?_⟩; have n0_ := Aside0.mk (blk_below (g := gb163) (o := .cells mm6q2_ 25 (0, 0)) (by (mm6q0_); exact BK163.out) hb); have n1_ := Aside0.mk (blk_below (g := gb164) (o := .cells mm6q4_ 25 (0, 0)) (by (mm6q0_); exact BK164.out) hb); have n2_ := Aside0.mk (below_step (by mm6q3_) hb); clear BK163; clear BK164; clear HB; have BK163 := n0_; have BK164 := n1_; have HB := n2_; clear n0_ n1_ n2_; (try clear hb); (try clear hb2); (try clear hk); (try clear hi); have hcz17_0 : w16.cell? ⟨gb164, 0, none⟩ = some (.int .i64 a1_0) := (blk_cell BK164.out 0).trans rfl; have hcz17_1 : w16.cell? ⟨gb164, 1, none⟩ = some (.string a1_1) := (blk_cell BK164.out 1).trans rfl; have hcz17_2 : w16.cell? ⟨gb164, 2, none⟩ = some (.string a1_2) := (blk_cell BK164.out 2).trans rfl; have hcz17_3 : w16.cell? ⟨gb164, 3, none⟩ = some (.int .i64 a1_3) := (blk_cell BK164.out 3).trans rfl; have hcz17_4 : w16.cell? ⟨gb164, 4, none⟩ = some (.slice A1_4 l1_4.length c1_4) := (blk_cell BK164.out 4).trans rfl; have hcz17_5 : w16.cell? ⟨gb164, 5, none⟩ = some (.slice A1_5 l1_5.length c1_5) := (blk_cell BK164.out 5).trans rfl; have hfz17_0 := blk_frozen BK164.out 0; have hfz17_1 := blk_frozen BK164.out 1; have hfz17_2 := blk_frozen BK164.out 2; have hfz17_3 := blk_frozen BK164.out 3; have hfz17_4 := blk_frozen BK164.out 4; have hfz17_5 := blk_frozen BK164.out 5) | ((with_reducible refine gate_callee (f := 8) rfl ?_); refine goesL_ (some 17) rfl rfl Try.func8 (by kernel_rfl) rfl #[.agg mm6q4_, .int .i64 t165] rfl (by mm6q8_) ?_; (mm6q73_); (mm6q19_); (case side2 => exact HC1_4.out); (mm6q20_); (case side4 => exact HC1_5.out); rintro e w_ ⟨rfl, hb⟩; refine ⟨_, rfl, ?_⟩; have n0_ := Aside0.mk (blk_below (g := gb163) (o := .cells mm6q2_ 25 (0, 0)) (by (mm6q0_); exact BK163.out) hb); have n1_ := Aside0.mk (blk_below (g := gb164) (o := .cells mm6q4_ 25 (0, 0)) (by (mm6q0_); exact BK164.out) hb); have n2_ := Aside0.mk (below_step (by mm6q3_) hb); clear BK163; clear BK164; clear HB; have BK163 := n0_; have BK164 := n1_; have HB := n2_; clear n0_ n1_ n2_; (try clear hb); (try clear hb2); (try clear hk); (try clear hi)))
      go_ret
      exact ⟨by first | rfl | (simp [errW_none, errW_some] <;> rfl) | (simp [*, errW_none, errW_some] <;> rfl), by repeat (mm6q94_)⟩
    · rw [if_neg c11] at H
      have c11b0 : decide (t166 < 0) = false := decide_eq_false c11
      clear c11
      replace H := Option.bind_eq_some_iff.mp H
      obtain ⟨⟨t167, t168, t169, t170, t171, t174⟩, A190, H⟩ := H
      replace H : ((laws_toPaper.f k a1_0 a1_1 a1_2 a1_3 l1_4 l1_5).bind fun bt177 => ((spec_PaperSame.f k t167 t168 t169 t170 t171 t174 bt177.1 bt177.2.1 bt177.2.2.1 bt177.2.2.2.1 bt177.2.2.2.2.1 bt177.2.2.2.2.2).bind fun t187 => ((laws_toPaper.f k a0_0 a0_1 a0_2 a0_3 l0_4 l0_5).bind fun bt188 => ((laws_toPaper.f k a1_0 a1_1 a1_2 a1_3 l1_4 l1_5).bind fun bt199 => ((impl_PaperSame.f k bt188.1 bt188.2.1 bt188.2.2.1 bt188.2.2.2.1 bt188.2.2.2.2.1 bt188.2.2.2.2.2 bt199.1 bt199.2.1 bt199.2.2.1 bt199.2.2.2.1 bt199.2.2.2.2.1 bt199.2.2.2.2.2).bind fun t210 => (if (t210 != t187) = true then (some false) else ((laws_toPaper.f k a0_0 a0_1 a0_2 a0_3 l0_4 l0_5).bind fun bt211 => ((laws_eqPaper.f k bt188.1 bt188.2.1 bt188.2.2.1 bt188.2.2.2.1 bt188.2.2.2.2.1 bt188.2.2.2.2.2 bt211.1 bt211.2.1 bt211.2.2.1 bt211.2.2.2.1 bt211.2.2.2.2.1 bt211.2.2.2.2.2).bind fun t221 => (if t221 = true then ((laws_toPaper.f k a1_0 a1_1 a1_2 a1_3 l1_4 l1_5).bind fun bt222 => ((laws_eqPaper.f k bt199.1 bt199.2.1 bt199.2.2.1 bt199.2.2.2.1 bt199.2.2.2.2.1 bt199.2.2.2.2.2 bt222.1 bt222.2.1 bt222.2.2.1 bt222.2.2.2.1 bt222.2.2.2.2.1 bt222.2.2.2.2.2).bind fun t232 => (if t232 = true then (some true) else (some false)))) else (some false)))))))))) = some r := H
      have A19 := Aside0.mk A190
      clear A190
      replace H := Option.bind_eq_some_iff.mp H
      obtain ⟨⟨t177, t178, t179, t180, t181, t184⟩, A200, H⟩ := H
      replace H : ((spec_PaperSame.f k t167 t168 t169 t170 t171 t174 t177 t178 t179 t180 t181 t184).bind fun t187 => ((laws_toPaper.f k a0_0 a0_1 a0_2 a0_3 l0_4 l0_5).bind fun bt188 => ((laws_toPaper.f k a1_0 a1_1 a1_2 a1_3 l1_4 l1_5).bind fun bt199 => ((impl_PaperSame.f k bt188.1 bt188.2.1 bt188.2.2.1 bt188.2.2.2.1 bt188.2.2.2.2.1 bt188.2.2.2.2.2 bt199.1 bt199.2.1 bt199.2.2.1 bt199.2.2.2.1 bt199.2.2.2.2.1 bt199.2.2.2.2.2).bind fun t210 => (if (t210 != t187) = true then (some false) else ((laws_toPaper.f k a0_0 a0_1 a0_2 a0_3 l0_4 l0_5).bind fun bt211 => ((laws_eqPaper.f k bt188.1 bt188.2.1 bt188.2.2.1 bt188.2.2.2.1 bt188.2.2.2.2.1 bt188.2.2.2.2.2 bt211.1 bt211.2.1 bt211.2.2.1 bt211.2.2.2.1 bt211.2.2.2.2.1 bt211.2.2.2.2.2).bind fun t221 => (if t221 = true then ((laws_toPaper.f k a1_0 a1_1 a1_2 a1_3 l1_4 l1_5).bind fun bt222 => ((laws_eqPaper.f k bt199.1 bt199.2.1 bt199.2.2.1 bt199.2.2.2.1 bt199.2.2.2.2.1 bt199.2.2.2.2.2 bt222.1 bt222.2.1 bt222.2.2.1 bt222.2.2.2.1 bt222.2.2.2.2.1 bt222.2.2.2.2.2).bind fun t232 => (if t232 = true then (some true) else (some false)))) else (some false))))))))) = some r := H
      have A20 := Aside0.mk A200
      clear A200
      replace H := Option.bind_eq_some_iff.mp H
      obtain ⟨t187, A210, H⟩ := H
      replace H : ((laws_toPaper.f k a0_0 a0_1 a0_2 a0_3 l0_4 l0_5).bind fun bt188 => ((laws_toPaper.f k a1_0 a1_1 a1_2 a1_3 l1_4 l1_5).bind fun bt199 => ((impl_PaperSame.f k bt188.1 bt188.2.1 bt188.2.2.1 bt188.2.2.2.1 bt188.2.2.2.2.1 bt188.2.2.2.2.2 bt199.1 bt199.2.1 bt199.2.2.1 bt199.2.2.2.1 bt199.2.2.2.2.1 bt199.2.2.2.2.2).bind fun t210 => (if (t210 != t187) = true then (some false) else ((laws_toPaper.f k a0_0 a0_1 a0_2 a0_3 l0_4 l0_5).bind fun bt211 => ((laws_eqPaper.f k bt188.1 bt188.2.1 bt188.2.2.1 bt188.2.2.2.1 bt188.2.2.2.2.1 bt188.2.2.2.2.2 bt211.1 bt211.2.1 bt211.2.2.1 bt211.2.2.2.1 bt211.2.2.2.2.1 bt211.2.2.2.2.2).bind fun t221 => (if t221 = true then ((laws_toPaper.f k a1_0 a1_1 a1_2 a1_3 l1_4 l1_5).bind fun bt222 => ((laws_eqPaper.f k bt199.1 bt199.2.1 bt199.2.2.1 bt199.2.2.2.1 bt199.2.2.2.2.1 bt199.2.2.2.2.2 bt222.1 bt222.2.1 bt222.2.2.1 bt222.2.2.2.1 bt222.2.2.2.2.1 bt222.2.2.2.2.2).bind fun t232 => (if t232 = true then (some true) else (some false)))) else (some false)))))))) = some r := H
      have A21 := Aside0.mk A210
      clear A210
      replace H := Option.bind_eq_some_iff.mp H
      obtain ⟨⟨t188, t189, t190, t191, t192, t195⟩, A220, H⟩ := H
      replace H : ((laws_toPaper.f k a1_0 a1_1 a1_2 a1_3 l1_4 l1_5).bind fun bt199 => ((impl_PaperSame.f k t188 t189 t190 t191 t192 t195 bt199.1 bt199.2.1 bt199.2.2.1 bt199.2.2.2.1 bt199.2.2.2.2.1 bt199.2.2.2.2.2).bind fun t210 => (if (t210 != t187) = true then (some false) else ((laws_toPaper.f k a0_0 a0_1 a0_2 a0_3 l0_4 l0_5).bind fun bt211 => ((laws_eqPaper.f k t188 t189 t190 t191 t192 t195 bt211.1 bt211.2.1 bt211.2.2.1 bt211.2.2.2.1 bt211.2.2.2.2.1 bt211.2.2.2.2.2).bind fun t221 => (if t221 = true then ((laws_toPaper.f k a1_0 a1_1 a1_2 a1_3 l1_4 l1_5).bind fun bt222 => ((laws_eqPaper.f k bt199.1 bt199.2.1 bt199.2.2.1 bt199.2.2.2.1 bt199.2.2.2.2.1 bt199.2.2.2.2.2 bt222.1 bt222.2.1 bt222.2.2.1 bt222.2.2.2.1 bt222.2.2.2.2.1 bt222.2.2.2.2.2).bind fun t232 => (if t232 = true then (some true) else (some false)))) else (some false))))))) = some r := H
      have A22 := Aside0.mk A220
      clear A220
      replace H := Option.bind_eq_some_iff.mp H
      obtain ⟨⟨t199, t200, t201, t202, t203, t206⟩, A230, H⟩ := H
      replace H : ((impl_PaperSame.f k t188 t189 t190 t191 t192 t195 t199 t200 t201 t202 t203 t206).bind fun t210 => (if (t210 != t187) = true then (some false) else ((laws_toPaper.f k a0_0 a0_1 a0_2 a0_3 l0_4 l0_5).bind fun bt211 => ((laws_eqPaper.f k t188 t189 t190 t191 t192 t195 bt211.1 bt211.2.1 bt211.2.2.1 bt211.2.2.2.1 bt211.2.2.2.2.1 bt211.2.2.2.2.2).bind fun t221 => (if t221 = true then ((laws_toPaper.f k a1_0 a1_1 a1_2 a1_3 l1_4 l1_5).bind fun bt222 => ((laws_eqPaper.f k t199 t200 t201 t202 t203 t206 bt222.1 bt222.2.1 bt222.2.2.1 bt222.2.2.2.1 bt222.2.2.2.2.1 bt222.2.2.2.2.2).bind fun t232 => (if t232 = true then (some true) else (some false)))) else (some false)))))) = some r := H
      have A23 := Aside0.mk A230
      clear A230
      replace H := Option.bind_eq_some_iff.mp H
      obtain ⟨t210, A240, H⟩ := H
      replace H : (if (t210 != t187) = true then (some false) else ((laws_toPaper.f k a0_0 a0_1 a0_2 a0_3 l0_4 l0_5).bind fun bt211 => ((laws_eqPaper.f k t188 t189 t190 t191 t192 t195 bt211.1 bt211.2.1 bt211.2.2.1 bt211.2.2.2.1 bt211.2.2.2.2.1 bt211.2.2.2.2.2).bind fun t221 => (if t221 = true then ((laws_toPaper.f k a1_0 a1_1 a1_2 a1_3 l1_4 l1_5).bind fun bt222 => ((laws_eqPaper.f k t199 t200 t201 t202 t203 t206 bt222.1 bt222.2.1 bt222.2.2.1 bt222.2.2.2.1 bt222.2.2.2.2.1 bt222.2.2.2.2.2).bind fun t232 => (if t232 = true then (some true) else (some false)))) else (some false))))) = some r := H
      have A24 := Aside0.mk A240
      clear A240
      by_cases c25 : (t210 != t187) = true
      · rw [if_pos c25] at H
        have c25b0 : (t210 != t187) = true := c25
        (try (have c25b1 : decide (t210 = t187) = false := by simpa using c25))
        (try (have c25b2 : (t210 == t187) = false := by simpa using c25))
        (try (have c25b3 : ¬ (t210 = t187) := by simpa using c25))
        clear c25
        obtain rfl := Option.some.inj H
        go_enter Try.func3, Try.ntmps3
        try go_wp2_with (first | (mm6q9_) | ((with_reducible refine gate_dst (N := 3) rfl ?_); refine box_event ?hg (N := 3) ?hd (cs := mm6q4_) (t := 25) ?hr ?_; (case hd => rfl); (case hg => rfl); (mm6q31_); intro gb164 hg w27 hbox hb; have n0_ := Aside0.mk (blk_below (g := gb163) (o := .cells mm6q2_ 25 (0, 0)) (by (mm6q0_); exact BK163.out) hb); have n1_ := Aside0.mk (below_step (by mm6q10_) hb); have n2_ := Aside0.mk (hbox); have n3_ := Aside0.mk ((by rw [hg]; exact (below_size (by mm6q10_)) : w.heap.size ≤ gb164)); have n4_ := Aside0.mk ((by rw [hg]; exact (below_size (by mm6q10_)) : w.heap.size ≤ gb164)); have n5_ := Aside0.mk ((by rw [hg]; exact Nat.ne_of_lt (blk_lt (g := gb163) (o := .cells mm6q2_ 25 (0, 0)) (by (mm6q0_); exact BK163.out)) : gb163 ≠ gb164)); have n6_ := Aside0.mk ((by rw [hg]; exact Nat.ne_of_gt (blk_lt (g := gb163) (o := .cells mm6q2_ 25 (0, 0)) (by (mm6q0_); exact BK163.out)) : gb164 ≠ gb163)); clear BK163; clear HB; have BK163 := n0_; have HB := n1_; have BK164 := n2_; have GW164 := n3_; have GE164 := n4_; have NB163_164 := n5_; have NB164_163 := n6_; clear n0_ n1_ n2_ n3_ n4_ n5_ n6_; clear hb hbox hg; have hnb28 := NB163_164.out; have hnc28 := NB164_163.out; have hcz29_0 : w27.cell? ⟨gb163, 0, none⟩ = some (.int .i64 a0_0) := (blk_cell BK163.out 0).trans rfl; have hcz29_1 : w27.cell? ⟨gb163, 1, none⟩ = some (.string a0_1) := (blk_cell BK163.out 1).trans rfl; have hcz29_2 : w27.cell? ⟨gb163, 2, none⟩ = some (.string a0_2) := (blk_cell BK163.out 2).trans rfl; have hcz29_3 : w27.cell? ⟨gb163, 3, none⟩ = some (.int .i64 a0_3) := (blk_cell BK163.out 3).trans rfl; have hcz29_4 : w27.cell? ⟨gb163, 4, none⟩ = some (.slice A0_4 l0_4.length c0_4) := (blk_cell BK163.out 4).trans rfl; have hcz29_5 : w27.cell? ⟨gb163, 5, none⟩ = some (.slice A0_5 l0_5.length c0_5) := (blk_cell BK163.out 5).trans rfl; have hfz29_0 := blk_frozen BK163.out 0; have hfz29_1 := blk_frozen BK163.out 1; have hfz29_2 := blk_frozen BK163.out 2; have hfz29_3 := blk_frozen BK163.out 3; have hfz29_4 := blk_frozen BK163.out 4; have hfz29_5 := blk_frozen BK163.out 5) | ((with_reducible refine gate_callee (f := 8) rfl ?_); refine goesL_ (some 12) rfl rfl Try.func8 (by kernel_rfl) rfl #[.agg mm6q2_, .int .i64 1048576] rfl (by mm6q8_) ?_; (mm6q29_); (mm6q16_); (case side2 => exact HC0_4.out); (mm6q17_); (case side4 => exact HC0_5.out); rintro e w30 ⟨rfl, hb⟩; refine ⟨_, rfl, ?_⟩; have n0_ := Aside0.mk (blk_below (g := gb163) (o := .cells mm6q2_ 25 (0, 0)) (by (mm6q0_); exact BK163.out) hb); have n1_ := Aside0.mk (blk_below (g := gb164) (o := .cells mm6q4_ 25 (0, 0)) (by (mm6q0_); exact BK164.out) hb); have n2_ := Aside0.mk (below_step (by mm6q3_) hb); clear BK163; clear BK164; clear HB; have BK163 := n0_; have BK164 := n1_; have HB := n2_; clear n0_ n1_ n2_; (try clear hb); (try clear hb2); (try clear hk); (try clear hi); have hcz31_0 : w30.cell? ⟨gb164, 0, none⟩ = some (.int .i64 a1_0) := (blk_cell BK164.out 0).trans rfl; have hcz31_1 : w30.cell? ⟨gb164, 1, none⟩ = some (.string a1_1) := (blk_cell BK164.out 1).trans rfl; have hcz31_2 : w30.cell? ⟨gb164, 2, none⟩ = some (.string a1_2) := (blk_cell BK164.out 2).trans rfl; have hcz31_3 : w30.cell? ⟨gb164, 3, none⟩ = some (.int .i64 a1_3) := (blk_cell BK164.out 3).trans rfl; have hcz31_4 : w30.cell? ⟨gb164, 4, none⟩ = some (.slice A1_4 l1_4.length c1_4) := (blk_cell BK164.out 4).trans rfl; have hcz31_5 : w30.cell? ⟨gb164, 5, none⟩ = some (.slice A1_5 l1_5.length c1_5) := (blk_cell BK164.out 5).trans rfl; have hfz31_0 := blk_frozen BK164.out 0; have hfz31_1 := blk_frozen BK164.out 1; have hfz31_2 := blk_frozen BK164.out 2; have hfz31_3 := blk_frozen BK164.out 3; have hfz31_4 := blk_frozen BK164.out 4; have hfz31_5 := blk_frozen BK164.out 5) | ((with_reducible refine gate_callee (f := 8) rfl ?_); refine goesL_ (some 17) rfl rfl Try.func8 (by kernel_rfl) rfl #[.agg mm6q4_, .int .i64 t165] rfl (by mm6q8_) ?_; (mm6q73_); (mm6q19_); (case side2 => exact HC1_4.out); (mm6q20_); (case side4 => exact HC1_5.out); rintro e w32 ⟨rfl, hb⟩; refine ⟨_, rfl, ?_⟩; have n0_ := Aside0.mk (blk_below (g := gb163) (o := .cells mm6q2_ 25 (0, 0)) (by (mm6q0_); exact BK163.out) hb); have n1_ := Aside0.mk (blk_below (g := gb164) (o := .cells mm6q4_ 25 (0, 0)) (by (mm6q0_); exact BK164.out) hb); have n2_ := Aside0.mk (below_step (by mm6q3_) hb); clear BK163; clear BK164; clear HB; have BK163 := n0_; have BK164 := n1_; have HB := n2_; clear n0_ n1_ n2_; (try clear hb); (try clear hb2); (try clear hk); (try clear hi)))
        have n0_ := Aside0.mk (blk_drew BK163.out)
        have n1_ := Aside0.mk (blk_drew BK164.out)
        have n2_ := Aside0.mk (below_drew1 HB.out)
        clear BK163
        clear BK164
        clear HB
        have BK163 := n0_
        have BK164 := n1_
        have HB := n2_
        clear n0_ n1_ n2_
        refine start_ (n := 6) (S := fun w' => w'.cell? ⟨gb163, 0, none⟩ = some (.int .i64 a0_0) ∧ w'.cell? ⟨gb163, 1, none⟩ = some (.string a0_1) ∧ w'.cell? ⟨gb163, 2, none⟩ = some (.string a0_2) ∧ w'.cell? ⟨gb163, 3, none⟩ = some (.int .i64 a0_3) ∧ w'.cell? ⟨gb163, 4, none⟩ = some (.slice A0_4 l0_4.length c0_4) ∧ w'.cell? ⟨gb163, 5, none⟩ = some (.slice A0_5 l0_5.length c0_5) ∧ w'.cell? ⟨gb164, 0, none⟩ = some (.int .i64 a1_0) ∧ w'.cell? ⟨gb164, 1, none⟩ = some (.string a1_1) ∧ w'.cell? ⟨gb164, 2, none⟩ = some (.string a1_2) ∧ w'.cell? ⟨gb164, 3, none⟩ = some (.int .i64 a1_3) ∧ w'.cell? ⟨gb164, 4, none⟩ = some (.slice A1_4 l1_4.length c1_4) ∧ w'.cell? ⟨gb164, 5, none⟩ = some (.slice A1_5 l1_5.length c1_5)) (ds := []) #[false, false, false, false, false, false] (by kernel_rfl) rfl rfl ⟨(blk_cell BK163.out 0).trans rfl, (blk_cell BK163.out 1).trans rfl, (blk_cell BK163.out 2).trans rfl, (blk_cell BK163.out 3).trans rfl, (blk_cell BK163.out 4).trans rfl, (blk_cell BK163.out 5).trans rfl, (blk_cell BK164.out 0).trans rfl, (blk_cell BK164.out 1).trans rfl, (blk_cell BK164.out 2).trans rfl, (blk_cell BK164.out 3).trans rfl, (blk_cell BK164.out 4).trans rfl, (blk_cell BK164.out 5).trans rfl⟩ (fun hHeld => ?_)
        generalize w32.drew = w_ at BK163 BK164 HB hHeld ⊢
        refine take_ (i := 0) (N := some 20) (v := ?_) (a' := ?_) #[true, false, false, false, false, false] rfl rfl (by kernel_rfl) (fun _ _ _ h => h) (Or.inl ⟨by rfl, ?_⟩) hHeld ?_ ?_
        rotate_left
        · rintro w' ⟨s0, s1, s2, s3, s4, s5, s6, s7, s8, s9, s10, s11⟩
          go_simp
          with_reducible rfl
        rotate_left
        · simp only [Act.put, List.setIfInBounds_toArray, List.set_cons_zero, List.set_cons_succ, i64_w, i32_w]
          rfl
        refine take_ (i := 2) (N := some 22) (v := ?_) (a' := ?_) #[true, false, true, false, false, false] rfl rfl (by kernel_rfl) (fun _ _ _ h => h) (Or.inl ⟨by rfl, ?_⟩) hHeld ?_ ?_
        rotate_left
        · rintro w' ⟨s0, s1, s2, s3, s4, s5, s6, s7, s8, s9, s10, s11⟩
          go_simp
          with_reducible rfl
        rotate_left
        · simp only [Act.put, List.setIfInBounds_toArray, List.set_cons_zero, List.set_cons_succ, i64_w, i32_w]
          rfl
        refine one_ (i := 1) (N := some 21) #[true, true, true, false, false, false] rfl rfl (by kernel_rfl) (by decide) (fun K hK => ?_)
        refine goes_ Try.func10 (by kernel_rfl) rfl #[.agg mm6q2_] (by rfl) rfl rfl (by mm6q8_) ?_
        with_reducible refine (laws_toPaper.calls k a0_0 a0_1 a0_2 a0_3 _ _ l0_4 _ _ l0_5 t167 t168 t169 t170 t171 t174 _ ?side1 ?side2 ?side3 ?side4 A19.out).mono ?_
        (mm6q16_)
        (case side2 => exact HC0_4.out)
        (mm6q17_)
        (case side4 => exact HC0_5.out)
        rintro e w_ ⟨v172, v175, rfl, ho0, ho1, hb⟩
        refine ⟨_, rfl, ?_⟩
        have n0_ := Aside0.mk (Kd.R_lower ho0 (below_size (by mm6q3_)))
        have n1_ := Aside0.mk (Kd.R_lower ho1 (below_size (by mm6q3_)))
        have n2_ := Aside0.mk (blk_below (g := gb163) (o := .cells mm6q2_ 25 (0, 0)) (by (mm6q0_); exact BK163.out) hb)
        have n3_ := Aside0.mk (blk_below (g := gb164) (o := .cells mm6q4_ 25 (0, 0)) (by (mm6q0_); exact BK164.out) hb)
        have n4_ := Aside0.mk (below_step (by mm6q3_) hb)
        clear BK163
        clear BK164
        clear HB
        have HO173 := n0_
        have HO176 := n1_
        have BK163 := n2_
        have BK164 := n3_
        have HB := n4_
        clear n0_ n1_ n2_ n3_ n4_
        (try clear hb)
        (try clear hb2)
        (try clear hk)
        (try clear hi)
        (try clear ho0)
        (try clear ho1)
        refine hK.out _ _ ⟨(blk_cell BK163.out 0).trans rfl, (blk_cell BK163.out 1).trans rfl, (blk_cell BK163.out 2).trans rfl, (blk_cell BK163.out 3).trans rfl, (blk_cell BK163.out 4).trans rfl, (blk_cell BK163.out 5).trans rfl, (blk_cell BK164.out 0).trans rfl, (blk_cell BK164.out 1).trans rfl, (blk_cell BK164.out 2).trans rfl, (blk_cell BK164.out 3).trans rfl, (blk_cell BK164.out 4).trans rfl, (blk_cell BK164.out 5).trans rfl⟩ (fun hHeld => ?_)
        clear hK K
        refine norm_ (a' := ?_) ?_ ?_
        rotate_left
        · show Act.put _ (some 21) _ = _
          simp only [Act.put, List.setIfInBounds_toArray, List.set_cons_zero, List.set_cons_succ, i64_w, i32_w]
          rfl
        refine one_ (i := 3) (N := some 23) #[true, true, true, true, false, false] rfl rfl (by kernel_rfl) (by decide) (fun K hK => ?_)
        refine goes_ Try.func10 (by kernel_rfl) rfl #[.agg mm6q4_] (by rfl) rfl rfl (by mm6q8_) ?_
        with_reducible refine (laws_toPaper.calls k a1_0 a1_1 a1_2 a1_3 _ _ l1_4 _ _ l1_5 t177 t178 t179 t180 t181 t184 _ ?side1 ?side2 ?side3 ?side4 A20.out).mono ?_
        (mm6q19_)
        (case side2 => exact HC1_4.out)
        (mm6q20_)
        (case side4 => exact HC1_5.out)
        rintro e w_ ⟨v182, v185, rfl, ho0, ho1, hb⟩
        refine ⟨_, rfl, ?_⟩
        have n0_ := Aside0.mk (Kd.R_elder' (by (mm6q1_); exact HO173.out) (Kd.R_base ho0) hb)
        have n1_ := Aside0.mk (Kd.R_elder' (by (mm6q1_); exact HO176.out) (Kd.R_base ho1) hb)
        have n2_ := Aside0.mk (Kd.R_lower (Kd.R_new' ho0 (Kd.R_lt (by (mm6q1_); exact HO173.out))) (below_size (by mm6q3_)))
        have n3_ := Aside0.mk (Kd.R_lower (Kd.R_new' ho1 (Kd.R_lt (by (mm6q1_); exact HO176.out))) (below_size (by mm6q3_)))
        have n4_ := Aside0.mk (blk_below (g := gb163) (o := .cells mm6q2_ 25 (0, 0)) (by (mm6q0_); exact BK163.out) hb)
        have n5_ := Aside0.mk (blk_below (g := gb164) (o := .cells mm6q4_ 25 (0, 0)) (by (mm6q0_); exact BK164.out) hb)
        have n6_ := Aside0.mk (below_step (by mm6q3_) hb)
        clear HO173
        clear HO176
        clear BK163
        clear BK164
        clear HB
        have HO173 := n0_
        have HO176 := n1_
        have HO183 := n2_
        have HO186 := n3_
        have BK163 := n4_
        have BK164 := n5_
        have HB := n6_
        clear n0_ n1_ n2_ n3_ n4_ n5_ n6_
        (try clear hb)
        (try clear hb2)
        (try clear hk)
        (try clear hi)
        (try clear ho0)
        (try clear ho1)
        obtain ⟨Ao36, co36, eo36⟩ := Kd.R_slice HO173.out
        (first | subst eo36 | (injection eo36 with f1_ f2_ f3_; have f4_ := f1_.symm; have f5_ := f3_.symm; clear f1_ f2_ f3_; subst f4_; subst f5_))
        obtain ⟨Ao37, co37, eo37⟩ := Kd.R_slice HO176.out
        (first | subst eo37 | (injection eo37 with f1_ f2_ f3_; have f4_ := f1_.symm; have f5_ := f3_.symm; clear f1_ f2_ f3_; subst f4_; subst f5_))
        obtain ⟨Ao38, co38, eo38⟩ := Kd.R_slice HO183.out
        (first | subst eo38 | (injection eo38 with f1_ f2_ f3_; have f4_ := f1_.symm; have f5_ := f3_.symm; clear f1_ f2_ f3_; subst f4_; subst f5_))
        obtain ⟨Ao39, co39, eo39⟩ := Kd.R_slice HO186.out
        (first | subst eo39 | (injection eo39 with f1_ f2_ f3_; have f4_ := f1_.symm; have f5_ := f3_.symm; clear f1_ f2_ f3_; subst f4_; subst f5_))
        refine hK.out _ _ ⟨(blk_cell BK163.out 0).trans rfl, (blk_cell BK163.out 1).trans rfl, (blk_cell BK163.out 2).trans rfl, (blk_cell BK163.out 3).trans rfl, (blk_cell BK163.out 4).trans rfl, (blk_cell BK163.out 5).trans rfl, (blk_cell BK164.out 0).trans rfl, (blk_cell BK164.out 1).trans rfl, (blk_cell BK164.out 2).trans rfl, (blk_cell BK164.out 3).trans rfl, (blk_cell BK164.out 4).trans rfl, (blk_cell BK164.out 5).trans rfl⟩ (fun hHeld => ?_)
        clear hK K
        refine norm_ (a' := ?_) ?_ ?_
        rotate_left
        · show Act.put _ (some 23) _ = _
          simp only [Act.put, List.setIfInBounds_toArray, List.set_cons_zero, List.set_cons_succ, i64_w, i32_w]
          rfl
        refine one_ (i := 4) (N := some 24) #[true, true, true, true, true, false] rfl rfl (by kernel_rfl) (by decide) (fun K hK => ?_)
        refine goes_ Try.func9 (by kernel_rfl) rfl #[.agg #[.int .i64 t167, .string t168, .string t169, .int .i64 t170, .slice Ao36 t171.length co36, .slice Ao37 t174.length co37], .agg #[.int .i64 t177, .string t178, .string t179, .int .i64 t180, .slice Ao38 t181.length co38, .slice Ao39 t184.length co39]] (by rfl) rfl rfl (by mm6q8_) ?_
        with_reducible refine (spec_PaperSame.calls k t167 t168 t169 t170 _ _ t171 _ _ t174 t177 t178 t179 t180 _ _ t181 _ _ t184 t187 _ ?side1 ?side2 ?side3 ?side4 ?side5 ?side6 ?side7 ?side8 A21.out).mono ?_
        (mm6q80_)
        (mm6q97_)
        (mm6q81_)
        (mm6q98_)
        (mm6q82_)
        (mm6q99_)
        (mm6q83_)
        (mm6q100_)
        rintro e w40 ⟨rfl, hb⟩
        refine ⟨_, rfl, ?_⟩
        have n0_ := Aside0.mk (Kd.R_below (by (mm6q1_); exact HO173.out) hb)
        have n1_ := Aside0.mk (Kd.R_below (by (mm6q1_); exact HO176.out) hb)
        have n2_ := Aside0.mk (Kd.R_below (by (mm6q1_); exact HO183.out) hb)
        have n3_ := Aside0.mk (Kd.R_below (by (mm6q1_); exact HO186.out) hb)
        have n4_ := Aside0.mk (blk_below (g := gb163) (o := .cells mm6q2_ 25 (0, 0)) (by (mm6q0_); exact BK163.out) hb)
        have n5_ := Aside0.mk (blk_below (g := gb164) (o := .cells mm6q4_ 25 (0, 0)) (by (mm6q0_); exact BK164.out) hb)
        have n6_ := Aside0.mk (below_step (by mm6q3_) hb)
        clear HO173
        clear HO176
        clear HO183
        clear HO186
        clear BK163
        clear BK164
        clear HB
        have HO173 := n0_
        have HO176 := n1_
        have HO183 := n2_
        have HO186 := n3_
        have BK163 := n4_
        have BK164 := n5_
        have HB := n6_
        clear n0_ n1_ n2_ n3_ n4_ n5_ n6_
        (try clear hb)
        (try clear hb2)
        (try clear hk)
        (try clear hi)
        refine hK.out _ _ ⟨(blk_cell BK163.out 0).trans rfl, (blk_cell BK163.out 1).trans rfl, (blk_cell BK163.out 2).trans rfl, (blk_cell BK163.out 3).trans rfl, (blk_cell BK163.out 4).trans rfl, (blk_cell BK163.out 5).trans rfl, (blk_cell BK164.out 0).trans rfl, (blk_cell BK164.out 1).trans rfl, (blk_cell BK164.out 2).trans rfl, (blk_cell BK164.out 3).trans rfl, (blk_cell BK164.out 4).trans rfl, (blk_cell BK164.out 5).trans rfl⟩ (fun hHeld => ?_)
        clear hK K
        refine norm_ (a' := ?_) ?_ ?_
        rotate_left
        · show Act.put _ (some 24) _ = _
          simp only [Act.put, List.setIfInBounds_toArray, List.set_cons_zero, List.set_cons_succ, i64_w, i32_w]
          rfl
        refine pure_ (i := 5) (N := some 6) (v := ?_) (a' := ?_) #[true, true, true, true, true, true] rfl rfl (by kernel_rfl) (fun _ _ _ h => h) (Or.inl ⟨by rfl, ?_⟩) ?_ ?_
        rotate_left
        · intro w'
          go_simp
          with_reducible rfl
        rotate_left
        · simp only [Act.put, List.setIfInBounds_toArray, List.set_cons_zero, List.set_cons_succ, i64_w, i32_w]
          rfl
        refine done_ (by kernel_rfl) ?_
        have hcz41_0 : w40.cell? ⟨gb163, 0, none⟩ = some (.int .i64 a0_0) := (blk_cell BK163.out 0).trans rfl
        have hcz41_1 : w40.cell? ⟨gb163, 1, none⟩ = some (.string a0_1) := (blk_cell BK163.out 1).trans rfl
        have hcz41_2 : w40.cell? ⟨gb163, 2, none⟩ = some (.string a0_2) := (blk_cell BK163.out 2).trans rfl
        have hcz41_3 : w40.cell? ⟨gb163, 3, none⟩ = some (.int .i64 a0_3) := (blk_cell BK163.out 3).trans rfl
        have hcz41_4 : w40.cell? ⟨gb163, 4, none⟩ = some (.slice A0_4 l0_4.length c0_4) := (blk_cell BK163.out 4).trans rfl
        have hcz41_5 : w40.cell? ⟨gb163, 5, none⟩ = some (.slice A0_5 l0_5.length c0_5) := (blk_cell BK163.out 5).trans rfl
        have hfz41_0 := blk_frozen BK163.out 0
        have hfz41_1 := blk_frozen BK163.out 1
        have hfz41_2 := blk_frozen BK163.out 2
        have hfz41_3 := blk_frozen BK163.out 3
        have hfz41_4 := blk_frozen BK163.out 4
        have hfz41_5 := blk_frozen BK163.out 5
        try go_wp2_with (first | (mm6q5_) | ((with_reducible refine gate_dst (N := 7) rfl ?_); refine box_event ?hg (N := 7) ?hd (cs := mm6q14_) (t := 30) ?hr ?_; (case hd => rfl); (case hg => rfl); (mm6q31_); intro gb198 hg w43 hbox hb; have n0_ := Aside0.mk (Kd.R_below (by (mm6q1_); exact HO173.out) hb); have n1_ := Aside0.mk (Kd.R_below (by (mm6q1_); exact HO176.out) hb); have n2_ := Aside0.mk (Kd.R_below (by (mm6q1_); exact HO183.out) hb); have n3_ := Aside0.mk (Kd.R_below (by (mm6q1_); exact HO186.out) hb); have n4_ := Aside0.mk (Kd.R_below (by (mm6q1_); exact HO194.out) hb); have n5_ := Aside0.mk (Kd.R_below (by (mm6q1_); exact HO197.out) hb); have n6_ := Aside0.mk (blk_below (g := gb163) (o := .cells mm6q2_ 25 (0, 0)) (by (mm6q0_); exact BK163.out) hb); have n7_ := Aside0.mk (blk_below (g := gb164) (o := .cells mm6q4_ 25 (0, 0)) (by (mm6q0_); exact BK164.out) hb); have n8_ := Aside0.mk (below_step (by mm6q3_) hb); have n9_ := Aside0.mk (hbox); have n10_ := Aside0.mk ((by rw [hg]; exact (below_size (by mm6q3_)) : w.heap.size ≤ gb198)); have n11_ := Aside0.mk ((by rw [hg]; exact (below_size (by mm6q3_)) : w.heap.size ≤ gb198)); have n12_ := Aside0.mk ((by rw [hg]; exact Nat.ne_of_lt (blk_lt (g := gb163) (o := .cells mm6q2_ 25 (0, 0)) (by (mm6q0_); exact BK163.out)) : gb163 ≠ gb198)); have n13_ := Aside0.mk ((by rw [hg]; exact Nat.ne_of_gt (blk_lt (g := gb163) (o := .cells mm6q2_ 25 (0, 0)) (by (mm6q0_); exact BK163.out)) : gb198 ≠ gb163)); have n14_ := Aside0.mk ((by rw [hg]; exact Nat.ne_of_lt (blk_lt (g := gb164) (o := .cells mm6q4_ 25 (0, 0)) (by (mm6q0_); exact BK164.out)) : gb164 ≠ gb198)); have n15_ := Aside0.mk ((by rw [hg]; exact Nat.ne_of_gt (blk_lt (g := gb164) (o := .cells mm6q4_ 25 (0, 0)) (by (mm6q0_); exact BK164.out)) : gb198 ≠ gb164)); clear HO173; clear HO176; clear HO183; clear HO186; clear HO194; clear HO197; clear BK163; clear BK164; clear HB; have HO173 := n0_; have HO176 := n1_; have HO183 := n2_; have HO186 := n3_; have HO194 := n4_; have HO197 := n5_; have BK163 := n6_; have BK164 := n7_; have HB := n8_; have BK198 := n9_; have GW198 := n10_; have GE198 := n11_; have NB163_198 := n12_; have NB198_163 := n13_; have NB164_198 := n14_; have NB198_164 := n15_; clear n0_ n1_ n2_ n3_ n4_ n5_ n6_ n7_ n8_ n9_ n10_ n11_ n12_ n13_ n14_ n15_; clear hb hbox hg; have hnb44 := NB198_163.out; have hnc44 := NB163_198.out; have hnb45 := NB198_164.out; have hnc45 := NB164_198.out; have hcz46_0 : w43.cell? ⟨gb198, 0, none⟩ = some (.int .i64 0) := (blk_cell BK198.out 0).trans rfl; have hcz46_1 : w43.cell? ⟨gb198, 1, none⟩ = some (.string (⟨#[]⟩ : ByteArray)) := (blk_cell BK198.out 1).trans rfl; have hcz46_2 : w43.cell? ⟨gb198, 2, none⟩ = some (.string (⟨#[]⟩ : ByteArray)) := (blk_cell BK198.out 2).trans rfl; have hcz46_3 : w43.cell? ⟨gb198, 3, none⟩ = some (.int .i64 0) := (blk_cell BK198.out 3).trans rfl; have hcz46_4 : w43.cell? ⟨gb198, 4, none⟩ = some (.slice none 0 0) := (blk_cell BK198.out 4).trans rfl; have hcz46_5 : w43.cell? ⟨gb198, 5, none⟩ = some (.slice none 0 0) := (blk_cell BK198.out 5).trans rfl; have hfz46_0 := blk_frozen BK198.out 0; have hfz46_1 := blk_frozen BK198.out 1; have hfz46_2 := blk_frozen BK198.out 2; have hfz46_3 := blk_frozen BK198.out 3; have hfz46_4 := blk_frozen BK198.out 4; have hfz46_5 := blk_frozen BK198.out 5; obtain ⟨Ao47, co47, eo47⟩ := Kd.R_slice HO194.out; subst eo47; obtain ⟨Ao48, co48, eo48⟩ := Kd.R_slice HO197.out; subst eo48; have hcz49_0 : w43.cell? ⟨gb164, 0, none⟩ = some (.int .i64 a1_0) := (blk_cell BK164.out 0).trans rfl; have hcz49_1 : w43.cell? ⟨gb164, 1, none⟩ = some (.string a1_1) := (blk_cell BK164.out 1).trans rfl; have hcz49_2 : w43.cell? ⟨gb164, 2, none⟩ = some (.string a1_2) := (blk_cell BK164.out 2).trans rfl; have hcz49_3 : w43.cell? ⟨gb164, 3, none⟩ = some (.int .i64 a1_3) := (blk_cell BK164.out 3).trans rfl; have hcz49_4 : w43.cell? ⟨gb164, 4, none⟩ = some (.slice A1_4 l1_4.length c1_4) := (blk_cell BK164.out 4).trans rfl; have hcz49_5 : w43.cell? ⟨gb164, 5, none⟩ = some (.slice A1_5 l1_5.length c1_5) := (blk_cell BK164.out 5).trans rfl; have hfz49_0 := blk_frozen BK164.out 0; have hfz49_1 := blk_frozen BK164.out 1; have hfz49_2 := blk_frozen BK164.out 2; have hfz49_3 := blk_frozen BK164.out 3; have hfz49_4 := blk_frozen BK164.out 4; have hfz49_5 := blk_frozen BK164.out 5) | ((with_reducible refine gate_callee (f := 10) rfl ?_); refine goesL_ (some 28) rfl rfl Try.func10 (by kernel_rfl) rfl #[.agg mm6q4_] rfl (by mm6q8_) ?_; (mm6q74_); (mm6q95_); (case side2 => exact HC1_4.out); (mm6q96_); (case side4 => exact HC1_5.out); rintro e w_ ⟨v204, v207, rfl, ho0, ho1, hb⟩; refine ⟨_, rfl, ?_⟩; have n0_ := Aside0.mk (Kd.R_elder' (by mm6q53_) (Kd.R_base ho0) hb); have n1_ := Aside0.mk (Kd.R_elder' (by mm6q54_) (Kd.R_base ho1) hb); have n2_ := Aside0.mk (Kd.R_elder' (by mm6q55_) (Kd.R_base ho0) hb); have n3_ := Aside0.mk (Kd.R_elder' (by mm6q56_) (Kd.R_base ho1) hb); have n4_ := Aside0.mk (Kd.R_elder' (by mm6q57_) (Kd.R_base ho0) hb); have n5_ := Aside0.mk (Kd.R_elder' (by mm6q58_) (Kd.R_base ho1) hb); have n6_ := Aside0.mk (Kd.R_lower (Kd.R_new' (Kd.R_new' (Kd.R_new' ho0 (Kd.R_lt (by mm6q53_))) (Kd.R_lt (by mm6q55_))) (Kd.R_lt (by mm6q57_))) (below_size (by mm6q6_))); have n7_ := Aside0.mk (Kd.R_lower (Kd.R_new' (Kd.R_new' (Kd.R_new' ho1 (Kd.R_lt (by mm6q54_))) (Kd.R_lt (by mm6q56_))) (Kd.R_lt (by mm6q58_))) (below_size (by mm6q6_))); have n8_ := Aside0.mk (blk_below (g := gb163) (o := .cells mm6q2_ 25 (0, 0)) (by mm6q22_) hb); have n9_ := Aside0.mk (blk_below (g := gb164) (o := .cells mm6q4_ 25 (0, 0)) (by mm6q23_) hb); have n10_ := Aside0.mk (blk_below (g := gb198) (o := .cells mm6q32_ 30 (0, 0)) (by (mm6q0_); refine blk_put (cs := #[.int .i64 t188, .string t189, .string t190, .int .i64 t191, .slice Ao47 t192.length co47, .slice none 0 0]) ?_ 5 _ rfl; (mm6q0_); refine blk_put (cs := mm6q84_) ?_ 4 _ rfl; (mm6q0_); refine blk_put (cs := mm6q86_) ?_ 3 _ rfl; (mm6q0_); refine blk_put (cs := mm6q78_) ?_ 2 _ rfl; (mm6q0_); refine blk_put (cs := mm6q76_) ?_ 1 _ rfl; (mm6q0_); refine blk_put (cs := mm6q14_) ?_ 0 _ rfl; (mm6q0_); exact BK198.out) hb); have n11_ := Aside0.mk (below_step (by mm6q6_) hb); clear HO173; clear HO176; clear HO183; clear HO186; clear HO194; clear HO197; clear BK163; clear BK164; clear BK198; clear HB; have HO173 := n0_; have HO176 := n1_; have HO183 := n2_; have HO186 := n3_; have HO194 := n4_; have HO197 := n5_; have HO205 := n6_; have HO208 := n7_; have BK163 := n8_; have BK164 := n9_; have BK198 := n10_; have HB := n11_; clear n0_ n1_ n2_ n3_ n4_ n5_ n6_ n7_ n8_ n9_ n10_ n11_; (try clear hb); (try clear hb2); (try clear hk); (try clear hi); (try clear ho0); (try clear ho1)) | ((with_reducible refine gate_dst (N := 8) rfl ?_); refine box_event ?hg (N := 8) ?hd (cs := mm6q14_) (t := 30) ?hr ?_; (case hd => rfl); (case hg => rfl); (mm6q31_); intro gb209 hg w51 hbox hb; have n0_ := Aside0.mk (Kd.R_below (by (mm6q1_); exact HO173.out) hb); have n1_ := Aside0.mk (Kd.R_below (by (mm6q1_); exact HO176.out) hb); have n2_ := Aside0.mk (Kd.R_below (by (mm6q1_); exact HO183.out) hb); have n3_ := Aside0.mk (Kd.R_below (by (mm6q1_); exact HO186.out) hb); have n4_ := Aside0.mk (Kd.R_below (by (mm6q1_); exact HO194.out) hb); have n5_ := Aside0.mk (Kd.R_below (by (mm6q1_); exact HO197.out) hb); have n6_ := Aside0.mk (Kd.R_below (by (mm6q1_); exact HO205.out) hb); have n7_ := Aside0.mk (Kd.R_below (by (mm6q1_); exact HO208.out) hb); have n8_ := Aside0.mk (blk_below (g := gb163) (o := .cells mm6q2_ 25 (0, 0)) (by (mm6q0_); exact BK163.out) hb); have n9_ := Aside0.mk (blk_below (g := gb164) (o := .cells mm6q4_ 25 (0, 0)) (by (mm6q0_); exact BK164.out) hb); have n10_ := Aside0.mk (blk_below (g := gb198) (o := .cells mm6q32_ 30 (0, 0)) (by (mm6q0_); exact BK198.out) hb); have n11_ := Aside0.mk (below_step (by mm6q6_) hb); have n12_ := Aside0.mk (hbox); have n13_ := Aside0.mk ((by rw [hg]; exact (below_size (by mm6q6_)) : w.heap.size ≤ gb209)); have n14_ := Aside0.mk ((by rw [hg]; exact (below_size (by mm6q6_)) : w.heap.size ≤ gb209)); have n15_ := Aside0.mk ((by rw [hg]; exact Nat.ne_of_lt (blk_lt (g := gb163) (o := .cells mm6q2_ 25 (0, 0)) (by (mm6q0_); exact BK163.out)) : gb163 ≠ gb209)); have n16_ := Aside0.mk ((by rw [hg]; exact Nat.ne_of_gt (blk_lt (g := gb163) (o := .cells mm6q2_ 25 (0, 0)) (by (mm6q0_); exact BK163.out)) : gb209 ≠ gb163)); have n17_ := Aside0.mk ((by rw [hg]; exact Nat.ne_of_lt (blk_lt (g := gb164) (o := .cells mm6q4_ 25 (0, 0)) (by (mm6q0_); exact BK164.out)) : gb164 ≠ gb209)); have n18_ := Aside0.mk ((by rw [hg]; exact Nat.ne_of_gt (blk_lt (g := gb164) (o := .cells mm6q4_ 25 (0, 0)) (by (mm6q0_); exact BK164.out)) : gb209 ≠ gb164)); have n19_ := Aside0.mk ((by rw [hg]; exact Nat.ne_of_lt (blk_lt (g := gb198) (o := .cells mm6q32_ 30 (0, 0)) (by (mm6q0_); exact BK198.out)) : gb198 ≠ gb209)); have n20_ := Aside0.mk ((by rw [hg]; exact Nat.ne_of_gt (blk_lt (g := gb198) (o := .cells mm6q32_ 30 (0, 0)) (by (mm6q0_); exact BK198.out)) : gb209 ≠ gb198)); clear HO173; clear HO176; clear HO183; clear HO186; clear HO194; clear HO197; clear HO205; clear HO208; clear BK163; clear BK164; clear BK198; clear HB; have HO173 := n0_; have HO176 := n1_; have HO183 := n2_; have HO186 := n3_; have HO194 := n4_; have HO197 := n5_; have HO205 := n6_; have HO208 := n7_; have BK163 := n8_; have BK164 := n9_; have BK198 := n10_; have HB := n11_; have BK209 := n12_; have GW209 := n13_; have GE209 := n14_; have NB163_209 := n15_; have NB209_163 := n16_; have NB164_209 := n17_; have NB209_164 := n18_; have NB198_209 := n19_; have NB209_198 := n20_; clear n0_ n1_ n2_ n3_ n4_ n5_ n6_ n7_ n8_ n9_ n10_ n11_ n12_ n13_ n14_ n15_ n16_ n17_ n18_ n19_ n20_; clear hb hbox hg; have hnb52 := NB209_163.out; have hnc52 := NB163_209.out; have hnb53 := NB209_164.out; have hnc53 := NB164_209.out; have hnb54 := NB209_198.out; have hnc54 := NB198_209.out; have hcz55_0 : w51.cell? ⟨gb209, 0, none⟩ = some (.int .i64 0) := (blk_cell BK209.out 0).trans rfl; have hcz55_1 : w51.cell? ⟨gb209, 1, none⟩ = some (.string (⟨#[]⟩ : ByteArray)) := (blk_cell BK209.out 1).trans rfl; have hcz55_2 : w51.cell? ⟨gb209, 2, none⟩ = some (.string (⟨#[]⟩ : ByteArray)) := (blk_cell BK209.out 2).trans rfl; have hcz55_3 : w51.cell? ⟨gb209, 3, none⟩ = some (.int .i64 0) := (blk_cell BK209.out 3).trans rfl; have hcz55_4 : w51.cell? ⟨gb209, 4, none⟩ = some (.slice none 0 0) := (blk_cell BK209.out 4).trans rfl; have hcz55_5 : w51.cell? ⟨gb209, 5, none⟩ = some (.slice none 0 0) := (blk_cell BK209.out 5).trans rfl; have hfz55_0 := blk_frozen BK209.out 0; have hfz55_1 := blk_frozen BK209.out 1; have hfz55_2 := blk_frozen BK209.out 2; have hfz55_3 := blk_frozen BK209.out 3; have hfz55_4 := blk_frozen BK209.out 4; have hfz55_5 := blk_frozen BK209.out 5; obtain ⟨Ao56, co56, eo56⟩ := Kd.R_slice HO205.out; subst eo56; obtain ⟨Ao57, co57, eo57⟩ := Kd.R_slice HO208.out; subst eo57; have hcz58_0 : w51.cell? ⟨gb198, 0, none⟩ = some (.int .i64 t188) := (blk_cell BK198.out 0).trans rfl; have hcz58_1 : w51.cell? ⟨gb198, 1, none⟩ = some (.string t189) := (blk_cell BK198.out 1).trans rfl; have hcz58_2 : w51.cell? ⟨gb198, 2, none⟩ = some (.string t190) := (blk_cell BK198.out 2).trans rfl; have hcz58_3 : w51.cell? ⟨gb198, 3, none⟩ = some (.int .i64 t191) := (blk_cell BK198.out 3).trans rfl; have hcz58_4 : w51.cell? ⟨gb198, 4, none⟩ = some (.slice Ao47 t192.length co47) := (blk_cell BK198.out 4).trans rfl; have hcz58_5 : w51.cell? ⟨gb198, 5, none⟩ = some (.slice Ao48 t195.length co48) := (blk_cell BK198.out 5).trans rfl; have hfz58_0 := blk_frozen BK198.out 0; have hfz58_1 := blk_frozen BK198.out 1; have hfz58_2 := blk_frozen BK198.out 2; have hfz58_3 := blk_frozen BK198.out 3; have hfz58_4 := blk_frozen BK198.out 4; have hfz58_5 := blk_frozen BK198.out 5) | ((with_reducible refine gate_callee (f := 11) rfl ?_); refine goesL_ (some 31) rfl rfl Try.func11 (by kernel_rfl) rfl #[.agg mm6q32_, .agg mm6q103_] rfl (by mm6q8_) ?_; (mm6q30_); (case side1 => refine (Kd.R_reads' (e := 9) (base := w.heap.size) (ok := fun k_ => (((True ∧ some k_ ≠ (.slice Ao36 t171.length co36 : Value).ownBlock) ∧ some k_ ≠ (.slice Ao38 t181.length co38 : Value).ownBlock) ∧ some k_ ≠ (.slice Ao56 t203.length co56 : Value).ownBlock)) (n := t192.length) (c := co47) ?_).2.2; exact (by mm6q59_)); (mm6q88_); (case side3 => refine (Kd.R_reads' (e := 71) (base := w.heap.size) (ok := fun k_ => (((True ∧ some k_ ≠ (.slice Ao37 t174.length co37 : Value).ownBlock) ∧ some k_ ≠ (.slice Ao39 t184.length co39 : Value).ownBlock) ∧ some k_ ≠ (.slice Ao57 t206.length co57 : Value).ownBlock)) (n := t195.length) (c := co48) ?_).2.2; exact (by mm6q60_)); (mm6q89_); (case side5 => refine (Kd.R_reads' (e := 9) (base := w.heap.size) (ok := fun k_ => (((True ∧ some k_ ≠ (.slice Ao36 t171.length co36 : Value).ownBlock) ∧ some k_ ≠ (.slice Ao38 t181.length co38 : Value).ownBlock) ∧ some k_ ≠ (.slice Ao47 t192.length co47 : Value).ownBlock)) (n := t203.length) (c := co56) ?_).2.2; exact (by mm6q61_)); (mm6q101_); (case side7 => refine (Kd.R_reads' (e := 71) (base := w.heap.size) (ok := fun k_ => (((True ∧ some k_ ≠ (.slice Ao37 t174.length co37 : Value).ownBlock) ∧ some k_ ≠ (.slice Ao39 t184.length co39 : Value).ownBlock) ∧ some k_ ≠ (.slice Ao48 t195.length co48 : Value).ownBlock)) (n := t206.length) (c := co57) ?_).2.2; exact (by mm6q62_)); (mm6q102_); rintro e w_ ⟨rfl, hb⟩; refine ⟨_, rfl, ?_⟩; have n0_ := Aside0.mk (Kd.R_below (by (mm6q1_); exact (Kd.R_mono (Kd.R_far (p := ⟨gb209, 5, none⟩) (Kd.R_far (p := ⟨gb209, 4, none⟩) (Kd.R_far (p := ⟨gb209, 3, none⟩) (Kd.R_far (p := ⟨gb209, 2, none⟩) (Kd.R_far (p := ⟨gb209, 1, none⟩) (Kd.R_far (p := ⟨gb209, 0, none⟩) (Kd.R_types HO173.out BK209.out (by decide)) (fun _ hk => hk.2) (.int .i64 t199)) (fun _ hk => hk.2) (.string t200)) (fun _ hk => hk.2) (.string t201)) (fun _ hk => hk.2) (.int .i64 t202)) (fun _ hk => hk.2) (.slice Ao56 t203.length co56)) (fun _ hk => hk.2) (.slice Ao57 t206.length co57)) (fun _ h_ => h_.1))) hb); have n1_ := Aside0.mk (Kd.R_below (by (mm6q1_); exact (Kd.R_mono (Kd.R_far (p := ⟨gb209, 5, none⟩) (Kd.R_far (p := ⟨gb209, 4, none⟩) (Kd.R_far (p := ⟨gb209, 3, none⟩) (Kd.R_far (p := ⟨gb209, 2, none⟩) (Kd.R_far (p := ⟨gb209, 1, none⟩) (Kd.R_far (p := ⟨gb209, 0, none⟩) (Kd.R_types HO176.out BK209.out (by decide)) (fun _ hk => hk.2) (.int .i64 t199)) (fun _ hk => hk.2) (.string t200)) (fun _ hk => hk.2) (.string t201)) (fun _ hk => hk.2) (.int .i64 t202)) (fun _ hk => hk.2) (.slice Ao56 t203.length co56)) (fun _ hk => hk.2) (.slice Ao57 t206.length co57)) (fun _ h_ => h_.1))) hb); have n2_ := Aside0.mk (Kd.R_below (by (mm6q1_); exact (Kd.R_mono (Kd.R_far (p := ⟨gb209, 5, none⟩) (Kd.R_far (p := ⟨gb209, 4, none⟩) (Kd.R_far (p := ⟨gb209, 3, none⟩) (Kd.R_far (p := ⟨gb209, 2, none⟩) (Kd.R_far (p := ⟨gb209, 1, none⟩) (Kd.R_far (p := ⟨gb209, 0, none⟩) (Kd.R_types HO183.out BK209.out (by decide)) (fun _ hk => hk.2) (.int .i64 t199)) (fun _ hk => hk.2) (.string t200)) (fun _ hk => hk.2) (.string t201)) (fun _ hk => hk.2) (.int .i64 t202)) (fun _ hk => hk.2) (.slice Ao56 t203.length co56)) (fun _ hk => hk.2) (.slice Ao57 t206.length co57)) (fun _ h_ => h_.1))) hb); have n3_ := Aside0.mk (Kd.R_below (by (mm6q1_); exact (Kd.R_mono (Kd.R_far (p := ⟨gb209, 5, none⟩) (Kd.R_far (p := ⟨gb209, 4, none⟩) (Kd.R_far (p := ⟨gb209, 3, none⟩) (Kd.R_far (p := ⟨gb209, 2, none⟩) (Kd.R_far (p := ⟨gb209, 1, none⟩) (Kd.R_far (p := ⟨gb209, 0, none⟩) (Kd.R_types HO186.out BK209.out (by decide)) (fun _ hk => hk.2) (.int .i64 t199)) (fun _ hk => hk.2) (.string t200)) (fun _ hk => hk.2) (.string t201)) (fun _ hk => hk.2) (.int .i64 t202)) (fun _ hk => hk.2) (.slice Ao56 t203.length co56)) (fun _ hk => hk.2) (.slice Ao57 t206.length co57)) (fun _ h_ => h_.1))) hb); have n4_ := Aside0.mk (Kd.R_below (by mm6q59_) hb); have n5_ := Aside0.mk (Kd.R_below (by mm6q60_) hb); have n6_ := Aside0.mk (Kd.R_below (by mm6q61_) hb); have n7_ := Aside0.mk (Kd.R_below (by mm6q62_) hb); have n8_ := Aside0.mk (blk_below (g := gb163) (o := .cells mm6q2_ 25 (0, 0)) (by mm6q24_) hb); have n9_ := Aside0.mk (blk_below (g := gb164) (o := .cells mm6q4_ 25 (0, 0)) (by mm6q25_) hb); have n10_ := Aside0.mk (blk_below (g := gb198) (o := .cells mm6q32_ 30 (0, 0)) (by mm6q26_) hb); have n11_ := Aside0.mk (blk_below (g := gb209) (o := .cells mm6q103_ 30 (0, 0)) (by (mm6q0_); refine blk_put (cs := #[.int .i64 t199, .string t200, .string t201, .int .i64 t202, .slice Ao56 t203.length co56, .slice none 0 0]) ?_ 5 _ rfl; (mm6q0_); refine blk_put (cs := mm6q85_) ?_ 4 _ rfl; (mm6q0_); refine blk_put (cs := mm6q87_) ?_ 3 _ rfl; (mm6q0_); refine blk_put (cs := mm6q79_) ?_ 2 _ rfl; (mm6q0_); refine blk_put (cs := mm6q77_) ?_ 1 _ rfl; (mm6q0_); refine blk_put (cs := mm6q14_) ?_ 0 _ rfl; (mm6q0_); exact BK209.out) hb); have n12_ := Aside0.mk (below_step (by repeat (mm6q7_)) hb); clear HO173; clear HO176; clear HO183; clear HO186; clear HO194; clear HO197; clear HO205; clear HO208; clear BK163; clear BK164; clear BK198; clear BK209; clear HB; have HO173 := n0_; have HO176 := n1_; have HO183 := n2_; have HO186 := n3_; have HO194 := n4_; have HO197 := n5_; have HO205 := n6_; have HO208 := n7_; have BK163 := n8_; have BK164 := n9_; have BK198 := n10_; have BK209 := n11_; have HB := n12_; clear n0_ n1_ n2_ n3_ n4_ n5_ n6_ n7_ n8_ n9_ n10_ n11_ n12_; (try clear hb); (try clear hb2); (try clear hk); (try clear hi)))
        go_ret
        exact ⟨by first | rfl | (simp [errW_none, errW_some] <;> rfl) | (simp [*, errW_none, errW_some] <;> rfl), by repeat (mm6q7_)⟩
      · rw [if_neg c25] at H
        have c25b0 : (t210 != t187) = false := by simpa using c25
        (try (have c25b1 : decide (t210 = t187) = true := by simpa using c25))
        (try (have c25b2 : (t210 == t187) = true := by simpa using c25))
        clear c25
        replace H := Option.bind_eq_some_iff.mp H
        obtain ⟨⟨t211, t212, t213, t214, t215, t218⟩, A600, H⟩ := H
        replace H : ((laws_eqPaper.f k t188 t189 t190 t191 t192 t195 t211 t212 t213 t214 t215 t218).bind fun t221 => (if t221 = true then ((laws_toPaper.f k a1_0 a1_1 a1_2 a1_3 l1_4 l1_5).bind fun bt222 => ((laws_eqPaper.f k t199 t200 t201 t202 t203 t206 bt222.1 bt222.2.1 bt222.2.2.1 bt222.2.2.2.1 bt222.2.2.2.2.1 bt222.2.2.2.2.2).bind fun t232 => (if t232 = true then (some true) else (some false)))) else (some false))) = some r := H
        have A60 := Aside0.mk A600
        clear A600
        replace H := Option.bind_eq_some_iff.mp H
        obtain ⟨t221, A610, H⟩ := H
        replace H : (if t221 = true then ((laws_toPaper.f k a1_0 a1_1 a1_2 a1_3 l1_4 l1_5).bind fun bt222 => ((laws_eqPaper.f k t199 t200 t201 t202 t203 t206 bt222.1 bt222.2.1 bt222.2.2.1 bt222.2.2.2.1 bt222.2.2.2.2.1 bt222.2.2.2.2.2).bind fun t232 => (if t232 = true then (some true) else (some false)))) else (some false)) = some r := H
        have A61 := Aside0.mk A610
        clear A610
        by_cases c62 : t221 = true
        · subst c62
          have H1 : ((laws_toPaper.f k a1_0 a1_1 a1_2 a1_3 l1_4 l1_5).bind fun bt222 => ((laws_eqPaper.f k t199 t200 t201 t202 t203 t206 bt222.1 bt222.2.1 bt222.2.2.1 bt222.2.2.2.1 bt222.2.2.2.2.1 bt222.2.2.2.2.2).bind fun t232 => (if t232 = true then (some true) else (some false)))) = some r := by rw [if_pos rfl] at H; exact H
          clear H
          have H := H1
          clear H1
          replace H := Option.bind_eq_some_iff.mp H
          obtain ⟨⟨t222, t223, t224, t225, t226, t229⟩, A630, H⟩ := H
          replace H : ((laws_eqPaper.f k t199 t200 t201 t202 t203 t206 t222 t223 t224 t225 t226 t229).bind fun t232 => (if t232 = true then (some true) else (some false))) = some r := H
          have A63 := Aside0.mk A630
          clear A630
          replace H := Option.bind_eq_some_iff.mp H
          obtain ⟨t232, A640, H⟩ := H
          replace H : (if t232 = true then (some true) else (some false)) = some r := H
          have A64 := Aside0.mk A640
          clear A640
          by_cases c65 : t232 = true
          · subst c65
            have H1 : (some true) = some r := by rw [if_pos rfl] at H; exact H
            clear H
            have H := H1
            clear H1
            obtain rfl := Option.some.inj H
            go_enter Try.func3, Try.ntmps3
            try go_wp2_with (first | (mm6q9_) | ((with_reducible refine gate_dst (N := 3) rfl ?_); refine box_event ?hg (N := 3) ?hd (cs := mm6q4_) (t := 25) ?hr ?_; (case hd => rfl); (case hg => rfl); (mm6q31_); intro gb164 hg w67 hbox hb; have n0_ := Aside0.mk (blk_below (g := gb163) (o := .cells mm6q2_ 25 (0, 0)) (by (mm6q0_); exact BK163.out) hb); have n1_ := Aside0.mk (below_step (by mm6q10_) hb); have n2_ := Aside0.mk (hbox); have n3_ := Aside0.mk ((by rw [hg]; exact (below_size (by mm6q10_)) : w.heap.size ≤ gb164)); have n4_ := Aside0.mk ((by rw [hg]; exact (below_size (by mm6q10_)) : w.heap.size ≤ gb164)); have n5_ := Aside0.mk ((by rw [hg]; exact Nat.ne_of_lt (blk_lt (g := gb163) (o := .cells mm6q2_ 25 (0, 0)) (by (mm6q0_); exact BK163.out)) : gb163 ≠ gb164)); have n6_ := Aside0.mk ((by rw [hg]; exact Nat.ne_of_gt (blk_lt (g := gb163) (o := .cells mm6q2_ 25 (0, 0)) (by (mm6q0_); exact BK163.out)) : gb164 ≠ gb163)); clear BK163; clear HB; have BK163 := n0_; have HB := n1_; have BK164 := n2_; have GW164 := n3_; have GE164 := n4_; have NB163_164 := n5_; have NB164_163 := n6_; clear n0_ n1_ n2_ n3_ n4_ n5_ n6_; clear hb hbox hg; have hnb68 := NB163_164.out; have hnc68 := NB164_163.out; have hcz69_0 : w67.cell? ⟨gb163, 0, none⟩ = some (.int .i64 a0_0) := (blk_cell BK163.out 0).trans rfl; have hcz69_1 : w67.cell? ⟨gb163, 1, none⟩ = some (.string a0_1) := (blk_cell BK163.out 1).trans rfl; have hcz69_2 : w67.cell? ⟨gb163, 2, none⟩ = some (.string a0_2) := (blk_cell BK163.out 2).trans rfl; have hcz69_3 : w67.cell? ⟨gb163, 3, none⟩ = some (.int .i64 a0_3) := (blk_cell BK163.out 3).trans rfl; have hcz69_4 : w67.cell? ⟨gb163, 4, none⟩ = some (.slice A0_4 l0_4.length c0_4) := (blk_cell BK163.out 4).trans rfl; have hcz69_5 : w67.cell? ⟨gb163, 5, none⟩ = some (.slice A0_5 l0_5.length c0_5) := (blk_cell BK163.out 5).trans rfl; have hfz69_0 := blk_frozen BK163.out 0; have hfz69_1 := blk_frozen BK163.out 1; have hfz69_2 := blk_frozen BK163.out 2; have hfz69_3 := blk_frozen BK163.out 3; have hfz69_4 := blk_frozen BK163.out 4; have hfz69_5 := blk_frozen BK163.out 5) | ((with_reducible refine gate_callee (f := 8) rfl ?_); refine goesL_ (some 12) rfl rfl Try.func8 (by kernel_rfl) rfl #[.agg mm6q2_, .int .i64 1048576] rfl (by mm6q8_) ?_; (mm6q29_); (mm6q16_); (case side2 => exact HC0_4.out); (mm6q17_); (case side4 => exact HC0_5.out); rintro e w70 ⟨rfl, hb⟩; refine ⟨_, rfl, ?_⟩; have n0_ := Aside0.mk (blk_below (g := gb163) (o := .cells mm6q2_ 25 (0, 0)) (by (mm6q0_); exact BK163.out) hb); have n1_ := Aside0.mk (blk_below (g := gb164) (o := .cells mm6q4_ 25 (0, 0)) (by (mm6q0_); exact BK164.out) hb); have n2_ := Aside0.mk (below_step (by mm6q3_) hb); clear BK163; clear BK164; clear HB; have BK163 := n0_; have BK164 := n1_; have HB := n2_; clear n0_ n1_ n2_; (try clear hb); (try clear hb2); (try clear hk); (try clear hi); have hcz71_0 : w70.cell? ⟨gb164, 0, none⟩ = some (.int .i64 a1_0) := (blk_cell BK164.out 0).trans rfl; have hcz71_1 : w70.cell? ⟨gb164, 1, none⟩ = some (.string a1_1) := (blk_cell BK164.out 1).trans rfl; have hcz71_2 : w70.cell? ⟨gb164, 2, none⟩ = some (.string a1_2) := (blk_cell BK164.out 2).trans rfl; have hcz71_3 : w70.cell? ⟨gb164, 3, none⟩ = some (.int .i64 a1_3) := (blk_cell BK164.out 3).trans rfl; have hcz71_4 : w70.cell? ⟨gb164, 4, none⟩ = some (.slice A1_4 l1_4.length c1_4) := (blk_cell BK164.out 4).trans rfl; have hcz71_5 : w70.cell? ⟨gb164, 5, none⟩ = some (.slice A1_5 l1_5.length c1_5) := (blk_cell BK164.out 5).trans rfl; have hfz71_0 := blk_frozen BK164.out 0; have hfz71_1 := blk_frozen BK164.out 1; have hfz71_2 := blk_frozen BK164.out 2; have hfz71_3 := blk_frozen BK164.out 3; have hfz71_4 := blk_frozen BK164.out 4; have hfz71_5 := blk_frozen BK164.out 5) | ((with_reducible refine gate_callee (f := 8) rfl ?_); refine goesL_ (some 17) rfl rfl Try.func8 (by kernel_rfl) rfl #[.agg mm6q4_, .int .i64 t165] rfl (by mm6q8_) ?_; (mm6q73_); (mm6q19_); (case side2 => exact HC1_4.out); (mm6q20_); (case side4 => exact HC1_5.out); rintro e w72 ⟨rfl, hb⟩; refine ⟨_, rfl, ?_⟩; have n0_ := Aside0.mk (blk_below (g := gb163) (o := .cells mm6q2_ 25 (0, 0)) (by (mm6q0_); exact BK163.out) hb); have n1_ := Aside0.mk (blk_below (g := gb164) (o := .cells mm6q4_ 25 (0, 0)) (by (mm6q0_); exact BK164.out) hb); have n2_ := Aside0.mk (below_step (by mm6q3_) hb); clear BK163; clear BK164; clear HB; have BK163 := n0_; have BK164 := n1_; have HB := n2_; clear n0_ n1_ n2_; (try clear hb); (try clear hb2); (try clear hk); (try clear hi)))
            have n0_ := Aside0.mk (blk_drew BK163.out)
            have n1_ := Aside0.mk (blk_drew BK164.out)
            have n2_ := Aside0.mk (below_drew1 HB.out)
            clear BK163
            clear BK164
            clear HB
            have BK163 := n0_
            have BK164 := n1_
            have HB := n2_
            clear n0_ n1_ n2_
            refine start_ (n := 6) (S := fun w' => w'.cell? ⟨gb163, 0, none⟩ = some (.int .i64 a0_0) ∧ w'.cell? ⟨gb163, 1, none⟩ = some (.string a0_1) ∧ w'.cell? ⟨gb163, 2, none⟩ = some (.string a0_2) ∧ w'.cell? ⟨gb163, 3, none⟩ = some (.int .i64 a0_3) ∧ w'.cell? ⟨gb163, 4, none⟩ = some (.slice A0_4 l0_4.length c0_4) ∧ w'.cell? ⟨gb163, 5, none⟩ = some (.slice A0_5 l0_5.length c0_5) ∧ w'.cell? ⟨gb164, 0, none⟩ = some (.int .i64 a1_0) ∧ w'.cell? ⟨gb164, 1, none⟩ = some (.string a1_1) ∧ w'.cell? ⟨gb164, 2, none⟩ = some (.string a1_2) ∧ w'.cell? ⟨gb164, 3, none⟩ = some (.int .i64 a1_3) ∧ w'.cell? ⟨gb164, 4, none⟩ = some (.slice A1_4 l1_4.length c1_4) ∧ w'.cell? ⟨gb164, 5, none⟩ = some (.slice A1_5 l1_5.length c1_5)) (ds := []) #[false, false, false, false, false, false] (by kernel_rfl) rfl rfl ⟨(blk_cell BK163.out 0).trans rfl, (blk_cell BK163.out 1).trans rfl, (blk_cell BK163.out 2).trans rfl, (blk_cell BK163.out 3).trans rfl, (blk_cell BK163.out 4).trans rfl, (blk_cell BK163.out 5).trans rfl, (blk_cell BK164.out 0).trans rfl, (blk_cell BK164.out 1).trans rfl, (blk_cell BK164.out 2).trans rfl, (blk_cell BK164.out 3).trans rfl, (blk_cell BK164.out 4).trans rfl, (blk_cell BK164.out 5).trans rfl⟩ (fun hHeld => ?_)
            generalize w72.drew = w_ at BK163 BK164 HB hHeld ⊢
            refine take_ (i := 0) (N := some 20) (v := ?_) (a' := ?_) #[true, false, false, false, false, false] rfl rfl (by kernel_rfl) (fun _ _ _ h => h) (Or.inl ⟨by rfl, ?_⟩) hHeld ?_ ?_
            rotate_left
            · rintro w' ⟨s0, s1, s2, s3, s4, s5, s6, s7, s8, s9, s10, s11⟩
              go_simp
              with_reducible rfl
            rotate_left
            · simp only [Act.put, List.setIfInBounds_toArray, List.set_cons_zero, List.set_cons_succ, i64_w, i32_w]
              rfl
            refine take_ (i := 2) (N := some 22) (v := ?_) (a' := ?_) #[true, false, true, false, false, false] rfl rfl (by kernel_rfl) (fun _ _ _ h => h) (Or.inl ⟨by rfl, ?_⟩) hHeld ?_ ?_
            rotate_left
            · rintro w' ⟨s0, s1, s2, s3, s4, s5, s6, s7, s8, s9, s10, s11⟩
              go_simp
              with_reducible rfl
            rotate_left
            · simp only [Act.put, List.setIfInBounds_toArray, List.set_cons_zero, List.set_cons_succ, i64_w, i32_w]
              rfl
            refine one_ (i := 1) (N := some 21) #[true, true, true, false, false, false] rfl rfl (by kernel_rfl) (by decide) (fun K hK => ?_)
            refine goes_ Try.func10 (by kernel_rfl) rfl #[.agg mm6q2_] (by rfl) rfl rfl (by mm6q8_) ?_
            with_reducible refine (laws_toPaper.calls k a0_0 a0_1 a0_2 a0_3 _ _ l0_4 _ _ l0_5 t167 t168 t169 t170 t171 t174 _ ?side1 ?side2 ?side3 ?side4 A19.out).mono ?_
            (mm6q16_)
            (case side2 => exact HC0_4.out)
            (mm6q17_)
            (case side4 => exact HC0_5.out)
            rintro e w_ ⟨v172, v175, rfl, ho0, ho1, hb⟩
            refine ⟨_, rfl, ?_⟩
            have n0_ := Aside0.mk (Kd.R_lower ho0 (below_size (by mm6q3_)))
            have n1_ := Aside0.mk (Kd.R_lower ho1 (below_size (by mm6q3_)))
            have n2_ := Aside0.mk (blk_below (g := gb163) (o := .cells mm6q2_ 25 (0, 0)) (by (mm6q0_); exact BK163.out) hb)
            have n3_ := Aside0.mk (blk_below (g := gb164) (o := .cells mm6q4_ 25 (0, 0)) (by (mm6q0_); exact BK164.out) hb)
            have n4_ := Aside0.mk (below_step (by mm6q3_) hb)
            clear BK163
            clear BK164
            clear HB
            have HO173 := n0_
            have HO176 := n1_
            have BK163 := n2_
            have BK164 := n3_
            have HB := n4_
            clear n0_ n1_ n2_ n3_ n4_
            (try clear hb)
            (try clear hb2)
            (try clear hk)
            (try clear hi)
            (try clear ho0)
            (try clear ho1)
            refine hK.out _ _ ⟨(blk_cell BK163.out 0).trans rfl, (blk_cell BK163.out 1).trans rfl, (blk_cell BK163.out 2).trans rfl, (blk_cell BK163.out 3).trans rfl, (blk_cell BK163.out 4).trans rfl, (blk_cell BK163.out 5).trans rfl, (blk_cell BK164.out 0).trans rfl, (blk_cell BK164.out 1).trans rfl, (blk_cell BK164.out 2).trans rfl, (blk_cell BK164.out 3).trans rfl, (blk_cell BK164.out 4).trans rfl, (blk_cell BK164.out 5).trans rfl⟩ (fun hHeld => ?_)
            clear hK K
            refine norm_ (a' := ?_) ?_ ?_
            rotate_left
            · show Act.put _ (some 21) _ = _
              simp only [Act.put, List.setIfInBounds_toArray, List.set_cons_zero, List.set_cons_succ, i64_w, i32_w]
              rfl
            refine one_ (i := 3) (N := some 23) #[true, true, true, true, false, false] rfl rfl (by kernel_rfl) (by decide) (fun K hK => ?_)
            refine goes_ Try.func10 (by kernel_rfl) rfl #[.agg mm6q4_] (by rfl) rfl rfl (by mm6q8_) ?_
            with_reducible refine (laws_toPaper.calls k a1_0 a1_1 a1_2 a1_3 _ _ l1_4 _ _ l1_5 t177 t178 t179 t180 t181 t184 _ ?side1 ?side2 ?side3 ?side4 A20.out).mono ?_
            (mm6q19_)
            (case side2 => exact HC1_4.out)
            (mm6q20_)
            (case side4 => exact HC1_5.out)
            rintro e w_ ⟨v182, v185, rfl, ho0, ho1, hb⟩
            refine ⟨_, rfl, ?_⟩
            have n0_ := Aside0.mk (Kd.R_elder' (by (mm6q1_); exact HO173.out) (Kd.R_base ho0) hb)
            have n1_ := Aside0.mk (Kd.R_elder' (by (mm6q1_); exact HO176.out) (Kd.R_base ho1) hb)
            have n2_ := Aside0.mk (Kd.R_lower (Kd.R_new' ho0 (Kd.R_lt (by (mm6q1_); exact HO173.out))) (below_size (by mm6q3_)))
            have n3_ := Aside0.mk (Kd.R_lower (Kd.R_new' ho1 (Kd.R_lt (by (mm6q1_); exact HO176.out))) (below_size (by mm6q3_)))
            have n4_ := Aside0.mk (blk_below (g := gb163) (o := .cells mm6q2_ 25 (0, 0)) (by (mm6q0_); exact BK163.out) hb)
            have n5_ := Aside0.mk (blk_below (g := gb164) (o := .cells mm6q4_ 25 (0, 0)) (by (mm6q0_); exact BK164.out) hb)
            have n6_ := Aside0.mk (below_step (by mm6q3_) hb)
            clear HO173
            clear HO176
            clear BK163
            clear BK164
            clear HB
            have HO173 := n0_
            have HO176 := n1_
            have HO183 := n2_
            have HO186 := n3_
            have BK163 := n4_
            have BK164 := n5_
            have HB := n6_
            clear n0_ n1_ n2_ n3_ n4_ n5_ n6_
            (try clear hb)
            (try clear hb2)
            (try clear hk)
            (try clear hi)
            (try clear ho0)
            (try clear ho1)
            obtain ⟨Ao76, co76, eo76⟩ := Kd.R_slice HO173.out
            (first | subst eo76 | (injection eo76 with f1_ f2_ f3_; have f4_ := f1_.symm; have f5_ := f3_.symm; clear f1_ f2_ f3_; subst f4_; subst f5_))
            obtain ⟨Ao77, co77, eo77⟩ := Kd.R_slice HO176.out
            (first | subst eo77 | (injection eo77 with f1_ f2_ f3_; have f4_ := f1_.symm; have f5_ := f3_.symm; clear f1_ f2_ f3_; subst f4_; subst f5_))
            obtain ⟨Ao78, co78, eo78⟩ := Kd.R_slice HO183.out
            (first | subst eo78 | (injection eo78 with f1_ f2_ f3_; have f4_ := f1_.symm; have f5_ := f3_.symm; clear f1_ f2_ f3_; subst f4_; subst f5_))
            obtain ⟨Ao79, co79, eo79⟩ := Kd.R_slice HO186.out
            (first | subst eo79 | (injection eo79 with f1_ f2_ f3_; have f4_ := f1_.symm; have f5_ := f3_.symm; clear f1_ f2_ f3_; subst f4_; subst f5_))
            refine hK.out _ _ ⟨(blk_cell BK163.out 0).trans rfl, (blk_cell BK163.out 1).trans rfl, (blk_cell BK163.out 2).trans rfl, (blk_cell BK163.out 3).trans rfl, (blk_cell BK163.out 4).trans rfl, (blk_cell BK163.out 5).trans rfl, (blk_cell BK164.out 0).trans rfl, (blk_cell BK164.out 1).trans rfl, (blk_cell BK164.out 2).trans rfl, (blk_cell BK164.out 3).trans rfl, (blk_cell BK164.out 4).trans rfl, (blk_cell BK164.out 5).trans rfl⟩ (fun hHeld => ?_)
            clear hK K
            refine norm_ (a' := ?_) ?_ ?_
            rotate_left
            · show Act.put _ (some 23) _ = _
              simp only [Act.put, List.setIfInBounds_toArray, List.set_cons_zero, List.set_cons_succ, i64_w, i32_w]
              rfl
            refine one_ (i := 4) (N := some 24) #[true, true, true, true, true, false] rfl rfl (by kernel_rfl) (by decide) (fun K hK => ?_)
            refine goes_ Try.func9 (by kernel_rfl) rfl #[.agg #[.int .i64 t167, .string t168, .string t169, .int .i64 t170, .slice Ao76 t171.length co76, .slice Ao77 t174.length co77], .agg #[.int .i64 t177, .string t178, .string t179, .int .i64 t180, .slice Ao78 t181.length co78, .slice Ao79 t184.length co79]] (by rfl) rfl rfl (by mm6q8_) ?_
            with_reducible refine (spec_PaperSame.calls k t167 t168 t169 t170 _ _ t171 _ _ t174 t177 t178 t179 t180 _ _ t181 _ _ t184 t187 _ ?side1 ?side2 ?side3 ?side4 ?side5 ?side6 ?side7 ?side8 A21.out).mono ?_
            (mm6q80_)
            (mm6q97_)
            (mm6q81_)
            (mm6q98_)
            (mm6q82_)
            (mm6q99_)
            (mm6q83_)
            (mm6q100_)
            rintro e w80 ⟨rfl, hb⟩
            refine ⟨_, rfl, ?_⟩
            have n0_ := Aside0.mk (Kd.R_below (by (mm6q1_); exact HO173.out) hb)
            have n1_ := Aside0.mk (Kd.R_below (by (mm6q1_); exact HO176.out) hb)
            have n2_ := Aside0.mk (Kd.R_below (by (mm6q1_); exact HO183.out) hb)
            have n3_ := Aside0.mk (Kd.R_below (by (mm6q1_); exact HO186.out) hb)
            have n4_ := Aside0.mk (blk_below (g := gb163) (o := .cells mm6q2_ 25 (0, 0)) (by (mm6q0_); exact BK163.out) hb)
            have n5_ := Aside0.mk (blk_below (g := gb164) (o := .cells mm6q4_ 25 (0, 0)) (by (mm6q0_); exact BK164.out) hb)
            have n6_ := Aside0.mk (below_step (by mm6q3_) hb)
            clear HO173
            clear HO176
            clear HO183
            clear HO186
            clear BK163
            clear BK164
            clear HB
            have HO173 := n0_
            have HO176 := n1_
            have HO183 := n2_
            have HO186 := n3_
            have BK163 := n4_
            have BK164 := n5_
            have HB := n6_
            clear n0_ n1_ n2_ n3_ n4_ n5_ n6_
            (try clear hb)
            (try clear hb2)
            (try clear hk)
            (try clear hi)
            refine hK.out _ _ ⟨(blk_cell BK163.out 0).trans rfl, (blk_cell BK163.out 1).trans rfl, (blk_cell BK163.out 2).trans rfl, (blk_cell BK163.out 3).trans rfl, (blk_cell BK163.out 4).trans rfl, (blk_cell BK163.out 5).trans rfl, (blk_cell BK164.out 0).trans rfl, (blk_cell BK164.out 1).trans rfl, (blk_cell BK164.out 2).trans rfl, (blk_cell BK164.out 3).trans rfl, (blk_cell BK164.out 4).trans rfl, (blk_cell BK164.out 5).trans rfl⟩ (fun hHeld => ?_)
            clear hK K
            refine norm_ (a' := ?_) ?_ ?_
            rotate_left
            · show Act.put _ (some 24) _ = _
              simp only [Act.put, List.setIfInBounds_toArray, List.set_cons_zero, List.set_cons_succ, i64_w, i32_w]
              rfl
            refine pure_ (i := 5) (N := some 6) (v := ?_) (a' := ?_) #[true, true, true, true, true, true] rfl rfl (by kernel_rfl) (fun _ _ _ h => h) (Or.inl ⟨by rfl, ?_⟩) ?_ ?_
            rotate_left
            · intro w'
              go_simp
              with_reducible rfl
            rotate_left
            · simp only [Act.put, List.setIfInBounds_toArray, List.set_cons_zero, List.set_cons_succ, i64_w, i32_w]
              rfl
            refine done_ (by kernel_rfl) ?_
            have hcz81_0 : w80.cell? ⟨gb163, 0, none⟩ = some (.int .i64 a0_0) := (blk_cell BK163.out 0).trans rfl
            have hcz81_1 : w80.cell? ⟨gb163, 1, none⟩ = some (.string a0_1) := (blk_cell BK163.out 1).trans rfl
            have hcz81_2 : w80.cell? ⟨gb163, 2, none⟩ = some (.string a0_2) := (blk_cell BK163.out 2).trans rfl
            have hcz81_3 : w80.cell? ⟨gb163, 3, none⟩ = some (.int .i64 a0_3) := (blk_cell BK163.out 3).trans rfl
            have hcz81_4 : w80.cell? ⟨gb163, 4, none⟩ = some (.slice A0_4 l0_4.length c0_4) := (blk_cell BK163.out 4).trans rfl
            have hcz81_5 : w80.cell? ⟨gb163, 5, none⟩ = some (.slice A0_5 l0_5.length c0_5) := (blk_cell BK163.out 5).trans rfl
            have hfz81_0 := blk_frozen BK163.out 0
            have hfz81_1 := blk_frozen BK163.out 1
            have hfz81_2 := blk_frozen BK163.out 2
            have hfz81_3 := blk_frozen BK163.out 3
            have hfz81_4 := blk_frozen BK163.out 4
            have hfz81_5 := blk_frozen BK163.out 5
            try go_wp2_with (first | (mm6q5_) | ((with_reducible refine gate_dst (N := 7) rfl ?_); refine box_event ?hg (N := 7) ?hd (cs := mm6q14_) (t := 30) ?hr ?_; (case hd => rfl); (case hg => rfl); (mm6q31_); intro gb198 hg w83 hbox hb; have n0_ := Aside0.mk (Kd.R_below (by (mm6q1_); exact HO173.out) hb); have n1_ := Aside0.mk (Kd.R_below (by (mm6q1_); exact HO176.out) hb); have n2_ := Aside0.mk (Kd.R_below (by (mm6q1_); exact HO183.out) hb); have n3_ := Aside0.mk (Kd.R_below (by (mm6q1_); exact HO186.out) hb); have n4_ := Aside0.mk (Kd.R_below (by (mm6q1_); exact HO194.out) hb); have n5_ := Aside0.mk (Kd.R_below (by (mm6q1_); exact HO197.out) hb); have n6_ := Aside0.mk (blk_below (g := gb163) (o := .cells mm6q2_ 25 (0, 0)) (by (mm6q0_); exact BK163.out) hb); have n7_ := Aside0.mk (blk_below (g := gb164) (o := .cells mm6q4_ 25 (0, 0)) (by (mm6q0_); exact BK164.out) hb); have n8_ := Aside0.mk (below_step (by mm6q3_) hb); have n9_ := Aside0.mk (hbox); have n10_ := Aside0.mk ((by rw [hg]; exact (below_size (by mm6q3_)) : w.heap.size ≤ gb198)); have n11_ := Aside0.mk ((by rw [hg]; exact (below_size (by mm6q3_)) : w.heap.size ≤ gb198)); have n12_ := Aside0.mk ((by rw [hg]; exact Nat.ne_of_lt (blk_lt (g := gb163) (o := .cells mm6q2_ 25 (0, 0)) (by (mm6q0_); exact BK163.out)) : gb163 ≠ gb198)); have n13_ := Aside0.mk ((by rw [hg]; exact Nat.ne_of_gt (blk_lt (g := gb163) (o := .cells mm6q2_ 25 (0, 0)) (by (mm6q0_); exact BK163.out)) : gb198 ≠ gb163)); have n14_ := Aside0.mk ((by rw [hg]; exact Nat.ne_of_lt (blk_lt (g := gb164) (o := .cells mm6q4_ 25 (0, 0)) (by (mm6q0_); exact BK164.out)) : gb164 ≠ gb198)); have n15_ := Aside0.mk ((by rw [hg]; exact Nat.ne_of_gt (blk_lt (g := gb164) (o := .cells mm6q4_ 25 (0, 0)) (by (mm6q0_); exact BK164.out)) : gb198 ≠ gb164)); clear HO173; clear HO176; clear HO183; clear HO186; clear HO194; clear HO197; clear BK163; clear BK164; clear HB; have HO173 := n0_; have HO176 := n1_; have HO183 := n2_; have HO186 := n3_; have HO194 := n4_; have HO197 := n5_; have BK163 := n6_; have BK164 := n7_; have HB := n8_; have BK198 := n9_; have GW198 := n10_; have GE198 := n11_; have NB163_198 := n12_; have NB198_163 := n13_; have NB164_198 := n14_; have NB198_164 := n15_; clear n0_ n1_ n2_ n3_ n4_ n5_ n6_ n7_ n8_ n9_ n10_ n11_ n12_ n13_ n14_ n15_; clear hb hbox hg; have hnb84 := NB198_163.out; have hnc84 := NB163_198.out; have hnb85 := NB198_164.out; have hnc85 := NB164_198.out; have hcz86_0 : w83.cell? ⟨gb198, 0, none⟩ = some (.int .i64 0) := (blk_cell BK198.out 0).trans rfl; have hcz86_1 : w83.cell? ⟨gb198, 1, none⟩ = some (.string (⟨#[]⟩ : ByteArray)) := (blk_cell BK198.out 1).trans rfl; have hcz86_2 : w83.cell? ⟨gb198, 2, none⟩ = some (.string (⟨#[]⟩ : ByteArray)) := (blk_cell BK198.out 2).trans rfl; have hcz86_3 : w83.cell? ⟨gb198, 3, none⟩ = some (.int .i64 0) := (blk_cell BK198.out 3).trans rfl; have hcz86_4 : w83.cell? ⟨gb198, 4, none⟩ = some (.slice none 0 0) := (blk_cell BK198.out 4).trans rfl; have hcz86_5 : w83.cell? ⟨gb198, 5, none⟩ = some (.slice none 0 0) := (blk_cell BK198.out 5).trans rfl; have hfz86_0 := blk_frozen BK198.out 0; have hfz86_1 := blk_frozen BK198.out 1; have hfz86_2 := blk_frozen BK198.out 2; have hfz86_3 := blk_frozen BK198.out 3; have hfz86_4 := blk_frozen BK198.out 4; have hfz86_5 := blk_frozen BK198.out 5; obtain ⟨Ao87, co87, eo87⟩ := Kd.R_slice HO194.out; subst eo87; obtain ⟨Ao88, co88, eo88⟩ := Kd.R_slice HO197.out; subst eo88; have hcz89_0 : w83.cell? ⟨gb164, 0, none⟩ = some (.int .i64 a1_0) := (blk_cell BK164.out 0).trans rfl; have hcz89_1 : w83.cell? ⟨gb164, 1, none⟩ = some (.string a1_1) := (blk_cell BK164.out 1).trans rfl; have hcz89_2 : w83.cell? ⟨gb164, 2, none⟩ = some (.string a1_2) := (blk_cell BK164.out 2).trans rfl; have hcz89_3 : w83.cell? ⟨gb164, 3, none⟩ = some (.int .i64 a1_3) := (blk_cell BK164.out 3).trans rfl; have hcz89_4 : w83.cell? ⟨gb164, 4, none⟩ = some (.slice A1_4 l1_4.length c1_4) := (blk_cell BK164.out 4).trans rfl; have hcz89_5 : w83.cell? ⟨gb164, 5, none⟩ = some (.slice A1_5 l1_5.length c1_5) := (blk_cell BK164.out 5).trans rfl; have hfz89_0 := blk_frozen BK164.out 0; have hfz89_1 := blk_frozen BK164.out 1; have hfz89_2 := blk_frozen BK164.out 2; have hfz89_3 := blk_frozen BK164.out 3; have hfz89_4 := blk_frozen BK164.out 4; have hfz89_5 := blk_frozen BK164.out 5) | ((with_reducible refine gate_callee (f := 10) rfl ?_); refine goesL_ (some 28) rfl rfl Try.func10 (by kernel_rfl) rfl #[.agg mm6q4_] rfl (by mm6q8_) ?_; (mm6q74_); (mm6q95_); (case side2 => exact HC1_4.out); (mm6q96_); (case side4 => exact HC1_5.out); rintro e w_ ⟨v204, v207, rfl, ho0, ho1, hb⟩; refine ⟨_, rfl, ?_⟩; have n0_ := Aside0.mk (Kd.R_elder' (by mm6q63_) (Kd.R_base ho0) hb); have n1_ := Aside0.mk (Kd.R_elder' (by mm6q64_) (Kd.R_base ho1) hb); have n2_ := Aside0.mk (Kd.R_elder' (by mm6q65_) (Kd.R_base ho0) hb); have n3_ := Aside0.mk (Kd.R_elder' (by mm6q66_) (Kd.R_base ho1) hb); have n4_ := Aside0.mk (Kd.R_elder' (by mm6q67_) (Kd.R_base ho0) hb); have n5_ := Aside0.mk (Kd.R_elder' (by mm6q68_) (Kd.R_base ho1) hb); have n6_ := Aside0.mk (Kd.R_lower (Kd.R_new' (Kd.R_new' (Kd.R_new' ho0 (Kd.R_lt (by mm6q63_))) (Kd.R_lt (by mm6q65_))) (Kd.R_lt (by mm6q67_))) (below_size (by mm6q6_))); have n7_ := Aside0.mk (Kd.R_lower (Kd.R_new' (Kd.R_new' (Kd.R_new' ho1 (Kd.R_lt (by mm6q64_))) (Kd.R_lt (by mm6q66_))) (Kd.R_lt (by mm6q68_))) (below_size (by mm6q6_))); have n8_ := Aside0.mk (blk_below (g := gb163) (o := .cells mm6q2_ 25 (0, 0)) (by mm6q22_) hb); have n9_ := Aside0.mk (blk_below (g := gb164) (o := .cells mm6q4_ 25 (0, 0)) (by mm6q23_) hb); have n10_ := Aside0.mk (blk_below (g := gb198) (o := .cells mm6q18_ 30 (0, 0)) (by (mm6q0_); refine blk_put (cs := #[.int .i64 t188, .string t189, .string t190, .int .i64 t191, .slice Ao87 t192.length co87, .slice none 0 0]) ?_ 5 _ rfl; (mm6q0_); refine blk_put (cs := mm6q84_) ?_ 4 _ rfl; (mm6q0_); refine blk_put (cs := mm6q86_) ?_ 3 _ rfl; (mm6q0_); refine blk_put (cs := mm6q78_) ?_ 2 _ rfl; (mm6q0_); refine blk_put (cs := mm6q76_) ?_ 1 _ rfl; (mm6q0_); refine blk_put (cs := mm6q14_) ?_ 0 _ rfl; (mm6q0_); exact BK198.out) hb); have n11_ := Aside0.mk (below_step (by mm6q6_) hb); clear HO173; clear HO176; clear HO183; clear HO186; clear HO194; clear HO197; clear BK163; clear BK164; clear BK198; clear HB; have HO173 := n0_; have HO176 := n1_; have HO183 := n2_; have HO186 := n3_; have HO194 := n4_; have HO197 := n5_; have HO205 := n6_; have HO208 := n7_; have BK163 := n8_; have BK164 := n9_; have BK198 := n10_; have HB := n11_; clear n0_ n1_ n2_ n3_ n4_ n5_ n6_ n7_ n8_ n9_ n10_ n11_; (try clear hb); (try clear hb2); (try clear hk); (try clear hi); (try clear ho0); (try clear ho1)) | ((with_reducible refine gate_dst (N := 8) rfl ?_); refine box_event ?hg (N := 8) ?hd (cs := mm6q14_) (t := 30) ?hr ?_; (case hd => rfl); (case hg => rfl); (mm6q31_); intro gb209 hg w91 hbox hb; have n0_ := Aside0.mk (Kd.R_below (by (mm6q1_); exact HO173.out) hb); have n1_ := Aside0.mk (Kd.R_below (by (mm6q1_); exact HO176.out) hb); have n2_ := Aside0.mk (Kd.R_below (by (mm6q1_); exact HO183.out) hb); have n3_ := Aside0.mk (Kd.R_below (by (mm6q1_); exact HO186.out) hb); have n4_ := Aside0.mk (Kd.R_below (by (mm6q1_); exact HO194.out) hb); have n5_ := Aside0.mk (Kd.R_below (by (mm6q1_); exact HO197.out) hb); have n6_ := Aside0.mk (Kd.R_below (by (mm6q1_); exact HO205.out) hb); have n7_ := Aside0.mk (Kd.R_below (by (mm6q1_); exact HO208.out) hb); have n8_ := Aside0.mk (blk_below (g := gb163) (o := .cells mm6q2_ 25 (0, 0)) (by (mm6q0_); exact BK163.out) hb); have n9_ := Aside0.mk (blk_below (g := gb164) (o := .cells mm6q4_ 25 (0, 0)) (by (mm6q0_); exact BK164.out) hb); have n10_ := Aside0.mk (blk_below (g := gb198) (o := .cells mm6q18_ 30 (0, 0)) (by (mm6q0_); exact BK198.out) hb); have n11_ := Aside0.mk (below_step (by mm6q6_) hb); have n12_ := Aside0.mk (hbox); have n13_ := Aside0.mk ((by rw [hg]; exact (below_size (by mm6q6_)) : w.heap.size ≤ gb209)); have n14_ := Aside0.mk ((by rw [hg]; exact (below_size (by mm6q6_)) : w.heap.size ≤ gb209)); have n15_ := Aside0.mk ((by rw [hg]; exact Nat.ne_of_lt (blk_lt (g := gb163) (o := .cells mm6q2_ 25 (0, 0)) (by (mm6q0_); exact BK163.out)) : gb163 ≠ gb209)); have n16_ := Aside0.mk ((by rw [hg]; exact Nat.ne_of_gt (blk_lt (g := gb163) (o := .cells mm6q2_ 25 (0, 0)) (by (mm6q0_); exact BK163.out)) : gb209 ≠ gb163)); have n17_ := Aside0.mk ((by rw [hg]; exact Nat.ne_of_lt (blk_lt (g := gb164) (o := .cells mm6q4_ 25 (0, 0)) (by (mm6q0_); exact BK164.out)) : gb164 ≠ gb209)); have n18_ := Aside0.mk ((by rw [hg]; exact Nat.ne_of_gt (blk_lt (g := gb164) (o := .cells mm6q4_ 25 (0, 0)) (by (mm6q0_); exact BK164.out)) : gb209 ≠ gb164)); have n19_ := Aside0.mk ((by rw [hg]; exact Nat.ne_of_lt (blk_lt (g := gb198) (o := .cells mm6q18_ 30 (0, 0)) (by (mm6q0_); exact BK198.out)) : gb198 ≠ gb209)); have n20_ := Aside0.mk ((by rw [hg]; exact Nat.ne_of_gt (blk_lt (g := gb198) (o := .cells mm6q18_ 30 (0, 0)) (by (mm6q0_); exact BK198.out)) : gb209 ≠ gb198)); clear HO173; clear HO176; clear HO183; clear HO186; clear HO194; clear HO197; clear HO205; clear HO208; clear BK163; clear BK164; clear BK198; clear HB; have HO173 := n0_; have HO176 := n1_; have HO183 := n2_; have HO186 := n3_; have HO194 := n4_; have HO197 := n5_; have HO205 := n6_; have HO208 := n7_; have BK163 := n8_; have BK164 := n9_; have BK198 := n10_; have HB := n11_; have BK209 := n12_; have GW209 := n13_; have GE209 := n14_; have NB163_209 := n15_; have NB209_163 := n16_; have NB164_209 := n17_; have NB209_164 := n18_; have NB198_209 := n19_; have NB209_198 := n20_; clear n0_ n1_ n2_ n3_ n4_ n5_ n6_ n7_ n8_ n9_ n10_ n11_ n12_ n13_ n14_ n15_ n16_ n17_ n18_ n19_ n20_; clear hb hbox hg; have hnb92 := NB209_163.out; have hnc92 := NB163_209.out; have hnb93 := NB209_164.out; have hnc93 := NB164_209.out; have hnb94 := NB209_198.out; have hnc94 := NB198_209.out; have hcz95_0 : w91.cell? ⟨gb209, 0, none⟩ = some (.int .i64 0) := (blk_cell BK209.out 0).trans rfl; have hcz95_1 : w91.cell? ⟨gb209, 1, none⟩ = some (.string (⟨#[]⟩ : ByteArray)) := (blk_cell BK209.out 1).trans rfl; have hcz95_2 : w91.cell? ⟨gb209, 2, none⟩ = some (.string (⟨#[]⟩ : ByteArray)) := (blk_cell BK209.out 2).trans rfl; have hcz95_3 : w91.cell? ⟨gb209, 3, none⟩ = some (.int .i64 0) := (blk_cell BK209.out 3).trans rfl; have hcz95_4 : w91.cell? ⟨gb209, 4, none⟩ = some (.slice none 0 0) := (blk_cell BK209.out 4).trans rfl; have hcz95_5 : w91.cell? ⟨gb209, 5, none⟩ = some (.slice none 0 0) := (blk_cell BK209.out 5).trans rfl; have hfz95_0 := blk_frozen BK209.out 0; have hfz95_1 := blk_frozen BK209.out 1; have hfz95_2 := blk_frozen BK209.out 2; have hfz95_3 := blk_frozen BK209.out 3; have hfz95_4 := blk_frozen BK209.out 4; have hfz95_5 := blk_frozen BK209.out 5; obtain ⟨Ao96, co96, eo96⟩ := Kd.R_slice HO205.out; subst eo96; obtain ⟨Ao97, co97, eo97⟩ := Kd.R_slice HO208.out; subst eo97; have hcz98_0 : w91.cell? ⟨gb198, 0, none⟩ = some (.int .i64 t188) := (blk_cell BK198.out 0).trans rfl; have hcz98_1 : w91.cell? ⟨gb198, 1, none⟩ = some (.string t189) := (blk_cell BK198.out 1).trans rfl; have hcz98_2 : w91.cell? ⟨gb198, 2, none⟩ = some (.string t190) := (blk_cell BK198.out 2).trans rfl; have hcz98_3 : w91.cell? ⟨gb198, 3, none⟩ = some (.int .i64 t191) := (blk_cell BK198.out 3).trans rfl; have hcz98_4 : w91.cell? ⟨gb198, 4, none⟩ = some (.slice Ao87 t192.length co87) := (blk_cell BK198.out 4).trans rfl; have hcz98_5 : w91.cell? ⟨gb198, 5, none⟩ = some (.slice Ao88 t195.length co88) := (blk_cell BK198.out 5).trans rfl; have hfz98_0 := blk_frozen BK198.out 0; have hfz98_1 := blk_frozen BK198.out 1; have hfz98_2 := blk_frozen BK198.out 2; have hfz98_3 := blk_frozen BK198.out 3; have hfz98_4 := blk_frozen BK198.out 4; have hfz98_5 := blk_frozen BK198.out 5) | ((with_reducible refine gate_callee (f := 11) rfl ?_); refine goesL_ (some 31) rfl rfl Try.func11 (by kernel_rfl) rfl #[.agg mm6q18_, .agg mm6q28_] rfl (by mm6q8_) ?_; (mm6q30_); (case side1 => refine (Kd.R_reads' (e := 9) (base := w.heap.size) (ok := fun k_ => (((True ∧ some k_ ≠ (.slice Ao76 t171.length co76 : Value).ownBlock) ∧ some k_ ≠ (.slice Ao78 t181.length co78 : Value).ownBlock) ∧ some k_ ≠ (.slice Ao96 t203.length co96 : Value).ownBlock)) (n := t192.length) (c := co87) ?_).2.2; exact (by mm6q69_)); (mm6q88_); (case side3 => refine (Kd.R_reads' (e := 71) (base := w.heap.size) (ok := fun k_ => (((True ∧ some k_ ≠ (.slice Ao77 t174.length co77 : Value).ownBlock) ∧ some k_ ≠ (.slice Ao79 t184.length co79 : Value).ownBlock) ∧ some k_ ≠ (.slice Ao97 t206.length co97 : Value).ownBlock)) (n := t195.length) (c := co88) ?_).2.2; exact (by mm6q70_)); (mm6q89_); (case side5 => refine (Kd.R_reads' (e := 9) (base := w.heap.size) (ok := fun k_ => (((True ∧ some k_ ≠ (.slice Ao76 t171.length co76 : Value).ownBlock) ∧ some k_ ≠ (.slice Ao78 t181.length co78 : Value).ownBlock) ∧ some k_ ≠ (.slice Ao87 t192.length co87 : Value).ownBlock)) (n := t203.length) (c := co96) ?_).2.2; exact (by mm6q71_)); (mm6q101_); (case side7 => refine (Kd.R_reads' (e := 71) (base := w.heap.size) (ok := fun k_ => (((True ∧ some k_ ≠ (.slice Ao77 t174.length co77 : Value).ownBlock) ∧ some k_ ≠ (.slice Ao79 t184.length co79 : Value).ownBlock) ∧ some k_ ≠ (.slice Ao88 t195.length co88 : Value).ownBlock)) (n := t206.length) (c := co97) ?_).2.2; exact (by mm6q72_)); (mm6q102_); rintro e w99 ⟨rfl, hb⟩; refine ⟨_, rfl, ?_⟩; have n0_ := Aside0.mk (Kd.R_below (by (mm6q1_); exact (Kd.R_mono (Kd.R_far (p := ⟨gb209, 5, none⟩) (Kd.R_far (p := ⟨gb209, 4, none⟩) (Kd.R_far (p := ⟨gb209, 3, none⟩) (Kd.R_far (p := ⟨gb209, 2, none⟩) (Kd.R_far (p := ⟨gb209, 1, none⟩) (Kd.R_far (p := ⟨gb209, 0, none⟩) (Kd.R_types HO173.out BK209.out (by decide)) (fun _ hk => hk.2) (.int .i64 t199)) (fun _ hk => hk.2) (.string t200)) (fun _ hk => hk.2) (.string t201)) (fun _ hk => hk.2) (.int .i64 t202)) (fun _ hk => hk.2) (.slice Ao96 t203.length co96)) (fun _ hk => hk.2) (.slice Ao97 t206.length co97)) (fun _ h_ => h_.1))) hb); have n1_ := Aside0.mk (Kd.R_below (by (mm6q1_); exact (Kd.R_mono (Kd.R_far (p := ⟨gb209, 5, none⟩) (Kd.R_far (p := ⟨gb209, 4, none⟩) (Kd.R_far (p := ⟨gb209, 3, none⟩) (Kd.R_far (p := ⟨gb209, 2, none⟩) (Kd.R_far (p := ⟨gb209, 1, none⟩) (Kd.R_far (p := ⟨gb209, 0, none⟩) (Kd.R_types HO176.out BK209.out (by decide)) (fun _ hk => hk.2) (.int .i64 t199)) (fun _ hk => hk.2) (.string t200)) (fun _ hk => hk.2) (.string t201)) (fun _ hk => hk.2) (.int .i64 t202)) (fun _ hk => hk.2) (.slice Ao96 t203.length co96)) (fun _ hk => hk.2) (.slice Ao97 t206.length co97)) (fun _ h_ => h_.1))) hb); have n2_ := Aside0.mk (Kd.R_below (by (mm6q1_); exact (Kd.R_mono (Kd.R_far (p := ⟨gb209, 5, none⟩) (Kd.R_far (p := ⟨gb209, 4, none⟩) (Kd.R_far (p := ⟨gb209, 3, none⟩) (Kd.R_far (p := ⟨gb209, 2, none⟩) (Kd.R_far (p := ⟨gb209, 1, none⟩) (Kd.R_far (p := ⟨gb209, 0, none⟩) (Kd.R_types HO183.out BK209.out (by decide)) (fun _ hk => hk.2) (.int .i64 t199)) (fun _ hk => hk.2) (.string t200)) (fun _ hk => hk.2) (.string t201)) (fun _ hk => hk.2) (.int .i64 t202)) (fun _ hk => hk.2) (.slice Ao96 t203.length co96)) (fun _ hk => hk.2) (.slice Ao97 t206.length co97)) (fun _ h_ => h_.1))) hb); have n3_ := Aside0.mk (Kd.R_below (by (mm6q1_); exact (Kd.R_mono (Kd.R_far (p := ⟨gb209, 5, none⟩) (Kd.R_far (p := ⟨gb209, 4, none⟩) (Kd.R_far (p := ⟨gb209, 3, none⟩) (Kd.R_far (p := ⟨gb209, 2, none⟩) (Kd.R_far (p := ⟨gb209, 1, none⟩) (Kd.R_far (p := ⟨gb209, 0, none⟩) (Kd.R_types HO186.out BK209.out (by decide)) (fun _ hk => hk.2) (.int .i64 t199)) (fun _ hk => hk.2) (.string t200)) (fun _ hk => hk.2) (.string t201)) (fun _ hk => hk.2) (.int .i64 t202)) (fun _ hk => hk.2) (.slice Ao96 t203.length co96)) (fun _ hk => hk.2) (.slice Ao97 t206.length co97)) (fun _ h_ => h_.1))) hb); have n4_ := Aside0.mk (Kd.R_below (by mm6q69_) hb); have n5_ := Aside0.mk (Kd.R_below (by mm6q70_) hb); have n6_ := Aside0.mk (Kd.R_below (by mm6q71_) hb); have n7_ := Aside0.mk (Kd.R_below (by mm6q72_) hb); have n8_ := Aside0.mk (blk_below (g := gb163) (o := .cells mm6q2_ 25 (0, 0)) (by mm6q24_) hb); have n9_ := Aside0.mk (blk_below (g := gb164) (o := .cells mm6q4_ 25 (0, 0)) (by mm6q25_) hb); have n10_ := Aside0.mk (blk_below (g := gb198) (o := .cells mm6q18_ 30 (0, 0)) (by mm6q26_) hb); have n11_ := Aside0.mk (blk_below (g := gb209) (o := .cells mm6q28_ 30 (0, 0)) (by (mm6q0_); refine blk_put (cs := #[.int .i64 t199, .string t200, .string t201, .int .i64 t202, .slice Ao96 t203.length co96, .slice none 0 0]) ?_ 5 _ rfl; (mm6q0_); refine blk_put (cs := mm6q85_) ?_ 4 _ rfl; (mm6q0_); refine blk_put (cs := mm6q87_) ?_ 3 _ rfl; (mm6q0_); refine blk_put (cs := mm6q79_) ?_ 2 _ rfl; (mm6q0_); refine blk_put (cs := mm6q77_) ?_ 1 _ rfl; (mm6q0_); refine blk_put (cs := mm6q14_) ?_ 0 _ rfl; (mm6q0_); exact BK209.out) hb); have n12_ := Aside0.mk (below_step (by repeat (mm6q7_)) hb); clear HO173; clear HO176; clear HO183; clear HO186; clear HO194; clear HO197; clear HO205; clear HO208; clear BK163; clear BK164; clear BK198; clear BK209; clear HB; have HO173 := n0_; have HO176 := n1_; have HO183 := n2_; have HO186 := n3_; have HO194 := n4_; have HO197 := n5_; have HO205 := n6_; have HO208 := n7_; have BK163 := n8_; have BK164 := n9_; have BK198 := n10_; have BK209 := n11_; have HB := n12_; clear n0_ n1_ n2_ n3_ n4_ n5_ n6_ n7_ n8_ n9_ n10_ n11_ n12_; (try clear hb); (try clear hb2); (try clear hk); (try clear hi)))
            have n0_ := Aside0.mk (Kd.R_drew HO173.out)
            have n1_ := Aside0.mk (Kd.R_drew HO176.out)
            have n2_ := Aside0.mk (Kd.R_drew HO183.out)
            have n3_ := Aside0.mk (Kd.R_drew HO186.out)
            have n4_ := Aside0.mk (Kd.R_drew HO194.out)
            have n5_ := Aside0.mk (Kd.R_drew HO197.out)
            have n6_ := Aside0.mk (Kd.R_drew HO205.out)
            have n7_ := Aside0.mk (Kd.R_drew HO208.out)
            have n8_ := Aside0.mk (blk_drew BK163.out)
            have n9_ := Aside0.mk (blk_drew BK164.out)
            have n10_ := Aside0.mk (blk_drew BK198.out)
            have n11_ := Aside0.mk (blk_drew BK209.out)
            have n12_ := Aside0.mk (below_drew1 HB.out)
            clear HO173
            clear HO176
            clear HO183
            clear HO186
            clear HO194
            clear HO197
            clear HO205
            clear HO208
            clear BK163
            clear BK164
            clear BK198
            clear BK209
            clear HB
            have HO173 := n0_
            have HO176 := n1_
            have HO183 := n2_
            have HO186 := n3_
            have HO194 := n4_
            have HO197 := n5_
            have HO205 := n6_
            have HO208 := n7_
            have BK163 := n8_
            have BK164 := n9_
            have BK198 := n10_
            have BK209 := n11_
            have HB := n12_
            clear n0_ n1_ n2_ n3_ n4_ n5_ n6_ n7_ n8_ n9_ n10_ n11_ n12_
            refine start_ (n := 5) (S := fun w' => w'.cell? ⟨gb198, 0, none⟩ = some (.int .i64 t188) ∧ w'.cell? ⟨gb198, 1, none⟩ = some (.string t189) ∧ w'.cell? ⟨gb198, 2, none⟩ = some (.string t190) ∧ w'.cell? ⟨gb198, 3, none⟩ = some (.int .i64 t191) ∧ w'.cell? ⟨gb198, 4, none⟩ = some (.slice Ao87 t192.length co87) ∧ w'.cell? ⟨gb198, 5, none⟩ = some (.slice Ao88 t195.length co88) ∧ w'.cell? ⟨gb163, 0, none⟩ = some (.int .i64 a0_0) ∧ w'.cell? ⟨gb163, 1, none⟩ = some (.string a0_1) ∧ w'.cell? ⟨gb163, 2, none⟩ = some (.string a0_2) ∧ w'.cell? ⟨gb163, 3, none⟩ = some (.int .i64 a0_3) ∧ w'.cell? ⟨gb163, 4, none⟩ = some (.slice A0_4 l0_4.length c0_4) ∧ w'.cell? ⟨gb163, 5, none⟩ = some (.slice A0_5 l0_5.length c0_5)) (ds := []) #[false, false, false, false, false] (by kernel_rfl) rfl rfl ⟨(blk_cell BK198.out 0).trans rfl, (blk_cell BK198.out 1).trans rfl, (blk_cell BK198.out 2).trans rfl, (blk_cell BK198.out 3).trans rfl, (blk_cell BK198.out 4).trans rfl, (blk_cell BK198.out 5).trans rfl, (blk_cell BK163.out 0).trans rfl, (blk_cell BK163.out 1).trans rfl, (blk_cell BK163.out 2).trans rfl, (blk_cell BK163.out 3).trans rfl, (blk_cell BK163.out 4).trans rfl, (blk_cell BK163.out 5).trans rfl⟩ (fun hHeld => ?_)
            generalize w99.drew = w_ at HO173 HO176 HO183 HO186 HO194 HO197 HO205 HO208 BK163 BK164 BK198 BK209 HB hHeld ⊢
            refine take_ (i := 0) (N := some 35) (v := ?_) (a' := ?_) #[true, false, false, false, false] rfl rfl (by kernel_rfl) (fun _ _ _ h => h) (Or.inl ⟨by rfl, ?_⟩) hHeld ?_ ?_
            rotate_left
            · rintro w' ⟨s0, s1, s2, s3, s4, s5, s6, s7, s8, s9, s10, s11⟩
              go_simp
              with_reducible rfl
            rotate_left
            · simp only [Act.put, List.setIfInBounds_toArray, List.set_cons_zero, List.set_cons_succ, i64_w, i32_w]
              rfl
            refine take_ (i := 1) (N := some 36) (v := ?_) (a' := ?_) #[true, true, false, false, false] rfl rfl (by kernel_rfl) (fun _ _ _ h => h) (Or.inl ⟨by rfl, ?_⟩) hHeld ?_ ?_
            rotate_left
            · rintro w' ⟨s0, s1, s2, s3, s4, s5, s6, s7, s8, s9, s10, s11⟩
              go_simp
              with_reducible rfl
            rotate_left
            · simp only [Act.put, List.setIfInBounds_toArray, List.set_cons_zero, List.set_cons_succ, i64_w, i32_w]
              rfl
            refine one_ (i := 2) (N := some 37) #[true, true, true, false, false] rfl rfl (by kernel_rfl) (by decide) (fun K hK => ?_)
            refine goes_ Try.func10 (by kernel_rfl) rfl #[.agg mm6q2_] (by rfl) rfl rfl (by mm6q8_) ?_
            with_reducible refine (laws_toPaper.calls k a0_0 a0_1 a0_2 a0_3 _ _ l0_4 _ _ l0_5 t211 t212 t213 t214 t215 t218 _ ?side1 ?side2 ?side3 ?side4 A60.out).mono ?_
            (mm6q16_)
            (case side2 => exact HC0_4.out)
            (mm6q17_)
            (case side4 => exact HC0_5.out)
            rintro e w_ ⟨v216, v219, rfl, ho0, ho1, hb⟩
            refine ⟨_, rfl, ?_⟩
            have n0_ := Aside0.mk (Kd.R_elder' (by (mm6q1_); exact HO173.out) (Kd.R_base ho0) hb)
            have n1_ := Aside0.mk (Kd.R_elder' (by (mm6q1_); exact HO176.out) (Kd.R_base ho1) hb)
            have n2_ := Aside0.mk (Kd.R_elder' (by (mm6q1_); exact HO183.out) (Kd.R_base ho0) hb)
            have n3_ := Aside0.mk (Kd.R_elder' (by (mm6q1_); exact HO186.out) (Kd.R_base ho1) hb)
            have n4_ := Aside0.mk (Kd.R_elder' (by (mm6q1_); exact HO194.out) (Kd.R_base ho0) hb)
            have n5_ := Aside0.mk (Kd.R_elder' (by (mm6q1_); exact HO197.out) (Kd.R_base ho1) hb)
            have n6_ := Aside0.mk (Kd.R_elder' (by (mm6q1_); exact HO205.out) (Kd.R_base ho0) hb)
            have n7_ := Aside0.mk (Kd.R_elder' (by (mm6q1_); exact HO208.out) (Kd.R_base ho1) hb)
            have n8_ := Aside0.mk (Kd.R_lower (Kd.R_new' (Kd.R_new' (Kd.R_new' (Kd.R_new' ho0 (Kd.R_lt (by (mm6q1_); exact HO173.out))) (Kd.R_lt (by (mm6q1_); exact HO183.out))) (Kd.R_lt (by (mm6q1_); exact HO194.out))) (Kd.R_lt (by (mm6q1_); exact HO205.out))) (below_size (by repeat (mm6q7_))))
            have n9_ := Aside0.mk (Kd.R_lower (Kd.R_new' (Kd.R_new' (Kd.R_new' (Kd.R_new' ho1 (Kd.R_lt (by (mm6q1_); exact HO176.out))) (Kd.R_lt (by (mm6q1_); exact HO186.out))) (Kd.R_lt (by (mm6q1_); exact HO197.out))) (Kd.R_lt (by (mm6q1_); exact HO208.out))) (below_size (by repeat (mm6q7_))))
            have n10_ := Aside0.mk (blk_below (g := gb163) (o := .cells mm6q2_ 25 (0, 0)) (by (mm6q0_); exact BK163.out) hb)
            have n11_ := Aside0.mk (blk_below (g := gb164) (o := .cells mm6q4_ 25 (0, 0)) (by (mm6q0_); exact BK164.out) hb)
            have n12_ := Aside0.mk (blk_below (g := gb198) (o := .cells mm6q18_ 30 (0, 0)) (by (mm6q0_); exact BK198.out) hb)
            have n13_ := Aside0.mk (blk_below (g := gb209) (o := .cells mm6q28_ 30 (0, 0)) (by (mm6q0_); exact BK209.out) hb)
            have n14_ := Aside0.mk (below_step (by repeat (mm6q7_)) hb)
            clear HO173
            clear HO176
            clear HO183
            clear HO186
            clear HO194
            clear HO197
            clear HO205
            clear HO208
            clear BK163
            clear BK164
            clear BK198
            clear BK209
            clear HB
            have HO173 := n0_
            have HO176 := n1_
            have HO183 := n2_
            have HO186 := n3_
            have HO194 := n4_
            have HO197 := n5_
            have HO205 := n6_
            have HO208 := n7_
            have HO217 := n8_
            have HO220 := n9_
            have BK163 := n10_
            have BK164 := n11_
            have BK198 := n12_
            have BK209 := n13_
            have HB := n14_
            clear n0_ n1_ n2_ n3_ n4_ n5_ n6_ n7_ n8_ n9_ n10_ n11_ n12_ n13_ n14_
            (try clear hb)
            (try clear hb2)
            (try clear hk)
            (try clear hi)
            (try clear ho0)
            (try clear ho1)
            obtain ⟨Ao102, co102, eo102⟩ := Kd.R_slice HO217.out
            (first | subst eo102 | (injection eo102 with f1_ f2_ f3_; have f4_ := f1_.symm; have f5_ := f3_.symm; clear f1_ f2_ f3_; subst f4_; subst f5_))
            obtain ⟨Ao103, co103, eo103⟩ := Kd.R_slice HO220.out
            (first | subst eo103 | (injection eo103 with f1_ f2_ f3_; have f4_ := f1_.symm; have f5_ := f3_.symm; clear f1_ f2_ f3_; subst f4_; subst f5_))
            refine hK.out _ _ ⟨(blk_cell BK198.out 0).trans rfl, (blk_cell BK198.out 1).trans rfl, (blk_cell BK198.out 2).trans rfl, (blk_cell BK198.out 3).trans rfl, (blk_cell BK198.out 4).trans rfl, (blk_cell BK198.out 5).trans rfl, (blk_cell BK163.out 0).trans rfl, (blk_cell BK163.out 1).trans rfl, (blk_cell BK163.out 2).trans rfl, (blk_cell BK163.out 3).trans rfl, (blk_cell BK163.out 4).trans rfl, (blk_cell BK163.out 5).trans rfl⟩ (fun hHeld => ?_)
            clear hK K
            refine norm_ (a' := ?_) ?_ ?_
            rotate_left
            · show Act.put _ (some 37) _ = _
              simp only [Act.put, List.setIfInBounds_toArray, List.set_cons_zero, List.set_cons_succ, i64_w, i32_w]
              rfl
            refine one_ (i := 3) (N := some 38) #[true, true, true, true, false] rfl rfl (by kernel_rfl) (by decide) (fun K hK => ?_)
            refine goes_ Try.func12 (by kernel_rfl) rfl #[.agg mm6q18_, .agg #[.int .i64 t211, .string t212, .string t213, .int .i64 t214, .slice Ao102 t215.length co102, .slice Ao103 t218.length co103]] (by rfl) rfl rfl (by mm6q8_) ?_
            with_reducible refine (laws_eqPaper.calls k t188 t189 t190 t191 _ _ t192 _ _ t195 t211 t212 t213 t214 _ _ t215 _ _ t218 true _ ?side1 ?side2 ?side3 ?side4 ?side5 ?side6 ?side7 ?side8 A61.out).mono ?_
            (mm6q90_)
            (mm6q88_)
            (mm6q91_)
            (mm6q89_)
            (mm6q92_)
            (case side6 => exact (Kd.R_reads' HO217.out).2.1)
            (mm6q93_)
            (case side8 => exact (Kd.R_reads' HO220.out).2.1)
            rintro e w104 ⟨rfl, hb⟩
            refine ⟨_, rfl, ?_⟩
            have n0_ := Aside0.mk (Kd.R_below (by (mm6q1_); exact HO173.out) hb)
            have n1_ := Aside0.mk (Kd.R_below (by (mm6q1_); exact HO176.out) hb)
            have n2_ := Aside0.mk (Kd.R_below (by (mm6q1_); exact HO183.out) hb)
            have n3_ := Aside0.mk (Kd.R_below (by (mm6q1_); exact HO186.out) hb)
            have n4_ := Aside0.mk (Kd.R_below (by (mm6q1_); exact HO194.out) hb)
            have n5_ := Aside0.mk (Kd.R_below (by (mm6q1_); exact HO197.out) hb)
            have n6_ := Aside0.mk (Kd.R_below (by (mm6q1_); exact HO205.out) hb)
            have n7_ := Aside0.mk (Kd.R_below (by (mm6q1_); exact HO208.out) hb)
            have n8_ := Aside0.mk (Kd.R_below (by (mm6q1_); exact HO217.out) hb)
            have n9_ := Aside0.mk (Kd.R_below (by (mm6q1_); exact HO220.out) hb)
            have n10_ := Aside0.mk (blk_below (g := gb163) (o := .cells mm6q2_ 25 (0, 0)) (by (mm6q0_); exact BK163.out) hb)
            have n11_ := Aside0.mk (blk_below (g := gb164) (o := .cells mm6q4_ 25 (0, 0)) (by (mm6q0_); exact BK164.out) hb)
            have n12_ := Aside0.mk (blk_below (g := gb198) (o := .cells mm6q18_ 30 (0, 0)) (by (mm6q0_); exact BK198.out) hb)
            have n13_ := Aside0.mk (blk_below (g := gb209) (o := .cells mm6q28_ 30 (0, 0)) (by (mm6q0_); exact BK209.out) hb)
            have n14_ := Aside0.mk (below_step (by repeat (mm6q7_)) hb)
            clear HO173
            clear HO176
            clear HO183
            clear HO186
            clear HO194
            clear HO197
            clear HO205
            clear HO208
            clear HO217
            clear HO220
            clear BK163
            clear BK164
            clear BK198
            clear BK209
            clear HB
            have HO173 := n0_
            have HO176 := n1_
            have HO183 := n2_
            have HO186 := n3_
            have HO194 := n4_
            have HO197 := n5_
            have HO205 := n6_
            have HO208 := n7_
            have HO217 := n8_
            have HO220 := n9_
            have BK163 := n10_
            have BK164 := n11_
            have BK198 := n12_
            have BK209 := n13_
            have HB := n14_
            clear n0_ n1_ n2_ n3_ n4_ n5_ n6_ n7_ n8_ n9_ n10_ n11_ n12_ n13_ n14_
            (try clear hb)
            (try clear hb2)
            (try clear hk)
            (try clear hi)
            refine hK.out _ _ ⟨(blk_cell BK198.out 0).trans rfl, (blk_cell BK198.out 1).trans rfl, (blk_cell BK198.out 2).trans rfl, (blk_cell BK198.out 3).trans rfl, (blk_cell BK198.out 4).trans rfl, (blk_cell BK198.out 5).trans rfl, (blk_cell BK163.out 0).trans rfl, (blk_cell BK163.out 1).trans rfl, (blk_cell BK163.out 2).trans rfl, (blk_cell BK163.out 3).trans rfl, (blk_cell BK163.out 4).trans rfl, (blk_cell BK163.out 5).trans rfl⟩ (fun hHeld => ?_)
            clear hK K
            refine norm_ (a' := ?_) ?_ ?_
            rotate_left
            · show Act.put _ (some 38) _ = _
              simp only [Act.put, List.setIfInBounds_toArray, List.set_cons_zero, List.set_cons_succ, i64_w, i32_w]
              rfl
            refine pure_ (i := 4) (N := some 39) (v := ?_) (a' := ?_) #[true, true, true, true, true] rfl rfl (by kernel_rfl) (fun _ _ _ h => h) (Or.inl ⟨by rfl, ?_⟩) ?_ ?_
            rotate_left
            · intro w'
              go_simp
              with_reducible rfl
            rotate_left
            · simp only [Act.put, List.setIfInBounds_toArray, List.set_cons_zero, List.set_cons_succ, i64_w, i32_w]
              rfl
            refine done_ (by kernel_rfl) ?_
            try go_wp2
            have n0_ := Aside0.mk (Kd.R_drew HO173.out)
            have n1_ := Aside0.mk (Kd.R_drew HO176.out)
            have n2_ := Aside0.mk (Kd.R_drew HO183.out)
            have n3_ := Aside0.mk (Kd.R_drew HO186.out)
            have n4_ := Aside0.mk (Kd.R_drew HO194.out)
            have n5_ := Aside0.mk (Kd.R_drew HO197.out)
            have n6_ := Aside0.mk (Kd.R_drew HO205.out)
            have n7_ := Aside0.mk (Kd.R_drew HO208.out)
            have n8_ := Aside0.mk (Kd.R_drew HO217.out)
            have n9_ := Aside0.mk (Kd.R_drew HO220.out)
            have n10_ := Aside0.mk (blk_drew BK163.out)
            have n11_ := Aside0.mk (blk_drew BK164.out)
            have n12_ := Aside0.mk (blk_drew BK198.out)
            have n13_ := Aside0.mk (blk_drew BK209.out)
            have n14_ := Aside0.mk (below_drew1 HB.out)
            clear HO173
            clear HO176
            clear HO183
            clear HO186
            clear HO194
            clear HO197
            clear HO205
            clear HO208
            clear HO217
            clear HO220
            clear BK163
            clear BK164
            clear BK198
            clear BK209
            clear HB
            have HO173 := n0_
            have HO176 := n1_
            have HO183 := n2_
            have HO186 := n3_
            have HO194 := n4_
            have HO197 := n5_
            have HO205 := n6_
            have HO208 := n7_
            have HO217 := n8_
            have HO220 := n9_
            have BK163 := n10_
            have BK164 := n11_
            have BK198 := n12_
            have BK209 := n13_
            have HB := n14_
            clear n0_ n1_ n2_ n3_ n4_ n5_ n6_ n7_ n8_ n9_ n10_ n11_ n12_ n13_ n14_
            refine start_ (n := 5) (S := fun w' => w'.cell? ⟨gb209, 0, none⟩ = some (.int .i64 t199) ∧ w'.cell? ⟨gb209, 1, none⟩ = some (.string t200) ∧ w'.cell? ⟨gb209, 2, none⟩ = some (.string t201) ∧ w'.cell? ⟨gb209, 3, none⟩ = some (.int .i64 t202) ∧ w'.cell? ⟨gb209, 4, none⟩ = some (.slice Ao96 t203.length co96) ∧ w'.cell? ⟨gb209, 5, none⟩ = some (.slice Ao97 t206.length co97) ∧ w'.cell? ⟨gb164, 0, none⟩ = some (.int .i64 a1_0) ∧ w'.cell? ⟨gb164, 1, none⟩ = some (.string a1_1) ∧ w'.cell? ⟨gb164, 2, none⟩ = some (.string a1_2) ∧ w'.cell? ⟨gb164, 3, none⟩ = some (.int .i64 a1_3) ∧ w'.cell? ⟨gb164, 4, none⟩ = some (.slice A1_4 l1_4.length c1_4) ∧ w'.cell? ⟨gb164, 5, none⟩ = some (.slice A1_5 l1_5.length c1_5)) (ds := []) #[false, false, false, false, false] (by kernel_rfl) rfl rfl ⟨(blk_cell BK209.out 0).trans rfl, (blk_cell BK209.out 1).trans rfl, (blk_cell BK209.out 2).trans rfl, (blk_cell BK209.out 3).trans rfl, (blk_cell BK209.out 4).trans rfl, (blk_cell BK209.out 5).trans rfl, (blk_cell BK164.out 0).trans rfl, (blk_cell BK164.out 1).trans rfl, (blk_cell BK164.out 2).trans rfl, (blk_cell BK164.out 3).trans rfl, (blk_cell BK164.out 4).trans rfl, (blk_cell BK164.out 5).trans rfl⟩ (fun hHeld => ?_)
            generalize w104.drew = w_ at HO173 HO176 HO183 HO186 HO194 HO197 HO205 HO208 HO217 HO220 BK163 BK164 BK198 BK209 HB hHeld ⊢
            refine take_ (i := 0) (N := some 40) (v := ?_) (a' := ?_) #[true, false, false, false, false] rfl rfl (by kernel_rfl) (fun _ _ _ h => h) (Or.inl ⟨by rfl, ?_⟩) hHeld ?_ ?_
            rotate_left
            · rintro w' ⟨s0, s1, s2, s3, s4, s5, s6, s7, s8, s9, s10, s11⟩
              go_simp
              with_reducible rfl
            rotate_left
            · simp only [Act.put, List.setIfInBounds_toArray, List.set_cons_zero, List.set_cons_succ, i64_w, i32_w]
              rfl
            refine take_ (i := 1) (N := some 41) (v := ?_) (a' := ?_) #[true, true, false, false, false] rfl rfl (by kernel_rfl) (fun _ _ _ h => h) (Or.inl ⟨by rfl, ?_⟩) hHeld ?_ ?_
            rotate_left
            · rintro w' ⟨s0, s1, s2, s3, s4, s5, s6, s7, s8, s9, s10, s11⟩
              go_simp
              with_reducible rfl
            rotate_left
            · simp only [Act.put, List.setIfInBounds_toArray, List.set_cons_zero, List.set_cons_succ, i64_w, i32_w]
              rfl
            refine one_ (i := 2) (N := some 42) #[true, true, true, false, false] rfl rfl (by kernel_rfl) (by decide) (fun K hK => ?_)
            refine goes_ Try.func10 (by kernel_rfl) rfl #[.agg mm6q4_] (by rfl) rfl rfl (by mm6q8_) ?_
            with_reducible refine (laws_toPaper.calls k a1_0 a1_1 a1_2 a1_3 _ _ l1_4 _ _ l1_5 t222 t223 t224 t225 t226 t229 _ ?side1 ?side2 ?side3 ?side4 A63.out).mono ?_
            (mm6q19_)
            (case side2 => exact HC1_4.out)
            (mm6q20_)
            (case side4 => exact HC1_5.out)
            rintro e w_ ⟨v227, v230, rfl, ho0, ho1, hb⟩
            refine ⟨_, rfl, ?_⟩
            have n0_ := Aside0.mk (Kd.R_elder' (by (mm6q1_); exact HO173.out) (Kd.R_base ho0) hb)
            have n1_ := Aside0.mk (Kd.R_elder' (by (mm6q1_); exact HO176.out) (Kd.R_base ho1) hb)
            have n2_ := Aside0.mk (Kd.R_elder' (by (mm6q1_); exact HO183.out) (Kd.R_base ho0) hb)
            have n3_ := Aside0.mk (Kd.R_elder' (by (mm6q1_); exact HO186.out) (Kd.R_base ho1) hb)
            have n4_ := Aside0.mk (Kd.R_elder' (by (mm6q1_); exact HO194.out) (Kd.R_base ho0) hb)
            have n5_ := Aside0.mk (Kd.R_elder' (by (mm6q1_); exact HO197.out) (Kd.R_base ho1) hb)
            have n6_ := Aside0.mk (Kd.R_elder' (by (mm6q1_); exact HO205.out) (Kd.R_base ho0) hb)
            have n7_ := Aside0.mk (Kd.R_elder' (by (mm6q1_); exact HO208.out) (Kd.R_base ho1) hb)
            have n8_ := Aside0.mk (Kd.R_elder' (by (mm6q1_); exact HO217.out) (Kd.R_base ho0) hb)
            have n9_ := Aside0.mk (Kd.R_elder' (by (mm6q1_); exact HO220.out) (Kd.R_base ho1) hb)
            have n10_ := Aside0.mk (Kd.R_lower (Kd.R_new' (Kd.R_new' (Kd.R_new' (Kd.R_new' (Kd.R_new' ho0 (Kd.R_lt (by (mm6q1_); exact HO173.out))) (Kd.R_lt (by (mm6q1_); exact HO183.out))) (Kd.R_lt (by (mm6q1_); exact HO194.out))) (Kd.R_lt (by (mm6q1_); exact HO205.out))) (Kd.R_lt (by (mm6q1_); exact HO217.out))) (below_size (by repeat (mm6q7_))))
            have n11_ := Aside0.mk (Kd.R_lower (Kd.R_new' (Kd.R_new' (Kd.R_new' (Kd.R_new' (Kd.R_new' ho1 (Kd.R_lt (by (mm6q1_); exact HO176.out))) (Kd.R_lt (by (mm6q1_); exact HO186.out))) (Kd.R_lt (by (mm6q1_); exact HO197.out))) (Kd.R_lt (by (mm6q1_); exact HO208.out))) (Kd.R_lt (by (mm6q1_); exact HO220.out))) (below_size (by repeat (mm6q7_))))
            have n12_ := Aside0.mk (blk_below (g := gb163) (o := .cells mm6q2_ 25 (0, 0)) (by (mm6q0_); exact BK163.out) hb)
            have n13_ := Aside0.mk (blk_below (g := gb164) (o := .cells mm6q4_ 25 (0, 0)) (by (mm6q0_); exact BK164.out) hb)
            have n14_ := Aside0.mk (blk_below (g := gb198) (o := .cells mm6q18_ 30 (0, 0)) (by (mm6q0_); exact BK198.out) hb)
            have n15_ := Aside0.mk (blk_below (g := gb209) (o := .cells mm6q28_ 30 (0, 0)) (by (mm6q0_); exact BK209.out) hb)
            have n16_ := Aside0.mk (below_step (by repeat (mm6q7_)) hb)
            clear HO173
            clear HO176
            clear HO183
            clear HO186
            clear HO194
            clear HO197
            clear HO205
            clear HO208
            clear HO217
            clear HO220
            clear BK163
            clear BK164
            clear BK198
            clear BK209
            clear HB
            have HO173 := n0_
            have HO176 := n1_
            have HO183 := n2_
            have HO186 := n3_
            have HO194 := n4_
            have HO197 := n5_
            have HO205 := n6_
            have HO208 := n7_
            have HO217 := n8_
            have HO220 := n9_
            have HO228 := n10_
            have HO231 := n11_
            have BK163 := n12_
            have BK164 := n13_
            have BK198 := n14_
            have BK209 := n15_
            have HB := n16_
            clear n0_ n1_ n2_ n3_ n4_ n5_ n6_ n7_ n8_ n9_ n10_ n11_ n12_ n13_ n14_ n15_ n16_
            (try clear hb)
            (try clear hb2)
            (try clear hk)
            (try clear hi)
            (try clear ho0)
            (try clear ho1)
            obtain ⟨Ao107, co107, eo107⟩ := Kd.R_slice HO228.out
            (first | subst eo107 | (injection eo107 with f1_ f2_ f3_; have f4_ := f1_.symm; have f5_ := f3_.symm; clear f1_ f2_ f3_; subst f4_; subst f5_))
            obtain ⟨Ao108, co108, eo108⟩ := Kd.R_slice HO231.out
            (first | subst eo108 | (injection eo108 with f1_ f2_ f3_; have f4_ := f1_.symm; have f5_ := f3_.symm; clear f1_ f2_ f3_; subst f4_; subst f5_))
            refine hK.out _ _ ⟨(blk_cell BK209.out 0).trans rfl, (blk_cell BK209.out 1).trans rfl, (blk_cell BK209.out 2).trans rfl, (blk_cell BK209.out 3).trans rfl, (blk_cell BK209.out 4).trans rfl, (blk_cell BK209.out 5).trans rfl, (blk_cell BK164.out 0).trans rfl, (blk_cell BK164.out 1).trans rfl, (blk_cell BK164.out 2).trans rfl, (blk_cell BK164.out 3).trans rfl, (blk_cell BK164.out 4).trans rfl, (blk_cell BK164.out 5).trans rfl⟩ (fun hHeld => ?_)
            clear hK K
            refine norm_ (a' := ?_) ?_ ?_
            rotate_left
            · show Act.put _ (some 42) _ = _
              simp only [Act.put, List.setIfInBounds_toArray, List.set_cons_zero, List.set_cons_succ, i64_w, i32_w]
              rfl
            refine one_ (i := 3) (N := some 43) #[true, true, true, true, false] rfl rfl (by kernel_rfl) (by decide) (fun K hK => ?_)
            refine goes_ Try.func12 (by kernel_rfl) rfl #[.agg mm6q28_, .agg #[.int .i64 t222, .string t223, .string t224, .int .i64 t225, .slice Ao107 t226.length co107, .slice Ao108 t229.length co108]] (by rfl) rfl rfl (by mm6q8_) ?_
            with_reducible refine (laws_eqPaper.calls k t199 t200 t201 t202 _ _ t203 _ _ t206 t222 t223 t224 t225 _ _ t226 _ _ t229 true _ ?side1 ?side2 ?side3 ?side4 ?side5 ?side6 ?side7 ?side8 A64.out).mono ?_
            (mm6q104_)
            (case side2 => exact (Kd.R_reads' HO205.out).2.1)
            (mm6q105_)
            (case side4 => exact (Kd.R_reads' HO208.out).2.1)
            (mm6q106_)
            (case side6 => exact (Kd.R_reads' HO228.out).2.1)
            (mm6q107_)
            (case side8 => exact (Kd.R_reads' HO231.out).2.1)
            rintro e w_ ⟨rfl, hb⟩
            refine ⟨_, rfl, ?_⟩
            have n0_ := Aside0.mk (Kd.R_below (by (mm6q1_); exact HO173.out) hb)
            have n1_ := Aside0.mk (Kd.R_below (by (mm6q1_); exact HO176.out) hb)
            have n2_ := Aside0.mk (Kd.R_below (by (mm6q1_); exact HO183.out) hb)
            have n3_ := Aside0.mk (Kd.R_below (by (mm6q1_); exact HO186.out) hb)
            have n4_ := Aside0.mk (Kd.R_below (by (mm6q1_); exact HO194.out) hb)
            have n5_ := Aside0.mk (Kd.R_below (by (mm6q1_); exact HO197.out) hb)
            have n6_ := Aside0.mk (Kd.R_below (by (mm6q1_); exact HO205.out) hb)
            have n7_ := Aside0.mk (Kd.R_below (by (mm6q1_); exact HO208.out) hb)
            have n8_ := Aside0.mk (Kd.R_below (by (mm6q1_); exact HO217.out) hb)
            have n9_ := Aside0.mk (Kd.R_below (by (mm6q1_); exact HO220.out) hb)
            have n10_ := Aside0.mk (Kd.R_below (by (mm6q1_); exact HO228.out) hb)
            have n11_ := Aside0.mk (Kd.R_below (by (mm6q1_); exact HO231.out) hb)
            have n12_ := Aside0.mk (blk_below (g := gb163) (o := .cells mm6q2_ 25 (0, 0)) (by (mm6q0_); exact BK163.out) hb)
            have n13_ := Aside0.mk (blk_below (g := gb164) (o := .cells mm6q4_ 25 (0, 0)) (by (mm6q0_); exact BK164.out) hb)
            have n14_ := Aside0.mk (blk_below (g := gb198) (o := .cells mm6q18_ 30 (0, 0)) (by (mm6q0_); exact BK198.out) hb)
            have n15_ := Aside0.mk (blk_below (g := gb209) (o := .cells mm6q28_ 30 (0, 0)) (by (mm6q0_); exact BK209.out) hb)
            have n16_ := Aside0.mk (below_step (by repeat (mm6q7_)) hb)
            clear HO173
            clear HO176
            clear HO183
            clear HO186
            clear HO194
            clear HO197
            clear HO205
            clear HO208
            clear HO217
            clear HO220
            clear HO228
            clear HO231
            clear BK163
            clear BK164
            clear BK198
            clear BK209
            clear HB
            have HO173 := n0_
            have HO176 := n1_
            have HO183 := n2_
            have HO186 := n3_
            have HO194 := n4_
            have HO197 := n5_
            have HO205 := n6_
            have HO208 := n7_
            have HO217 := n8_
            have HO220 := n9_
            have HO228 := n10_
            have HO231 := n11_
            have BK163 := n12_
            have BK164 := n13_
            have BK198 := n14_
            have BK209 := n15_
            have HB := n16_
            clear n0_ n1_ n2_ n3_ n4_ n5_ n6_ n7_ n8_ n9_ n10_ n11_ n12_ n13_ n14_ n15_ n16_
            (try clear hb)
            (try clear hb2)
            (try clear hk)
            (try clear hi)
            refine hK.out _ _ ⟨(blk_cell BK209.out 0).trans rfl, (blk_cell BK209.out 1).trans rfl, (blk_cell BK209.out 2).trans rfl, (blk_cell BK209.out 3).trans rfl, (blk_cell BK209.out 4).trans rfl, (blk_cell BK209.out 5).trans rfl, (blk_cell BK164.out 0).trans rfl, (blk_cell BK164.out 1).trans rfl, (blk_cell BK164.out 2).trans rfl, (blk_cell BK164.out 3).trans rfl, (blk_cell BK164.out 4).trans rfl, (blk_cell BK164.out 5).trans rfl⟩ (fun hHeld => ?_)
            clear hK K
            refine norm_ (a' := ?_) ?_ ?_
            rotate_left
            · show Act.put _ (some 43) _ = _
              simp only [Act.put, List.setIfInBounds_toArray, List.set_cons_zero, List.set_cons_succ, i64_w, i32_w]
              rfl
            refine pure_ (i := 4) (N := some 44) (v := ?_) (a' := ?_) #[true, true, true, true, true] rfl rfl (by kernel_rfl) (fun _ _ _ h => h) (Or.inl ⟨by rfl, ?_⟩) ?_ ?_
            rotate_left
            · intro w'
              go_simp
              with_reducible rfl
            rotate_left
            · simp only [Act.put, List.setIfInBounds_toArray, List.set_cons_zero, List.set_cons_succ, i64_w, i32_w]
              rfl
            refine done_ (by kernel_rfl) ?_
            try go_wp2
            go_ret
            exact ⟨by first | rfl | (simp [errW_none, errW_some] <;> rfl) | (simp [*, errW_none, errW_some] <;> rfl), by repeat (mm6q7_)⟩
          · replace c65 := Bool.eq_false_iff.mpr c65
            subst c65
            have H1 : (some false) = some r := by rw [if_neg (show ¬ (false = true) by decide)] at H; exact H
            clear H
            have H := H1
            clear H1
            obtain rfl := Option.some.inj H
            go_enter Try.func3, Try.ntmps3
            try go_wp2_with (first | (mm6q9_) | ((with_reducible refine gate_dst (N := 3) rfl ?_); refine box_event ?hg (N := 3) ?hd (cs := mm6q4_) (t := 25) ?hr ?_; (case hd => rfl); (case hg => rfl); (mm6q31_); intro gb164 hg w111 hbox hb; have n0_ := Aside0.mk (blk_below (g := gb163) (o := .cells mm6q2_ 25 (0, 0)) (by (mm6q0_); exact BK163.out) hb); have n1_ := Aside0.mk (below_step (by mm6q10_) hb); have n2_ := Aside0.mk (hbox); have n3_ := Aside0.mk ((by rw [hg]; exact (below_size (by mm6q10_)) : w.heap.size ≤ gb164)); have n4_ := Aside0.mk ((by rw [hg]; exact (below_size (by mm6q10_)) : w.heap.size ≤ gb164)); have n5_ := Aside0.mk ((by rw [hg]; exact Nat.ne_of_lt (blk_lt (g := gb163) (o := .cells mm6q2_ 25 (0, 0)) (by (mm6q0_); exact BK163.out)) : gb163 ≠ gb164)); have n6_ := Aside0.mk ((by rw [hg]; exact Nat.ne_of_gt (blk_lt (g := gb163) (o := .cells mm6q2_ 25 (0, 0)) (by (mm6q0_); exact BK163.out)) : gb164 ≠ gb163)); clear BK163; clear HB; have BK163 := n0_; have HB := n1_; have BK164 := n2_; have GW164 := n3_; have GE164 := n4_; have NB163_164 := n5_; have NB164_163 := n6_; clear n0_ n1_ n2_ n3_ n4_ n5_ n6_; clear hb hbox hg; have hnb112 := NB163_164.out; have hnc112 := NB164_163.out; have hcz113_0 : w111.cell? ⟨gb163, 0, none⟩ = some (.int .i64 a0_0) := (blk_cell BK163.out 0).trans rfl; have hcz113_1 : w111.cell? ⟨gb163, 1, none⟩ = some (.string a0_1) := (blk_cell BK163.out 1).trans rfl; have hcz113_2 : w111.cell? ⟨gb163, 2, none⟩ = some (.string a0_2) := (blk_cell BK163.out 2).trans rfl; have hcz113_3 : w111.cell? ⟨gb163, 3, none⟩ = some (.int .i64 a0_3) := (blk_cell BK163.out 3).trans rfl; have hcz113_4 : w111.cell? ⟨gb163, 4, none⟩ = some (.slice A0_4 l0_4.length c0_4) := (blk_cell BK163.out 4).trans rfl; have hcz113_5 : w111.cell? ⟨gb163, 5, none⟩ = some (.slice A0_5 l0_5.length c0_5) := (blk_cell BK163.out 5).trans rfl; have hfz113_0 := blk_frozen BK163.out 0; have hfz113_1 := blk_frozen BK163.out 1; have hfz113_2 := blk_frozen BK163.out 2; have hfz113_3 := blk_frozen BK163.out 3; have hfz113_4 := blk_frozen BK163.out 4; have hfz113_5 := blk_frozen BK163.out 5) | ((with_reducible refine gate_callee (f := 8) rfl ?_); refine goesL_ (some 12) rfl rfl Try.func8 (by kernel_rfl) rfl #[.agg mm6q2_, .int .i64 1048576] rfl (by mm6q8_) ?_; (mm6q29_); (mm6q16_); (case side2 => exact HC0_4.out); (mm6q17_); (case side4 => exact HC0_5.out); rintro e w114 ⟨rfl, hb⟩; refine ⟨_, rfl, ?_⟩; have n0_ := Aside0.mk (blk_below (g := gb163) (o := .cells mm6q2_ 25 (0, 0)) (by (mm6q0_); exact BK163.out) hb); have n1_ := Aside0.mk (blk_below (g := gb164) (o := .cells mm6q4_ 25 (0, 0)) (by (mm6q0_); exact BK164.out) hb); have n2_ := Aside0.mk (below_step (by mm6q3_) hb); clear BK163; clear BK164; clear HB; have BK163 := n0_; have BK164 := n1_; have HB := n2_; clear n0_ n1_ n2_; (try clear hb); (try clear hb2); (try clear hk); (try clear hi); have hcz115_0 : w114.cell? ⟨gb164, 0, none⟩ = some (.int .i64 a1_0) := (blk_cell BK164.out 0).trans rfl; have hcz115_1 : w114.cell? ⟨gb164, 1, none⟩ = some (.string a1_1) := (blk_cell BK164.out 1).trans rfl; have hcz115_2 : w114.cell? ⟨gb164, 2, none⟩ = some (.string a1_2) := (blk_cell BK164.out 2).trans rfl; have hcz115_3 : w114.cell? ⟨gb164, 3, none⟩ = some (.int .i64 a1_3) := (blk_cell BK164.out 3).trans rfl; have hcz115_4 : w114.cell? ⟨gb164, 4, none⟩ = some (.slice A1_4 l1_4.length c1_4) := (blk_cell BK164.out 4).trans rfl; have hcz115_5 : w114.cell? ⟨gb164, 5, none⟩ = some (.slice A1_5 l1_5.length c1_5) := (blk_cell BK164.out 5).trans rfl; have hfz115_0 := blk_frozen BK164.out 0; have hfz115_1 := blk_frozen BK164.out 1; have hfz115_2 := blk_frozen BK164.out 2; have hfz115_3 := blk_frozen BK164.out 3; have hfz115_4 := blk_frozen BK164.out 4; have hfz115_5 := blk_frozen BK164.out 5) | ((with_reducible refine gate_callee (f := 8) rfl ?_); refine goesL_ (some 17) rfl rfl Try.func8 (by kernel_rfl) rfl #[.agg mm6q4_, .int .i64 t165] rfl (by mm6q8_) ?_; (mm6q73_); (mm6q19_); (case side2 => exact HC1_4.out); (mm6q20_); (case side4 => exact HC1_5.out); rintro e w116 ⟨rfl, hb⟩; refine ⟨_, rfl, ?_⟩; have n0_ := Aside0.mk (blk_below (g := gb163) (o := .cells mm6q2_ 25 (0, 0)) (by (mm6q0_); exact BK163.out) hb); have n1_ := Aside0.mk (blk_below (g := gb164) (o := .cells mm6q4_ 25 (0, 0)) (by (mm6q0_); exact BK164.out) hb); have n2_ := Aside0.mk (below_step (by mm6q3_) hb); clear BK163; clear BK164; clear HB; have BK163 := n0_; have BK164 := n1_; have HB := n2_; clear n0_ n1_ n2_; (try clear hb); (try clear hb2); (try clear hk); (try clear hi)))
            have n0_ := Aside0.mk (blk_drew BK163.out)
            have n1_ := Aside0.mk (blk_drew BK164.out)
            have n2_ := Aside0.mk (below_drew1 HB.out)
            clear BK163
            clear BK164
            clear HB
            have BK163 := n0_
            have BK164 := n1_
            have HB := n2_
            clear n0_ n1_ n2_
            refine start_ (n := 6) (S := fun w' => w'.cell? ⟨gb163, 0, none⟩ = some (.int .i64 a0_0) ∧ w'.cell? ⟨gb163, 1, none⟩ = some (.string a0_1) ∧ w'.cell? ⟨gb163, 2, none⟩ = some (.string a0_2) ∧ w'.cell? ⟨gb163, 3, none⟩ = some (.int .i64 a0_3) ∧ w'.cell? ⟨gb163, 4, none⟩ = some (.slice A0_4 l0_4.length c0_4) ∧ w'.cell? ⟨gb163, 5, none⟩ = some (.slice A0_5 l0_5.length c0_5) ∧ w'.cell? ⟨gb164, 0, none⟩ = some (.int .i64 a1_0) ∧ w'.cell? ⟨gb164, 1, none⟩ = some (.string a1_1) ∧ w'.cell? ⟨gb164, 2, none⟩ = some (.string a1_2) ∧ w'.cell? ⟨gb164, 3, none⟩ = some (.int .i64 a1_3) ∧ w'.cell? ⟨gb164, 4, none⟩ = some (.slice A1_4 l1_4.length c1_4) ∧ w'.cell? ⟨gb164, 5, none⟩ = some (.slice A1_5 l1_5.length c1_5)) (ds := []) #[false, false, false, false, false, false] (by kernel_rfl) rfl rfl ⟨(blk_cell BK163.out 0).trans rfl, (blk_cell BK163.out 1).trans rfl, (blk_cell BK163.out 2).trans rfl, (blk_cell BK163.out 3).trans rfl, (blk_cell BK163.out 4).trans rfl, (blk_cell BK163.out 5).trans rfl, (blk_cell BK164.out 0).trans rfl, (blk_cell BK164.out 1).trans rfl, (blk_cell BK164.out 2).trans rfl, (blk_cell BK164.out 3).trans rfl, (blk_cell BK164.out 4).trans rfl, (blk_cell BK164.out 5).trans rfl⟩ (fun hHeld => ?_)
            generalize w116.drew = w_ at BK163 BK164 HB hHeld ⊢
            refine take_ (i := 0) (N := some 20) (v := ?_) (a' := ?_) #[true, false, false, false, false, false] rfl rfl (by kernel_rfl) (fun _ _ _ h => h) (Or.inl ⟨by rfl, ?_⟩) hHeld ?_ ?_
            rotate_left
            · rintro w' ⟨s0, s1, s2, s3, s4, s5, s6, s7, s8, s9, s10, s11⟩
              go_simp
              with_reducible rfl
            rotate_left
            · simp only [Act.put, List.setIfInBounds_toArray, List.set_cons_zero, List.set_cons_succ, i64_w, i32_w]
              rfl
            refine take_ (i := 2) (N := some 22) (v := ?_) (a' := ?_) #[true, false, true, false, false, false] rfl rfl (by kernel_rfl) (fun _ _ _ h => h) (Or.inl ⟨by rfl, ?_⟩) hHeld ?_ ?_
            rotate_left
            · rintro w' ⟨s0, s1, s2, s3, s4, s5, s6, s7, s8, s9, s10, s11⟩
              go_simp
              with_reducible rfl
            rotate_left
            · simp only [Act.put, List.setIfInBounds_toArray, List.set_cons_zero, List.set_cons_succ, i64_w, i32_w]
              rfl
            refine one_ (i := 1) (N := some 21) #[true, true, true, false, false, false] rfl rfl (by kernel_rfl) (by decide) (fun K hK => ?_)
            refine goes_ Try.func10 (by kernel_rfl) rfl #[.agg mm6q2_] (by rfl) rfl rfl (by mm6q8_) ?_
            with_reducible refine (laws_toPaper.calls k a0_0 a0_1 a0_2 a0_3 _ _ l0_4 _ _ l0_5 t167 t168 t169 t170 t171 t174 _ ?side1 ?side2 ?side3 ?side4 A19.out).mono ?_
            (mm6q16_)
            (case side2 => exact HC0_4.out)
            (mm6q17_)
            (case side4 => exact HC0_5.out)
            rintro e w_ ⟨v172, v175, rfl, ho0, ho1, hb⟩
            refine ⟨_, rfl, ?_⟩
            have n0_ := Aside0.mk (Kd.R_lower ho0 (below_size (by mm6q3_)))
            have n1_ := Aside0.mk (Kd.R_lower ho1 (below_size (by mm6q3_)))
            have n2_ := Aside0.mk (blk_below (g := gb163) (o := .cells mm6q2_ 25 (0, 0)) (by (mm6q0_); exact BK163.out) hb)
            have n3_ := Aside0.mk (blk_below (g := gb164) (o := .cells mm6q4_ 25 (0, 0)) (by (mm6q0_); exact BK164.out) hb)
            have n4_ := Aside0.mk (below_step (by mm6q3_) hb)
            clear BK163
            clear BK164
            clear HB
            have HO173 := n0_
            have HO176 := n1_
            have BK163 := n2_
            have BK164 := n3_
            have HB := n4_
            clear n0_ n1_ n2_ n3_ n4_
            (try clear hb)
            (try clear hb2)
            (try clear hk)
            (try clear hi)
            (try clear ho0)
            (try clear ho1)
            refine hK.out _ _ ⟨(blk_cell BK163.out 0).trans rfl, (blk_cell BK163.out 1).trans rfl, (blk_cell BK163.out 2).trans rfl, (blk_cell BK163.out 3).trans rfl, (blk_cell BK163.out 4).trans rfl, (blk_cell BK163.out 5).trans rfl, (blk_cell BK164.out 0).trans rfl, (blk_cell BK164.out 1).trans rfl, (blk_cell BK164.out 2).trans rfl, (blk_cell BK164.out 3).trans rfl, (blk_cell BK164.out 4).trans rfl, (blk_cell BK164.out 5).trans rfl⟩ (fun hHeld => ?_)
            clear hK K
            refine norm_ (a' := ?_) ?_ ?_
            rotate_left
            · show Act.put _ (some 21) _ = _
              simp only [Act.put, List.setIfInBounds_toArray, List.set_cons_zero, List.set_cons_succ, i64_w, i32_w]
              rfl
            refine one_ (i := 3) (N := some 23) #[true, true, true, true, false, false] rfl rfl (by kernel_rfl) (by decide) (fun K hK => ?_)
            refine goes_ Try.func10 (by kernel_rfl) rfl #[.agg mm6q4_] (by rfl) rfl rfl (by mm6q8_) ?_
            with_reducible refine (laws_toPaper.calls k a1_0 a1_1 a1_2 a1_3 _ _ l1_4 _ _ l1_5 t177 t178 t179 t180 t181 t184 _ ?side1 ?side2 ?side3 ?side4 A20.out).mono ?_
            (mm6q19_)
            (case side2 => exact HC1_4.out)
            (mm6q20_)
            (case side4 => exact HC1_5.out)
            rintro e w_ ⟨v182, v185, rfl, ho0, ho1, hb⟩
            refine ⟨_, rfl, ?_⟩
            have n0_ := Aside0.mk (Kd.R_elder' (by (mm6q1_); exact HO173.out) (Kd.R_base ho0) hb)
            have n1_ := Aside0.mk (Kd.R_elder' (by (mm6q1_); exact HO176.out) (Kd.R_base ho1) hb)
            have n2_ := Aside0.mk (Kd.R_lower (Kd.R_new' ho0 (Kd.R_lt (by (mm6q1_); exact HO173.out))) (below_size (by mm6q3_)))
            have n3_ := Aside0.mk (Kd.R_lower (Kd.R_new' ho1 (Kd.R_lt (by (mm6q1_); exact HO176.out))) (below_size (by mm6q3_)))
            have n4_ := Aside0.mk (blk_below (g := gb163) (o := .cells mm6q2_ 25 (0, 0)) (by (mm6q0_); exact BK163.out) hb)
            have n5_ := Aside0.mk (blk_below (g := gb164) (o := .cells mm6q4_ 25 (0, 0)) (by (mm6q0_); exact BK164.out) hb)
            have n6_ := Aside0.mk (below_step (by mm6q3_) hb)
            clear HO173
            clear HO176
            clear BK163
            clear BK164
            clear HB
            have HO173 := n0_
            have HO176 := n1_
            have HO183 := n2_
            have HO186 := n3_
            have BK163 := n4_
            have BK164 := n5_
            have HB := n6_
            clear n0_ n1_ n2_ n3_ n4_ n5_ n6_
            (try clear hb)
            (try clear hb2)
            (try clear hk)
            (try clear hi)
            (try clear ho0)
            (try clear ho1)
            obtain ⟨Ao120, co120, eo120⟩ := Kd.R_slice HO173.out
            (first | subst eo120 | (injection eo120 with f1_ f2_ f3_; have f4_ := f1_.symm; have f5_ := f3_.symm; clear f1_ f2_ f3_; subst f4_; subst f5_))
            obtain ⟨Ao121, co121, eo121⟩ := Kd.R_slice HO176.out
            (first | subst eo121 | (injection eo121 with f1_ f2_ f3_; have f4_ := f1_.symm; have f5_ := f3_.symm; clear f1_ f2_ f3_; subst f4_; subst f5_))
            obtain ⟨Ao122, co122, eo122⟩ := Kd.R_slice HO183.out
            (first | subst eo122 | (injection eo122 with f1_ f2_ f3_; have f4_ := f1_.symm; have f5_ := f3_.symm; clear f1_ f2_ f3_; subst f4_; subst f5_))
            obtain ⟨Ao123, co123, eo123⟩ := Kd.R_slice HO186.out
            (first | subst eo123 | (injection eo123 with f1_ f2_ f3_; have f4_ := f1_.symm; have f5_ := f3_.symm; clear f1_ f2_ f3_; subst f4_; subst f5_))
            refine hK.out _ _ ⟨(blk_cell BK163.out 0).trans rfl, (blk_cell BK163.out 1).trans rfl, (blk_cell BK163.out 2).trans rfl, (blk_cell BK163.out 3).trans rfl, (blk_cell BK163.out 4).trans rfl, (blk_cell BK163.out 5).trans rfl, (blk_cell BK164.out 0).trans rfl, (blk_cell BK164.out 1).trans rfl, (blk_cell BK164.out 2).trans rfl, (blk_cell BK164.out 3).trans rfl, (blk_cell BK164.out 4).trans rfl, (blk_cell BK164.out 5).trans rfl⟩ (fun hHeld => ?_)
            clear hK K
            refine norm_ (a' := ?_) ?_ ?_
            rotate_left
            · show Act.put _ (some 23) _ = _
              simp only [Act.put, List.setIfInBounds_toArray, List.set_cons_zero, List.set_cons_succ, i64_w, i32_w]
              rfl
            refine one_ (i := 4) (N := some 24) #[true, true, true, true, true, false] rfl rfl (by kernel_rfl) (by decide) (fun K hK => ?_)
            refine goes_ Try.func9 (by kernel_rfl) rfl #[.agg #[.int .i64 t167, .string t168, .string t169, .int .i64 t170, .slice Ao120 t171.length co120, .slice Ao121 t174.length co121], .agg #[.int .i64 t177, .string t178, .string t179, .int .i64 t180, .slice Ao122 t181.length co122, .slice Ao123 t184.length co123]] (by rfl) rfl rfl (by mm6q8_) ?_
            with_reducible refine (spec_PaperSame.calls k t167 t168 t169 t170 _ _ t171 _ _ t174 t177 t178 t179 t180 _ _ t181 _ _ t184 t187 _ ?side1 ?side2 ?side3 ?side4 ?side5 ?side6 ?side7 ?side8 A21.out).mono ?_
            (mm6q80_)
            (mm6q97_)
            (mm6q81_)
            (mm6q98_)
            (mm6q82_)
            (mm6q99_)
            (mm6q83_)
            (mm6q100_)
            rintro e w124 ⟨rfl, hb⟩
            refine ⟨_, rfl, ?_⟩
            have n0_ := Aside0.mk (Kd.R_below (by (mm6q1_); exact HO173.out) hb)
            have n1_ := Aside0.mk (Kd.R_below (by (mm6q1_); exact HO176.out) hb)
            have n2_ := Aside0.mk (Kd.R_below (by (mm6q1_); exact HO183.out) hb)
            have n3_ := Aside0.mk (Kd.R_below (by (mm6q1_); exact HO186.out) hb)
            have n4_ := Aside0.mk (blk_below (g := gb163) (o := .cells mm6q2_ 25 (0, 0)) (by (mm6q0_); exact BK163.out) hb)
            have n5_ := Aside0.mk (blk_below (g := gb164) (o := .cells mm6q4_ 25 (0, 0)) (by (mm6q0_); exact BK164.out) hb)
            have n6_ := Aside0.mk (below_step (by mm6q3_) hb)
            clear HO173
            clear HO176
            clear HO183
            clear HO186
            clear BK163
            clear BK164
            clear HB
            have HO173 := n0_
            have HO176 := n1_
            have HO183 := n2_
            have HO186 := n3_
            have BK163 := n4_
            have BK164 := n5_
            have HB := n6_
            clear n0_ n1_ n2_ n3_ n4_ n5_ n6_
            (try clear hb)
            (try clear hb2)
            (try clear hk)
            (try clear hi)
            refine hK.out _ _ ⟨(blk_cell BK163.out 0).trans rfl, (blk_cell BK163.out 1).trans rfl, (blk_cell BK163.out 2).trans rfl, (blk_cell BK163.out 3).trans rfl, (blk_cell BK163.out 4).trans rfl, (blk_cell BK163.out 5).trans rfl, (blk_cell BK164.out 0).trans rfl, (blk_cell BK164.out 1).trans rfl, (blk_cell BK164.out 2).trans rfl, (blk_cell BK164.out 3).trans rfl, (blk_cell BK164.out 4).trans rfl, (blk_cell BK164.out 5).trans rfl⟩ (fun hHeld => ?_)
            clear hK K
            refine norm_ (a' := ?_) ?_ ?_
            rotate_left
            · show Act.put _ (some 24) _ = _
              simp only [Act.put, List.setIfInBounds_toArray, List.set_cons_zero, List.set_cons_succ, i64_w, i32_w]
              rfl
            refine pure_ (i := 5) (N := some 6) (v := ?_) (a' := ?_) #[true, true, true, true, true, true] rfl rfl (by kernel_rfl) (fun _ _ _ h => h) (Or.inl ⟨by rfl, ?_⟩) ?_ ?_
            rotate_left
            · intro w'
              go_simp
              with_reducible rfl
            rotate_left
            · simp only [Act.put, List.setIfInBounds_toArray, List.set_cons_zero, List.set_cons_succ, i64_w, i32_w]
              rfl
            refine done_ (by kernel_rfl) ?_
            have hcz125_0 : w124.cell? ⟨gb163, 0, none⟩ = some (.int .i64 a0_0) := (blk_cell BK163.out 0).trans rfl
            have hcz125_1 : w124.cell? ⟨gb163, 1, none⟩ = some (.string a0_1) := (blk_cell BK163.out 1).trans rfl
            have hcz125_2 : w124.cell? ⟨gb163, 2, none⟩ = some (.string a0_2) := (blk_cell BK163.out 2).trans rfl
            have hcz125_3 : w124.cell? ⟨gb163, 3, none⟩ = some (.int .i64 a0_3) := (blk_cell BK163.out 3).trans rfl
            have hcz125_4 : w124.cell? ⟨gb163, 4, none⟩ = some (.slice A0_4 l0_4.length c0_4) := (blk_cell BK163.out 4).trans rfl
            have hcz125_5 : w124.cell? ⟨gb163, 5, none⟩ = some (.slice A0_5 l0_5.length c0_5) := (blk_cell BK163.out 5).trans rfl
            have hfz125_0 := blk_frozen BK163.out 0
            have hfz125_1 := blk_frozen BK163.out 1
            have hfz125_2 := blk_frozen BK163.out 2
            have hfz125_3 := blk_frozen BK163.out 3
            have hfz125_4 := blk_frozen BK163.out 4
            have hfz125_5 := blk_frozen BK163.out 5
            try go_wp2_with (first | (mm6q5_) | ((with_reducible refine gate_dst (N := 7) rfl ?_); refine box_event ?hg (N := 7) ?hd (cs := mm6q14_) (t := 30) ?hr ?_; (case hd => rfl); (case hg => rfl); (mm6q31_); intro gb198 hg w127 hbox hb; have n0_ := Aside0.mk (Kd.R_below (by (mm6q1_); exact HO173.out) hb); have n1_ := Aside0.mk (Kd.R_below (by (mm6q1_); exact HO176.out) hb); have n2_ := Aside0.mk (Kd.R_below (by (mm6q1_); exact HO183.out) hb); have n3_ := Aside0.mk (Kd.R_below (by (mm6q1_); exact HO186.out) hb); have n4_ := Aside0.mk (Kd.R_below (by (mm6q1_); exact HO194.out) hb); have n5_ := Aside0.mk (Kd.R_below (by (mm6q1_); exact HO197.out) hb); have n6_ := Aside0.mk (blk_below (g := gb163) (o := .cells mm6q2_ 25 (0, 0)) (by (mm6q0_); exact BK163.out) hb); have n7_ := Aside0.mk (blk_below (g := gb164) (o := .cells mm6q4_ 25 (0, 0)) (by (mm6q0_); exact BK164.out) hb); have n8_ := Aside0.mk (below_step (by mm6q3_) hb); have n9_ := Aside0.mk (hbox); have n10_ := Aside0.mk ((by rw [hg]; exact (below_size (by mm6q3_)) : w.heap.size ≤ gb198)); have n11_ := Aside0.mk ((by rw [hg]; exact (below_size (by mm6q3_)) : w.heap.size ≤ gb198)); have n12_ := Aside0.mk ((by rw [hg]; exact Nat.ne_of_lt (blk_lt (g := gb163) (o := .cells mm6q2_ 25 (0, 0)) (by (mm6q0_); exact BK163.out)) : gb163 ≠ gb198)); have n13_ := Aside0.mk ((by rw [hg]; exact Nat.ne_of_gt (blk_lt (g := gb163) (o := .cells mm6q2_ 25 (0, 0)) (by (mm6q0_); exact BK163.out)) : gb198 ≠ gb163)); have n14_ := Aside0.mk ((by rw [hg]; exact Nat.ne_of_lt (blk_lt (g := gb164) (o := .cells mm6q4_ 25 (0, 0)) (by (mm6q0_); exact BK164.out)) : gb164 ≠ gb198)); have n15_ := Aside0.mk ((by rw [hg]; exact Nat.ne_of_gt (blk_lt (g := gb164) (o := .cells mm6q4_ 25 (0, 0)) (by (mm6q0_); exact BK164.out)) : gb198 ≠ gb164)); clear HO173; clear HO176; clear HO183; clear HO186; clear HO194; clear HO197; clear BK163; clear BK164; clear HB; have HO173 := n0_; have HO176 := n1_; have HO183 := n2_; have HO186 := n3_; have HO194 := n4_; have HO197 := n5_; have BK163 := n6_; have BK164 := n7_; have HB := n8_; have BK198 := n9_; have GW198 := n10_; have GE198 := n11_; have NB163_198 := n12_; have NB198_163 := n13_; have NB164_198 := n14_; have NB198_164 := n15_; clear n0_ n1_ n2_ n3_ n4_ n5_ n6_ n7_ n8_ n9_ n10_ n11_ n12_ n13_ n14_ n15_; clear hb hbox hg; have hnb128 := NB198_163.out; have hnc128 := NB163_198.out; have hnb129 := NB198_164.out; have hnc129 := NB164_198.out; have hcz130_0 : w127.cell? ⟨gb198, 0, none⟩ = some (.int .i64 0) := (blk_cell BK198.out 0).trans rfl; have hcz130_1 : w127.cell? ⟨gb198, 1, none⟩ = some (.string (⟨#[]⟩ : ByteArray)) := (blk_cell BK198.out 1).trans rfl; have hcz130_2 : w127.cell? ⟨gb198, 2, none⟩ = some (.string (⟨#[]⟩ : ByteArray)) := (blk_cell BK198.out 2).trans rfl; have hcz130_3 : w127.cell? ⟨gb198, 3, none⟩ = some (.int .i64 0) := (blk_cell BK198.out 3).trans rfl; have hcz130_4 : w127.cell? ⟨gb198, 4, none⟩ = some (.slice none 0 0) := (blk_cell BK198.out 4).trans rfl; have hcz130_5 : w127.cell? ⟨gb198, 5, none⟩ = some (.slice none 0 0) := (blk_cell BK198.out 5).trans rfl; have hfz130_0 := blk_frozen BK198.out 0; have hfz130_1 := blk_frozen BK198.out 1; have hfz130_2 := blk_frozen BK198.out 2; have hfz130_3 := blk_frozen BK198.out 3; have hfz130_4 := blk_frozen BK198.out 4; have hfz130_5 := blk_frozen BK198.out 5; obtain ⟨Ao131, co131, eo131⟩ := Kd.R_slice HO194.out; subst eo131; obtain ⟨Ao132, co132, eo132⟩ := Kd.R_slice HO197.out; subst eo132; have hcz133_0 : w127.cell? ⟨gb164, 0, none⟩ = some (.int .i64 a1_0) := (blk_cell BK164.out 0).trans rfl; have hcz133_1 : w127.cell? ⟨gb164, 1, none⟩ = some (.string a1_1) := (blk_cell BK164.out 1).trans rfl; have hcz133_2 : w127.cell? ⟨gb164, 2, none⟩ = some (.string a1_2) := (blk_cell BK164.out 2).trans rfl; have hcz133_3 : w127.cell? ⟨gb164, 3, none⟩ = some (.int .i64 a1_3) := (blk_cell BK164.out 3).trans rfl; have hcz133_4 : w127.cell? ⟨gb164, 4, none⟩ = some (.slice A1_4 l1_4.length c1_4) := (blk_cell BK164.out 4).trans rfl; have hcz133_5 : w127.cell? ⟨gb164, 5, none⟩ = some (.slice A1_5 l1_5.length c1_5) := (blk_cell BK164.out 5).trans rfl; have hfz133_0 := blk_frozen BK164.out 0; have hfz133_1 := blk_frozen BK164.out 1; have hfz133_2 := blk_frozen BK164.out 2; have hfz133_3 := blk_frozen BK164.out 3; have hfz133_4 := blk_frozen BK164.out 4; have hfz133_5 := blk_frozen BK164.out 5) | ((with_reducible refine gate_callee (f := 10) rfl ?_); refine goesL_ (some 28) rfl rfl Try.func10 (by kernel_rfl) rfl #[.agg mm6q4_] rfl (by mm6q8_) ?_; (mm6q74_); (mm6q95_); (case side2 => exact HC1_4.out); (mm6q96_); (case side4 => exact HC1_5.out); rintro e w_ ⟨v204, v207, rfl, ho0, ho1, hb⟩; refine ⟨_, rfl, ?_⟩; have n0_ := Aside0.mk (Kd.R_elder' (by mm6q33_) (Kd.R_base ho0) hb); have n1_ := Aside0.mk (Kd.R_elder' (by mm6q34_) (Kd.R_base ho1) hb); have n2_ := Aside0.mk (Kd.R_elder' (by mm6q35_) (Kd.R_base ho0) hb); have n3_ := Aside0.mk (Kd.R_elder' (by mm6q36_) (Kd.R_base ho1) hb); have n4_ := Aside0.mk (Kd.R_elder' (by mm6q37_) (Kd.R_base ho0) hb); have n5_ := Aside0.mk (Kd.R_elder' (by mm6q38_) (Kd.R_base ho1) hb); have n6_ := Aside0.mk (Kd.R_lower (Kd.R_new' (Kd.R_new' (Kd.R_new' ho0 (Kd.R_lt (by mm6q33_))) (Kd.R_lt (by mm6q35_))) (Kd.R_lt (by mm6q37_))) (below_size (by mm6q6_))); have n7_ := Aside0.mk (Kd.R_lower (Kd.R_new' (Kd.R_new' (Kd.R_new' ho1 (Kd.R_lt (by mm6q34_))) (Kd.R_lt (by mm6q36_))) (Kd.R_lt (by mm6q38_))) (below_size (by mm6q6_))); have n8_ := Aside0.mk (blk_below (g := gb163) (o := .cells mm6q2_ 25 (0, 0)) (by mm6q22_) hb); have n9_ := Aside0.mk (blk_below (g := gb164) (o := .cells mm6q4_ 25 (0, 0)) (by mm6q23_) hb); have n10_ := Aside0.mk (blk_below (g := gb198) (o := .cells mm6q15_ 30 (0, 0)) (by (mm6q0_); refine blk_put (cs := #[.int .i64 t188, .string t189, .string t190, .int .i64 t191, .slice Ao131 t192.length co131, .slice none 0 0]) ?_ 5 _ rfl; (mm6q0_); refine blk_put (cs := mm6q84_) ?_ 4 _ rfl; (mm6q0_); refine blk_put (cs := mm6q86_) ?_ 3 _ rfl; (mm6q0_); refine blk_put (cs := mm6q78_) ?_ 2 _ rfl; (mm6q0_); refine blk_put (cs := mm6q76_) ?_ 1 _ rfl; (mm6q0_); refine blk_put (cs := mm6q14_) ?_ 0 _ rfl; (mm6q0_); exact BK198.out) hb); have n11_ := Aside0.mk (below_step (by mm6q6_) hb); clear HO173; clear HO176; clear HO183; clear HO186; clear HO194; clear HO197; clear BK163; clear BK164; clear BK198; clear HB; have HO173 := n0_; have HO176 := n1_; have HO183 := n2_; have HO186 := n3_; have HO194 := n4_; have HO197 := n5_; have HO205 := n6_; have HO208 := n7_; have BK163 := n8_; have BK164 := n9_; have BK198 := n10_; have HB := n11_; clear n0_ n1_ n2_ n3_ n4_ n5_ n6_ n7_ n8_ n9_ n10_ n11_; (try clear hb); (try clear hb2); (try clear hk); (try clear hi); (try clear ho0); (try clear ho1)) | ((with_reducible refine gate_dst (N := 8) rfl ?_); refine box_event ?hg (N := 8) ?hd (cs := mm6q14_) (t := 30) ?hr ?_; (case hd => rfl); (case hg => rfl); (mm6q31_); intro gb209 hg w135 hbox hb; have n0_ := Aside0.mk (Kd.R_below (by (mm6q1_); exact HO173.out) hb); have n1_ := Aside0.mk (Kd.R_below (by (mm6q1_); exact HO176.out) hb); have n2_ := Aside0.mk (Kd.R_below (by (mm6q1_); exact HO183.out) hb); have n3_ := Aside0.mk (Kd.R_below (by (mm6q1_); exact HO186.out) hb); have n4_ := Aside0.mk (Kd.R_below (by (mm6q1_); exact HO194.out) hb); have n5_ := Aside0.mk (Kd.R_below (by (mm6q1_); exact HO197.out) hb); have n6_ := Aside0.mk (Kd.R_below (by (mm6q1_); exact HO205.out) hb); have n7_ := Aside0.mk (Kd.R_below (by (mm6q1_); exact HO208.out) hb); have n8_ := Aside0.mk (blk_below (g := gb163) (o := .cells mm6q2_ 25 (0, 0)) (by (mm6q0_); exact BK163.out) hb); have n9_ := Aside0.mk (blk_below (g := gb164) (o := .cells mm6q4_ 25 (0, 0)) (by (mm6q0_); exact BK164.out) hb); have n10_ := Aside0.mk (blk_below (g := gb198) (o := .cells mm6q15_ 30 (0, 0)) (by (mm6q0_); exact BK198.out) hb); have n11_ := Aside0.mk (below_step (by mm6q6_) hb); have n12_ := Aside0.mk (hbox); have n13_ := Aside0.mk ((by rw [hg]; exact (below_size (by mm6q6_)) : w.heap.size ≤ gb209)); have n14_ := Aside0.mk ((by rw [hg]; exact (below_size (by mm6q6_)) : w.heap.size ≤ gb209)); have n15_ := Aside0.mk ((by rw [hg]; exact Nat.ne_of_lt (blk_lt (g := gb163) (o := .cells mm6q2_ 25 (0, 0)) (by (mm6q0_); exact BK163.out)) : gb163 ≠ gb209)); have n16_ := Aside0.mk ((by rw [hg]; exact Nat.ne_of_gt (blk_lt (g := gb163) (o := .cells mm6q2_ 25 (0, 0)) (by (mm6q0_); exact BK163.out)) : gb209 ≠ gb163)); have n17_ := Aside0.mk ((by rw [hg]; exact Nat.ne_of_lt (blk_lt (g := gb164) (o := .cells mm6q4_ 25 (0, 0)) (by (mm6q0_); exact BK164.out)) : gb164 ≠ gb209)); have n18_ := Aside0.mk ((by rw [hg]; exact Nat.ne_of_gt (blk_lt (g := gb164) (o := .cells mm6q4_ 25 (0, 0)) (by (mm6q0_); exact BK164.out)) : gb209 ≠ gb164)); have n19_ := Aside0.mk ((by rw [hg]; exact Nat.ne_of_lt (blk_lt (g := gb198) (o := .cells mm6q15_ 30 (0, 0)) (by (mm6q0_); exact BK198.out)) : gb198 ≠ gb209)); have n20_ := Aside0.mk ((by rw [hg]; exact Nat.ne_of_gt (blk_lt (g := gb198) (o := .cells mm6q15_ 30 (0, 0)) (by (mm6q0_); exact BK198.out)) : gb209 ≠ gb198)); clear HO173; clear HO176; clear HO183; clear HO186; clear HO194; clear HO197; clear HO205; clear HO208; clear BK163; clear BK164; clear BK198; clear HB; have HO173 := n0_; have HO176 := n1_; have HO183 := n2_; have HO186 := n3_; have HO194 := n4_; have HO197 := n5_; have HO205 := n6_; have HO208 := n7_; have BK163 := n8_; have BK164 := n9_; have BK198 := n10_; have HB := n11_; have BK209 := n12_; have GW209 := n13_; have GE209 := n14_; have NB163_209 := n15_; have NB209_163 := n16_; have NB164_209 := n17_; have NB209_164 := n18_; have NB198_209 := n19_; have NB209_198 := n20_; clear n0_ n1_ n2_ n3_ n4_ n5_ n6_ n7_ n8_ n9_ n10_ n11_ n12_ n13_ n14_ n15_ n16_ n17_ n18_ n19_ n20_; clear hb hbox hg; have hnb136 := NB209_163.out; have hnc136 := NB163_209.out; have hnb137 := NB209_164.out; have hnc137 := NB164_209.out; have hnb138 := NB209_198.out; have hnc138 := NB198_209.out; have hcz139_0 : w135.cell? ⟨gb209, 0, none⟩ = some (.int .i64 0) := (blk_cell BK209.out 0).trans rfl; have hcz139_1 : w135.cell? ⟨gb209, 1, none⟩ = some (.string (⟨#[]⟩ : ByteArray)) := (blk_cell BK209.out 1).trans rfl; have hcz139_2 : w135.cell? ⟨gb209, 2, none⟩ = some (.string (⟨#[]⟩ : ByteArray)) := (blk_cell BK209.out 2).trans rfl; have hcz139_3 : w135.cell? ⟨gb209, 3, none⟩ = some (.int .i64 0) := (blk_cell BK209.out 3).trans rfl; have hcz139_4 : w135.cell? ⟨gb209, 4, none⟩ = some (.slice none 0 0) := (blk_cell BK209.out 4).trans rfl; have hcz139_5 : w135.cell? ⟨gb209, 5, none⟩ = some (.slice none 0 0) := (blk_cell BK209.out 5).trans rfl; have hfz139_0 := blk_frozen BK209.out 0; have hfz139_1 := blk_frozen BK209.out 1; have hfz139_2 := blk_frozen BK209.out 2; have hfz139_3 := blk_frozen BK209.out 3; have hfz139_4 := blk_frozen BK209.out 4; have hfz139_5 := blk_frozen BK209.out 5; obtain ⟨Ao140, co140, eo140⟩ := Kd.R_slice HO205.out; subst eo140; obtain ⟨Ao141, co141, eo141⟩ := Kd.R_slice HO208.out; subst eo141; have hcz142_0 : w135.cell? ⟨gb198, 0, none⟩ = some (.int .i64 t188) := (blk_cell BK198.out 0).trans rfl; have hcz142_1 : w135.cell? ⟨gb198, 1, none⟩ = some (.string t189) := (blk_cell BK198.out 1).trans rfl; have hcz142_2 : w135.cell? ⟨gb198, 2, none⟩ = some (.string t190) := (blk_cell BK198.out 2).trans rfl; have hcz142_3 : w135.cell? ⟨gb198, 3, none⟩ = some (.int .i64 t191) := (blk_cell BK198.out 3).trans rfl; have hcz142_4 : w135.cell? ⟨gb198, 4, none⟩ = some (.slice Ao131 t192.length co131) := (blk_cell BK198.out 4).trans rfl; have hcz142_5 : w135.cell? ⟨gb198, 5, none⟩ = some (.slice Ao132 t195.length co132) := (blk_cell BK198.out 5).trans rfl; have hfz142_0 := blk_frozen BK198.out 0; have hfz142_1 := blk_frozen BK198.out 1; have hfz142_2 := blk_frozen BK198.out 2; have hfz142_3 := blk_frozen BK198.out 3; have hfz142_4 := blk_frozen BK198.out 4; have hfz142_5 := blk_frozen BK198.out 5) | ((with_reducible refine gate_callee (f := 11) rfl ?_); refine goesL_ (some 31) rfl rfl Try.func11 (by kernel_rfl) rfl #[.agg mm6q15_, .agg mm6q27_] rfl (by mm6q8_) ?_; (mm6q30_); (case side1 => refine (Kd.R_reads' (e := 9) (base := w.heap.size) (ok := fun k_ => (((True ∧ some k_ ≠ (.slice Ao120 t171.length co120 : Value).ownBlock) ∧ some k_ ≠ (.slice Ao122 t181.length co122 : Value).ownBlock) ∧ some k_ ≠ (.slice Ao140 t203.length co140 : Value).ownBlock)) (n := t192.length) (c := co131) ?_).2.2; exact (by mm6q39_)); (mm6q88_); (case side3 => refine (Kd.R_reads' (e := 71) (base := w.heap.size) (ok := fun k_ => (((True ∧ some k_ ≠ (.slice Ao121 t174.length co121 : Value).ownBlock) ∧ some k_ ≠ (.slice Ao123 t184.length co123 : Value).ownBlock) ∧ some k_ ≠ (.slice Ao141 t206.length co141 : Value).ownBlock)) (n := t195.length) (c := co132) ?_).2.2; exact (by mm6q40_)); (mm6q89_); (case side5 => refine (Kd.R_reads' (e := 9) (base := w.heap.size) (ok := fun k_ => (((True ∧ some k_ ≠ (.slice Ao120 t171.length co120 : Value).ownBlock) ∧ some k_ ≠ (.slice Ao122 t181.length co122 : Value).ownBlock) ∧ some k_ ≠ (.slice Ao131 t192.length co131 : Value).ownBlock)) (n := t203.length) (c := co140) ?_).2.2; exact (by mm6q41_)); (mm6q101_); (case side7 => refine (Kd.R_reads' (e := 71) (base := w.heap.size) (ok := fun k_ => (((True ∧ some k_ ≠ (.slice Ao121 t174.length co121 : Value).ownBlock) ∧ some k_ ≠ (.slice Ao123 t184.length co123 : Value).ownBlock) ∧ some k_ ≠ (.slice Ao132 t195.length co132 : Value).ownBlock)) (n := t206.length) (c := co141) ?_).2.2; exact (by mm6q42_)); (mm6q102_); rintro e w143 ⟨rfl, hb⟩; refine ⟨_, rfl, ?_⟩; have n0_ := Aside0.mk (Kd.R_below (by (mm6q1_); exact (Kd.R_mono (Kd.R_far (p := ⟨gb209, 5, none⟩) (Kd.R_far (p := ⟨gb209, 4, none⟩) (Kd.R_far (p := ⟨gb209, 3, none⟩) (Kd.R_far (p := ⟨gb209, 2, none⟩) (Kd.R_far (p := ⟨gb209, 1, none⟩) (Kd.R_far (p := ⟨gb209, 0, none⟩) (Kd.R_types HO173.out BK209.out (by decide)) (fun _ hk => hk.2) (.int .i64 t199)) (fun _ hk => hk.2) (.string t200)) (fun _ hk => hk.2) (.string t201)) (fun _ hk => hk.2) (.int .i64 t202)) (fun _ hk => hk.2) (.slice Ao140 t203.length co140)) (fun _ hk => hk.2) (.slice Ao141 t206.length co141)) (fun _ h_ => h_.1))) hb); have n1_ := Aside0.mk (Kd.R_below (by (mm6q1_); exact (Kd.R_mono (Kd.R_far (p := ⟨gb209, 5, none⟩) (Kd.R_far (p := ⟨gb209, 4, none⟩) (Kd.R_far (p := ⟨gb209, 3, none⟩) (Kd.R_far (p := ⟨gb209, 2, none⟩) (Kd.R_far (p := ⟨gb209, 1, none⟩) (Kd.R_far (p := ⟨gb209, 0, none⟩) (Kd.R_types HO176.out BK209.out (by decide)) (fun _ hk => hk.2) (.int .i64 t199)) (fun _ hk => hk.2) (.string t200)) (fun _ hk => hk.2) (.string t201)) (fun _ hk => hk.2) (.int .i64 t202)) (fun _ hk => hk.2) (.slice Ao140 t203.length co140)) (fun _ hk => hk.2) (.slice Ao141 t206.length co141)) (fun _ h_ => h_.1))) hb); have n2_ := Aside0.mk (Kd.R_below (by (mm6q1_); exact (Kd.R_mono (Kd.R_far (p := ⟨gb209, 5, none⟩) (Kd.R_far (p := ⟨gb209, 4, none⟩) (Kd.R_far (p := ⟨gb209, 3, none⟩) (Kd.R_far (p := ⟨gb209, 2, none⟩) (Kd.R_far (p := ⟨gb209, 1, none⟩) (Kd.R_far (p := ⟨gb209, 0, none⟩) (Kd.R_types HO183.out BK209.out (by decide)) (fun _ hk => hk.2) (.int .i64 t199)) (fun _ hk => hk.2) (.string t200)) (fun _ hk => hk.2) (.string t201)) (fun _ hk => hk.2) (.int .i64 t202)) (fun _ hk => hk.2) (.slice Ao140 t203.length co140)) (fun _ hk => hk.2) (.slice Ao141 t206.length co141)) (fun _ h_ => h_.1))) hb); have n3_ := Aside0.mk (Kd.R_below (by (mm6q1_); exact (Kd.R_mono (Kd.R_far (p := ⟨gb209, 5, none⟩) (Kd.R_far (p := ⟨gb209, 4, none⟩) (Kd.R_far (p := ⟨gb209, 3, none⟩) (Kd.R_far (p := ⟨gb209, 2, none⟩) (Kd.R_far (p := ⟨gb209, 1, none⟩) (Kd.R_far (p := ⟨gb209, 0, none⟩) (Kd.R_types HO186.out BK209.out (by decide)) (fun _ hk => hk.2) (.int .i64 t199)) (fun _ hk => hk.2) (.string t200)) (fun _ hk => hk.2) (.string t201)) (fun _ hk => hk.2) (.int .i64 t202)) (fun _ hk => hk.2) (.slice Ao140 t203.length co140)) (fun _ hk => hk.2) (.slice Ao141 t206.length co141)) (fun _ h_ => h_.1))) hb); have n4_ := Aside0.mk (Kd.R_below (by mm6q39_) hb); have n5_ := Aside0.mk (Kd.R_below (by mm6q40_) hb); have n6_ := Aside0.mk (Kd.R_below (by mm6q41_) hb); have n7_ := Aside0.mk (Kd.R_below (by mm6q42_) hb); have n8_ := Aside0.mk (blk_below (g := gb163) (o := .cells mm6q2_ 25 (0, 0)) (by mm6q24_) hb); have n9_ := Aside0.mk (blk_below (g := gb164) (o := .cells mm6q4_ 25 (0, 0)) (by mm6q25_) hb); have n10_ := Aside0.mk (blk_below (g := gb198) (o := .cells mm6q15_ 30 (0, 0)) (by mm6q26_) hb); have n11_ := Aside0.mk (blk_below (g := gb209) (o := .cells mm6q27_ 30 (0, 0)) (by (mm6q0_); refine blk_put (cs := #[.int .i64 t199, .string t200, .string t201, .int .i64 t202, .slice Ao140 t203.length co140, .slice none 0 0]) ?_ 5 _ rfl; (mm6q0_); refine blk_put (cs := mm6q85_) ?_ 4 _ rfl; (mm6q0_); refine blk_put (cs := mm6q87_) ?_ 3 _ rfl; (mm6q0_); refine blk_put (cs := mm6q79_) ?_ 2 _ rfl; (mm6q0_); refine blk_put (cs := mm6q77_) ?_ 1 _ rfl; (mm6q0_); refine blk_put (cs := mm6q14_) ?_ 0 _ rfl; (mm6q0_); exact BK209.out) hb); have n12_ := Aside0.mk (below_step (by repeat (mm6q7_)) hb); clear HO173; clear HO176; clear HO183; clear HO186; clear HO194; clear HO197; clear HO205; clear HO208; clear BK163; clear BK164; clear BK198; clear BK209; clear HB; have HO173 := n0_; have HO176 := n1_; have HO183 := n2_; have HO186 := n3_; have HO194 := n4_; have HO197 := n5_; have HO205 := n6_; have HO208 := n7_; have BK163 := n8_; have BK164 := n9_; have BK198 := n10_; have BK209 := n11_; have HB := n12_; clear n0_ n1_ n2_ n3_ n4_ n5_ n6_ n7_ n8_ n9_ n10_ n11_ n12_; (try clear hb); (try clear hb2); (try clear hk); (try clear hi)))
            have n0_ := Aside0.mk (Kd.R_drew HO173.out)
            have n1_ := Aside0.mk (Kd.R_drew HO176.out)
            have n2_ := Aside0.mk (Kd.R_drew HO183.out)
            have n3_ := Aside0.mk (Kd.R_drew HO186.out)
            have n4_ := Aside0.mk (Kd.R_drew HO194.out)
            have n5_ := Aside0.mk (Kd.R_drew HO197.out)
            have n6_ := Aside0.mk (Kd.R_drew HO205.out)
            have n7_ := Aside0.mk (Kd.R_drew HO208.out)
            have n8_ := Aside0.mk (blk_drew BK163.out)
            have n9_ := Aside0.mk (blk_drew BK164.out)
            have n10_ := Aside0.mk (blk_drew BK198.out)
            have n11_ := Aside0.mk (blk_drew BK209.out)
            have n12_ := Aside0.mk (below_drew1 HB.out)
            clear HO173
            clear HO176
            clear HO183
            clear HO186
            clear HO194
            clear HO197
            clear HO205
            clear HO208
            clear BK163
            clear BK164
            clear BK198
            clear BK209
            clear HB
            have HO173 := n0_
            have HO176 := n1_
            have HO183 := n2_
            have HO186 := n3_
            have HO194 := n4_
            have HO197 := n5_
            have HO205 := n6_
            have HO208 := n7_
            have BK163 := n8_
            have BK164 := n9_
            have BK198 := n10_
            have BK209 := n11_
            have HB := n12_
            clear n0_ n1_ n2_ n3_ n4_ n5_ n6_ n7_ n8_ n9_ n10_ n11_ n12_
            refine start_ (n := 5) (S := fun w' => w'.cell? ⟨gb198, 0, none⟩ = some (.int .i64 t188) ∧ w'.cell? ⟨gb198, 1, none⟩ = some (.string t189) ∧ w'.cell? ⟨gb198, 2, none⟩ = some (.string t190) ∧ w'.cell? ⟨gb198, 3, none⟩ = some (.int .i64 t191) ∧ w'.cell? ⟨gb198, 4, none⟩ = some (.slice Ao131 t192.length co131) ∧ w'.cell? ⟨gb198, 5, none⟩ = some (.slice Ao132 t195.length co132) ∧ w'.cell? ⟨gb163, 0, none⟩ = some (.int .i64 a0_0) ∧ w'.cell? ⟨gb163, 1, none⟩ = some (.string a0_1) ∧ w'.cell? ⟨gb163, 2, none⟩ = some (.string a0_2) ∧ w'.cell? ⟨gb163, 3, none⟩ = some (.int .i64 a0_3) ∧ w'.cell? ⟨gb163, 4, none⟩ = some (.slice A0_4 l0_4.length c0_4) ∧ w'.cell? ⟨gb163, 5, none⟩ = some (.slice A0_5 l0_5.length c0_5)) (ds := []) #[false, false, false, false, false] (by kernel_rfl) rfl rfl ⟨(blk_cell BK198.out 0).trans rfl, (blk_cell BK198.out 1).trans rfl, (blk_cell BK198.out 2).trans rfl, (blk_cell BK198.out 3).trans rfl, (blk_cell BK198.out 4).trans rfl, (blk_cell BK198.out 5).trans rfl, (blk_cell BK163.out 0).trans rfl, (blk_cell BK163.out 1).trans rfl, (blk_cell BK163.out 2).trans rfl, (blk_cell BK163.out 3).trans rfl, (blk_cell BK163.out 4).trans rfl, (blk_cell BK163.out 5).trans rfl⟩ (fun hHeld => ?_)
            generalize w143.drew = w_ at HO173 HO176 HO183 HO186 HO194 HO197 HO205 HO208 BK163 BK164 BK198 BK209 HB hHeld ⊢
            refine take_ (i := 0) (N := some 35) (v := ?_) (a' := ?_) #[true, false, false, false, false] rfl rfl (by kernel_rfl) (fun _ _ _ h => h) (Or.inl ⟨by rfl, ?_⟩) hHeld ?_ ?_
            rotate_left
            · rintro w' ⟨s0, s1, s2, s3, s4, s5, s6, s7, s8, s9, s10, s11⟩
              go_simp
              with_reducible rfl
            rotate_left
            · simp only [Act.put, List.setIfInBounds_toArray, List.set_cons_zero, List.set_cons_succ, i64_w, i32_w]
              rfl
            refine take_ (i := 1) (N := some 36) (v := ?_) (a' := ?_) #[true, true, false, false, false] rfl rfl (by kernel_rfl) (fun _ _ _ h => h) (Or.inl ⟨by rfl, ?_⟩) hHeld ?_ ?_
            rotate_left
            · rintro w' ⟨s0, s1, s2, s3, s4, s5, s6, s7, s8, s9, s10, s11⟩
              go_simp
              with_reducible rfl
            rotate_left
            · simp only [Act.put, List.setIfInBounds_toArray, List.set_cons_zero, List.set_cons_succ, i64_w, i32_w]
              rfl
            refine one_ (i := 2) (N := some 37) #[true, true, true, false, false] rfl rfl (by kernel_rfl) (by decide) (fun K hK => ?_)
            refine goes_ Try.func10 (by kernel_rfl) rfl #[.agg mm6q2_] (by rfl) rfl rfl (by mm6q8_) ?_
            with_reducible refine (laws_toPaper.calls k a0_0 a0_1 a0_2 a0_3 _ _ l0_4 _ _ l0_5 t211 t212 t213 t214 t215 t218 _ ?side1 ?side2 ?side3 ?side4 A60.out).mono ?_
            (mm6q16_)
            (case side2 => exact HC0_4.out)
            (mm6q17_)
            (case side4 => exact HC0_5.out)
            rintro e w_ ⟨v216, v219, rfl, ho0, ho1, hb⟩
            refine ⟨_, rfl, ?_⟩
            have n0_ := Aside0.mk (Kd.R_elder' (by (mm6q1_); exact HO173.out) (Kd.R_base ho0) hb)
            have n1_ := Aside0.mk (Kd.R_elder' (by (mm6q1_); exact HO176.out) (Kd.R_base ho1) hb)
            have n2_ := Aside0.mk (Kd.R_elder' (by (mm6q1_); exact HO183.out) (Kd.R_base ho0) hb)
            have n3_ := Aside0.mk (Kd.R_elder' (by (mm6q1_); exact HO186.out) (Kd.R_base ho1) hb)
            have n4_ := Aside0.mk (Kd.R_elder' (by (mm6q1_); exact HO194.out) (Kd.R_base ho0) hb)
            have n5_ := Aside0.mk (Kd.R_elder' (by (mm6q1_); exact HO197.out) (Kd.R_base ho1) hb)
            have n6_ := Aside0.mk (Kd.R_elder' (by (mm6q1_); exact HO205.out) (Kd.R_base ho0) hb)
            have n7_ := Aside0.mk (Kd.R_elder' (by (mm6q1_); exact HO208.out) (Kd.R_base ho1) hb)
            have n8_ := Aside0.mk (Kd.R_lower (Kd.R_new' (Kd.R_new' (Kd.R_new' (Kd.R_new' ho0 (Kd.R_lt (by (mm6q1_); exact HO173.out))) (Kd.R_lt (by (mm6q1_); exact HO183.out))) (Kd.R_lt (by (mm6q1_); exact HO194.out))) (Kd.R_lt (by (mm6q1_); exact HO205.out))) (below_size (by repeat (mm6q7_))))
            have n9_ := Aside0.mk (Kd.R_lower (Kd.R_new' (Kd.R_new' (Kd.R_new' (Kd.R_new' ho1 (Kd.R_lt (by (mm6q1_); exact HO176.out))) (Kd.R_lt (by (mm6q1_); exact HO186.out))) (Kd.R_lt (by (mm6q1_); exact HO197.out))) (Kd.R_lt (by (mm6q1_); exact HO208.out))) (below_size (by repeat (mm6q7_))))
            have n10_ := Aside0.mk (blk_below (g := gb163) (o := .cells mm6q2_ 25 (0, 0)) (by (mm6q0_); exact BK163.out) hb)
            have n11_ := Aside0.mk (blk_below (g := gb164) (o := .cells mm6q4_ 25 (0, 0)) (by (mm6q0_); exact BK164.out) hb)
            have n12_ := Aside0.mk (blk_below (g := gb198) (o := .cells mm6q15_ 30 (0, 0)) (by (mm6q0_); exact BK198.out) hb)
            have n13_ := Aside0.mk (blk_below (g := gb209) (o := .cells mm6q27_ 30 (0, 0)) (by (mm6q0_); exact BK209.out) hb)
            have n14_ := Aside0.mk (below_step (by repeat (mm6q7_)) hb)
            clear HO173
            clear HO176
            clear HO183
            clear HO186
            clear HO194
            clear HO197
            clear HO205
            clear HO208
            clear BK163
            clear BK164
            clear BK198
            clear BK209
            clear HB
            have HO173 := n0_
            have HO176 := n1_
            have HO183 := n2_
            have HO186 := n3_
            have HO194 := n4_
            have HO197 := n5_
            have HO205 := n6_
            have HO208 := n7_
            have HO217 := n8_
            have HO220 := n9_
            have BK163 := n10_
            have BK164 := n11_
            have BK198 := n12_
            have BK209 := n13_
            have HB := n14_
            clear n0_ n1_ n2_ n3_ n4_ n5_ n6_ n7_ n8_ n9_ n10_ n11_ n12_ n13_ n14_
            (try clear hb)
            (try clear hb2)
            (try clear hk)
            (try clear hi)
            (try clear ho0)
            (try clear ho1)
            obtain ⟨Ao146, co146, eo146⟩ := Kd.R_slice HO217.out
            (first | subst eo146 | (injection eo146 with f1_ f2_ f3_; have f4_ := f1_.symm; have f5_ := f3_.symm; clear f1_ f2_ f3_; subst f4_; subst f5_))
            obtain ⟨Ao147, co147, eo147⟩ := Kd.R_slice HO220.out
            (first | subst eo147 | (injection eo147 with f1_ f2_ f3_; have f4_ := f1_.symm; have f5_ := f3_.symm; clear f1_ f2_ f3_; subst f4_; subst f5_))
            refine hK.out _ _ ⟨(blk_cell BK198.out 0).trans rfl, (blk_cell BK198.out 1).trans rfl, (blk_cell BK198.out 2).trans rfl, (blk_cell BK198.out 3).trans rfl, (blk_cell BK198.out 4).trans rfl, (blk_cell BK198.out 5).trans rfl, (blk_cell BK163.out 0).trans rfl, (blk_cell BK163.out 1).trans rfl, (blk_cell BK163.out 2).trans rfl, (blk_cell BK163.out 3).trans rfl, (blk_cell BK163.out 4).trans rfl, (blk_cell BK163.out 5).trans rfl⟩ (fun hHeld => ?_)
            clear hK K
            refine norm_ (a' := ?_) ?_ ?_
            rotate_left
            · show Act.put _ (some 37) _ = _
              simp only [Act.put, List.setIfInBounds_toArray, List.set_cons_zero, List.set_cons_succ, i64_w, i32_w]
              rfl
            refine one_ (i := 3) (N := some 38) #[true, true, true, true, false] rfl rfl (by kernel_rfl) (by decide) (fun K hK => ?_)
            refine goes_ Try.func12 (by kernel_rfl) rfl #[.agg mm6q15_, .agg #[.int .i64 t211, .string t212, .string t213, .int .i64 t214, .slice Ao146 t215.length co146, .slice Ao147 t218.length co147]] (by rfl) rfl rfl (by mm6q8_) ?_
            with_reducible refine (laws_eqPaper.calls k t188 t189 t190 t191 _ _ t192 _ _ t195 t211 t212 t213 t214 _ _ t215 _ _ t218 true _ ?side1 ?side2 ?side3 ?side4 ?side5 ?side6 ?side7 ?side8 A61.out).mono ?_
            (mm6q90_)
            (mm6q88_)
            (mm6q91_)
            (mm6q89_)
            (mm6q92_)
            (case side6 => exact (Kd.R_reads' HO217.out).2.1)
            (mm6q93_)
            (case side8 => exact (Kd.R_reads' HO220.out).2.1)
            rintro e w148 ⟨rfl, hb⟩
            refine ⟨_, rfl, ?_⟩
            have n0_ := Aside0.mk (Kd.R_below (by (mm6q1_); exact HO173.out) hb)
            have n1_ := Aside0.mk (Kd.R_below (by (mm6q1_); exact HO176.out) hb)
            have n2_ := Aside0.mk (Kd.R_below (by (mm6q1_); exact HO183.out) hb)
            have n3_ := Aside0.mk (Kd.R_below (by (mm6q1_); exact HO186.out) hb)
            have n4_ := Aside0.mk (Kd.R_below (by (mm6q1_); exact HO194.out) hb)
            have n5_ := Aside0.mk (Kd.R_below (by (mm6q1_); exact HO197.out) hb)
            have n6_ := Aside0.mk (Kd.R_below (by (mm6q1_); exact HO205.out) hb)
            have n7_ := Aside0.mk (Kd.R_below (by (mm6q1_); exact HO208.out) hb)
            have n8_ := Aside0.mk (Kd.R_below (by (mm6q1_); exact HO217.out) hb)
            have n9_ := Aside0.mk (Kd.R_below (by (mm6q1_); exact HO220.out) hb)
            have n10_ := Aside0.mk (blk_below (g := gb163) (o := .cells mm6q2_ 25 (0, 0)) (by (mm6q0_); exact BK163.out) hb)
            have n11_ := Aside0.mk (blk_below (g := gb164) (o := .cells mm6q4_ 25 (0, 0)) (by (mm6q0_); exact BK164.out) hb)
            have n12_ := Aside0.mk (blk_below (g := gb198) (o := .cells mm6q15_ 30 (0, 0)) (by (mm6q0_); exact BK198.out) hb)
            have n13_ := Aside0.mk (blk_below (g := gb209) (o := .cells mm6q27_ 30 (0, 0)) (by (mm6q0_); exact BK209.out) hb)
            have n14_ := Aside0.mk (below_step (by repeat (mm6q7_)) hb)
            clear HO173
            clear HO176
            clear HO183
            clear HO186
            clear HO194
            clear HO197
            clear HO205
            clear HO208
            clear HO217
            clear HO220
            clear BK163
            clear BK164
            clear BK198
            clear BK209
            clear HB
            have HO173 := n0_
            have HO176 := n1_
            have HO183 := n2_
            have HO186 := n3_
            have HO194 := n4_
            have HO197 := n5_
            have HO205 := n6_
            have HO208 := n7_
            have HO217 := n8_
            have HO220 := n9_
            have BK163 := n10_
            have BK164 := n11_
            have BK198 := n12_
            have BK209 := n13_
            have HB := n14_
            clear n0_ n1_ n2_ n3_ n4_ n5_ n6_ n7_ n8_ n9_ n10_ n11_ n12_ n13_ n14_
            (try clear hb)
            (try clear hb2)
            (try clear hk)
            (try clear hi)
            refine hK.out _ _ ⟨(blk_cell BK198.out 0).trans rfl, (blk_cell BK198.out 1).trans rfl, (blk_cell BK198.out 2).trans rfl, (blk_cell BK198.out 3).trans rfl, (blk_cell BK198.out 4).trans rfl, (blk_cell BK198.out 5).trans rfl, (blk_cell BK163.out 0).trans rfl, (blk_cell BK163.out 1).trans rfl, (blk_cell BK163.out 2).trans rfl, (blk_cell BK163.out 3).trans rfl, (blk_cell BK163.out 4).trans rfl, (blk_cell BK163.out 5).trans rfl⟩ (fun hHeld => ?_)
            clear hK K
            refine norm_ (a' := ?_) ?_ ?_
            rotate_left
            · show Act.put _ (some 38) _ = _
              simp only [Act.put, List.setIfInBounds_toArray, List.set_cons_zero, List.set_cons_succ, i64_w, i32_w]
              rfl
            refine pure_ (i := 4) (N := some 39) (v := ?_) (a' := ?_) #[true, true, true, true, true] rfl rfl (by kernel_rfl) (fun _ _ _ h => h) (Or.inl ⟨by rfl, ?_⟩) ?_ ?_
            rotate_left
            · intro w'
              go_simp
              with_reducible rfl
            rotate_left
            · simp only [Act.put, List.setIfInBounds_toArray, List.set_cons_zero, List.set_cons_succ, i64_w, i32_w]
              rfl
            refine done_ (by kernel_rfl) ?_
            try go_wp2
            have n0_ := Aside0.mk (Kd.R_drew HO173.out)
            have n1_ := Aside0.mk (Kd.R_drew HO176.out)
            have n2_ := Aside0.mk (Kd.R_drew HO183.out)
            have n3_ := Aside0.mk (Kd.R_drew HO186.out)
            have n4_ := Aside0.mk (Kd.R_drew HO194.out)
            have n5_ := Aside0.mk (Kd.R_drew HO197.out)
            have n6_ := Aside0.mk (Kd.R_drew HO205.out)
            have n7_ := Aside0.mk (Kd.R_drew HO208.out)
            have n8_ := Aside0.mk (Kd.R_drew HO217.out)
            have n9_ := Aside0.mk (Kd.R_drew HO220.out)
            have n10_ := Aside0.mk (blk_drew BK163.out)
            have n11_ := Aside0.mk (blk_drew BK164.out)
            have n12_ := Aside0.mk (blk_drew BK198.out)
            have n13_ := Aside0.mk (blk_drew BK209.out)
            have n14_ := Aside0.mk (below_drew1 HB.out)
            clear HO173
            clear HO176
            clear HO183
            clear HO186
            clear HO194
            clear HO197
            clear HO205
            clear HO208
            clear HO217
            clear HO220
            clear BK163
            clear BK164
            clear BK198
            clear BK209
            clear HB
            have HO173 := n0_
            have HO176 := n1_
            have HO183 := n2_
            have HO186 := n3_
            have HO194 := n4_
            have HO197 := n5_
            have HO205 := n6_
            have HO208 := n7_
            have HO217 := n8_
            have HO220 := n9_
            have BK163 := n10_
            have BK164 := n11_
            have BK198 := n12_
            have BK209 := n13_
            have HB := n14_
            clear n0_ n1_ n2_ n3_ n4_ n5_ n6_ n7_ n8_ n9_ n10_ n11_ n12_ n13_ n14_
            refine start_ (n := 5) (S := fun w' => w'.cell? ⟨gb209, 0, none⟩ = some (.int .i64 t199) ∧ w'.cell? ⟨gb209, 1, none⟩ = some (.string t200) ∧ w'.cell? ⟨gb209, 2, none⟩ = some (.string t201) ∧ w'.cell? ⟨gb209, 3, none⟩ = some (.int .i64 t202) ∧ w'.cell? ⟨gb209, 4, none⟩ = some (.slice Ao140 t203.length co140) ∧ w'.cell? ⟨gb209, 5, none⟩ = some (.slice Ao141 t206.length co141) ∧ w'.cell? ⟨gb164, 0, none⟩ = some (.int .i64 a1_0) ∧ w'.cell? ⟨gb164, 1, none⟩ = some (.string a1_1) ∧ w'.cell? ⟨gb164, 2, none⟩ = some (.string a1_2) ∧ w'.cell? ⟨gb164, 3, none⟩ = some (.int .i64 a1_3) ∧ w'.cell? ⟨gb164, 4, none⟩ = some (.slice A1_4 l1_4.length c1_4) ∧ w'.cell? ⟨gb164, 5, none⟩ = some (.slice A1_5 l1_5.length c1_5)) (ds := []) #[false, false, false, false, false] (by kernel_rfl) rfl rfl ⟨(blk_cell BK209.out 0).trans rfl, (blk_cell BK209.out 1).trans rfl, (blk_cell BK209.out 2).trans rfl, (blk_cell BK209.out 3).trans rfl, (blk_cell BK209.out 4).trans rfl, (blk_cell BK209.out 5).trans rfl, (blk_cell BK164.out 0).trans rfl, (blk_cell BK164.out 1).trans rfl, (blk_cell BK164.out 2).trans rfl, (blk_cell BK164.out 3).trans rfl, (blk_cell BK164.out 4).trans rfl, (blk_cell BK164.out 5).trans rfl⟩ (fun hHeld => ?_)
            generalize w148.drew = w_ at HO173 HO176 HO183 HO186 HO194 HO197 HO205 HO208 HO217 HO220 BK163 BK164 BK198 BK209 HB hHeld ⊢
            refine take_ (i := 0) (N := some 40) (v := ?_) (a' := ?_) #[true, false, false, false, false] rfl rfl (by kernel_rfl) (fun _ _ _ h => h) (Or.inl ⟨by rfl, ?_⟩) hHeld ?_ ?_
            rotate_left
            · rintro w' ⟨s0, s1, s2, s3, s4, s5, s6, s7, s8, s9, s10, s11⟩
              go_simp
              with_reducible rfl
            rotate_left
            · simp only [Act.put, List.setIfInBounds_toArray, List.set_cons_zero, List.set_cons_succ, i64_w, i32_w]
              rfl
            refine take_ (i := 1) (N := some 41) (v := ?_) (a' := ?_) #[true, true, false, false, false] rfl rfl (by kernel_rfl) (fun _ _ _ h => h) (Or.inl ⟨by rfl, ?_⟩) hHeld ?_ ?_
            rotate_left
            · rintro w' ⟨s0, s1, s2, s3, s4, s5, s6, s7, s8, s9, s10, s11⟩
              go_simp
              with_reducible rfl
            rotate_left
            · simp only [Act.put, List.setIfInBounds_toArray, List.set_cons_zero, List.set_cons_succ, i64_w, i32_w]
              rfl
            refine one_ (i := 2) (N := some 42) #[true, true, true, false, false] rfl rfl (by kernel_rfl) (by decide) (fun K hK => ?_)
            refine goes_ Try.func10 (by kernel_rfl) rfl #[.agg mm6q4_] (by rfl) rfl rfl (by mm6q8_) ?_
            with_reducible refine (laws_toPaper.calls k a1_0 a1_1 a1_2 a1_3 _ _ l1_4 _ _ l1_5 t222 t223 t224 t225 t226 t229 _ ?side1 ?side2 ?side3 ?side4 A63.out).mono ?_
            (mm6q19_)
            (case side2 => exact HC1_4.out)
            (mm6q20_)
            (case side4 => exact HC1_5.out)
            rintro e w_ ⟨v227, v230, rfl, ho0, ho1, hb⟩
            refine ⟨_, rfl, ?_⟩
            have n0_ := Aside0.mk (Kd.R_elder' (by (mm6q1_); exact HO173.out) (Kd.R_base ho0) hb)
            have n1_ := Aside0.mk (Kd.R_elder' (by (mm6q1_); exact HO176.out) (Kd.R_base ho1) hb)
            have n2_ := Aside0.mk (Kd.R_elder' (by (mm6q1_); exact HO183.out) (Kd.R_base ho0) hb)
            have n3_ := Aside0.mk (Kd.R_elder' (by (mm6q1_); exact HO186.out) (Kd.R_base ho1) hb)
            have n4_ := Aside0.mk (Kd.R_elder' (by (mm6q1_); exact HO194.out) (Kd.R_base ho0) hb)
            have n5_ := Aside0.mk (Kd.R_elder' (by (mm6q1_); exact HO197.out) (Kd.R_base ho1) hb)
            have n6_ := Aside0.mk (Kd.R_elder' (by (mm6q1_); exact HO205.out) (Kd.R_base ho0) hb)
            have n7_ := Aside0.mk (Kd.R_elder' (by (mm6q1_); exact HO208.out) (Kd.R_base ho1) hb)
            have n8_ := Aside0.mk (Kd.R_elder' (by (mm6q1_); exact HO217.out) (Kd.R_base ho0) hb)
            have n9_ := Aside0.mk (Kd.R_elder' (by (mm6q1_); exact HO220.out) (Kd.R_base ho1) hb)
            have n10_ := Aside0.mk (Kd.R_lower (Kd.R_new' (Kd.R_new' (Kd.R_new' (Kd.R_new' (Kd.R_new' ho0 (Kd.R_lt (by (mm6q1_); exact HO173.out))) (Kd.R_lt (by (mm6q1_); exact HO183.out))) (Kd.R_lt (by (mm6q1_); exact HO194.out))) (Kd.R_lt (by (mm6q1_); exact HO205.out))) (Kd.R_lt (by (mm6q1_); exact HO217.out))) (below_size (by repeat (mm6q7_))))
            have n11_ := Aside0.mk (Kd.R_lower (Kd.R_new' (Kd.R_new' (Kd.R_new' (Kd.R_new' (Kd.R_new' ho1 (Kd.R_lt (by (mm6q1_); exact HO176.out))) (Kd.R_lt (by (mm6q1_); exact HO186.out))) (Kd.R_lt (by (mm6q1_); exact HO197.out))) (Kd.R_lt (by (mm6q1_); exact HO208.out))) (Kd.R_lt (by (mm6q1_); exact HO220.out))) (below_size (by repeat (mm6q7_))))
            have n12_ := Aside0.mk (blk_below (g := gb163) (o := .cells mm6q2_ 25 (0, 0)) (by (mm6q0_); exact BK163.out) hb)
            have n13_ := Aside0.mk (blk_below (g := gb164) (o := .cells mm6q4_ 25 (0, 0)) (by (mm6q0_); exact BK164.out) hb)
            have n14_ := Aside0.mk (blk_below (g := gb198) (o := .cells mm6q15_ 30 (0, 0)) (by (mm6q0_); exact BK198.out) hb)
            have n15_ := Aside0.mk (blk_below (g := gb209) (o := .cells mm6q27_ 30 (0, 0)) (by (mm6q0_); exact BK209.out) hb)
            have n16_ := Aside0.mk (below_step (by repeat (mm6q7_)) hb)
            clear HO173
            clear HO176
            clear HO183
            clear HO186
            clear HO194
            clear HO197
            clear HO205
            clear HO208
            clear HO217
            clear HO220
            clear BK163
            clear BK164
            clear BK198
            clear BK209
            clear HB
            have HO173 := n0_
            have HO176 := n1_
            have HO183 := n2_
            have HO186 := n3_
            have HO194 := n4_
            have HO197 := n5_
            have HO205 := n6_
            have HO208 := n7_
            have HO217 := n8_
            have HO220 := n9_
            have HO228 := n10_
            have HO231 := n11_
            have BK163 := n12_
            have BK164 := n13_
            have BK198 := n14_
            have BK209 := n15_
            have HB := n16_
            clear n0_ n1_ n2_ n3_ n4_ n5_ n6_ n7_ n8_ n9_ n10_ n11_ n12_ n13_ n14_ n15_ n16_
            (try clear hb)
            (try clear hb2)
            (try clear hk)
            (try clear hi)
            (try clear ho0)
            (try clear ho1)
            obtain ⟨Ao151, co151, eo151⟩ := Kd.R_slice HO228.out
            (first | subst eo151 | (injection eo151 with f1_ f2_ f3_; have f4_ := f1_.symm; have f5_ := f3_.symm; clear f1_ f2_ f3_; subst f4_; subst f5_))
            obtain ⟨Ao152, co152, eo152⟩ := Kd.R_slice HO231.out
            (first | subst eo152 | (injection eo152 with f1_ f2_ f3_; have f4_ := f1_.symm; have f5_ := f3_.symm; clear f1_ f2_ f3_; subst f4_; subst f5_))
            refine hK.out _ _ ⟨(blk_cell BK209.out 0).trans rfl, (blk_cell BK209.out 1).trans rfl, (blk_cell BK209.out 2).trans rfl, (blk_cell BK209.out 3).trans rfl, (blk_cell BK209.out 4).trans rfl, (blk_cell BK209.out 5).trans rfl, (blk_cell BK164.out 0).trans rfl, (blk_cell BK164.out 1).trans rfl, (blk_cell BK164.out 2).trans rfl, (blk_cell BK164.out 3).trans rfl, (blk_cell BK164.out 4).trans rfl, (blk_cell BK164.out 5).trans rfl⟩ (fun hHeld => ?_)
            clear hK K
            refine norm_ (a' := ?_) ?_ ?_
            rotate_left
            · show Act.put _ (some 42) _ = _
              simp only [Act.put, List.setIfInBounds_toArray, List.set_cons_zero, List.set_cons_succ, i64_w, i32_w]
              rfl
            refine one_ (i := 3) (N := some 43) #[true, true, true, true, false] rfl rfl (by kernel_rfl) (by decide) (fun K hK => ?_)
            refine goes_ Try.func12 (by kernel_rfl) rfl #[.agg mm6q27_, .agg #[.int .i64 t222, .string t223, .string t224, .int .i64 t225, .slice Ao151 t226.length co151, .slice Ao152 t229.length co152]] (by rfl) rfl rfl (by mm6q8_) ?_
            with_reducible refine (laws_eqPaper.calls k t199 t200 t201 t202 _ _ t203 _ _ t206 t222 t223 t224 t225 _ _ t226 _ _ t229 false _ ?side1 ?side2 ?side3 ?side4 ?side5 ?side6 ?side7 ?side8 A64.out).mono ?_
            (mm6q104_)
            (case side2 => exact (Kd.R_reads' HO205.out).2.1)
            (mm6q105_)
            (case side4 => exact (Kd.R_reads' HO208.out).2.1)
            (mm6q106_)
            (case side6 => exact (Kd.R_reads' HO228.out).2.1)
            (mm6q107_)
            (case side8 => exact (Kd.R_reads' HO231.out).2.1)
            rintro e w_ ⟨rfl, hb⟩
            refine ⟨_, rfl, ?_⟩
            have n0_ := Aside0.mk (Kd.R_below (by (mm6q1_); exact HO173.out) hb)
            have n1_ := Aside0.mk (Kd.R_below (by (mm6q1_); exact HO176.out) hb)
            have n2_ := Aside0.mk (Kd.R_below (by (mm6q1_); exact HO183.out) hb)
            have n3_ := Aside0.mk (Kd.R_below (by (mm6q1_); exact HO186.out) hb)
            have n4_ := Aside0.mk (Kd.R_below (by (mm6q1_); exact HO194.out) hb)
            have n5_ := Aside0.mk (Kd.R_below (by (mm6q1_); exact HO197.out) hb)
            have n6_ := Aside0.mk (Kd.R_below (by (mm6q1_); exact HO205.out) hb)
            have n7_ := Aside0.mk (Kd.R_below (by (mm6q1_); exact HO208.out) hb)
            have n8_ := Aside0.mk (Kd.R_below (by (mm6q1_); exact HO217.out) hb)
            have n9_ := Aside0.mk (Kd.R_below (by (mm6q1_); exact HO220.out) hb)
            have n10_ := Aside0.mk (Kd.R_below (by (mm6q1_); exact HO228.out) hb)
            have n11_ := Aside0.mk (Kd.R_below (by (mm6q1_); exact HO231.out) hb)
            have n12_ := Aside0.mk (blk_below (g := gb163) (o := .cells mm6q2_ 25 (0, 0)) (by (mm6q0_); exact BK163.out) hb)
            have n13_ := Aside0.mk (blk_below (g := gb164) (o := .cells mm6q4_ 25 (0, 0)) (by (mm6q0_); exact BK164.out) hb)
            have n14_ := Aside0.mk (blk_below (g := gb198) (o := .cells mm6q15_ 30 (0, 0)) (by (mm6q0_); exact BK198.out) hb)
            have n15_ := Aside0.mk (blk_below (g := gb209) (o := .cells mm6q27_ 30 (0, 0)) (by (mm6q0_); exact BK209.out) hb)
            have n16_ := Aside0.mk (below_step (by repeat (mm6q7_)) hb)
            clear HO173
            clear HO176
            clear HO183
            clear HO186
            clear HO194
            clear HO197
            clear HO205
            clear HO208
            clear HO217
            clear HO220
            clear HO228
            clear HO231
            clear BK163
            clear BK164
            clear BK198
            clear BK209
            clear HB
            have HO173 := n0_
            have HO176 := n1_
            have HO183 := n2_
            have HO186 := n3_
            have HO194 := n4_
            have HO197 := n5_
            have HO205 := n6_
            have HO208 := n7_
            have HO217 := n8_
            have HO220 := n9_
            have HO228 := n10_
            have HO231 := n11_
            have BK163 := n12_
            have BK164 := n13_
            have BK198 := n14_
            have BK209 := n15_
            have HB := n16_
            clear n0_ n1_ n2_ n3_ n4_ n5_ n6_ n7_ n8_ n9_ n10_ n11_ n12_ n13_ n14_ n15_ n16_
            (try clear hb)
            (try clear hb2)
            (try clear hk)
            (try clear hi)
            refine hK.out _ _ ⟨(blk_cell BK209.out 0).trans rfl, (blk_cell BK209.out 1).trans rfl, (blk_cell BK209.out 2).trans rfl, (blk_cell BK209.out 3).trans rfl, (blk_cell BK209.out 4).trans rfl, (blk_cell BK209.out 5).trans rfl, (blk_cell BK164.out 0).trans rfl, (blk_cell BK164.out 1).trans rfl, (blk_cell BK164.out 2).trans rfl, (blk_cell BK164.out 3).trans rfl, (blk_cell BK164.out 4).trans rfl, (blk_cell BK164.out 5).trans rfl⟩ (fun hHeld => ?_)
            clear hK K
            refine norm_ (a' := ?_) ?_ ?_
            rotate_left
            · show Act.put _ (some 43) _ = _
              simp only [Act.put, List.setIfInBounds_toArray, List.set_cons_zero, List.set_cons_succ, i64_w, i32_w]
              rfl
            refine pure_ (i := 4) (N := some 44) (v := ?_) (a' := ?_) #[true, true, true, true, true] rfl rfl (by kernel_rfl) (fun _ _ _ h => h) (Or.inl ⟨by rfl, ?_⟩) ?_ ?_
            rotate_left
            · intro w'
              go_simp
              with_reducible rfl
            rotate_left
            · simp only [Act.put, List.setIfInBounds_toArray, List.set_cons_zero, List.set_cons_succ, i64_w, i32_w]
              rfl
            refine done_ (by kernel_rfl) ?_
            try go_wp2
            go_ret
            exact ⟨by first | rfl | (simp [errW_none, errW_some] <;> rfl) | (simp [*, errW_none, errW_some] <;> rfl), by repeat (mm6q7_)⟩
        · replace c62 := Bool.eq_false_iff.mpr c62
          subst c62
          have H1 : (some false) = some r := by rw [if_neg (show ¬ (false = true) by decide)] at H; exact H
          clear H
          have H := H1
          clear H1
          obtain rfl := Option.some.inj H
          go_enter Try.func3, Try.ntmps3
          try go_wp2_with (first | (mm6q9_) | ((with_reducible refine gate_dst (N := 3) rfl ?_); refine box_event ?hg (N := 3) ?hd (cs := mm6q4_) (t := 25) ?hr ?_; (case hd => rfl); (case hg => rfl); (mm6q31_); intro gb164 hg w155 hbox hb; have n0_ := Aside0.mk (blk_below (g := gb163) (o := .cells mm6q2_ 25 (0, 0)) (by (mm6q0_); exact BK163.out) hb); have n1_ := Aside0.mk (below_step (by mm6q10_) hb); have n2_ := Aside0.mk (hbox); have n3_ := Aside0.mk ((by rw [hg]; exact (below_size (by mm6q10_)) : w.heap.size ≤ gb164)); have n4_ := Aside0.mk ((by rw [hg]; exact (below_size (by mm6q10_)) : w.heap.size ≤ gb164)); have n5_ := Aside0.mk ((by rw [hg]; exact Nat.ne_of_lt (blk_lt (g := gb163) (o := .cells mm6q2_ 25 (0, 0)) (by (mm6q0_); exact BK163.out)) : gb163 ≠ gb164)); have n6_ := Aside0.mk ((by rw [hg]; exact Nat.ne_of_gt (blk_lt (g := gb163) (o := .cells mm6q2_ 25 (0, 0)) (by (mm6q0_); exact BK163.out)) : gb164 ≠ gb163)); clear BK163; clear HB; have BK163 := n0_; have HB := n1_; have BK164 := n2_; have GW164 := n3_; have GE164 := n4_; have NB163_164 := n5_; have NB164_163 := n6_; clear n0_ n1_ n2_ n3_ n4_ n5_ n6_; clear hb hbox hg; have hnb156 := NB163_164.out; have hnc156 := NB164_163.out; have hcz157_0 : w155.cell? ⟨gb163, 0, none⟩ = some (.int .i64 a0_0) := (blk_cell BK163.out 0).trans rfl; have hcz157_1 : w155.cell? ⟨gb163, 1, none⟩ = some (.string a0_1) := (blk_cell BK163.out 1).trans rfl; have hcz157_2 : w155.cell? ⟨gb163, 2, none⟩ = some (.string a0_2) := (blk_cell BK163.out 2).trans rfl; have hcz157_3 : w155.cell? ⟨gb163, 3, none⟩ = some (.int .i64 a0_3) := (blk_cell BK163.out 3).trans rfl; have hcz157_4 : w155.cell? ⟨gb163, 4, none⟩ = some (.slice A0_4 l0_4.length c0_4) := (blk_cell BK163.out 4).trans rfl; have hcz157_5 : w155.cell? ⟨gb163, 5, none⟩ = some (.slice A0_5 l0_5.length c0_5) := (blk_cell BK163.out 5).trans rfl; have hfz157_0 := blk_frozen BK163.out 0; have hfz157_1 := blk_frozen BK163.out 1; have hfz157_2 := blk_frozen BK163.out 2; have hfz157_3 := blk_frozen BK163.out 3; have hfz157_4 := blk_frozen BK163.out 4; have hfz157_5 := blk_frozen BK163.out 5) | ((with_reducible refine gate_callee (f := 8) rfl ?_); refine goesL_ (some 12) rfl rfl Try.func8 (by kernel_rfl) rfl #[.agg mm6q2_, .int .i64 1048576] rfl (by mm6q8_) ?_; (mm6q29_); (mm6q16_); (case side2 => exact HC0_4.out); (mm6q17_); (case side4 => exact HC0_5.out); rintro e w158 ⟨rfl, hb⟩; refine ⟨_, rfl, ?_⟩; have n0_ := Aside0.mk (blk_below (g := gb163) (o := .cells mm6q2_ 25 (0, 0)) (by (mm6q0_); exact BK163.out) hb); have n1_ := Aside0.mk (blk_below (g := gb164) (o := .cells mm6q4_ 25 (0, 0)) (by (mm6q0_); exact BK164.out) hb); have n2_ := Aside0.mk (below_step (by mm6q3_) hb); clear BK163; clear BK164; clear HB; have BK163 := n0_; have BK164 := n1_; have HB := n2_; clear n0_ n1_ n2_; (try clear hb); (try clear hb2); (try clear hk); (try clear hi); have hcz159_0 : w158.cell? ⟨gb164, 0, none⟩ = some (.int .i64 a1_0) := (blk_cell BK164.out 0).trans rfl; have hcz159_1 : w158.cell? ⟨gb164, 1, none⟩ = some (.string a1_1) := (blk_cell BK164.out 1).trans rfl; have hcz159_2 : w158.cell? ⟨gb164, 2, none⟩ = some (.string a1_2) := (blk_cell BK164.out 2).trans rfl; have hcz159_3 : w158.cell? ⟨gb164, 3, none⟩ = some (.int .i64 a1_3) := (blk_cell BK164.out 3).trans rfl; have hcz159_4 : w158.cell? ⟨gb164, 4, none⟩ = some (.slice A1_4 l1_4.length c1_4) := (blk_cell BK164.out 4).trans rfl; have hcz159_5 : w158.cell? ⟨gb164, 5, none⟩ = some (.slice A1_5 l1_5.length c1_5) := (blk_cell BK164.out 5).trans rfl; have hfz159_0 := blk_frozen BK164.out 0; have hfz159_1 := blk_frozen BK164.out 1; have hfz159_2 := blk_frozen BK164.out 2; have hfz159_3 := blk_frozen BK164.out 3; have hfz159_4 := blk_frozen BK164.out 4; have hfz159_5 := blk_frozen BK164.out 5) | ((with_reducible refine gate_callee (f := 8) rfl ?_); refine goesL_ (some 17) rfl rfl Try.func8 (by kernel_rfl) rfl #[.agg mm6q4_, .int .i64 t165] rfl (by mm6q8_) ?_; (mm6q73_); (mm6q19_); (case side2 => exact HC1_4.out); (mm6q20_); (case side4 => exact HC1_5.out); rintro e w160 ⟨rfl, hb⟩; refine ⟨_, rfl, ?_⟩; have n0_ := Aside0.mk (blk_below (g := gb163) (o := .cells mm6q2_ 25 (0, 0)) (by (mm6q0_); exact BK163.out) hb); have n1_ := Aside0.mk (blk_below (g := gb164) (o := .cells mm6q4_ 25 (0, 0)) (by (mm6q0_); exact BK164.out) hb); have n2_ := Aside0.mk (below_step (by mm6q3_) hb); clear BK163; clear BK164; clear HB; have BK163 := n0_; have BK164 := n1_; have HB := n2_; clear n0_ n1_ n2_; (try clear hb); (try clear hb2); (try clear hk); (try clear hi)))
          have n0_ := Aside0.mk (blk_drew BK163.out)
          have n1_ := Aside0.mk (blk_drew BK164.out)
          have n2_ := Aside0.mk (below_drew1 HB.out)
          clear BK163
          clear BK164
          clear HB
          have BK163 := n0_
          have BK164 := n1_
          have HB := n2_
          clear n0_ n1_ n2_
          refine start_ (n := 6) (S := fun w' => w'.cell? ⟨gb163, 0, none⟩ = some (.int .i64 a0_0) ∧ w'.cell? ⟨gb163, 1, none⟩ = some (.string a0_1) ∧ w'.cell? ⟨gb163, 2, none⟩ = some (.string a0_2) ∧ w'.cell? ⟨gb163, 3, none⟩ = some (.int .i64 a0_3) ∧ w'.cell? ⟨gb163, 4, none⟩ = some (.slice A0_4 l0_4.length c0_4) ∧ w'.cell? ⟨gb163, 5, none⟩ = some (.slice A0_5 l0_5.length c0_5) ∧ w'.cell? ⟨gb164, 0, none⟩ = some (.int .i64 a1_0) ∧ w'.cell? ⟨gb164, 1, none⟩ = some (.string a1_1) ∧ w'.cell? ⟨gb164, 2, none⟩ = some (.string a1_2) ∧ w'.cell? ⟨gb164, 3, none⟩ = some (.int .i64 a1_3) ∧ w'.cell? ⟨gb164, 4, none⟩ = some (.slice A1_4 l1_4.length c1_4) ∧ w'.cell? ⟨gb164, 5, none⟩ = some (.slice A1_5 l1_5.length c1_5)) (ds := []) #[false, false, false, false, false, false] (by kernel_rfl) rfl rfl ⟨(blk_cell BK163.out 0).trans rfl, (blk_cell BK163.out 1).trans rfl, (blk_cell BK163.out 2).trans rfl, (blk_cell BK163.out 3).trans rfl, (blk_cell BK163.out 4).trans rfl, (blk_cell BK163.out 5).trans rfl, (blk_cell BK164.out 0).trans rfl, (blk_cell BK164.out 1).trans rfl, (blk_cell BK164.out 2).trans rfl, (blk_cell BK164.out 3).trans rfl, (blk_cell BK164.out 4).trans rfl, (blk_cell BK164.out 5).trans rfl⟩ (fun hHeld => ?_)
          generalize w160.drew = w_ at BK163 BK164 HB hHeld ⊢
          refine take_ (i := 0) (N := some 20) (v := ?_) (a' := ?_) #[true, false, false, false, false, false] rfl rfl (by kernel_rfl) (fun _ _ _ h => h) (Or.inl ⟨by rfl, ?_⟩) hHeld ?_ ?_
          rotate_left
          · rintro w' ⟨s0, s1, s2, s3, s4, s5, s6, s7, s8, s9, s10, s11⟩
            go_simp
            with_reducible rfl
          rotate_left
          · simp only [Act.put, List.setIfInBounds_toArray, List.set_cons_zero, List.set_cons_succ, i64_w, i32_w]
            rfl
          refine take_ (i := 2) (N := some 22) (v := ?_) (a' := ?_) #[true, false, true, false, false, false] rfl rfl (by kernel_rfl) (fun _ _ _ h => h) (Or.inl ⟨by rfl, ?_⟩) hHeld ?_ ?_
          rotate_left
          · rintro w' ⟨s0, s1, s2, s3, s4, s5, s6, s7, s8, s9, s10, s11⟩
            go_simp
            with_reducible rfl
          rotate_left
          · simp only [Act.put, List.setIfInBounds_toArray, List.set_cons_zero, List.set_cons_succ, i64_w, i32_w]
            rfl
          refine one_ (i := 1) (N := some 21) #[true, true, true, false, false, false] rfl rfl (by kernel_rfl) (by decide) (fun K hK => ?_)
          refine goes_ Try.func10 (by kernel_rfl) rfl #[.agg mm6q2_] (by rfl) rfl rfl (by mm6q8_) ?_
          with_reducible refine (laws_toPaper.calls k a0_0 a0_1 a0_2 a0_3 _ _ l0_4 _ _ l0_5 t167 t168 t169 t170 t171 t174 _ ?side1 ?side2 ?side3 ?side4 A19.out).mono ?_
          (mm6q16_)
          (case side2 => exact HC0_4.out)
          (mm6q17_)
          (case side4 => exact HC0_5.out)
          rintro e w_ ⟨v172, v175, rfl, ho0, ho1, hb⟩
          refine ⟨_, rfl, ?_⟩
          have n0_ := Aside0.mk (Kd.R_lower ho0 (below_size (by mm6q3_)))
          have n1_ := Aside0.mk (Kd.R_lower ho1 (below_size (by mm6q3_)))
          have n2_ := Aside0.mk (blk_below (g := gb163) (o := .cells mm6q2_ 25 (0, 0)) (by (mm6q0_); exact BK163.out) hb)
          have n3_ := Aside0.mk (blk_below (g := gb164) (o := .cells mm6q4_ 25 (0, 0)) (by (mm6q0_); exact BK164.out) hb)
          have n4_ := Aside0.mk (below_step (by mm6q3_) hb)
          clear BK163
          clear BK164
          clear HB
          have HO173 := n0_
          have HO176 := n1_
          have BK163 := n2_
          have BK164 := n3_
          have HB := n4_
          clear n0_ n1_ n2_ n3_ n4_
          (try clear hb)
          (try clear hb2)
          (try clear hk)
          (try clear hi)
          (try clear ho0)
          (try clear ho1)
          refine hK.out _ _ ⟨(blk_cell BK163.out 0).trans rfl, (blk_cell BK163.out 1).trans rfl, (blk_cell BK163.out 2).trans rfl, (blk_cell BK163.out 3).trans rfl, (blk_cell BK163.out 4).trans rfl, (blk_cell BK163.out 5).trans rfl, (blk_cell BK164.out 0).trans rfl, (blk_cell BK164.out 1).trans rfl, (blk_cell BK164.out 2).trans rfl, (blk_cell BK164.out 3).trans rfl, (blk_cell BK164.out 4).trans rfl, (blk_cell BK164.out 5).trans rfl⟩ (fun hHeld => ?_)
          clear hK K
          refine norm_ (a' := ?_) ?_ ?_
          rotate_left
          · show Act.put _ (some 21) _ = _
            simp only [Act.put, List.setIfInBounds_toArray, List.set_cons_zero, List.set_cons_succ, i64_w, i32_w]
            rfl
          refine one_ (i := 3) (N := some 23) #[true, true, true, true, false, false] rfl rfl (by kernel_rfl) (by decide) (fun K hK => ?_)
          refine goes_ Try.func10 (by kernel_rfl) rfl #[.agg mm6q4_] (by rfl) rfl rfl (by mm6q8_) ?_
          with_reducible refine (laws_toPaper.calls k a1_0 a1_1 a1_2 a1_3 _ _ l1_4 _ _ l1_5 t177 t178 t179 t180 t181 t184 _ ?side1 ?side2 ?side3 ?side4 A20.out).mono ?_
          (mm6q19_)
          (case side2 => exact HC1_4.out)
          (mm6q20_)
          (case side4 => exact HC1_5.out)
          rintro e w_ ⟨v182, v185, rfl, ho0, ho1, hb⟩
          refine ⟨_, rfl, ?_⟩
          have n0_ := Aside0.mk (Kd.R_elder' (by (mm6q1_); exact HO173.out) (Kd.R_base ho0) hb)
          have n1_ := Aside0.mk (Kd.R_elder' (by (mm6q1_); exact HO176.out) (Kd.R_base ho1) hb)
          have n2_ := Aside0.mk (Kd.R_lower (Kd.R_new' ho0 (Kd.R_lt (by (mm6q1_); exact HO173.out))) (below_size (by mm6q3_)))
          have n3_ := Aside0.mk (Kd.R_lower (Kd.R_new' ho1 (Kd.R_lt (by (mm6q1_); exact HO176.out))) (below_size (by mm6q3_)))
          have n4_ := Aside0.mk (blk_below (g := gb163) (o := .cells mm6q2_ 25 (0, 0)) (by (mm6q0_); exact BK163.out) hb)
          have n5_ := Aside0.mk (blk_below (g := gb164) (o := .cells mm6q4_ 25 (0, 0)) (by (mm6q0_); exact BK164.out) hb)
          have n6_ := Aside0.mk (below_step (by mm6q3_) hb)
          clear HO173
          clear HO176
          clear BK163
          clear BK164
          clear HB
          have HO173 := n0_
          have HO176 := n1_
          have HO183 := n2_
          have HO186 := n3_
          have BK163 := n4_
          have BK164 := n5_
          have HB := n6_
          clear n0_ n1_ n2_ n3_ n4_ n5_ n6_
          (try clear hb)
          (try clear hb2)
          (try clear hk)
          (try clear hi)
          (try clear ho0)
          (try clear ho1)
          obtain ⟨Ao164, co164, eo164⟩ := Kd.R_slice HO173.out
          (first | subst eo164 | (injection eo164 with f1_ f2_ f3_; have f4_ := f1_.symm; have f5_ := f3_.symm; clear f1_ f2_ f3_; subst f4_; subst f5_))
          obtain ⟨Ao165, co165, eo165⟩ := Kd.R_slice HO176.out
          (first | subst eo165 | (injection eo165 with f1_ f2_ f3_; have f4_ := f1_.symm; have f5_ := f3_.symm; clear f1_ f2_ f3_; subst f4_; subst f5_))
          obtain ⟨Ao166, co166, eo166⟩ := Kd.R_slice HO183.out
          (first | subst eo166 | (injection eo166 with f1_ f2_ f3_; have f4_ := f1_.symm; have f5_ := f3_.symm; clear f1_ f2_ f3_; subst f4_; subst f5_))
          obtain ⟨Ao167, co167, eo167⟩ := Kd.R_slice HO186.out
          (first | subst eo167 | (injection eo167 with f1_ f2_ f3_; have f4_ := f1_.symm; have f5_ := f3_.symm; clear f1_ f2_ f3_; subst f4_; subst f5_))
          refine hK.out _ _ ⟨(blk_cell BK163.out 0).trans rfl, (blk_cell BK163.out 1).trans rfl, (blk_cell BK163.out 2).trans rfl, (blk_cell BK163.out 3).trans rfl, (blk_cell BK163.out 4).trans rfl, (blk_cell BK163.out 5).trans rfl, (blk_cell BK164.out 0).trans rfl, (blk_cell BK164.out 1).trans rfl, (blk_cell BK164.out 2).trans rfl, (blk_cell BK164.out 3).trans rfl, (blk_cell BK164.out 4).trans rfl, (blk_cell BK164.out 5).trans rfl⟩ (fun hHeld => ?_)
          clear hK K
          refine norm_ (a' := ?_) ?_ ?_
          rotate_left
          · show Act.put _ (some 23) _ = _
            simp only [Act.put, List.setIfInBounds_toArray, List.set_cons_zero, List.set_cons_succ, i64_w, i32_w]
            rfl
          refine one_ (i := 4) (N := some 24) #[true, true, true, true, true, false] rfl rfl (by kernel_rfl) (by decide) (fun K hK => ?_)
          refine goes_ Try.func9 (by kernel_rfl) rfl #[.agg #[.int .i64 t167, .string t168, .string t169, .int .i64 t170, .slice Ao164 t171.length co164, .slice Ao165 t174.length co165], .agg #[.int .i64 t177, .string t178, .string t179, .int .i64 t180, .slice Ao166 t181.length co166, .slice Ao167 t184.length co167]] (by rfl) rfl rfl (by mm6q8_) ?_
          with_reducible refine (spec_PaperSame.calls k t167 t168 t169 t170 _ _ t171 _ _ t174 t177 t178 t179 t180 _ _ t181 _ _ t184 t187 _ ?side1 ?side2 ?side3 ?side4 ?side5 ?side6 ?side7 ?side8 A21.out).mono ?_
          (mm6q80_)
          (mm6q97_)
          (mm6q81_)
          (mm6q98_)
          (mm6q82_)
          (mm6q99_)
          (mm6q83_)
          (mm6q100_)
          rintro e w168 ⟨rfl, hb⟩
          refine ⟨_, rfl, ?_⟩
          have n0_ := Aside0.mk (Kd.R_below (by (mm6q1_); exact HO173.out) hb)
          have n1_ := Aside0.mk (Kd.R_below (by (mm6q1_); exact HO176.out) hb)
          have n2_ := Aside0.mk (Kd.R_below (by (mm6q1_); exact HO183.out) hb)
          have n3_ := Aside0.mk (Kd.R_below (by (mm6q1_); exact HO186.out) hb)
          have n4_ := Aside0.mk (blk_below (g := gb163) (o := .cells mm6q2_ 25 (0, 0)) (by (mm6q0_); exact BK163.out) hb)
          have n5_ := Aside0.mk (blk_below (g := gb164) (o := .cells mm6q4_ 25 (0, 0)) (by (mm6q0_); exact BK164.out) hb)
          have n6_ := Aside0.mk (below_step (by mm6q3_) hb)
          clear HO173
          clear HO176
          clear HO183
          clear HO186
          clear BK163
          clear BK164
          clear HB
          have HO173 := n0_
          have HO176 := n1_
          have HO183 := n2_
          have HO186 := n3_
          have BK163 := n4_
          have BK164 := n5_
          have HB := n6_
          clear n0_ n1_ n2_ n3_ n4_ n5_ n6_
          (try clear hb)
          (try clear hb2)
          (try clear hk)
          (try clear hi)
          refine hK.out _ _ ⟨(blk_cell BK163.out 0).trans rfl, (blk_cell BK163.out 1).trans rfl, (blk_cell BK163.out 2).trans rfl, (blk_cell BK163.out 3).trans rfl, (blk_cell BK163.out 4).trans rfl, (blk_cell BK163.out 5).trans rfl, (blk_cell BK164.out 0).trans rfl, (blk_cell BK164.out 1).trans rfl, (blk_cell BK164.out 2).trans rfl, (blk_cell BK164.out 3).trans rfl, (blk_cell BK164.out 4).trans rfl, (blk_cell BK164.out 5).trans rfl⟩ (fun hHeld => ?_)
          clear hK K
          refine norm_ (a' := ?_) ?_ ?_
          rotate_left
          · show Act.put _ (some 24) _ = _
            simp only [Act.put, List.setIfInBounds_toArray, List.set_cons_zero, List.set_cons_succ, i64_w, i32_w]
            rfl
          refine pure_ (i := 5) (N := some 6) (v := ?_) (a' := ?_) #[true, true, true, true, true, true] rfl rfl (by kernel_rfl) (fun _ _ _ h => h) (Or.inl ⟨by rfl, ?_⟩) ?_ ?_
          rotate_left
          · intro w'
            go_simp
            with_reducible rfl
          rotate_left
          · simp only [Act.put, List.setIfInBounds_toArray, List.set_cons_zero, List.set_cons_succ, i64_w, i32_w]
            rfl
          refine done_ (by kernel_rfl) ?_
          have hcz169_0 : w168.cell? ⟨gb163, 0, none⟩ = some (.int .i64 a0_0) := (blk_cell BK163.out 0).trans rfl
          have hcz169_1 : w168.cell? ⟨gb163, 1, none⟩ = some (.string a0_1) := (blk_cell BK163.out 1).trans rfl
          have hcz169_2 : w168.cell? ⟨gb163, 2, none⟩ = some (.string a0_2) := (blk_cell BK163.out 2).trans rfl
          have hcz169_3 : w168.cell? ⟨gb163, 3, none⟩ = some (.int .i64 a0_3) := (blk_cell BK163.out 3).trans rfl
          have hcz169_4 : w168.cell? ⟨gb163, 4, none⟩ = some (.slice A0_4 l0_4.length c0_4) := (blk_cell BK163.out 4).trans rfl
          have hcz169_5 : w168.cell? ⟨gb163, 5, none⟩ = some (.slice A0_5 l0_5.length c0_5) := (blk_cell BK163.out 5).trans rfl
          have hfz169_0 := blk_frozen BK163.out 0
          have hfz169_1 := blk_frozen BK163.out 1
          have hfz169_2 := blk_frozen BK163.out 2
          have hfz169_3 := blk_frozen BK163.out 3
          have hfz169_4 := blk_frozen BK163.out 4
          have hfz169_5 := blk_frozen BK163.out 5
          try go_wp2_with (first | (mm6q5_) | ((with_reducible refine gate_dst (N := 7) rfl ?_); refine box_event ?hg (N := 7) ?hd (cs := mm6q14_) (t := 30) ?hr ?_; (case hd => rfl); (case hg => rfl); (mm6q31_); intro gb198 hg w171 hbox hb; have n0_ := Aside0.mk (Kd.R_below (by (mm6q1_); exact HO173.out) hb); have n1_ := Aside0.mk (Kd.R_below (by (mm6q1_); exact HO176.out) hb); have n2_ := Aside0.mk (Kd.R_below (by (mm6q1_); exact HO183.out) hb); have n3_ := Aside0.mk (Kd.R_below (by (mm6q1_); exact HO186.out) hb); have n4_ := Aside0.mk (Kd.R_below (by (mm6q1_); exact HO194.out) hb); have n5_ := Aside0.mk (Kd.R_below (by (mm6q1_); exact HO197.out) hb); have n6_ := Aside0.mk (blk_below (g := gb163) (o := .cells mm6q2_ 25 (0, 0)) (by (mm6q0_); exact BK163.out) hb); have n7_ := Aside0.mk (blk_below (g := gb164) (o := .cells mm6q4_ 25 (0, 0)) (by (mm6q0_); exact BK164.out) hb); have n8_ := Aside0.mk (below_step (by mm6q3_) hb); have n9_ := Aside0.mk (hbox); have n10_ := Aside0.mk ((by rw [hg]; exact (below_size (by mm6q3_)) : w.heap.size ≤ gb198)); have n11_ := Aside0.mk ((by rw [hg]; exact (below_size (by mm6q3_)) : w.heap.size ≤ gb198)); have n12_ := Aside0.mk ((by rw [hg]; exact Nat.ne_of_lt (blk_lt (g := gb163) (o := .cells mm6q2_ 25 (0, 0)) (by (mm6q0_); exact BK163.out)) : gb163 ≠ gb198)); have n13_ := Aside0.mk ((by rw [hg]; exact Nat.ne_of_gt (blk_lt (g := gb163) (o := .cells mm6q2_ 25 (0, 0)) (by (mm6q0_); exact BK163.out)) : gb198 ≠ gb163)); have n14_ := Aside0.mk ((by rw [hg]; exact Nat.ne_of_lt (blk_lt (g := gb164) (o := .cells mm6q4_ 25 (0, 0)) (by (mm6q0_); exact BK164.out)) : gb164 ≠ gb198)); have n15_ := Aside0.mk ((by rw [hg]; exact Nat.ne_of_gt (blk_lt (g := gb164) (o := .cells mm6q4_ 25 (0, 0)) (by (mm6q0_); exact BK164.out)) : gb198 ≠ gb164)); clear HO173; clear HO176; clear HO183; clear HO186; clear HO194; clear HO197; clear BK163; clear BK164; clear HB; have HO173 := n0_; have HO176 := n1_; have HO183 := n2_; have HO186 := n3_; have HO194 := n4_; have HO197 := n5_; have BK163 := n6_; have BK164 := n7_; have HB := n8_; have BK198 := n9_; have GW198 := n10_; have GE198 := n11_; have NB163_198 := n12_; have NB198_163 := n13_; have NB164_198 := n14_; have NB198_164 := n15_; clear n0_ n1_ n2_ n3_ n4_ n5_ n6_ n7_ n8_ n9_ n10_ n11_ n12_ n13_ n14_ n15_; clear hb hbox hg; have hnb172 := NB198_163.out; have hnc172 := NB163_198.out; have hnb173 := NB198_164.out; have hnc173 := NB164_198.out; have hcz174_0 : w171.cell? ⟨gb198, 0, none⟩ = some (.int .i64 0) := (blk_cell BK198.out 0).trans rfl; have hcz174_1 : w171.cell? ⟨gb198, 1, none⟩ = some (.string (⟨#[]⟩ : ByteArray)) := (blk_cell BK198.out 1).trans rfl; have hcz174_2 : w171.cell? ⟨gb198, 2, none⟩ = some (.string (⟨#[]⟩ : ByteArray)) := (blk_cell BK198.out 2).trans rfl; have hcz174_3 : w171.cell? ⟨gb198, 3, none⟩ = some (.int .i64 0) := (blk_cell BK198.out 3).trans rfl; have hcz174_4 : w171.cell? ⟨gb198, 4, none⟩ = some (.slice none 0 0) := (blk_cell BK198.out 4).trans rfl; have hcz174_5 : w171.cell? ⟨gb198, 5, none⟩ = some (.slice none 0 0) := (blk_cell BK198.out 5).trans rfl; have hfz174_0 := blk_frozen BK198.out 0; have hfz174_1 := blk_frozen BK198.out 1; have hfz174_2 := blk_frozen BK198.out 2; have hfz174_3 := blk_frozen BK198.out 3; have hfz174_4 := blk_frozen BK198.out 4; have hfz174_5 := blk_frozen BK198.out 5; obtain ⟨Ao175, co175, eo175⟩ := Kd.R_slice HO194.out; subst eo175; obtain ⟨Ao176, co176, eo176⟩ := Kd.R_slice HO197.out; subst eo176; have hcz177_0 : w171.cell? ⟨gb164, 0, none⟩ = some (.int .i64 a1_0) := (blk_cell BK164.out 0).trans rfl; have hcz177_1 : w171.cell? ⟨gb164, 1, none⟩ = some (.string a1_1) := (blk_cell BK164.out 1).trans rfl; have hcz177_2 : w171.cell? ⟨gb164, 2, none⟩ = some (.string a1_2) := (blk_cell BK164.out 2).trans rfl; have hcz177_3 : w171.cell? ⟨gb164, 3, none⟩ = some (.int .i64 a1_3) := (blk_cell BK164.out 3).trans rfl; have hcz177_4 : w171.cell? ⟨gb164, 4, none⟩ = some (.slice A1_4 l1_4.length c1_4) := (blk_cell BK164.out 4).trans rfl; have hcz177_5 : w171.cell? ⟨gb164, 5, none⟩ = some (.slice A1_5 l1_5.length c1_5) := (blk_cell BK164.out 5).trans rfl; have hfz177_0 := blk_frozen BK164.out 0; have hfz177_1 := blk_frozen BK164.out 1; have hfz177_2 := blk_frozen BK164.out 2; have hfz177_3 := blk_frozen BK164.out 3; have hfz177_4 := blk_frozen BK164.out 4; have hfz177_5 := blk_frozen BK164.out 5) | ((with_reducible refine gate_callee (f := 10) rfl ?_); refine goesL_ (some 28) rfl rfl Try.func10 (by kernel_rfl) rfl #[.agg mm6q4_] rfl (by mm6q8_) ?_; (mm6q74_); (mm6q95_); (case side2 => exact HC1_4.out); (mm6q96_); (case side4 => exact HC1_5.out); rintro e w_ ⟨v204, v207, rfl, ho0, ho1, hb⟩; refine ⟨_, rfl, ?_⟩; have n0_ := Aside0.mk (Kd.R_elder' (by mm6q43_) (Kd.R_base ho0) hb); have n1_ := Aside0.mk (Kd.R_elder' (by mm6q44_) (Kd.R_base ho1) hb); have n2_ := Aside0.mk (Kd.R_elder' (by mm6q45_) (Kd.R_base ho0) hb); have n3_ := Aside0.mk (Kd.R_elder' (by mm6q46_) (Kd.R_base ho1) hb); have n4_ := Aside0.mk (Kd.R_elder' (by mm6q47_) (Kd.R_base ho0) hb); have n5_ := Aside0.mk (Kd.R_elder' (by mm6q48_) (Kd.R_base ho1) hb); have n6_ := Aside0.mk (Kd.R_lower (Kd.R_new' (Kd.R_new' (Kd.R_new' ho0 (Kd.R_lt (by mm6q43_))) (Kd.R_lt (by mm6q45_))) (Kd.R_lt (by mm6q47_))) (below_size (by mm6q6_))); have n7_ := Aside0.mk (Kd.R_lower (Kd.R_new' (Kd.R_new' (Kd.R_new' ho1 (Kd.R_lt (by mm6q44_))) (Kd.R_lt (by mm6q46_))) (Kd.R_lt (by mm6q48_))) (below_size (by mm6q6_))); have n8_ := Aside0.mk (blk_below (g := gb163) (o := .cells mm6q2_ 25 (0, 0)) (by mm6q22_) hb); have n9_ := Aside0.mk (blk_below (g := gb164) (o := .cells mm6q4_ 25 (0, 0)) (by mm6q23_) hb); have n10_ := Aside0.mk (blk_below (g := gb198) (o := .cells mm6q21_ 30 (0, 0)) (by (mm6q0_); refine blk_put (cs := #[.int .i64 t188, .string t189, .string t190, .int .i64 t191, .slice Ao175 t192.length co175, .slice none 0 0]) ?_ 5 _ rfl; (mm6q0_); refine blk_put (cs := mm6q84_) ?_ 4 _ rfl; (mm6q0_); refine blk_put (cs := mm6q86_) ?_ 3 _ rfl; (mm6q0_); refine blk_put (cs := mm6q78_) ?_ 2 _ rfl; (mm6q0_); refine blk_put (cs := mm6q76_) ?_ 1 _ rfl; (mm6q0_); refine blk_put (cs := mm6q14_) ?_ 0 _ rfl; (mm6q0_); exact BK198.out) hb); have n11_ := Aside0.mk (below_step (by mm6q6_) hb); clear HO173; clear HO176; clear HO183; clear HO186; clear HO194; clear HO197; clear BK163; clear BK164; clear BK198; clear HB; have HO173 := n0_; have HO176 := n1_; have HO183 := n2_; have HO186 := n3_; have HO194 := n4_; have HO197 := n5_; have HO205 := n6_; have HO208 := n7_; have BK163 := n8_; have BK164 := n9_; have BK198 := n10_; have HB := n11_; clear n0_ n1_ n2_ n3_ n4_ n5_ n6_ n7_ n8_ n9_ n10_ n11_; (try clear hb); (try clear hb2); (try clear hk); (try clear hi); (try clear ho0); (try clear ho1)) | ((with_reducible refine gate_dst (N := 8) rfl ?_); refine box_event ?hg (N := 8) ?hd (cs := mm6q14_) (t := 30) ?hr ?_; (case hd => rfl); (case hg => rfl); (mm6q31_); intro gb209 hg w179 hbox hb; have n0_ := Aside0.mk (Kd.R_below (by (mm6q1_); exact HO173.out) hb); have n1_ := Aside0.mk (Kd.R_below (by (mm6q1_); exact HO176.out) hb); have n2_ := Aside0.mk (Kd.R_below (by (mm6q1_); exact HO183.out) hb); have n3_ := Aside0.mk (Kd.R_below (by (mm6q1_); exact HO186.out) hb); have n4_ := Aside0.mk (Kd.R_below (by (mm6q1_); exact HO194.out) hb); have n5_ := Aside0.mk (Kd.R_below (by (mm6q1_); exact HO197.out) hb); have n6_ := Aside0.mk (Kd.R_below (by (mm6q1_); exact HO205.out) hb); have n7_ := Aside0.mk (Kd.R_below (by (mm6q1_); exact HO208.out) hb); have n8_ := Aside0.mk (blk_below (g := gb163) (o := .cells mm6q2_ 25 (0, 0)) (by (mm6q0_); exact BK163.out) hb); have n9_ := Aside0.mk (blk_below (g := gb164) (o := .cells mm6q4_ 25 (0, 0)) (by (mm6q0_); exact BK164.out) hb); have n10_ := Aside0.mk (blk_below (g := gb198) (o := .cells mm6q21_ 30 (0, 0)) (by (mm6q0_); exact BK198.out) hb); have n11_ := Aside0.mk (below_step (by mm6q6_) hb); have n12_ := Aside0.mk (hbox); have n13_ := Aside0.mk ((by rw [hg]; exact (below_size (by mm6q6_)) : w.heap.size ≤ gb209)); have n14_ := Aside0.mk ((by rw [hg]; exact (below_size (by mm6q6_)) : w.heap.size ≤ gb209)); have n15_ := Aside0.mk ((by rw [hg]; exact Nat.ne_of_lt (blk_lt (g := gb163) (o := .cells mm6q2_ 25 (0, 0)) (by (mm6q0_); exact BK163.out)) : gb163 ≠ gb209)); have n16_ := Aside0.mk ((by rw [hg]; exact Nat.ne_of_gt (blk_lt (g := gb163) (o := .cells mm6q2_ 25 (0, 0)) (by (mm6q0_); exact BK163.out)) : gb209 ≠ gb163)); have n17_ := Aside0.mk ((by rw [hg]; exact Nat.ne_of_lt (blk_lt (g := gb164) (o := .cells mm6q4_ 25 (0, 0)) (by (mm6q0_); exact BK164.out)) : gb164 ≠ gb209)); have n18_ := Aside0.mk ((by rw [hg]; exact Nat.ne_of_gt (blk_lt (g := gb164) (o := .cells mm6q4_ 25 (0, 0)) (by (mm6q0_); exact BK164.out)) : gb209 ≠ gb164)); have n19_ := Aside0.mk ((by rw [hg]; exact Nat.ne_of_lt (blk_lt (g := gb198) (o := .cells mm6q21_ 30 (0, 0)) (by (mm6q0_); exact BK198.out)) : gb198 ≠ gb209)); have n20_ := Aside0.mk ((by rw [hg]; exact Nat.ne_of_gt (blk_lt (g := gb198) (o := .cells mm6q21_ 30 (0, 0)) (by (mm6q0_); exact BK198.out)) : gb209 ≠ gb198)); clear HO173; clear HO176; clear HO183; clear HO186; clear HO194; clear HO197; clear HO205; clear HO208; clear BK163; clear BK164; clear BK198; clear HB; have HO173 := n0_; have HO176 := n1_; have HO183 := n2_; have HO186 := n3_; have HO194 := n4_; have HO197 := n5_; have HO205 := n6_; have HO208 := n7_; have BK163 := n8_; have BK164 := n9_; have BK198 := n10_; have HB := n11_; have BK209 := n12_; have GW209 := n13_; have GE209 := n14_; have NB163_209 := n15_; have NB209_163 := n16_; have NB164_209 := n17_; have NB209_164 := n18_; have NB198_209 := n19_; have NB209_198 := n20_; clear n0_ n1_ n2_ n3_ n4_ n5_ n6_ n7_ n8_ n9_ n10_ n11_ n12_ n13_ n14_ n15_ n16_ n17_ n18_ n19_ n20_; clear hb hbox hg; have hnb180 := NB209_163.out; have hnc180 := NB163_209.out; have hnb181 := NB209_164.out; have hnc181 := NB164_209.out; have hnb182 := NB209_198.out; have hnc182 := NB198_209.out; have hcz183_0 : w179.cell? ⟨gb209, 0, none⟩ = some (.int .i64 0) := (blk_cell BK209.out 0).trans rfl; have hcz183_1 : w179.cell? ⟨gb209, 1, none⟩ = some (.string (⟨#[]⟩ : ByteArray)) := (blk_cell BK209.out 1).trans rfl; have hcz183_2 : w179.cell? ⟨gb209, 2, none⟩ = some (.string (⟨#[]⟩ : ByteArray)) := (blk_cell BK209.out 2).trans rfl; have hcz183_3 : w179.cell? ⟨gb209, 3, none⟩ = some (.int .i64 0) := (blk_cell BK209.out 3).trans rfl; have hcz183_4 : w179.cell? ⟨gb209, 4, none⟩ = some (.slice none 0 0) := (blk_cell BK209.out 4).trans rfl; have hcz183_5 : w179.cell? ⟨gb209, 5, none⟩ = some (.slice none 0 0) := (blk_cell BK209.out 5).trans rfl; have hfz183_0 := blk_frozen BK209.out 0; have hfz183_1 := blk_frozen BK209.out 1; have hfz183_2 := blk_frozen BK209.out 2; have hfz183_3 := blk_frozen BK209.out 3; have hfz183_4 := blk_frozen BK209.out 4; have hfz183_5 := blk_frozen BK209.out 5; obtain ⟨Ao184, co184, eo184⟩ := Kd.R_slice HO205.out; subst eo184; obtain ⟨Ao185, co185, eo185⟩ := Kd.R_slice HO208.out; subst eo185; have hcz186_0 : w179.cell? ⟨gb198, 0, none⟩ = some (.int .i64 t188) := (blk_cell BK198.out 0).trans rfl; have hcz186_1 : w179.cell? ⟨gb198, 1, none⟩ = some (.string t189) := (blk_cell BK198.out 1).trans rfl; have hcz186_2 : w179.cell? ⟨gb198, 2, none⟩ = some (.string t190) := (blk_cell BK198.out 2).trans rfl; have hcz186_3 : w179.cell? ⟨gb198, 3, none⟩ = some (.int .i64 t191) := (blk_cell BK198.out 3).trans rfl; have hcz186_4 : w179.cell? ⟨gb198, 4, none⟩ = some (.slice Ao175 t192.length co175) := (blk_cell BK198.out 4).trans rfl; have hcz186_5 : w179.cell? ⟨gb198, 5, none⟩ = some (.slice Ao176 t195.length co176) := (blk_cell BK198.out 5).trans rfl; have hfz186_0 := blk_frozen BK198.out 0; have hfz186_1 := blk_frozen BK198.out 1; have hfz186_2 := blk_frozen BK198.out 2; have hfz186_3 := blk_frozen BK198.out 3; have hfz186_4 := blk_frozen BK198.out 4; have hfz186_5 := blk_frozen BK198.out 5) | ((with_reducible refine gate_callee (f := 11) rfl ?_); refine goesL_ (some 31) rfl rfl Try.func11 (by kernel_rfl) rfl #[.agg mm6q21_, .agg mm6q75_] rfl (by mm6q8_) ?_; (mm6q30_); (case side1 => refine (Kd.R_reads' (e := 9) (base := w.heap.size) (ok := fun k_ => (((True ∧ some k_ ≠ (.slice Ao164 t171.length co164 : Value).ownBlock) ∧ some k_ ≠ (.slice Ao166 t181.length co166 : Value).ownBlock) ∧ some k_ ≠ (.slice Ao184 t203.length co184 : Value).ownBlock)) (n := t192.length) (c := co175) ?_).2.2; exact (by mm6q49_)); (mm6q88_); (case side3 => refine (Kd.R_reads' (e := 71) (base := w.heap.size) (ok := fun k_ => (((True ∧ some k_ ≠ (.slice Ao165 t174.length co165 : Value).ownBlock) ∧ some k_ ≠ (.slice Ao167 t184.length co167 : Value).ownBlock) ∧ some k_ ≠ (.slice Ao185 t206.length co185 : Value).ownBlock)) (n := t195.length) (c := co176) ?_).2.2; exact (by mm6q50_)); (mm6q89_); (case side5 => refine (Kd.R_reads' (e := 9) (base := w.heap.size) (ok := fun k_ => (((True ∧ some k_ ≠ (.slice Ao164 t171.length co164 : Value).ownBlock) ∧ some k_ ≠ (.slice Ao166 t181.length co166 : Value).ownBlock) ∧ some k_ ≠ (.slice Ao175 t192.length co175 : Value).ownBlock)) (n := t203.length) (c := co184) ?_).2.2; exact (by mm6q51_)); (mm6q101_); (case side7 => refine (Kd.R_reads' (e := 71) (base := w.heap.size) (ok := fun k_ => (((True ∧ some k_ ≠ (.slice Ao165 t174.length co165 : Value).ownBlock) ∧ some k_ ≠ (.slice Ao167 t184.length co167 : Value).ownBlock) ∧ some k_ ≠ (.slice Ao176 t195.length co176 : Value).ownBlock)) (n := t206.length) (c := co185) ?_).2.2; exact (by mm6q52_)); (mm6q102_); rintro e w187 ⟨rfl, hb⟩; refine ⟨_, rfl, ?_⟩; have n0_ := Aside0.mk (Kd.R_below (by (mm6q1_); exact (Kd.R_mono (Kd.R_far (p := ⟨gb209, 5, none⟩) (Kd.R_far (p := ⟨gb209, 4, none⟩) (Kd.R_far (p := ⟨gb209, 3, none⟩) (Kd.R_far (p := ⟨gb209, 2, none⟩) (Kd.R_far (p := ⟨gb209, 1, none⟩) (Kd.R_far (p := ⟨gb209, 0, none⟩) (Kd.R_types HO173.out BK209.out (by decide)) (fun _ hk => hk.2) (.int .i64 t199)) (fun _ hk => hk.2) (.string t200)) (fun _ hk => hk.2) (.string t201)) (fun _ hk => hk.2) (.int .i64 t202)) (fun _ hk => hk.2) (.slice Ao184 t203.length co184)) (fun _ hk => hk.2) (.slice Ao185 t206.length co185)) (fun _ h_ => h_.1))) hb); have n1_ := Aside0.mk (Kd.R_below (by (mm6q1_); exact (Kd.R_mono (Kd.R_far (p := ⟨gb209, 5, none⟩) (Kd.R_far (p := ⟨gb209, 4, none⟩) (Kd.R_far (p := ⟨gb209, 3, none⟩) (Kd.R_far (p := ⟨gb209, 2, none⟩) (Kd.R_far (p := ⟨gb209, 1, none⟩) (Kd.R_far (p := ⟨gb209, 0, none⟩) (Kd.R_types HO176.out BK209.out (by decide)) (fun _ hk => hk.2) (.int .i64 t199)) (fun _ hk => hk.2) (.string t200)) (fun _ hk => hk.2) (.string t201)) (fun _ hk => hk.2) (.int .i64 t202)) (fun _ hk => hk.2) (.slice Ao184 t203.length co184)) (fun _ hk => hk.2) (.slice Ao185 t206.length co185)) (fun _ h_ => h_.1))) hb); have n2_ := Aside0.mk (Kd.R_below (by (mm6q1_); exact (Kd.R_mono (Kd.R_far (p := ⟨gb209, 5, none⟩) (Kd.R_far (p := ⟨gb209, 4, none⟩) (Kd.R_far (p := ⟨gb209, 3, none⟩) (Kd.R_far (p := ⟨gb209, 2, none⟩) (Kd.R_far (p := ⟨gb209, 1, none⟩) (Kd.R_far (p := ⟨gb209, 0, none⟩) (Kd.R_types HO183.out BK209.out (by decide)) (fun _ hk => hk.2) (.int .i64 t199)) (fun _ hk => hk.2) (.string t200)) (fun _ hk => hk.2) (.string t201)) (fun _ hk => hk.2) (.int .i64 t202)) (fun _ hk => hk.2) (.slice Ao184 t203.length co184)) (fun _ hk => hk.2) (.slice Ao185 t206.length co185)) (fun _ h_ => h_.1))) hb); have n3_ := Aside0.mk (Kd.R_below (by (mm6q1_); exact (Kd.R_mono (Kd.R_far (p := ⟨gb209, 5, none⟩) (Kd.R_far (p := ⟨gb209, 4, none⟩) (Kd.R_far (p := ⟨gb209, 3, none⟩) (Kd.R_far (p := ⟨gb209, 2, none⟩) (Kd.R_far (p := ⟨gb209, 1, none⟩) (Kd.R_far (p := ⟨gb209, 0, none⟩) (Kd.R_types HO186.out BK209.out (by decide)) (fun _ hk => hk.2) (.int .i64 t199)) (fun _ hk => hk.2) (.string t200)) (fun _ hk => hk.2) (.string t201)) (fun _ hk => hk.2) (.int .i64 t202)) (fun _ hk => hk.2) (.slice Ao184 t203.length co184)) (fun _ hk => hk.2) (.slice Ao185 t206.length co185)) (fun _ h_ => h_.1))) hb); have n4_ := Aside0.mk (Kd.R_below (by mm6q49_) hb); have n5_ := Aside0.mk (Kd.R_below (by mm6q50_) hb); have n6_ := Aside0.mk (Kd.R_below (by mm6q51_) hb); have n7_ := Aside0.mk (Kd.R_below (by mm6q52_) hb); have n8_ := Aside0.mk (blk_below (g := gb163) (o := .cells mm6q2_ 25 (0, 0)) (by mm6q24_) hb); have n9_ := Aside0.mk (blk_below (g := gb164) (o := .cells mm6q4_ 25 (0, 0)) (by mm6q25_) hb); have n10_ := Aside0.mk (blk_below (g := gb198) (o := .cells mm6q21_ 30 (0, 0)) (by mm6q26_) hb); have n11_ := Aside0.mk (blk_below (g := gb209) (o := .cells mm6q75_ 30 (0, 0)) (by (mm6q0_); refine blk_put (cs := #[.int .i64 t199, .string t200, .string t201, .int .i64 t202, .slice Ao184 t203.length co184, .slice none 0 0]) ?_ 5 _ rfl; (mm6q0_); refine blk_put (cs := mm6q85_) ?_ 4 _ rfl; (mm6q0_); refine blk_put (cs := mm6q87_) ?_ 3 _ rfl; (mm6q0_); refine blk_put (cs := mm6q79_) ?_ 2 _ rfl; (mm6q0_); refine blk_put (cs := mm6q77_) ?_ 1 _ rfl; (mm6q0_); refine blk_put (cs := mm6q14_) ?_ 0 _ rfl; (mm6q0_); exact BK209.out) hb); have n12_ := Aside0.mk (below_step (by repeat (mm6q7_)) hb); clear HO173; clear HO176; clear HO183; clear HO186; clear HO194; clear HO197; clear HO205; clear HO208; clear BK163; clear BK164; clear BK198; clear BK209; clear HB; have HO173 := n0_; have HO176 := n1_; have HO183 := n2_; have HO186 := n3_; have HO194 := n4_; have HO197 := n5_; have HO205 := n6_; have HO208 := n7_; have BK163 := n8_; have BK164 := n9_; have BK198 := n10_; have BK209 := n11_; have HB := n12_; clear n0_ n1_ n2_ n3_ n4_ n5_ n6_ n7_ n8_ n9_ n10_ n11_ n12_; (try clear hb); (try clear hb2); (try clear hk); (try clear hi)))
          have n0_ := Aside0.mk (Kd.R_drew HO173.out)
          have n1_ := Aside0.mk (Kd.R_drew HO176.out)
          have n2_ := Aside0.mk (Kd.R_drew HO183.out)
          have n3_ := Aside0.mk (Kd.R_drew HO186.out)
          have n4_ := Aside0.mk (Kd.R_drew HO194.out)
          have n5_ := Aside0.mk (Kd.R_drew HO197.out)
          have n6_ := Aside0.mk (Kd.R_drew HO205.out)
          have n7_ := Aside0.mk (Kd.R_drew HO208.out)
          have n8_ := Aside0.mk (blk_drew BK163.out)
          have n9_ := Aside0.mk (blk_drew BK164.out)
          have n10_ := Aside0.mk (blk_drew BK198.out)
          have n11_ := Aside0.mk (blk_drew BK209.out)
          have n12_ := Aside0.mk (below_drew1 HB.out)
          clear HO173
          clear HO176
          clear HO183
          clear HO186
          clear HO194
          clear HO197
          clear HO205
          clear HO208
          clear BK163
          clear BK164
          clear BK198
          clear BK209
          clear HB
          have HO173 := n0_
          have HO176 := n1_
          have HO183 := n2_
          have HO186 := n3_
          have HO194 := n4_
          have HO197 := n5_
          have HO205 := n6_
          have HO208 := n7_
          have BK163 := n8_
          have BK164 := n9_
          have BK198 := n10_
          have BK209 := n11_
          have HB := n12_
          clear n0_ n1_ n2_ n3_ n4_ n5_ n6_ n7_ n8_ n9_ n10_ n11_ n12_
          refine start_ (n := 5) (S := fun w' => w'.cell? ⟨gb198, 0, none⟩ = some (.int .i64 t188) ∧ w'.cell? ⟨gb198, 1, none⟩ = some (.string t189) ∧ w'.cell? ⟨gb198, 2, none⟩ = some (.string t190) ∧ w'.cell? ⟨gb198, 3, none⟩ = some (.int .i64 t191) ∧ w'.cell? ⟨gb198, 4, none⟩ = some (.slice Ao175 t192.length co175) ∧ w'.cell? ⟨gb198, 5, none⟩ = some (.slice Ao176 t195.length co176) ∧ w'.cell? ⟨gb163, 0, none⟩ = some (.int .i64 a0_0) ∧ w'.cell? ⟨gb163, 1, none⟩ = some (.string a0_1) ∧ w'.cell? ⟨gb163, 2, none⟩ = some (.string a0_2) ∧ w'.cell? ⟨gb163, 3, none⟩ = some (.int .i64 a0_3) ∧ w'.cell? ⟨gb163, 4, none⟩ = some (.slice A0_4 l0_4.length c0_4) ∧ w'.cell? ⟨gb163, 5, none⟩ = some (.slice A0_5 l0_5.length c0_5)) (ds := []) #[false, false, false, false, false] (by kernel_rfl) rfl rfl ⟨(blk_cell BK198.out 0).trans rfl, (blk_cell BK198.out 1).trans rfl, (blk_cell BK198.out 2).trans rfl, (blk_cell BK198.out 3).trans rfl, (blk_cell BK198.out 4).trans rfl, (blk_cell BK198.out 5).trans rfl, (blk_cell BK163.out 0).trans rfl, (blk_cell BK163.out 1).trans rfl, (blk_cell BK163.out 2).trans rfl, (blk_cell BK163.out 3).trans rfl, (blk_cell BK163.out 4).trans rfl, (blk_cell BK163.out 5).trans rfl⟩ (fun hHeld => ?_)
          generalize w187.drew = w_ at HO173 HO176 HO183 HO186 HO194 HO197 HO205 HO208 BK163 BK164 BK198 BK209 HB hHeld ⊢
          refine take_ (i := 0) (N := some 35) (v := ?_) (a' := ?_) #[true, false, false, false, false] rfl rfl (by kernel_rfl) (fun _ _ _ h => h) (Or.inl ⟨by rfl, ?_⟩) hHeld ?_ ?_
          rotate_left
          · rintro w' ⟨s0, s1, s2, s3, s4, s5, s6, s7, s8, s9, s10, s11⟩
            go_simp
            with_reducible rfl
          rotate_left
          · simp only [Act.put, List.setIfInBounds_toArray, List.set_cons_zero, List.set_cons_succ, i64_w, i32_w]
            rfl
          refine take_ (i := 1) (N := some 36) (v := ?_) (a' := ?_) #[true, true, false, false, false] rfl rfl (by kernel_rfl) (fun _ _ _ h => h) (Or.inl ⟨by rfl, ?_⟩) hHeld ?_ ?_
          rotate_left
          · rintro w' ⟨s0, s1, s2, s3, s4, s5, s6, s7, s8, s9, s10, s11⟩
            go_simp
            with_reducible rfl
          rotate_left
          · simp only [Act.put, List.setIfInBounds_toArray, List.set_cons_zero, List.set_cons_succ, i64_w, i32_w]
            rfl
          refine one_ (i := 2) (N := some 37) #[true, true, true, false, false] rfl rfl (by kernel_rfl) (by decide) (fun K hK => ?_)
          refine goes_ Try.func10 (by kernel_rfl) rfl #[.agg mm6q2_] (by rfl) rfl rfl (by mm6q8_) ?_
          with_reducible refine (laws_toPaper.calls k a0_0 a0_1 a0_2 a0_3 _ _ l0_4 _ _ l0_5 t211 t212 t213 t214 t215 t218 _ ?side1 ?side2 ?side3 ?side4 A60.out).mono ?_
          (mm6q16_)
          (case side2 => exact HC0_4.out)
          (mm6q17_)
          (case side4 => exact HC0_5.out)
          rintro e w_ ⟨v216, v219, rfl, ho0, ho1, hb⟩
          refine ⟨_, rfl, ?_⟩
          have n0_ := Aside0.mk (Kd.R_elder' (by (mm6q1_); exact HO173.out) (Kd.R_base ho0) hb)
          have n1_ := Aside0.mk (Kd.R_elder' (by (mm6q1_); exact HO176.out) (Kd.R_base ho1) hb)
          have n2_ := Aside0.mk (Kd.R_elder' (by (mm6q1_); exact HO183.out) (Kd.R_base ho0) hb)
          have n3_ := Aside0.mk (Kd.R_elder' (by (mm6q1_); exact HO186.out) (Kd.R_base ho1) hb)
          have n4_ := Aside0.mk (Kd.R_elder' (by (mm6q1_); exact HO194.out) (Kd.R_base ho0) hb)
          have n5_ := Aside0.mk (Kd.R_elder' (by (mm6q1_); exact HO197.out) (Kd.R_base ho1) hb)
          have n6_ := Aside0.mk (Kd.R_elder' (by (mm6q1_); exact HO205.out) (Kd.R_base ho0) hb)
          have n7_ := Aside0.mk (Kd.R_elder' (by (mm6q1_); exact HO208.out) (Kd.R_base ho1) hb)
          have n8_ := Aside0.mk (Kd.R_lower (Kd.R_new' (Kd.R_new' (Kd.R_new' (Kd.R_new' ho0 (Kd.R_lt (by (mm6q1_); exact HO173.out))) (Kd.R_lt (by (mm6q1_); exact HO183.out))) (Kd.R_lt (by (mm6q1_); exact HO194.out))) (Kd.R_lt (by (mm6q1_); exact HO205.out))) (below_size (by repeat (mm6q7_))))
          have n9_ := Aside0.mk (Kd.R_lower (Kd.R_new' (Kd.R_new' (Kd.R_new' (Kd.R_new' ho1 (Kd.R_lt (by (mm6q1_); exact HO176.out))) (Kd.R_lt (by (mm6q1_); exact HO186.out))) (Kd.R_lt (by (mm6q1_); exact HO197.out))) (Kd.R_lt (by (mm6q1_); exact HO208.out))) (below_size (by repeat (mm6q7_))))
          have n10_ := Aside0.mk (blk_below (g := gb163) (o := .cells mm6q2_ 25 (0, 0)) (by (mm6q0_); exact BK163.out) hb)
          have n11_ := Aside0.mk (blk_below (g := gb164) (o := .cells mm6q4_ 25 (0, 0)) (by (mm6q0_); exact BK164.out) hb)
          have n12_ := Aside0.mk (blk_below (g := gb198) (o := .cells mm6q21_ 30 (0, 0)) (by (mm6q0_); exact BK198.out) hb)
          have n13_ := Aside0.mk (blk_below (g := gb209) (o := .cells mm6q75_ 30 (0, 0)) (by (mm6q0_); exact BK209.out) hb)
          have n14_ := Aside0.mk (below_step (by repeat (mm6q7_)) hb)
          clear HO173
          clear HO176
          clear HO183
          clear HO186
          clear HO194
          clear HO197
          clear HO205
          clear HO208
          clear BK163
          clear BK164
          clear BK198
          clear BK209
          clear HB
          have HO173 := n0_
          have HO176 := n1_
          have HO183 := n2_
          have HO186 := n3_
          have HO194 := n4_
          have HO197 := n5_
          have HO205 := n6_
          have HO208 := n7_
          have HO217 := n8_
          have HO220 := n9_
          have BK163 := n10_
          have BK164 := n11_
          have BK198 := n12_
          have BK209 := n13_
          have HB := n14_
          clear n0_ n1_ n2_ n3_ n4_ n5_ n6_ n7_ n8_ n9_ n10_ n11_ n12_ n13_ n14_
          (try clear hb)
          (try clear hb2)
          (try clear hk)
          (try clear hi)
          (try clear ho0)
          (try clear ho1)
          obtain ⟨Ao190, co190, eo190⟩ := Kd.R_slice HO217.out
          (first | subst eo190 | (injection eo190 with f1_ f2_ f3_; have f4_ := f1_.symm; have f5_ := f3_.symm; clear f1_ f2_ f3_; subst f4_; subst f5_))
          obtain ⟨Ao191, co191, eo191⟩ := Kd.R_slice HO220.out
          (first | subst eo191 | (injection eo191 with f1_ f2_ f3_; have f4_ := f1_.symm; have f5_ := f3_.symm; clear f1_ f2_ f3_; subst f4_; subst f5_))
          refine hK.out _ _ ⟨(blk_cell BK198.out 0).trans rfl, (blk_cell BK198.out 1).trans rfl, (blk_cell BK198.out 2).trans rfl, (blk_cell BK198.out 3).trans rfl, (blk_cell BK198.out 4).trans rfl, (blk_cell BK198.out 5).trans rfl, (blk_cell BK163.out 0).trans rfl, (blk_cell BK163.out 1).trans rfl, (blk_cell BK163.out 2).trans rfl, (blk_cell BK163.out 3).trans rfl, (blk_cell BK163.out 4).trans rfl, (blk_cell BK163.out 5).trans rfl⟩ (fun hHeld => ?_)
          clear hK K
          refine norm_ (a' := ?_) ?_ ?_
          rotate_left
          · show Act.put _ (some 37) _ = _
            simp only [Act.put, List.setIfInBounds_toArray, List.set_cons_zero, List.set_cons_succ, i64_w, i32_w]
            rfl
          refine one_ (i := 3) (N := some 38) #[true, true, true, true, false] rfl rfl (by kernel_rfl) (by decide) (fun K hK => ?_)
          refine goes_ Try.func12 (by kernel_rfl) rfl #[.agg mm6q21_, .agg #[.int .i64 t211, .string t212, .string t213, .int .i64 t214, .slice Ao190 t215.length co190, .slice Ao191 t218.length co191]] (by rfl) rfl rfl (by mm6q8_) ?_
          with_reducible refine (laws_eqPaper.calls k t188 t189 t190 t191 _ _ t192 _ _ t195 t211 t212 t213 t214 _ _ t215 _ _ t218 false _ ?side1 ?side2 ?side3 ?side4 ?side5 ?side6 ?side7 ?side8 A61.out).mono ?_
          (mm6q90_)
          (mm6q88_)
          (mm6q91_)
          (mm6q89_)
          (mm6q92_)
          (case side6 => exact (Kd.R_reads' HO217.out).2.1)
          (mm6q93_)
          (case side8 => exact (Kd.R_reads' HO220.out).2.1)
          rintro e w_ ⟨rfl, hb⟩
          refine ⟨_, rfl, ?_⟩
          have n0_ := Aside0.mk (Kd.R_below (by (mm6q1_); exact HO173.out) hb)
          have n1_ := Aside0.mk (Kd.R_below (by (mm6q1_); exact HO176.out) hb)
          have n2_ := Aside0.mk (Kd.R_below (by (mm6q1_); exact HO183.out) hb)
          have n3_ := Aside0.mk (Kd.R_below (by (mm6q1_); exact HO186.out) hb)
          have n4_ := Aside0.mk (Kd.R_below (by (mm6q1_); exact HO194.out) hb)
          have n5_ := Aside0.mk (Kd.R_below (by (mm6q1_); exact HO197.out) hb)
          have n6_ := Aside0.mk (Kd.R_below (by (mm6q1_); exact HO205.out) hb)
          have n7_ := Aside0.mk (Kd.R_below (by (mm6q1_); exact HO208.out) hb)
          have n8_ := Aside0.mk (Kd.R_below (by (mm6q1_); exact HO217.out) hb)
          have n9_ := Aside0.mk (Kd.R_below (by (mm6q1_); exact HO220.out) hb)
          have n10_ := Aside0.mk (blk_below (g := gb163) (o := .cells mm6q2_ 25 (0, 0)) (by (mm6q0_); exact BK163.out) hb)
          have n11_ := Aside0.mk (blk_below (g := gb164) (o := .cells mm6q4_ 25 (0, 0)) (by (mm6q0_); exact BK164.out) hb)
          have n12_ := Aside0.mk (blk_below (g := gb198) (o := .cells mm6q21_ 30 (0, 0)) (by (mm6q0_); exact BK198.out) hb)
          have n13_ := Aside0.mk (blk_below (g := gb209) (o := .cells mm6q75_ 30 (0, 0)) (by (mm6q0_); exact BK209.out) hb)
          have n14_ := Aside0.mk (below_step (by repeat (mm6q7_)) hb)
          clear HO173
          clear HO176
          clear HO183
          clear HO186
          clear HO194
          clear HO197
          clear HO205
          clear HO208
          clear HO217
          clear HO220
          clear BK163
          clear BK164
          clear BK198
          clear BK209
          clear HB
          have HO173 := n0_
          have HO176 := n1_
          have HO183 := n2_
          have HO186 := n3_
          have HO194 := n4_
          have HO197 := n5_
          have HO205 := n6_
          have HO208 := n7_
          have HO217 := n8_
          have HO220 := n9_
          have BK163 := n10_
          have BK164 := n11_
          have BK198 := n12_
          have BK209 := n13_
          have HB := n14_
          clear n0_ n1_ n2_ n3_ n4_ n5_ n6_ n7_ n8_ n9_ n10_ n11_ n12_ n13_ n14_
          (try clear hb)
          (try clear hb2)
          (try clear hk)
          (try clear hi)
          refine hK.out _ _ ⟨(blk_cell BK198.out 0).trans rfl, (blk_cell BK198.out 1).trans rfl, (blk_cell BK198.out 2).trans rfl, (blk_cell BK198.out 3).trans rfl, (blk_cell BK198.out 4).trans rfl, (blk_cell BK198.out 5).trans rfl, (blk_cell BK163.out 0).trans rfl, (blk_cell BK163.out 1).trans rfl, (blk_cell BK163.out 2).trans rfl, (blk_cell BK163.out 3).trans rfl, (blk_cell BK163.out 4).trans rfl, (blk_cell BK163.out 5).trans rfl⟩ (fun hHeld => ?_)
          clear hK K
          refine norm_ (a' := ?_) ?_ ?_
          rotate_left
          · show Act.put _ (some 38) _ = _
            simp only [Act.put, List.setIfInBounds_toArray, List.set_cons_zero, List.set_cons_succ, i64_w, i32_w]
            rfl
          refine pure_ (i := 4) (N := some 39) (v := ?_) (a' := ?_) #[true, true, true, true, true] rfl rfl (by kernel_rfl) (fun _ _ _ h => h) (Or.inl ⟨by rfl, ?_⟩) ?_ ?_
          rotate_left
          · intro w'
            go_simp
            with_reducible rfl
          rotate_left
          · simp only [Act.put, List.setIfInBounds_toArray, List.set_cons_zero, List.set_cons_succ, i64_w, i32_w]
            rfl
          refine done_ (by kernel_rfl) ?_
          try go_wp2
          go_ret
          exact ⟨by first | rfl | (simp [errW_none, errW_some] <;> rfl) | (simp [*, errW_none, errW_some] <;> rfl), by repeat (mm6q7_)⟩

/-- THE ONE PURE STATEMENT of laws_FnExactPaperSame: yours. -/
def laws_FnExactPaperSame.Pure : Prop := ∀ (a0_0 : Int) (a0_1 : ByteArray) (a0_2 : ByteArray) (a0_3 : Int) (l0_4 : List ByteArray) (l0_5 : List (S111)) (a1_0 : Int) (a1_1 : ByteArray) (a1_2 : ByteArray) (a1_3 : Int) (l1_4 : List ByteArray) (l1_5 : List (S111)), (fun n_ : Int => (Lit.int .i64 n_).wf = true) a0_0 → (fun s_ : ByteArray => s_.size ≤ maxLen) a0_1 → (fun s_ : ByteArray => s_.size ≤ maxLen) a0_2 → (fun n_ : Int => (Lit.int .i64 n_).wf = true) a0_3 → (fun xs_ : List ByteArray => xs_.length ≤ maxLen ∧ ∀ x_ ∈ xs_, (fun s_ : ByteArray => s_.size ≤ maxLen) x_) l0_4 → (fun xs_ : List (S111) => xs_.length ≤ maxLen ∧ ∀ x_ ∈ xs_, q111 x_) l0_5 → (fun n_ : Int => (Lit.int .i64 n_).wf = true) a1_0 → (fun s_ : ByteArray => s_.size ≤ maxLen) a1_1 → (fun s_ : ByteArray => s_.size ≤ maxLen) a1_2 → (fun n_ : Int => (Lit.int .i64 n_).wf = true) a1_3 → (fun xs_ : List ByteArray => xs_.length ≤ maxLen ∧ ∀ x_ ∈ xs_, (fun s_ : ByteArray => s_.size ≤ maxLen) x_) l1_4 → (fun xs_ : List (S111) => xs_.length ≤ maxLen ∧ ∀ x_ ∈ xs_, q111 x_) l1_5 → ∃ k, laws_FnExactPaperSame.f k a0_0 a0_1 a0_2 a0_3 l0_4 l0_5 a1_0 a1_1 a1_2 a1_3 l1_4 l1_5 = some true

end Go.Proofs.Ytlghcbmkhdibdaa.PFnExactPaperSame
