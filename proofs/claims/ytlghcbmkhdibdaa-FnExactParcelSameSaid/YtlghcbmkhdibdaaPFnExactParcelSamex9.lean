-- printed by a program of this session (wip/xp/xprint.py) out of the translation; Lean checks it
import Derived.Test.YtlghcbmkhdibdaaPFnExactParcelSamex0
import Derived.Test.YtlghcbmkhdibdaaPFnExactParcelSamex2
import Derived.Test.YtlghcbmkhdibdaaPFnExactParcelSamex4
import Derived.Test.YtlghcbmkhdibdaaPFnExactParcelSamex5
import Derived.Test.YtlghcbmkhdibdaaPFnExactParcelSamex6
import Derived.Test.YtlghcbmkhdibdaaPFnExactParcelSamex8
namespace Go.Proofs.Ytlghcbmkhdibdaa.PFnExactParcelSame
open Go.RowKit Go.Proofs.YtlghcbmkhdibdaaW.PrintWords Go.Proofs.YtlghcbmkhdibdaaW.PrintLast Go.Proofs.YtlghcbmkhdibdaaW.PrintMore
attribute [local go_sem] max2_int min2_int max_two min_two max_three min_three max_four min_four   -- for this text's walks alone
set_option linter.unusedVariables false
set_option linter.unusedSimpArgs false

set_option hygiene false in
local macro "mm9q0_" : tactic => `(tactic| ((with_reducible repeat (first | refine blk_drewN ?_ _ | refine blk_drew ?_ | refine blk_alloc ?_ _))))
set_option hygiene false in
local macro "mm9q1_" : tactic => `(tactic| ((with_reducible repeat (first | apply Kd.S_alloc | apply Kd.S_drewN | apply Kd.S_drew))))
set_option hygiene false in
local macro "mm9q3_" : term => `(#[.string a0_0, .string a0_1, .int .i64 a0_2, .slice A0_3 l0_3.length c0_3])
set_option hygiene false in
local macro "mm9q4_" : tactic => `(tactic| ((try simp only [List.map_toArray, List.map_cons, List.map_nil]); first | done | rfl | (simp only [List.length_drop, List.length_take]; rfl)))
set_option hygiene false in
local macro "mm9q5_" : term => `(#[.string a1_0, .string a1_1, .int .i64 a1_2, .slice A1_3 l1_3.length c1_3])
set_option hygiene false in
local macro "mm9q6_" : tactic => `(tactic| ((first | (with_reducible first | exact HB.out | apply below_alloc | apply pw_below_drewN | apply below_drew1 | refine below_set ?_ GE204.out | refine below_set ?_ GE205.out | refine below_set ?_ GE227.out | refine below_set ?_ GE234.out) | exact HB.out)))
set_option hygiene false in
local macro "mm9q7_" : tactic => `(tactic| (repeat (first | (with_reducible first | exact HB.out | apply below_alloc | apply pw_below_drewN | apply below_drew1 | refine below_set ?_ GE204.out | refine below_set ?_ GE205.out | refine below_set ?_ GE227.out) | exact HB.out)))
set_option hygiene false in
local macro "mm9q10_" : tactic => `(tactic| (repeat (first | (with_reducible first | exact HB.out | apply below_alloc | apply pw_below_drewN | apply below_drew1 | refine below_set ?_ GE204.out) | exact HB.out)))
set_option hygiene false in
local macro "mm9q11_" : tactic => `(tactic| ((case side1 => repeat (first | exact (Kd.C_below HR0_3.out HB.out) | (with_reducible refine Kd.C_alloc ?_ _) | (with_reducible refine Kd.C_drewN ?_ _) | (with_reducible refine Kd.C_drew ?_)))))
set_option hygiene false in
local macro "mm9q12_" : tactic => `(tactic| ((case side1 => repeat (first | exact (Kd.C_below HR1_3.out HB.out) | (with_reducible refine Kd.C_alloc ?_ _) | (with_reducible refine Kd.C_drewN ?_ _) | (with_reducible refine Kd.C_drew ?_)))))
set_option hygiene false in
local macro "mm9q15_" : term => `(#[.string t221, .string t222, .int .i64 t223, .slice Ao119 t224.length co119])
set_option hygiene false in
local macro "mm9q16_" : term => `(#[.string t221, .string t222, .int .i64 t223, .slice Ao81 t224.length co81])
set_option hygiene false in
local macro "mm9q22_" : tactic => `(tactic| ((case hr => first | (go_simp; done) | (go_simp; rfl))))
set_option hygiene false in
local macro "mm9q23_" : term => `(#[.string (⟨#[]⟩ : ByteArray), .string (⟨#[]⟩ : ByteArray), .int .i64 0, .slice none 0 0])
set_option hygiene false in
local macro "mm9q24_" : tactic => `(tactic| ((case side1 => repeat (first | exact (Kd.S_reads' HO213.out).2.2 | (with_reducible refine Kd.C_alloc ?_ _) | (with_reducible refine Kd.C_drewN ?_ _) | (with_reducible refine Kd.C_drew ?_)))))
set_option hygiene false in
local macro "mm9q25_" : tactic => `(tactic| ((case side3 => repeat (first | exact (Kd.S_reads' HO219.out).2.2 | (with_reducible refine Kd.C_alloc ?_ _) | (with_reducible refine Kd.C_drewN ?_ _) | (with_reducible refine Kd.C_drew ?_)))))
set_option hygiene false in
local macro "mm9q26_" : term => `(#[.string t221, .string t222, .int .i64 t223, .slice Ao157 t224.length co157])
set_option hygiene false in
local macro "mm9q27_" : tactic => `(tactic| ((with_reducible refine (laws_szParcel.calls k a0_0 a0_1 a0_2 _ _ l0_3 1048576 t206 _ ?side1 ?side2 A3.out).mono ?_)))
set_option hygiene false in
local macro "mm9q28_" : tactic => `(tactic| ((with_reducible refine (impl_ParcelSame.calls k t221 t222 t223 _ _ t224 t228 t229 t230 _ _ t231 t235 _ ?side1 ?side2 ?side3 ?side4 A24.out).mono ?_)))
set_option hygiene false in
local macro "mm9q29_" : tactic => `(tactic| ((with_reducible refine (laws_szParcel.calls k a1_0 a1_1 a1_2 _ _ l1_3 t206 t207 _ ?side1 ?side2 A10.out).mono ?_)))
set_option hygiene false in
local macro "mm9q30_" : term => `(#[.string t228, .string t229, .int .i64 t230, .slice Ao127 t231.length co127])
set_option hygiene false in
local macro "mm9q31_" : term => `(#[.string t228, .string t229, .int .i64 t230, .slice Ao89 t231.length co89])
set_option hygiene false in
local macro "mm9q52_" : tactic => `(tactic| ((case side1 => repeat (first | exact (Kd.S_reads' HO226.out).2.2 | (with_reducible refine Kd.C_alloc ?_ _) | (with_reducible refine Kd.C_drewN ?_ _) | (with_reducible refine Kd.C_drew ?_)))))
set_option hygiene false in
local macro "mm9q53_" : tactic => `(tactic| ((case side3 => repeat (first | exact (Kd.S_reads' HO241.out).2.2 | (with_reducible refine Kd.C_alloc ?_ _) | (with_reducible refine Kd.C_drewN ?_ _) | (with_reducible refine Kd.C_drew ?_)))))
set_option hygiene false in
local macro "mm9q54_" : tactic => `(tactic| ((with_reducible refine (laws_toParcel.calls k a1_0 a1_1 a1_2 _ _ l1_3 t228 t229 t230 t231 _ ?side1 ?side2 A23.out).mono ?_)))
set_option hygiene false in
local macro "mm9q55_" : term => `(#[.string t221, .string t222, .int .i64 t223, .slice Ao45 t224.length co45])
set_option hygiene false in
local macro "mm9q56_" : tactic => `(tactic| ((case side2 => exact (Kd.S_reads' HO226.out).2.1)))
set_option hygiene false in
local macro "mm9q57_" : term => `(#[.string t228, .string t229, .int .i64 t230, .slice Ao165 t231.length co165])
set_option hygiene false in
local macro "mm9q58_" : tactic => `(tactic| ((first | (with_reducible first | exact HB.out | apply below_alloc | apply pw_below_drewN | apply below_drew1 | refine below_set ?_ GE204.out | refine below_set ?_ GE205.out) | exact HB.out)))
set_option hygiene false in
local macro "mm9q59_" : tactic => `(tactic| ((case side1 => repeat (first | exact (Kd.S_reads' HO233.out).2.2 | (with_reducible refine Kd.C_alloc ?_ _) | (with_reducible refine Kd.C_drewN ?_ _) | (with_reducible refine Kd.C_drew ?_)))))
set_option hygiene false in
local macro "mm9q60_" : tactic => `(tactic| ((case side3 => repeat (first | exact (Kd.S_reads' HO248.out).2.2 | (with_reducible refine Kd.C_alloc ?_ _) | (with_reducible refine Kd.C_drewN ?_ _) | (with_reducible refine Kd.C_drew ?_)))))
set_option hygiene false in
local macro "mm9q62_" : tactic => `(tactic| ((case side2 => exact (Kd.S_reads' HO213.out).2.1)))
set_option hygiene false in
local macro "mm9q63_" : tactic => `(tactic| ((case side4 => exact (Kd.S_reads' HO219.out).2.1)))
set_option hygiene false in
local macro "mm9q64_" : tactic => `(tactic| ((case side4 => exact (Kd.S_reads' HO233.out).2.1)))
set_option hygiene false in
local macro "mm9q2_" : tactic => `(tactic| (repeat (mm9q58_)))
set_option hygiene false in
local macro "mm9q8_" : tactic => `(tactic| (((with_reducible refine gate_dst (N := 2) rfl ?_); refine box_event ?hg (N := 2) ?hd (cs := mm9q3_) (t := 35) ?hr ?_; (case hd => rfl); (case hg => rfl); (mm9q22_); intro gb204 hg w_ hbox hb; have n0_ := Aside0.mk (below_step (by repeat (first | (with_reducible first | exact HB.out | apply below_alloc | apply pw_below_drewN | apply below_drew1) | exact HB.out)) hb); have n1_ := Aside0.mk (hbox); have n2_ := Aside0.mk ((by rw [hg]; exact (below_size (by repeat (first | (with_reducible first | exact HB.out | apply below_alloc | apply pw_below_drewN | apply below_drew1) | exact HB.out))) : w.heap.size ≤ gb204)); have n3_ := Aside0.mk ((by rw [hg]; exact (below_size (by repeat (first | (with_reducible first | exact HB.out | apply below_alloc | apply pw_below_drewN | apply below_drew1) | exact HB.out))) : w.heap.size ≤ gb204)); clear HB; have HB := n0_; have BK204 := n1_; have GW204 := n2_; have GE204 := n3_; clear n0_ n1_ n2_ n3_; clear hb hbox hg)))
set_option hygiene false in
local macro "mm9q13_" : tactic => `(tactic| ((mm9q0_); refine blk_put (cs := #[.string t221, .string t222, .int .i64 t223, .slice none 0 0]) ?_ 3 _ rfl; (mm9q0_); refine blk_put (cs := #[.string t221, .string t222, .int .i64 0, .slice none 0 0]) ?_ 2 _ rfl; (mm9q0_); refine blk_put (cs := #[.string t221, .string (⟨#[]⟩ : ByteArray), .int .i64 0, .slice none 0 0]) ?_ 1 _ rfl; (mm9q0_); refine blk_put (cs := mm9q23_) ?_ 0 _ rfl; (mm9q0_); exact BK227.out))
set_option hygiene false in
local macro "mm9q14_" : tactic => `(tactic| ((mm9q0_); refine blk_put (cs := #[.string t228, .string t229, .int .i64 t230, .slice none 0 0]) ?_ 3 _ rfl; (mm9q0_); refine blk_put (cs := #[.string t228, .string t229, .int .i64 0, .slice none 0 0]) ?_ 2 _ rfl; (mm9q0_); refine blk_put (cs := #[.string t228, .string (⟨#[]⟩ : ByteArray), .int .i64 0, .slice none 0 0]) ?_ 1 _ rfl; (mm9q0_); refine blk_put (cs := mm9q23_) ?_ 0 _ rfl; (mm9q0_); exact BK234.out))
set_option hygiene false in
local macro "mm9q17_" : tactic => `(tactic| ((mm9q0_); refine blk_far ?_ NB204_227.out _; (mm9q0_); refine blk_far ?_ NB204_227.out _; (mm9q0_); refine blk_far ?_ NB204_227.out _; (mm9q0_); refine blk_far ?_ NB204_227.out _; (mm9q0_); exact BK204.out))
set_option hygiene false in
local macro "mm9q18_" : tactic => `(tactic| ((mm9q0_); refine blk_far ?_ NB205_227.out _; (mm9q0_); refine blk_far ?_ NB205_227.out _; (mm9q0_); refine blk_far ?_ NB205_227.out _; (mm9q0_); refine blk_far ?_ NB205_227.out _; (mm9q0_); exact BK205.out))
set_option hygiene false in
local macro "mm9q19_" : tactic => `(tactic| ((mm9q0_); refine blk_far ?_ NB204_234.out _; (mm9q0_); refine blk_far ?_ NB204_234.out _; (mm9q0_); refine blk_far ?_ NB204_234.out _; (mm9q0_); refine blk_far ?_ NB204_234.out _; (mm9q0_); exact BK204.out))
set_option hygiene false in
local macro "mm9q20_" : tactic => `(tactic| ((mm9q0_); refine blk_far ?_ NB205_234.out _; (mm9q0_); refine blk_far ?_ NB205_234.out _; (mm9q0_); refine blk_far ?_ NB205_234.out _; (mm9q0_); refine blk_far ?_ NB205_234.out _; (mm9q0_); exact BK205.out))
set_option hygiene false in
local macro "mm9q21_" : tactic => `(tactic| ((mm9q0_); refine blk_far ?_ NB227_234.out _; (mm9q0_); refine blk_far ?_ NB227_234.out _; (mm9q0_); refine blk_far ?_ NB227_234.out _; (mm9q0_); refine blk_far ?_ NB227_234.out _; (mm9q0_); exact BK227.out))
set_option hygiene false in
local macro "mm9q32_" : tactic => `(tactic| ((mm9q1_); exact (Kd.S_mono (Kd.S_far (p := ⟨gb227, 3, none⟩) (Kd.S_far (p := ⟨gb227, 2, none⟩) (Kd.S_far (p := ⟨gb227, 1, none⟩) (Kd.S_far (p := ⟨gb227, 0, none⟩) (Kd.S_types HO213.out BK227.out (by decide)) (fun _ hk => hk.2) (.string t221)) (fun _ hk => hk.2) (.string t222)) (fun _ hk => hk.2) (.int .i64 t223)) (fun _ hk => hk.2) (.slice Ao119 t224.length co119)) (fun _ h_ => h_.1))))
set_option hygiene false in
local macro "mm9q33_" : tactic => `(tactic| ((mm9q1_); exact (Kd.S_mono (Kd.S_far (p := ⟨gb227, 3, none⟩) (Kd.S_far (p := ⟨gb227, 2, none⟩) (Kd.S_far (p := ⟨gb227, 1, none⟩) (Kd.S_far (p := ⟨gb227, 0, none⟩) (Kd.S_types HO219.out BK227.out (by decide)) (fun _ hk => hk.2) (.string t221)) (fun _ hk => hk.2) (.string t222)) (fun _ hk => hk.2) (.int .i64 t223)) (fun _ hk => hk.2) (.slice Ao119 t224.length co119)) (fun _ h_ => h_.1))))
set_option hygiene false in
local macro "mm9q34_" : tactic => `(tactic| ((mm9q1_); exact (Kd.S_mono (Kd.S_far (p := ⟨gb227, 3, none⟩) (Kd.S_far (p := ⟨gb227, 2, none⟩) (Kd.S_far (p := ⟨gb227, 1, none⟩) (Kd.S_far (p := ⟨gb227, 0, none⟩) (Kd.S_types HO226.out BK227.out (by decide)) (fun _ hk => hk.2) (.string t221)) (fun _ hk => hk.2) (.string t222)) (fun _ hk => hk.2) (.int .i64 t223)) (fun _ hk => hk.2) (.slice Ao119 t224.length co119)) (fun _ h_ => h_.1))))
set_option hygiene false in
local macro "mm9q35_" : tactic => `(tactic| ((mm9q1_); exact (Kd.S_mono (Kd.S_far (p := ⟨gb234, 3, none⟩) (Kd.S_far (p := ⟨gb234, 2, none⟩) (Kd.S_far (p := ⟨gb234, 1, none⟩) (Kd.S_far (p := ⟨gb234, 0, none⟩) (Kd.S_types HO226.out BK234.out (by decide)) (fun _ hk => hk.2) (.string t228)) (fun _ hk => hk.2) (.string t229)) (fun _ hk => hk.2) (.int .i64 t230)) (fun _ hk => hk.2) (.slice Ao127 t231.length co127)) (fun _ h_ => h_.1))))
set_option hygiene false in
local macro "mm9q36_" : tactic => `(tactic| ((mm9q1_); exact (Kd.S_mono (Kd.S_far (p := ⟨gb234, 3, none⟩) (Kd.S_far (p := ⟨gb234, 2, none⟩) (Kd.S_far (p := ⟨gb234, 1, none⟩) (Kd.S_far (p := ⟨gb234, 0, none⟩) (Kd.S_types HO233.out BK234.out (by decide)) (fun _ hk => hk.2) (.string t228)) (fun _ hk => hk.2) (.string t229)) (fun _ hk => hk.2) (.int .i64 t230)) (fun _ hk => hk.2) (.slice Ao127 t231.length co127)) (fun _ h_ => h_.1))))
set_option hygiene false in
local macro "mm9q37_" : tactic => `(tactic| ((mm9q1_); exact (Kd.S_mono (Kd.S_far (p := ⟨gb227, 3, none⟩) (Kd.S_far (p := ⟨gb227, 2, none⟩) (Kd.S_far (p := ⟨gb227, 1, none⟩) (Kd.S_far (p := ⟨gb227, 0, none⟩) (Kd.S_types HO213.out BK227.out (by decide)) (fun _ hk => hk.2) (.string t221)) (fun _ hk => hk.2) (.string t222)) (fun _ hk => hk.2) (.int .i64 t223)) (fun _ hk => hk.2) (.slice Ao157 t224.length co157)) (fun _ h_ => h_.1))))
set_option hygiene false in
local macro "mm9q38_" : tactic => `(tactic| ((mm9q1_); exact (Kd.S_mono (Kd.S_far (p := ⟨gb227, 3, none⟩) (Kd.S_far (p := ⟨gb227, 2, none⟩) (Kd.S_far (p := ⟨gb227, 1, none⟩) (Kd.S_far (p := ⟨gb227, 0, none⟩) (Kd.S_types HO219.out BK227.out (by decide)) (fun _ hk => hk.2) (.string t221)) (fun _ hk => hk.2) (.string t222)) (fun _ hk => hk.2) (.int .i64 t223)) (fun _ hk => hk.2) (.slice Ao157 t224.length co157)) (fun _ h_ => h_.1))))
set_option hygiene false in
local macro "mm9q39_" : tactic => `(tactic| ((mm9q1_); exact (Kd.S_mono (Kd.S_far (p := ⟨gb227, 3, none⟩) (Kd.S_far (p := ⟨gb227, 2, none⟩) (Kd.S_far (p := ⟨gb227, 1, none⟩) (Kd.S_far (p := ⟨gb227, 0, none⟩) (Kd.S_types HO226.out BK227.out (by decide)) (fun _ hk => hk.2) (.string t221)) (fun _ hk => hk.2) (.string t222)) (fun _ hk => hk.2) (.int .i64 t223)) (fun _ hk => hk.2) (.slice Ao157 t224.length co157)) (fun _ h_ => h_.1))))
set_option hygiene false in
local macro "mm9q40_" : tactic => `(tactic| ((mm9q1_); exact (Kd.S_mono (Kd.S_far (p := ⟨gb234, 3, none⟩) (Kd.S_far (p := ⟨gb234, 2, none⟩) (Kd.S_far (p := ⟨gb234, 1, none⟩) (Kd.S_far (p := ⟨gb234, 0, none⟩) (Kd.S_types HO226.out BK234.out (by decide)) (fun _ hk => hk.2) (.string t228)) (fun _ hk => hk.2) (.string t229)) (fun _ hk => hk.2) (.int .i64 t230)) (fun _ hk => hk.2) (.slice Ao165 t231.length co165)) (fun _ h_ => h_.1))))
set_option hygiene false in
local macro "mm9q41_" : tactic => `(tactic| ((mm9q1_); exact (Kd.S_mono (Kd.S_far (p := ⟨gb234, 3, none⟩) (Kd.S_far (p := ⟨gb234, 2, none⟩) (Kd.S_far (p := ⟨gb234, 1, none⟩) (Kd.S_far (p := ⟨gb234, 0, none⟩) (Kd.S_types HO233.out BK234.out (by decide)) (fun _ hk => hk.2) (.string t228)) (fun _ hk => hk.2) (.string t229)) (fun _ hk => hk.2) (.int .i64 t230)) (fun _ hk => hk.2) (.slice Ao165 t231.length co165)) (fun _ h_ => h_.1))))
set_option hygiene false in
local macro "mm9q42_" : tactic => `(tactic| ((mm9q1_); exact (Kd.S_mono (Kd.S_far (p := ⟨gb227, 3, none⟩) (Kd.S_far (p := ⟨gb227, 2, none⟩) (Kd.S_far (p := ⟨gb227, 1, none⟩) (Kd.S_far (p := ⟨gb227, 0, none⟩) (Kd.S_types HO213.out BK227.out (by decide)) (fun _ hk => hk.2) (.string t221)) (fun _ hk => hk.2) (.string t222)) (fun _ hk => hk.2) (.int .i64 t223)) (fun _ hk => hk.2) (.slice Ao45 t224.length co45)) (fun _ h_ => h_.1))))
set_option hygiene false in
local macro "mm9q43_" : tactic => `(tactic| ((mm9q1_); exact (Kd.S_mono (Kd.S_far (p := ⟨gb227, 3, none⟩) (Kd.S_far (p := ⟨gb227, 2, none⟩) (Kd.S_far (p := ⟨gb227, 1, none⟩) (Kd.S_far (p := ⟨gb227, 0, none⟩) (Kd.S_types HO219.out BK227.out (by decide)) (fun _ hk => hk.2) (.string t221)) (fun _ hk => hk.2) (.string t222)) (fun _ hk => hk.2) (.int .i64 t223)) (fun _ hk => hk.2) (.slice Ao45 t224.length co45)) (fun _ h_ => h_.1))))
set_option hygiene false in
local macro "mm9q44_" : tactic => `(tactic| ((mm9q1_); exact (Kd.S_mono (Kd.S_far (p := ⟨gb227, 3, none⟩) (Kd.S_far (p := ⟨gb227, 2, none⟩) (Kd.S_far (p := ⟨gb227, 1, none⟩) (Kd.S_far (p := ⟨gb227, 0, none⟩) (Kd.S_types HO226.out BK227.out (by decide)) (fun _ hk => hk.2) (.string t221)) (fun _ hk => hk.2) (.string t222)) (fun _ hk => hk.2) (.int .i64 t223)) (fun _ hk => hk.2) (.slice Ao45 t224.length co45)) (fun _ h_ => h_.1))))
set_option hygiene false in
local macro "mm9q45_" : tactic => `(tactic| ((mm9q1_); exact (Kd.S_mono (Kd.S_far (p := ⟨gb234, 3, none⟩) (Kd.S_far (p := ⟨gb234, 2, none⟩) (Kd.S_far (p := ⟨gb234, 1, none⟩) (Kd.S_far (p := ⟨gb234, 0, none⟩) (Kd.S_types HO226.out BK234.out (by decide)) (fun _ hk => hk.2) (.string t228)) (fun _ hk => hk.2) (.string t229)) (fun _ hk => hk.2) (.int .i64 t230)) (fun _ hk => hk.2) (.slice Ao53 t231.length co53)) (fun _ h_ => h_.1))))
set_option hygiene false in
local macro "mm9q46_" : tactic => `(tactic| ((mm9q1_); exact (Kd.S_mono (Kd.S_far (p := ⟨gb234, 3, none⟩) (Kd.S_far (p := ⟨gb234, 2, none⟩) (Kd.S_far (p := ⟨gb234, 1, none⟩) (Kd.S_far (p := ⟨gb234, 0, none⟩) (Kd.S_types HO233.out BK234.out (by decide)) (fun _ hk => hk.2) (.string t228)) (fun _ hk => hk.2) (.string t229)) (fun _ hk => hk.2) (.int .i64 t230)) (fun _ hk => hk.2) (.slice Ao53 t231.length co53)) (fun _ h_ => h_.1))))
set_option hygiene false in
local macro "mm9q47_" : tactic => `(tactic| ((mm9q1_); exact (Kd.S_mono (Kd.S_far (p := ⟨gb227, 3, none⟩) (Kd.S_far (p := ⟨gb227, 2, none⟩) (Kd.S_far (p := ⟨gb227, 1, none⟩) (Kd.S_far (p := ⟨gb227, 0, none⟩) (Kd.S_types HO213.out BK227.out (by decide)) (fun _ hk => hk.2) (.string t221)) (fun _ hk => hk.2) (.string t222)) (fun _ hk => hk.2) (.int .i64 t223)) (fun _ hk => hk.2) (.slice Ao81 t224.length co81)) (fun _ h_ => h_.1))))
set_option hygiene false in
local macro "mm9q48_" : tactic => `(tactic| ((mm9q1_); exact (Kd.S_mono (Kd.S_far (p := ⟨gb227, 3, none⟩) (Kd.S_far (p := ⟨gb227, 2, none⟩) (Kd.S_far (p := ⟨gb227, 1, none⟩) (Kd.S_far (p := ⟨gb227, 0, none⟩) (Kd.S_types HO219.out BK227.out (by decide)) (fun _ hk => hk.2) (.string t221)) (fun _ hk => hk.2) (.string t222)) (fun _ hk => hk.2) (.int .i64 t223)) (fun _ hk => hk.2) (.slice Ao81 t224.length co81)) (fun _ h_ => h_.1))))
set_option hygiene false in
local macro "mm9q49_" : tactic => `(tactic| ((mm9q1_); exact (Kd.S_mono (Kd.S_far (p := ⟨gb227, 3, none⟩) (Kd.S_far (p := ⟨gb227, 2, none⟩) (Kd.S_far (p := ⟨gb227, 1, none⟩) (Kd.S_far (p := ⟨gb227, 0, none⟩) (Kd.S_types HO226.out BK227.out (by decide)) (fun _ hk => hk.2) (.string t221)) (fun _ hk => hk.2) (.string t222)) (fun _ hk => hk.2) (.int .i64 t223)) (fun _ hk => hk.2) (.slice Ao81 t224.length co81)) (fun _ h_ => h_.1))))
set_option hygiene false in
local macro "mm9q50_" : tactic => `(tactic| ((mm9q1_); exact (Kd.S_mono (Kd.S_far (p := ⟨gb234, 3, none⟩) (Kd.S_far (p := ⟨gb234, 2, none⟩) (Kd.S_far (p := ⟨gb234, 1, none⟩) (Kd.S_far (p := ⟨gb234, 0, none⟩) (Kd.S_types HO226.out BK234.out (by decide)) (fun _ hk => hk.2) (.string t228)) (fun _ hk => hk.2) (.string t229)) (fun _ hk => hk.2) (.int .i64 t230)) (fun _ hk => hk.2) (.slice Ao89 t231.length co89)) (fun _ h_ => h_.1))))
set_option hygiene false in
local macro "mm9q51_" : tactic => `(tactic| ((mm9q1_); exact (Kd.S_mono (Kd.S_far (p := ⟨gb234, 3, none⟩) (Kd.S_far (p := ⟨gb234, 2, none⟩) (Kd.S_far (p := ⟨gb234, 1, none⟩) (Kd.S_far (p := ⟨gb234, 0, none⟩) (Kd.S_types HO233.out BK234.out (by decide)) (fun _ hk => hk.2) (.string t228)) (fun _ hk => hk.2) (.string t229)) (fun _ hk => hk.2) (.int .i64 t230)) (fun _ hk => hk.2) (.slice Ao89 t231.length co89)) (fun _ h_ => h_.1))))
set_option hygiene false in
local macro "mm9q61_" : tactic => `(tactic| ((case side1 => exact Kd.C_below HR1_3.out (by mm9q7_))))
set_option hygiene false in
local macro "mm9q9_" : tactic => `(tactic| (((with_reducible refine gate_callee (f := 15) rfl ?_); refine goesL_ (some 26) rfl rfl Try.func15 (by kernel_rfl) rfl #[.agg mm9q3_] rfl (by mm9q4_) ?_; (with_reducible refine (laws_toParcel.calls k a0_0 a0_1 a0_2 _ _ l0_3 t221 t222 t223 t224 _ ?side1 ?side2 A22.out).mono ?_); (mm9q11_); (case side2 => exact HC0_3.out); rintro e w_ ⟨v225, rfl, ho0, hb⟩; refine ⟨_, rfl, ?_⟩; have n0_ := Aside0.mk (Kd.S_elder' (by (mm9q1_); exact HO213.out) (Kd.S_base ho0) hb); have n1_ := Aside0.mk (Kd.S_elder' (by (mm9q1_); exact HO219.out) (Kd.S_base ho0) hb); have n2_ := Aside0.mk (Kd.S_lower (Kd.S_new' (Kd.S_new' ho0 (Kd.S_lt (by (mm9q1_); exact HO213.out))) (Kd.S_lt (by (mm9q1_); exact HO219.out))) (below_size (by mm9q2_))); have n3_ := Aside0.mk (blk_below (g := gb204) (o := .cells mm9q3_ 35 (0, 0)) (by (mm9q0_); exact BK204.out) hb); have n4_ := Aside0.mk (blk_below (g := gb205) (o := .cells mm9q5_ 35 (0, 0)) (by (mm9q0_); exact BK205.out) hb); have n5_ := Aside0.mk (below_step (by mm9q2_) hb); clear HO213; clear HO219; clear BK204; clear BK205; clear HB; have HO213 := n0_; have HO219 := n1_; have HO226 := n2_; have BK204 := n3_; have BK205 := n4_; have HB := n5_; clear n0_ n1_ n2_ n3_ n4_ n5_; (try clear hb); (try clear hb2); (try clear hk); (try clear hi); (try clear ho0))))

/-! ### laws_FnExactParcelSame: function 4 -/
def laws_FnExactParcelSame.f (k : Nat) (a0_0 : ByteArray) (a0_1 : ByteArray) (a0_2 : Int) (l0_3 : List (S25)) (a1_0 : ByteArray) (a1_1 : ByteArray) (a1_2 : Int) (l1_3 : List (S25)) : Option (Bool) := (laws_szParcel.f k a0_0 a0_1 a0_2 l0_3 1048576).bind fun t206 => (if t206 < 0 then (some true) else ((laws_szParcel.f k a1_0 a1_1 a1_2 l1_3 t206).bind fun t207 => (if t207 < 0 then (some true) else ((laws_toParcel.f k a0_0 a0_1 a0_2 l0_3).bind fun bt208 => ((laws_toParcel.f k a1_0 a1_1 a1_2 l1_3).bind fun bt214 => ((spec_ParcelSame.f k bt208.1 bt208.2.1 bt208.2.2.1 bt208.2.2.2 bt214.1 bt214.2.1 bt214.2.2.1 bt214.2.2.2).bind fun t220 => ((laws_toParcel.f k a0_0 a0_1 a0_2 l0_3).bind fun bt221 => ((laws_toParcel.f k a1_0 a1_1 a1_2 l1_3).bind fun bt228 => ((impl_ParcelSame.f k bt221.1 bt221.2.1 bt221.2.2.1 bt221.2.2.2 bt228.1 bt228.2.1 bt228.2.2.1 bt228.2.2.2).bind fun t235 => (if (t235 != t220) = true then (some false) else ((laws_toParcel.f k a0_0 a0_1 a0_2 l0_3).bind fun bt236 => ((laws_eqParcel.f k bt221.1 bt221.2.1 bt221.2.2.1 bt221.2.2.2 bt236.1 bt236.2.1 bt236.2.2.1 bt236.2.2.2).bind fun t242 => (if t242 = true then ((laws_toParcel.f k a1_0 a1_1 a1_2 l1_3).bind fun bt243 => ((laws_eqParcel.f k bt228.1 bt228.2.1 bt228.2.2.1 bt228.2.2.2 bt243.1 bt243.2.1 bt243.2.2.1 bt243.2.2.2).bind fun t249 => (if t249 = true then (some true) else (some false)))) else (some false))))))))))))))
theorem laws_FnExactParcelSame.mono : ∀ a0 a1 a2 a3 a4 a5 a6 a7 k, LeO (laws_FnExactParcelSame.f k a0 a1 a2 a3 a4 a5 a6 a7) (laws_FnExactParcelSame.f (k + 1) a0 a1 a2 a3 a4 a5 a6 a7) := by
  intro a0 a1 a2 a3 a4 a5 a6 a7 k
  unfold laws_FnExactParcelSame.f
  repeat' first
      | (with_reducible exact impl_ParcelSame.mono _ _ _ _ _ _ _ _ _)
      | (with_reducible exact laws_eqParcel.mono _ _ _ _ _ _ _ _ _)
      | (with_reducible exact laws_szParcel.mono _ _ _ _ _ _)
      | (with_reducible exact laws_toParcel.mono _ _ _ _ _)
      | (with_reducible exact spec_ParcelSame.mono _ _ _ _ _ _ _ _ _)
      | (with_reducible exact LeO.refl _)
      | (with_reducible exact LeO.none _)
      | (with_reducible refine LeO.ite ?_ ?_)
      | (with_reducible refine LeO.bind ?_ (fun _ => ?_))
      | exact impl_ParcelSame.mono _ _ _ _ _ _ _ _ _
      | exact laws_eqParcel.mono _ _ _ _ _ _ _ _ _
      | exact laws_szParcel.mono _ _ _ _ _ _
      | exact laws_toParcel.mono _ _ _ _ _
      | exact spec_ParcelSame.mono _ _ _ _ _ _ _ _ _
      | exact LeO.none _
      | refine LeO.ite ?_ ?_
      | refine LeO.bind ?_ (fun _ => ?_)
set_option maxHeartbeats 8000000 in
set_option maxRecDepth 100000 in
theorem laws_FnExactParcelSame.calls (k : Nat) (a0_0 : ByteArray) (a0_1 : ByteArray) (a0_2 : Int) (A0_3 : Option Addr) (c0_3 : Nat) (l0_3 : List (S25)) (a1_0 : ByteArray) (a1_1 : ByteArray) (a1_2 : Int) (A1_3 : Option Addr) (c1_3 : Nat) (l1_3 : List (S25)) (r : Bool) (w : World) (hr0_3 : Kd.C k25 w A0_3 l0_3.length l0_3) (hc0_3 : l0_3.length ≤ c0_3) (hr1_3 : Kd.C k25 w A1_3 l1_3.length l1_3) (hc1_3 : l1_3.length ≤ c1_3) (h : laws_FnExactParcelSame.f k a0_0 a0_1 a0_2 l0_3 a1_0 a1_1 a1_2 l1_3 = some r) :
    Calls Try.prog 4 #[.agg mm9q3_, .agg mm9q5_] w fun e w' => e = .returned (.bool r) ∧ Below w.heap.size w w' := by
  have hu35 := Try.underlying35
  have hu40 := Try.underlying40
  have HR0_3 := Aside0.mk hr0_3
  have HC0_3 := Aside0.mk hc0_3
  clear hr0_3 hc0_3
  have HR1_3 := Aside0.mk hr1_3
  have HC1_3 := Aside0.mk hc1_3
  clear hr1_3 hc1_3
  have HB := Aside0.mk (Below.refl w.heap.size w)
  have H : ((laws_szParcel.f k a0_0 a0_1 a0_2 l0_3 1048576).bind fun t206 => (if t206 < 0 then (some true) else ((laws_szParcel.f k a1_0 a1_1 a1_2 l1_3 t206).bind fun t207 => (if t207 < 0 then (some true) else ((laws_toParcel.f k a0_0 a0_1 a0_2 l0_3).bind fun bt208 => ((laws_toParcel.f k a1_0 a1_1 a1_2 l1_3).bind fun bt214 => ((spec_ParcelSame.f k bt208.1 bt208.2.1 bt208.2.2.1 bt208.2.2.2 bt214.1 bt214.2.1 bt214.2.2.1 bt214.2.2.2).bind fun t220 => ((laws_toParcel.f k a0_0 a0_1 a0_2 l0_3).bind fun bt221 => ((laws_toParcel.f k a1_0 a1_1 a1_2 l1_3).bind fun bt228 => ((impl_ParcelSame.f k bt221.1 bt221.2.1 bt221.2.2.1 bt221.2.2.2 bt228.1 bt228.2.1 bt228.2.2.1 bt228.2.2.2).bind fun t235 => (if (t235 != t220) = true then (some false) else ((laws_toParcel.f k a0_0 a0_1 a0_2 l0_3).bind fun bt236 => ((laws_eqParcel.f k bt221.1 bt221.2.1 bt221.2.2.1 bt221.2.2.2 bt236.1 bt236.2.1 bt236.2.2.1 bt236.2.2.2).bind fun t242 => (if t242 = true then ((laws_toParcel.f k a1_0 a1_1 a1_2 l1_3).bind fun bt243 => ((laws_eqParcel.f k bt228.1 bt228.2.1 bt228.2.2.1 bt228.2.2.2 bt243.1 bt243.2.1 bt243.2.2.1 bt243.2.2.2).bind fun t249 => (if t249 = true then (some true) else (some false)))) else (some false))))))))))))))) = some r := h
  clear h
  replace H := Option.bind_eq_some_iff.mp H
  obtain ⟨t206, A30, H⟩ := H
  replace H : (if t206 < 0 then (some true) else ((laws_szParcel.f k a1_0 a1_1 a1_2 l1_3 t206).bind fun t207 => (if t207 < 0 then (some true) else ((laws_toParcel.f k a0_0 a0_1 a0_2 l0_3).bind fun bt208 => ((laws_toParcel.f k a1_0 a1_1 a1_2 l1_3).bind fun bt214 => ((spec_ParcelSame.f k bt208.1 bt208.2.1 bt208.2.2.1 bt208.2.2.2 bt214.1 bt214.2.1 bt214.2.2.1 bt214.2.2.2).bind fun t220 => ((laws_toParcel.f k a0_0 a0_1 a0_2 l0_3).bind fun bt221 => ((laws_toParcel.f k a1_0 a1_1 a1_2 l1_3).bind fun bt228 => ((impl_ParcelSame.f k bt221.1 bt221.2.1 bt221.2.2.1 bt221.2.2.2 bt228.1 bt228.2.1 bt228.2.2.1 bt228.2.2.2).bind fun t235 => (if (t235 != t220) = true then (some false) else ((laws_toParcel.f k a0_0 a0_1 a0_2 l0_3).bind fun bt236 => ((laws_eqParcel.f k bt221.1 bt221.2.1 bt221.2.2.1 bt221.2.2.2 bt236.1 bt236.2.1 bt236.2.2.1 bt236.2.2.2).bind fun t242 => (if t242 = true then ((laws_toParcel.f k a1_0 a1_1 a1_2 l1_3).bind fun bt243 => ((laws_eqParcel.f k bt228.1 bt228.2.1 bt228.2.2.1 bt228.2.2.2 bt243.1 bt243.2.1 bt243.2.2.1 bt243.2.2.2).bind fun t249 => (if t249 = true then (some true) else (some false)))) else (some false)))))))))))))) = some r := H
  have A3 := Aside0.mk A30
  clear A30
  by_cases c4 : t206 < 0
  · rw [if_pos c4] at H
    have c4b0 : decide (t206 < 0) = true := decide_eq_true c4
    clear c4
    obtain rfl := Option.some.inj H
    go_enter Try.func4, Try.ntmps4
    go_wp2_with (first | (mm9q8_) | ((with_reducible refine gate_dst (N := 3) rfl ?_); refine box_event ?hg (N := 3) ?hd (cs := mm9q5_) (t := 35) ?hr ?_; (case hd => rfl); (case hg => rfl); (mm9q22_); intro gb205 hg w6 hbox hb; have n0_ := Aside0.mk (blk_below (g := gb204) (o := .cells mm9q3_ 35 (0, 0)) (by (mm9q0_); exact BK204.out) hb); have n1_ := Aside0.mk (below_step (by mm9q10_) hb); have n2_ := Aside0.mk (hbox); have n3_ := Aside0.mk ((by rw [hg]; exact (below_size (by mm9q10_)) : w.heap.size ≤ gb205)); have n4_ := Aside0.mk ((by rw [hg]; exact (below_size (by mm9q10_)) : w.heap.size ≤ gb205)); have n5_ := Aside0.mk ((by rw [hg]; exact Nat.ne_of_lt (blk_lt (g := gb204) (o := .cells mm9q3_ 35 (0, 0)) (by (mm9q0_); exact BK204.out)) : gb204 ≠ gb205)); have n6_ := Aside0.mk ((by rw [hg]; exact Nat.ne_of_gt (blk_lt (g := gb204) (o := .cells mm9q3_ 35 (0, 0)) (by (mm9q0_); exact BK204.out)) : gb205 ≠ gb204)); clear BK204; clear HB; have BK204 := n0_; have HB := n1_; have BK205 := n2_; have GW205 := n3_; have GE205 := n4_; have NB204_205 := n5_; have NB205_204 := n6_; clear n0_ n1_ n2_ n3_ n4_ n5_ n6_; clear hb hbox hg; have hnb7 := NB204_205.out; have hnc7 := NB205_204.out; have hcz8_0 : w6.cell? ⟨gb204, 0, none⟩ = some (.string a0_0) := (blk_cell BK204.out 0).trans rfl; have hcz8_1 : w6.cell? ⟨gb204, 1, none⟩ = some (.string a0_1) := (blk_cell BK204.out 1).trans rfl; have hcz8_2 : w6.cell? ⟨gb204, 2, none⟩ = some (.int .i64 a0_2) := (blk_cell BK204.out 2).trans rfl; have hcz8_3 : w6.cell? ⟨gb204, 3, none⟩ = some (.slice A0_3 l0_3.length c0_3) := (blk_cell BK204.out 3).trans rfl; have hfz8_0 := blk_frozen BK204.out 0; have hfz8_1 := blk_frozen BK204.out 1; have hfz8_2 := blk_frozen BK204.out 2; have hfz8_3 := blk_frozen BK204.out 3) | ((with_reducible refine gate_callee (f := 13) rfl ?_); refine goesL_ (some 12) rfl rfl Try.func13 (by kernel_rfl) rfl #[.agg mm9q3_, .int .i64 1048576] rfl (by mm9q4_) ?_; (mm9q27_); (mm9q11_); (case side2 => exact HC0_3.out); rintro e w_ ⟨rfl, hb⟩; refine ⟨_, rfl, ?_⟩; have n0_ := Aside0.mk (blk_below (g := gb204) (o := .cells mm9q3_ 35 (0, 0)) (by (mm9q0_); exact BK204.out) hb); have n1_ := Aside0.mk (blk_below (g := gb205) (o := .cells mm9q5_ 35 (0, 0)) (by (mm9q0_); exact BK205.out) hb); have n2_ := Aside0.mk (below_step (by mm9q2_) hb); clear BK204; clear BK205; clear HB; have BK204 := n0_; have BK205 := n1_; have HB := n2_; clear n0_ n1_ n2_; (try clear hb); (try clear hb2); (try clear hk); (try clear hi)))
    go_ret
    exact ⟨by first | rfl | (simp [errW_none, errW_some] <;> rfl) | (simp [*, errW_none, errW_some] <;> rfl), by repeat (mm9q58_)⟩
  · rw [if_neg c4] at H
    have c4b0 : decide (t206 < 0) = false := decide_eq_false c4
    clear c4
    replace H := Option.bind_eq_some_iff.mp H
    obtain ⟨t207, A100, H⟩ := H
    replace H : (if t207 < 0 then (some true) else ((laws_toParcel.f k a0_0 a0_1 a0_2 l0_3).bind fun bt208 => ((laws_toParcel.f k a1_0 a1_1 a1_2 l1_3).bind fun bt214 => ((spec_ParcelSame.f k bt208.1 bt208.2.1 bt208.2.2.1 bt208.2.2.2 bt214.1 bt214.2.1 bt214.2.2.1 bt214.2.2.2).bind fun t220 => ((laws_toParcel.f k a0_0 a0_1 a0_2 l0_3).bind fun bt221 => ((laws_toParcel.f k a1_0 a1_1 a1_2 l1_3).bind fun bt228 => ((impl_ParcelSame.f k bt221.1 bt221.2.1 bt221.2.2.1 bt221.2.2.2 bt228.1 bt228.2.1 bt228.2.2.1 bt228.2.2.2).bind fun t235 => (if (t235 != t220) = true then (some false) else ((laws_toParcel.f k a0_0 a0_1 a0_2 l0_3).bind fun bt236 => ((laws_eqParcel.f k bt221.1 bt221.2.1 bt221.2.2.1 bt221.2.2.2 bt236.1 bt236.2.1 bt236.2.2.1 bt236.2.2.2).bind fun t242 => (if t242 = true then ((laws_toParcel.f k a1_0 a1_1 a1_2 l1_3).bind fun bt243 => ((laws_eqParcel.f k bt228.1 bt228.2.1 bt228.2.2.1 bt228.2.2.2 bt243.1 bt243.2.1 bt243.2.2.1 bt243.2.2.2).bind fun t249 => (if t249 = true then (some true) else (some false)))) else (some false)))))))))))) = some r := H
    have A10 := Aside0.mk A100
    clear A100
    by_cases c11 : t207 < 0
    · rw [if_pos c11] at H
      have c11b0 : decide (t207 < 0) = true := decide_eq_true c11
      clear c11
      obtain rfl := Option.some.inj H
      go_enter Try.func4, Try.ntmps4
      go_wp2_with (first | (mm9q8_) | ((with_reducible refine gate_dst (N := 3) rfl ?_); refine box_event ?hg (N := 3) ?hd (cs := mm9q5_) (t := 35) ?hr ?_; (case hd => rfl); (case hg => rfl); (mm9q22_); intro gb205 hg w13 hbox hb; have n0_ := Aside0.mk (blk_below (g := gb204) (o := .cells mm9q3_ 35 (0, 0)) (by (mm9q0_); exact BK204.out) hb); have n1_ := Aside0.mk (below_step (by mm9q10_) hb); have n2_ := Aside0.mk (hbox); have n3_ := Aside0.mk ((by rw [hg]; exact (below_size (by mm9q10_)) : w.heap.size ≤ gb205)); have n4_ := Aside0.mk ((by rw [hg]; exact (below_size (by mm9q10_)) : w.heap.size ≤ gb205)); have n5_ := Aside0.mk ((by rw [hg]; exact Nat.ne_of_lt (blk_lt (g := gb204) (o := .cells mm9q3_ 35 (0, 0)) (by (mm9q0_); exact BK204.out)) : gb204 ≠ gb205)); have n6_ := Aside0.mk ((by rw [hg]; exact Nat.ne_of_gt (blk_lt (g := gb204) (o := .cells mm9q3_ 35 (0, 0)) (by (mm9q0_); exact BK204.out)) : gb205 ≠ gb204)); clear BK204; clear HB; have BK204 := n0_; have HB := n1_; have BK205 := n2_; have GW205 := n3_; have GE205 := n4_; have NB204_205 := n5_; have NB205_204 := n6_; clear n0_ n1_ n2_ n3_ n4_ n5_ n6_; clear hb hbox hg; have hnb14 := NB204_205.out; have hnc14 := NB205_204.out; have hcz15_0 : w13.cell? ⟨gb204, 0, none⟩ = some (.string a0_0) := (blk_cell BK204.out 0).trans rfl; have hcz15_1 : w13.cell? ⟨gb204, 1, none⟩ = some (.string a0_1) := (blk_cell BK204.out 1).trans rfl; have hcz15_2 : w13.cell? ⟨gb204, 2, none⟩ = some (.int .i64 a0_2) := (blk_cell BK204.out 2).trans rfl; have hcz15_3 : w13.cell? ⟨gb204, 3, none⟩ = some (.slice A0_3 l0_3.length c0_3) := (blk_cell BK204.out 3).trans rfl; have hfz15_0 := blk_frozen BK204.out 0; have hfz15_1 := blk_frozen BK204.out 1; have hfz15_2 := blk_frozen BK204.out 2; have hfz15_3 := blk_frozen BK204.out 3) | ((with_reducible refine gate_callee (f := 13) rfl ?_); refine goesL_ (some 12) rfl rfl Try.func13 (by kernel_rfl) rfl #[.agg mm9q3_, .int .i64 1048576] rfl (by mm9q4_) ?_; (mm9q27_); (mm9q11_); (case side2 => exact HC0_3.out); rintro e w16 ⟨rfl, hb⟩; refine ⟨_, rfl, ?_⟩; have n0_ := Aside0.mk (blk_below (g := gb204) (o := .cells mm9q3_ 35 (0, 0)) (by (mm9q0_); exact BK204.out) hb); have n1_ := Aside0.mk (blk_below (g := gb205) (o := .cells mm9q5_ 35 (0, 0)) (by (mm9q0_); exact BK205.out) hb); have n2_ := Aside0.mk (below_step (by mm9q2_) hb); clear BK204; clear BK205; clear HB; have BK204 := n0_; have BK205 := n1_; have HB := n2_; clear n0_ n1_ n2_; (try clear hb); (try clear hb2); (try clear hk); (try clear hi); have hcz17_0 : w16.cell? ⟨gb205, 0, none⟩ = some (.string a1_0) := (blk_cell BK205.out 0).trans rfl; have hcz17_1 : w16.cell? ⟨gb205, 1, none⟩ = some (.string a1_1) := (blk_cell BK205.out 1).trans rfl; have hcz17_2 : w16.cell? ⟨gb205, 2, none⟩ = some (.int .i64 a1_2) := (blk_cell BK205.out 2).trans rfl; have hcz17_3 : w16.cell? ⟨gb205, 3, none⟩ = some (.slice A1_3 l1_3.length c1_3) := (blk_cell BK205.out 3).trans rfl; have hfz17_0 := blk_frozen BK205.out 0; have hfz17_1 := blk_frozen BK205.out 1; have hfz17_2 := blk_frozen BK205.out 2; have hfz17_3 := blk_frozen BK205.out 3) | ((with_reducible refine gate_callee (f := 13) rfl ?_); refine goesL_ (some 17) rfl rfl Try.func13 (by kernel_rfl) rfl #[.agg mm9q5_, .int .i64 t206] rfl (by mm9q4_) ?_; (mm9q29_); (mm9q12_); (case side2 => exact HC1_3.out); rintro e w_ ⟨rfl, hb⟩; refine ⟨_, rfl, ?_⟩; have n0_ := Aside0.mk (blk_below (g := gb204) (o := .cells mm9q3_ 35 (0, 0)) (by (mm9q0_); exact BK204.out) hb); have n1_ := Aside0.mk (blk_below (g := gb205) (o := .cells mm9q5_ 35 (0, 0)) (by (mm9q0_); exact BK205.out) hb); have n2_ := Aside0.mk (below_step (by mm9q2_) hb); clear BK204; clear BK205; clear HB; have BK204 := n0_; have BK205 := n1_; have HB := n2_; clear n0_ n1_ n2_; (try clear hb); (try clear hb2); (try clear hk); (try clear hi)))
      go_ret
      exact ⟨by first | rfl | (simp [errW_none, errW_some] <;> rfl) | (simp [*, errW_none, errW_some] <;> rfl), by repeat (mm9q58_)⟩
    · rw [if_neg c11] at H
      have c11b0 : decide (t207 < 0) = false := decide_eq_false c11
      clear c11
      replace H := Option.bind_eq_some_iff.mp H
      obtain ⟨⟨t208, t209, t210, t211⟩, A190, H⟩ := H
      replace H : ((laws_toParcel.f k a1_0 a1_1 a1_2 l1_3).bind fun bt214 => ((spec_ParcelSame.f k t208 t209 t210 t211 bt214.1 bt214.2.1 bt214.2.2.1 bt214.2.2.2).bind fun t220 => ((laws_toParcel.f k a0_0 a0_1 a0_2 l0_3).bind fun bt221 => ((laws_toParcel.f k a1_0 a1_1 a1_2 l1_3).bind fun bt228 => ((impl_ParcelSame.f k bt221.1 bt221.2.1 bt221.2.2.1 bt221.2.2.2 bt228.1 bt228.2.1 bt228.2.2.1 bt228.2.2.2).bind fun t235 => (if (t235 != t220) = true then (some false) else ((laws_toParcel.f k a0_0 a0_1 a0_2 l0_3).bind fun bt236 => ((laws_eqParcel.f k bt221.1 bt221.2.1 bt221.2.2.1 bt221.2.2.2 bt236.1 bt236.2.1 bt236.2.2.1 bt236.2.2.2).bind fun t242 => (if t242 = true then ((laws_toParcel.f k a1_0 a1_1 a1_2 l1_3).bind fun bt243 => ((laws_eqParcel.f k bt228.1 bt228.2.1 bt228.2.2.1 bt228.2.2.2 bt243.1 bt243.2.1 bt243.2.2.1 bt243.2.2.2).bind fun t249 => (if t249 = true then (some true) else (some false)))) else (some false)))))))))) = some r := H
      have A19 := Aside0.mk A190
      clear A190
      replace H := Option.bind_eq_some_iff.mp H
      obtain ⟨⟨t214, t215, t216, t217⟩, A200, H⟩ := H
      replace H : ((spec_ParcelSame.f k t208 t209 t210 t211 t214 t215 t216 t217).bind fun t220 => ((laws_toParcel.f k a0_0 a0_1 a0_2 l0_3).bind fun bt221 => ((laws_toParcel.f k a1_0 a1_1 a1_2 l1_3).bind fun bt228 => ((impl_ParcelSame.f k bt221.1 bt221.2.1 bt221.2.2.1 bt221.2.2.2 bt228.1 bt228.2.1 bt228.2.2.1 bt228.2.2.2).bind fun t235 => (if (t235 != t220) = true then (some false) else ((laws_toParcel.f k a0_0 a0_1 a0_2 l0_3).bind fun bt236 => ((laws_eqParcel.f k bt221.1 bt221.2.1 bt221.2.2.1 bt221.2.2.2 bt236.1 bt236.2.1 bt236.2.2.1 bt236.2.2.2).bind fun t242 => (if t242 = true then ((laws_toParcel.f k a1_0 a1_1 a1_2 l1_3).bind fun bt243 => ((laws_eqParcel.f k bt228.1 bt228.2.1 bt228.2.2.1 bt228.2.2.2 bt243.1 bt243.2.1 bt243.2.2.1 bt243.2.2.2).bind fun t249 => (if t249 = true then (some true) else (some false)))) else (some false))))))))) = some r := H
      have A20 := Aside0.mk A200
      clear A200
      replace H := Option.bind_eq_some_iff.mp H
      obtain ⟨t220, A210, H⟩ := H
      replace H : ((laws_toParcel.f k a0_0 a0_1 a0_2 l0_3).bind fun bt221 => ((laws_toParcel.f k a1_0 a1_1 a1_2 l1_3).bind fun bt228 => ((impl_ParcelSame.f k bt221.1 bt221.2.1 bt221.2.2.1 bt221.2.2.2 bt228.1 bt228.2.1 bt228.2.2.1 bt228.2.2.2).bind fun t235 => (if (t235 != t220) = true then (some false) else ((laws_toParcel.f k a0_0 a0_1 a0_2 l0_3).bind fun bt236 => ((laws_eqParcel.f k bt221.1 bt221.2.1 bt221.2.2.1 bt221.2.2.2 bt236.1 bt236.2.1 bt236.2.2.1 bt236.2.2.2).bind fun t242 => (if t242 = true then ((laws_toParcel.f k a1_0 a1_1 a1_2 l1_3).bind fun bt243 => ((laws_eqParcel.f k bt228.1 bt228.2.1 bt228.2.2.1 bt228.2.2.2 bt243.1 bt243.2.1 bt243.2.2.1 bt243.2.2.2).bind fun t249 => (if t249 = true then (some true) else (some false)))) else (some false)))))))) = some r := H
      have A21 := Aside0.mk A210
      clear A210
      replace H := Option.bind_eq_some_iff.mp H
      obtain ⟨⟨t221, t222, t223, t224⟩, A220, H⟩ := H
      replace H : ((laws_toParcel.f k a1_0 a1_1 a1_2 l1_3).bind fun bt228 => ((impl_ParcelSame.f k t221 t222 t223 t224 bt228.1 bt228.2.1 bt228.2.2.1 bt228.2.2.2).bind fun t235 => (if (t235 != t220) = true then (some false) else ((laws_toParcel.f k a0_0 a0_1 a0_2 l0_3).bind fun bt236 => ((laws_eqParcel.f k t221 t222 t223 t224 bt236.1 bt236.2.1 bt236.2.2.1 bt236.2.2.2).bind fun t242 => (if t242 = true then ((laws_toParcel.f k a1_0 a1_1 a1_2 l1_3).bind fun bt243 => ((laws_eqParcel.f k bt228.1 bt228.2.1 bt228.2.2.1 bt228.2.2.2 bt243.1 bt243.2.1 bt243.2.2.1 bt243.2.2.2).bind fun t249 => (if t249 = true then (some true) else (some false)))) else (some false))))))) = some r := H
      have A22 := Aside0.mk A220
      clear A220
      replace H := Option.bind_eq_some_iff.mp H
      obtain ⟨⟨t228, t229, t230, t231⟩, A230, H⟩ := H
      replace H : ((impl_ParcelSame.f k t221 t222 t223 t224 t228 t229 t230 t231).bind fun t235 => (if (t235 != t220) = true then (some false) else ((laws_toParcel.f k a0_0 a0_1 a0_2 l0_3).bind fun bt236 => ((laws_eqParcel.f k t221 t222 t223 t224 bt236.1 bt236.2.1 bt236.2.2.1 bt236.2.2.2).bind fun t242 => (if t242 = true then ((laws_toParcel.f k a1_0 a1_1 a1_2 l1_3).bind fun bt243 => ((laws_eqParcel.f k t228 t229 t230 t231 bt243.1 bt243.2.1 bt243.2.2.1 bt243.2.2.2).bind fun t249 => (if t249 = true then (some true) else (some false)))) else (some false)))))) = some r := H
      have A23 := Aside0.mk A230
      clear A230
      replace H := Option.bind_eq_some_iff.mp H
      obtain ⟨t235, A240, H⟩ := H
      replace H : (if (t235 != t220) = true then (some false) else ((laws_toParcel.f k a0_0 a0_1 a0_2 l0_3).bind fun bt236 => ((laws_eqParcel.f k t221 t222 t223 t224 bt236.1 bt236.2.1 bt236.2.2.1 bt236.2.2.2).bind fun t242 => (if t242 = true then ((laws_toParcel.f k a1_0 a1_1 a1_2 l1_3).bind fun bt243 => ((laws_eqParcel.f k t228 t229 t230 t231 bt243.1 bt243.2.1 bt243.2.2.1 bt243.2.2.2).bind fun t249 => (if t249 = true then (some true) else (some false)))) else (some false))))) = some r := H
      have A24 := Aside0.mk A240
      clear A240
      by_cases c25 : (t235 != t220) = true
      · rw [if_pos c25] at H
        have c25b0 : (t235 != t220) = true := c25
        (try (have c25b1 : decide (t235 = t220) = false := by simpa using c25))
        (try (have c25b2 : (t235 == t220) = false := by simpa using c25))
        (try (have c25b3 : ¬ (t235 = t220) := by simpa using c25))
        clear c25
        obtain rfl := Option.some.inj H
        go_enter Try.func4, Try.ntmps4
        try go_wp2_with (first | (mm9q8_) | ((with_reducible refine gate_dst (N := 3) rfl ?_); refine box_event ?hg (N := 3) ?hd (cs := mm9q5_) (t := 35) ?hr ?_; (case hd => rfl); (case hg => rfl); (mm9q22_); intro gb205 hg w27 hbox hb; have n0_ := Aside0.mk (blk_below (g := gb204) (o := .cells mm9q3_ 35 (0, 0)) (by (mm9q0_); exact BK204.out) hb); have n1_ := Aside0.mk (below_step (by mm9q10_) hb); have n2_ := Aside0.mk (hbox); have n3_ := Aside0.mk ((by rw [hg]; exact (below_size (by mm9q10_)) : w.heap.size ≤ gb205)); have n4_ := Aside0.mk ((by rw [hg]; exact (below_size (by mm9q10_)) : w.heap.size ≤ gb205)); have n5_ := Aside0.mk ((by rw [hg]; exact Nat.ne_of_lt (blk_lt (g := gb204) (o := .cells mm9q3_ 35 (0, 0)) (by (mm9q0_); exact BK204.out)) : gb204 ≠ gb205)); have n6_ := Aside0.mk ((by rw [hg]; exact Nat.ne_of_gt (blk_lt (g := gb204) (o := .cells mm9q3_ 35 (0, 0)) (by (mm9q0_); exact BK204.out)) : gb205 ≠ gb204)); clear BK204; clear HB; have BK204 := n0_; have HB := n1_; have BK205 := n2_; have GW205 := n3_; have GE205 := n4_; have NB204_205 := n5_; have NB205_204 := n6_; clear n0_ n1_ n2_ n3_ n4_ n5_ n6_; clear hb hbox hg; have hnb28 := NB204_205.out; have hnc28 := NB205_204.out; have hcz29_0 : w27.cell? ⟨gb204, 0, none⟩ = some (.string a0_0) := (blk_cell BK204.out 0).trans rfl; have hcz29_1 : w27.cell? ⟨gb204, 1, none⟩ = some (.string a0_1) := (blk_cell BK204.out 1).trans rfl; have hcz29_2 : w27.cell? ⟨gb204, 2, none⟩ = some (.int .i64 a0_2) := (blk_cell BK204.out 2).trans rfl; have hcz29_3 : w27.cell? ⟨gb204, 3, none⟩ = some (.slice A0_3 l0_3.length c0_3) := (blk_cell BK204.out 3).trans rfl; have hfz29_0 := blk_frozen BK204.out 0; have hfz29_1 := blk_frozen BK204.out 1; have hfz29_2 := blk_frozen BK204.out 2; have hfz29_3 := blk_frozen BK204.out 3) | ((with_reducible refine gate_callee (f := 13) rfl ?_); refine goesL_ (some 12) rfl rfl Try.func13 (by kernel_rfl) rfl #[.agg mm9q3_, .int .i64 1048576] rfl (by mm9q4_) ?_; (mm9q27_); (mm9q11_); (case side2 => exact HC0_3.out); rintro e w30 ⟨rfl, hb⟩; refine ⟨_, rfl, ?_⟩; have n0_ := Aside0.mk (blk_below (g := gb204) (o := .cells mm9q3_ 35 (0, 0)) (by (mm9q0_); exact BK204.out) hb); have n1_ := Aside0.mk (blk_below (g := gb205) (o := .cells mm9q5_ 35 (0, 0)) (by (mm9q0_); exact BK205.out) hb); have n2_ := Aside0.mk (below_step (by mm9q2_) hb); clear BK204; clear BK205; clear HB; have BK204 := n0_; have BK205 := n1_; have HB := n2_; clear n0_ n1_ n2_; (try clear hb); (try clear hb2); (try clear hk); (try clear hi); have hcz31_0 : w30.cell? ⟨gb205, 0, none⟩ = some (.string a1_0) := (blk_cell BK205.out 0).trans rfl; have hcz31_1 : w30.cell? ⟨gb205, 1, none⟩ = some (.string a1_1) := (blk_cell BK205.out 1).trans rfl; have hcz31_2 : w30.cell? ⟨gb205, 2, none⟩ = some (.int .i64 a1_2) := (blk_cell BK205.out 2).trans rfl; have hcz31_3 : w30.cell? ⟨gb205, 3, none⟩ = some (.slice A1_3 l1_3.length c1_3) := (blk_cell BK205.out 3).trans rfl; have hfz31_0 := blk_frozen BK205.out 0; have hfz31_1 := blk_frozen BK205.out 1; have hfz31_2 := blk_frozen BK205.out 2; have hfz31_3 := blk_frozen BK205.out 3) | ((with_reducible refine gate_callee (f := 13) rfl ?_); refine goesL_ (some 17) rfl rfl Try.func13 (by kernel_rfl) rfl #[.agg mm9q5_, .int .i64 t206] rfl (by mm9q4_) ?_; (mm9q29_); (mm9q12_); (case side2 => exact HC1_3.out); rintro e w32 ⟨rfl, hb⟩; refine ⟨_, rfl, ?_⟩; have n0_ := Aside0.mk (blk_below (g := gb204) (o := .cells mm9q3_ 35 (0, 0)) (by (mm9q0_); exact BK204.out) hb); have n1_ := Aside0.mk (blk_below (g := gb205) (o := .cells mm9q5_ 35 (0, 0)) (by (mm9q0_); exact BK205.out) hb); have n2_ := Aside0.mk (below_step (by mm9q2_) hb); clear BK204; clear BK205; clear HB; have BK204 := n0_; have BK205 := n1_; have HB := n2_; clear n0_ n1_ n2_; (try clear hb); (try clear hb2); (try clear hk); (try clear hi)))
        have n0_ := Aside0.mk (blk_drew BK204.out)
        have n1_ := Aside0.mk (blk_drew BK205.out)
        have n2_ := Aside0.mk (below_drew1 HB.out)
        clear BK204
        clear BK205
        clear HB
        have BK204 := n0_
        have BK205 := n1_
        have HB := n2_
        clear n0_ n1_ n2_
        refine start_ (n := 6) (S := fun w' => w'.cell? ⟨gb204, 0, none⟩ = some (.string a0_0) ∧ w'.cell? ⟨gb204, 1, none⟩ = some (.string a0_1) ∧ w'.cell? ⟨gb204, 2, none⟩ = some (.int .i64 a0_2) ∧ w'.cell? ⟨gb204, 3, none⟩ = some (.slice A0_3 l0_3.length c0_3) ∧ w'.cell? ⟨gb205, 0, none⟩ = some (.string a1_0) ∧ w'.cell? ⟨gb205, 1, none⟩ = some (.string a1_1) ∧ w'.cell? ⟨gb205, 2, none⟩ = some (.int .i64 a1_2) ∧ w'.cell? ⟨gb205, 3, none⟩ = some (.slice A1_3 l1_3.length c1_3)) (ds := []) #[false, false, false, false, false, false] (by kernel_rfl) rfl rfl ⟨(blk_cell BK204.out 0).trans rfl, (blk_cell BK204.out 1).trans rfl, (blk_cell BK204.out 2).trans rfl, (blk_cell BK204.out 3).trans rfl, (blk_cell BK205.out 0).trans rfl, (blk_cell BK205.out 1).trans rfl, (blk_cell BK205.out 2).trans rfl, (blk_cell BK205.out 3).trans rfl⟩ (fun hHeld => ?_)
        generalize w32.drew = w_ at BK204 BK205 HB hHeld ⊢
        refine take_ (i := 0) (N := some 20) (v := ?_) (a' := ?_) #[true, false, false, false, false, false] rfl rfl (by kernel_rfl) (fun _ _ _ h => h) (Or.inl ⟨by rfl, ?_⟩) hHeld ?_ ?_
        rotate_left
        · rintro w' ⟨s0, s1, s2, s3, s4, s5, s6, s7⟩
          go_simp
          with_reducible rfl
        rotate_left
        · simp only [Act.put, List.setIfInBounds_toArray, List.set_cons_zero, List.set_cons_succ, i64_w, i32_w]
          rfl
        refine take_ (i := 2) (N := some 22) (v := ?_) (a' := ?_) #[true, false, true, false, false, false] rfl rfl (by kernel_rfl) (fun _ _ _ h => h) (Or.inl ⟨by rfl, ?_⟩) hHeld ?_ ?_
        rotate_left
        · rintro w' ⟨s0, s1, s2, s3, s4, s5, s6, s7⟩
          go_simp
          with_reducible rfl
        rotate_left
        · simp only [Act.put, List.setIfInBounds_toArray, List.set_cons_zero, List.set_cons_succ, i64_w, i32_w]
          rfl
        refine one_ (i := 1) (N := some 21) #[true, true, true, false, false, false] rfl rfl (by kernel_rfl) (by decide) (fun K hK => ?_)
        refine goes_ Try.func15 (by kernel_rfl) rfl #[.agg mm9q3_] (by rfl) rfl rfl (by mm9q4_) ?_
        with_reducible refine (laws_toParcel.calls k a0_0 a0_1 a0_2 _ _ l0_3 t208 t209 t210 t211 _ ?side1 ?side2 A19.out).mono ?_
        (mm9q11_)
        (case side2 => exact HC0_3.out)
        rintro e w_ ⟨v212, rfl, ho0, hb⟩
        refine ⟨_, rfl, ?_⟩
        have n0_ := Aside0.mk (Kd.S_lower ho0 (below_size (by mm9q2_)))
        have n1_ := Aside0.mk (blk_below (g := gb204) (o := .cells mm9q3_ 35 (0, 0)) (by (mm9q0_); exact BK204.out) hb)
        have n2_ := Aside0.mk (blk_below (g := gb205) (o := .cells mm9q5_ 35 (0, 0)) (by (mm9q0_); exact BK205.out) hb)
        have n3_ := Aside0.mk (below_step (by mm9q2_) hb)
        clear BK204
        clear BK205
        clear HB
        have HO213 := n0_
        have BK204 := n1_
        have BK205 := n2_
        have HB := n3_
        clear n0_ n1_ n2_ n3_
        (try clear hb)
        (try clear hb2)
        (try clear hk)
        (try clear hi)
        (try clear ho0)
        refine hK.out _ _ ⟨(blk_cell BK204.out 0).trans rfl, (blk_cell BK204.out 1).trans rfl, (blk_cell BK204.out 2).trans rfl, (blk_cell BK204.out 3).trans rfl, (blk_cell BK205.out 0).trans rfl, (blk_cell BK205.out 1).trans rfl, (blk_cell BK205.out 2).trans rfl, (blk_cell BK205.out 3).trans rfl⟩ (fun hHeld => ?_)
        clear hK K
        refine norm_ (a' := ?_) ?_ ?_
        rotate_left
        · show Act.put _ (some 21) _ = _
          simp only [Act.put, List.setIfInBounds_toArray, List.set_cons_zero, List.set_cons_succ, i64_w, i32_w]
          rfl
        refine one_ (i := 3) (N := some 23) #[true, true, true, true, false, false] rfl rfl (by kernel_rfl) (by decide) (fun K hK => ?_)
        refine goes_ Try.func15 (by kernel_rfl) rfl #[.agg mm9q5_] (by rfl) rfl rfl (by mm9q4_) ?_
        with_reducible refine (laws_toParcel.calls k a1_0 a1_1 a1_2 _ _ l1_3 t214 t215 t216 t217 _ ?side1 ?side2 A20.out).mono ?_
        (mm9q12_)
        (case side2 => exact HC1_3.out)
        rintro e w_ ⟨v218, rfl, ho0, hb⟩
        refine ⟨_, rfl, ?_⟩
        have n0_ := Aside0.mk (Kd.S_elder' (by (mm9q1_); exact HO213.out) (Kd.S_base ho0) hb)
        have n1_ := Aside0.mk (Kd.S_lower (Kd.S_new' ho0 (Kd.S_lt (by (mm9q1_); exact HO213.out))) (below_size (by mm9q2_)))
        have n2_ := Aside0.mk (blk_below (g := gb204) (o := .cells mm9q3_ 35 (0, 0)) (by (mm9q0_); exact BK204.out) hb)
        have n3_ := Aside0.mk (blk_below (g := gb205) (o := .cells mm9q5_ 35 (0, 0)) (by (mm9q0_); exact BK205.out) hb)
        have n4_ := Aside0.mk (below_step (by mm9q2_) hb)
        clear HO213
        clear BK204
        clear BK205
        clear HB
        have HO213 := n0_
        have HO219 := n1_
        have BK204 := n2_
        have BK205 := n3_
        have HB := n4_
        clear n0_ n1_ n2_ n3_ n4_
        (try clear hb)
        (try clear hb2)
        (try clear hk)
        (try clear hi)
        (try clear ho0)
        obtain ⟨Ao36, co36, eo36⟩ := Kd.S_slice HO213.out
        (first | subst eo36 | (injection eo36 with f1_ f2_ f3_; have f4_ := f1_.symm; have f5_ := f3_.symm; clear f1_ f2_ f3_; subst f4_; subst f5_))
        obtain ⟨Ao37, co37, eo37⟩ := Kd.S_slice HO219.out
        (first | subst eo37 | (injection eo37 with f1_ f2_ f3_; have f4_ := f1_.symm; have f5_ := f3_.symm; clear f1_ f2_ f3_; subst f4_; subst f5_))
        refine hK.out _ _ ⟨(blk_cell BK204.out 0).trans rfl, (blk_cell BK204.out 1).trans rfl, (blk_cell BK204.out 2).trans rfl, (blk_cell BK204.out 3).trans rfl, (blk_cell BK205.out 0).trans rfl, (blk_cell BK205.out 1).trans rfl, (blk_cell BK205.out 2).trans rfl, (blk_cell BK205.out 3).trans rfl⟩ (fun hHeld => ?_)
        clear hK K
        refine norm_ (a' := ?_) ?_ ?_
        rotate_left
        · show Act.put _ (some 23) _ = _
          simp only [Act.put, List.setIfInBounds_toArray, List.set_cons_zero, List.set_cons_succ, i64_w, i32_w]
          rfl
        refine one_ (i := 4) (N := some 24) #[true, true, true, true, true, false] rfl rfl (by kernel_rfl) (by decide) (fun K hK => ?_)
        refine goes_ Try.func14 (by kernel_rfl) rfl #[.agg #[.string t208, .string t209, .int .i64 t210, .slice Ao36 t211.length co36], .agg #[.string t214, .string t215, .int .i64 t216, .slice Ao37 t217.length co37]] (by rfl) rfl rfl (by mm9q4_) ?_
        with_reducible refine (spec_ParcelSame.calls k t208 t209 t210 _ _ t211 t214 t215 t216 _ _ t217 t220 _ ?side1 ?side2 ?side3 ?side4 A21.out).mono ?_
        (mm9q24_)
        (mm9q62_)
        (mm9q25_)
        (mm9q63_)
        rintro e w38 ⟨rfl, hb⟩
        refine ⟨_, rfl, ?_⟩
        have n0_ := Aside0.mk (Kd.S_below (by (mm9q1_); exact HO213.out) hb)
        have n1_ := Aside0.mk (Kd.S_below (by (mm9q1_); exact HO219.out) hb)
        have n2_ := Aside0.mk (blk_below (g := gb204) (o := .cells mm9q3_ 35 (0, 0)) (by (mm9q0_); exact BK204.out) hb)
        have n3_ := Aside0.mk (blk_below (g := gb205) (o := .cells mm9q5_ 35 (0, 0)) (by (mm9q0_); exact BK205.out) hb)
        have n4_ := Aside0.mk (below_step (by mm9q2_) hb)
        clear HO213
        clear HO219
        clear BK204
        clear BK205
        clear HB
        have HO213 := n0_
        have HO219 := n1_
        have BK204 := n2_
        have BK205 := n3_
        have HB := n4_
        clear n0_ n1_ n2_ n3_ n4_
        (try clear hb)
        (try clear hb2)
        (try clear hk)
        (try clear hi)
        refine hK.out _ _ ⟨(blk_cell BK204.out 0).trans rfl, (blk_cell BK204.out 1).trans rfl, (blk_cell BK204.out 2).trans rfl, (blk_cell BK204.out 3).trans rfl, (blk_cell BK205.out 0).trans rfl, (blk_cell BK205.out 1).trans rfl, (blk_cell BK205.out 2).trans rfl, (blk_cell BK205.out 3).trans rfl⟩ (fun hHeld => ?_)
        clear hK K
        refine norm_ (a' := ?_) ?_ ?_
        rotate_left
        · show Act.put _ (some 24) _ = _
          simp only [Act.put, List.setIfInBounds_toArray, List.set_cons_zero, List.set_cons_succ, i64_w, i32_w]
          rfl
        refine pure_ (i := 5) (N := some 6) (v := ?_) (a' := ?_) #[true, true, true, true, true, true] rfl rfl (by kernel_rfl) (fun _ _ _ h => h) (Or.inl ⟨by rfl, ?_⟩) ?_ ?_
        rotate_left
        · intro w'
          go_simp
          with_reducible rfl
        rotate_left
        · simp only [Act.put, List.setIfInBounds_toArray, List.set_cons_zero, List.set_cons_succ, i64_w, i32_w]
          rfl
        refine done_ (by kernel_rfl) ?_
        have hcz39_0 : w38.cell? ⟨gb204, 0, none⟩ = some (.string a0_0) := (blk_cell BK204.out 0).trans rfl
        have hcz39_1 : w38.cell? ⟨gb204, 1, none⟩ = some (.string a0_1) := (blk_cell BK204.out 1).trans rfl
        have hcz39_2 : w38.cell? ⟨gb204, 2, none⟩ = some (.int .i64 a0_2) := (blk_cell BK204.out 2).trans rfl
        have hcz39_3 : w38.cell? ⟨gb204, 3, none⟩ = some (.slice A0_3 l0_3.length c0_3) := (blk_cell BK204.out 3).trans rfl
        have hfz39_0 := blk_frozen BK204.out 0
        have hfz39_1 := blk_frozen BK204.out 1
        have hfz39_2 := blk_frozen BK204.out 2
        have hfz39_3 := blk_frozen BK204.out 3
        try go_wp2_with (first | (mm9q9_) | ((with_reducible refine gate_dst (N := 7) rfl ?_); refine box_event ?hg (N := 7) ?hd (cs := mm9q23_) (t := 40) ?hr ?_; (case hd => rfl); (case hg => rfl); (mm9q22_); intro gb227 hg w41 hbox hb; have n0_ := Aside0.mk (Kd.S_below (by (mm9q1_); exact HO213.out) hb); have n1_ := Aside0.mk (Kd.S_below (by (mm9q1_); exact HO219.out) hb); have n2_ := Aside0.mk (Kd.S_below (by (mm9q1_); exact HO226.out) hb); have n3_ := Aside0.mk (blk_below (g := gb204) (o := .cells mm9q3_ 35 (0, 0)) (by (mm9q0_); exact BK204.out) hb); have n4_ := Aside0.mk (blk_below (g := gb205) (o := .cells mm9q5_ 35 (0, 0)) (by (mm9q0_); exact BK205.out) hb); have n5_ := Aside0.mk (below_step (by mm9q2_) hb); have n6_ := Aside0.mk (hbox); have n7_ := Aside0.mk ((by rw [hg]; exact (below_size (by mm9q2_)) : w.heap.size ≤ gb227)); have n8_ := Aside0.mk ((by rw [hg]; exact (below_size (by mm9q2_)) : w.heap.size ≤ gb227)); have n9_ := Aside0.mk ((by rw [hg]; exact Nat.ne_of_lt (blk_lt (g := gb204) (o := .cells mm9q3_ 35 (0, 0)) (by (mm9q0_); exact BK204.out)) : gb204 ≠ gb227)); have n10_ := Aside0.mk ((by rw [hg]; exact Nat.ne_of_gt (blk_lt (g := gb204) (o := .cells mm9q3_ 35 (0, 0)) (by (mm9q0_); exact BK204.out)) : gb227 ≠ gb204)); have n11_ := Aside0.mk ((by rw [hg]; exact Nat.ne_of_lt (blk_lt (g := gb205) (o := .cells mm9q5_ 35 (0, 0)) (by (mm9q0_); exact BK205.out)) : gb205 ≠ gb227)); have n12_ := Aside0.mk ((by rw [hg]; exact Nat.ne_of_gt (blk_lt (g := gb205) (o := .cells mm9q5_ 35 (0, 0)) (by (mm9q0_); exact BK205.out)) : gb227 ≠ gb205)); clear HO213; clear HO219; clear HO226; clear BK204; clear BK205; clear HB; have HO213 := n0_; have HO219 := n1_; have HO226 := n2_; have BK204 := n3_; have BK205 := n4_; have HB := n5_; have BK227 := n6_; have GW227 := n7_; have GE227 := n8_; have NB204_227 := n9_; have NB227_204 := n10_; have NB205_227 := n11_; have NB227_205 := n12_; clear n0_ n1_ n2_ n3_ n4_ n5_ n6_ n7_ n8_ n9_ n10_ n11_ n12_; clear hb hbox hg; have hnb42 := NB227_204.out; have hnc42 := NB204_227.out; have hnb43 := NB227_205.out; have hnc43 := NB205_227.out; have hcz44_0 : w41.cell? ⟨gb227, 0, none⟩ = some (.string (⟨#[]⟩ : ByteArray)) := (blk_cell BK227.out 0).trans rfl; have hcz44_1 : w41.cell? ⟨gb227, 1, none⟩ = some (.string (⟨#[]⟩ : ByteArray)) := (blk_cell BK227.out 1).trans rfl; have hcz44_2 : w41.cell? ⟨gb227, 2, none⟩ = some (.int .i64 0) := (blk_cell BK227.out 2).trans rfl; have hcz44_3 : w41.cell? ⟨gb227, 3, none⟩ = some (.slice none 0 0) := (blk_cell BK227.out 3).trans rfl; have hfz44_0 := blk_frozen BK227.out 0; have hfz44_1 := blk_frozen BK227.out 1; have hfz44_2 := blk_frozen BK227.out 2; have hfz44_3 := blk_frozen BK227.out 3; obtain ⟨Ao45, co45, eo45⟩ := Kd.S_slice HO226.out; subst eo45; have hcz46_0 : w41.cell? ⟨gb205, 0, none⟩ = some (.string a1_0) := (blk_cell BK205.out 0).trans rfl; have hcz46_1 : w41.cell? ⟨gb205, 1, none⟩ = some (.string a1_1) := (blk_cell BK205.out 1).trans rfl; have hcz46_2 : w41.cell? ⟨gb205, 2, none⟩ = some (.int .i64 a1_2) := (blk_cell BK205.out 2).trans rfl; have hcz46_3 : w41.cell? ⟨gb205, 3, none⟩ = some (.slice A1_3 l1_3.length c1_3) := (blk_cell BK205.out 3).trans rfl; have hfz46_0 := blk_frozen BK205.out 0; have hfz46_1 := blk_frozen BK205.out 1; have hfz46_2 := blk_frozen BK205.out 2; have hfz46_3 := blk_frozen BK205.out 3) | ((with_reducible refine gate_callee (f := 15) rfl ?_); refine goesL_ (some 28) rfl rfl Try.func15 (by kernel_rfl) rfl #[.agg mm9q5_] rfl (by mm9q4_) ?_; (mm9q54_); (mm9q61_); (case side2 => exact HC1_3.out); rintro e w_ ⟨v232, rfl, ho0, hb⟩; refine ⟨_, rfl, ?_⟩; have n0_ := Aside0.mk (Kd.S_elder' (by mm9q42_) (Kd.S_base ho0) hb); have n1_ := Aside0.mk (Kd.S_elder' (by mm9q43_) (Kd.S_base ho0) hb); have n2_ := Aside0.mk (Kd.S_elder' (by mm9q44_) (Kd.S_base ho0) hb); have n3_ := Aside0.mk (Kd.S_lower (Kd.S_new' (Kd.S_new' (Kd.S_new' ho0 (Kd.S_lt (by mm9q42_))) (Kd.S_lt (by mm9q43_))) (Kd.S_lt (by mm9q44_))) (below_size (by mm9q7_))); have n4_ := Aside0.mk (blk_below (g := gb204) (o := .cells mm9q3_ 35 (0, 0)) (by mm9q17_) hb); have n5_ := Aside0.mk (blk_below (g := gb205) (o := .cells mm9q5_ 35 (0, 0)) (by mm9q18_) hb); have n6_ := Aside0.mk (blk_below (g := gb227) (o := .cells mm9q55_ 40 (0, 0)) (by mm9q13_) hb); have n7_ := Aside0.mk (below_step (by mm9q7_) hb); clear HO213; clear HO219; clear HO226; clear BK204; clear BK205; clear BK227; clear HB; have HO213 := n0_; have HO219 := n1_; have HO226 := n2_; have HO233 := n3_; have BK204 := n4_; have BK205 := n5_; have BK227 := n6_; have HB := n7_; clear n0_ n1_ n2_ n3_ n4_ n5_ n6_ n7_; (try clear hb); (try clear hb2); (try clear hk); (try clear hi); (try clear ho0)) | ((with_reducible refine gate_dst (N := 8) rfl ?_); refine box_event ?hg (N := 8) ?hd (cs := mm9q23_) (t := 40) ?hr ?_; (case hd => rfl); (case hg => rfl); (mm9q22_); intro gb234 hg w48 hbox hb; have n0_ := Aside0.mk (Kd.S_below (by (mm9q1_); exact HO213.out) hb); have n1_ := Aside0.mk (Kd.S_below (by (mm9q1_); exact HO219.out) hb); have n2_ := Aside0.mk (Kd.S_below (by (mm9q1_); exact HO226.out) hb); have n3_ := Aside0.mk (Kd.S_below (by (mm9q1_); exact HO233.out) hb); have n4_ := Aside0.mk (blk_below (g := gb204) (o := .cells mm9q3_ 35 (0, 0)) (by (mm9q0_); exact BK204.out) hb); have n5_ := Aside0.mk (blk_below (g := gb205) (o := .cells mm9q5_ 35 (0, 0)) (by (mm9q0_); exact BK205.out) hb); have n6_ := Aside0.mk (blk_below (g := gb227) (o := .cells mm9q55_ 40 (0, 0)) (by (mm9q0_); exact BK227.out) hb); have n7_ := Aside0.mk (below_step (by mm9q7_) hb); have n8_ := Aside0.mk (hbox); have n9_ := Aside0.mk ((by rw [hg]; exact (below_size (by mm9q7_)) : w.heap.size ≤ gb234)); have n10_ := Aside0.mk ((by rw [hg]; exact (below_size (by mm9q7_)) : w.heap.size ≤ gb234)); have n11_ := Aside0.mk ((by rw [hg]; exact Nat.ne_of_lt (blk_lt (g := gb204) (o := .cells mm9q3_ 35 (0, 0)) (by (mm9q0_); exact BK204.out)) : gb204 ≠ gb234)); have n12_ := Aside0.mk ((by rw [hg]; exact Nat.ne_of_gt (blk_lt (g := gb204) (o := .cells mm9q3_ 35 (0, 0)) (by (mm9q0_); exact BK204.out)) : gb234 ≠ gb204)); have n13_ := Aside0.mk ((by rw [hg]; exact Nat.ne_of_lt (blk_lt (g := gb205) (o := .cells mm9q5_ 35 (0, 0)) (by (mm9q0_); exact BK205.out)) : gb205 ≠ gb234)); have n14_ := Aside0.mk ((by rw [hg]; exact Nat.ne_of_gt (blk_lt (g := gb205) (o := .cells mm9q5_ 35 (0, 0)) (by (mm9q0_); exact BK205.out)) : gb234 ≠ gb205)); have n15_ := Aside0.mk ((by rw [hg]; exact Nat.ne_of_lt (blk_lt (g := gb227) (o := .cells mm9q55_ 40 (0, 0)) (by (mm9q0_); exact BK227.out)) : gb227 ≠ gb234)); have n16_ := Aside0.mk ((by rw [hg]; exact Nat.ne_of_gt (blk_lt (g := gb227) (o := .cells mm9q55_ 40 (0, 0)) (by (mm9q0_); exact BK227.out)) : gb234 ≠ gb227)); clear HO213; clear HO219; clear HO226; clear HO233; clear BK204; clear BK205; clear BK227; clear HB; have HO213 := n0_; have HO219 := n1_; have HO226 := n2_; have HO233 := n3_; have BK204 := n4_; have BK205 := n5_; have BK227 := n6_; have HB := n7_; have BK234 := n8_; have GW234 := n9_; have GE234 := n10_; have NB204_234 := n11_; have NB234_204 := n12_; have NB205_234 := n13_; have NB234_205 := n14_; have NB227_234 := n15_; have NB234_227 := n16_; clear n0_ n1_ n2_ n3_ n4_ n5_ n6_ n7_ n8_ n9_ n10_ n11_ n12_ n13_ n14_ n15_ n16_; clear hb hbox hg; have hnb49 := NB234_204.out; have hnc49 := NB204_234.out; have hnb50 := NB234_205.out; have hnc50 := NB205_234.out; have hnb51 := NB234_227.out; have hnc51 := NB227_234.out; have hcz52_0 : w48.cell? ⟨gb234, 0, none⟩ = some (.string (⟨#[]⟩ : ByteArray)) := (blk_cell BK234.out 0).trans rfl; have hcz52_1 : w48.cell? ⟨gb234, 1, none⟩ = some (.string (⟨#[]⟩ : ByteArray)) := (blk_cell BK234.out 1).trans rfl; have hcz52_2 : w48.cell? ⟨gb234, 2, none⟩ = some (.int .i64 0) := (blk_cell BK234.out 2).trans rfl; have hcz52_3 : w48.cell? ⟨gb234, 3, none⟩ = some (.slice none 0 0) := (blk_cell BK234.out 3).trans rfl; have hfz52_0 := blk_frozen BK234.out 0; have hfz52_1 := blk_frozen BK234.out 1; have hfz52_2 := blk_frozen BK234.out 2; have hfz52_3 := blk_frozen BK234.out 3; obtain ⟨Ao53, co53, eo53⟩ := Kd.S_slice HO233.out; subst eo53; have hcz54_0 : w48.cell? ⟨gb227, 0, none⟩ = some (.string t221) := (blk_cell BK227.out 0).trans rfl; have hcz54_1 : w48.cell? ⟨gb227, 1, none⟩ = some (.string t222) := (blk_cell BK227.out 1).trans rfl; have hcz54_2 : w48.cell? ⟨gb227, 2, none⟩ = some (.int .i64 t223) := (blk_cell BK227.out 2).trans rfl; have hcz54_3 : w48.cell? ⟨gb227, 3, none⟩ = some (.slice Ao45 t224.length co45) := (blk_cell BK227.out 3).trans rfl; have hfz54_0 := blk_frozen BK227.out 0; have hfz54_1 := blk_frozen BK227.out 1; have hfz54_2 := blk_frozen BK227.out 2; have hfz54_3 := blk_frozen BK227.out 3) | ((with_reducible refine gate_callee (f := 16) rfl ?_); refine goesL_ (some 31) rfl rfl Try.func16 (by kernel_rfl) rfl #[.agg mm9q55_, .agg #[.string t228, .string t229, .int .i64 t230, .slice Ao53 t231.length co53]] rfl (by mm9q4_) ?_; (mm9q28_); (case side1 => refine (Kd.S_reads' (e := 30) (base := w.heap.size) (ok := fun k_ => (((True ∧ some k_ ≠ (.slice Ao36 t211.length co36 : Value).ownBlock) ∧ some k_ ≠ (.slice Ao37 t217.length co37 : Value).ownBlock) ∧ some k_ ≠ (.slice Ao53 t231.length co53 : Value).ownBlock)) (n := t224.length) (c := co45) ?_).2.2; exact (by mm9q45_)); (mm9q56_); (case side3 => refine (Kd.S_reads' (e := 30) (base := w.heap.size) (ok := fun k_ => (((True ∧ some k_ ≠ (.slice Ao36 t211.length co36 : Value).ownBlock) ∧ some k_ ≠ (.slice Ao37 t217.length co37 : Value).ownBlock) ∧ some k_ ≠ (.slice Ao45 t224.length co45 : Value).ownBlock)) (n := t231.length) (c := co53) ?_).2.2; exact (by mm9q46_)); (mm9q64_); rintro e w_ ⟨rfl, hb⟩; refine ⟨_, rfl, ?_⟩; have n0_ := Aside0.mk (Kd.S_below (by (mm9q1_); exact (Kd.S_mono (Kd.S_far (p := ⟨gb234, 3, none⟩) (Kd.S_far (p := ⟨gb234, 2, none⟩) (Kd.S_far (p := ⟨gb234, 1, none⟩) (Kd.S_far (p := ⟨gb234, 0, none⟩) (Kd.S_types HO213.out BK234.out (by decide)) (fun _ hk => hk.2) (.string t228)) (fun _ hk => hk.2) (.string t229)) (fun _ hk => hk.2) (.int .i64 t230)) (fun _ hk => hk.2) (.slice Ao53 t231.length co53)) (fun _ h_ => h_.1))) hb); have n1_ := Aside0.mk (Kd.S_below (by (mm9q1_); exact (Kd.S_mono (Kd.S_far (p := ⟨gb234, 3, none⟩) (Kd.S_far (p := ⟨gb234, 2, none⟩) (Kd.S_far (p := ⟨gb234, 1, none⟩) (Kd.S_far (p := ⟨gb234, 0, none⟩) (Kd.S_types HO219.out BK234.out (by decide)) (fun _ hk => hk.2) (.string t228)) (fun _ hk => hk.2) (.string t229)) (fun _ hk => hk.2) (.int .i64 t230)) (fun _ hk => hk.2) (.slice Ao53 t231.length co53)) (fun _ h_ => h_.1))) hb); have n2_ := Aside0.mk (Kd.S_below (by mm9q45_) hb); have n3_ := Aside0.mk (Kd.S_below (by mm9q46_) hb); have n4_ := Aside0.mk (blk_below (g := gb204) (o := .cells mm9q3_ 35 (0, 0)) (by mm9q19_) hb); have n5_ := Aside0.mk (blk_below (g := gb205) (o := .cells mm9q5_ 35 (0, 0)) (by mm9q20_) hb); have n6_ := Aside0.mk (blk_below (g := gb227) (o := .cells mm9q55_ 40 (0, 0)) (by mm9q21_) hb); have n7_ := Aside0.mk (blk_below (g := gb234) (o := .cells #[.string t228, .string t229, .int .i64 t230, .slice Ao53 t231.length co53] 40 (0, 0)) (by mm9q14_) hb); have n8_ := Aside0.mk (below_step (by repeat (mm9q6_)) hb); clear HO213; clear HO219; clear HO226; clear HO233; clear BK204; clear BK205; clear BK227; clear BK234; clear HB; have HO213 := n0_; have HO219 := n1_; have HO226 := n2_; have HO233 := n3_; have BK204 := n4_; have BK205 := n5_; have BK227 := n6_; have BK234 := n7_; have HB := n8_; clear n0_ n1_ n2_ n3_ n4_ n5_ n6_ n7_ n8_; (try clear hb); (try clear hb2); (try clear hk); (try clear hi)))
        go_ret
        exact ⟨by first | rfl | (simp [errW_none, errW_some] <;> rfl) | (simp [*, errW_none, errW_some] <;> rfl), by repeat (mm9q6_)⟩
      · rw [if_neg c25] at H
        have c25b0 : (t235 != t220) = false := by simpa using c25
        (try (have c25b1 : decide (t235 = t220) = true := by simpa using c25))
        (try (have c25b2 : (t235 == t220) = true := by simpa using c25))
        clear c25
        replace H := Option.bind_eq_some_iff.mp H
        obtain ⟨⟨t236, t237, t238, t239⟩, A560, H⟩ := H
        replace H : ((laws_eqParcel.f k t221 t222 t223 t224 t236 t237 t238 t239).bind fun t242 => (if t242 = true then ((laws_toParcel.f k a1_0 a1_1 a1_2 l1_3).bind fun bt243 => ((laws_eqParcel.f k t228 t229 t230 t231 bt243.1 bt243.2.1 bt243.2.2.1 bt243.2.2.2).bind fun t249 => (if t249 = true then (some true) else (some false)))) else (some false))) = some r := H
        have A56 := Aside0.mk A560
        clear A560
        replace H := Option.bind_eq_some_iff.mp H
        obtain ⟨t242, A570, H⟩ := H
        replace H : (if t242 = true then ((laws_toParcel.f k a1_0 a1_1 a1_2 l1_3).bind fun bt243 => ((laws_eqParcel.f k t228 t229 t230 t231 bt243.1 bt243.2.1 bt243.2.2.1 bt243.2.2.2).bind fun t249 => (if t249 = true then (some true) else (some false)))) else (some false)) = some r := H
        have A57 := Aside0.mk A570
        clear A570
        by_cases c58 : t242 = true
        · subst c58
          have H1 : ((laws_toParcel.f k a1_0 a1_1 a1_2 l1_3).bind fun bt243 => ((laws_eqParcel.f k t228 t229 t230 t231 bt243.1 bt243.2.1 bt243.2.2.1 bt243.2.2.2).bind fun t249 => (if t249 = true then (some true) else (some false)))) = some r := by rw [if_pos rfl] at H; exact H
          clear H
          have H := H1
          clear H1
          replace H := Option.bind_eq_some_iff.mp H
          obtain ⟨⟨t243, t244, t245, t246⟩, A590, H⟩ := H
          replace H : ((laws_eqParcel.f k t228 t229 t230 t231 t243 t244 t245 t246).bind fun t249 => (if t249 = true then (some true) else (some false))) = some r := H
          have A59 := Aside0.mk A590
          clear A590
          replace H := Option.bind_eq_some_iff.mp H
          obtain ⟨t249, A600, H⟩ := H
          replace H : (if t249 = true then (some true) else (some false)) = some r := H
          have A60 := Aside0.mk A600
          clear A600
          by_cases c61 : t249 = true
          · subst c61
            have H1 : (some true) = some r := by rw [if_pos rfl] at H; exact H
            clear H
            have H := H1
            clear H1
            obtain rfl := Option.some.inj H
            go_enter Try.func4, Try.ntmps4
            try go_wp2_with (first | (mm9q8_) | ((with_reducible refine gate_dst (N := 3) rfl ?_); refine box_event ?hg (N := 3) ?hd (cs := mm9q5_) (t := 35) ?hr ?_; (case hd => rfl); (case hg => rfl); (mm9q22_); intro gb205 hg w63 hbox hb; have n0_ := Aside0.mk (blk_below (g := gb204) (o := .cells mm9q3_ 35 (0, 0)) (by (mm9q0_); exact BK204.out) hb); have n1_ := Aside0.mk (below_step (by mm9q10_) hb); have n2_ := Aside0.mk (hbox); have n3_ := Aside0.mk ((by rw [hg]; exact (below_size (by mm9q10_)) : w.heap.size ≤ gb205)); have n4_ := Aside0.mk ((by rw [hg]; exact (below_size (by mm9q10_)) : w.heap.size ≤ gb205)); have n5_ := Aside0.mk ((by rw [hg]; exact Nat.ne_of_lt (blk_lt (g := gb204) (o := .cells mm9q3_ 35 (0, 0)) (by (mm9q0_); exact BK204.out)) : gb204 ≠ gb205)); have n6_ := Aside0.mk ((by rw [hg]; exact Nat.ne_of_gt (blk_lt (g := gb204) (o := .cells mm9q3_ 35 (0, 0)) (by (mm9q0_); exact BK204.out)) : gb205 ≠ gb204)); clear BK204; clear HB; have BK204 := n0_; have HB := n1_; have BK205 := n2_; have GW205 := n3_; have GE205 := n4_; have NB204_205 := n5_; have NB205_204 := n6_; clear n0_ n1_ n2_ n3_ n4_ n5_ n6_; clear hb hbox hg; have hnb64 := NB204_205.out; have hnc64 := NB205_204.out; have hcz65_0 : w63.cell? ⟨gb204, 0, none⟩ = some (.string a0_0) := (blk_cell BK204.out 0).trans rfl; have hcz65_1 : w63.cell? ⟨gb204, 1, none⟩ = some (.string a0_1) := (blk_cell BK204.out 1).trans rfl; have hcz65_2 : w63.cell? ⟨gb204, 2, none⟩ = some (.int .i64 a0_2) := (blk_cell BK204.out 2).trans rfl; have hcz65_3 : w63.cell? ⟨gb204, 3, none⟩ = some (.slice A0_3 l0_3.length c0_3) := (blk_cell BK204.out 3).trans rfl; have hfz65_0 := blk_frozen BK204.out 0; have hfz65_1 := blk_frozen BK204.out 1; have hfz65_2 := blk_frozen BK204.out 2; have hfz65_3 := blk_frozen BK204.out 3) | ((with_reducible refine gate_callee (f := 13) rfl ?_); refine goesL_ (some 12) rfl rfl Try.func13 (by kernel_rfl) rfl #[.agg mm9q3_, .int .i64 1048576] rfl (by mm9q4_) ?_; (mm9q27_); (mm9q11_); (case side2 => exact HC0_3.out); rintro e w66 ⟨rfl, hb⟩; refine ⟨_, rfl, ?_⟩; have n0_ := Aside0.mk (blk_below (g := gb204) (o := .cells mm9q3_ 35 (0, 0)) (by (mm9q0_); exact BK204.out) hb); have n1_ := Aside0.mk (blk_below (g := gb205) (o := .cells mm9q5_ 35 (0, 0)) (by (mm9q0_); exact BK205.out) hb); have n2_ := Aside0.mk (below_step (by mm9q2_) hb); clear BK204; clear BK205; clear HB; have BK204 := n0_; have BK205 := n1_; have HB := n2_; clear n0_ n1_ n2_; (try clear hb); (try clear hb2); (try clear hk); (try clear hi); have hcz67_0 : w66.cell? ⟨gb205, 0, none⟩ = some (.string a1_0) := (blk_cell BK205.out 0).trans rfl; have hcz67_1 : w66.cell? ⟨gb205, 1, none⟩ = some (.string a1_1) := (blk_cell BK205.out 1).trans rfl; have hcz67_2 : w66.cell? ⟨gb205, 2, none⟩ = some (.int .i64 a1_2) := (blk_cell BK205.out 2).trans rfl; have hcz67_3 : w66.cell? ⟨gb205, 3, none⟩ = some (.slice A1_3 l1_3.length c1_3) := (blk_cell BK205.out 3).trans rfl; have hfz67_0 := blk_frozen BK205.out 0; have hfz67_1 := blk_frozen BK205.out 1; have hfz67_2 := blk_frozen BK205.out 2; have hfz67_3 := blk_frozen BK205.out 3) | ((with_reducible refine gate_callee (f := 13) rfl ?_); refine goesL_ (some 17) rfl rfl Try.func13 (by kernel_rfl) rfl #[.agg mm9q5_, .int .i64 t206] rfl (by mm9q4_) ?_; (mm9q29_); (mm9q12_); (case side2 => exact HC1_3.out); rintro e w68 ⟨rfl, hb⟩; refine ⟨_, rfl, ?_⟩; have n0_ := Aside0.mk (blk_below (g := gb204) (o := .cells mm9q3_ 35 (0, 0)) (by (mm9q0_); exact BK204.out) hb); have n1_ := Aside0.mk (blk_below (g := gb205) (o := .cells mm9q5_ 35 (0, 0)) (by (mm9q0_); exact BK205.out) hb); have n2_ := Aside0.mk (below_step (by mm9q2_) hb); clear BK204; clear BK205; clear HB; have BK204 := n0_; have BK205 := n1_; have HB := n2_; clear n0_ n1_ n2_; (try clear hb); (try clear hb2); (try clear hk); (try clear hi)))
            have n0_ := Aside0.mk (blk_drew BK204.out)
            have n1_ := Aside0.mk (blk_drew BK205.out)
            have n2_ := Aside0.mk (below_drew1 HB.out)
            clear BK204
            clear BK205
            clear HB
            have BK204 := n0_
            have BK205 := n1_
            have HB := n2_
            clear n0_ n1_ n2_
            refine start_ (n := 6) (S := fun w' => w'.cell? ⟨gb204, 0, none⟩ = some (.string a0_0) ∧ w'.cell? ⟨gb204, 1, none⟩ = some (.string a0_1) ∧ w'.cell? ⟨gb204, 2, none⟩ = some (.int .i64 a0_2) ∧ w'.cell? ⟨gb204, 3, none⟩ = some (.slice A0_3 l0_3.length c0_3) ∧ w'.cell? ⟨gb205, 0, none⟩ = some (.string a1_0) ∧ w'.cell? ⟨gb205, 1, none⟩ = some (.string a1_1) ∧ w'.cell? ⟨gb205, 2, none⟩ = some (.int .i64 a1_2) ∧ w'.cell? ⟨gb205, 3, none⟩ = some (.slice A1_3 l1_3.length c1_3)) (ds := []) #[false, false, false, false, false, false] (by kernel_rfl) rfl rfl ⟨(blk_cell BK204.out 0).trans rfl, (blk_cell BK204.out 1).trans rfl, (blk_cell BK204.out 2).trans rfl, (blk_cell BK204.out 3).trans rfl, (blk_cell BK205.out 0).trans rfl, (blk_cell BK205.out 1).trans rfl, (blk_cell BK205.out 2).trans rfl, (blk_cell BK205.out 3).trans rfl⟩ (fun hHeld => ?_)
            generalize w68.drew = w_ at BK204 BK205 HB hHeld ⊢
            refine take_ (i := 0) (N := some 20) (v := ?_) (a' := ?_) #[true, false, false, false, false, false] rfl rfl (by kernel_rfl) (fun _ _ _ h => h) (Or.inl ⟨by rfl, ?_⟩) hHeld ?_ ?_
            rotate_left
            · rintro w' ⟨s0, s1, s2, s3, s4, s5, s6, s7⟩
              go_simp
              with_reducible rfl
            rotate_left
            · simp only [Act.put, List.setIfInBounds_toArray, List.set_cons_zero, List.set_cons_succ, i64_w, i32_w]
              rfl
            refine take_ (i := 2) (N := some 22) (v := ?_) (a' := ?_) #[true, false, true, false, false, false] rfl rfl (by kernel_rfl) (fun _ _ _ h => h) (Or.inl ⟨by rfl, ?_⟩) hHeld ?_ ?_
            rotate_left
            · rintro w' ⟨s0, s1, s2, s3, s4, s5, s6, s7⟩
              go_simp
              with_reducible rfl
            rotate_left
            · simp only [Act.put, List.setIfInBounds_toArray, List.set_cons_zero, List.set_cons_succ, i64_w, i32_w]
              rfl
            refine one_ (i := 1) (N := some 21) #[true, true, true, false, false, false] rfl rfl (by kernel_rfl) (by decide) (fun K hK => ?_)
            refine goes_ Try.func15 (by kernel_rfl) rfl #[.agg mm9q3_] (by rfl) rfl rfl (by mm9q4_) ?_
            with_reducible refine (laws_toParcel.calls k a0_0 a0_1 a0_2 _ _ l0_3 t208 t209 t210 t211 _ ?side1 ?side2 A19.out).mono ?_
            (mm9q11_)
            (case side2 => exact HC0_3.out)
            rintro e w_ ⟨v212, rfl, ho0, hb⟩
            refine ⟨_, rfl, ?_⟩
            have n0_ := Aside0.mk (Kd.S_lower ho0 (below_size (by mm9q2_)))
            have n1_ := Aside0.mk (blk_below (g := gb204) (o := .cells mm9q3_ 35 (0, 0)) (by (mm9q0_); exact BK204.out) hb)
            have n2_ := Aside0.mk (blk_below (g := gb205) (o := .cells mm9q5_ 35 (0, 0)) (by (mm9q0_); exact BK205.out) hb)
            have n3_ := Aside0.mk (below_step (by mm9q2_) hb)
            clear BK204
            clear BK205
            clear HB
            have HO213 := n0_
            have BK204 := n1_
            have BK205 := n2_
            have HB := n3_
            clear n0_ n1_ n2_ n3_
            (try clear hb)
            (try clear hb2)
            (try clear hk)
            (try clear hi)
            (try clear ho0)
            refine hK.out _ _ ⟨(blk_cell BK204.out 0).trans rfl, (blk_cell BK204.out 1).trans rfl, (blk_cell BK204.out 2).trans rfl, (blk_cell BK204.out 3).trans rfl, (blk_cell BK205.out 0).trans rfl, (blk_cell BK205.out 1).trans rfl, (blk_cell BK205.out 2).trans rfl, (blk_cell BK205.out 3).trans rfl⟩ (fun hHeld => ?_)
            clear hK K
            refine norm_ (a' := ?_) ?_ ?_
            rotate_left
            · show Act.put _ (some 21) _ = _
              simp only [Act.put, List.setIfInBounds_toArray, List.set_cons_zero, List.set_cons_succ, i64_w, i32_w]
              rfl
            refine one_ (i := 3) (N := some 23) #[true, true, true, true, false, false] rfl rfl (by kernel_rfl) (by decide) (fun K hK => ?_)
            refine goes_ Try.func15 (by kernel_rfl) rfl #[.agg mm9q5_] (by rfl) rfl rfl (by mm9q4_) ?_
            with_reducible refine (laws_toParcel.calls k a1_0 a1_1 a1_2 _ _ l1_3 t214 t215 t216 t217 _ ?side1 ?side2 A20.out).mono ?_
            (mm9q12_)
            (case side2 => exact HC1_3.out)
            rintro e w_ ⟨v218, rfl, ho0, hb⟩
            refine ⟨_, rfl, ?_⟩
            have n0_ := Aside0.mk (Kd.S_elder' (by (mm9q1_); exact HO213.out) (Kd.S_base ho0) hb)
            have n1_ := Aside0.mk (Kd.S_lower (Kd.S_new' ho0 (Kd.S_lt (by (mm9q1_); exact HO213.out))) (below_size (by mm9q2_)))
            have n2_ := Aside0.mk (blk_below (g := gb204) (o := .cells mm9q3_ 35 (0, 0)) (by (mm9q0_); exact BK204.out) hb)
            have n3_ := Aside0.mk (blk_below (g := gb205) (o := .cells mm9q5_ 35 (0, 0)) (by (mm9q0_); exact BK205.out) hb)
            have n4_ := Aside0.mk (below_step (by mm9q2_) hb)
            clear HO213
            clear BK204
            clear BK205
            clear HB
            have HO213 := n0_
            have HO219 := n1_
            have BK204 := n2_
            have BK205 := n3_
            have HB := n4_
            clear n0_ n1_ n2_ n3_ n4_
            (try clear hb)
            (try clear hb2)
            (try clear hk)
            (try clear hi)
            (try clear ho0)
            obtain ⟨Ao72, co72, eo72⟩ := Kd.S_slice HO213.out
            (first | subst eo72 | (injection eo72 with f1_ f2_ f3_; have f4_ := f1_.symm; have f5_ := f3_.symm; clear f1_ f2_ f3_; subst f4_; subst f5_))
            obtain ⟨Ao73, co73, eo73⟩ := Kd.S_slice HO219.out
            (first | subst eo73 | (injection eo73 with f1_ f2_ f3_; have f4_ := f1_.symm; have f5_ := f3_.symm; clear f1_ f2_ f3_; subst f4_; subst f5_))
            refine hK.out _ _ ⟨(blk_cell BK204.out 0).trans rfl, (blk_cell BK204.out 1).trans rfl, (blk_cell BK204.out 2).trans rfl, (blk_cell BK204.out 3).trans rfl, (blk_cell BK205.out 0).trans rfl, (blk_cell BK205.out 1).trans rfl, (blk_cell BK205.out 2).trans rfl, (blk_cell BK205.out 3).trans rfl⟩ (fun hHeld => ?_)
            clear hK K
            refine norm_ (a' := ?_) ?_ ?_
            rotate_left
            · show Act.put _ (some 23) _ = _
              simp only [Act.put, List.setIfInBounds_toArray, List.set_cons_zero, List.set_cons_succ, i64_w, i32_w]
              rfl
            refine one_ (i := 4) (N := some 24) #[true, true, true, true, true, false] rfl rfl (by kernel_rfl) (by decide) (fun K hK => ?_)
            refine goes_ Try.func14 (by kernel_rfl) rfl #[.agg #[.string t208, .string t209, .int .i64 t210, .slice Ao72 t211.length co72], .agg #[.string t214, .string t215, .int .i64 t216, .slice Ao73 t217.length co73]] (by rfl) rfl rfl (by mm9q4_) ?_
            with_reducible refine (spec_ParcelSame.calls k t208 t209 t210 _ _ t211 t214 t215 t216 _ _ t217 t220 _ ?side1 ?side2 ?side3 ?side4 A21.out).mono ?_
            (mm9q24_)
            (mm9q62_)
            (mm9q25_)
            (mm9q63_)
            rintro e w74 ⟨rfl, hb⟩
            refine ⟨_, rfl, ?_⟩
            have n0_ := Aside0.mk (Kd.S_below (by (mm9q1_); exact HO213.out) hb)
            have n1_ := Aside0.mk (Kd.S_below (by (mm9q1_); exact HO219.out) hb)
            have n2_ := Aside0.mk (blk_below (g := gb204) (o := .cells mm9q3_ 35 (0, 0)) (by (mm9q0_); exact BK204.out) hb)
            have n3_ := Aside0.mk (blk_below (g := gb205) (o := .cells mm9q5_ 35 (0, 0)) (by (mm9q0_); exact BK205.out) hb)
            have n4_ := Aside0.mk (below_step (by mm9q2_) hb)
            clear HO213
            clear HO219
            clear BK204
            clear BK205
            clear HB
            have HO213 := n0_
            have HO219 := n1_
            have BK204 := n2_
            have BK205 := n3_
            have HB := n4_
            clear n0_ n1_ n2_ n3_ n4_
            (try clear hb)
            (try clear hb2)
            (try clear hk)
            (try clear hi)
            refine hK.out _ _ ⟨(blk_cell BK204.out 0).trans rfl, (blk_cell BK204.out 1).trans rfl, (blk_cell BK204.out 2).trans rfl, (blk_cell BK204.out 3).trans rfl, (blk_cell BK205.out 0).trans rfl, (blk_cell BK205.out 1).trans rfl, (blk_cell BK205.out 2).trans rfl, (blk_cell BK205.out 3).trans rfl⟩ (fun hHeld => ?_)
            clear hK K
            refine norm_ (a' := ?_) ?_ ?_
            rotate_left
            · show Act.put _ (some 24) _ = _
              simp only [Act.put, List.setIfInBounds_toArray, List.set_cons_zero, List.set_cons_succ, i64_w, i32_w]
              rfl
            refine pure_ (i := 5) (N := some 6) (v := ?_) (a' := ?_) #[true, true, true, true, true, true] rfl rfl (by kernel_rfl) (fun _ _ _ h => h) (Or.inl ⟨by rfl, ?_⟩) ?_ ?_
            rotate_left
            · intro w'
              go_simp
              with_reducible rfl
            rotate_left
            · simp only [Act.put, List.setIfInBounds_toArray, List.set_cons_zero, List.set_cons_succ, i64_w, i32_w]
              rfl
            refine done_ (by kernel_rfl) ?_
            have hcz75_0 : w74.cell? ⟨gb204, 0, none⟩ = some (.string a0_0) := (blk_cell BK204.out 0).trans rfl
            have hcz75_1 : w74.cell? ⟨gb204, 1, none⟩ = some (.string a0_1) := (blk_cell BK204.out 1).trans rfl
            have hcz75_2 : w74.cell? ⟨gb204, 2, none⟩ = some (.int .i64 a0_2) := (blk_cell BK204.out 2).trans rfl
            have hcz75_3 : w74.cell? ⟨gb204, 3, none⟩ = some (.slice A0_3 l0_3.length c0_3) := (blk_cell BK204.out 3).trans rfl
            have hfz75_0 := blk_frozen BK204.out 0
            have hfz75_1 := blk_frozen BK204.out 1
            have hfz75_2 := blk_frozen BK204.out 2
            have hfz75_3 := blk_frozen BK204.out 3
            try go_wp2_with (first | (mm9q9_) | ((with_reducible refine gate_dst (N := 7) rfl ?_); refine box_event ?hg (N := 7) ?hd (cs := mm9q23_) (t := 40) ?hr ?_; (case hd => rfl); (case hg => rfl); (mm9q22_); intro gb227 hg w77 hbox hb; have n0_ := Aside0.mk (Kd.S_below (by (mm9q1_); exact HO213.out) hb); have n1_ := Aside0.mk (Kd.S_below (by (mm9q1_); exact HO219.out) hb); have n2_ := Aside0.mk (Kd.S_below (by (mm9q1_); exact HO226.out) hb); have n3_ := Aside0.mk (blk_below (g := gb204) (o := .cells mm9q3_ 35 (0, 0)) (by (mm9q0_); exact BK204.out) hb); have n4_ := Aside0.mk (blk_below (g := gb205) (o := .cells mm9q5_ 35 (0, 0)) (by (mm9q0_); exact BK205.out) hb); have n5_ := Aside0.mk (below_step (by mm9q2_) hb); have n6_ := Aside0.mk (hbox); have n7_ := Aside0.mk ((by rw [hg]; exact (below_size (by mm9q2_)) : w.heap.size ≤ gb227)); have n8_ := Aside0.mk ((by rw [hg]; exact (below_size (by mm9q2_)) : w.heap.size ≤ gb227)); have n9_ := Aside0.mk ((by rw [hg]; exact Nat.ne_of_lt (blk_lt (g := gb204) (o := .cells mm9q3_ 35 (0, 0)) (by (mm9q0_); exact BK204.out)) : gb204 ≠ gb227)); have n10_ := Aside0.mk ((by rw [hg]; exact Nat.ne_of_gt (blk_lt (g := gb204) (o := .cells mm9q3_ 35 (0, 0)) (by (mm9q0_); exact BK204.out)) : gb227 ≠ gb204)); have n11_ := Aside0.mk ((by rw [hg]; exact Nat.ne_of_lt (blk_lt (g := gb205) (o := .cells mm9q5_ 35 (0, 0)) (by (mm9q0_); exact BK205.out)) : gb205 ≠ gb227)); have n12_ := Aside0.mk ((by rw [hg]; exact Nat.ne_of_gt (blk_lt (g := gb205) (o := .cells mm9q5_ 35 (0, 0)) (by (mm9q0_); exact BK205.out)) : gb227 ≠ gb205)); clear HO213; clear HO219; clear HO226; clear BK204; clear BK205; clear HB; have HO213 := n0_; have HO219 := n1_; have HO226 := n2_; have BK204 := n3_; have BK205 := n4_; have HB := n5_; have BK227 := n6_; have GW227 := n7_; have GE227 := n8_; have NB204_227 := n9_; have NB227_204 := n10_; have NB205_227 := n11_; have NB227_205 := n12_; clear n0_ n1_ n2_ n3_ n4_ n5_ n6_ n7_ n8_ n9_ n10_ n11_ n12_; clear hb hbox hg; have hnb78 := NB227_204.out; have hnc78 := NB204_227.out; have hnb79 := NB227_205.out; have hnc79 := NB205_227.out; have hcz80_0 : w77.cell? ⟨gb227, 0, none⟩ = some (.string (⟨#[]⟩ : ByteArray)) := (blk_cell BK227.out 0).trans rfl; have hcz80_1 : w77.cell? ⟨gb227, 1, none⟩ = some (.string (⟨#[]⟩ : ByteArray)) := (blk_cell BK227.out 1).trans rfl; have hcz80_2 : w77.cell? ⟨gb227, 2, none⟩ = some (.int .i64 0) := (blk_cell BK227.out 2).trans rfl; have hcz80_3 : w77.cell? ⟨gb227, 3, none⟩ = some (.slice none 0 0) := (blk_cell BK227.out 3).trans rfl; have hfz80_0 := blk_frozen BK227.out 0; have hfz80_1 := blk_frozen BK227.out 1; have hfz80_2 := blk_frozen BK227.out 2; have hfz80_3 := blk_frozen BK227.out 3; obtain ⟨Ao81, co81, eo81⟩ := Kd.S_slice HO226.out; subst eo81; have hcz82_0 : w77.cell? ⟨gb205, 0, none⟩ = some (.string a1_0) := (blk_cell BK205.out 0).trans rfl; have hcz82_1 : w77.cell? ⟨gb205, 1, none⟩ = some (.string a1_1) := (blk_cell BK205.out 1).trans rfl; have hcz82_2 : w77.cell? ⟨gb205, 2, none⟩ = some (.int .i64 a1_2) := (blk_cell BK205.out 2).trans rfl; have hcz82_3 : w77.cell? ⟨gb205, 3, none⟩ = some (.slice A1_3 l1_3.length c1_3) := (blk_cell BK205.out 3).trans rfl; have hfz82_0 := blk_frozen BK205.out 0; have hfz82_1 := blk_frozen BK205.out 1; have hfz82_2 := blk_frozen BK205.out 2; have hfz82_3 := blk_frozen BK205.out 3) | ((with_reducible refine gate_callee (f := 15) rfl ?_); refine goesL_ (some 28) rfl rfl Try.func15 (by kernel_rfl) rfl #[.agg mm9q5_] rfl (by mm9q4_) ?_; (mm9q54_); (mm9q61_); (case side2 => exact HC1_3.out); rintro e w_ ⟨v232, rfl, ho0, hb⟩; refine ⟨_, rfl, ?_⟩; have n0_ := Aside0.mk (Kd.S_elder' (by mm9q47_) (Kd.S_base ho0) hb); have n1_ := Aside0.mk (Kd.S_elder' (by mm9q48_) (Kd.S_base ho0) hb); have n2_ := Aside0.mk (Kd.S_elder' (by mm9q49_) (Kd.S_base ho0) hb); have n3_ := Aside0.mk (Kd.S_lower (Kd.S_new' (Kd.S_new' (Kd.S_new' ho0 (Kd.S_lt (by mm9q47_))) (Kd.S_lt (by mm9q48_))) (Kd.S_lt (by mm9q49_))) (below_size (by mm9q7_))); have n4_ := Aside0.mk (blk_below (g := gb204) (o := .cells mm9q3_ 35 (0, 0)) (by mm9q17_) hb); have n5_ := Aside0.mk (blk_below (g := gb205) (o := .cells mm9q5_ 35 (0, 0)) (by mm9q18_) hb); have n6_ := Aside0.mk (blk_below (g := gb227) (o := .cells mm9q16_ 40 (0, 0)) (by mm9q13_) hb); have n7_ := Aside0.mk (below_step (by mm9q7_) hb); clear HO213; clear HO219; clear HO226; clear BK204; clear BK205; clear BK227; clear HB; have HO213 := n0_; have HO219 := n1_; have HO226 := n2_; have HO233 := n3_; have BK204 := n4_; have BK205 := n5_; have BK227 := n6_; have HB := n7_; clear n0_ n1_ n2_ n3_ n4_ n5_ n6_ n7_; (try clear hb); (try clear hb2); (try clear hk); (try clear hi); (try clear ho0)) | ((with_reducible refine gate_dst (N := 8) rfl ?_); refine box_event ?hg (N := 8) ?hd (cs := mm9q23_) (t := 40) ?hr ?_; (case hd => rfl); (case hg => rfl); (mm9q22_); intro gb234 hg w84 hbox hb; have n0_ := Aside0.mk (Kd.S_below (by (mm9q1_); exact HO213.out) hb); have n1_ := Aside0.mk (Kd.S_below (by (mm9q1_); exact HO219.out) hb); have n2_ := Aside0.mk (Kd.S_below (by (mm9q1_); exact HO226.out) hb); have n3_ := Aside0.mk (Kd.S_below (by (mm9q1_); exact HO233.out) hb); have n4_ := Aside0.mk (blk_below (g := gb204) (o := .cells mm9q3_ 35 (0, 0)) (by (mm9q0_); exact BK204.out) hb); have n5_ := Aside0.mk (blk_below (g := gb205) (o := .cells mm9q5_ 35 (0, 0)) (by (mm9q0_); exact BK205.out) hb); have n6_ := Aside0.mk (blk_below (g := gb227) (o := .cells mm9q16_ 40 (0, 0)) (by (mm9q0_); exact BK227.out) hb); have n7_ := Aside0.mk (below_step (by mm9q7_) hb); have n8_ := Aside0.mk (hbox); have n9_ := Aside0.mk ((by rw [hg]; exact (below_size (by mm9q7_)) : w.heap.size ≤ gb234)); have n10_ := Aside0.mk ((by rw [hg]; exact (below_size (by mm9q7_)) : w.heap.size ≤ gb234)); have n11_ := Aside0.mk ((by rw [hg]; exact Nat.ne_of_lt (blk_lt (g := gb204) (o := .cells mm9q3_ 35 (0, 0)) (by (mm9q0_); exact BK204.out)) : gb204 ≠ gb234)); have n12_ := Aside0.mk ((by rw [hg]; exact Nat.ne_of_gt (blk_lt (g := gb204) (o := .cells mm9q3_ 35 (0, 0)) (by (mm9q0_); exact BK204.out)) : gb234 ≠ gb204)); have n13_ := Aside0.mk ((by rw [hg]; exact Nat.ne_of_lt (blk_lt (g := gb205) (o := .cells mm9q5_ 35 (0, 0)) (by (mm9q0_); exact BK205.out)) : gb205 ≠ gb234)); have n14_ := Aside0.mk ((by rw [hg]; exact Nat.ne_of_gt (blk_lt (g := gb205) (o := .cells mm9q5_ 35 (0, 0)) (by (mm9q0_); exact BK205.out)) : gb234 ≠ gb205)); have n15_ := Aside0.mk ((by rw [hg]; exact Nat.ne_of_lt (blk_lt (g := gb227) (o := .cells mm9q16_ 40 (0, 0)) (by (mm9q0_); exact BK227.out)) : gb227 ≠ gb234)); have n16_ := Aside0.mk ((by rw [hg]; exact Nat.ne_of_gt (blk_lt (g := gb227) (o := .cells mm9q16_ 40 (0, 0)) (by (mm9q0_); exact BK227.out)) : gb234 ≠ gb227)); clear HO213; clear HO219; clear HO226; clear HO233; clear BK204; clear BK205; clear BK227; clear HB; have HO213 := n0_; have HO219 := n1_; have HO226 := n2_; have HO233 := n3_; have BK204 := n4_; have BK205 := n5_; have BK227 := n6_; have HB := n7_; have BK234 := n8_; have GW234 := n9_; have GE234 := n10_; have NB204_234 := n11_; have NB234_204 := n12_; have NB205_234 := n13_; have NB234_205 := n14_; have NB227_234 := n15_; have NB234_227 := n16_; clear n0_ n1_ n2_ n3_ n4_ n5_ n6_ n7_ n8_ n9_ n10_ n11_ n12_ n13_ n14_ n15_ n16_; clear hb hbox hg; have hnb85 := NB234_204.out; have hnc85 := NB204_234.out; have hnb86 := NB234_205.out; have hnc86 := NB205_234.out; have hnb87 := NB234_227.out; have hnc87 := NB227_234.out; have hcz88_0 : w84.cell? ⟨gb234, 0, none⟩ = some (.string (⟨#[]⟩ : ByteArray)) := (blk_cell BK234.out 0).trans rfl; have hcz88_1 : w84.cell? ⟨gb234, 1, none⟩ = some (.string (⟨#[]⟩ : ByteArray)) := (blk_cell BK234.out 1).trans rfl; have hcz88_2 : w84.cell? ⟨gb234, 2, none⟩ = some (.int .i64 0) := (blk_cell BK234.out 2).trans rfl; have hcz88_3 : w84.cell? ⟨gb234, 3, none⟩ = some (.slice none 0 0) := (blk_cell BK234.out 3).trans rfl; have hfz88_0 := blk_frozen BK234.out 0; have hfz88_1 := blk_frozen BK234.out 1; have hfz88_2 := blk_frozen BK234.out 2; have hfz88_3 := blk_frozen BK234.out 3; obtain ⟨Ao89, co89, eo89⟩ := Kd.S_slice HO233.out; subst eo89; have hcz90_0 : w84.cell? ⟨gb227, 0, none⟩ = some (.string t221) := (blk_cell BK227.out 0).trans rfl; have hcz90_1 : w84.cell? ⟨gb227, 1, none⟩ = some (.string t222) := (blk_cell BK227.out 1).trans rfl; have hcz90_2 : w84.cell? ⟨gb227, 2, none⟩ = some (.int .i64 t223) := (blk_cell BK227.out 2).trans rfl; have hcz90_3 : w84.cell? ⟨gb227, 3, none⟩ = some (.slice Ao81 t224.length co81) := (blk_cell BK227.out 3).trans rfl; have hfz90_0 := blk_frozen BK227.out 0; have hfz90_1 := blk_frozen BK227.out 1; have hfz90_2 := blk_frozen BK227.out 2; have hfz90_3 := blk_frozen BK227.out 3) | ((with_reducible refine gate_callee (f := 16) rfl ?_); refine goesL_ (some 31) rfl rfl Try.func16 (by kernel_rfl) rfl #[.agg mm9q16_, .agg mm9q31_] rfl (by mm9q4_) ?_; (mm9q28_); (case side1 => refine (Kd.S_reads' (e := 30) (base := w.heap.size) (ok := fun k_ => (((True ∧ some k_ ≠ (.slice Ao72 t211.length co72 : Value).ownBlock) ∧ some k_ ≠ (.slice Ao73 t217.length co73 : Value).ownBlock) ∧ some k_ ≠ (.slice Ao89 t231.length co89 : Value).ownBlock)) (n := t224.length) (c := co81) ?_).2.2; exact (by mm9q50_)); (mm9q56_); (case side3 => refine (Kd.S_reads' (e := 30) (base := w.heap.size) (ok := fun k_ => (((True ∧ some k_ ≠ (.slice Ao72 t211.length co72 : Value).ownBlock) ∧ some k_ ≠ (.slice Ao73 t217.length co73 : Value).ownBlock) ∧ some k_ ≠ (.slice Ao81 t224.length co81 : Value).ownBlock)) (n := t231.length) (c := co89) ?_).2.2; exact (by mm9q51_)); (mm9q64_); rintro e w91 ⟨rfl, hb⟩; refine ⟨_, rfl, ?_⟩; have n0_ := Aside0.mk (Kd.S_below (by (mm9q1_); exact (Kd.S_mono (Kd.S_far (p := ⟨gb234, 3, none⟩) (Kd.S_far (p := ⟨gb234, 2, none⟩) (Kd.S_far (p := ⟨gb234, 1, none⟩) (Kd.S_far (p := ⟨gb234, 0, none⟩) (Kd.S_types HO213.out BK234.out (by decide)) (fun _ hk => hk.2) (.string t228)) (fun _ hk => hk.2) (.string t229)) (fun _ hk => hk.2) (.int .i64 t230)) (fun _ hk => hk.2) (.slice Ao89 t231.length co89)) (fun _ h_ => h_.1))) hb); have n1_ := Aside0.mk (Kd.S_below (by (mm9q1_); exact (Kd.S_mono (Kd.S_far (p := ⟨gb234, 3, none⟩) (Kd.S_far (p := ⟨gb234, 2, none⟩) (Kd.S_far (p := ⟨gb234, 1, none⟩) (Kd.S_far (p := ⟨gb234, 0, none⟩) (Kd.S_types HO219.out BK234.out (by decide)) (fun _ hk => hk.2) (.string t228)) (fun _ hk => hk.2) (.string t229)) (fun _ hk => hk.2) (.int .i64 t230)) (fun _ hk => hk.2) (.slice Ao89 t231.length co89)) (fun _ h_ => h_.1))) hb); have n2_ := Aside0.mk (Kd.S_below (by mm9q50_) hb); have n3_ := Aside0.mk (Kd.S_below (by mm9q51_) hb); have n4_ := Aside0.mk (blk_below (g := gb204) (o := .cells mm9q3_ 35 (0, 0)) (by mm9q19_) hb); have n5_ := Aside0.mk (blk_below (g := gb205) (o := .cells mm9q5_ 35 (0, 0)) (by mm9q20_) hb); have n6_ := Aside0.mk (blk_below (g := gb227) (o := .cells mm9q16_ 40 (0, 0)) (by mm9q21_) hb); have n7_ := Aside0.mk (blk_below (g := gb234) (o := .cells mm9q31_ 40 (0, 0)) (by mm9q14_) hb); have n8_ := Aside0.mk (below_step (by repeat (mm9q6_)) hb); clear HO213; clear HO219; clear HO226; clear HO233; clear BK204; clear BK205; clear BK227; clear BK234; clear HB; have HO213 := n0_; have HO219 := n1_; have HO226 := n2_; have HO233 := n3_; have BK204 := n4_; have BK205 := n5_; have BK227 := n6_; have BK234 := n7_; have HB := n8_; clear n0_ n1_ n2_ n3_ n4_ n5_ n6_ n7_ n8_; (try clear hb); (try clear hb2); (try clear hk); (try clear hi)))
            have n0_ := Aside0.mk (Kd.S_drew HO213.out)
            have n1_ := Aside0.mk (Kd.S_drew HO219.out)
            have n2_ := Aside0.mk (Kd.S_drew HO226.out)
            have n3_ := Aside0.mk (Kd.S_drew HO233.out)
            have n4_ := Aside0.mk (blk_drew BK204.out)
            have n5_ := Aside0.mk (blk_drew BK205.out)
            have n6_ := Aside0.mk (blk_drew BK227.out)
            have n7_ := Aside0.mk (blk_drew BK234.out)
            have n8_ := Aside0.mk (below_drew1 HB.out)
            clear HO213
            clear HO219
            clear HO226
            clear HO233
            clear BK204
            clear BK205
            clear BK227
            clear BK234
            clear HB
            have HO213 := n0_
            have HO219 := n1_
            have HO226 := n2_
            have HO233 := n3_
            have BK204 := n4_
            have BK205 := n5_
            have BK227 := n6_
            have BK234 := n7_
            have HB := n8_
            clear n0_ n1_ n2_ n3_ n4_ n5_ n6_ n7_ n8_
            refine start_ (n := 5) (S := fun w' => w'.cell? ⟨gb227, 0, none⟩ = some (.string t221) ∧ w'.cell? ⟨gb227, 1, none⟩ = some (.string t222) ∧ w'.cell? ⟨gb227, 2, none⟩ = some (.int .i64 t223) ∧ w'.cell? ⟨gb227, 3, none⟩ = some (.slice Ao81 t224.length co81) ∧ w'.cell? ⟨gb204, 0, none⟩ = some (.string a0_0) ∧ w'.cell? ⟨gb204, 1, none⟩ = some (.string a0_1) ∧ w'.cell? ⟨gb204, 2, none⟩ = some (.int .i64 a0_2) ∧ w'.cell? ⟨gb204, 3, none⟩ = some (.slice A0_3 l0_3.length c0_3)) (ds := []) #[false, false, false, false, false] (by kernel_rfl) rfl rfl ⟨(blk_cell BK227.out 0).trans rfl, (blk_cell BK227.out 1).trans rfl, (blk_cell BK227.out 2).trans rfl, (blk_cell BK227.out 3).trans rfl, (blk_cell BK204.out 0).trans rfl, (blk_cell BK204.out 1).trans rfl, (blk_cell BK204.out 2).trans rfl, (blk_cell BK204.out 3).trans rfl⟩ (fun hHeld => ?_)
            generalize w91.drew = w_ at HO213 HO219 HO226 HO233 BK204 BK205 BK227 BK234 HB hHeld ⊢
            refine take_ (i := 0) (N := some 35) (v := ?_) (a' := ?_) #[true, false, false, false, false] rfl rfl (by kernel_rfl) (fun _ _ _ h => h) (Or.inl ⟨by rfl, ?_⟩) hHeld ?_ ?_
            rotate_left
            · rintro w' ⟨s0, s1, s2, s3, s4, s5, s6, s7⟩
              go_simp
              with_reducible rfl
            rotate_left
            · simp only [Act.put, List.setIfInBounds_toArray, List.set_cons_zero, List.set_cons_succ, i64_w, i32_w]
              rfl
            refine take_ (i := 1) (N := some 36) (v := ?_) (a' := ?_) #[true, true, false, false, false] rfl rfl (by kernel_rfl) (fun _ _ _ h => h) (Or.inl ⟨by rfl, ?_⟩) hHeld ?_ ?_
            rotate_left
            · rintro w' ⟨s0, s1, s2, s3, s4, s5, s6, s7⟩
              go_simp
              with_reducible rfl
            rotate_left
            · simp only [Act.put, List.setIfInBounds_toArray, List.set_cons_zero, List.set_cons_succ, i64_w, i32_w]
              rfl
            refine one_ (i := 2) (N := some 37) #[true, true, true, false, false] rfl rfl (by kernel_rfl) (by decide) (fun K hK => ?_)
            refine goes_ Try.func15 (by kernel_rfl) rfl #[.agg mm9q3_] (by rfl) rfl rfl (by mm9q4_) ?_
            with_reducible refine (laws_toParcel.calls k a0_0 a0_1 a0_2 _ _ l0_3 t236 t237 t238 t239 _ ?side1 ?side2 A56.out).mono ?_
            (mm9q11_)
            (case side2 => exact HC0_3.out)
            rintro e w_ ⟨v240, rfl, ho0, hb⟩
            refine ⟨_, rfl, ?_⟩
            have n0_ := Aside0.mk (Kd.S_elder' (by (mm9q1_); exact HO213.out) (Kd.S_base ho0) hb)
            have n1_ := Aside0.mk (Kd.S_elder' (by (mm9q1_); exact HO219.out) (Kd.S_base ho0) hb)
            have n2_ := Aside0.mk (Kd.S_elder' (by (mm9q1_); exact HO226.out) (Kd.S_base ho0) hb)
            have n3_ := Aside0.mk (Kd.S_elder' (by (mm9q1_); exact HO233.out) (Kd.S_base ho0) hb)
            have n4_ := Aside0.mk (Kd.S_lower (Kd.S_new' (Kd.S_new' (Kd.S_new' (Kd.S_new' ho0 (Kd.S_lt (by (mm9q1_); exact HO213.out))) (Kd.S_lt (by (mm9q1_); exact HO219.out))) (Kd.S_lt (by (mm9q1_); exact HO226.out))) (Kd.S_lt (by (mm9q1_); exact HO233.out))) (below_size (by repeat (mm9q6_))))
            have n5_ := Aside0.mk (blk_below (g := gb204) (o := .cells mm9q3_ 35 (0, 0)) (by (mm9q0_); exact BK204.out) hb)
            have n6_ := Aside0.mk (blk_below (g := gb205) (o := .cells mm9q5_ 35 (0, 0)) (by (mm9q0_); exact BK205.out) hb)
            have n7_ := Aside0.mk (blk_below (g := gb227) (o := .cells mm9q16_ 40 (0, 0)) (by (mm9q0_); exact BK227.out) hb)
            have n8_ := Aside0.mk (blk_below (g := gb234) (o := .cells mm9q31_ 40 (0, 0)) (by (mm9q0_); exact BK234.out) hb)
            have n9_ := Aside0.mk (below_step (by repeat (mm9q6_)) hb)
            clear HO213
            clear HO219
            clear HO226
            clear HO233
            clear BK204
            clear BK205
            clear BK227
            clear BK234
            clear HB
            have HO213 := n0_
            have HO219 := n1_
            have HO226 := n2_
            have HO233 := n3_
            have HO241 := n4_
            have BK204 := n5_
            have BK205 := n6_
            have BK227 := n7_
            have BK234 := n8_
            have HB := n9_
            clear n0_ n1_ n2_ n3_ n4_ n5_ n6_ n7_ n8_ n9_
            (try clear hb)
            (try clear hb2)
            (try clear hk)
            (try clear hi)
            (try clear ho0)
            obtain ⟨Ao94, co94, eo94⟩ := Kd.S_slice HO241.out
            (first | subst eo94 | (injection eo94 with f1_ f2_ f3_; have f4_ := f1_.symm; have f5_ := f3_.symm; clear f1_ f2_ f3_; subst f4_; subst f5_))
            refine hK.out _ _ ⟨(blk_cell BK227.out 0).trans rfl, (blk_cell BK227.out 1).trans rfl, (blk_cell BK227.out 2).trans rfl, (blk_cell BK227.out 3).trans rfl, (blk_cell BK204.out 0).trans rfl, (blk_cell BK204.out 1).trans rfl, (blk_cell BK204.out 2).trans rfl, (blk_cell BK204.out 3).trans rfl⟩ (fun hHeld => ?_)
            clear hK K
            refine norm_ (a' := ?_) ?_ ?_
            rotate_left
            · show Act.put _ (some 37) _ = _
              simp only [Act.put, List.setIfInBounds_toArray, List.set_cons_zero, List.set_cons_succ, i64_w, i32_w]
              rfl
            refine one_ (i := 3) (N := some 38) #[true, true, true, true, false] rfl rfl (by kernel_rfl) (by decide) (fun K hK => ?_)
            refine goes_ Try.func17 (by kernel_rfl) rfl #[.agg mm9q16_, .agg #[.string t236, .string t237, .int .i64 t238, .slice Ao94 t239.length co94]] (by rfl) rfl rfl (by mm9q4_) ?_
            with_reducible refine (laws_eqParcel.calls k t221 t222 t223 _ _ t224 t236 t237 t238 _ _ t239 true _ ?side1 ?side2 ?side3 ?side4 A57.out).mono ?_
            (mm9q52_)
            (mm9q56_)
            (mm9q53_)
            (case side4 => exact (Kd.S_reads' HO241.out).2.1)
            rintro e w95 ⟨rfl, hb⟩
            refine ⟨_, rfl, ?_⟩
            have n0_ := Aside0.mk (Kd.S_below (by (mm9q1_); exact HO213.out) hb)
            have n1_ := Aside0.mk (Kd.S_below (by (mm9q1_); exact HO219.out) hb)
            have n2_ := Aside0.mk (Kd.S_below (by (mm9q1_); exact HO226.out) hb)
            have n3_ := Aside0.mk (Kd.S_below (by (mm9q1_); exact HO233.out) hb)
            have n4_ := Aside0.mk (Kd.S_below (by (mm9q1_); exact HO241.out) hb)
            have n5_ := Aside0.mk (blk_below (g := gb204) (o := .cells mm9q3_ 35 (0, 0)) (by (mm9q0_); exact BK204.out) hb)
            have n6_ := Aside0.mk (blk_below (g := gb205) (o := .cells mm9q5_ 35 (0, 0)) (by (mm9q0_); exact BK205.out) hb)
            have n7_ := Aside0.mk (blk_below (g := gb227) (o := .cells mm9q16_ 40 (0, 0)) (by (mm9q0_); exact BK227.out) hb)
            have n8_ := Aside0.mk (blk_below (g := gb234) (o := .cells mm9q31_ 40 (0, 0)) (by (mm9q0_); exact BK234.out) hb)
            have n9_ := Aside0.mk (below_step (by repeat (mm9q6_)) hb)
            clear HO213
            clear HO219
            clear HO226
            clear HO233
            clear HO241
            clear BK204
            clear BK205
            clear BK227
            clear BK234
            clear HB
            have HO213 := n0_
            have HO219 := n1_
            have HO226 := n2_
            have HO233 := n3_
            have HO241 := n4_
            have BK204 := n5_
            have BK205 := n6_
            have BK227 := n7_
            have BK234 := n8_
            have HB := n9_
            clear n0_ n1_ n2_ n3_ n4_ n5_ n6_ n7_ n8_ n9_
            (try clear hb)
            (try clear hb2)
            (try clear hk)
            (try clear hi)
            refine hK.out _ _ ⟨(blk_cell BK227.out 0).trans rfl, (blk_cell BK227.out 1).trans rfl, (blk_cell BK227.out 2).trans rfl, (blk_cell BK227.out 3).trans rfl, (blk_cell BK204.out 0).trans rfl, (blk_cell BK204.out 1).trans rfl, (blk_cell BK204.out 2).trans rfl, (blk_cell BK204.out 3).trans rfl⟩ (fun hHeld => ?_)
            clear hK K
            refine norm_ (a' := ?_) ?_ ?_
            rotate_left
            · show Act.put _ (some 38) _ = _
              simp only [Act.put, List.setIfInBounds_toArray, List.set_cons_zero, List.set_cons_succ, i64_w, i32_w]
              rfl
            refine pure_ (i := 4) (N := some 39) (v := ?_) (a' := ?_) #[true, true, true, true, true] rfl rfl (by kernel_rfl) (fun _ _ _ h => h) (Or.inl ⟨by rfl, ?_⟩) ?_ ?_
            rotate_left
            · intro w'
              go_simp
              with_reducible rfl
            rotate_left
            · simp only [Act.put, List.setIfInBounds_toArray, List.set_cons_zero, List.set_cons_succ, i64_w, i32_w]
              rfl
            refine done_ (by kernel_rfl) ?_
            try go_wp2
            have n0_ := Aside0.mk (Kd.S_drew HO213.out)
            have n1_ := Aside0.mk (Kd.S_drew HO219.out)
            have n2_ := Aside0.mk (Kd.S_drew HO226.out)
            have n3_ := Aside0.mk (Kd.S_drew HO233.out)
            have n4_ := Aside0.mk (Kd.S_drew HO241.out)
            have n5_ := Aside0.mk (blk_drew BK204.out)
            have n6_ := Aside0.mk (blk_drew BK205.out)
            have n7_ := Aside0.mk (blk_drew BK227.out)
            have n8_ := Aside0.mk (blk_drew BK234.out)
            have n9_ := Aside0.mk (below_drew1 HB.out)
            clear HO213
            clear HO219
            clear HO226
            clear HO233
            clear HO241
            clear BK204
            clear BK205
            clear BK227
            clear BK234
            clear HB
            have HO213 := n0_
            have HO219 := n1_
            have HO226 := n2_
            have HO233 := n3_
            have HO241 := n4_
            have BK204 := n5_
            have BK205 := n6_
            have BK227 := n7_
            have BK234 := n8_
            have HB := n9_
            clear n0_ n1_ n2_ n3_ n4_ n5_ n6_ n7_ n8_ n9_
            refine start_ (n := 5) (S := fun w' => w'.cell? ⟨gb234, 0, none⟩ = some (.string t228) ∧ w'.cell? ⟨gb234, 1, none⟩ = some (.string t229) ∧ w'.cell? ⟨gb234, 2, none⟩ = some (.int .i64 t230) ∧ w'.cell? ⟨gb234, 3, none⟩ = some (.slice Ao89 t231.length co89) ∧ w'.cell? ⟨gb205, 0, none⟩ = some (.string a1_0) ∧ w'.cell? ⟨gb205, 1, none⟩ = some (.string a1_1) ∧ w'.cell? ⟨gb205, 2, none⟩ = some (.int .i64 a1_2) ∧ w'.cell? ⟨gb205, 3, none⟩ = some (.slice A1_3 l1_3.length c1_3)) (ds := []) #[false, false, false, false, false] (by kernel_rfl) rfl rfl ⟨(blk_cell BK234.out 0).trans rfl, (blk_cell BK234.out 1).trans rfl, (blk_cell BK234.out 2).trans rfl, (blk_cell BK234.out 3).trans rfl, (blk_cell BK205.out 0).trans rfl, (blk_cell BK205.out 1).trans rfl, (blk_cell BK205.out 2).trans rfl, (blk_cell BK205.out 3).trans rfl⟩ (fun hHeld => ?_)
            generalize w95.drew = w_ at HO213 HO219 HO226 HO233 HO241 BK204 BK205 BK227 BK234 HB hHeld ⊢
            refine take_ (i := 0) (N := some 40) (v := ?_) (a' := ?_) #[true, false, false, false, false] rfl rfl (by kernel_rfl) (fun _ _ _ h => h) (Or.inl ⟨by rfl, ?_⟩) hHeld ?_ ?_
            rotate_left
            · rintro w' ⟨s0, s1, s2, s3, s4, s5, s6, s7⟩
              go_simp
              with_reducible rfl
            rotate_left
            · simp only [Act.put, List.setIfInBounds_toArray, List.set_cons_zero, List.set_cons_succ, i64_w, i32_w]
              rfl
            refine take_ (i := 1) (N := some 41) (v := ?_) (a' := ?_) #[true, true, false, false, false] rfl rfl (by kernel_rfl) (fun _ _ _ h => h) (Or.inl ⟨by rfl, ?_⟩) hHeld ?_ ?_
            rotate_left
            · rintro w' ⟨s0, s1, s2, s3, s4, s5, s6, s7⟩
              go_simp
              with_reducible rfl
            rotate_left
            · simp only [Act.put, List.setIfInBounds_toArray, List.set_cons_zero, List.set_cons_succ, i64_w, i32_w]
              rfl
            refine one_ (i := 2) (N := some 42) #[true, true, true, false, false] rfl rfl (by kernel_rfl) (by decide) (fun K hK => ?_)
            refine goes_ Try.func15 (by kernel_rfl) rfl #[.agg mm9q5_] (by rfl) rfl rfl (by mm9q4_) ?_
            with_reducible refine (laws_toParcel.calls k a1_0 a1_1 a1_2 _ _ l1_3 t243 t244 t245 t246 _ ?side1 ?side2 A59.out).mono ?_
            (mm9q12_)
            (case side2 => exact HC1_3.out)
            rintro e w_ ⟨v247, rfl, ho0, hb⟩
            refine ⟨_, rfl, ?_⟩
            have n0_ := Aside0.mk (Kd.S_elder' (by (mm9q1_); exact HO213.out) (Kd.S_base ho0) hb)
            have n1_ := Aside0.mk (Kd.S_elder' (by (mm9q1_); exact HO219.out) (Kd.S_base ho0) hb)
            have n2_ := Aside0.mk (Kd.S_elder' (by (mm9q1_); exact HO226.out) (Kd.S_base ho0) hb)
            have n3_ := Aside0.mk (Kd.S_elder' (by (mm9q1_); exact HO233.out) (Kd.S_base ho0) hb)
            have n4_ := Aside0.mk (Kd.S_elder' (by (mm9q1_); exact HO241.out) (Kd.S_base ho0) hb)
            have n5_ := Aside0.mk (Kd.S_lower (Kd.S_new' (Kd.S_new' (Kd.S_new' (Kd.S_new' (Kd.S_new' ho0 (Kd.S_lt (by (mm9q1_); exact HO213.out))) (Kd.S_lt (by (mm9q1_); exact HO219.out))) (Kd.S_lt (by (mm9q1_); exact HO226.out))) (Kd.S_lt (by (mm9q1_); exact HO233.out))) (Kd.S_lt (by (mm9q1_); exact HO241.out))) (below_size (by repeat (mm9q6_))))
            have n6_ := Aside0.mk (blk_below (g := gb204) (o := .cells mm9q3_ 35 (0, 0)) (by (mm9q0_); exact BK204.out) hb)
            have n7_ := Aside0.mk (blk_below (g := gb205) (o := .cells mm9q5_ 35 (0, 0)) (by (mm9q0_); exact BK205.out) hb)
            have n8_ := Aside0.mk (blk_below (g := gb227) (o := .cells mm9q16_ 40 (0, 0)) (by (mm9q0_); exact BK227.out) hb)
            have n9_ := Aside0.mk (blk_below (g := gb234) (o := .cells mm9q31_ 40 (0, 0)) (by (mm9q0_); exact BK234.out) hb)
            have n10_ := Aside0.mk (below_step (by repeat (mm9q6_)) hb)
            clear HO213
            clear HO219
            clear HO226
            clear HO233
            clear HO241
            clear BK204
            clear BK205
            clear BK227
            clear BK234
            clear HB
            have HO213 := n0_
            have HO219 := n1_
            have HO226 := n2_
            have HO233 := n3_
            have HO241 := n4_
            have HO248 := n5_
            have BK204 := n6_
            have BK205 := n7_
            have BK227 := n8_
            have BK234 := n9_
            have HB := n10_
            clear n0_ n1_ n2_ n3_ n4_ n5_ n6_ n7_ n8_ n9_ n10_
            (try clear hb)
            (try clear hb2)
            (try clear hk)
            (try clear hi)
            (try clear ho0)
            obtain ⟨Ao98, co98, eo98⟩ := Kd.S_slice HO248.out
            (first | subst eo98 | (injection eo98 with f1_ f2_ f3_; have f4_ := f1_.symm; have f5_ := f3_.symm; clear f1_ f2_ f3_; subst f4_; subst f5_))
            refine hK.out _ _ ⟨(blk_cell BK234.out 0).trans rfl, (blk_cell BK234.out 1).trans rfl, (blk_cell BK234.out 2).trans rfl, (blk_cell BK234.out 3).trans rfl, (blk_cell BK205.out 0).trans rfl, (blk_cell BK205.out 1).trans rfl, (blk_cell BK205.out 2).trans rfl, (blk_cell BK205.out 3).trans rfl⟩ (fun hHeld => ?_)
            clear hK K
            refine norm_ (a' := ?_) ?_ ?_
            rotate_left
            · show Act.put _ (some 42) _ = _
              simp only [Act.put, List.setIfInBounds_toArray, List.set_cons_zero, List.set_cons_succ, i64_w, i32_w]
              rfl
            refine one_ (i := 3) (N := some 43) #[true, true, true, true, false] rfl rfl (by kernel_rfl) (by decide) (fun K hK => ?_)
            refine goes_ Try.func17 (by kernel_rfl) rfl #[.agg mm9q31_, .agg #[.string t243, .string t244, .int .i64 t245, .slice Ao98 t246.length co98]] (by rfl) rfl rfl (by mm9q4_) ?_
            with_reducible refine (laws_eqParcel.calls k t228 t229 t230 _ _ t231 t243 t244 t245 _ _ t246 true _ ?side1 ?side2 ?side3 ?side4 A60.out).mono ?_
            (mm9q59_)
            (case side2 => exact (Kd.S_reads' HO233.out).2.1)
            (mm9q60_)
            (case side4 => exact (Kd.S_reads' HO248.out).2.1)
            rintro e w_ ⟨rfl, hb⟩
            refine ⟨_, rfl, ?_⟩
            have n0_ := Aside0.mk (Kd.S_below (by (mm9q1_); exact HO213.out) hb)
            have n1_ := Aside0.mk (Kd.S_below (by (mm9q1_); exact HO219.out) hb)
            have n2_ := Aside0.mk (Kd.S_below (by (mm9q1_); exact HO226.out) hb)
            have n3_ := Aside0.mk (Kd.S_below (by (mm9q1_); exact HO233.out) hb)
            have n4_ := Aside0.mk (Kd.S_below (by (mm9q1_); exact HO241.out) hb)
            have n5_ := Aside0.mk (Kd.S_below (by (mm9q1_); exact HO248.out) hb)
            have n6_ := Aside0.mk (blk_below (g := gb204) (o := .cells mm9q3_ 35 (0, 0)) (by (mm9q0_); exact BK204.out) hb)
            have n7_ := Aside0.mk (blk_below (g := gb205) (o := .cells mm9q5_ 35 (0, 0)) (by (mm9q0_); exact BK205.out) hb)
            have n8_ := Aside0.mk (blk_below (g := gb227) (o := .cells mm9q16_ 40 (0, 0)) (by (mm9q0_); exact BK227.out) hb)
            have n9_ := Aside0.mk (blk_below (g := gb234) (o := .cells mm9q31_ 40 (0, 0)) (by (mm9q0_); exact BK234.out) hb)
            have n10_ := Aside0.mk (below_step (by repeat (mm9q6_)) hb)
            clear HO213
            clear HO219
            clear HO226
            clear HO233
            clear HO241
            clear HO248
            clear BK204
            clear BK205
            clear BK227
            clear BK234
            clear HB
            have HO213 := n0_
            have HO219 := n1_
            have HO226 := n2_
            have HO233 := n3_
            have HO241 := n4_
            have HO248 := n5_
            have BK204 := n6_
            have BK205 := n7_
            have BK227 := n8_
            have BK234 := n9_
            have HB := n10_
            clear n0_ n1_ n2_ n3_ n4_ n5_ n6_ n7_ n8_ n9_ n10_
            (try clear hb)
            (try clear hb2)
            (try clear hk)
            (try clear hi)
            refine hK.out _ _ ⟨(blk_cell BK234.out 0).trans rfl, (blk_cell BK234.out 1).trans rfl, (blk_cell BK234.out 2).trans rfl, (blk_cell BK234.out 3).trans rfl, (blk_cell BK205.out 0).trans rfl, (blk_cell BK205.out 1).trans rfl, (blk_cell BK205.out 2).trans rfl, (blk_cell BK205.out 3).trans rfl⟩ (fun hHeld => ?_)
            clear hK K
            refine norm_ (a' := ?_) ?_ ?_
            rotate_left
            · show Act.put _ (some 43) _ = _
              simp only [Act.put, List.setIfInBounds_toArray, List.set_cons_zero, List.set_cons_succ, i64_w, i32_w]
              rfl
            refine pure_ (i := 4) (N := some 44) (v := ?_) (a' := ?_) #[true, true, true, true, true] rfl rfl (by kernel_rfl) (fun _ _ _ h => h) (Or.inl ⟨by rfl, ?_⟩) ?_ ?_
            rotate_left
            · intro w'
              go_simp
              with_reducible rfl
            rotate_left
            · simp only [Act.put, List.setIfInBounds_toArray, List.set_cons_zero, List.set_cons_succ, i64_w, i32_w]
              rfl
            refine done_ (by kernel_rfl) ?_
            try go_wp2
            go_ret
            exact ⟨by first | rfl | (simp [errW_none, errW_some] <;> rfl) | (simp [*, errW_none, errW_some] <;> rfl), by repeat (mm9q6_)⟩
          · replace c61 := Bool.eq_false_iff.mpr c61
            subst c61
            have H1 : (some false) = some r := by rw [if_neg (show ¬ (false = true) by decide)] at H; exact H
            clear H
            have H := H1
            clear H1
            obtain rfl := Option.some.inj H
            go_enter Try.func4, Try.ntmps4
            try go_wp2_with (first | (mm9q8_) | ((with_reducible refine gate_dst (N := 3) rfl ?_); refine box_event ?hg (N := 3) ?hd (cs := mm9q5_) (t := 35) ?hr ?_; (case hd => rfl); (case hg => rfl); (mm9q22_); intro gb205 hg w101 hbox hb; have n0_ := Aside0.mk (blk_below (g := gb204) (o := .cells mm9q3_ 35 (0, 0)) (by (mm9q0_); exact BK204.out) hb); have n1_ := Aside0.mk (below_step (by mm9q10_) hb); have n2_ := Aside0.mk (hbox); have n3_ := Aside0.mk ((by rw [hg]; exact (below_size (by mm9q10_)) : w.heap.size ≤ gb205)); have n4_ := Aside0.mk ((by rw [hg]; exact (below_size (by mm9q10_)) : w.heap.size ≤ gb205)); have n5_ := Aside0.mk ((by rw [hg]; exact Nat.ne_of_lt (blk_lt (g := gb204) (o := .cells mm9q3_ 35 (0, 0)) (by (mm9q0_); exact BK204.out)) : gb204 ≠ gb205)); have n6_ := Aside0.mk ((by rw [hg]; exact Nat.ne_of_gt (blk_lt (g := gb204) (o := .cells mm9q3_ 35 (0, 0)) (by (mm9q0_); exact BK204.out)) : gb205 ≠ gb204)); clear BK204; clear HB; have BK204 := n0_; have HB := n1_; have BK205 := n2_; have GW205 := n3_; have GE205 := n4_; have NB204_205 := n5_; have NB205_204 := n6_; clear n0_ n1_ n2_ n3_ n4_ n5_ n6_; clear hb hbox hg; have hnb102 := NB204_205.out; have hnc102 := NB205_204.out; have hcz103_0 : w101.cell? ⟨gb204, 0, none⟩ = some (.string a0_0) := (blk_cell BK204.out 0).trans rfl; have hcz103_1 : w101.cell? ⟨gb204, 1, none⟩ = some (.string a0_1) := (blk_cell BK204.out 1).trans rfl; have hcz103_2 : w101.cell? ⟨gb204, 2, none⟩ = some (.int .i64 a0_2) := (blk_cell BK204.out 2).trans rfl; have hcz103_3 : w101.cell? ⟨gb204, 3, none⟩ = some (.slice A0_3 l0_3.length c0_3) := (blk_cell BK204.out 3).trans rfl; have hfz103_0 := blk_frozen BK204.out 0; have hfz103_1 := blk_frozen BK204.out 1; have hfz103_2 := blk_frozen BK204.out 2; have hfz103_3 := blk_frozen BK204.out 3) | ((with_reducible refine gate_callee (f := 13) rfl ?_); refine goesL_ (some 12) rfl rfl Try.func13 (by kernel_rfl) rfl #[.agg mm9q3_, .int .i64 1048576] rfl (by mm9q4_) ?_; (mm9q27_); (mm9q11_); (case side2 => exact HC0_3.out); rintro e w104 ⟨rfl, hb⟩; refine ⟨_, rfl, ?_⟩; have n0_ := Aside0.mk (blk_below (g := gb204) (o := .cells mm9q3_ 35 (0, 0)) (by (mm9q0_); exact BK204.out) hb); have n1_ := Aside0.mk (blk_below (g := gb205) (o := .cells mm9q5_ 35 (0, 0)) (by (mm9q0_); exact BK205.out) hb); have n2_ := Aside0.mk (below_step (by mm9q2_) hb); clear BK204; clear BK205; clear HB; have BK204 := n0_; have BK205 := n1_; have HB := n2_; clear n0_ n1_ n2_; (try clear hb); (try clear hb2); (try clear hk); (try clear hi); have hcz105_0 : w104.cell? ⟨gb205, 0, none⟩ = some (.string a1_0) := (blk_cell BK205.out 0).trans rfl; have hcz105_1 : w104.cell? ⟨gb205, 1, none⟩ = some (.string a1_1) := (blk_cell BK205.out 1).trans rfl; have hcz105_2 : w104.cell? ⟨gb205, 2, none⟩ = some (.int .i64 a1_2) := (blk_cell BK205.out 2).trans rfl; have hcz105_3 : w104.cell? ⟨gb205, 3, none⟩ = some (.slice A1_3 l1_3.length c1_3) := (blk_cell BK205.out 3).trans rfl; have hfz105_0 := blk_frozen BK205.out 0; have hfz105_1 := blk_frozen BK205.out 1; have hfz105_2 := blk_frozen BK205.out 2; have hfz105_3 := blk_frozen BK205.out 3) | ((with_reducible refine gate_callee (f := 13) rfl ?_); refine goesL_ (some 17) rfl rfl Try.func13 (by kernel_rfl) rfl #[.agg mm9q5_, .int .i64 t206] rfl (by mm9q4_) ?_; (mm9q29_); (mm9q12_); (case side2 => exact HC1_3.out); rintro e w106 ⟨rfl, hb⟩; refine ⟨_, rfl, ?_⟩; have n0_ := Aside0.mk (blk_below (g := gb204) (o := .cells mm9q3_ 35 (0, 0)) (by (mm9q0_); exact BK204.out) hb); have n1_ := Aside0.mk (blk_below (g := gb205) (o := .cells mm9q5_ 35 (0, 0)) (by (mm9q0_); exact BK205.out) hb); have n2_ := Aside0.mk (below_step (by mm9q2_) hb); clear BK204; clear BK205; clear HB; have BK204 := n0_; have BK205 := n1_; have HB := n2_; clear n0_ n1_ n2_; (try clear hb); (try clear hb2); (try clear hk); (try clear hi)))
            have n0_ := Aside0.mk (blk_drew BK204.out)
            have n1_ := Aside0.mk (blk_drew BK205.out)
            have n2_ := Aside0.mk (below_drew1 HB.out)
            clear BK204
            clear BK205
            clear HB
            have BK204 := n0_
            have BK205 := n1_
            have HB := n2_
            clear n0_ n1_ n2_
            refine start_ (n := 6) (S := fun w' => w'.cell? ⟨gb204, 0, none⟩ = some (.string a0_0) ∧ w'.cell? ⟨gb204, 1, none⟩ = some (.string a0_1) ∧ w'.cell? ⟨gb204, 2, none⟩ = some (.int .i64 a0_2) ∧ w'.cell? ⟨gb204, 3, none⟩ = some (.slice A0_3 l0_3.length c0_3) ∧ w'.cell? ⟨gb205, 0, none⟩ = some (.string a1_0) ∧ w'.cell? ⟨gb205, 1, none⟩ = some (.string a1_1) ∧ w'.cell? ⟨gb205, 2, none⟩ = some (.int .i64 a1_2) ∧ w'.cell? ⟨gb205, 3, none⟩ = some (.slice A1_3 l1_3.length c1_3)) (ds := []) #[false, false, false, false, false, false] (by kernel_rfl) rfl rfl ⟨(blk_cell BK204.out 0).trans rfl, (blk_cell BK204.out 1).trans rfl, (blk_cell BK204.out 2).trans rfl, (blk_cell BK204.out 3).trans rfl, (blk_cell BK205.out 0).trans rfl, (blk_cell BK205.out 1).trans rfl, (blk_cell BK205.out 2).trans rfl, (blk_cell BK205.out 3).trans rfl⟩ (fun hHeld => ?_)
            generalize w106.drew = w_ at BK204 BK205 HB hHeld ⊢
            refine take_ (i := 0) (N := some 20) (v := ?_) (a' := ?_) #[true, false, false, false, false, false] rfl rfl (by kernel_rfl) (fun _ _ _ h => h) (Or.inl ⟨by rfl, ?_⟩) hHeld ?_ ?_
            rotate_left
            · rintro w' ⟨s0, s1, s2, s3, s4, s5, s6, s7⟩
              go_simp
              with_reducible rfl
            rotate_left
            · simp only [Act.put, List.setIfInBounds_toArray, List.set_cons_zero, List.set_cons_succ, i64_w, i32_w]
              rfl
            refine take_ (i := 2) (N := some 22) (v := ?_) (a' := ?_) #[true, false, true, false, false, false] rfl rfl (by kernel_rfl) (fun _ _ _ h => h) (Or.inl ⟨by rfl, ?_⟩) hHeld ?_ ?_
            rotate_left
            · rintro w' ⟨s0, s1, s2, s3, s4, s5, s6, s7⟩
              go_simp
              with_reducible rfl
            rotate_left
            · simp only [Act.put, List.setIfInBounds_toArray, List.set_cons_zero, List.set_cons_succ, i64_w, i32_w]
              rfl
            refine one_ (i := 1) (N := some 21) #[true, true, true, false, false, false] rfl rfl (by kernel_rfl) (by decide) (fun K hK => ?_)
            refine goes_ Try.func15 (by kernel_rfl) rfl #[.agg mm9q3_] (by rfl) rfl rfl (by mm9q4_) ?_
            with_reducible refine (laws_toParcel.calls k a0_0 a0_1 a0_2 _ _ l0_3 t208 t209 t210 t211 _ ?side1 ?side2 A19.out).mono ?_
            (mm9q11_)
            (case side2 => exact HC0_3.out)
            rintro e w_ ⟨v212, rfl, ho0, hb⟩
            refine ⟨_, rfl, ?_⟩
            have n0_ := Aside0.mk (Kd.S_lower ho0 (below_size (by mm9q2_)))
            have n1_ := Aside0.mk (blk_below (g := gb204) (o := .cells mm9q3_ 35 (0, 0)) (by (mm9q0_); exact BK204.out) hb)
            have n2_ := Aside0.mk (blk_below (g := gb205) (o := .cells mm9q5_ 35 (0, 0)) (by (mm9q0_); exact BK205.out) hb)
            have n3_ := Aside0.mk (below_step (by mm9q2_) hb)
            clear BK204
            clear BK205
            clear HB
            have HO213 := n0_
            have BK204 := n1_
            have BK205 := n2_
            have HB := n3_
            clear n0_ n1_ n2_ n3_
            (try clear hb)
            (try clear hb2)
            (try clear hk)
            (try clear hi)
            (try clear ho0)
            refine hK.out _ _ ⟨(blk_cell BK204.out 0).trans rfl, (blk_cell BK204.out 1).trans rfl, (blk_cell BK204.out 2).trans rfl, (blk_cell BK204.out 3).trans rfl, (blk_cell BK205.out 0).trans rfl, (blk_cell BK205.out 1).trans rfl, (blk_cell BK205.out 2).trans rfl, (blk_cell BK205.out 3).trans rfl⟩ (fun hHeld => ?_)
            clear hK K
            refine norm_ (a' := ?_) ?_ ?_
            rotate_left
            · show Act.put _ (some 21) _ = _
              simp only [Act.put, List.setIfInBounds_toArray, List.set_cons_zero, List.set_cons_succ, i64_w, i32_w]
              rfl
            refine one_ (i := 3) (N := some 23) #[true, true, true, true, false, false] rfl rfl (by kernel_rfl) (by decide) (fun K hK => ?_)
            refine goes_ Try.func15 (by kernel_rfl) rfl #[.agg mm9q5_] (by rfl) rfl rfl (by mm9q4_) ?_
            with_reducible refine (laws_toParcel.calls k a1_0 a1_1 a1_2 _ _ l1_3 t214 t215 t216 t217 _ ?side1 ?side2 A20.out).mono ?_
            (mm9q12_)
            (case side2 => exact HC1_3.out)
            rintro e w_ ⟨v218, rfl, ho0, hb⟩
            refine ⟨_, rfl, ?_⟩
            have n0_ := Aside0.mk (Kd.S_elder' (by (mm9q1_); exact HO213.out) (Kd.S_base ho0) hb)
            have n1_ := Aside0.mk (Kd.S_lower (Kd.S_new' ho0 (Kd.S_lt (by (mm9q1_); exact HO213.out))) (below_size (by mm9q2_)))
            have n2_ := Aside0.mk (blk_below (g := gb204) (o := .cells mm9q3_ 35 (0, 0)) (by (mm9q0_); exact BK204.out) hb)
            have n3_ := Aside0.mk (blk_below (g := gb205) (o := .cells mm9q5_ 35 (0, 0)) (by (mm9q0_); exact BK205.out) hb)
            have n4_ := Aside0.mk (below_step (by mm9q2_) hb)
            clear HO213
            clear BK204
            clear BK205
            clear HB
            have HO213 := n0_
            have HO219 := n1_
            have BK204 := n2_
            have BK205 := n3_
            have HB := n4_
            clear n0_ n1_ n2_ n3_ n4_
            (try clear hb)
            (try clear hb2)
            (try clear hk)
            (try clear hi)
            (try clear ho0)
            obtain ⟨Ao110, co110, eo110⟩ := Kd.S_slice HO213.out
            (first | subst eo110 | (injection eo110 with f1_ f2_ f3_; have f4_ := f1_.symm; have f5_ := f3_.symm; clear f1_ f2_ f3_; subst f4_; subst f5_))
            obtain ⟨Ao111, co111, eo111⟩ := Kd.S_slice HO219.out
            (first | subst eo111 | (injection eo111 with f1_ f2_ f3_; have f4_ := f1_.symm; have f5_ := f3_.symm; clear f1_ f2_ f3_; subst f4_; subst f5_))
            refine hK.out _ _ ⟨(blk_cell BK204.out 0).trans rfl, (blk_cell BK204.out 1).trans rfl, (blk_cell BK204.out 2).trans rfl, (blk_cell BK204.out 3).trans rfl, (blk_cell BK205.out 0).trans rfl, (blk_cell BK205.out 1).trans rfl, (blk_cell BK205.out 2).trans rfl, (blk_cell BK205.out 3).trans rfl⟩ (fun hHeld => ?_)
            clear hK K
            refine norm_ (a' := ?_) ?_ ?_
            rotate_left
            · show Act.put _ (some 23) _ = _
              simp only [Act.put, List.setIfInBounds_toArray, List.set_cons_zero, List.set_cons_succ, i64_w, i32_w]
              rfl
            refine one_ (i := 4) (N := some 24) #[true, true, true, true, true, false] rfl rfl (by kernel_rfl) (by decide) (fun K hK => ?_)
            refine goes_ Try.func14 (by kernel_rfl) rfl #[.agg #[.string t208, .string t209, .int .i64 t210, .slice Ao110 t211.length co110], .agg #[.string t214, .string t215, .int .i64 t216, .slice Ao111 t217.length co111]] (by rfl) rfl rfl (by mm9q4_) ?_
            with_reducible refine (spec_ParcelSame.calls k t208 t209 t210 _ _ t211 t214 t215 t216 _ _ t217 t220 _ ?side1 ?side2 ?side3 ?side4 A21.out).mono ?_
            (mm9q24_)
            (mm9q62_)
            (mm9q25_)
            (mm9q63_)
            rintro e w112 ⟨rfl, hb⟩
            refine ⟨_, rfl, ?_⟩
            have n0_ := Aside0.mk (Kd.S_below (by (mm9q1_); exact HO213.out) hb)
            have n1_ := Aside0.mk (Kd.S_below (by (mm9q1_); exact HO219.out) hb)
            have n2_ := Aside0.mk (blk_below (g := gb204) (o := .cells mm9q3_ 35 (0, 0)) (by (mm9q0_); exact BK204.out) hb)
            have n3_ := Aside0.mk (blk_below (g := gb205) (o := .cells mm9q5_ 35 (0, 0)) (by (mm9q0_); exact BK205.out) hb)
            have n4_ := Aside0.mk (below_step (by mm9q2_) hb)
            clear HO213
            clear HO219
            clear BK204
            clear BK205
            clear HB
            have HO213 := n0_
            have HO219 := n1_
            have BK204 := n2_
            have BK205 := n3_
            have HB := n4_
            clear n0_ n1_ n2_ n3_ n4_
            (try clear hb)
            (try clear hb2)
            (try clear hk)
            (try clear hi)
            refine hK.out _ _ ⟨(blk_cell BK204.out 0).trans rfl, (blk_cell BK204.out 1).trans rfl, (blk_cell BK204.out 2).trans rfl, (blk_cell BK204.out 3).trans rfl, (blk_cell BK205.out 0).trans rfl, (blk_cell BK205.out 1).trans rfl, (blk_cell BK205.out 2).trans rfl, (blk_cell BK205.out 3).trans rfl⟩ (fun hHeld => ?_)
            clear hK K
            refine norm_ (a' := ?_) ?_ ?_
            rotate_left
            · show Act.put _ (some 24) _ = _
              simp only [Act.put, List.setIfInBounds_toArray, List.set_cons_zero, List.set_cons_succ, i64_w, i32_w]
              rfl
            refine pure_ (i := 5) (N := some 6) (v := ?_) (a' := ?_) #[true, true, true, true, true, true] rfl rfl (by kernel_rfl) (fun _ _ _ h => h) (Or.inl ⟨by rfl, ?_⟩) ?_ ?_
            rotate_left
            · intro w'
              go_simp
              with_reducible rfl
            rotate_left
            · simp only [Act.put, List.setIfInBounds_toArray, List.set_cons_zero, List.set_cons_succ, i64_w, i32_w]
              rfl
            refine done_ (by kernel_rfl) ?_
            have hcz113_0 : w112.cell? ⟨gb204, 0, none⟩ = some (.string a0_0) := (blk_cell BK204.out 0).trans rfl
            have hcz113_1 : w112.cell? ⟨gb204, 1, none⟩ = some (.string a0_1) := (blk_cell BK204.out 1).trans rfl
            have hcz113_2 : w112.cell? ⟨gb204, 2, none⟩ = some (.int .i64 a0_2) := (blk_cell BK204.out 2).trans rfl
            have hcz113_3 : w112.cell? ⟨gb204, 3, none⟩ = some (.slice A0_3 l0_3.length c0_3) := (blk_cell BK204.out 3).trans rfl
            have hfz113_0 := blk_frozen BK204.out 0
            have hfz113_1 := blk_frozen BK204.out 1
            have hfz113_2 := blk_frozen BK204.out 2
            have hfz113_3 := blk_frozen BK204.out 3
            try go_wp2_with (first | (mm9q9_) | ((with_reducible refine gate_dst (N := 7) rfl ?_); refine box_event ?hg (N := 7) ?hd (cs := mm9q23_) (t := 40) ?hr ?_; (case hd => rfl); (case hg => rfl); (mm9q22_); intro gb227 hg w115 hbox hb; have n0_ := Aside0.mk (Kd.S_below (by (mm9q1_); exact HO213.out) hb); have n1_ := Aside0.mk (Kd.S_below (by (mm9q1_); exact HO219.out) hb); have n2_ := Aside0.mk (Kd.S_below (by (mm9q1_); exact HO226.out) hb); have n3_ := Aside0.mk (blk_below (g := gb204) (o := .cells mm9q3_ 35 (0, 0)) (by (mm9q0_); exact BK204.out) hb); have n4_ := Aside0.mk (blk_below (g := gb205) (o := .cells mm9q5_ 35 (0, 0)) (by (mm9q0_); exact BK205.out) hb); have n5_ := Aside0.mk (below_step (by mm9q2_) hb); have n6_ := Aside0.mk (hbox); have n7_ := Aside0.mk ((by rw [hg]; exact (below_size (by mm9q2_)) : w.heap.size ≤ gb227)); have n8_ := Aside0.mk ((by rw [hg]; exact (below_size (by mm9q2_)) : w.heap.size ≤ gb227)); have n9_ := Aside0.mk ((by rw [hg]; exact Nat.ne_of_lt (blk_lt (g := gb204) (o := .cells mm9q3_ 35 (0, 0)) (by (mm9q0_); exact BK204.out)) : gb204 ≠ gb227)); have n10_ := Aside0.mk ((by rw [hg]; exact Nat.ne_of_gt (blk_lt (g := gb204) (o := .cells mm9q3_ 35 (0, 0)) (by (mm9q0_); exact BK204.out)) : gb227 ≠ gb204)); have n11_ := Aside0.mk ((by rw [hg]; exact Nat.ne_of_lt (blk_lt (g := gb205) (o := .cells mm9q5_ 35 (0, 0)) (by (mm9q0_); exact BK205.out)) : gb205 ≠ gb227)); have n12_ := Aside0.mk ((by rw [hg]; exact Nat.ne_of_gt (blk_lt (g := gb205) (o := .cells mm9q5_ 35 (0, 0)) (by (mm9q0_); exact BK205.out)) : gb227 ≠ gb205)); clear HO213; clear HO219; clear HO226; clear BK204; clear BK205; clear HB; have HO213 := n0_; have HO219 := n1_; have HO226 := n2_; have BK204 := n3_; have BK205 := n4_; have HB := n5_; have BK227 := n6_; have GW227 := n7_; have GE227 := n8_; have NB204_227 := n9_; have NB227_204 := n10_; have NB205_227 := n11_; have NB227_205 := n12_; clear n0_ n1_ n2_ n3_ n4_ n5_ n6_ n7_ n8_ n9_ n10_ n11_ n12_; clear hb hbox hg; have hnb116 := NB227_204.out; have hnc116 := NB204_227.out; have hnb117 := NB227_205.out; have hnc117 := NB205_227.out; have hcz118_0 : w115.cell? ⟨gb227, 0, none⟩ = some (.string (⟨#[]⟩ : ByteArray)) := (blk_cell BK227.out 0).trans rfl; have hcz118_1 : w115.cell? ⟨gb227, 1, none⟩ = some (.string (⟨#[]⟩ : ByteArray)) := (blk_cell BK227.out 1).trans rfl; have hcz118_2 : w115.cell? ⟨gb227, 2, none⟩ = some (.int .i64 0) := (blk_cell BK227.out 2).trans rfl; have hcz118_3 : w115.cell? ⟨gb227, 3, none⟩ = some (.slice none 0 0) := (blk_cell BK227.out 3).trans rfl; have hfz118_0 := blk_frozen BK227.out 0; have hfz118_1 := blk_frozen BK227.out 1; have hfz118_2 := blk_frozen BK227.out 2; have hfz118_3 := blk_frozen BK227.out 3; obtain ⟨Ao119, co119, eo119⟩ := Kd.S_slice HO226.out; subst eo119; have hcz120_0 : w115.cell? ⟨gb205, 0, none⟩ = some (.string a1_0) := (blk_cell BK205.out 0).trans rfl; have hcz120_1 : w115.cell? ⟨gb205, 1, none⟩ = some (.string a1_1) := (blk_cell BK205.out 1).trans rfl; have hcz120_2 : w115.cell? ⟨gb205, 2, none⟩ = some (.int .i64 a1_2) := (blk_cell BK205.out 2).trans rfl; have hcz120_3 : w115.cell? ⟨gb205, 3, none⟩ = some (.slice A1_3 l1_3.length c1_3) := (blk_cell BK205.out 3).trans rfl; have hfz120_0 := blk_frozen BK205.out 0; have hfz120_1 := blk_frozen BK205.out 1; have hfz120_2 := blk_frozen BK205.out 2; have hfz120_3 := blk_frozen BK205.out 3) | ((with_reducible refine gate_callee (f := 15) rfl ?_); refine goesL_ (some 28) rfl rfl Try.func15 (by kernel_rfl) rfl #[.agg mm9q5_] rfl (by mm9q4_) ?_; (mm9q54_); (mm9q61_); (case side2 => exact HC1_3.out); rintro e w_ ⟨v232, rfl, ho0, hb⟩; refine ⟨_, rfl, ?_⟩; have n0_ := Aside0.mk (Kd.S_elder' (by mm9q32_) (Kd.S_base ho0) hb); have n1_ := Aside0.mk (Kd.S_elder' (by mm9q33_) (Kd.S_base ho0) hb); have n2_ := Aside0.mk (Kd.S_elder' (by mm9q34_) (Kd.S_base ho0) hb); have n3_ := Aside0.mk (Kd.S_lower (Kd.S_new' (Kd.S_new' (Kd.S_new' ho0 (Kd.S_lt (by mm9q32_))) (Kd.S_lt (by mm9q33_))) (Kd.S_lt (by mm9q34_))) (below_size (by mm9q7_))); have n4_ := Aside0.mk (blk_below (g := gb204) (o := .cells mm9q3_ 35 (0, 0)) (by mm9q17_) hb); have n5_ := Aside0.mk (blk_below (g := gb205) (o := .cells mm9q5_ 35 (0, 0)) (by mm9q18_) hb); have n6_ := Aside0.mk (blk_below (g := gb227) (o := .cells mm9q15_ 40 (0, 0)) (by mm9q13_) hb); have n7_ := Aside0.mk (below_step (by mm9q7_) hb); clear HO213; clear HO219; clear HO226; clear BK204; clear BK205; clear BK227; clear HB; have HO213 := n0_; have HO219 := n1_; have HO226 := n2_; have HO233 := n3_; have BK204 := n4_; have BK205 := n5_; have BK227 := n6_; have HB := n7_; clear n0_ n1_ n2_ n3_ n4_ n5_ n6_ n7_; (try clear hb); (try clear hb2); (try clear hk); (try clear hi); (try clear ho0)) | ((with_reducible refine gate_dst (N := 8) rfl ?_); refine box_event ?hg (N := 8) ?hd (cs := mm9q23_) (t := 40) ?hr ?_; (case hd => rfl); (case hg => rfl); (mm9q22_); intro gb234 hg w122 hbox hb; have n0_ := Aside0.mk (Kd.S_below (by (mm9q1_); exact HO213.out) hb); have n1_ := Aside0.mk (Kd.S_below (by (mm9q1_); exact HO219.out) hb); have n2_ := Aside0.mk (Kd.S_below (by (mm9q1_); exact HO226.out) hb); have n3_ := Aside0.mk (Kd.S_below (by (mm9q1_); exact HO233.out) hb); have n4_ := Aside0.mk (blk_below (g := gb204) (o := .cells mm9q3_ 35 (0, 0)) (by (mm9q0_); exact BK204.out) hb); have n5_ := Aside0.mk (blk_below (g := gb205) (o := .cells mm9q5_ 35 (0, 0)) (by (mm9q0_); exact BK205.out) hb); have n6_ := Aside0.mk (blk_below (g := gb227) (o := .cells mm9q15_ 40 (0, 0)) (by (mm9q0_); exact BK227.out) hb); have n7_ := Aside0.mk (below_step (by mm9q7_) hb); have n8_ := Aside0.mk (hbox); have n9_ := Aside0.mk ((by rw [hg]; exact (below_size (by mm9q7_)) : w.heap.size ≤ gb234)); have n10_ := Aside0.mk ((by rw [hg]; exact (below_size (by mm9q7_)) : w.heap.size ≤ gb234)); have n11_ := Aside0.mk ((by rw [hg]; exact Nat.ne_of_lt (blk_lt (g := gb204) (o := .cells mm9q3_ 35 (0, 0)) (by (mm9q0_); exact BK204.out)) : gb204 ≠ gb234)); have n12_ := Aside0.mk ((by rw [hg]; exact Nat.ne_of_gt (blk_lt (g := gb204) (o := .cells mm9q3_ 35 (0, 0)) (by (mm9q0_); exact BK204.out)) : gb234 ≠ gb204)); have n13_ := Aside0.mk ((by rw [hg]; exact Nat.ne_of_lt (blk_lt (g := gb205) (o := .cells mm9q5_ 35 (0, 0)) (by (mm9q0_); exact BK205.out)) : gb205 ≠ gb234)); have n14_ := Aside0.mk ((by rw [hg]; exact Nat.ne_of_gt (blk_lt (g := gb205) (o := .cells mm9q5_ 35 (0, 0)) (by (mm9q0_); exact BK205.out)) : gb234 ≠ gb205)); have n15_ := Aside0.mk ((by rw [hg]; exact Nat.ne_of_lt (blk_lt (g := gb227) (o := .cells mm9q15_ 40 (0, 0)) (by (mm9q0_); exact BK227.out)) : gb227 ≠ gb234)); have n16_ := Aside0.mk ((by rw [hg]; exact Nat.ne_of_gt (blk_lt (g := gb227) (o := .cells mm9q15_ 40 (0, 0)) (by (mm9q0_); exact BK227.out)) : gb234 ≠ gb227)); clear HO213; clear HO219; clear HO226; clear HO233; clear BK204; clear BK205; clear BK227; clear HB; have HO213 := n0_; have HO219 := n1_; have HO226 := n2_; have HO233 := n3_; have BK204 := n4_; have BK205 := n5_; have BK227 := n6_; have HB := n7_; have BK234 := n8_; have GW234 := n9_; have GE234 := n10_; have NB204_234 := n11_; have NB234_204 := n12_; have NB205_234 := n13_; have NB234_205 := n14_; have NB227_234 := n15_; have NB234_227 := n16_; clear n0_ n1_ n2_ n3_ n4_ n5_ n6_ n7_ n8_ n9_ n10_ n11_ n12_ n13_ n14_ n15_ n16_; clear hb hbox hg; have hnb123 := NB234_204.out; have hnc123 := NB204_234.out; have hnb124 := NB234_205.out; have hnc124 := NB205_234.out; have hnb125 := NB234_227.out; have hnc125 := NB227_234.out; have hcz126_0 : w122.cell? ⟨gb234, 0, none⟩ = some (.string (⟨#[]⟩ : ByteArray)) := (blk_cell BK234.out 0).trans rfl; have hcz126_1 : w122.cell? ⟨gb234, 1, none⟩ = some (.string (⟨#[]⟩ : ByteArray)) := (blk_cell BK234.out 1).trans rfl; have hcz126_2 : w122.cell? ⟨gb234, 2, none⟩ = some (.int .i64 0) := (blk_cell BK234.out 2).trans rfl; have hcz126_3 : w122.cell? ⟨gb234, 3, none⟩ = some (.slice none 0 0) := (blk_cell BK234.out 3).trans rfl; have hfz126_0 := blk_frozen BK234.out 0; have hfz126_1 := blk_frozen BK234.out 1; have hfz126_2 := blk_frozen BK234.out 2; have hfz126_3 := blk_frozen BK234.out 3; obtain ⟨Ao127, co127, eo127⟩ := Kd.S_slice HO233.out; subst eo127; have hcz128_0 : w122.cell? ⟨gb227, 0, none⟩ = some (.string t221) := (blk_cell BK227.out 0).trans rfl; have hcz128_1 : w122.cell? ⟨gb227, 1, none⟩ = some (.string t222) := (blk_cell BK227.out 1).trans rfl; have hcz128_2 : w122.cell? ⟨gb227, 2, none⟩ = some (.int .i64 t223) := (blk_cell BK227.out 2).trans rfl; have hcz128_3 : w122.cell? ⟨gb227, 3, none⟩ = some (.slice Ao119 t224.length co119) := (blk_cell BK227.out 3).trans rfl; have hfz128_0 := blk_frozen BK227.out 0; have hfz128_1 := blk_frozen BK227.out 1; have hfz128_2 := blk_frozen BK227.out 2; have hfz128_3 := blk_frozen BK227.out 3) | ((with_reducible refine gate_callee (f := 16) rfl ?_); refine goesL_ (some 31) rfl rfl Try.func16 (by kernel_rfl) rfl #[.agg mm9q15_, .agg mm9q30_] rfl (by mm9q4_) ?_; (mm9q28_); (case side1 => refine (Kd.S_reads' (e := 30) (base := w.heap.size) (ok := fun k_ => (((True ∧ some k_ ≠ (.slice Ao110 t211.length co110 : Value).ownBlock) ∧ some k_ ≠ (.slice Ao111 t217.length co111 : Value).ownBlock) ∧ some k_ ≠ (.slice Ao127 t231.length co127 : Value).ownBlock)) (n := t224.length) (c := co119) ?_).2.2; exact (by mm9q35_)); (mm9q56_); (case side3 => refine (Kd.S_reads' (e := 30) (base := w.heap.size) (ok := fun k_ => (((True ∧ some k_ ≠ (.slice Ao110 t211.length co110 : Value).ownBlock) ∧ some k_ ≠ (.slice Ao111 t217.length co111 : Value).ownBlock) ∧ some k_ ≠ (.slice Ao119 t224.length co119 : Value).ownBlock)) (n := t231.length) (c := co127) ?_).2.2; exact (by mm9q36_)); (mm9q64_); rintro e w129 ⟨rfl, hb⟩; refine ⟨_, rfl, ?_⟩; have n0_ := Aside0.mk (Kd.S_below (by (mm9q1_); exact (Kd.S_mono (Kd.S_far (p := ⟨gb234, 3, none⟩) (Kd.S_far (p := ⟨gb234, 2, none⟩) (Kd.S_far (p := ⟨gb234, 1, none⟩) (Kd.S_far (p := ⟨gb234, 0, none⟩) (Kd.S_types HO213.out BK234.out (by decide)) (fun _ hk => hk.2) (.string t228)) (fun _ hk => hk.2) (.string t229)) (fun _ hk => hk.2) (.int .i64 t230)) (fun _ hk => hk.2) (.slice Ao127 t231.length co127)) (fun _ h_ => h_.1))) hb); have n1_ := Aside0.mk (Kd.S_below (by (mm9q1_); exact (Kd.S_mono (Kd.S_far (p := ⟨gb234, 3, none⟩) (Kd.S_far (p := ⟨gb234, 2, none⟩) (Kd.S_far (p := ⟨gb234, 1, none⟩) (Kd.S_far (p := ⟨gb234, 0, none⟩) (Kd.S_types HO219.out BK234.out (by decide)) (fun _ hk => hk.2) (.string t228)) (fun _ hk => hk.2) (.string t229)) (fun _ hk => hk.2) (.int .i64 t230)) (fun _ hk => hk.2) (.slice Ao127 t231.length co127)) (fun _ h_ => h_.1))) hb); have n2_ := Aside0.mk (Kd.S_below (by mm9q35_) hb); have n3_ := Aside0.mk (Kd.S_below (by mm9q36_) hb); have n4_ := Aside0.mk (blk_below (g := gb204) (o := .cells mm9q3_ 35 (0, 0)) (by mm9q19_) hb); have n5_ := Aside0.mk (blk_below (g := gb205) (o := .cells mm9q5_ 35 (0, 0)) (by mm9q20_) hb); have n6_ := Aside0.mk (blk_below (g := gb227) (o := .cells mm9q15_ 40 (0, 0)) (by mm9q21_) hb); have n7_ := Aside0.mk (blk_below (g := gb234) (o := .cells mm9q30_ 40 (0, 0)) (by mm9q14_) hb); have n8_ := Aside0.mk (below_step (by repeat (mm9q6_)) hb); clear HO213; clear HO219; clear HO226; clear HO233; clear BK204; clear BK205; clear BK227; clear BK234; clear HB; have HO213 := n0_; have HO219 := n1_; have HO226 := n2_; have HO233 := n3_; have BK204 := n4_; have BK205 := n5_; have BK227 := n6_; have BK234 := n7_; have HB := n8_; clear n0_ n1_ n2_ n3_ n4_ n5_ n6_ n7_ n8_; (try clear hb); (try clear hb2); (try clear hk); (try clear hi)))
            have n0_ := Aside0.mk (Kd.S_drew HO213.out)
            have n1_ := Aside0.mk (Kd.S_drew HO219.out)
            have n2_ := Aside0.mk (Kd.S_drew HO226.out)
            have n3_ := Aside0.mk (Kd.S_drew HO233.out)
            have n4_ := Aside0.mk (blk_drew BK204.out)
            have n5_ := Aside0.mk (blk_drew BK205.out)
            have n6_ := Aside0.mk (blk_drew BK227.out)
            have n7_ := Aside0.mk (blk_drew BK234.out)
            have n8_ := Aside0.mk (below_drew1 HB.out)
            clear HO213
            clear HO219
            clear HO226
            clear HO233
            clear BK204
            clear BK205
            clear BK227
            clear BK234
            clear HB
            have HO213 := n0_
            have HO219 := n1_
            have HO226 := n2_
            have HO233 := n3_
            have BK204 := n4_
            have BK205 := n5_
            have BK227 := n6_
            have BK234 := n7_
            have HB := n8_
            clear n0_ n1_ n2_ n3_ n4_ n5_ n6_ n7_ n8_
            refine start_ (n := 5) (S := fun w' => w'.cell? ⟨gb227, 0, none⟩ = some (.string t221) ∧ w'.cell? ⟨gb227, 1, none⟩ = some (.string t222) ∧ w'.cell? ⟨gb227, 2, none⟩ = some (.int .i64 t223) ∧ w'.cell? ⟨gb227, 3, none⟩ = some (.slice Ao119 t224.length co119) ∧ w'.cell? ⟨gb204, 0, none⟩ = some (.string a0_0) ∧ w'.cell? ⟨gb204, 1, none⟩ = some (.string a0_1) ∧ w'.cell? ⟨gb204, 2, none⟩ = some (.int .i64 a0_2) ∧ w'.cell? ⟨gb204, 3, none⟩ = some (.slice A0_3 l0_3.length c0_3)) (ds := []) #[false, false, false, false, false] (by kernel_rfl) rfl rfl ⟨(blk_cell BK227.out 0).trans rfl, (blk_cell BK227.out 1).trans rfl, (blk_cell BK227.out 2).trans rfl, (blk_cell BK227.out 3).trans rfl, (blk_cell BK204.out 0).trans rfl, (blk_cell BK204.out 1).trans rfl, (blk_cell BK204.out 2).trans rfl, (blk_cell BK204.out 3).trans rfl⟩ (fun hHeld => ?_)
            generalize w129.drew = w_ at HO213 HO219 HO226 HO233 BK204 BK205 BK227 BK234 HB hHeld ⊢
            refine take_ (i := 0) (N := some 35) (v := ?_) (a' := ?_) #[true, false, false, false, false] rfl rfl (by kernel_rfl) (fun _ _ _ h => h) (Or.inl ⟨by rfl, ?_⟩) hHeld ?_ ?_
            rotate_left
            · rintro w' ⟨s0, s1, s2, s3, s4, s5, s6, s7⟩
              go_simp
              with_reducible rfl
            rotate_left
            · simp only [Act.put, List.setIfInBounds_toArray, List.set_cons_zero, List.set_cons_succ, i64_w, i32_w]
              rfl
            refine take_ (i := 1) (N := some 36) (v := ?_) (a' := ?_) #[true, true, false, false, false] rfl rfl (by kernel_rfl) (fun _ _ _ h => h) (Or.inl ⟨by rfl, ?_⟩) hHeld ?_ ?_
            rotate_left
            · rintro w' ⟨s0, s1, s2, s3, s4, s5, s6, s7⟩
              go_simp
              with_reducible rfl
            rotate_left
            · simp only [Act.put, List.setIfInBounds_toArray, List.set_cons_zero, List.set_cons_succ, i64_w, i32_w]
              rfl
            refine one_ (i := 2) (N := some 37) #[true, true, true, false, false] rfl rfl (by kernel_rfl) (by decide) (fun K hK => ?_)
            refine goes_ Try.func15 (by kernel_rfl) rfl #[.agg mm9q3_] (by rfl) rfl rfl (by mm9q4_) ?_
            with_reducible refine (laws_toParcel.calls k a0_0 a0_1 a0_2 _ _ l0_3 t236 t237 t238 t239 _ ?side1 ?side2 A56.out).mono ?_
            (mm9q11_)
            (case side2 => exact HC0_3.out)
            rintro e w_ ⟨v240, rfl, ho0, hb⟩
            refine ⟨_, rfl, ?_⟩
            have n0_ := Aside0.mk (Kd.S_elder' (by (mm9q1_); exact HO213.out) (Kd.S_base ho0) hb)
            have n1_ := Aside0.mk (Kd.S_elder' (by (mm9q1_); exact HO219.out) (Kd.S_base ho0) hb)
            have n2_ := Aside0.mk (Kd.S_elder' (by (mm9q1_); exact HO226.out) (Kd.S_base ho0) hb)
            have n3_ := Aside0.mk (Kd.S_elder' (by (mm9q1_); exact HO233.out) (Kd.S_base ho0) hb)
            have n4_ := Aside0.mk (Kd.S_lower (Kd.S_new' (Kd.S_new' (Kd.S_new' (Kd.S_new' ho0 (Kd.S_lt (by (mm9q1_); exact HO213.out))) (Kd.S_lt (by (mm9q1_); exact HO219.out))) (Kd.S_lt (by (mm9q1_); exact HO226.out))) (Kd.S_lt (by (mm9q1_); exact HO233.out))) (below_size (by repeat (mm9q6_))))
            have n5_ := Aside0.mk (blk_below (g := gb204) (o := .cells mm9q3_ 35 (0, 0)) (by (mm9q0_); exact BK204.out) hb)
            have n6_ := Aside0.mk (blk_below (g := gb205) (o := .cells mm9q5_ 35 (0, 0)) (by (mm9q0_); exact BK205.out) hb)
            have n7_ := Aside0.mk (blk_below (g := gb227) (o := .cells mm9q15_ 40 (0, 0)) (by (mm9q0_); exact BK227.out) hb)
            have n8_ := Aside0.mk (blk_below (g := gb234) (o := .cells mm9q30_ 40 (0, 0)) (by (mm9q0_); exact BK234.out) hb)
            have n9_ := Aside0.mk (below_step (by repeat (mm9q6_)) hb)
            clear HO213
            clear HO219
            clear HO226
            clear HO233
            clear BK204
            clear BK205
            clear BK227
            clear BK234
            clear HB
            have HO213 := n0_
            have HO219 := n1_
            have HO226 := n2_
            have HO233 := n3_
            have HO241 := n4_
            have BK204 := n5_
            have BK205 := n6_
            have BK227 := n7_
            have BK234 := n8_
            have HB := n9_
            clear n0_ n1_ n2_ n3_ n4_ n5_ n6_ n7_ n8_ n9_
            (try clear hb)
            (try clear hb2)
            (try clear hk)
            (try clear hi)
            (try clear ho0)
            obtain ⟨Ao132, co132, eo132⟩ := Kd.S_slice HO241.out
            (first | subst eo132 | (injection eo132 with f1_ f2_ f3_; have f4_ := f1_.symm; have f5_ := f3_.symm; clear f1_ f2_ f3_; subst f4_; subst f5_))
            refine hK.out _ _ ⟨(blk_cell BK227.out 0).trans rfl, (blk_cell BK227.out 1).trans rfl, (blk_cell BK227.out 2).trans rfl, (blk_cell BK227.out 3).trans rfl, (blk_cell BK204.out 0).trans rfl, (blk_cell BK204.out 1).trans rfl, (blk_cell BK204.out 2).trans rfl, (blk_cell BK204.out 3).trans rfl⟩ (fun hHeld => ?_)
            clear hK K
            refine norm_ (a' := ?_) ?_ ?_
            rotate_left
            · show Act.put _ (some 37) _ = _
              simp only [Act.put, List.setIfInBounds_toArray, List.set_cons_zero, List.set_cons_succ, i64_w, i32_w]
              rfl
            refine one_ (i := 3) (N := some 38) #[true, true, true, true, false] rfl rfl (by kernel_rfl) (by decide) (fun K hK => ?_)
            refine goes_ Try.func17 (by kernel_rfl) rfl #[.agg mm9q15_, .agg #[.string t236, .string t237, .int .i64 t238, .slice Ao132 t239.length co132]] (by rfl) rfl rfl (by mm9q4_) ?_
            with_reducible refine (laws_eqParcel.calls k t221 t222 t223 _ _ t224 t236 t237 t238 _ _ t239 true _ ?side1 ?side2 ?side3 ?side4 A57.out).mono ?_
            (mm9q52_)
            (mm9q56_)
            (mm9q53_)
            (case side4 => exact (Kd.S_reads' HO241.out).2.1)
            rintro e w133 ⟨rfl, hb⟩
            refine ⟨_, rfl, ?_⟩
            have n0_ := Aside0.mk (Kd.S_below (by (mm9q1_); exact HO213.out) hb)
            have n1_ := Aside0.mk (Kd.S_below (by (mm9q1_); exact HO219.out) hb)
            have n2_ := Aside0.mk (Kd.S_below (by (mm9q1_); exact HO226.out) hb)
            have n3_ := Aside0.mk (Kd.S_below (by (mm9q1_); exact HO233.out) hb)
            have n4_ := Aside0.mk (Kd.S_below (by (mm9q1_); exact HO241.out) hb)
            have n5_ := Aside0.mk (blk_below (g := gb204) (o := .cells mm9q3_ 35 (0, 0)) (by (mm9q0_); exact BK204.out) hb)
            have n6_ := Aside0.mk (blk_below (g := gb205) (o := .cells mm9q5_ 35 (0, 0)) (by (mm9q0_); exact BK205.out) hb)
            have n7_ := Aside0.mk (blk_below (g := gb227) (o := .cells mm9q15_ 40 (0, 0)) (by (mm9q0_); exact BK227.out) hb)
            have n8_ := Aside0.mk (blk_below (g := gb234) (o := .cells mm9q30_ 40 (0, 0)) (by (mm9q0_); exact BK234.out) hb)
            have n9_ := Aside0.mk (below_step (by repeat (mm9q6_)) hb)
            clear HO213
            clear HO219
            clear HO226
            clear HO233
            clear HO241
            clear BK204
            clear BK205
            clear BK227
            clear BK234
            clear HB
            have HO213 := n0_
            have HO219 := n1_
            have HO226 := n2_
            have HO233 := n3_
            have HO241 := n4_
            have BK204 := n5_
            have BK205 := n6_
            have BK227 := n7_
            have BK234 := n8_
            have HB := n9_
            clear n0_ n1_ n2_ n3_ n4_ n5_ n6_ n7_ n8_ n9_
            (try clear hb)
            (try clear hb2)
            (try clear hk)
            (try clear hi)
            refine hK.out _ _ ⟨(blk_cell BK227.out 0).trans rfl, (blk_cell BK227.out 1).trans rfl, (blk_cell BK227.out 2).trans rfl, (blk_cell BK227.out 3).trans rfl, (blk_cell BK204.out 0).trans rfl, (blk_cell BK204.out 1).trans rfl, (blk_cell BK204.out 2).trans rfl, (blk_cell BK204.out 3).trans rfl⟩ (fun hHeld => ?_)
            clear hK K
            refine norm_ (a' := ?_) ?_ ?_
            rotate_left
            · show Act.put _ (some 38) _ = _
              simp only [Act.put, List.setIfInBounds_toArray, List.set_cons_zero, List.set_cons_succ, i64_w, i32_w]
              rfl
            refine pure_ (i := 4) (N := some 39) (v := ?_) (a' := ?_) #[true, true, true, true, true] rfl rfl (by kernel_rfl) (fun _ _ _ h => h) (Or.inl ⟨by rfl, ?_⟩) ?_ ?_
            rotate_left
            · intro w'
              go_simp
              with_reducible rfl
            rotate_left
            · simp only [Act.put, List.setIfInBounds_toArray, List.set_cons_zero, List.set_cons_succ, i64_w, i32_w]
              rfl
            refine done_ (by kernel_rfl) ?_
            try go_wp2
            have n0_ := Aside0.mk (Kd.S_drew HO213.out)
            have n1_ := Aside0.mk (Kd.S_drew HO219.out)
            have n2_ := Aside0.mk (Kd.S_drew HO226.out)
            have n3_ := Aside0.mk (Kd.S_drew HO233.out)
            have n4_ := Aside0.mk (Kd.S_drew HO241.out)
            have n5_ := Aside0.mk (blk_drew BK204.out)
            have n6_ := Aside0.mk (blk_drew BK205.out)
            have n7_ := Aside0.mk (blk_drew BK227.out)
            have n8_ := Aside0.mk (blk_drew BK234.out)
            have n9_ := Aside0.mk (below_drew1 HB.out)
            clear HO213
            clear HO219
            clear HO226
            clear HO233
            clear HO241
            clear BK204
            clear BK205
            clear BK227
            clear BK234
            clear HB
            have HO213 := n0_
            have HO219 := n1_
            have HO226 := n2_
            have HO233 := n3_
            have HO241 := n4_
            have BK204 := n5_
            have BK205 := n6_
            have BK227 := n7_
            have BK234 := n8_
            have HB := n9_
            clear n0_ n1_ n2_ n3_ n4_ n5_ n6_ n7_ n8_ n9_
            refine start_ (n := 5) (S := fun w' => w'.cell? ⟨gb234, 0, none⟩ = some (.string t228) ∧ w'.cell? ⟨gb234, 1, none⟩ = some (.string t229) ∧ w'.cell? ⟨gb234, 2, none⟩ = some (.int .i64 t230) ∧ w'.cell? ⟨gb234, 3, none⟩ = some (.slice Ao127 t231.length co127) ∧ w'.cell? ⟨gb205, 0, none⟩ = some (.string a1_0) ∧ w'.cell? ⟨gb205, 1, none⟩ = some (.string a1_1) ∧ w'.cell? ⟨gb205, 2, none⟩ = some (.int .i64 a1_2) ∧ w'.cell? ⟨gb205, 3, none⟩ = some (.slice A1_3 l1_3.length c1_3)) (ds := []) #[false, false, false, false, false] (by kernel_rfl) rfl rfl ⟨(blk_cell BK234.out 0).trans rfl, (blk_cell BK234.out 1).trans rfl, (blk_cell BK234.out 2).trans rfl, (blk_cell BK234.out 3).trans rfl, (blk_cell BK205.out 0).trans rfl, (blk_cell BK205.out 1).trans rfl, (blk_cell BK205.out 2).trans rfl, (blk_cell BK205.out 3).trans rfl⟩ (fun hHeld => ?_)
            generalize w133.drew = w_ at HO213 HO219 HO226 HO233 HO241 BK204 BK205 BK227 BK234 HB hHeld ⊢
            refine take_ (i := 0) (N := some 40) (v := ?_) (a' := ?_) #[true, false, false, false, false] rfl rfl (by kernel_rfl) (fun _ _ _ h => h) (Or.inl ⟨by rfl, ?_⟩) hHeld ?_ ?_
            rotate_left
            · rintro w' ⟨s0, s1, s2, s3, s4, s5, s6, s7⟩
              go_simp
              with_reducible rfl
            rotate_left
            · simp only [Act.put, List.setIfInBounds_toArray, List.set_cons_zero, List.set_cons_succ, i64_w, i32_w]
              rfl
            refine take_ (i := 1) (N := some 41) (v := ?_) (a' := ?_) #[true, true, false, false, false] rfl rfl (by kernel_rfl) (fun _ _ _ h => h) (Or.inl ⟨by rfl, ?_⟩) hHeld ?_ ?_
            rotate_left
            · rintro w' ⟨s0, s1, s2, s3, s4, s5, s6, s7⟩
              go_simp
              with_reducible rfl
            rotate_left
            · simp only [Act.put, List.setIfInBounds_toArray, List.set_cons_zero, List.set_cons_succ, i64_w, i32_w]
              rfl
            refine one_ (i := 2) (N := some 42) #[true, true, true, false, false] rfl rfl (by kernel_rfl) (by decide) (fun K hK => ?_)
            refine goes_ Try.func15 (by kernel_rfl) rfl #[.agg mm9q5_] (by rfl) rfl rfl (by mm9q4_) ?_
            with_reducible refine (laws_toParcel.calls k a1_0 a1_1 a1_2 _ _ l1_3 t243 t244 t245 t246 _ ?side1 ?side2 A59.out).mono ?_
            (mm9q12_)
            (case side2 => exact HC1_3.out)
            rintro e w_ ⟨v247, rfl, ho0, hb⟩
            refine ⟨_, rfl, ?_⟩
            have n0_ := Aside0.mk (Kd.S_elder' (by (mm9q1_); exact HO213.out) (Kd.S_base ho0) hb)
            have n1_ := Aside0.mk (Kd.S_elder' (by (mm9q1_); exact HO219.out) (Kd.S_base ho0) hb)
            have n2_ := Aside0.mk (Kd.S_elder' (by (mm9q1_); exact HO226.out) (Kd.S_base ho0) hb)
            have n3_ := Aside0.mk (Kd.S_elder' (by (mm9q1_); exact HO233.out) (Kd.S_base ho0) hb)
            have n4_ := Aside0.mk (Kd.S_elder' (by (mm9q1_); exact HO241.out) (Kd.S_base ho0) hb)
            have n5_ := Aside0.mk (Kd.S_lower (Kd.S_new' (Kd.S_new' (Kd.S_new' (Kd.S_new' (Kd.S_new' ho0 (Kd.S_lt (by (mm9q1_); exact HO213.out))) (Kd.S_lt (by (mm9q1_); exact HO219.out))) (Kd.S_lt (by (mm9q1_); exact HO226.out))) (Kd.S_lt (by (mm9q1_); exact HO233.out))) (Kd.S_lt (by (mm9q1_); exact HO241.out))) (below_size (by repeat (mm9q6_))))
            have n6_ := Aside0.mk (blk_below (g := gb204) (o := .cells mm9q3_ 35 (0, 0)) (by (mm9q0_); exact BK204.out) hb)
            have n7_ := Aside0.mk (blk_below (g := gb205) (o := .cells mm9q5_ 35 (0, 0)) (by (mm9q0_); exact BK205.out) hb)
            have n8_ := Aside0.mk (blk_below (g := gb227) (o := .cells mm9q15_ 40 (0, 0)) (by (mm9q0_); exact BK227.out) hb)
            have n9_ := Aside0.mk (blk_below (g := gb234) (o := .cells mm9q30_ 40 (0, 0)) (by (mm9q0_); exact BK234.out) hb)
            have n10_ := Aside0.mk (below_step (by repeat (mm9q6_)) hb)
            clear HO213
            clear HO219
            clear HO226
            clear HO233
            clear HO241
            clear BK204
            clear BK205
            clear BK227
            clear BK234
            clear HB
            have HO213 := n0_
            have HO219 := n1_
            have HO226 := n2_
            have HO233 := n3_
            have HO241 := n4_
            have HO248 := n5_
            have BK204 := n6_
            have BK205 := n7_
            have BK227 := n8_
            have BK234 := n9_
            have HB := n10_
            clear n0_ n1_ n2_ n3_ n4_ n5_ n6_ n7_ n8_ n9_ n10_
            (try clear hb)
            (try clear hb2)
            (try clear hk)
            (try clear hi)
            (try clear ho0)
            obtain ⟨Ao136, co136, eo136⟩ := Kd.S_slice HO248.out
            (first | subst eo136 | (injection eo136 with f1_ f2_ f3_; have f4_ := f1_.symm; have f5_ := f3_.symm; clear f1_ f2_ f3_; subst f4_; subst f5_))
            refine hK.out _ _ ⟨(blk_cell BK234.out 0).trans rfl, (blk_cell BK234.out 1).trans rfl, (blk_cell BK234.out 2).trans rfl, (blk_cell BK234.out 3).trans rfl, (blk_cell BK205.out 0).trans rfl, (blk_cell BK205.out 1).trans rfl, (blk_cell BK205.out 2).trans rfl, (blk_cell BK205.out 3).trans rfl⟩ (fun hHeld => ?_)
            clear hK K
            refine norm_ (a' := ?_) ?_ ?_
            rotate_left
            · show Act.put _ (some 42) _ = _
              simp only [Act.put, List.setIfInBounds_toArray, List.set_cons_zero, List.set_cons_succ, i64_w, i32_w]
              rfl
            refine one_ (i := 3) (N := some 43) #[true, true, true, true, false] rfl rfl (by kernel_rfl) (by decide) (fun K hK => ?_)
            refine goes_ Try.func17 (by kernel_rfl) rfl #[.agg mm9q30_, .agg #[.string t243, .string t244, .int .i64 t245, .slice Ao136 t246.length co136]] (by rfl) rfl rfl (by mm9q4_) ?_
            with_reducible refine (laws_eqParcel.calls k t228 t229 t230 _ _ t231 t243 t244 t245 _ _ t246 false _ ?side1 ?side2 ?side3 ?side4 A60.out).mono ?_
            (mm9q59_)
            (case side2 => exact (Kd.S_reads' HO233.out).2.1)
            (mm9q60_)
            (case side4 => exact (Kd.S_reads' HO248.out).2.1)
            rintro e w_ ⟨rfl, hb⟩
            refine ⟨_, rfl, ?_⟩
            have n0_ := Aside0.mk (Kd.S_below (by (mm9q1_); exact HO213.out) hb)
            have n1_ := Aside0.mk (Kd.S_below (by (mm9q1_); exact HO219.out) hb)
            have n2_ := Aside0.mk (Kd.S_below (by (mm9q1_); exact HO226.out) hb)
            have n3_ := Aside0.mk (Kd.S_below (by (mm9q1_); exact HO233.out) hb)
            have n4_ := Aside0.mk (Kd.S_below (by (mm9q1_); exact HO241.out) hb)
            have n5_ := Aside0.mk (Kd.S_below (by (mm9q1_); exact HO248.out) hb)
            have n6_ := Aside0.mk (blk_below (g := gb204) (o := .cells mm9q3_ 35 (0, 0)) (by (mm9q0_); exact BK204.out) hb)
            have n7_ := Aside0.mk (blk_below (g := gb205) (o := .cells mm9q5_ 35 (0, 0)) (by (mm9q0_); exact BK205.out) hb)
            have n8_ := Aside0.mk (blk_below (g := gb227) (o := .cells mm9q15_ 40 (0, 0)) (by (mm9q0_); exact BK227.out) hb)
            have n9_ := Aside0.mk (blk_below (g := gb234) (o := .cells mm9q30_ 40 (0, 0)) (by (mm9q0_); exact BK234.out) hb)
            have n10_ := Aside0.mk (below_step (by repeat (mm9q6_)) hb)
            clear HO213
            clear HO219
            clear HO226
            clear HO233
            clear HO241
            clear HO248
            clear BK204
            clear BK205
            clear BK227
            clear BK234
            clear HB
            have HO213 := n0_
            have HO219 := n1_
            have HO226 := n2_
            have HO233 := n3_
            have HO241 := n4_
            have HO248 := n5_
            have BK204 := n6_
            have BK205 := n7_
            have BK227 := n8_
            have BK234 := n9_
            have HB := n10_
            clear n0_ n1_ n2_ n3_ n4_ n5_ n6_ n7_ n8_ n9_ n10_
            (try clear hb)
            (try clear hb2)
            (try clear hk)
            (try clear hi)
            refine hK.out _ _ ⟨(blk_cell BK234.out 0).trans rfl, (blk_cell BK234.out 1).trans rfl, (blk_cell BK234.out 2).trans rfl, (blk_cell BK234.out 3).trans rfl, (blk_cell BK205.out 0).trans rfl, (blk_cell BK205.out 1).trans rfl, (blk_cell BK205.out 2).trans rfl, (blk_cell BK205.out 3).trans rfl⟩ (fun hHeld => ?_)
            clear hK K
            refine norm_ (a' := ?_) ?_ ?_
            rotate_left
            · show Act.put _ (some 43) _ = _
              simp only [Act.put, List.setIfInBounds_toArray, List.set_cons_zero, List.set_cons_succ, i64_w, i32_w]
              rfl
            refine pure_ (i := 4) (N := some 44) (v := ?_) (a' := ?_) #[true, true, true, true, true] rfl rfl (by kernel_rfl) (fun _ _ _ h => h) (Or.inl ⟨by rfl, ?_⟩) ?_ ?_
            rotate_left
            · intro w'
              go_simp
              with_reducible rfl
            rotate_left
            · simp only [Act.put, List.setIfInBounds_toArray, List.set_cons_zero, List.set_cons_succ, i64_w, i32_w]
              rfl
            refine done_ (by kernel_rfl) ?_
            try go_wp2
            go_ret
            exact ⟨by first | rfl | (simp [errW_none, errW_some] <;> rfl) | (simp [*, errW_none, errW_some] <;> rfl), by repeat (mm9q6_)⟩
        · replace c58 := Bool.eq_false_iff.mpr c58
          subst c58
          have H1 : (some false) = some r := by rw [if_neg (show ¬ (false = true) by decide)] at H; exact H
          clear H
          have H := H1
          clear H1
          obtain rfl := Option.some.inj H
          go_enter Try.func4, Try.ntmps4
          try go_wp2_with (first | (mm9q8_) | ((with_reducible refine gate_dst (N := 3) rfl ?_); refine box_event ?hg (N := 3) ?hd (cs := mm9q5_) (t := 35) ?hr ?_; (case hd => rfl); (case hg => rfl); (mm9q22_); intro gb205 hg w139 hbox hb; have n0_ := Aside0.mk (blk_below (g := gb204) (o := .cells mm9q3_ 35 (0, 0)) (by (mm9q0_); exact BK204.out) hb); have n1_ := Aside0.mk (below_step (by mm9q10_) hb); have n2_ := Aside0.mk (hbox); have n3_ := Aside0.mk ((by rw [hg]; exact (below_size (by mm9q10_)) : w.heap.size ≤ gb205)); have n4_ := Aside0.mk ((by rw [hg]; exact (below_size (by mm9q10_)) : w.heap.size ≤ gb205)); have n5_ := Aside0.mk ((by rw [hg]; exact Nat.ne_of_lt (blk_lt (g := gb204) (o := .cells mm9q3_ 35 (0, 0)) (by (mm9q0_); exact BK204.out)) : gb204 ≠ gb205)); have n6_ := Aside0.mk ((by rw [hg]; exact Nat.ne_of_gt (blk_lt (g := gb204) (o := .cells mm9q3_ 35 (0, 0)) (by (mm9q0_); exact BK204.out)) : gb205 ≠ gb204)); clear BK204; clear HB; have BK204 := n0_; have HB := n1_; have BK205 := n2_; have GW205 := n3_; have GE205 := n4_; have NB204_205 := n5_; have NB205_204 := n6_; clear n0_ n1_ n2_ n3_ n4_ n5_ n6_; clear hb hbox hg; have hnb140 := NB204_205.out; have hnc140 := NB205_204.out; have hcz141_0 : w139.cell? ⟨gb204, 0, none⟩ = some (.string a0_0) := (blk_cell BK204.out 0).trans rfl; have hcz141_1 : w139.cell? ⟨gb204, 1, none⟩ = some (.string a0_1) := (blk_cell BK204.out 1).trans rfl; have hcz141_2 : w139.cell? ⟨gb204, 2, none⟩ = some (.int .i64 a0_2) := (blk_cell BK204.out 2).trans rfl; have hcz141_3 : w139.cell? ⟨gb204, 3, none⟩ = some (.slice A0_3 l0_3.length c0_3) := (blk_cell BK204.out 3).trans rfl; have hfz141_0 := blk_frozen BK204.out 0; have hfz141_1 := blk_frozen BK204.out 1; have hfz141_2 := blk_frozen BK204.out 2; have hfz141_3 := blk_frozen BK204.out 3) | ((with_reducible refine gate_callee (f := 13) rfl ?_); refine goesL_ (some 12) rfl rfl Try.func13 (by kernel_rfl) rfl #[.agg mm9q3_, .int .i64 1048576] rfl (by mm9q4_) ?_; (mm9q27_); (mm9q11_); (case side2 => exact HC0_3.out); rintro e w142 ⟨rfl, hb⟩; refine ⟨_, rfl, ?_⟩; have n0_ := Aside0.mk (blk_below (g := gb204) (o := .cells mm9q3_ 35 (0, 0)) (by (mm9q0_); exact BK204.out) hb); have n1_ := Aside0.mk (blk_below (g := gb205) (o := .cells mm9q5_ 35 (0, 0)) (by (mm9q0_); exact BK205.out) hb); have n2_ := Aside0.mk (below_step (by mm9q2_) hb); clear BK204; clear BK205; clear HB; have BK204 := n0_; have BK205 := n1_; have HB := n2_; clear n0_ n1_ n2_; (try clear hb); (try clear hb2); (try clear hk); (try clear hi); have hcz143_0 : w142.cell? ⟨gb205, 0, none⟩ = some (.string a1_0) := (blk_cell BK205.out 0).trans rfl; have hcz143_1 : w142.cell? ⟨gb205, 1, none⟩ = some (.string a1_1) := (blk_cell BK205.out 1).trans rfl; have hcz143_2 : w142.cell? ⟨gb205, 2, none⟩ = some (.int .i64 a1_2) := (blk_cell BK205.out 2).trans rfl; have hcz143_3 : w142.cell? ⟨gb205, 3, none⟩ = some (.slice A1_3 l1_3.length c1_3) := (blk_cell BK205.out 3).trans rfl; have hfz143_0 := blk_frozen BK205.out 0; have hfz143_1 := blk_frozen BK205.out 1; have hfz143_2 := blk_frozen BK205.out 2; have hfz143_3 := blk_frozen BK205.out 3) | ((with_reducible refine gate_callee (f := 13) rfl ?_); refine goesL_ (some 17) rfl rfl Try.func13 (by kernel_rfl) rfl #[.agg mm9q5_, .int .i64 t206] rfl (by mm9q4_) ?_; (mm9q29_); (mm9q12_); (case side2 => exact HC1_3.out); rintro e w144 ⟨rfl, hb⟩; refine ⟨_, rfl, ?_⟩; have n0_ := Aside0.mk (blk_below (g := gb204) (o := .cells mm9q3_ 35 (0, 0)) (by (mm9q0_); exact BK204.out) hb); have n1_ := Aside0.mk (blk_below (g := gb205) (o := .cells mm9q5_ 35 (0, 0)) (by (mm9q0_); exact BK205.out) hb); have n2_ := Aside0.mk (below_step (by mm9q2_) hb); clear BK204; clear BK205; clear HB; have BK204 := n0_; have BK205 := n1_; have HB := n2_; clear n0_ n1_ n2_; (try clear hb); (try clear hb2); (try clear hk); (try clear hi)))
          have n0_ := Aside0.mk (blk_drew BK204.out)
          have n1_ := Aside0.mk (blk_drew BK205.out)
          have n2_ := Aside0.mk (below_drew1 HB.out)
          clear BK204
          clear BK205
          clear HB
          have BK204 := n0_
          have BK205 := n1_
          have HB := n2_
          clear n0_ n1_ n2_
          refine start_ (n := 6) (S := fun w' => w'.cell? ⟨gb204, 0, none⟩ = some (.string a0_0) ∧ w'.cell? ⟨gb204, 1, none⟩ = some (.string a0_1) ∧ w'.cell? ⟨gb204, 2, none⟩ = some (.int .i64 a0_2) ∧ w'.cell? ⟨gb204, 3, none⟩ = some (.slice A0_3 l0_3.length c0_3) ∧ w'.cell? ⟨gb205, 0, none⟩ = some (.string a1_0) ∧ w'.cell? ⟨gb205, 1, none⟩ = some (.string a1_1) ∧ w'.cell? ⟨gb205, 2, none⟩ = some (.int .i64 a1_2) ∧ w'.cell? ⟨gb205, 3, none⟩ = some (.slice A1_3 l1_3.length c1_3)) (ds := []) #[false, false, false, false, false, false] (by kernel_rfl) rfl rfl ⟨(blk_cell BK204.out 0).trans rfl, (blk_cell BK204.out 1).trans rfl, (blk_cell BK204.out 2).trans rfl, (blk_cell BK204.out 3).trans rfl, (blk_cell BK205.out 0).trans rfl, (blk_cell BK205.out 1).trans rfl, (blk_cell BK205.out 2).trans rfl, (blk_cell BK205.out 3).trans rfl⟩ (fun hHeld => ?_)
          generalize w144.drew = w_ at BK204 BK205 HB hHeld ⊢
          refine take_ (i := 0) (N := some 20) (v := ?_) (a' := ?_) #[true, false, false, false, false, false] rfl rfl (by kernel_rfl) (fun _ _ _ h => h) (Or.inl ⟨by rfl, ?_⟩) hHeld ?_ ?_
          rotate_left
          · rintro w' ⟨s0, s1, s2, s3, s4, s5, s6, s7⟩
            go_simp
            with_reducible rfl
          rotate_left
          · simp only [Act.put, List.setIfInBounds_toArray, List.set_cons_zero, List.set_cons_succ, i64_w, i32_w]
            rfl
          refine take_ (i := 2) (N := some 22) (v := ?_) (a' := ?_) #[true, false, true, false, false, false] rfl rfl (by kernel_rfl) (fun _ _ _ h => h) (Or.inl ⟨by rfl, ?_⟩) hHeld ?_ ?_
          rotate_left
          · rintro w' ⟨s0, s1, s2, s3, s4, s5, s6, s7⟩
            go_simp
            with_reducible rfl
          rotate_left
          · simp only [Act.put, List.setIfInBounds_toArray, List.set_cons_zero, List.set_cons_succ, i64_w, i32_w]
            rfl
          refine one_ (i := 1) (N := some 21) #[true, true, true, false, false, false] rfl rfl (by kernel_rfl) (by decide) (fun K hK => ?_)
          refine goes_ Try.func15 (by kernel_rfl) rfl #[.agg mm9q3_] (by rfl) rfl rfl (by mm9q4_) ?_
          with_reducible refine (laws_toParcel.calls k a0_0 a0_1 a0_2 _ _ l0_3 t208 t209 t210 t211 _ ?side1 ?side2 A19.out).mono ?_
          (mm9q11_)
          (case side2 => exact HC0_3.out)
          rintro e w_ ⟨v212, rfl, ho0, hb⟩
          refine ⟨_, rfl, ?_⟩
          have n0_ := Aside0.mk (Kd.S_lower ho0 (below_size (by mm9q2_)))
          have n1_ := Aside0.mk (blk_below (g := gb204) (o := .cells mm9q3_ 35 (0, 0)) (by (mm9q0_); exact BK204.out) hb)
          have n2_ := Aside0.mk (blk_below (g := gb205) (o := .cells mm9q5_ 35 (0, 0)) (by (mm9q0_); exact BK205.out) hb)
          have n3_ := Aside0.mk (below_step (by mm9q2_) hb)
          clear BK204
          clear BK205
          clear HB
          have HO213 := n0_
          have BK204 := n1_
          have BK205 := n2_
          have HB := n3_
          clear n0_ n1_ n2_ n3_
          (try clear hb)
          (try clear hb2)
          (try clear hk)
          (try clear hi)
          (try clear ho0)
          refine hK.out _ _ ⟨(blk_cell BK204.out 0).trans rfl, (blk_cell BK204.out 1).trans rfl, (blk_cell BK204.out 2).trans rfl, (blk_cell BK204.out 3).trans rfl, (blk_cell BK205.out 0).trans rfl, (blk_cell BK205.out 1).trans rfl, (blk_cell BK205.out 2).trans rfl, (blk_cell BK205.out 3).trans rfl⟩ (fun hHeld => ?_)
          clear hK K
          refine norm_ (a' := ?_) ?_ ?_
          rotate_left
          · show Act.put _ (some 21) _ = _
            simp only [Act.put, List.setIfInBounds_toArray, List.set_cons_zero, List.set_cons_succ, i64_w, i32_w]
            rfl
          refine one_ (i := 3) (N := some 23) #[true, true, true, true, false, false] rfl rfl (by kernel_rfl) (by decide) (fun K hK => ?_)
          refine goes_ Try.func15 (by kernel_rfl) rfl #[.agg mm9q5_] (by rfl) rfl rfl (by mm9q4_) ?_
          with_reducible refine (laws_toParcel.calls k a1_0 a1_1 a1_2 _ _ l1_3 t214 t215 t216 t217 _ ?side1 ?side2 A20.out).mono ?_
          (mm9q12_)
          (case side2 => exact HC1_3.out)
          rintro e w_ ⟨v218, rfl, ho0, hb⟩
          refine ⟨_, rfl, ?_⟩
          have n0_ := Aside0.mk (Kd.S_elder' (by (mm9q1_); exact HO213.out) (Kd.S_base ho0) hb)
          have n1_ := Aside0.mk (Kd.S_lower (Kd.S_new' ho0 (Kd.S_lt (by (mm9q1_); exact HO213.out))) (below_size (by mm9q2_)))
          have n2_ := Aside0.mk (blk_below (g := gb204) (o := .cells mm9q3_ 35 (0, 0)) (by (mm9q0_); exact BK204.out) hb)
          have n3_ := Aside0.mk (blk_below (g := gb205) (o := .cells mm9q5_ 35 (0, 0)) (by (mm9q0_); exact BK205.out) hb)
          have n4_ := Aside0.mk (below_step (by mm9q2_) hb)
          clear HO213
          clear BK204
          clear BK205
          clear HB
          have HO213 := n0_
          have HO219 := n1_
          have BK204 := n2_
          have BK205 := n3_
          have HB := n4_
          clear n0_ n1_ n2_ n3_ n4_
          (try clear hb)
          (try clear hb2)
          (try clear hk)
          (try clear hi)
          (try clear ho0)
          obtain ⟨Ao148, co148, eo148⟩ := Kd.S_slice HO213.out
          (first | subst eo148 | (injection eo148 with f1_ f2_ f3_; have f4_ := f1_.symm; have f5_ := f3_.symm; clear f1_ f2_ f3_; subst f4_; subst f5_))
          obtain ⟨Ao149, co149, eo149⟩ := Kd.S_slice HO219.out
          (first | subst eo149 | (injection eo149 with f1_ f2_ f3_; have f4_ := f1_.symm; have f5_ := f3_.symm; clear f1_ f2_ f3_; subst f4_; subst f5_))
          refine hK.out _ _ ⟨(blk_cell BK204.out 0).trans rfl, (blk_cell BK204.out 1).trans rfl, (blk_cell BK204.out 2).trans rfl, (blk_cell BK204.out 3).trans rfl, (blk_cell BK205.out 0).trans rfl, (blk_cell BK205.out 1).trans rfl, (blk_cell BK205.out 2).trans rfl, (blk_cell BK205.out 3).trans rfl⟩ (fun hHeld => ?_)
          clear hK K
          refine norm_ (a' := ?_) ?_ ?_
          rotate_left
          · show Act.put _ (some 23) _ = _
            simp only [Act.put, List.setIfInBounds_toArray, List.set_cons_zero, List.set_cons_succ, i64_w, i32_w]
            rfl
          refine one_ (i := 4) (N := some 24) #[true, true, true, true, true, false] rfl rfl (by kernel_rfl) (by decide) (fun K hK => ?_)
          refine goes_ Try.func14 (by kernel_rfl) rfl #[.agg #[.string t208, .string t209, .int .i64 t210, .slice Ao148 t211.length co148], .agg #[.string t214, .string t215, .int .i64 t216, .slice Ao149 t217.length co149]] (by rfl) rfl rfl (by mm9q4_) ?_
          with_reducible refine (spec_ParcelSame.calls k t208 t209 t210 _ _ t211 t214 t215 t216 _ _ t217 t220 _ ?side1 ?side2 ?side3 ?side4 A21.out).mono ?_
          (mm9q24_)
          (mm9q62_)
          (mm9q25_)
          (mm9q63_)
          rintro e w150 ⟨rfl, hb⟩
          refine ⟨_, rfl, ?_⟩
          have n0_ := Aside0.mk (Kd.S_below (by (mm9q1_); exact HO213.out) hb)
          have n1_ := Aside0.mk (Kd.S_below (by (mm9q1_); exact HO219.out) hb)
          have n2_ := Aside0.mk (blk_below (g := gb204) (o := .cells mm9q3_ 35 (0, 0)) (by (mm9q0_); exact BK204.out) hb)
          have n3_ := Aside0.mk (blk_below (g := gb205) (o := .cells mm9q5_ 35 (0, 0)) (by (mm9q0_); exact BK205.out) hb)
          have n4_ := Aside0.mk (below_step (by mm9q2_) hb)
          clear HO213
          clear HO219
          clear BK204
          clear BK205
          clear HB
          have HO213 := n0_
          have HO219 := n1_
          have BK204 := n2_
          have BK205 := n3_
          have HB := n4_
          clear n0_ n1_ n2_ n3_ n4_
          (try clear hb)
          (try clear hb2)
          (try clear hk)
          (try clear hi)
          refine hK.out _ _ ⟨(blk_cell BK204.out 0).trans rfl, (blk_cell BK204.out 1).trans rfl, (blk_cell BK204.out 2).trans rfl, (blk_cell BK204.out 3).trans rfl, (blk_cell BK205.out 0).trans rfl, (blk_cell BK205.out 1).trans rfl, (blk_cell BK205.out 2).trans rfl, (blk_cell BK205.out 3).trans rfl⟩ (fun hHeld => ?_)
          clear hK K
          refine norm_ (a' := ?_) ?_ ?_
          rotate_left
          · show Act.put _ (some 24) _ = _
            simp only [Act.put, List.setIfInBounds_toArray, List.set_cons_zero, List.set_cons_succ, i64_w, i32_w]
            rfl
          refine pure_ (i := 5) (N := some 6) (v := ?_) (a' := ?_) #[true, true, true, true, true, true] rfl rfl (by kernel_rfl) (fun _ _ _ h => h) (Or.inl ⟨by rfl, ?_⟩) ?_ ?_
          rotate_left
          · intro w'
            go_simp
            with_reducible rfl
          rotate_left
          · simp only [Act.put, List.setIfInBounds_toArray, List.set_cons_zero, List.set_cons_succ, i64_w, i32_w]
            rfl
          refine done_ (by kernel_rfl) ?_
          have hcz151_0 : w150.cell? ⟨gb204, 0, none⟩ = some (.string a0_0) := (blk_cell BK204.out 0).trans rfl
          have hcz151_1 : w150.cell? ⟨gb204, 1, none⟩ = some (.string a0_1) := (blk_cell BK204.out 1).trans rfl
          have hcz151_2 : w150.cell? ⟨gb204, 2, none⟩ = some (.int .i64 a0_2) := (blk_cell BK204.out 2).trans rfl
          have hcz151_3 : w150.cell? ⟨gb204, 3, none⟩ = some (.slice A0_3 l0_3.length c0_3) := (blk_cell BK204.out 3).trans rfl
          have hfz151_0 := blk_frozen BK204.out 0
          have hfz151_1 := blk_frozen BK204.out 1
          have hfz151_2 := blk_frozen BK204.out 2
          have hfz151_3 := blk_frozen BK204.out 3
          try go_wp2_with (first | (mm9q9_) | ((with_reducible refine gate_dst (N := 7) rfl ?_); refine box_event ?hg (N := 7) ?hd (cs := mm9q23_) (t := 40) ?hr ?_; (case hd => rfl); (case hg => rfl); (mm9q22_); intro gb227 hg w153 hbox hb; have n0_ := Aside0.mk (Kd.S_below (by (mm9q1_); exact HO213.out) hb); have n1_ := Aside0.mk (Kd.S_below (by (mm9q1_); exact HO219.out) hb); have n2_ := Aside0.mk (Kd.S_below (by (mm9q1_); exact HO226.out) hb); have n3_ := Aside0.mk (blk_below (g := gb204) (o := .cells mm9q3_ 35 (0, 0)) (by (mm9q0_); exact BK204.out) hb); have n4_ := Aside0.mk (blk_below (g := gb205) (o := .cells mm9q5_ 35 (0, 0)) (by (mm9q0_); exact BK205.out) hb); have n5_ := Aside0.mk (below_step (by mm9q2_) hb); have n6_ := Aside0.mk (hbox); have n7_ := Aside0.mk ((by rw [hg]; exact (below_size (by mm9q2_)) : w.heap.size ≤ gb227)); have n8_ := Aside0.mk ((by rw [hg]; exact (below_size (by mm9q2_)) : w.heap.size ≤ gb227)); have n9_ := Aside0.mk ((by rw [hg]; exact Nat.ne_of_lt (blk_lt (g := gb204) (o := .cells mm9q3_ 35 (0, 0)) (by (mm9q0_); exact BK204.out)) : gb204 ≠ gb227)); have n10_ := Aside0.mk ((by rw [hg]; exact Nat.ne_of_gt (blk_lt (g := gb204) (o := .cells mm9q3_ 35 (0, 0)) (by (mm9q0_); exact BK204.out)) : gb227 ≠ gb204)); have n11_ := Aside0.mk ((by rw [hg]; exact Nat.ne_of_lt (blk_lt (g := gb205) (o := .cells mm9q5_ 35 (0, 0)) (by (mm9q0_); exact BK205.out)) : gb205 ≠ gb227)); have n12_ := Aside0.mk ((by rw [hg]; exact Nat.ne_of_gt (blk_lt (g := gb205) (o := .cells mm9q5_ 35 (0, 0)) (by (mm9q0_); exact BK205.out)) : gb227 ≠ gb205)); clear HO213; clear HO219; clear HO226; clear BK204; clear BK205; clear HB; have HO213 := n0_; have HO219 := n1_; have HO226 := n2_; have BK204 := n3_; have BK205 := n4_; have HB := n5_; have BK227 := n6_; have GW227 := n7_; have GE227 := n8_; have NB204_227 := n9_; have NB227_204 := n10_; have NB205_227 := n11_; have NB227_205 := n12_; clear n0_ n1_ n2_ n3_ n4_ n5_ n6_ n7_ n8_ n9_ n10_ n11_ n12_; clear hb hbox hg; have hnb154 := NB227_204.out; have hnc154 := NB204_227.out; have hnb155 := NB227_205.out; have hnc155 := NB205_227.out; have hcz156_0 : w153.cell? ⟨gb227, 0, none⟩ = some (.string (⟨#[]⟩ : ByteArray)) := (blk_cell BK227.out 0).trans rfl; have hcz156_1 : w153.cell? ⟨gb227, 1, none⟩ = some (.string (⟨#[]⟩ : ByteArray)) := (blk_cell BK227.out 1).trans rfl; have hcz156_2 : w153.cell? ⟨gb227, 2, none⟩ = some (.int .i64 0) := (blk_cell BK227.out 2).trans rfl; have hcz156_3 : w153.cell? ⟨gb227, 3, none⟩ = some (.slice none 0 0) := (blk_cell BK227.out 3).trans rfl; have hfz156_0 := blk_frozen BK227.out 0; have hfz156_1 := blk_frozen BK227.out 1; have hfz156_2 := blk_frozen BK227.out 2; have hfz156_3 := blk_frozen BK227.out 3; obtain ⟨Ao157, co157, eo157⟩ := Kd.S_slice HO226.out; subst eo157; have hcz158_0 : w153.cell? ⟨gb205, 0, none⟩ = some (.string a1_0) := (blk_cell BK205.out 0).trans rfl; have hcz158_1 : w153.cell? ⟨gb205, 1, none⟩ = some (.string a1_1) := (blk_cell BK205.out 1).trans rfl; have hcz158_2 : w153.cell? ⟨gb205, 2, none⟩ = some (.int .i64 a1_2) := (blk_cell BK205.out 2).trans rfl; have hcz158_3 : w153.cell? ⟨gb205, 3, none⟩ = some (.slice A1_3 l1_3.length c1_3) := (blk_cell BK205.out 3).trans rfl; have hfz158_0 := blk_frozen BK205.out 0; have hfz158_1 := blk_frozen BK205.out 1; have hfz158_2 := blk_frozen BK205.out 2; have hfz158_3 := blk_frozen BK205.out 3) | ((with_reducible refine gate_callee (f := 15) rfl ?_); refine goesL_ (some 28) rfl rfl Try.func15 (by kernel_rfl) rfl #[.agg mm9q5_] rfl (by mm9q4_) ?_; (mm9q54_); (mm9q61_); (case side2 => exact HC1_3.out); rintro e w_ ⟨v232, rfl, ho0, hb⟩; refine ⟨_, rfl, ?_⟩; have n0_ := Aside0.mk (Kd.S_elder' (by mm9q37_) (Kd.S_base ho0) hb); have n1_ := Aside0.mk (Kd.S_elder' (by mm9q38_) (Kd.S_base ho0) hb); have n2_ := Aside0.mk (Kd.S_elder' (by mm9q39_) (Kd.S_base ho0) hb); have n3_ := Aside0.mk (Kd.S_lower (Kd.S_new' (Kd.S_new' (Kd.S_new' ho0 (Kd.S_lt (by mm9q37_))) (Kd.S_lt (by mm9q38_))) (Kd.S_lt (by mm9q39_))) (below_size (by mm9q7_))); have n4_ := Aside0.mk (blk_below (g := gb204) (o := .cells mm9q3_ 35 (0, 0)) (by mm9q17_) hb); have n5_ := Aside0.mk (blk_below (g := gb205) (o := .cells mm9q5_ 35 (0, 0)) (by mm9q18_) hb); have n6_ := Aside0.mk (blk_below (g := gb227) (o := .cells mm9q26_ 40 (0, 0)) (by mm9q13_) hb); have n7_ := Aside0.mk (below_step (by mm9q7_) hb); clear HO213; clear HO219; clear HO226; clear BK204; clear BK205; clear BK227; clear HB; have HO213 := n0_; have HO219 := n1_; have HO226 := n2_; have HO233 := n3_; have BK204 := n4_; have BK205 := n5_; have BK227 := n6_; have HB := n7_; clear n0_ n1_ n2_ n3_ n4_ n5_ n6_ n7_; (try clear hb); (try clear hb2); (try clear hk); (try clear hi); (try clear ho0)) | ((with_reducible refine gate_dst (N := 8) rfl ?_); refine box_event ?hg (N := 8) ?hd (cs := mm9q23_) (t := 40) ?hr ?_; (case hd => rfl); (case hg => rfl); (mm9q22_); intro gb234 hg w160 hbox hb; have n0_ := Aside0.mk (Kd.S_below (by (mm9q1_); exact HO213.out) hb); have n1_ := Aside0.mk (Kd.S_below (by (mm9q1_); exact HO219.out) hb); have n2_ := Aside0.mk (Kd.S_below (by (mm9q1_); exact HO226.out) hb); have n3_ := Aside0.mk (Kd.S_below (by (mm9q1_); exact HO233.out) hb); have n4_ := Aside0.mk (blk_below (g := gb204) (o := .cells mm9q3_ 35 (0, 0)) (by (mm9q0_); exact BK204.out) hb); have n5_ := Aside0.mk (blk_below (g := gb205) (o := .cells mm9q5_ 35 (0, 0)) (by (mm9q0_); exact BK205.out) hb); have n6_ := Aside0.mk (blk_below (g := gb227) (o := .cells mm9q26_ 40 (0, 0)) (by (mm9q0_); exact BK227.out) hb); have n7_ := Aside0.mk (below_step (by mm9q7_) hb); have n8_ := Aside0.mk (hbox); have n9_ := Aside0.mk ((by rw [hg]; exact (below_size (by mm9q7_)) : w.heap.size ≤ gb234)); have n10_ := Aside0.mk ((by rw [hg]; exact (below_size (by mm9q7_)) : w.heap.size ≤ gb234)); have n11_ := Aside0.mk ((by rw [hg]; exact Nat.ne_of_lt (blk_lt (g := gb204) (o := .cells mm9q3_ 35 (0, 0)) (by (mm9q0_); exact BK204.out)) : gb204 ≠ gb234)); have n12_ := Aside0.mk ((by rw [hg]; exact Nat.ne_of_gt (blk_lt (g := gb204) (o := .cells mm9q3_ 35 (0, 0)) (by (mm9q0_); exact BK204.out)) : gb234 ≠ gb204)); have n13_ := Aside0.mk ((by rw [hg]; exact Nat.ne_of_lt (blk_lt (g := gb205) (o := .cells mm9q5_ 35 (0, 0)) (by (mm9q0_); exact BK205.out)) : gb205 ≠ gb234)); have n14_ := Aside0.mk ((by rw [hg]; exact Nat.ne_of_gt (blk_lt (g := gb205) (o := .cells mm9q5_ 35 (0, 0)) (by (mm9q0_); exact BK205.out)) : gb234 ≠ gb205)); have n15_ := Aside0.mk ((by rw [hg]; exact Nat.ne_of_lt (blk_lt (g := gb227) (o := .cells mm9q26_ 40 (0, 0)) (by (mm9q0_); exact BK227.out)) : gb227 ≠ gb234)); have n16_ := Aside0.mk ((by rw [hg]; exact Nat.ne_of_gt (blk_lt (g := gb227) (o := .cells mm9q26_ 40 (0, 0)) (by (mm9q0_); exact BK227.out)) : gb234 ≠ gb227)); clear HO213; clear HO219; clear HO226; clear HO233; clear BK204; clear BK205; clear BK227; clear HB; have HO213 := n0_; have HO219 := n1_; have HO226 := n2_; have HO233 := n3_; have BK204 := n4_; have BK205 := n5_; have BK227 := n6_; have HB := n7_; have BK234 := n8_; have GW234 := n9_; have GE234 := n10_; have NB204_234 := n11_; have NB234_204 := n12_; have NB205_234 := n13_; have NB234_205 := n14_; have NB227_234 := n15_; have NB234_227 := n16_; clear n0_ n1_ n2_ n3_ n4_ n5_ n6_ n7_ n8_ n9_ n10_ n11_ n12_ n13_ n14_ n15_ n16_; clear hb hbox hg; have hnb161 := NB234_204.out; have hnc161 := NB204_234.out; have hnb162 := NB234_205.out; have hnc162 := NB205_234.out; have hnb163 := NB234_227.out; have hnc163 := NB227_234.out; have hcz164_0 : w160.cell? ⟨gb234, 0, none⟩ = some (.string (⟨#[]⟩ : ByteArray)) := (blk_cell BK234.out 0).trans rfl; have hcz164_1 : w160.cell? ⟨gb234, 1, none⟩ = some (.string (⟨#[]⟩ : ByteArray)) := (blk_cell BK234.out 1).trans rfl; have hcz164_2 : w160.cell? ⟨gb234, 2, none⟩ = some (.int .i64 0) := (blk_cell BK234.out 2).trans rfl; have hcz164_3 : w160.cell? ⟨gb234, 3, none⟩ = some (.slice none 0 0) := (blk_cell BK234.out 3).trans rfl; have hfz164_0 := blk_frozen BK234.out 0; have hfz164_1 := blk_frozen BK234.out 1; have hfz164_2 := blk_frozen BK234.out 2; have hfz164_3 := blk_frozen BK234.out 3; obtain ⟨Ao165, co165, eo165⟩ := Kd.S_slice HO233.out; subst eo165; have hcz166_0 : w160.cell? ⟨gb227, 0, none⟩ = some (.string t221) := (blk_cell BK227.out 0).trans rfl; have hcz166_1 : w160.cell? ⟨gb227, 1, none⟩ = some (.string t222) := (blk_cell BK227.out 1).trans rfl; have hcz166_2 : w160.cell? ⟨gb227, 2, none⟩ = some (.int .i64 t223) := (blk_cell BK227.out 2).trans rfl; have hcz166_3 : w160.cell? ⟨gb227, 3, none⟩ = some (.slice Ao157 t224.length co157) := (blk_cell BK227.out 3).trans rfl; have hfz166_0 := blk_frozen BK227.out 0; have hfz166_1 := blk_frozen BK227.out 1; have hfz166_2 := blk_frozen BK227.out 2; have hfz166_3 := blk_frozen BK227.out 3) | ((with_reducible refine gate_callee (f := 16) rfl ?_); refine goesL_ (some 31) rfl rfl Try.func16 (by kernel_rfl) rfl #[.agg mm9q26_, .agg mm9q57_] rfl (by mm9q4_) ?_; (mm9q28_); (case side1 => refine (Kd.S_reads' (e := 30) (base := w.heap.size) (ok := fun k_ => (((True ∧ some k_ ≠ (.slice Ao148 t211.length co148 : Value).ownBlock) ∧ some k_ ≠ (.slice Ao149 t217.length co149 : Value).ownBlock) ∧ some k_ ≠ (.slice Ao165 t231.length co165 : Value).ownBlock)) (n := t224.length) (c := co157) ?_).2.2; exact (by mm9q40_)); (mm9q56_); (case side3 => refine (Kd.S_reads' (e := 30) (base := w.heap.size) (ok := fun k_ => (((True ∧ some k_ ≠ (.slice Ao148 t211.length co148 : Value).ownBlock) ∧ some k_ ≠ (.slice Ao149 t217.length co149 : Value).ownBlock) ∧ some k_ ≠ (.slice Ao157 t224.length co157 : Value).ownBlock)) (n := t231.length) (c := co165) ?_).2.2; exact (by mm9q41_)); (mm9q64_); rintro e w167 ⟨rfl, hb⟩; refine ⟨_, rfl, ?_⟩; have n0_ := Aside0.mk (Kd.S_below (by (mm9q1_); exact (Kd.S_mono (Kd.S_far (p := ⟨gb234, 3, none⟩) (Kd.S_far (p := ⟨gb234, 2, none⟩) (Kd.S_far (p := ⟨gb234, 1, none⟩) (Kd.S_far (p := ⟨gb234, 0, none⟩) (Kd.S_types HO213.out BK234.out (by decide)) (fun _ hk => hk.2) (.string t228)) (fun _ hk => hk.2) (.string t229)) (fun _ hk => hk.2) (.int .i64 t230)) (fun _ hk => hk.2) (.slice Ao165 t231.length co165)) (fun _ h_ => h_.1))) hb); have n1_ := Aside0.mk (Kd.S_below (by (mm9q1_); exact (Kd.S_mono (Kd.S_far (p := ⟨gb234, 3, none⟩) (Kd.S_far (p := ⟨gb234, 2, none⟩) (Kd.S_far (p := ⟨gb234, 1, none⟩) (Kd.S_far (p := ⟨gb234, 0, none⟩) (Kd.S_types HO219.out BK234.out (by decide)) (fun _ hk => hk.2) (.string t228)) (fun _ hk => hk.2) (.string t229)) (fun _ hk => hk.2) (.int .i64 t230)) (fun _ hk => hk.2) (.slice Ao165 t231.length co165)) (fun _ h_ => h_.1))) hb); have n2_ := Aside0.mk (Kd.S_below (by mm9q40_) hb); have n3_ := Aside0.mk (Kd.S_below (by mm9q41_) hb); have n4_ := Aside0.mk (blk_below (g := gb204) (o := .cells mm9q3_ 35 (0, 0)) (by mm9q19_) hb); have n5_ := Aside0.mk (blk_below (g := gb205) (o := .cells mm9q5_ 35 (0, 0)) (by mm9q20_) hb); have n6_ := Aside0.mk (blk_below (g := gb227) (o := .cells mm9q26_ 40 (0, 0)) (by mm9q21_) hb); have n7_ := Aside0.mk (blk_below (g := gb234) (o := .cells mm9q57_ 40 (0, 0)) (by mm9q14_) hb); have n8_ := Aside0.mk (below_step (by repeat (mm9q6_)) hb); clear HO213; clear HO219; clear HO226; clear HO233; clear BK204; clear BK205; clear BK227; clear BK234; clear HB; have HO213 := n0_; have HO219 := n1_; have HO226 := n2_; have HO233 := n3_; have BK204 := n4_; have BK205 := n5_; have BK227 := n6_; have BK234 := n7_; have HB := n8_; clear n0_ n1_ n2_ n3_ n4_ n5_ n6_ n7_ n8_; (try clear hb); (try clear hb2); (try clear hk); (try clear hi)))
          have n0_ := Aside0.mk (Kd.S_drew HO213.out)
          have n1_ := Aside0.mk (Kd.S_drew HO219.out)
          have n2_ := Aside0.mk (Kd.S_drew HO226.out)
          have n3_ := Aside0.mk (Kd.S_drew HO233.out)
          have n4_ := Aside0.mk (blk_drew BK204.out)
          have n5_ := Aside0.mk (blk_drew BK205.out)
          have n6_ := Aside0.mk (blk_drew BK227.out)
          have n7_ := Aside0.mk (blk_drew BK234.out)
          have n8_ := Aside0.mk (below_drew1 HB.out)
          clear HO213
          clear HO219
          clear HO226
          clear HO233
          clear BK204
          clear BK205
          clear BK227
          clear BK234
          clear HB
          have HO213 := n0_
          have HO219 := n1_
          have HO226 := n2_
          have HO233 := n3_
          have BK204 := n4_
          have BK205 := n5_
          have BK227 := n6_
          have BK234 := n7_
          have HB := n8_
          clear n0_ n1_ n2_ n3_ n4_ n5_ n6_ n7_ n8_
          refine start_ (n := 5) (S := fun w' => w'.cell? ⟨gb227, 0, none⟩ = some (.string t221) ∧ w'.cell? ⟨gb227, 1, none⟩ = some (.string t222) ∧ w'.cell? ⟨gb227, 2, none⟩ = some (.int .i64 t223) ∧ w'.cell? ⟨gb227, 3, none⟩ = some (.slice Ao157 t224.length co157) ∧ w'.cell? ⟨gb204, 0, none⟩ = some (.string a0_0) ∧ w'.cell? ⟨gb204, 1, none⟩ = some (.string a0_1) ∧ w'.cell? ⟨gb204, 2, none⟩ = some (.int .i64 a0_2) ∧ w'.cell? ⟨gb204, 3, none⟩ = some (.slice A0_3 l0_3.length c0_3)) (ds := []) #[false, false, false, false, false] (by kernel_rfl) rfl rfl ⟨(blk_cell BK227.out 0).trans rfl, (blk_cell BK227.out 1).trans rfl, (blk_cell BK227.out 2).trans rfl, (blk_cell BK227.out 3).trans rfl, (blk_cell BK204.out 0).trans rfl, (blk_cell BK204.out 1).trans rfl, (blk_cell BK204.out 2).trans rfl, (blk_cell BK204.out 3).trans rfl⟩ (fun hHeld => ?_)
          generalize w167.drew = w_ at HO213 HO219 HO226 HO233 BK204 BK205 BK227 BK234 HB hHeld ⊢
          refine take_ (i := 0) (N := some 35) (v := ?_) (a' := ?_) #[true, false, false, false, false] rfl rfl (by kernel_rfl) (fun _ _ _ h => h) (Or.inl ⟨by rfl, ?_⟩) hHeld ?_ ?_
          rotate_left
          · rintro w' ⟨s0, s1, s2, s3, s4, s5, s6, s7⟩
            go_simp
            with_reducible rfl
          rotate_left
          · simp only [Act.put, List.setIfInBounds_toArray, List.set_cons_zero, List.set_cons_succ, i64_w, i32_w]
            rfl
          refine take_ (i := 1) (N := some 36) (v := ?_) (a' := ?_) #[true, true, false, false, false] rfl rfl (by kernel_rfl) (fun _ _ _ h => h) (Or.inl ⟨by rfl, ?_⟩) hHeld ?_ ?_
          rotate_left
          · rintro w' ⟨s0, s1, s2, s3, s4, s5, s6, s7⟩
            go_simp
            with_reducible rfl
          rotate_left
          · simp only [Act.put, List.setIfInBounds_toArray, List.set_cons_zero, List.set_cons_succ, i64_w, i32_w]
            rfl
          refine one_ (i := 2) (N := some 37) #[true, true, true, false, false] rfl rfl (by kernel_rfl) (by decide) (fun K hK => ?_)
          refine goes_ Try.func15 (by kernel_rfl) rfl #[.agg mm9q3_] (by rfl) rfl rfl (by mm9q4_) ?_
          with_reducible refine (laws_toParcel.calls k a0_0 a0_1 a0_2 _ _ l0_3 t236 t237 t238 t239 _ ?side1 ?side2 A56.out).mono ?_
          (mm9q11_)
          (case side2 => exact HC0_3.out)
          rintro e w_ ⟨v240, rfl, ho0, hb⟩
          refine ⟨_, rfl, ?_⟩
          have n0_ := Aside0.mk (Kd.S_elder' (by (mm9q1_); exact HO213.out) (Kd.S_base ho0) hb)
          have n1_ := Aside0.mk (Kd.S_elder' (by (mm9q1_); exact HO219.out) (Kd.S_base ho0) hb)
          have n2_ := Aside0.mk (Kd.S_elder' (by (mm9q1_); exact HO226.out) (Kd.S_base ho0) hb)
          have n3_ := Aside0.mk (Kd.S_elder' (by (mm9q1_); exact HO233.out) (Kd.S_base ho0) hb)
          have n4_ := Aside0.mk (Kd.S_lower (Kd.S_new' (Kd.S_new' (Kd.S_new' (Kd.S_new' ho0 (Kd.S_lt (by (mm9q1_); exact HO213.out))) (Kd.S_lt (by (mm9q1_); exact HO219.out))) (Kd.S_lt (by (mm9q1_); exact HO226.out))) (Kd.S_lt (by (mm9q1_); exact HO233.out))) (below_size (by repeat (mm9q6_))))
          have n5_ := Aside0.mk (blk_below (g := gb204) (o := .cells mm9q3_ 35 (0, 0)) (by (mm9q0_); exact BK204.out) hb)
          have n6_ := Aside0.mk (blk_below (g := gb205) (o := .cells mm9q5_ 35 (0, 0)) (by (mm9q0_); exact BK205.out) hb)
          have n7_ := Aside0.mk (blk_below (g := gb227) (o := .cells mm9q26_ 40 (0, 0)) (by (mm9q0_); exact BK227.out) hb)
          have n8_ := Aside0.mk (blk_below (g := gb234) (o := .cells mm9q57_ 40 (0, 0)) (by (mm9q0_); exact BK234.out) hb)
          have n9_ := Aside0.mk (below_step (by repeat (mm9q6_)) hb)
          clear HO213
          clear HO219
          clear HO226
          clear HO233
          clear BK204
          clear BK205
          clear BK227
          clear BK234
          clear HB
          have HO213 := n0_
          have HO219 := n1_
          have HO226 := n2_
          have HO233 := n3_
          have HO241 := n4_
          have BK204 := n5_
          have BK205 := n6_
          have BK227 := n7_
          have BK234 := n8_
          have HB := n9_
          clear n0_ n1_ n2_ n3_ n4_ n5_ n6_ n7_ n8_ n9_
          (try clear hb)
          (try clear hb2)
          (try clear hk)
          (try clear hi)
          (try clear ho0)
          obtain ⟨Ao170, co170, eo170⟩ := Kd.S_slice HO241.out
          (first | subst eo170 | (injection eo170 with f1_ f2_ f3_; have f4_ := f1_.symm; have f5_ := f3_.symm; clear f1_ f2_ f3_; subst f4_; subst f5_))
          refine hK.out _ _ ⟨(blk_cell BK227.out 0).trans rfl, (blk_cell BK227.out 1).trans rfl, (blk_cell BK227.out 2).trans rfl, (blk_cell BK227.out 3).trans rfl, (blk_cell BK204.out 0).trans rfl, (blk_cell BK204.out 1).trans rfl, (blk_cell BK204.out 2).trans rfl, (blk_cell BK204.out 3).trans rfl⟩ (fun hHeld => ?_)
          clear hK K
          refine norm_ (a' := ?_) ?_ ?_
          rotate_left
          · show Act.put _ (some 37) _ = _
            simp only [Act.put, List.setIfInBounds_toArray, List.set_cons_zero, List.set_cons_succ, i64_w, i32_w]
            rfl
          refine one_ (i := 3) (N := some 38) #[true, true, true, true, false] rfl rfl (by kernel_rfl) (by decide) (fun K hK => ?_)
          refine goes_ Try.func17 (by kernel_rfl) rfl #[.agg mm9q26_, .agg #[.string t236, .string t237, .int .i64 t238, .slice Ao170 t239.length co170]] (by rfl) rfl rfl (by mm9q4_) ?_
          with_reducible refine (laws_eqParcel.calls k t221 t222 t223 _ _ t224 t236 t237 t238 _ _ t239 false _ ?side1 ?side2 ?side3 ?side4 A57.out).mono ?_
          (mm9q52_)
          (mm9q56_)
          (mm9q53_)
          (case side4 => exact (Kd.S_reads' HO241.out).2.1)
          rintro e w_ ⟨rfl, hb⟩
          refine ⟨_, rfl, ?_⟩
          have n0_ := Aside0.mk (Kd.S_below (by (mm9q1_); exact HO213.out) hb)
          have n1_ := Aside0.mk (Kd.S_below (by (mm9q1_); exact HO219.out) hb)
          have n2_ := Aside0.mk (Kd.S_below (by (mm9q1_); exact HO226.out) hb)
          have n3_ := Aside0.mk (Kd.S_below (by (mm9q1_); exact HO233.out) hb)
          have n4_ := Aside0.mk (Kd.S_below (by (mm9q1_); exact HO241.out) hb)
          have n5_ := Aside0.mk (blk_below (g := gb204) (o := .cells mm9q3_ 35 (0, 0)) (by (mm9q0_); exact BK204.out) hb)
          have n6_ := Aside0.mk (blk_below (g := gb205) (o := .cells mm9q5_ 35 (0, 0)) (by (mm9q0_); exact BK205.out) hb)
          have n7_ := Aside0.mk (blk_below (g := gb227) (o := .cells mm9q26_ 40 (0, 0)) (by (mm9q0_); exact BK227.out) hb)
          have n8_ := Aside0.mk (blk_below (g := gb234) (o := .cells mm9q57_ 40 (0, 0)) (by (mm9q0_); exact BK234.out) hb)
          have n9_ := Aside0.mk (below_step (by repeat (mm9q6_)) hb)
          clear HO213
          clear HO219
          clear HO226
          clear HO233
          clear HO241
          clear BK204
          clear BK205
          clear BK227
          clear BK234
          clear HB
          have HO213 := n0_
          have HO219 := n1_
          have HO226 := n2_
          have HO233 := n3_
          have HO241 := n4_
          have BK204 := n5_
          have BK205 := n6_
          have BK227 := n7_
          have BK234 := n8_
          have HB := n9_
          clear n0_ n1_ n2_ n3_ n4_ n5_ n6_ n7_ n8_ n9_
          (try clear hb)
          (try clear hb2)
          (try clear hk)
          (try clear hi)
          refine hK.out _ _ ⟨(blk_cell BK227.out 0).trans rfl, (blk_cell BK227.out 1).trans rfl, (blk_cell BK227.out 2).trans rfl, (blk_cell BK227.out 3).trans rfl, (blk_cell BK204.out 0).trans rfl, (blk_cell BK204.out 1).trans rfl, (blk_cell BK204.out 2).trans rfl, (blk_cell BK204.out 3).trans rfl⟩ (fun hHeld => ?_)
          clear hK K
          refine norm_ (a' := ?_) ?_ ?_
          rotate_left
          · show Act.put _ (some 38) _ = _
            simp only [Act.put, List.setIfInBounds_toArray, List.set_cons_zero, List.set_cons_succ, i64_w, i32_w]
            rfl
          refine pure_ (i := 4) (N := some 39) (v := ?_) (a' := ?_) #[true, true, true, true, true] rfl rfl (by kernel_rfl) (fun _ _ _ h => h) (Or.inl ⟨by rfl, ?_⟩) ?_ ?_
          rotate_left
          · intro w'
            go_simp
            with_reducible rfl
          rotate_left
          · simp only [Act.put, List.setIfInBounds_toArray, List.set_cons_zero, List.set_cons_succ, i64_w, i32_w]
            rfl
          refine done_ (by kernel_rfl) ?_
          try go_wp2
          go_ret
          exact ⟨by first | rfl | (simp [errW_none, errW_some] <;> rfl) | (simp [*, errW_none, errW_some] <;> rfl), by repeat (mm9q6_)⟩

/-- THE ONE PURE STATEMENT of laws_FnExactParcelSame: yours. -/
def laws_FnExactParcelSame.Pure : Prop := ∀ (a0_0 : ByteArray) (a0_1 : ByteArray) (a0_2 : Int) (l0_3 : List (S25)) (a1_0 : ByteArray) (a1_1 : ByteArray) (a1_2 : Int) (l1_3 : List (S25)), (fun s_ : ByteArray => s_.size ≤ maxLen) a0_0 → (fun s_ : ByteArray => s_.size ≤ maxLen) a0_1 → (fun n_ : Int => (Lit.int .i64 n_).wf = true) a0_2 → (fun xs_ : List (S25) => xs_.length ≤ maxLen ∧ ∀ x_ ∈ xs_, q25 x_) l0_3 → (fun s_ : ByteArray => s_.size ≤ maxLen) a1_0 → (fun s_ : ByteArray => s_.size ≤ maxLen) a1_1 → (fun n_ : Int => (Lit.int .i64 n_).wf = true) a1_2 → (fun xs_ : List (S25) => xs_.length ≤ maxLen ∧ ∀ x_ ∈ xs_, q25 x_) l1_3 → ∃ k, laws_FnExactParcelSame.f k a0_0 a0_1 a0_2 l0_3 a1_0 a1_1 a1_2 l1_3 = some true

end Go.Proofs.Ytlghcbmkhdibdaa.PFnExactParcelSame
