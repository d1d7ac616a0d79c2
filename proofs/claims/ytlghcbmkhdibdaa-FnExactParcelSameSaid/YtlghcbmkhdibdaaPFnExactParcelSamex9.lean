-- printed by a program of this session (wip/xp/xprint.py) out of the translation; Lean checks it
import Derived.Test.YtlghcbmkhdibdaaPFnExactParcelSamex0
import Derived.Test.YtlghcbmkhdibdaaPFnExactParcelSamex2
import Derived.Test.YtlghcbmkhdibdaaPFnExactParcelSamex4
import Derived.Test.YtlghcbmkhdibdaaPFnExactParcelSamex5
import Derived.Test.YtlghcbmkhdibdaaPFnExactParcelSamex6
import Derived.Test.YtlghcbmkhdibdaaPFnExactParcelSamex8
namespace Go.Proofs.Ytlghcbmkhdibdaa.PFnExactParcelSame
open Go.RowKit Go.Proofs.YtlghcbmkhdibdaaW.PrintWords Go.Proofs.YtlghcbmkhdibdaaW.PrintLast Go.Proofs.YtlghcbmkhdibdaaW.PrintMore
attribute [local go_sem] max2_int min2_int max_two min_two max_three min_three max_four min_four   -- for this text's walks alone
set_option linter.unusedVariables false
set_option linter.unusedSimpArgs false

theorem au9_0 {p : Prop} (h : p := by (with_reducible repeat (first | apply Kd.S_alloc | apply Kd.S_drewN | apply Kd.S_drew)); exact HO213.out) : p := h
theorem au9_1 {p : Prop} (h : p := by (with_reducible repeat (first | apply Kd.S_alloc | apply Kd.S_drewN | apply Kd.S_drew)); exact HO219.out) : p := h
theorem au9_2 {p : Prop} (h : p := by (with_reducible repeat (first | refine blk_drewN ?_ _ | refine blk_drew ?_ | refine blk_alloc ?_ _)); refine blk_put (cs := #[.string t221, .string t222, .int .i64 t223, .slice none 0 0]) ?_ 3 _ rfl; (with_reducible repeat (first | refine blk_drewN ?_ _ | refine blk_drew ?_ | refine blk_alloc ?_ _)); refine blk_put (cs := #[.string t221, .string t222, .int .i64 0, .slice none 0 0]) ?_ 2 _ rfl; (with_reducible repeat (first | refine blk_drewN ?_ _ | refine blk_drew ?_ | refine blk_alloc ?_ _)); refine blk_put (cs := #[.string t221, .string (⟨#[]⟩ : ByteArray), .int .i64 0, .slice none 0 0]) ?_ 1 _ rfl; (with_reducible repeat (first | refine blk_drewN ?_ _ | refine blk_drew ?_ | refine blk_alloc ?_ _)); refine blk_put (cs := #[.string (⟨#[]⟩ : ByteArray), .string (⟨#[]⟩ : ByteArray), .int .i64 0, .slice none 0 0]) ?_ 0 _ rfl; (with_reducible repeat (first | refine blk_drewN ?_ _ | refine blk_drew ?_ | refine blk_alloc ?_ _)); exact BK227.out) : p := h
theorem au9_3 {p : Prop} (h : p := by (with_reducible repeat (first | refine blk_drewN ?_ _ | refine blk_drew ?_ | refine blk_alloc ?_ _)); refine blk_put (cs := #[.string t228, .string t229, .int .i64 t230, .slice none 0 0]) ?_ 3 _ rfl; (with_reducible repeat (first | refine blk_drewN ?_ _ | refine blk_drew ?_ | refine blk_alloc ?_ _)); refine blk_put (cs := #[.string t228, .string t229, .int .i64 0, .slice none 0 0]) ?_ 2 _ rfl; (with_reducible repeat (first | refine blk_drewN ?_ _ | refine blk_drew ?_ | refine blk_alloc ?_ _)); refine blk_put (cs := #[.string t228, .string (⟨#[]⟩ : ByteArray), .int .i64 0, .slice none 0 0]) ?_ 1 _ rfl; (with_reducible repeat (first | refine blk_drewN ?_ _ | refine blk_drew ?_ | refine blk_alloc ?_ _)); refine blk_put (cs := #[.string (⟨#[]⟩ : ByteArray), .string (⟨#[]⟩ : ByteArray), .int .i64 0, .slice none 0 0]) ?_ 0 _ rfl; (with_reducible repeat (first | refine blk_drewN ?_ _ | refine blk_drew ?_ | refine blk_alloc ?_ _)); exact BK234.out) : p := h
theorem au9_4 {p : Prop} (h : p := by repeat (first | exact (Kd.C_below HR0_3.out HB.out) | (with_reducible refine Kd.C_alloc ?_ _) | (with_reducible refine Kd.C_drewN ?_ _) | (with_reducible refine Kd.C_drew ?_))) : p := h
theorem au9_5 {p : Prop} (h : p := by (with_reducible repeat (first | apply Kd.S_alloc | apply Kd.S_drewN | apply Kd.S_drew)); exact HO226.out) : p := h
theorem au9_6 {p : Prop} (h : p := by (with_reducible repeat (first | refine blk_drewN ?_ _ | refine blk_drew ?_ | refine blk_alloc ?_ _)); refine blk_far ?_ NB204_227.out _; (with_reducible repeat (first | refine blk_drewN ?_ _ | refine blk_drew ?_ | refine blk_alloc ?_ _)); refine blk_far ?_ NB204_227.out _; (with_reducible repeat (first | refine blk_drewN ?_ _ | refine blk_drew ?_ | refine blk_alloc ?_ _)); refine blk_far ?_ NB204_227.out _; (with_reducible repeat (first | refine blk_drewN ?_ _ | refine blk_drew ?_ | refine blk_alloc ?_ _)); refine blk_far ?_ NB204_227.out _; (with_reducible repeat (first | refine blk_drewN ?_ _ | refine blk_drew ?_ | refine blk_alloc ?_ _)); exact BK204.out) : p := h
theorem au9_7 {p : Prop} (h : p := by (with_reducible repeat (first | refine blk_drewN ?_ _ | refine blk_drew ?_ | refine blk_alloc ?_ _)); refine blk_far ?_ NB205_227.out _; (with_reducible repeat (first | refine blk_drewN ?_ _ | refine blk_drew ?_ | refine blk_alloc ?_ _)); refine blk_far ?_ NB205_227.out _; (with_reducible repeat (first | refine blk_drewN ?_ _ | refine blk_drew ?_ | refine blk_alloc ?_ _)); refine blk_far ?_ NB205_227.out _; (with_reducible repeat (first | refine blk_drewN ?_ _ | refine blk_drew ?_ | refine blk_alloc ?_ _)); refine blk_far ?_ NB205_227.out _; (with_reducible repeat (first | refine blk_drewN ?_ _ | refine blk_drew ?_ | refine blk_alloc ?_ _)); exact BK205.out) : p := h
theorem au9_8 {p : Prop} (h : p := by (with_reducible repeat (first | refine blk_drewN ?_ _ | refine blk_drew ?_ | refine blk_alloc ?_ _)); refine blk_far ?_ NB204_234.out _; (with_reducible repeat (first | refine blk_drewN ?_ _ | refine blk_drew ?_ | refine blk_alloc ?_ _)); refine blk_far ?_ NB204_234.out _; (with_reducible repeat (first | refine blk_drewN ?_ _ | refine blk_drew ?_ | refine blk_alloc ?_ _)); refine blk_far ?_ NB204_234.out _; (with_reducible repeat (first | refine blk_drewN ?_ _ | refine blk_drew ?_ | refine blk_alloc ?_ _)); refine blk_far ?_ NB204_234.out _; (with_reducible repeat (first | refine blk_drewN ?_ _ | refine blk_drew ?_ | refine blk_alloc ?_ _)); exact BK204.out) : p := h
theorem au9_9 {p : Prop} (h : p := by (with_reducible repeat (first | refine blk_drewN ?_ _ | refine blk_drew ?_ | refine blk_alloc ?_ _)); refine blk_far ?_ NB205_234.out _; (with_reducible repeat (first | refine blk_drewN ?_ _ | refine blk_drew ?_ | refine blk_alloc ?_ _)); refine blk_far ?_ NB205_234.out _; (with_reducible repeat (first | refine blk_drewN ?_ _ | refine blk_drew ?_ | refine blk_alloc ?_ _)); refine blk_far ?_ NB205_234.out _; (with_reducible repeat (first | refine blk_drewN ?_ _ | refine blk_drew ?_ | refine blk_alloc ?_ _)); refine blk_far ?_ NB205_234.out _; (with_reducible repeat (first | refine blk_drewN ?_ _ | refine blk_drew ?_ | refine blk_alloc ?_ _)); exact BK205.out) : p := h
theorem au9_10 {p : Prop} (h : p := by (with_reducible repeat (first | refine blk_drewN ?_ _ | refine blk_drew ?_ | refine blk_alloc ?_ _)); refine blk_far ?_ NB227_234.out _; (with_reducible repeat (first | refine blk_drewN ?_ _ | refine blk_drew ?_ | refine blk_alloc ?_ _)); refine blk_far ?_ NB227_234.out _; (with_reducible repeat (first | refine blk_drewN ?_ _ | refine blk_drew ?_ | refine blk_alloc ?_ _)); refine blk_far ?_ NB227_234.out _; (with_reducible repeat (first | refine blk_drewN ?_ _ | refine blk_drew ?_ | refine blk_alloc ?_ _)); refine blk_far ?_ NB227_234.out _; (with_reducible repeat (first | refine blk_drewN ?_ _ | refine blk_drew ?_ | refine blk_alloc ?_ _)); exact BK227.out) : p := h
theorem au9_11 {p : Prop} (h : p := by (with_reducible repeat (first | apply Kd.S_alloc | apply Kd.S_drewN | apply Kd.S_drew)); exact HO233.out) : p := h
theorem au9_12 {p : Prop} (h : p := by repeat (first | exact (Kd.C_below HR1_3.out HB.out) | (with_reducible refine Kd.C_alloc ?_ _) | (with_reducible refine Kd.C_drewN ?_ _) | (with_reducible refine Kd.C_drew ?_))) : p := h
theorem au9_13 {p : Prop} (h : p := by (with_reducible repeat (first | apply Kd.S_alloc | apply Kd.S_drewN | apply Kd.S_drew)); exact HO241.out) : p := h
theorem au9_14 {p : Prop} (h : p := by repeat (first | exact (Kd.S_reads' HO213.out).2.2 | (with_reducible refine Kd.C_alloc ?_ _) | (with_reducible refine Kd.C_drewN ?_ _) | (with_reducible refine Kd.C_drew ?_))) : p := h
theorem au9_15 {p : Prop} (h : p := by repeat (first | exact (Kd.S_reads' HO219.out).2.2 | (with_reducible refine Kd.C_alloc ?_ _) | (with_reducible refine Kd.C_drewN ?_ _) | (with_reducible refine Kd.C_drew ?_))) : p := h
theorem au9_16 {p : Prop} (h : p := by (with_reducible repeat (first | apply Kd.S_alloc | apply Kd.S_drewN | apply Kd.S_drew)); exact (Kd.S_mono (Kd.S_far (p := ⟨gb227, 3, none⟩) (Kd.S_far (p := ⟨gb227, 2, none⟩) (Kd.S_far (p := ⟨gb227, 1, none⟩) (Kd.S_far (p := ⟨gb227, 0, none⟩) (Kd.S_types HO213.out BK227.out (by decide)) (fun _ hk => hk.2) (.string t221)) (fun _ hk => hk.2) (.string t222)) (fun _ hk => hk.2) (.int .i64 t223)) (fun _ hk => hk.2) (.slice Ao119 t224.length co119)) (fun _ h_ => h_.1))) : p := h
theorem au9_17 {p : Prop} (h : p := by (with_reducible repeat (first | apply Kd.S_alloc | apply Kd.S_drewN | apply Kd.S_drew)); exact (Kd.S_mono (Kd.S_far (p := ⟨gb227, 3, none⟩) (Kd.S_far (p := ⟨gb227, 2, none⟩) (Kd.S_far (p := ⟨gb227, 1, none⟩) (Kd.S_far (p := ⟨gb227, 0, none⟩) (Kd.S_types HO219.out BK227.out (by decide)) (fun _ hk => hk.2) (.string t221)) (fun _ hk => hk.2) (.string t222)) (fun _ hk => hk.2) (.int .i64 t223)) (fun _ hk => hk.2) (.slice Ao119 t224.length co119)) (fun _ h_ => h_.1))) : p := h
theorem au9_18 {p : Prop} (h : p := by (with_reducible repeat (first | apply Kd.S_alloc | apply Kd.S_drewN | apply Kd.S_drew)); exact (Kd.S_mono (Kd.S_far (p := ⟨gb227, 3, none⟩) (Kd.S_far (p := ⟨gb227, 2, none⟩) (Kd.S_far (p := ⟨gb227, 1, none⟩) (Kd.S_far (p := ⟨gb227, 0, none⟩) (Kd.S_types HO226.out BK227.out (by decide)) (fun _ hk => hk.2) (.string t221)) (fun _ hk => hk.2) (.string t222)) (fun _ hk => hk.2) (.int .i64 t223)) (fun _ hk => hk.2) (.slice Ao119 t224.length co119)) (fun _ h_ => h_.1))) : p := h
theorem au9_19 {p : Prop} (h : p := by (with_reducible repeat (first | apply Kd.S_alloc | apply Kd.S_drewN | apply Kd.S_drew)); exact (Kd.S_mono (Kd.S_far (p := ⟨gb234, 3, none⟩) (Kd.S_far (p := ⟨gb234, 2, none⟩) (Kd.S_far (p := ⟨gb234, 1, none⟩) (Kd.S_far (p := ⟨gb234, 0, none⟩) (Kd.S_types HO226.out BK234.out (by decide)) (fun _ hk => hk.2) (.string t228)) (fun _ hk => hk.2) (.string t229)) (fun _ hk => hk.2) (.int .i64 t230)) (fun _ hk => hk.2) (.slice Ao127 t231.length co127)) (fun _ h_ => h_.1))) : p := h
theorem au9_20 {p : Prop} (h : p := by (with_reducible repeat (first | apply Kd.S_alloc | apply Kd.S_drewN | apply Kd.S_drew)); exact (Kd.S_mono (Kd.S_far (p := ⟨gb234, 3, none⟩) (Kd.S_far (p := ⟨gb234, 2, none⟩) (Kd.S_far (p := ⟨gb234, 1, none⟩) (Kd.S_far (p := ⟨gb234, 0, none⟩) (Kd.S_types HO233.out BK234.out (by decide)) (fun _ hk => hk.2) (.string t228)) (fun _ hk => hk.2) (.string t229)) (fun _ hk => hk.2) (.int .i64 t230)) (fun _ hk => hk.2) (.slice Ao127 t231.length co127)) (fun _ h_ => h_.1))) : p := h
theorem au9_21 {p : Prop} (h : p := by (with_reducible repeat (first | apply Kd.S_alloc | apply Kd.S_drewN | apply Kd.S_drew)); exact (Kd.S_mono (Kd.S_far (p := ⟨gb227, 3, none⟩) (Kd.S_far (p := ⟨gb227, 2, none⟩) (Kd.S_far (p := ⟨gb227, 1, none⟩) (Kd.S_far (p := ⟨gb227, 0, none⟩) (Kd.S_types HO213.out BK227.out (by decide)) (fun _ hk => hk.2) (.string t221)) (fun _ hk => hk.2) (.string t222)) (fun _ hk => hk.2) (.int .i64 t223)) (fun _ hk => hk.2) (.slice Ao157 t224.length co157)) (fun _ h_ => h_.1))) : p := h
theorem au9_22 {p : Prop} (h : p := by (with_reducible repeat (first | apply Kd.S_alloc | apply Kd.S_drewN | apply Kd.S_drew)); exact (Kd.S_mono (Kd.S_far (p := ⟨gb227, 3, none⟩) (Kd.S_far (p := ⟨gb227, 2, none⟩) (Kd.S_far (p := ⟨gb227, 1, none⟩) (Kd.S_far (p := ⟨gb227, 0, none⟩) (Kd.S_types HO219.out BK227.out (by decide)) (fun _ hk => hk.2) (.string t221)) (fun _ hk => hk.2) (.string t222)) (fun _ hk => hk.2) (.int .i64 t223)) (fun _ hk => hk.2) (.slice Ao157 t224.length co157)) (fun _ h_ => h_.1))) : p := h
theorem au9_23 {p : Prop} (h : p := by (with_reducible repeat (first | apply Kd.S_alloc | apply Kd.S_drewN | apply Kd.S_drew)); exact (Kd.S_mono (Kd.S_far (p := ⟨gb227, 3, none⟩) (Kd.S_far (p := ⟨gb227, 2, none⟩) (Kd.S_far (p := ⟨gb227, 1, none⟩) (Kd.S_far (p := ⟨gb227, 0, none⟩) (Kd.S_types HO226.out BK227.out (by decide)) (fun _ hk => hk.2) (.string t221)) (fun _ hk => hk.2) (.string t222)) (fun _ hk => hk.2) (.int .i64 t223)) (fun _ hk => hk.2) (.slice Ao157 t224.length co157)) (fun _ h_ => h_.1))) : p := h
theorem au9_24 {p : Prop} (h : p := by (with_reducible repeat (first | apply Kd.S_alloc | apply Kd.S_drewN | apply Kd.S_drew)); exact (Kd.S_mono (Kd.S_far (p := ⟨gb234, 3, none⟩) (Kd.S_far (p := ⟨gb234, 2, none⟩) (Kd.S_far (p := ⟨gb234, 1, none⟩) (Kd.S_far (p := ⟨gb234, 0, none⟩) (Kd.S_types HO226.out BK234.out (by decide)) (fun _ hk => hk.2) (.string t228)) (fun _ hk => hk.2) (.string t229)) (fun _ hk => hk.2) (.int .i64 t230)) (fun _ hk => hk.2) (.slice Ao165 t231.length co165)) (fun _ h_ => h_.1))) : p := h
theorem au9_25 {p : Prop} (h : p := by (with_reducible repeat (first | apply Kd.S_alloc | apply Kd.S_drewN | apply Kd.S_drew)); exact (Kd.S_mono (Kd.S_far (p := ⟨gb234, 3, none⟩) (Kd.S_far (p := ⟨gb234, 2, none⟩) (Kd.S_far (p := ⟨gb234, 1, none⟩) (Kd.S_far (p := ⟨gb234, 0, none⟩) (Kd.S_types HO233.out BK234.out (by decide)) (fun _ hk => hk.2) (.string t228)) (fun _ hk => hk.2) (.string t229)) (fun _ hk => hk.2) (.int .i64 t230)) (fun _ hk => hk.2) (.slice Ao165 t231.length co165)) (fun _ h_ => h_.1))) : p := h
theorem au9_26 {p : Prop} (h : p := by (with_reducible repeat (first | apply Kd.S_alloc | apply Kd.S_drewN | apply Kd.S_drew)); exact (Kd.S_mono (Kd.S_far (p := ⟨gb227, 3, none⟩) (Kd.S_far (p := ⟨gb227, 2, none⟩) (Kd.S_far (p := ⟨gb227, 1, none⟩) (Kd.S_far (p := ⟨gb227, 0, none⟩) (Kd.S_types HO213.out BK227.out (by decide)) (fun _ hk => hk.2) (.string t221)) (fun _ hk => hk.2) (.string t222)) (fun _ hk => hk.2) (.int .i64 t223)) (fun _ hk => hk.2) (.slice Ao45 t224.length co45)) (fun _ h_ => h_.1))) : p := h
theorem au9_27 {p : Prop} (h : p := by (with_reducible repeat (first | apply Kd.S_alloc | apply Kd.S_drewN | apply Kd.S_drew)); exact (Kd.S_mono (Kd.S_far (p := ⟨gb227, 3, none⟩) (Kd.S_far (p := ⟨gb227, 2, none⟩) (Kd.S_far (p := ⟨gb227, 1, none⟩) (Kd.S_far (p := ⟨gb227, 0, none⟩) (Kd.S_types HO219.out BK227.out (by decide)) (fun _ hk => hk.2) (.string t221)) (fun _ hk => hk.2) (.string t222)) (fun _ hk => hk.2) (.int .i64 t223)) (fun _ hk => hk.2) (.slice Ao45 t224.length co45)) (fun _ h_ => h_.1))) : p := h
theorem au9_28 {p : Prop} (h : p := by (with_reducible repeat (first | apply Kd.S_alloc | apply Kd.S_drewN | apply Kd.S_drew)); exact (Kd.S_mono (Kd.S_far (p := ⟨gb227, 3, none⟩) (Kd.S_far (p := ⟨gb227, 2, none⟩) (Kd.S_far (p := ⟨gb227, 1, none⟩) (Kd.S_far (p := ⟨gb227, 0, none⟩) (Kd.S_types HO226.out BK227.out (by decide)) (fun _ hk => hk.2) (.string t221)) (fun _ hk => hk.2) (.string t222)) (fun _ hk => hk.2) (.int .i64 t223)) (fun _ hk => hk.2) (.slice Ao45 t224.length co45)) (fun _ h_ => h_.1))) : p := h
theorem au9_29 {p : Prop} (h : p := by (with_reducible repeat (first | apply Kd.S_alloc | apply Kd.S_drewN | apply Kd.S_drew)); exact (Kd.S_mono (Kd.S_far (p := ⟨gb234, 3, none⟩) (Kd.S_far (p := ⟨gb234, 2, none⟩) (Kd.S_far (p := ⟨gb234, 1, none⟩) (Kd.S_far (p := ⟨gb234, 0, none⟩) (Kd.S_types HO226.out BK234.out (by decide)) (fun _ hk => hk.2) (.string t228)) (fun _ hk => hk.2) (.string t229)) (fun _ hk => hk.2) (.int .i64 t230)) (fun _ hk => hk.2) (.slice Ao53 t231.length co53)) (fun _ h_ => h_.1))) : p := h
theorem au9_30 {p : Prop} (h : p := by (with_reducible repeat (first | apply Kd.S_alloc | apply Kd.S_drewN | apply Kd.S_drew)); exact (Kd.S_mono (Kd.S_far (p := ⟨gb234, 3, none⟩) (Kd.S_far (p := ⟨gb234, 2, none⟩) (Kd.S_far (p := ⟨gb234, 1, none⟩) (Kd.S_far (p := ⟨gb234, 0, none⟩) (Kd.S_types HO233.out BK234.out (by decide)) (fun _ hk => hk.2) (.string t228)) (fun _ hk => hk.2) (.string t229)) (fun _ hk => hk.2) (.int .i64 t230)) (fun _ hk => hk.2) (.slice Ao53 t231.length co53)) (fun _ h_ => h_.1))) : p := h
theorem au9_31 {p : Prop} (h : p := by (with_reducible repeat (first | apply Kd.S_alloc | apply Kd.S_drewN | apply Kd.S_drew)); exact (Kd.S_mono (Kd.S_far (p := ⟨gb227, 3, none⟩) (Kd.S_far (p := ⟨gb227, 2, none⟩) (Kd.S_far (p := ⟨gb227, 1, none⟩) (Kd.S_far (p := ⟨gb227, 0, none⟩) (Kd.S_types HO213.out BK227.out (by decide)) (fun _ hk => hk.2) (.string t221)) (fun _ hk => hk.2) (.string t222)) (fun _ hk => hk.2) (.int .i64 t223)) (fun _ hk => hk.2) (.slice Ao81 t224.length co81)) (fun _ h_ => h_.1))) : p := h
theorem au9_32 {p : Prop} (h : p := by (with_reducible repeat (first | apply Kd.S_alloc | apply Kd.S_drewN | apply Kd.S_drew)); exact (Kd.S_mono (Kd.S_far (p := ⟨gb227, 3, none⟩) (Kd.S_far (p := ⟨gb227, 2, none⟩) (Kd.S_far (p := ⟨gb227, 1, none⟩) (Kd.S_far (p := ⟨gb227, 0, none⟩) (Kd.S_types HO219.out BK227.out (by decide)) (fun _ hk => hk.2) (.string t221)) (fun _ hk => hk.2) (.string t222)) (fun _ hk => hk.2) (.int .i64 t223)) (fun _ hk => hk.2) (.slice Ao81 t224.length co81)) (fun _ h_ => h_.1))) : p := h
theorem au9_33 {p : Prop} (h : p := by (with_reducible repeat (first | apply Kd.S_alloc | apply Kd.S_drewN | apply Kd.S_drew)); exact (Kd.S_mono (Kd.S_far (p := ⟨gb227, 3, none⟩) (Kd.S_far (p := ⟨gb227, 2, none⟩) (Kd.S_far (p := ⟨gb227, 1, none⟩) (Kd.S_far (p := ⟨gb227, 0, none⟩) (Kd.S_types HO226.out BK227.out (by decide)) (fun _ hk => hk.2) (.string t221)) (fun _ hk => hk.2) (.string t222)) (fun _ hk => hk.2) (.int .i64 t223)) (fun _ hk => hk.2) (.slice Ao81 t224.length co81)) (fun _ h_ => h_.1))) : p := h
theorem au9_34 {p : Prop} (h : p := by (with_reducible repeat (first | apply Kd.S_alloc | apply Kd.S_drewN | apply Kd.S_drew)); exact (Kd.S_mono (Kd.S_far (p := ⟨gb234, 3, none⟩) (Kd.S_far (p := ⟨gb234, 2, none⟩) (Kd.S_far (p := ⟨gb234, 1, none⟩) (Kd.S_far (p := ⟨gb234, 0, none⟩) (Kd.S_types HO226.out BK234.out (by decide)) (fun _ hk => hk.2) (.string t228)) (fun _ hk => hk.2) (.string t229)) (fun _ hk => hk.2) (.int .i64 t230)) (fun _ hk => hk.2) (.slice Ao89 t231.length co89)) (fun _ h_ => h_.1))) : p := h
theorem au9_35 {p : Prop} (h : p := by (with_reducible repeat (first | apply Kd.S_alloc | apply Kd.S_drewN | apply Kd.S_drew)); exact (Kd.S_mono (Kd.S_far (p := ⟨gb234, 3, none⟩) (Kd.S_far (p := ⟨gb234, 2, none⟩) (Kd.S_far (p := ⟨gb234, 1, none⟩) (Kd.S_far (p := ⟨gb234, 0, none⟩) (Kd.S_types HO233.out BK234.out (by decide)) (fun _ hk => hk.2) (.string t228)) (fun _ hk => hk.2) (.string t229)) (fun _ hk => hk.2) (.int .i64 t230)) (fun _ hk => hk.2) (.slice Ao89 t231.length co89)) (fun _ h_ => h_.1))) : p := h
theorem au9_36 {p : Prop} (h : p := by first | rfl | (simp [errW_none, errW_some] <;> rfl) | (simp [*, errW_none, errW_some] <;> rfl)) : p := h
theorem au9_37 {p : Prop} (h : p := by repeat (first | exact (Kd.S_reads' HO226.out).2.2 | (with_reducible refine Kd.C_alloc ?_ _) | (with_reducible refine Kd.C_drewN ?_ _) | (with_reducible refine Kd.C_drew ?_))) : p := h
theorem au9_38 {p : Prop} (h : p := by repeat (first | exact (Kd.S_reads' HO241.out).2.2 | (with_reducible refine Kd.C_alloc ?_ _) | (with_reducible refine Kd.C_drewN ?_ _) | (with_reducible refine Kd.C_drew ?_))) : p := h
theorem au9_39 {p : Prop} (h : p := by repeat (first | exact (Kd.S_reads' HO233.out).2.2 | (with_reducible refine Kd.C_alloc ?_ _) | (with_reducible refine Kd.C_drewN ?_ _) | (with_reducible refine Kd.C_drew ?_))) : p := h
theorem au9_40 {p : Prop} (h : p := by repeat (first | exact (Kd.S_reads' HO248.out).2.2 | (with_reducible refine Kd.C_alloc ?_ _) | (with_reducible refine Kd.C_drewN ?_ _) | (with_reducible refine Kd.C_drew ?_))) : p := h
theorem au9_41 {p : Prop} (h : p := by exact (Kd.S_reads' HO226.out).2.1) : p := h
theorem au9_42 {p : Prop} (h : p := by exact (Kd.S_reads' HO233.out).2.1) : p := h
theorem au9_43 {p : Prop} (h : p := by (with_reducible repeat (first | apply Kd.S_alloc | apply Kd.S_drewN | apply Kd.S_drew)); exact HO248.out) : p := h
theorem au9_44 {p : Prop} (h : p := by exact (Kd.S_reads' HO213.out).2.1) : p := h
theorem au9_45 {p : Prop} (h : p := by exact (Kd.S_reads' HO219.out).2.1) : p := h
theorem au9_46 {p : Prop} (h : p := by exact Kd.C_below HR1_3.out bl_) : p := h

/-! ### laws_FnExactParcelSame: function 4 -/
def laws_FnExactParcelSame.f (k : Nat) (a0_0 : ByteArray) (a0_1 : ByteArray) (a0_2 : Int) (l0_3 : List (S25)) (a1_0 : ByteArray) (a1_1 : ByteArray) (a1_2 : Int) (l1_3 : List (S25)) : Option (Bool) := (laws_szParcel.f k a0_0 a0_1 a0_2 l0_3 1048576).bind fun t206 => (if t206 < 0 then (some true) else ((laws_szParcel.f k a1_0 a1_1 a1_2 l1_3 t206).bind fun t207 => (if t207 < 0 then (some true) else ((laws_toParcel.f k a0_0 a0_1 a0_2 l0_3).bind fun bt208 => ((laws_toParcel.f k a1_0 a1_1 a1_2 l1_3).bind fun bt214 => ((spec_ParcelSame.f k bt208.1 bt208.2.1 bt208.2.2.1 bt208.2.2.2 bt214.1 bt214.2.1 bt214.2.2.1 bt214.2.2.2).bind fun t220 => ((laws_toParcel.f k a0_0 a0_1 a0_2 l0_3).bind fun bt221 => ((laws_toParcel.f k a1_0 a1_1 a1_2 l1_3).bind fun bt228 => ((impl_ParcelSame.f k bt221.1 bt221.2.1 bt221.2.2.1 bt221.2.2.2 bt228.1 bt228.2.1 bt228.2.2.1 bt228.2.2.2).bind fun t235 => (if (t235 != t220) = true then (some false) else ((laws_toParcel.f k a0_0 a0_1 a0_2 l0_3).bind fun bt236 => ((laws_eqParcel.f k bt221.1 bt221.2.1 bt221.2.2.1 bt221.2.2.2 bt236.1 bt236.2.1 bt236.2.2.1 bt236.2.2.2).bind fun t242 => (if t242 = true then ((laws_toParcel.f k a1_0 a1_1 a1_2 l1_3).bind fun bt243 => ((laws_eqParcel.f k bt228.1 bt228.2.1 bt228.2.2.1 bt228.2.2.2 bt243.1 bt243.2.1 bt243.2.2.1 bt243.2.2.2).bind fun t249 => (if t249 = true then (some true) else (some false)))) else (some false))))))))))))))
theorem laws_FnExactParcelSame.mono : ∀ a0 a1 a2 a3 a4 a5 a6 a7 k, LeO (laws_FnExactParcelSame.f k a0 a1 a2 a3 a4 a5 a6 a7) (laws_FnExactParcelSame.f (k + 1) a0 a1 a2 a3 a4 a5 a6 a7) := by
  intro a0 a1 a2 a3 a4 a5 a6 a7 k
  unfold laws_FnExactParcelSame.f
  repeat' first
      | (with_reducible exact impl_ParcelSame.mono _ _ _ _ _ _ _ _ _)
      | (with_reducible exact laws_eqParcel.mono _ _ _ _ _ _ _ _ _)
      | (with_reducible exact laws_szParcel.mono _ _ _ _ _ _)
      | (with_reducible exact laws_toParcel.mono _ _ _ _ _)
      | (with_reducible exact spec_ParcelSame.mono _ _ _ _ _ _ _ _ _)
      | (with_reducible exact LeO.refl _)
      | (with_reducible exact LeO.none _)
      | (with_reducible refine LeO.ite ?_ ?_)
      | (with_reducible refine LeO.bind ?_ (fun _ => ?_))
      | exact impl_ParcelSame.mono _ _ _ _ _ _ _ _ _
      | exact laws_eqParcel.mono _ _ _ _ _ _ _ _ _
      | exact laws_szParcel.mono _ _ _ _ _ _
      | exact laws_toParcel.mono _ _ _ _ _
      | exact spec_ParcelSame.mono _ _ _ _ _ _ _ _ _
      | exact LeO.none _
      | refine LeO.ite ?_ ?_
      | refine LeO.bind ?_ (fun _ => ?_)
set_option maxHeartbeats 8000000 in
set_option maxRecDepth 100000 in
theorem laws_FnExactParcelSame.calls (k : Nat) (a0_0 : ByteArray) (a0_1 : ByteArray) (a0_2 : Int) (A0_3 : Option Addr) (c0_3 : Nat) (l0_3 : List (S25)) (a1_0 : ByteArray) (a1_1 : ByteArray) (a1_2 : Int) (A1_3 : Option Addr) (c1_3 : Nat) (l1_3 : List (S25)) (r : Bool) (w : World) (hr0_3 : Kd.C k25 w A0_3 l0_3.length l0_3) (hc0_3 : l0_3.length ≤ c0_3) (hr1_3 : Kd.C k25 w A1_3 l1_3.length l1_3) (hc1_3 : l1_3.length ≤ c1_3) (h : laws_FnExactParcelSame.f k a0_0 a0_1 a0_2 l0_3 a1_0 a1_1 a1_2 l1_3 = some r) :
    Calls Try.prog 4 #[.agg #[.string a0_0, .string a0_1, .int .i64 a0_2, .slice A0_3 l0_3.length c0_3], .agg #[.string a1_0, .string a1_1, .int .i64 a1_2, .slice A1_3 l1_3.length c1_3]] w fun e w' => e = .returned (.bool r) ∧ Below w.heap.size w w' := by
  have hu35 := Try.underlying35
  have hu40 := Try.underlying40
  have HR0_3 := Aside0.mk hr0_3
  have HC0_3 := Aside0.mk hc0_3
  clear hr0_3 hc0_3
  have HR1_3 := Aside0.mk hr1_3
  have HC1_3 := Aside0.mk hc1_3
  clear hr1_3 hc1_3
  have HB := Aside0.mk (Below.refl w.heap.size w)
  have H : ((laws_szParcel.f k a0_0 a0_1 a0_2 l0_3 1048576).bind fun t206 => (if t206 < 0 then (some true) else ((laws_szParcel.f k a1_0 a1_1 a1_2 l1_3 t206).bind fun t207 => (if t207 < 0 then (some true) else ((laws_toParcel.f k a0_0 a0_1 a0_2 l0_3).bind fun bt208 => ((laws_toParcel.f k a1_0 a1_1 a1_2 l1_3).bind fun bt214 => ((spec_ParcelSame.f k bt208.1 bt208.2.1 bt208.2.2.1 bt208.2.2.2 bt214.1 bt214.2.1 bt214.2.2.1 bt214.2.2.2).bind fun t220 => ((laws_toParcel.f k a0_0 a0_1 a0_2 l0_3).bind fun bt221 => ((laws_toParcel.f k a1_0 a1_1 a1_2 l1_3).bind fun bt228 => ((impl_ParcelSame.f k bt221.1 bt221.2.1 bt221.2.2.1 bt221.2.2.2 bt228.1 bt228.2.1 bt228.2.2.1 bt228.2.2.2).bind fun t235 => (if (t235 != t220) = true then (some false) else ((laws_toParcel.f k a0_0 a0_1 a0_2 l0_3).bind fun bt236 => ((laws_eqParcel.f k bt221.1 bt221.2.1 bt221.2.2.1 bt221.2.2.2 bt236.1 bt236.2.1 bt236.2.2.1 bt236.2.2.2).bind fun t242 => (if t242 = true then ((laws_toParcel.f k a1_0 a1_1 a1_2 l1_3).bind fun bt243 => ((laws_eqParcel.f k bt228.1 bt228.2.1 bt228.2.2.1 bt228.2.2.2 bt243.1 bt243.2.1 bt243.2.2.1 bt243.2.2.2).bind fun t249 => (if t249 = true then (some true) else (some false)))) else (some false))))))))))))))) = some r := h
  clear h
  replace H := Option.bind_eq_some_iff.mp H
  obtain ⟨t206, A30, H⟩ := H
  replace H : (if t206 < 0 then (some true) else ((laws_szParcel.f k a1_0 a1_1 a1_2 l1_3 t206).bind fun t207 => (if t207 < 0 then (some true) else ((laws_toParcel.f k a0_0 a0_1 a0_2 l0_3).bind fun bt208 => ((laws_toParcel.f k a1_0 a1_1 a1_2 l1_3).bind fun bt214 => ((spec_ParcelSame.f k bt208.1 bt208.2.1 bt208.2.2.1 bt208.2.2.2 bt214.1 bt214.2.1 bt214.2.2.1 bt214.2.2.2).bind fun t220 => ((laws_toParcel.f k a0_0 a0_1 a0_2 l0_3).bind fun bt221 => ((laws_toParcel.f k a1_0 a1_1 a1_2 l1_3).bind fun bt228 => ((impl_ParcelSame.f k bt221.1 bt221.2.1 bt221.2.2.1 bt221.2.2.2 bt228.1 bt228.2.1 bt228.2.2.1 bt228.2.2.2).bind fun t235 => (if (t235 != t220) = true then (some false) else ((laws_toParcel.f k a0_0 a0_1 a0_2 l0_3).bind fun bt236 => ((laws_eqParcel.f k bt221.1 bt221.2.1 bt221.2.2.1 bt221.2.2.2 bt236.1 bt236.2.1 bt236.2.2.1 bt236.2.2.2).bind fun t242 => (if t242 = true then ((laws_toParcel.f k a1_0 a1_1 a1_2 l1_3).bind fun bt243 => ((laws_eqParcel.f k bt228.1 bt228.2.1 bt228.2.2.1 bt228.2.2.2 bt243.1 bt243.2.1 bt243.2.2.1 bt243.2.2.2).bind fun t249 => (if t249 = true then (some true) else (some false)))) else (some false)))))))))))))) = some r := H
  have A3 := Aside0.mk A30
  clear A30
  by_cases c4 : t206 < 0
  · rw [if_pos c4] at H
    have c4b0 : decide (t206 < 0) = true := decide_eq_true c4
    clear c4
    obtain rfl := Option.some.inj H
    go_enter Try.func4, Try.ntmps4
    go_wp2_with (first | ((with_reducible refine gate_dst (N := 2) rfl ?_); refine box_event ?hg (N := 2) ?hd (cs := #[.string a0_0, .string a0_1, .int .i64 a0_2, .slice A0_3 l0_3.length c0_3]) (t := 35) ?hr ?_; (case hd => rfl); (case hg => rfl); (case hr => exact hr_); intro gb204 hg w5 hbox hb; have n0_ := Aside0.mk (below_step bl_ hb); have n1_ := Aside0.mk (hbox); have n2_ := Aside0.mk (gw_ hg bl_); have n3_ := Aside0.mk (gw_ hg bl_); clear HB; have HB := n0_; have BK204 := n1_; have GW204 := n2_; have GE204 := n3_; clear n0_ n1_ n2_ n3_; clear hb hbox hg) | ((with_reducible refine gate_dst (N := 3) rfl ?_); refine box_event ?hg (N := 3) ?hd (cs := #[.string a1_0, .string a1_1, .int .i64 a1_2, .slice A1_3 l1_3.length c1_3]) (t := 35) ?hr ?_; (case hd => rfl); (case hg => rfl); (case hr => exact hr_); intro gb205 hg w6 hbox hb; have n0_ := Aside0.mk (blkb_ BK204 hb); have n1_ := Aside0.mk (below_step bl_ hb); have n2_ := Aside0.mk (hbox); have n3_ := Aside0.mk (gw_ hg bl_); have n4_ := Aside0.mk (gw_ hg bl_); have n5_ := Aside0.mk (gn_ hg (blkl_ BK204)); have n6_ := Aside0.mk (gm_ hg (blkl_ BK204)); clear BK204; clear HB; have BK204 := n0_; have HB := n1_; have BK205 := n2_; have GW205 := n3_; have GE205 := n4_; have NB204_205 := n5_; have NB205_204 := n6_; clear n0_ n1_ n2_ n3_ n4_ n5_ n6_; clear hb hbox hg; have hnb7 := NB204_205.out; have hnc7 := NB205_204.out; obtain ⟨hcz8_0, hcz8_1, hcz8_2, hcz8_3, hfz8_0, hfz8_1, hfz8_2, hfz8_3⟩ := cellsF4 BK204.out) | ((with_reducible refine gate_callee (f := 13) rfl ?_); refine gl_ 12 Try.func13 #[.agg #[.string a0_0, .string a0_1, .int .i64 a0_2, .slice A0_3 l0_3.length c0_3], .int .i64 1048576] ?_ rfl rfl rfl rfl; (with_reducible refine (laws_szParcel.calls k a0_0 a0_1 a0_2 _ _ l0_3 1048576 t206 _ ?side1 ?side2 A3.out).mono ?_); (case side1 => exact au9_4); (case side2 => exact HC0_3.out); rintro e w9 ⟨rfl, hb⟩; refine ⟨_, rfl, ?_⟩; have n0_ := Aside0.mk (blkb_ BK204 hb); have n1_ := Aside0.mk (blkb_ BK205 hb); have n2_ := Aside0.mk (below_step bl_ hb); clear BK204; clear BK205; clear HB; have BK204 := n0_; have BK205 := n1_; have HB := n2_; clear n0_ n1_ n2_; (try clear hb); (try clear hb2); (try clear hk); (try clear hi)))
    go_ret
    exact ⟨au9_36, bl_⟩
  · rw [if_neg c4] at H
    have c4b0 : decide (t206 < 0) = false := decide_eq_false c4
    clear c4
    replace H := Option.bind_eq_some_iff.mp H
    obtain ⟨t207, A100, H⟩ := H
    replace H : (if t207 < 0 then (some true) else ((laws_toParcel.f k a0_0 a0_1 a0_2 l0_3).bind fun bt208 => ((laws_toParcel.f k a1_0 a1_1 a1_2 l1_3).bind fun bt214 => ((spec_ParcelSame.f k bt208.1 bt208.2.1 bt208.2.2.1 bt208.2.2.2 bt214.1 bt214.2.1 bt214.2.2.1 bt214.2.2.2).bind fun t220 => ((laws_toParcel.f k a0_0 a0_1 a0_2 l0_3).bind fun bt221 => ((laws_toParcel.f k a1_0 a1_1 a1_2 l1_3).bind fun bt228 => ((impl_ParcelSame.f k bt221.1 bt221.2.1 bt221.2.2.1 bt221.2.2.2 bt228.1 bt228.2.1 bt228.2.2.1 bt228.2.2.2).bind fun t235 => (if (t235 != t220) = true then (some false) else ((laws_toParcel.f k a0_0 a0_1 a0_2 l0_3).bind fun bt236 => ((laws_eqParcel.f k bt221.1 bt221.2.1 bt221.2.2.1 bt221.2.2.2 bt236.1 bt236.2.1 bt236.2.2.1 bt236.2.2.2).bind fun t242 => (if t242 = true then ((laws_toParcel.f k a1_0 a1_1 a1_2 l1_3).bind fun bt243 => ((laws_eqParcel.f k bt228.1 bt228.2.1 bt228.2.2.1 bt228.2.2.2 bt243.1 bt243.2.1 bt243.2.2.1 bt243.2.2.2).bind fun t249 => (if t249 = true then (some true) else (some false)))) else (some false)))))))))))) = some r := H
    have A10 := Aside0.mk A100
    clear A100
    by_cases c11 : t207 < 0
    · rw [if_pos c11] at H
      have c11b0 : decide (t207 < 0) = true := decide_eq_true c11
      clear c11
      obtain rfl := Option.some.inj H
      go_enter Try.func4, Try.ntmps4
      go_wp2_with (first | ((with_reducible refine gate_dst (N := 2) rfl ?_); refine box_event ?hg (N := 2) ?hd (cs := #[.string a0_0, .string a0_1, .int .i64 a0_2, .slice A0_3 l0_3.length c0_3]) (t := 35) ?hr ?_; (case hd => rfl); (case hg => rfl); (case hr => exact hr_); intro gb204 hg w12 hbox hb; have n0_ := Aside0.mk (below_step bl_ hb); have n1_ := Aside0.mk (hbox); have n2_ := Aside0.mk (gw_ hg bl_); have n3_ := Aside0.mk (gw_ hg bl_); clear HB; have HB := n0_; have BK204 := n1_; have GW204 := n2_; have GE204 := n3_; clear n0_ n1_ n2_ n3_; clear hb hbox hg) | ((with_reducible refine gate_dst (N := 3) rfl ?_); refine box_event ?hg (N := 3) ?hd (cs := #[.string a1_0, .string a1_1, .int .i64 a1_2, .slice A1_3 l1_3.length c1_3]) (t := 35) ?hr ?_; (case hd => rfl); (case hg => rfl); (case hr => exact hr_); intro gb205 hg w13 hbox hb; have n0_ := Aside0.mk (blkb_ BK204 hb); have n1_ := Aside0.mk (below_step bl_ hb); have n2_ := Aside0.mk (hbox); have n3_ := Aside0.mk (gw_ hg bl_); have n4_ := Aside0.mk (gw_ hg bl_); have n5_ := Aside0.mk (gn_ hg (blkl_ BK204)); have n6_ := Aside0.mk (gm_ hg (blkl_ BK204)); clear BK204; clear HB; have BK204 := n0_; have HB := n1_; have BK205 := n2_; have GW205 := n3_; have GE205 := n4_; have NB204_205 := n5_; have NB205_204 := n6_; clear n0_ n1_ n2_ n3_ n4_ n5_ n6_; clear hb hbox hg; have hnb14 := NB204_205.out; have hnc14 := NB205_204.out; obtain ⟨hcz15_0, hcz15_1, hcz15_2, hcz15_3, hfz15_0, hfz15_1, hfz15_2, hfz15_3⟩ := cellsF4 BK204.out) | ((with_reducible refine gate_callee (f := 13) rfl ?_); refine gl_ 12 Try.func13 #[.agg #[.string a0_0, .string a0_1, .int .i64 a0_2, .slice A0_3 l0_3.length c0_3], .int .i64 1048576] ?_ rfl rfl rfl rfl; (with_reducible refine (laws_szParcel.calls k a0_0 a0_1 a0_2 _ _ l0_3 1048576 t206 _ ?side1 ?side2 A3.out).mono ?_); (case side1 => exact au9_4); (case side2 => exact HC0_3.out); rintro e w16 ⟨rfl, hb⟩; refine ⟨_, rfl, ?_⟩; have n0_ := Aside0.mk (blkb_ BK204 hb); have n1_ := Aside0.mk (blkb_ BK205 hb); have n2_ := Aside0.mk (below_step bl_ hb); clear BK204; clear BK205; clear HB; have BK204 := n0_; have BK205 := n1_; have HB := n2_; clear n0_ n1_ n2_; (try clear hb); (try clear hb2); (try clear hk); (try clear hi); obtain ⟨hcz17_0, hcz17_1, hcz17_2, hcz17_3, hfz17_0, hfz17_1, hfz17_2, hfz17_3⟩ := cellsF4 BK205.out) | ((with_reducible refine gate_callee (f := 13) rfl ?_); refine gl_ 17 Try.func13 #[.agg #[.string a1_0, .string a1_1, .int .i64 a1_2, .slice A1_3 l1_3.length c1_3], .int .i64 t206] ?_ rfl rfl rfl rfl; (with_reducible refine (laws_szParcel.calls k a1_0 a1_1 a1_2 _ _ l1_3 t206 t207 _ ?side1 ?side2 A10.out).mono ?_); (case side1 => exact au9_12); (case side2 => exact HC1_3.out); rintro e w18 ⟨rfl, hb⟩; refine ⟨_, rfl, ?_⟩; have n0_ := Aside0.mk (blkb_ BK204 hb); have n1_ := Aside0.mk (blkb_ BK205 hb); have n2_ := Aside0.mk (below_step bl_ hb); clear BK204; clear BK205; clear HB; have BK204 := n0_; have BK205 := n1_; have HB := n2_; clear n0_ n1_ n2_; (try clear hb); (try clear hb2); (try clear hk); (try clear hi)))
      go_ret
      exact ⟨au9_36, bl_⟩
    · rw [if_neg c11] at H
      have c11b0 : decide (t207 < 0) = false := decide_eq_false c11
      clear c11
      replace H := Option.bind_eq_some_iff.mp H
      obtain ⟨⟨t208, t209, t210, t211⟩, A190, H⟩ := H
      replace H : ((laws_toParcel.f k a1_0 a1_1 a1_2 l1_3).bind fun bt214 => ((spec_ParcelSame.f k t208 t209 t210 t211 bt214.1 bt214.2.1 bt214.2.2.1 bt214.2.2.2).bind fun t220 => ((laws_toParcel.f k a0_0 a0_1 a0_2 l0_3).bind fun bt221 => ((laws_toParcel.f k a1_0 a1_1 a1_2 l1_3).bind fun bt228 => ((impl_ParcelSame.f k bt221.1 bt221.2.1 bt221.2.2.1 bt221.2.2.2 bt228.1 bt228.2.1 bt228.2.2.1 bt228.2.2.2).bind fun t235 => (if (t235 != t220) = true then (some false) else ((laws_toParcel.f k a0_0 a0_1 a0_2 l0_3).bind fun bt236 => ((laws_eqParcel.f k bt221.1 bt221.2.1 bt221.2.2.1 bt221.2.2.2 bt236.1 bt236.2.1 bt236.2.2.1 bt236.2.2.2).bind fun t242 => (if t242 = true then ((laws_toParcel.f k a1_0 a1_1 a1_2 l1_3).bind fun bt243 => ((laws_eqParcel.f k bt228.1 bt228.2.1 bt228.2.2.1 bt228.2.2.2 bt243.1 bt243.2.1 bt243.2.2.1 bt243.2.2.2).bind fun t249 => (if t249 = true then (some true) else (some false)))) else (some false)))))))))) = some r := H
      have A19 := Aside0.mk A190
      clear A190
      replace H := Option.bind_eq_some_iff.mp H
      obtain ⟨⟨t214, t215, t216, t217⟩, A200, H⟩ := H
      replace H : ((spec_ParcelSame.f k t208 t209 t210 t211 t214 t215 t216 t217).bind fun t220 => ((laws_toParcel.f k a0_0 a0_1 a0_2 l0_3).bind fun bt221 => ((laws_toParcel.f k a1_0 a1_1 a1_2 l1_3).bind fun bt228 => ((impl_ParcelSame.f k bt221.1 bt221.2.1 bt221.2.2.1 bt221.2.2.2 bt228.1 bt228.2.1 bt228.2.2.1 bt228.2.2.2).bind fun t235 => (if (t235 != t220) = true then (some false) else ((laws_toParcel.f k a0_0 a0_1 a0_2 l0_3).bind fun bt236 => ((laws_eqParcel.f k bt221.1 bt221.2.1 bt221.2.2.1 bt221.2.2.2 bt236.1 bt236.2.1 bt236.2.2.1 bt236.2.2.2).bind fun t242 => (if t242 = true then ((laws_toParcel.f k a1_0 a1_1 a1_2 l1_3).bind fun bt243 => ((laws_eqParcel.f k bt228.1 bt228.2.1 bt228.2.2.1 bt228.2.2.2 bt243.1 bt243.2.1 bt243.2.2.1 bt243.2.2.2).bind fun t249 => (if t249 = true then (some true) else (some false)))) else (some false))))))))) = some r := H
      have A20 := Aside0.mk A200
      clear A200
      replace H := Option.bind_eq_some_iff.mp H
      obtain ⟨t220, A210, H⟩ := H
      replace H : ((laws_toParcel.f k a0_0 a0_1 a0_2 l0_3).bind fun bt221 => ((laws_toParcel.f k a1_0 a1_1 a1_2 l1_3).bind fun bt228 => ((impl_ParcelSame.f k bt221.1 bt221.2.1 bt221.2.2.1 bt221.2.2.2 bt228.1 bt228.2.1 bt228.2.2.1 bt228.2.2.2).bind fun t235 => (if (t235 != t220) = true then (some false) else ((laws_toParcel.f k a0_0 a0_1 a0_2 l0_3).bind fun bt236 => ((laws_eqParcel.f k bt221.1 bt221.2.1 bt221.2.2.1 bt221.2.2.2 bt236.1 bt236.2.1 bt236.2.2.1 bt236.2.2.2).bind fun t242 => (if t242 = true then ((laws_toParcel.f k a1_0 a1_1 a1_2 l1_3).bind fun bt243 => ((laws_eqParcel.f k bt228.1 bt228.2.1 bt228.2.2.1 bt228.2.2.2 bt243.1 bt243.2.1 bt243.2.2.1 bt243.2.2.2).bind fun t249 => (if t249 = true then (some true) else (some false)))) else (some false)))))))) = some r := H
      have A21 := Aside0.mk A210
      clear A210
      replace H := Option.bind_eq_some_iff.mp H
      obtain ⟨⟨t221, t222, t223, t224⟩, A220, H⟩ := H
      replace H : ((laws_toParcel.f k a1_0 a1_1 a1_2 l1_3).bind fun bt228 => ((impl_ParcelSame.f k t221 t222 t223 t224 bt228.1 bt228.2.1 bt228.2.2.1 bt228.2.2.2).bind fun t235 => (if (t235 != t220) = true then (some false) else ((laws_toParcel.f k a0_0 a0_1 a0_2 l0_3).bind fun bt236 => ((laws_eqParcel.f k t221 t222 t223 t224 bt236.1 bt236.2.1 bt236.2.2.1 bt236.2.2.2).bind fun t242 => (if t242 = true then ((laws_toParcel.f k a1_0 a1_1 a1_2 l1_3).bind fun bt243 => ((laws_eqParcel.f k bt228.1 bt228.2.1 bt228.2.2.1 bt228.2.2.2 bt243.1 bt243.2.1 bt243.2.2.1 bt243.2.2.2).bind fun t249 => (if t249 = true then (some true) else (some false)))) else (some false))))))) = some r := H
      have A22 := Aside0.mk A220
      clear A220
      replace H := Option.bind_eq_some_iff.mp H
      obtain ⟨⟨t228, t229, t230, t231⟩, A230, H⟩ := H
      replace H : ((impl_ParcelSame.f k t221 t222 t223 t224 t228 t229 t230 t231).bind fun t235 => (if (t235 != t220) = true then (some false) else ((laws_toParcel.f k a0_0 a0_1 a0_2 l0_3).bind fun bt236 => ((laws_eqParcel.f k t221 t222 t223 t224 bt236.1 bt236.2.1 bt236.2.2.1 bt236.2.2.2).bind fun t242 => (if t242 = true then ((laws_toParcel.f k a1_0 a1_1 a1_2 l1_3).bind fun bt243 => ((laws_eqParcel.f k t228 t229 t230 t231 bt243.1 bt243.2.1 bt243.2.2.1 bt243.2.2.2).bind fun t249 => (if t249 = true then (some true) else (some false)))) else (some false)))))) = some r := H
      have A23 := Aside0.mk A230
      clear A230
      replace H := Option.bind_eq_some_iff.mp H
      obtain ⟨t235, A240, H⟩ := H
      replace H : (if (t235 != t220) = true then (some false) else ((laws_toParcel.f k a0_0 a0_1 a0_2 l0_3).bind fun bt236 => ((laws_eqParcel.f k t221 t222 t223 t224 bt236.1 bt236.2.1 bt236.2.2.1 bt236.2.2.2).bind fun t242 => (if t242 = true then ((laws_toParcel.f k a1_0 a1_1 a1_2 l1_3).bind fun bt243 => ((laws_eqParcel.f k t228 t229 t230 t231 bt243.1 bt243.2.1 bt243.2.2.1 bt243.2.2.2).bind fun t249 => (if t249 = true then (some true) else (some false)))) else (some false))))) = some r := H
      have A24 := Aside0.mk A240
      clear A240
      by_cases c25 : (t235 != t220) = true
      · rw [if_pos c25] at H
        have c25b0 : (t235 != t220) = true := c25
        (try (have c25b1 : decide (t235 = t220) = false := by simpa using c25))
        (try (have c25b2 : (t235 == t220) = false := by simpa using c25))
        (try (have c25b3 : ¬ (t235 = t220) := by simpa using c25))
        clear c25
        obtain rfl := Option.some.inj H
        go_enter Try.func4, Try.ntmps4
        try go_wp2_with (first | ((with_reducible refine gate_dst (N := 2) rfl ?_); refine box_event ?hg (N := 2) ?hd (cs := #[.string a0_0, .string a0_1, .int .i64 a0_2, .slice A0_3 l0_3.length c0_3]) (t := 35) ?hr ?_; (case hd => rfl); (case hg => rfl); (case hr => exact hr_); intro gb204 hg w26 hbox hb; have n0_ := Aside0.mk (below_step bl_ hb); have n1_ := Aside0.mk (hbox); have n2_ := Aside0.mk (gw_ hg bl_); have n3_ := Aside0.mk (gw_ hg bl_); clear HB; have HB := n0_; have BK204 := n1_; have GW204 := n2_; have GE204 := n3_; clear n0_ n1_ n2_ n3_; clear hb hbox hg) | ((with_reducible refine gate_dst (N := 3) rfl ?_); refine box_event ?hg (N := 3) ?hd (cs := #[.string a1_0, .string a1_1, .int .i64 a1_2, .slice A1_3 l1_3.length c1_3]) (t := 35) ?hr ?_; (case hd => rfl); (case hg => rfl); (case hr => exact hr_); intro gb205 hg w27 hbox hb; have n0_ := Aside0.mk (blkb_ BK204 hb); have n1_ := Aside0.mk (below_step bl_ hb); have n2_ := Aside0.mk (hbox); have n3_ := Aside0.mk (gw_ hg bl_); have n4_ := Aside0.mk (gw_ hg bl_); have n5_ := Aside0.mk (gn_ hg (blkl_ BK204)); have n6_ := Aside0.mk (gm_ hg (blkl_ BK204)); clear BK204; clear HB; have BK204 := n0_; have HB := n1_; have BK205 := n2_; have GW205 := n3_; have GE205 := n4_; have NB204_205 := n5_; have NB205_204 := n6_; clear n0_ n1_ n2_ n3_ n4_ n5_ n6_; clear hb hbox hg; have hnb28 := NB204_205.out; have hnc28 := NB205_204.out; obtain ⟨hcz29_0, hcz29_1, hcz29_2, hcz29_3, hfz29_0, hfz29_1, hfz29_2, hfz29_3⟩ := cellsF4 BK204.out) | ((with_reducible refine gate_callee (f := 13) rfl ?_); refine gl_ 12 Try.func13 #[.agg #[.string a0_0, .string a0_1, .int .i64 a0_2, .slice A0_3 l0_3.length c0_3], .int .i64 1048576] ?_ rfl rfl rfl rfl; (with_reducible refine (laws_szParcel.calls k a0_0 a0_1 a0_2 _ _ l0_3 1048576 t206 _ ?side1 ?side2 A3.out).mono ?_); (case side1 => exact au9_4); (case side2 => exact HC0_3.out); rintro e w30 ⟨rfl, hb⟩; refine ⟨_, rfl, ?_⟩; have n0_ := Aside0.mk (blkb_ BK204 hb); have n1_ := Aside0.mk (blkb_ BK205 hb); have n2_ := Aside0.mk (below_step bl_ hb); clear BK204; clear BK205; clear HB; have BK204 := n0_; have BK205 := n1_; have HB := n2_; clear n0_ n1_ n2_; (try clear hb); (try clear hb2); (try clear hk); (try clear hi); obtain ⟨hcz31_0, hcz31_1, hcz31_2, hcz31_3, hfz31_0, hfz31_1, hfz31_2, hfz31_3⟩ := cellsF4 BK205.out) | ((with_reducible refine gate_callee (f := 13) rfl ?_); refine gl_ 17 Try.func13 #[.agg #[.string a1_0, .string a1_1, .int .i64 a1_2, .slice A1_3 l1_3.length c1_3], .int .i64 t206] ?_ rfl rfl rfl rfl; (with_reducible refine (laws_szParcel.calls k a1_0 a1_1 a1_2 _ _ l1_3 t206 t207 _ ?side1 ?side2 A10.out).mono ?_); (case side1 => exact au9_12); (case side2 => exact HC1_3.out); rintro e w32 ⟨rfl, hb⟩; refine ⟨_, rfl, ?_⟩; have n0_ := Aside0.mk (blkb_ BK204 hb); have n1_ := Aside0.mk (blkb_ BK205 hb); have n2_ := Aside0.mk (below_step bl_ hb); clear BK204; clear BK205; clear HB; have BK204 := n0_; have BK205 := n1_; have HB := n2_; clear n0_ n1_ n2_; (try clear hb); (try clear hb2); (try clear hk); (try clear hi)))
        have n0_ := Aside0.mk (blk_drew BK204.out)
        have n1_ := Aside0.mk (blk_drew BK205.out)
        have n2_ := Aside0.mk (below_drew1 HB.out)
        clear BK204
        clear BK205
        clear HB
        have BK204 := n0_
        have BK205 := n1_
        have HB := n2_
        clear n0_ n1_ n2_
        refine start_ (n := 6) (S := fun w' => w'.cell? ⟨gb204, 0, none⟩ = some (.string a0_0) ∧ w'.cell? ⟨gb204, 1, none⟩ = some (.string a0_1) ∧ w'.cell? ⟨gb204, 2, none⟩ = some (.int .i64 a0_2) ∧ w'.cell? ⟨gb204, 3, none⟩ = some (.slice A0_3 l0_3.length c0_3) ∧ w'.cell? ⟨gb205, 0, none⟩ = some (.string a1_0) ∧ w'.cell? ⟨gb205, 1, none⟩ = some (.string a1_1) ∧ w'.cell? ⟨gb205, 2, none⟩ = some (.int .i64 a1_2) ∧ w'.cell? ⟨gb205, 3, none⟩ = some (.slice A1_3 l1_3.length c1_3)) (ds := []) (bs 6 0) (by kernel_rfl) rfl rfl ⟨(blk_cell BK204.out 0).trans rfl, (blk_cell BK204.out 1).trans rfl, (blk_cell BK204.out 2).trans rfl, (blk_cell BK204.out 3).trans rfl, (blk_cell BK205.out 0).trans rfl, (blk_cell BK205.out 1).trans rfl, (blk_cell BK205.out 2).trans rfl, (blk_cell BK205.out 3).trans rfl⟩ (fun hHeld => ?_)
        generalize w32.drew = w33 at BK204 BK205 HB hHeld ⊢
        refine take_ (i := 0) (N := some 20) (v := ?_) (a' := ?_) (bs 6 1) rfl rfl (by kernel_rfl) (fun _ _ _ h => h) (Or.inl ⟨by rfl, ?_⟩) hHeld ?_ ?_
        rotate_left
        · rintro w' ⟨s0, s1, s2, s3, s4, s5, s6, s7⟩
          go_simp
          with_reducible rfl
        rotate_left
        · simp only [Act.put, List.setIfInBounds_toArray, List.set_cons_zero, List.set_cons_succ, i64_w, i32_w]
          rfl
        refine take_ (i := 2) (N := some 22) (v := ?_) (a' := ?_) (bs 6 5) rfl rfl (by kernel_rfl) (fun _ _ _ h => h) (Or.inl ⟨by rfl, ?_⟩) hHeld ?_ ?_
        rotate_left
        · rintro w' ⟨s0, s1, s2, s3, s4, s5, s6, s7⟩
          go_simp
          with_reducible rfl
        rotate_left
        · simp only [Act.put, List.setIfInBounds_toArray, List.set_cons_zero, List.set_cons_succ, i64_w, i32_w]
          rfl
        refine one_ (i := 1) (N := some 21) (bs 6 7) rfl rfl (by kernel_rfl) (by decide) (fun K hK => ?_)
        refine gr_ Try.func15 #[.agg #[.string a0_0, .string a0_1, .int .i64 a0_2, .slice A0_3 l0_3.length c0_3]] (by rfl) ?_ rfl rfl rfl
        with_reducible refine (laws_toParcel.calls k a0_0 a0_1 a0_2 _ _ l0_3 t208 t209 t210 t211 _ ?side1 ?side2 A19.out).mono ?_
        (case side1 => exact au9_4)
        (case side2 => exact HC0_3.out)
        rintro e w34 ⟨v212, rfl, ho0, hb⟩
        refine ⟨_, rfl, ?_⟩
        have n0_ := Aside0.mk (Kd.S_lower ho0 (below_size bl_))
        have n1_ := Aside0.mk (blkb_ BK204 hb)
        have n2_ := Aside0.mk (blkb_ BK205 hb)
        have n3_ := Aside0.mk (below_step bl_ hb)
        clear BK204
        clear BK205
        clear HB
        have HO213 := n0_
        have BK204 := n1_
        have BK205 := n2_
        have HB := n3_
        clear n0_ n1_ n2_ n3_
        (try clear hb)
        (try clear hb2)
        (try clear hk)
        (try clear hi)
        (try clear ho0)
        refine hK.out _ _ ⟨(blk_cell BK204.out 0).trans rfl, (blk_cell BK204.out 1).trans rfl, (blk_cell BK204.out 2).trans rfl, (blk_cell BK204.out 3).trans rfl, (blk_cell BK205.out 0).trans rfl, (blk_cell BK205.out 1).trans rfl, (blk_cell BK205.out 2).trans rfl, (blk_cell BK205.out 3).trans rfl⟩ (fun hHeld => ?_)
        clear hK K
        refine norm_ (a' := ?_) ?_ ?_
        rotate_left
        · show Act.put _ (some 21) _ = _
          simp only [Act.put, List.setIfInBounds_toArray, List.set_cons_zero, List.set_cons_succ, i64_w, i32_w]
          rfl
        refine one_ (i := 3) (N := some 23) (bs 6 15) rfl rfl (by kernel_rfl) (by decide) (fun K hK => ?_)
        refine gr_ Try.func15 #[.agg #[.string a1_0, .string a1_1, .int .i64 a1_2, .slice A1_3 l1_3.length c1_3]] (by rfl) ?_ rfl rfl rfl
        with_reducible refine (laws_toParcel.calls k a1_0 a1_1 a1_2 _ _ l1_3 t214 t215 t216 t217 _ ?side1 ?side2 A20.out).mono ?_
        (case side1 => exact au9_12)
        (case side2 => exact HC1_3.out)
        rintro e w35 ⟨v218, rfl, ho0, hb⟩
        refine ⟨_, rfl, ?_⟩
        have n0_ := Aside0.mk (Kd.S_elder' au9_0 (Kd.S_base ho0) hb)
        have n1_ := Aside0.mk (Kd.S_lower (Kd.S_new' ho0 (Kd.S_lt au9_0)) (below_size bl_))
        have n2_ := Aside0.mk (blkb_ BK204 hb)
        have n3_ := Aside0.mk (blkb_ BK205 hb)
        have n4_ := Aside0.mk (below_step bl_ hb)
        clear HO213
        clear BK204
        clear BK205
        clear HB
        have HO213 := n0_
        have HO219 := n1_
        have BK204 := n2_
        have BK205 := n3_
        have HB := n4_
        clear n0_ n1_ n2_ n3_ n4_
        (try clear hb)
        (try clear hb2)
        (try clear hk)
        (try clear hi)
        (try clear ho0)
        obtain ⟨Ao36, co36, eo36⟩ := Kd.S_slice HO213.out
        (first | subst eo36 | (injection eo36 with f1_ f2_ f3_; have f4_ := f1_.symm; have f5_ := f3_.symm; clear f1_ f2_ f3_; subst f4_; subst f5_))
        obtain ⟨Ao37, co37, eo37⟩ := Kd.S_slice HO219.out
        (first | subst eo37 | (injection eo37 with f1_ f2_ f3_; have f4_ := f1_.symm; have f5_ := f3_.symm; clear f1_ f2_ f3_; subst f4_; subst f5_))
        refine hK.out _ _ ⟨(blk_cell BK204.out 0).trans rfl, (blk_cell BK204.out 1).trans rfl, (blk_cell BK204.out 2).trans rfl, (blk_cell BK204.out 3).trans rfl, (blk_cell BK205.out 0).trans rfl, (blk_cell BK205.out 1).trans rfl, (blk_cell BK205.out 2).trans rfl, (blk_cell BK205.out 3).trans rfl⟩ (fun hHeld => ?_)
        clear hK K
        refine norm_ (a' := ?_) ?_ ?_
        rotate_left
        · show Act.put _ (some 23) _ = _
          simp only [Act.put, List.setIfInBounds_toArray, List.set_cons_zero, List.set_cons_succ, i64_w, i32_w]
          rfl
        refine one_ (i := 4) (N := some 24) (bs 6 31) rfl rfl (by kernel_rfl) (by decide) (fun K hK => ?_)
        refine gr_ Try.func14 #[.agg #[.string t208, .string t209, .int .i64 t210, .slice Ao36 t211.length co36], .agg #[.string t214, .string t215, .int .i64 t216, .slice Ao37 t217.length co37]] (by rfl) ?_ rfl rfl rfl
        with_reducible refine (spec_ParcelSame.calls k t208 t209 t210 _ _ t211 t214 t215 t216 _ _ t217 t220 _ ?side1 ?side2 ?side3 ?side4 A21.out).mono ?_
        (case side1 => exact au9_14)
        (case side2 => exact au9_44)
        (case side3 => exact au9_15)
        (case side4 => exact au9_45)
        rintro e w38 ⟨rfl, hb⟩
        refine ⟨_, rfl, ?_⟩
        have n0_ := Aside0.mk (Kd.S_below au9_0 hb)
        have n1_ := Aside0.mk (Kd.S_below au9_1 hb)
        have n2_ := Aside0.mk (blkb_ BK204 hb)
        have n3_ := Aside0.mk (blkb_ BK205 hb)
        have n4_ := Aside0.mk (below_step bl_ hb)
        clear HO213
        clear HO219
        clear BK204
        clear BK205
        clear HB
        have HO213 := n0_
        have HO219 := n1_
        have BK204 := n2_
        have BK205 := n3_
        have HB := n4_
        clear n0_ n1_ n2_ n3_ n4_
        (try clear hb)
        (try clear hb2)
        (try clear hk)
        (try clear hi)
        refine hK.out _ _ ⟨(blk_cell BK204.out 0).trans rfl, (blk_cell BK204.out 1).trans rfl, (blk_cell BK204.out 2).trans rfl, (blk_cell BK204.out 3).trans rfl, (blk_cell BK205.out 0).trans rfl, (blk_cell BK205.out 1).trans rfl, (blk_cell BK205.out 2).trans rfl, (blk_cell BK205.out 3).trans rfl⟩ (fun hHeld => ?_)
        clear hK K
        refine norm_ (a' := ?_) ?_ ?_
        rotate_left
        · show Act.put _ (some 24) _ = _
          simp only [Act.put, List.setIfInBounds_toArray, List.set_cons_zero, List.set_cons_succ, i64_w, i32_w]
          rfl
        refine pure_ (i := 5) (N := some 6) (v := ?_) (a' := ?_) (bs 6 63) rfl rfl (by kernel_rfl) (fun _ _ _ h => h) (Or.inl ⟨by rfl, ?_⟩) ?_ ?_
        rotate_left
        · intro w'
          go_simp
          with_reducible rfl
        rotate_left
        · simp only [Act.put, List.setIfInBounds_toArray, List.set_cons_zero, List.set_cons_succ, i64_w, i32_w]
          rfl
        refine done_ (by kernel_rfl) ?_
        obtain ⟨hcz39_0, hcz39_1, hcz39_2, hcz39_3, hfz39_0, hfz39_1, hfz39_2, hfz39_3⟩ := cellsF4 BK204.out
        try go_wp2_with (first | ((with_reducible refine gate_callee (f := 15) rfl ?_); refine gl_ 26 Try.func15 #[.agg #[.string a0_0, .string a0_1, .int .i64 a0_2, .slice A0_3 l0_3.length c0_3]] ?_ rfl rfl rfl rfl; (with_reducible refine (laws_toParcel.calls k a0_0 a0_1 a0_2 _ _ l0_3 t221 t222 t223 t224 _ ?side1 ?side2 A22.out).mono ?_); (case side1 => exact au9_4); (case side2 => exact HC0_3.out); rintro e w40 ⟨v225, rfl, ho0, hb⟩; refine ⟨_, rfl, ?_⟩; have n0_ := Aside0.mk (Kd.S_elder' au9_0 (Kd.S_base ho0) hb); have n1_ := Aside0.mk (Kd.S_elder' au9_1 (Kd.S_base ho0) hb); have n2_ := Aside0.mk (Kd.S_lower (Kd.S_new' (Kd.S_new' ho0 (Kd.S_lt au9_0)) (Kd.S_lt au9_1)) (below_size bl_)); have n3_ := Aside0.mk (blkb_ BK204 hb); have n4_ := Aside0.mk (blkb_ BK205 hb); have n5_ := Aside0.mk (below_step bl_ hb); clear HO213; clear HO219; clear BK204; clear BK205; clear HB; have HO213 := n0_; have HO219 := n1_; have HO226 := n2_; have BK204 := n3_; have BK205 := n4_; have HB := n5_; clear n0_ n1_ n2_ n3_ n4_ n5_; (try clear hb); (try clear hb2); (try clear hk); (try clear hi); (try clear ho0)) | ((with_reducible refine gate_dst (N := 7) rfl ?_); refine box_event ?hg (N := 7) ?hd (cs := #[.string (⟨#[]⟩ : ByteArray), .string (⟨#[]⟩ : ByteArray), .int .i64 0, .slice none 0 0]) (t := 40) ?hr ?_; (case hd => rfl); (case hg => rfl); (case hr => exact hr_); intro gb227 hg w41 hbox hb; have n0_ := Aside0.mk (Kd.S_below au9_0 hb); have n1_ := Aside0.mk (Kd.S_below au9_1 hb); have n2_ := Aside0.mk (Kd.S_below au9_5 hb); have n3_ := Aside0.mk (blkb_ BK204 hb); have n4_ := Aside0.mk (blkb_ BK205 hb); have n5_ := Aside0.mk (below_step bl_ hb); have n6_ := Aside0.mk (hbox); have n7_ := Aside0.mk (gw_ hg bl_); have n8_ := Aside0.mk (gw_ hg bl_); have n9_ := Aside0.mk (gn_ hg (blkl_ BK204)); have n10_ := Aside0.mk (gm_ hg (blkl_ BK204)); have n11_ := Aside0.mk (gn_ hg (blkl_ BK205)); have n12_ := Aside0.mk (gm_ hg (blkl_ BK205)); clear HO213; clear HO219; clear HO226; clear BK204; clear BK205; clear HB; have HO213 := n0_; have HO219 := n1_; have HO226 := n2_; have BK204 := n3_; have BK205 := n4_; have HB := n5_; have BK227 := n6_; have GW227 := n7_; have GE227 := n8_; have NB204_227 := n9_; have NB227_204 := n10_; have NB205_227 := n11_; have NB227_205 := n12_; clear n0_ n1_ n2_ n3_ n4_ n5_ n6_ n7_ n8_ n9_ n10_ n11_ n12_; clear hb hbox hg; have hnb42 := NB227_204.out; have hnc42 := NB204_227.out; have hnb43 := NB227_205.out; have hnc43 := NB205_227.out; obtain ⟨hcz44_0, hcz44_1, hcz44_2, hcz44_3, hfz44_0, hfz44_1, hfz44_2, hfz44_3⟩ := cellsF4 BK227.out; obtain ⟨Ao45, co45, eo45⟩ := Kd.S_slice HO226.out; subst eo45; obtain ⟨hcz46_0, hcz46_1, hcz46_2, hcz46_3, hfz46_0, hfz46_1, hfz46_2, hfz46_3⟩ := cellsF4 BK205.out) | ((with_reducible refine gate_callee (f := 15) rfl ?_); refine gl_ 28 Try.func15 #[.agg #[.string a1_0, .string a1_1, .int .i64 a1_2, .slice A1_3 l1_3.length c1_3]] ?_ rfl rfl rfl rfl; (with_reducible refine (laws_toParcel.calls k a1_0 a1_1 a1_2 _ _ l1_3 t228 t229 t230 t231 _ ?side1 ?side2 A23.out).mono ?_); (case side1 => exact au9_46); (case side2 => exact HC1_3.out); rintro e w47 ⟨v232, rfl, ho0, hb⟩; refine ⟨_, rfl, ?_⟩; have n0_ := Aside0.mk (Kd.S_elder' au9_26 (Kd.S_base ho0) hb); have n1_ := Aside0.mk (Kd.S_elder' au9_27 (Kd.S_base ho0) hb); have n2_ := Aside0.mk (Kd.S_elder' au9_28 (Kd.S_base ho0) hb); have n3_ := Aside0.mk (Kd.S_lower (Kd.S_new' (Kd.S_new' (Kd.S_new' ho0 (Kd.S_lt au9_26)) (Kd.S_lt au9_27)) (Kd.S_lt au9_28)) (below_size bl_)); have n4_ := Aside0.mk (blk_below (g := gb204) (o := .cells #[.string a0_0, .string a0_1, .int .i64 a0_2, .slice A0_3 l0_3.length c0_3] 35 (0, 0)) au9_6 hb); have n5_ := Aside0.mk (blk_below (g := gb205) (o := .cells #[.string a1_0, .string a1_1, .int .i64 a1_2, .slice A1_3 l1_3.length c1_3] 35 (0, 0)) au9_7 hb); have n6_ := Aside0.mk (blk_below (g := gb227) (o := .cells #[.string t221, .string t222, .int .i64 t223, .slice Ao45 t224.length co45] 40 (0, 0)) au9_2 hb); have n7_ := Aside0.mk (below_step bl_ hb); clear HO213; clear HO219; clear HO226; clear BK204; clear BK205; clear BK227; clear HB; have HO213 := n0_; have HO219 := n1_; have HO226 := n2_; have HO233 := n3_; have BK204 := n4_; have BK205 := n5_; have BK227 := n6_; have HB := n7_; clear n0_ n1_ n2_ n3_ n4_ n5_ n6_ n7_; (try clear hb); (try clear hb2); (try clear hk); (try clear hi); (try clear ho0)) | ((with_reducible refine gate_dst (N := 8) rfl ?_); refine box_event ?hg (N := 8) ?hd (cs := #[.string (⟨#[]⟩ : ByteArray), .string (⟨#[]⟩ : ByteArray), .int .i64 0, .slice none 0 0]) (t := 40) ?hr ?_; (case hd => rfl); (case hg => rfl); (case hr => exact hr_); intro gb234 hg w48 hbox hb; have n0_ := Aside0.mk (Kd.S_below au9_0 hb); have n1_ := Aside0.mk (Kd.S_below au9_1 hb); have n2_ := Aside0.mk (Kd.S_below au9_5 hb); have n3_ := Aside0.mk (Kd.S_below au9_11 hb); have n4_ := Aside0.mk (blkb_ BK204 hb); have n5_ := Aside0.mk (blkb_ BK205 hb); have n6_ := Aside0.mk (blkb_ BK227 hb); have n7_ := Aside0.mk (below_step bl_ hb); have n8_ := Aside0.mk (hbox); have n9_ := Aside0.mk (gw_ hg bl_); have n10_ := Aside0.mk (gw_ hg bl_); have n11_ := Aside0.mk (gn_ hg (blkl_ BK204)); have n12_ := Aside0.mk (gm_ hg (blkl_ BK204)); have n13_ := Aside0.mk (gn_ hg (blkl_ BK205)); have n14_ := Aside0.mk (gm_ hg (blkl_ BK205)); have n15_ := Aside0.mk (gn_ hg (blkl_ BK227)); have n16_ := Aside0.mk (gm_ hg (blkl_ BK227)); clear HO213; clear HO219; clear HO226; clear HO233; clear BK204; clear BK205; clear BK227; clear HB; have HO213 := n0_; have HO219 := n1_; have HO226 := n2_; have HO233 := n3_; have BK204 := n4_; have BK205 := n5_; have BK227 := n6_; have HB := n7_; have BK234 := n8_; have GW234 := n9_; have GE234 := n10_; have NB204_234 := n11_; have NB234_204 := n12_; have NB205_234 := n13_; have NB234_205 := n14_; have NB227_234 := n15_; have NB234_227 := n16_; clear n0_ n1_ n2_ n3_ n4_ n5_ n6_ n7_ n8_ n9_ n10_ n11_ n12_ n13_ n14_ n15_ n16_; clear hb hbox hg; have hnb49 := NB234_204.out; have hnc49 := NB204_234.out; have hnb50 := NB234_205.out; have hnc50 := NB205_234.out; have hnb51 := NB234_227.out; have hnc51 := NB227_234.out; obtain ⟨hcz52_0, hcz52_1, hcz52_2, hcz52_3, hfz52_0, hfz52_1, hfz52_2, hfz52_3⟩ := cellsF4 BK234.out; obtain ⟨Ao53, co53, eo53⟩ := Kd.S_slice HO233.out; subst eo53; obtain ⟨hcz54_0, hcz54_1, hcz54_2, hcz54_3, hfz54_0, hfz54_1, hfz54_2, hfz54_3⟩ := cellsF4 BK227.out) | ((with_reducible refine gate_callee (f := 16) rfl ?_); refine gl_ 31 Try.func16 #[.agg #[.string t221, .string t222, .int .i64 t223, .slice Ao45 t224.length co45], .agg #[.string t228, .string t229, .int .i64 t230, .slice Ao53 t231.length co53]] ?_ rfl rfl rfl rfl; (with_reducible refine (impl_ParcelSame.calls k t221 t222 t223 _ _ t224 t228 t229 t230 _ _ t231 t235 _ ?side1 ?side2 ?side3 ?side4 A24.out).mono ?_); (case side1 => refine (Kd.S_reads' (e := 30) (base := w.heap.size) (ok := fun k_ => (((True ∧ some k_ ≠ (.slice Ao36 t211.length co36 : Value).ownBlock) ∧ some k_ ≠ (.slice Ao37 t217.length co37 : Value).ownBlock) ∧ some k_ ≠ (.slice Ao53 t231.length co53 : Value).ownBlock)) (n := t224.length) (c := co45) ?_).2.2; exact au9_29); (case side2 => exact au9_41); (case side3 => refine (Kd.S_reads' (e := 30) (base := w.heap.size) (ok := fun k_ => (((True ∧ some k_ ≠ (.slice Ao36 t211.length co36 : Value).ownBlock) ∧ some k_ ≠ (.slice Ao37 t217.length co37 : Value).ownBlock) ∧ some k_ ≠ (.slice Ao45 t224.length co45 : Value).ownBlock)) (n := t231.length) (c := co53) ?_).2.2; exact au9_30); (case side4 => exact au9_42); rintro e w55 ⟨rfl, hb⟩; refine ⟨_, rfl, ?_⟩; have n0_ := Aside0.mk (Kd.S_below (by (with_reducible repeat (first | apply Kd.S_alloc | apply Kd.S_drewN | apply Kd.S_drew)); exact (Kd.S_mono (Kd.S_far (p := ⟨gb234, 3, none⟩) (Kd.S_far (p := ⟨gb234, 2, none⟩) (Kd.S_far (p := ⟨gb234, 1, none⟩) (Kd.S_far (p := ⟨gb234, 0, none⟩) (Kd.S_types HO213.out BK234.out (by decide)) (fun _ hk => hk.2) (.string t228)) (fun _ hk => hk.2) (.string t229)) (fun _ hk => hk.2) (.int .i64 t230)) (fun _ hk => hk.2) (.slice Ao53 t231.length co53)) (fun _ h_ => h_.1))) hb); have n1_ := Aside0.mk (Kd.S_below (by (with_reducible repeat (first | apply Kd.S_alloc | apply Kd.S_drewN | apply Kd.S_drew)); exact (Kd.S_mono (Kd.S_far (p := ⟨gb234, 3, none⟩) (Kd.S_far (p := ⟨gb234, 2, none⟩) (Kd.S_far (p := ⟨gb234, 1, none⟩) (Kd.S_far (p := ⟨gb234, 0, none⟩) (Kd.S_types HO219.out BK234.out (by decide)) (fun _ hk => hk.2) (.string t228)) (fun _ hk => hk.2) (.string t229)) (fun _ hk => hk.2) (.int .i64 t230)) (fun _ hk => hk.2) (.slice Ao53 t231.length co53)) (fun _ h_ => h_.1))) hb); have n2_ := Aside0.mk (Kd.S_below au9_29 hb); have n3_ := Aside0.mk (Kd.S_below au9_30 hb); have n4_ := Aside0.mk (blk_below (g := gb204) (o := .cells #[.string a0_0, .string a0_1, .int .i64 a0_2, .slice A0_3 l0_3.length c0_3] 35 (0, 0)) au9_8 hb); have n5_ := Aside0.mk (blk_below (g := gb205) (o := .cells #[.string a1_0, .string a1_1, .int .i64 a1_2, .slice A1_3 l1_3.length c1_3] 35 (0, 0)) au9_9 hb); have n6_ := Aside0.mk (blk_below (g := gb227) (o := .cells #[.string t221, .string t222, .int .i64 t223, .slice Ao45 t224.length co45] 40 (0, 0)) au9_10 hb); have n7_ := Aside0.mk (blk_below (g := gb234) (o := .cells #[.string t228, .string t229, .int .i64 t230, .slice Ao53 t231.length co53] 40 (0, 0)) au9_3 hb); have n8_ := Aside0.mk (below_step bl_ hb); clear HO213; clear HO219; clear HO226; clear HO233; clear BK204; clear BK205; clear BK227; clear BK234; clear HB; have HO213 := n0_; have HO219 := n1_; have HO226 := n2_; have HO233 := n3_; have BK204 := n4_; have BK205 := n5_; have BK227 := n6_; have BK234 := n7_; have HB := n8_; clear n0_ n1_ n2_ n3_ n4_ n5_ n6_ n7_ n8_; (try clear hb); (try clear hb2); (try clear hk); (try clear hi)))
        go_ret
        exact ⟨au9_36, bl_⟩
      · rw [if_neg c25] at H
        have c25b0 : (t235 != t220) = false := by simpa using c25
        (try (have c25b1 : decide (t235 = t220) = true := by simpa using c25))
        (try (have c25b2 : (t235 == t220) = true := by simpa using c25))
        clear c25
        replace H := Option.bind_eq_some_iff.mp H
        obtain ⟨⟨t236, t237, t238, t239⟩, A560, H⟩ := H
        replace H : ((laws_eqParcel.f k t221 t222 t223 t224 t236 t237 t238 t239).bind fun t242 => (if t242 = true then ((laws_toParcel.f k a1_0 a1_1 a1_2 l1_3).bind fun bt243 => ((laws_eqParcel.f k t228 t229 t230 t231 bt243.1 bt243.2.1 bt243.2.2.1 bt243.2.2.2).bind fun t249 => (if t249 = true then (some true) else (some false)))) else (some false))) = some r := H
        have A56 := Aside0.mk A560
        clear A560
        replace H := Option.bind_eq_some_iff.mp H
        obtain ⟨t242, A570, H⟩ := H
        replace H : (if t242 = true then ((laws_toParcel.f k a1_0 a1_1 a1_2 l1_3).bind fun bt243 => ((laws_eqParcel.f k t228 t229 t230 t231 bt243.1 bt243.2.1 bt243.2.2.1 bt243.2.2.2).bind fun t249 => (if t249 = true then (some true) else (some false)))) else (some false)) = some r := H
        have A57 := Aside0.mk A570
        clear A570
        by_cases c58 : t242 = true
        · subst c58
          have H1 : ((laws_toParcel.f k a1_0 a1_1 a1_2 l1_3).bind fun bt243 => ((laws_eqParcel.f k t228 t229 t230 t231 bt243.1 bt243.2.1 bt243.2.2.1 bt243.2.2.2).bind fun t249 => (if t249 = true then (some true) else (some false)))) = some r := by rw [if_pos rfl] at H; exact H
          clear H
          have H := H1
          clear H1
          replace H := Option.bind_eq_some_iff.mp H
          obtain ⟨⟨t243, t244, t245, t246⟩, A590, H⟩ := H
          replace H : ((laws_eqParcel.f k t228 t229 t230 t231 t243 t244 t245 t246).bind fun t249 => (if t249 = true then (some true) else (some false))) = some r := H
          have A59 := Aside0.mk A590
          clear A590
          replace H := Option.bind_eq_some_iff.mp H
          obtain ⟨t249, A600, H⟩ := H
          replace H : (if t249 = true then (some true) else (some false)) = some r := H
          have A60 := Aside0.mk A600
          clear A600
          by_cases c61 : t249 = true
          · subst c61
            have H1 : (some true) = some r := by rw [if_pos rfl] at H; exact H
            clear H
            have H := H1
            clear H1
            obtain rfl := Option.some.inj H
            go_enter Try.func4, Try.ntmps4
            try go_wp2_with (first | ((with_reducible refine gate_dst (N := 2) rfl ?_); refine box_event ?hg (N := 2) ?hd (cs := #[.string a0_0, .string a0_1, .int .i64 a0_2, .slice A0_3 l0_3.length c0_3]) (t := 35) ?hr ?_; (case hd => rfl); (case hg => rfl); (case hr => exact hr_); intro gb204 hg w62 hbox hb; have n0_ := Aside0.mk (below_step bl_ hb); have n1_ := Aside0.mk (hbox); have n2_ := Aside0.mk (gw_ hg bl_); have n3_ := Aside0.mk (gw_ hg bl_); clear HB; have HB := n0_; have BK204 := n1_; have GW204 := n2_; have GE204 := n3_; clear n0_ n1_ n2_ n3_; clear hb hbox hg) | ((with_reducible refine gate_dst (N := 3) rfl ?_); refine box_event ?hg (N := 3) ?hd (cs := #[.string a1_0, .string a1_1, .int .i64 a1_2, .slice A1_3 l1_3.length c1_3]) (t := 35) ?hr ?_; (case hd => rfl); (case hg => rfl); (case hr => exact hr_); intro gb205 hg w63 hbox hb; have n0_ := Aside0.mk (blkb_ BK204 hb); have n1_ := Aside0.mk (below_step bl_ hb); have n2_ := Aside0.mk (hbox); have n3_ := Aside0.mk (gw_ hg bl_); have n4_ := Aside0.mk (gw_ hg bl_); have n5_ := Aside0.mk (gn_ hg (blkl_ BK204)); have n6_ := Aside0.mk (gm_ hg (blkl_ BK204)); clear BK204; clear HB; have BK204 := n0_; have HB := n1_; have BK205 := n2_; have GW205 := n3_; have GE205 := n4_; have NB204_205 := n5_; have NB205_204 := n6_; clear n0_ n1_ n2_ n3_ n4_ n5_ n6_; clear hb hbox hg; have hnb64 := NB204_205.out; have hnc64 := NB205_204.out; obtain ⟨hcz65_0, hcz65_1, hcz65_2, hcz65_3, hfz65_0, hfz65_1, hfz65_2, hfz65_3⟩ := cellsF4 BK204.out) | ((with_reducible refine gate_callee (f := 13) rfl ?_); refine gl_ 12 Try.func13 #[.agg #[.string a0_0, .string a0_1, .int .i64 a0_2, .slice A0_3 l0_3.length c0_3], .int .i64 1048576] ?_ rfl rfl rfl rfl; (with_reducible refine (laws_szParcel.calls k a0_0 a0_1 a0_2 _ _ l0_3 1048576 t206 _ ?side1 ?side2 A3.out).mono ?_); (case side1 => exact au9_4); (case side2 => exact HC0_3.out); rintro e w66 ⟨rfl, hb⟩; refine ⟨_, rfl, ?_⟩; have n0_ := Aside0.mk (blkb_ BK204 hb); have n1_ := Aside0.mk (blkb_ BK205 hb); have n2_ := Aside0.mk (below_step bl_ hb); clear BK204; clear BK205; clear HB; have BK204 := n0_; have BK205 := n1_; have HB := n2_; clear n0_ n1_ n2_; (try clear hb); (try clear hb2); (try clear hk); (try clear hi); obtain ⟨hcz67_0, hcz67_1, hcz67_2, hcz67_3, hfz67_0, hfz67_1, hfz67_2, hfz67_3⟩ := cellsF4 BK205.out) | ((with_reducible refine gate_callee (f := 13) rfl ?_); refine gl_ 17 Try.func13 #[.agg #[.string a1_0, .string a1_1, .int .i64 a1_2, .slice A1_3 l1_3.length c1_3], .int .i64 t206] ?_ rfl rfl rfl rfl; (with_reducible refine (laws_szParcel.calls k a1_0 a1_1 a1_2 _ _ l1_3 t206 t207 _ ?side1 ?side2 A10.out).mono ?_); (case side1 => exact au9_12); (case side2 => exact HC1_3.out); rintro e w68 ⟨rfl, hb⟩; refine ⟨_, rfl, ?_⟩; have n0_ := Aside0.mk (blkb_ BK204 hb); have n1_ := Aside0.mk (blkb_ BK205 hb); have n2_ := Aside0.mk (below_step bl_ hb); clear BK204; clear BK205; clear HB; have BK204 := n0_; have BK205 := n1_; have HB := n2_; clear n0_ n1_ n2_; (try clear hb); (try clear hb2); (try clear hk); (try clear hi)))
            have n0_ := Aside0.mk (blk_drew BK204.out)
            have n1_ := Aside0.mk (blk_drew BK205.out)
            have n2_ := Aside0.mk (below_drew1 HB.out)
            clear BK204
            clear BK205
            clear HB
            have BK204 := n0_
            have BK205 := n1_
            have HB := n2_
            clear n0_ n1_ n2_
            refine start_ (n := 6) (S := fun w' => w'.cell? ⟨gb204, 0, none⟩ = some (.string a0_0) ∧ w'.cell? ⟨gb204, 1, none⟩ = some (.string a0_1) ∧ w'.cell? ⟨gb204, 2, none⟩ = some (.int .i64 a0_2) ∧ w'.cell? ⟨gb204, 3, none⟩ = some (.slice A0_3 l0_3.length c0_3) ∧ w'.cell? ⟨gb205, 0, none⟩ = some (.string a1_0) ∧ w'.cell? ⟨gb205, 1, none⟩ = some (.string a1_1) ∧ w'.cell? ⟨gb205, 2, none⟩ = some (.int .i64 a1_2) ∧ w'.cell? ⟨gb205, 3, none⟩ = some (.slice A1_3 l1_3.length c1_3)) (ds := []) (bs 6 0) (by kernel_rfl) rfl rfl ⟨(blk_cell BK204.out 0).trans rfl, (blk_cell BK204.out 1).trans rfl, (blk_cell BK204.out 2).trans rfl, (blk_cell BK204.out 3).trans rfl, (blk_cell BK205.out 0).trans rfl, (blk_cell BK205.out 1).trans rfl, (blk_cell BK205.out 2).trans rfl, (blk_cell BK205.out 3).trans rfl⟩ (fun hHeld => ?_)
            generalize w68.drew = w69 at BK204 BK205 HB hHeld ⊢
            refine take_ (i := 0) (N := some 20) (v := ?_) (a' := ?_) (bs 6 1) rfl rfl (by kernel_rfl) (fun _ _ _ h => h) (Or.inl ⟨by rfl, ?_⟩) hHeld ?_ ?_
            rotate_left
            · rintro w' ⟨s0, s1, s2, s3, s4, s5, s6, s7⟩
              go_simp
              with_reducible rfl
            rotate_left
            · simp only [Act.put, List.setIfInBounds_toArray, List.set_cons_zero, List.set_cons_succ, i64_w, i32_w]
              rfl
            refine take_ (i := 2) (N := some 22) (v := ?_) (a' := ?_) (bs 6 5) rfl rfl (by kernel_rfl) (fun _ _ _ h => h) (Or.inl ⟨by rfl, ?_⟩) hHeld ?_ ?_
            rotate_left
            · rintro w' ⟨s0, s1, s2, s3, s4, s5, s6, s7⟩
              go_simp
              with_reducible rfl
            rotate_left
            · simp only [Act.put, List.setIfInBounds_toArray, List.set_cons_zero, List.set_cons_succ, i64_w, i32_w]
              rfl
            refine one_ (i := 1) (N := some 21) (bs 6 7) rfl rfl (by kernel_rfl) (by decide) (fun K hK => ?_)
            refine gr_ Try.func15 #[.agg #[.string a0_0, .string a0_1, .int .i64 a0_2, .slice A0_3 l0_3.length c0_3]] (by rfl) ?_ rfl rfl rfl
            with_reducible refine (laws_toParcel.calls k a0_0 a0_1 a0_2 _ _ l0_3 t208 t209 t210 t211 _ ?side1 ?side2 A19.out).mono ?_
            (case side1 => exact au9_4)
            (case side2 => exact HC0_3.out)
            rintro e w70 ⟨v212, rfl, ho0, hb⟩
            refine ⟨_, rfl, ?_⟩
            have n0_ := Aside0.mk (Kd.S_lower ho0 (below_size bl_))
            have n1_ := Aside0.mk (blkb_ BK204 hb)
            have n2_ := Aside0.mk (blkb_ BK205 hb)
            have n3_ := Aside0.mk (below_step bl_ hb)
            clear BK204
            clear BK205
            clear HB
            have HO213 := n0_
            have BK204 := n1_
            have BK205 := n2_
            have HB := n3_
            clear n0_ n1_ n2_ n3_
            (try clear hb)
            (try clear hb2)
            (try clear hk)
            (try clear hi)
            (try clear ho0)
            refine hK.out _ _ ⟨(blk_cell BK204.out 0).trans rfl, (blk_cell BK204.out 1).trans rfl, (blk_cell BK204.out 2).trans rfl, (blk_cell BK204.out 3).trans rfl, (blk_cell BK205.out 0).trans rfl, (blk_cell BK205.out 1).trans rfl, (blk_cell BK205.out 2).trans rfl, (blk_cell BK205.out 3).trans rfl⟩ (fun hHeld => ?_)
            clear hK K
            refine norm_ (a' := ?_) ?_ ?_
            rotate_left
            · show Act.put _ (some 21) _ = _
              simp only [Act.put, List.setIfInBounds_toArray, List.set_cons_zero, List.set_cons_succ, i64_w, i32_w]
              rfl
            refine one_ (i := 3) (N := some 23) (bs 6 15) rfl rfl (by kernel_rfl) (by decide) (fun K hK => ?_)
            refine gr_ Try.func15 #[.agg #[.string a1_0, .string a1_1, .int .i64 a1_2, .slice A1_3 l1_3.length c1_3]] (by rfl) ?_ rfl rfl rfl
            with_reducible refine (laws_toParcel.calls k a1_0 a1_1 a1_2 _ _ l1_3 t214 t215 t216 t217 _ ?side1 ?side2 A20.out).mono ?_
            (case side1 => exact au9_12)
            (case side2 => exact HC1_3.out)
            rintro e w71 ⟨v218, rfl, ho0, hb⟩
            refine ⟨_, rfl, ?_⟩
            have n0_ := Aside0.mk (Kd.S_elder' au9_0 (Kd.S_base ho0) hb)
            have n1_ := Aside0.mk (Kd.S_lower (Kd.S_new' ho0 (Kd.S_lt au9_0)) (below_size bl_))
            have n2_ := Aside0.mk (blkb_ BK204 hb)
            have n3_ := Aside0.mk (blkb_ BK205 hb)
            have n4_ := Aside0.mk (below_step bl_ hb)
            clear HO213
            clear BK204
            clear BK205
            clear HB
            have HO213 := n0_
            have HO219 := n1_
            have BK204 := n2_
            have BK205 := n3_
            have HB := n4_
            clear n0_ n1_ n2_ n3_ n4_
            (try clear hb)
            (try clear hb2)
            (try clear hk)
            (try clear hi)
            (try clear ho0)
            obtain ⟨Ao72, co72, eo72⟩ := Kd.S_slice HO213.out
            (first | subst eo72 | (injection eo72 with f1_ f2_ f3_; have f4_ := f1_.symm; have f5_ := f3_.symm; clear f1_ f2_ f3_; subst f4_; subst f5_))
            obtain ⟨Ao73, co73, eo73⟩ := Kd.S_slice HO219.out
            (first | subst eo73 | (injection eo73 with f1_ f2_ f3_; have f4_ := f1_.symm; have f5_ := f3_.symm; clear f1_ f2_ f3_; subst f4_; subst f5_))
            refine hK.out _ _ ⟨(blk_cell BK204.out 0).trans rfl, (blk_cell BK204.out 1).trans rfl, (blk_cell BK204.out 2).trans rfl, (blk_cell BK204.out 3).trans rfl, (blk_cell BK205.out 0).trans rfl, (blk_cell BK205.out 1).trans rfl, (blk_cell BK205.out 2).trans rfl, (blk_cell BK205.out 3).trans rfl⟩ (fun hHeld => ?_)
            clear hK K
            refine norm_ (a' := ?_) ?_ ?_
            rotate_left
            · show Act.put _ (some 23) _ = _
              simp only [Act.put, List.setIfInBounds_toArray, List.set_cons_zero, List.set_cons_succ, i64_w, i32_w]
              rfl
            refine one_ (i := 4) (N := some 24) (bs 6 31) rfl rfl (by kernel_rfl) (by decide) (fun K hK => ?_)
            refine gr_ Try.func14 #[.agg #[.string t208, .string t209, .int .i64 t210, .slice Ao72 t211.length co72], .agg #[.string t214, .string t215, .int .i64 t216, .slice Ao73 t217.length co73]] (by rfl) ?_ rfl rfl rfl
            with_reducible refine (spec_ParcelSame.calls k t208 t209 t210 _ _ t211 t214 t215 t216 _ _ t217 t220 _ ?side1 ?side2 ?side3 ?side4 A21.out).mono ?_
            (case side1 => exact au9_14)
            (case side2 => exact au9_44)
            (case side3 => exact au9_15)
            (case side4 => exact au9_45)
            rintro e w74 ⟨rfl, hb⟩
            refine ⟨_, rfl, ?_⟩
            have n0_ := Aside0.mk (Kd.S_below au9_0 hb)
            have n1_ := Aside0.mk (Kd.S_below au9_1 hb)
            have n2_ := Aside0.mk (blkb_ BK204 hb)
            have n3_ := Aside0.mk (blkb_ BK205 hb)
            have n4_ := Aside0.mk (below_step bl_ hb)
            clear HO213
            clear HO219
            clear BK204
            clear BK205
            clear HB
            have HO213 := n0_
            have HO219 := n1_
            have BK204 := n2_
            have BK205 := n3_
            have HB := n4_
            clear n0_ n1_ n2_ n3_ n4_
            (try clear hb)
            (try clear hb2)
            (try clear hk)
            (try clear hi)
            refine hK.out _ _ ⟨(blk_cell BK204.out 0).trans rfl, (blk_cell BK204.out 1).trans rfl, (blk_cell BK204.out 2).trans rfl, (blk_cell BK204.out 3).trans rfl, (blk_cell BK205.out 0).trans rfl, (blk_cell BK205.out 1).trans rfl, (blk_cell BK205.out 2).trans rfl, (blk_cell BK205.out 3).trans rfl⟩ (fun hHeld => ?_)
            clear hK K
            refine norm_ (a' := ?_) ?_ ?_
            rotate_left
            · show Act.put _ (some 24) _ = _
              simp only [Act.put, List.setIfInBounds_toArray, List.set_cons_zero, List.set_cons_succ, i64_w, i32_w]
              rfl
            refine pure_ (i := 5) (N := some 6) (v := ?_) (a' := ?_) (bs 6 63) rfl rfl (by kernel_rfl) (fun _ _ _ h => h) (Or.inl ⟨by rfl, ?_⟩) ?_ ?_
            rotate_left
            · intro w'
              go_simp
              with_reducible rfl
            rotate_left
            · simp only [Act.put, List.setIfInBounds_toArray, List.set_cons_zero, List.set_cons_succ, i64_w, i32_w]
              rfl
            refine done_ (by kernel_rfl) ?_
            obtain ⟨hcz75_0, hcz75_1, hcz75_2, hcz75_3, hfz75_0, hfz75_1, hfz75_2, hfz75_3⟩ := cellsF4 BK204.out
            try go_wp2_with (first | ((with_reducible refine gate_callee (f := 15) rfl ?_); refine gl_ 26 Try.func15 #[.agg #[.string a0_0, .string a0_1, .int .i64 a0_2, .slice A0_3 l0_3.length c0_3]] ?_ rfl rfl rfl rfl; (with_reducible refine (laws_toParcel.calls k a0_0 a0_1 a0_2 _ _ l0_3 t221 t222 t223 t224 _ ?side1 ?side2 A22.out).mono ?_); (case side1 => exact au9_4); (case side2 => exact HC0_3.out); rintro e w76 ⟨v225, rfl, ho0, hb⟩; refine ⟨_, rfl, ?_⟩; have n0_ := Aside0.mk (Kd.S_elder' au9_0 (Kd.S_base ho0) hb); have n1_ := Aside0.mk (Kd.S_elder' au9_1 (Kd.S_base ho0) hb); have n2_ := Aside0.mk (Kd.S_lower (Kd.S_new' (Kd.S_new' ho0 (Kd.S_lt au9_0)) (Kd.S_lt au9_1)) (below_size bl_)); have n3_ := Aside0.mk (blkb_ BK204 hb); have n4_ := Aside0.mk (blkb_ BK205 hb); have n5_ := Aside0.mk (below_step bl_ hb); clear HO213; clear HO219; clear BK204; clear BK205; clear HB; have HO213 := n0_; have HO219 := n1_; have HO226 := n2_; have BK204 := n3_; have BK205 := n4_; have HB := n5_; clear n0_ n1_ n2_ n3_ n4_ n5_; (try clear hb); (try clear hb2); (try clear hk); (try clear hi); (try clear ho0)) | ((with_reducible refine gate_dst (N := 7) rfl ?_); refine box_event ?hg (N := 7) ?hd (cs := #[.string (⟨#[]⟩ : ByteArray), .string (⟨#[]⟩ : ByteArray), .int .i64 0, .slice none 0 0]) (t := 40) ?hr ?_; (case hd => rfl); (case hg => rfl); (case hr => exact hr_); intro gb227 hg w77 hbox hb; have n0_ := Aside0.mk (Kd.S_below au9_0 hb); have n1_ := Aside0.mk (Kd.S_below au9_1 hb); have n2_ := Aside0.mk (Kd.S_below au9_5 hb); have n3_ := Aside0.mk (blkb_ BK204 hb); have n4_ := Aside0.mk (blkb_ BK205 hb); have n5_ := Aside0.mk (below_step bl_ hb); have n6_ := Aside0.mk (hbox); have n7_ := Aside0.mk (gw_ hg bl_); have n8_ := Aside0.mk (gw_ hg bl_); have n9_ := Aside0.mk (gn_ hg (blkl_ BK204)); have n10_ := Aside0.mk (gm_ hg (blkl_ BK204)); have n11_ := Aside0.mk (gn_ hg (blkl_ BK205)); have n12_ := Aside0.mk (gm_ hg (blkl_ BK205)); clear HO213; clear HO219; clear HO226; clear BK204; clear BK205; clear HB; have HO213 := n0_; have HO219 := n1_; have HO226 := n2_; have BK204 := n3_; have BK205 := n4_; have HB := n5_; have BK227 := n6_; have GW227 := n7_; have GE227 := n8_; have NB204_227 := n9_; have NB227_204 := n10_; have NB205_227 := n11_; have NB227_205 := n12_; clear n0_ n1_ n2_ n3_ n4_ n5_ n6_ n7_ n8_ n9_ n10_ n11_ n12_; clear hb hbox hg; have hnb78 := NB227_204.out; have hnc78 := NB204_227.out; have hnb79 := NB227_205.out; have hnc79 := NB205_227.out; obtain ⟨hcz80_0, hcz80_1, hcz80_2, hcz80_3, hfz80_0, hfz80_1, hfz80_2, hfz80_3⟩ := cellsF4 BK227.out; obtain ⟨Ao81, co81, eo81⟩ := Kd.S_slice HO226.out; subst eo81; obtain ⟨hcz82_0, hcz82_1, hcz82_2, hcz82_3, hfz82_0, hfz82_1, hfz82_2, hfz82_3⟩ := cellsF4 BK205.out) | ((with_reducible refine gate_callee (f := 15) rfl ?_); refine gl_ 28 Try.func15 #[.agg #[.string a1_0, .string a1_1, .int .i64 a1_2, .slice A1_3 l1_3.length c1_3]] ?_ rfl rfl rfl rfl; (with_reducible refine (laws_toParcel.calls k a1_0 a1_1 a1_2 _ _ l1_3 t228 t229 t230 t231 _ ?side1 ?side2 A23.out).mono ?_); (case side1 => exact au9_46); (case side2 => exact HC1_3.out); rintro e w83 ⟨v232, rfl, ho0, hb⟩; refine ⟨_, rfl, ?_⟩; have n0_ := Aside0.mk (Kd.S_elder' au9_31 (Kd.S_base ho0) hb); have n1_ := Aside0.mk (Kd.S_elder' au9_32 (Kd.S_base ho0) hb); have n2_ := Aside0.mk (Kd.S_elder' au9_33 (Kd.S_base ho0) hb); have n3_ := Aside0.mk (Kd.S_lower (Kd.S_new' (Kd.S_new' (Kd.S_new' ho0 (Kd.S_lt au9_31)) (Kd.S_lt au9_32)) (Kd.S_lt au9_33)) (below_size bl_)); have n4_ := Aside0.mk (blk_below (g := gb204) (o := .cells #[.string a0_0, .string a0_1, .int .i64 a0_2, .slice A0_3 l0_3.length c0_3] 35 (0, 0)) au9_6 hb); have n5_ := Aside0.mk (blk_below (g := gb205) (o := .cells #[.string a1_0, .string a1_1, .int .i64 a1_2, .slice A1_3 l1_3.length c1_3] 35 (0, 0)) au9_7 hb); have n6_ := Aside0.mk (blk_below (g := gb227) (o := .cells #[.string t221, .string t222, .int .i64 t223, .slice Ao81 t224.length co81] 40 (0, 0)) au9_2 hb); have n7_ := Aside0.mk (below_step bl_ hb); clear HO213; clear HO219; clear HO226; clear BK204; clear BK205; clear BK227; clear HB; have HO213 := n0_; have HO219 := n1_; have HO226 := n2_; have HO233 := n3_; have BK204 := n4_; have BK205 := n5_; have BK227 := n6_; have HB := n7_; clear n0_ n1_ n2_ n3_ n4_ n5_ n6_ n7_; (try clear hb); (try clear hb2); (try clear hk); (try clear hi); (try clear ho0)) | ((with_reducible refine gate_dst (N := 8) rfl ?_); refine box_event ?hg (N := 8) ?hd (cs := #[.string (⟨#[]⟩ : ByteArray), .string (⟨#[]⟩ : ByteArray), .int .i64 0, .slice none 0 0]) (t := 40) ?hr ?_; (case hd => rfl); (case hg => rfl); (case hr => exact hr_); intro gb234 hg w84 hbox hb; have n0_ := Aside0.mk (Kd.S_below au9_0 hb); have n1_ := Aside0.mk (Kd.S_below au9_1 hb); have n2_ := Aside0.mk (Kd.S_below au9_5 hb); have n3_ := Aside0.mk (Kd.S_below au9_11 hb); have n4_ := Aside0.mk (blkb_ BK204 hb); have n5_ := Aside0.mk (blkb_ BK205 hb); have n6_ := Aside0.mk (blkb_ BK227 hb); have n7_ := Aside0.mk (below_step bl_ hb); have n8_ := Aside0.mk (hbox); have n9_ := Aside0.mk (gw_ hg bl_); have n10_ := Aside0.mk (gw_ hg bl_); have n11_ := Aside0.mk (gn_ hg (blkl_ BK204)); have n12_ := Aside0.mk (gm_ hg (blkl_ BK204)); have n13_ := Aside0.mk (gn_ hg (blkl_ BK205)); have n14_ := Aside0.mk (gm_ hg (blkl_ BK205)); have n15_ := Aside0.mk (gn_ hg (blkl_ BK227)); have n16_ := Aside0.mk (gm_ hg (blkl_ BK227)); clear HO213; clear HO219; clear HO226; clear HO233; clear BK204; clear BK205; clear BK227; clear HB; have HO213 := n0_; have HO219 := n1_; have HO226 := n2_; have HO233 := n3_; have BK204 := n4_; have BK205 := n5_; have BK227 := n6_; have HB := n7_; have BK234 := n8_; have GW234 := n9_; have GE234 := n10_; have NB204_234 := n11_; have NB234_204 := n12_; have NB205_234 := n13_; have NB234_205 := n14_; have NB227_234 := n15_; have NB234_227 := n16_; clear n0_ n1_ n2_ n3_ n4_ n5_ n6_ n7_ n8_ n9_ n10_ n11_ n12_ n13_ n14_ n15_ n16_; clear hb hbox hg; have hnb85 := NB234_204.out; have hnc85 := NB204_234.out; have hnb86 := NB234_205.out; have hnc86 := NB205_234.out; have hnb87 := NB234_227.out; have hnc87 := NB227_234.out; obtain ⟨hcz88_0, hcz88_1, hcz88_2, hcz88_3, hfz88_0, hfz88_1, hfz88_2, hfz88_3⟩ := cellsF4 BK234.out; obtain ⟨Ao89, co89, eo89⟩ := Kd.S_slice HO233.out; subst eo89; obtain ⟨hcz90_0, hcz90_1, hcz90_2, hcz90_3, hfz90_0, hfz90_1, hfz90_2, hfz90_3⟩ := cellsF4 BK227.out) | ((with_reducible refine gate_callee (f := 16) rfl ?_); refine gl_ 31 Try.func16 #[.agg #[.string t221, .string t222, .int .i64 t223, .slice Ao81 t224.length co81], .agg #[.string t228, .string t229, .int .i64 t230, .slice Ao89 t231.length co89]] ?_ rfl rfl rfl rfl; (with_reducible refine (impl_ParcelSame.calls k t221 t222 t223 _ _ t224 t228 t229 t230 _ _ t231 t235 _ ?side1 ?side2 ?side3 ?side4 A24.out).mono ?_); (case side1 => refine (Kd.S_reads' (e := 30) (base := w.heap.size) (ok := fun k_ => (((True ∧ some k_ ≠ (.slice Ao72 t211.length co72 : Value).ownBlock) ∧ some k_ ≠ (.slice Ao73 t217.length co73 : Value).ownBlock) ∧ some k_ ≠ (.slice Ao89 t231.length co89 : Value).ownBlock)) (n := t224.length) (c := co81) ?_).2.2; exact au9_34); (case side2 => exact au9_41); (case side3 => refine (Kd.S_reads' (e := 30) (base := w.heap.size) (ok := fun k_ => (((True ∧ some k_ ≠ (.slice Ao72 t211.length co72 : Value).ownBlock) ∧ some k_ ≠ (.slice Ao73 t217.length co73 : Value).ownBlock) ∧ some k_ ≠ (.slice Ao81 t224.length co81 : Value).ownBlock)) (n := t231.length) (c := co89) ?_).2.2; exact au9_35); (case side4 => exact au9_42); rintro e w91 ⟨rfl, hb⟩; refine ⟨_, rfl, ?_⟩; have n0_ := Aside0.mk (Kd.S_below (by (with_reducible repeat (first | apply Kd.S_alloc | apply Kd.S_drewN | apply Kd.S_drew)); exact (Kd.S_mono (Kd.S_far (p := ⟨gb234, 3, none⟩) (Kd.S_far (p := ⟨gb234, 2, none⟩) (Kd.S_far (p := ⟨gb234, 1, none⟩) (Kd.S_far (p := ⟨gb234, 0, none⟩) (Kd.S_types HO213.out BK234.out (by decide)) (fun _ hk => hk.2) (.string t228)) (fun _ hk => hk.2) (.string t229)) (fun _ hk => hk.2) (.int .i64 t230)) (fun _ hk => hk.2) (.slice Ao89 t231.length co89)) (fun _ h_ => h_.1))) hb); have n1_ := Aside0.mk (Kd.S_below (by (with_reducible repeat (first | apply Kd.S_alloc | apply Kd.S_drewN | apply Kd.S_drew)); exact (Kd.S_mono (Kd.S_far (p := ⟨gb234, 3, none⟩) (Kd.S_far (p := ⟨gb234, 2, none⟩) (Kd.S_far (p := ⟨gb234, 1, none⟩) (Kd.S_far (p := ⟨gb234, 0, none⟩) (Kd.S_types HO219.out BK234.out (by decide)) (fun _ hk => hk.2) (.string t228)) (fun _ hk => hk.2) (.string t229)) (fun _ hk => hk.2) (.int .i64 t230)) (fun _ hk => hk.2) (.slice Ao89 t231.length co89)) (fun _ h_ => h_.1))) hb); have n2_ := Aside0.mk (Kd.S_below au9_34 hb); have n3_ := Aside0.mk (Kd.S_below au9_35 hb); have n4_ := Aside0.mk (blk_below (g := gb204) (o := .cells #[.string a0_0, .string a0_1, .int .i64 a0_2, .slice A0_3 l0_3.length c0_3] 35 (0, 0)) au9_8 hb); have n5_ := Aside0.mk (blk_below (g := gb205) (o := .cells #[.string a1_0, .string a1_1, .int .i64 a1_2, .slice A1_3 l1_3.length c1_3] 35 (0, 0)) au9_9 hb); have n6_ := Aside0.mk (blk_below (g := gb227) (o := .cells #[.string t221, .string t222, .int .i64 t223, .slice Ao81 t224.length co81] 40 (0, 0)) au9_10 hb); have n7_ := Aside0.mk (blk_below (g := gb234) (o := .cells #[.string t228, .string t229, .int .i64 t230, .slice Ao89 t231.length co89] 40 (0, 0)) au9_3 hb); have n8_ := Aside0.mk (below_step bl_ hb); clear HO213; clear HO219; clear HO226; clear HO233; clear BK204; clear BK205; clear BK227; clear BK234; clear HB; have HO213 := n0_; have HO219 := n1_; have HO226 := n2_; have HO233 := n3_; have BK204 := n4_; have BK205 := n5_; have BK227 := n6_; have BK234 := n7_; have HB := n8_; clear n0_ n1_ n2_ n3_ n4_ n5_ n6_ n7_ n8_; (try clear hb); (try clear hb2); (try clear hk); (try clear hi)))
            have n0_ := Aside0.mk (Kd.S_drew HO213.out)
            have n1_ := Aside0.mk (Kd.S_drew HO219.out)
            have n2_ := Aside0.mk (Kd.S_drew HO226.out)
            have n3_ := Aside0.mk (Kd.S_drew HO233.out)
            have n4_ := Aside0.mk (blk_drew BK204.out)
            have n5_ := Aside0.mk (blk_drew BK205.out)
            have n6_ := Aside0.mk (blk_drew BK227.out)
            have n7_ := Aside0.mk (blk_drew BK234.out)
            have n8_ := Aside0.mk (below_drew1 HB.out)
            clear HO213
            clear HO219
            clear HO226
            clear HO233
            clear BK204
            clear BK205
            clear BK227
            clear BK234
            clear HB
            have HO213 := n0_
            have HO219 := n1_
            have HO226 := n2_
            have HO233 := n3_
            have BK204 := n4_
            have BK205 := n5_
            have BK227 := n6_
            have BK234 := n7_
            have HB := n8_
            clear n0_ n1_ n2_ n3_ n4_ n5_ n6_ n7_ n8_
            refine start_ (n := 5) (S := fun w' => w'.cell? ⟨gb227, 0, none⟩ = some (.string t221) ∧ w'.cell? ⟨gb227, 1, none⟩ = some (.string t222) ∧ w'.cell? ⟨gb227, 2, none⟩ = some (.int .i64 t223) ∧ w'.cell? ⟨gb227, 3, none⟩ = some (.slice Ao81 t224.length co81) ∧ w'.cell? ⟨gb204, 0, none⟩ = some (.string a0_0) ∧ w'.cell? ⟨gb204, 1, none⟩ = some (.string a0_1) ∧ w'.cell? ⟨gb204, 2, none⟩ = some (.int .i64 a0_2) ∧ w'.cell? ⟨gb204, 3, none⟩ = some (.slice A0_3 l0_3.length c0_3)) (ds := []) #[false, false, false, false, false] (by kernel_rfl) rfl rfl ⟨(blk_cell BK227.out 0).trans rfl, (blk_cell BK227.out 1).trans rfl, (blk_cell BK227.out 2).trans rfl, (blk_cell BK227.out 3).trans rfl, (blk_cell BK204.out 0).trans rfl, (blk_cell BK204.out 1).trans rfl, (blk_cell BK204.out 2).trans rfl, (blk_cell BK204.out 3).trans rfl⟩ (fun hHeld => ?_)
            generalize w91.drew = w92 at HO213 HO219 HO226 HO233 BK204 BK205 BK227 BK234 HB hHeld ⊢
            refine take_ (i := 0) (N := some 35) (v := ?_) (a' := ?_) #[true, false, false, false, false] rfl rfl (by kernel_rfl) (fun _ _ _ h => h) (Or.inl ⟨by rfl, ?_⟩) hHeld ?_ ?_
            rotate_left
            · rintro w' ⟨s0, s1, s2, s3, s4, s5, s6, s7⟩
              go_simp
              with_reducible rfl
            rotate_left
            · simp only [Act.put, List.setIfInBounds_toArray, List.set_cons_zero, List.set_cons_succ, i64_w, i32_w]
              rfl
            refine take_ (i := 1) (N := some 36) (v := ?_) (a' := ?_) #[true, true, false, false, false] rfl rfl (by kernel_rfl) (fun _ _ _ h => h) (Or.inl ⟨by rfl, ?_⟩) hHeld ?_ ?_
            rotate_left
            · rintro w' ⟨s0, s1, s2, s3, s4, s5, s6, s7⟩
              go_simp
              with_reducible rfl
            rotate_left
            · simp only [Act.put, List.setIfInBounds_toArray, List.set_cons_zero, List.set_cons_succ, i64_w, i32_w]
              rfl
            refine one_ (i := 2) (N := some 37) #[true, true, true, false, false] rfl rfl (by kernel_rfl) (by decide) (fun K hK => ?_)
            refine gr_ Try.func15 #[.agg #[.string a0_0, .string a0_1, .int .i64 a0_2, .slice A0_3 l0_3.length c0_3]] (by rfl) ?_ rfl rfl rfl
            with_reducible refine (laws_toParcel.calls k a0_0 a0_1 a0_2 _ _ l0_3 t236 t237 t238 t239 _ ?side1 ?side2 A56.out).mono ?_
            (case side1 => exact au9_4)
            (case side2 => exact HC0_3.out)
            rintro e w93 ⟨v240, rfl, ho0, hb⟩
            refine ⟨_, rfl, ?_⟩
            have n0_ := Aside0.mk (Kd.S_elder' au9_0 (Kd.S_base ho0) hb)
            have n1_ := Aside0.mk (Kd.S_elder' au9_1 (Kd.S_base ho0) hb)
            have n2_ := Aside0.mk (Kd.S_elder' au9_5 (Kd.S_base ho0) hb)
            have n3_ := Aside0.mk (Kd.S_elder' au9_11 (Kd.S_base ho0) hb)
            have n4_ := Aside0.mk (Kd.S_lower (Kd.S_new' (Kd.S_new' (Kd.S_new' (Kd.S_new' ho0 (Kd.S_lt au9_0)) (Kd.S_lt au9_1)) (Kd.S_lt au9_5)) (Kd.S_lt au9_11)) (below_size bl_))
            have n5_ := Aside0.mk (blkb_ BK204 hb)
            have n6_ := Aside0.mk (blkb_ BK205 hb)
            have n7_ := Aside0.mk (blkb_ BK227 hb)
            have n8_ := Aside0.mk (blkb_ BK234 hb)
            have n9_ := Aside0.mk (below_step bl_ hb)
            clear HO213
            clear HO219
            clear HO226
            clear HO233
            clear BK204
            clear BK205
            clear BK227
            clear BK234
            clear HB
            have HO213 := n0_
            have HO219 := n1_
            have HO226 := n2_
            have HO233 := n3_
            have HO241 := n4_
            have BK204 := n5_
            have BK205 := n6_
            have BK227 := n7_
            have BK234 := n8_
            have HB := n9_
            clear n0_ n1_ n2_ n3_ n4_ n5_ n6_ n7_ n8_ n9_
            (try clear hb)
            (try clear hb2)
            (try clear hk)
            (try clear hi)
            (try clear ho0)
            obtain ⟨Ao94, co94, eo94⟩ := Kd.S_slice HO241.out
            (first | subst eo94 | (injection eo94 with f1_ f2_ f3_; have f4_ := f1_.symm; have f5_ := f3_.symm; clear f1_ f2_ f3_; subst f4_; subst f5_))
            refine hK.out _ _ ⟨(blk_cell BK227.out 0).trans rfl, (blk_cell BK227.out 1).trans rfl, (blk_cell BK227.out 2).trans rfl, (blk_cell BK227.out 3).trans rfl, (blk_cell BK204.out 0).trans rfl, (blk_cell BK204.out 1).trans rfl, (blk_cell BK204.out 2).trans rfl, (blk_cell BK204.out 3).trans rfl⟩ (fun hHeld => ?_)
            clear hK K
            refine norm_ (a' := ?_) ?_ ?_
            rotate_left
            · show Act.put _ (some 37) _ = _
              simp only [Act.put, List.setIfInBounds_toArray, List.set_cons_zero, List.set_cons_succ, i64_w, i32_w]
              rfl
            refine one_ (i := 3) (N := some 38) #[true, true, true, true, false] rfl rfl (by kernel_rfl) (by decide) (fun K hK => ?_)
            refine gr_ Try.func17 #[.agg #[.string t221, .string t222, .int .i64 t223, .slice Ao81 t224.length co81], .agg #[.string t236, .string t237, .int .i64 t238, .slice Ao94 t239.length co94]] (by rfl) ?_ rfl rfl rfl
            with_reducible refine (laws_eqParcel.calls k t221 t222 t223 _ _ t224 t236 t237 t238 _ _ t239 true _ ?side1 ?side2 ?side3 ?side4 A57.out).mono ?_
            (case side1 => exact au9_37)
            (case side2 => exact au9_41)
            (case side3 => exact au9_38)
            (case side4 => exact (Kd.S_reads' HO241.out).2.1)
            rintro e w95 ⟨rfl, hb⟩
            refine ⟨_, rfl, ?_⟩
            have n0_ := Aside0.mk (Kd.S_below au9_0 hb)
            have n1_ := Aside0.mk (Kd.S_below au9_1 hb)
            have n2_ := Aside0.mk (Kd.S_below au9_5 hb)
            have n3_ := Aside0.mk (Kd.S_below au9_11 hb)
            have n4_ := Aside0.mk (Kd.S_below au9_13 hb)
            have n5_ := Aside0.mk (blkb_ BK204 hb)
            have n6_ := Aside0.mk (blkb_ BK205 hb)
            have n7_ := Aside0.mk (blkb_ BK227 hb)
            have n8_ := Aside0.mk (blkb_ BK234 hb)
            have n9_ := Aside0.mk (below_step bl_ hb)
            clear HO213
            clear HO219
            clear HO226
            clear HO233
            clear HO241
            clear BK204
            clear BK205
            clear BK227
            clear BK234
            clear HB
            have HO213 := n0_
            have HO219 := n1_
            have HO226 := n2_
            have HO233 := n3_
            have HO241 := n4_
            have BK204 := n5_
            have BK205 := n6_
            have BK227 := n7_
            have BK234 := n8_
            have HB := n9_
            clear n0_ n1_ n2_ n3_ n4_ n5_ n6_ n7_ n8_ n9_
            (try clear hb)
            (try clear hb2)
            (try clear hk)
            (try clear hi)
            refine hK.out _ _ ⟨(blk_cell BK227.out 0).trans rfl, (blk_cell BK227.out 1).trans rfl, (blk_cell BK227.out 2).trans rfl, (blk_cell BK227.out 3).trans rfl, (blk_cell BK204.out 0).trans rfl, (blk_cell BK204.out 1).trans rfl, (blk_cell BK204.out 2).trans rfl, (blk_cell BK204.out 3).trans rfl⟩ (fun hHeld => ?_)
            clear hK K
            refine norm_ (a' := ?_) ?_ ?_
            rotate_left
            · show Act.put _ (some 38) _ = _
              simp only [Act.put, List.setIfInBounds_toArray, List.set_cons_zero, List.set_cons_succ, i64_w, i32_w]
              rfl
            refine pure_ (i := 4) (N := some 39) (v := ?_) (a' := ?_) #[true, true, true, true, true] rfl rfl (by kernel_rfl) (fun _ _ _ h => h) (Or.inl ⟨by rfl, ?_⟩) ?_ ?_
            rotate_left
            · intro w'
              go_simp
              with_reducible rfl
            rotate_left
            · simp only [Act.put, List.setIfInBounds_toArray, List.set_cons_zero, List.set_cons_succ, i64_w, i32_w]
              rfl
            refine done_ (by kernel_rfl) ?_
            try go_wp2
            have n0_ := Aside0.mk (Kd.S_drew HO213.out)
            have n1_ := Aside0.mk (Kd.S_drew HO219.out)
            have n2_ := Aside0.mk (Kd.S_drew HO226.out)
            have n3_ := Aside0.mk (Kd.S_drew HO233.out)
            have n4_ := Aside0.mk (Kd.S_drew HO241.out)
            have n5_ := Aside0.mk (blk_drew BK204.out)
            have n6_ := Aside0.mk (blk_drew BK205.out)
            have n7_ := Aside0.mk (blk_drew BK227.out)
            have n8_ := Aside0.mk (blk_drew BK234.out)
            have n9_ := Aside0.mk (below_drew1 HB.out)
            clear HO213
            clear HO219
            clear HO226
            clear HO233
            clear HO241
            clear BK204
            clear BK205
            clear BK227
            clear BK234
            clear HB
            have HO213 := n0_
            have HO219 := n1_
            have HO226 := n2_
            have HO233 := n3_
            have HO241 := n4_
            have BK204 := n5_
            have BK205 := n6_
            have BK227 := n7_
            have BK234 := n8_
            have HB := n9_
            clear n0_ n1_ n2_ n3_ n4_ n5_ n6_ n7_ n8_ n9_
            refine start_ (n := 5) (S := fun w' => w'.cell? ⟨gb234, 0, none⟩ = some (.string t228) ∧ w'.cell? ⟨gb234, 1, none⟩ = some (.string t229) ∧ w'.cell? ⟨gb234, 2, none⟩ = some (.int .i64 t230) ∧ w'.cell? ⟨gb234, 3, none⟩ = some (.slice Ao89 t231.length co89) ∧ w'.cell? ⟨gb205, 0, none⟩ = some (.string a1_0) ∧ w'.cell? ⟨gb205, 1, none⟩ = some (.string a1_1) ∧ w'.cell? ⟨gb205, 2, none⟩ = some (.int .i64 a1_2) ∧ w'.cell? ⟨gb205, 3, none⟩ = some (.slice A1_3 l1_3.length c1_3)) (ds := []) #[false, false, false, false, false] (by kernel_rfl) rfl rfl ⟨(blk_cell BK234.out 0).trans rfl, (blk_cell BK234.out 1).trans rfl, (blk_cell BK234.out 2).trans rfl, (blk_cell BK234.out 3).trans rfl, (blk_cell BK205.out 0).trans rfl, (blk_cell BK205.out 1).trans rfl, (blk_cell BK205.out 2).trans rfl, (blk_cell BK205.out 3).trans rfl⟩ (fun hHeld => ?_)
            generalize w95.drew = w96 at HO213 HO219 HO226 HO233 HO241 BK204 BK205 BK227 BK234 HB hHeld ⊢
            refine take_ (i := 0) (N := some 40) (v := ?_) (a' := ?_) #[true, false, false, false, false] rfl rfl (by kernel_rfl) (fun _ _ _ h => h) (Or.inl ⟨by rfl, ?_⟩) hHeld ?_ ?_
            rotate_left
            · rintro w' ⟨s0, s1, s2, s3, s4, s5, s6, s7⟩
              go_simp
              with_reducible rfl
            rotate_left
            · simp only [Act.put, List.setIfInBounds_toArray, List.set_cons_zero, List.set_cons_succ, i64_w, i32_w]
              rfl
            refine take_ (i := 1) (N := some 41) (v := ?_) (a' := ?_) #[true, true, false, false, false] rfl rfl (by kernel_rfl) (fun _ _ _ h => h) (Or.inl ⟨by rfl, ?_⟩) hHeld ?_ ?_
            rotate_left
            · rintro w' ⟨s0, s1, s2, s3, s4, s5, s6, s7⟩
              go_simp
              with_reducible rfl
            rotate_left
            · simp only [Act.put, List.setIfInBounds_toArray, List.set_cons_zero, List.set_cons_succ, i64_w, i32_w]
              rfl
            refine one_ (i := 2) (N := some 42) #[true, true, true, false, false] rfl rfl (by kernel_rfl) (by decide) (fun K hK => ?_)
            refine gr_ Try.func15 #[.agg #[.string a1_0, .string a1_1, .int .i64 a1_2, .slice A1_3 l1_3.length c1_3]] (by rfl) ?_ rfl rfl rfl
            with_reducible refine (laws_toParcel.calls k a1_0 a1_1 a1_2 _ _ l1_3 t243 t244 t245 t246 _ ?side1 ?side2 A59.out).mono ?_
            (case side1 => exact au9_12)
            (case side2 => exact HC1_3.out)
            rintro e w97 ⟨v247, rfl, ho0, hb⟩
            refine ⟨_, rfl, ?_⟩
            have n0_ := Aside0.mk (Kd.S_elder' au9_0 (Kd.S_base ho0) hb)
            have n1_ := Aside0.mk (Kd.S_elder' au9_1 (Kd.S_base ho0) hb)
            have n2_ := Aside0.mk (Kd.S_elder' au9_5 (Kd.S_base ho0) hb)
            have n3_ := Aside0.mk (Kd.S_elder' au9_11 (Kd.S_base ho0) hb)
            have n4_ := Aside0.mk (Kd.S_elder' au9_13 (Kd.S_base ho0) hb)
            have n5_ := Aside0.mk (Kd.S_lower (Kd.S_new' (Kd.S_new' (Kd.S_new' (Kd.S_new' (Kd.S_new' ho0 (Kd.S_lt au9_0)) (Kd.S_lt au9_1)) (Kd.S_lt au9_5)) (Kd.S_lt au9_11)) (Kd.S_lt au9_13)) (below_size bl_))
            have n6_ := Aside0.mk (blkb_ BK204 hb)
            have n7_ := Aside0.mk (blkb_ BK205 hb)
            have n8_ := Aside0.mk (blkb_ BK227 hb)
            have n9_ := Aside0.mk (blkb_ BK234 hb)
            have n10_ := Aside0.mk (below_step bl_ hb)
            clear HO213
            clear HO219
            clear HO226
            clear HO233
            clear HO241
            clear BK204
            clear BK205
            clear BK227
            clear BK234
            clear HB
            have HO213 := n0_
            have HO219 := n1_
            have HO226 := n2_
            have HO233 := n3_
            have HO241 := n4_
            have HO248 := n5_
            have BK204 := n6_
            have BK205 := n7_
            have BK227 := n8_
            have BK234 := n9_
            have HB := n10_
            clear n0_ n1_ n2_ n3_ n4_ n5_ n6_ n7_ n8_ n9_ n10_
            (try clear hb)
            (try clear hb2)
            (try clear hk)
            (try clear hi)
            (try clear ho0)
            obtain ⟨Ao98, co98, eo98⟩ := Kd.S_slice HO248.out
            (first | subst eo98 | (injection eo98 with f1_ f2_ f3_; have f4_ := f1_.symm; have f5_ := f3_.symm; clear f1_ f2_ f3_; subst f4_; subst f5_))
            refine hK.out _ _ ⟨(blk_cell BK234.out 0).trans rfl, (blk_cell BK234.out 1).trans rfl, (blk_cell BK234.out 2).trans rfl, (blk_cell BK234.out 3).trans rfl, (blk_cell BK205.out 0).trans rfl, (blk_cell BK205.out 1).trans rfl, (blk_cell BK205.out 2).trans rfl, (blk_cell BK205.out 3).trans rfl⟩ (fun hHeld => ?_)
            clear hK K
            refine norm_ (a' := ?_) ?_ ?_
            rotate_left
            · show Act.put _ (some 42) _ = _
              simp only [Act.put, List.setIfInBounds_toArray, List.set_cons_zero, List.set_cons_succ, i64_w, i32_w]
              rfl
            refine one_ (i := 3) (N := some 43) #[true, true, true, true, false] rfl rfl (by kernel_rfl) (by decide) (fun K hK => ?_)
            refine gr_ Try.func17 #[.agg #[.string t228, .string t229, .int .i64 t230, .slice Ao89 t231.length co89], .agg #[.string t243, .string t244, .int .i64 t245, .slice Ao98 t246.length co98]] (by rfl) ?_ rfl rfl rfl
            with_reducible refine (laws_eqParcel.calls k t228 t229 t230 _ _ t231 t243 t244 t245 _ _ t246 true _ ?side1 ?side2 ?side3 ?side4 A60.out).mono ?_
            (case side1 => exact au9_39)
            (case side2 => exact au9_42)
            (case side3 => exact au9_40)
            (case side4 => exact (Kd.S_reads' HO248.out).2.1)
            rintro e w99 ⟨rfl, hb⟩
            refine ⟨_, rfl, ?_⟩
            have n0_ := Aside0.mk (Kd.S_below au9_0 hb)
            have n1_ := Aside0.mk (Kd.S_below au9_1 hb)
            have n2_ := Aside0.mk (Kd.S_below au9_5 hb)
            have n3_ := Aside0.mk (Kd.S_below au9_11 hb)
            have n4_ := Aside0.mk (Kd.S_below au9_13 hb)
            have n5_ := Aside0.mk (Kd.S_below au9_43 hb)
            have n6_ := Aside0.mk (blkb_ BK204 hb)
            have n7_ := Aside0.mk (blkb_ BK205 hb)
            have n8_ := Aside0.mk (blkb_ BK227 hb)
            have n9_ := Aside0.mk (blkb_ BK234 hb)
            have n10_ := Aside0.mk (below_step bl_ hb)
            clear HO213
            clear HO219
            clear HO226
            clear HO233
            clear HO241
            clear HO248
            clear BK204
            clear BK205
            clear BK227
            clear BK234
            clear HB
            have HO213 := n0_
            have HO219 := n1_
            have HO226 := n2_
            have HO233 := n3_
            have HO241 := n4_
            have HO248 := n5_
            have BK204 := n6_
            have BK205 := n7_
            have BK227 := n8_
            have BK234 := n9_
            have HB := n10_
            clear n0_ n1_ n2_ n3_ n4_ n5_ n6_ n7_ n8_ n9_ n10_
            (try clear hb)
            (try clear hb2)
            (try clear hk)
            (try clear hi)
            refine hK.out _ _ ⟨(blk_cell BK234.out 0).trans rfl, (blk_cell BK234.out 1).trans rfl, (blk_cell BK234.out 2).trans rfl, (blk_cell BK234.out 3).trans rfl, (blk_cell BK205.out 0).trans rfl, (blk_cell BK205.out 1).trans rfl, (blk_cell BK205.out 2).trans rfl, (blk_cell BK205.out 3).trans rfl⟩ (fun hHeld => ?_)
            clear hK K
            refine norm_ (a' := ?_) ?_ ?_
            rotate_left
            · show Act.put _ (some 43) _ = _
              simp only [Act.put, List.setIfInBounds_toArray, List.set_cons_zero, List.set_cons_succ, i64_w, i32_w]
              rfl
            refine pure_ (i := 4) (N := some 44) (v := ?_) (a' := ?_) #[true, true, true, true, true] rfl rfl (by kernel_rfl) (fun _ _ _ h => h) (Or.inl ⟨by rfl, ?_⟩) ?_ ?_
            rotate_left
            · intro w'
              go_simp
              with_reducible rfl
            rotate_left
            · simp only [Act.put, List.setIfInBounds_toArray, List.set_cons_zero, List.set_cons_succ, i64_w, i32_w]
              rfl
            refine done_ (by kernel_rfl) ?_
            try go_wp2
            go_ret
            exact ⟨au9_36, bl_⟩
          · replace c61 := Bool.eq_false_iff.mpr c61
            subst c61
            have H1 : (some false) = some r := by rw [if_neg (show ¬ (false = true) by decide)] at H; exact H
            clear H
            have H := H1
            clear H1
            obtain rfl := Option.some.inj H
            go_enter Try.func4, Try.ntmps4
            try go_wp2_with (first | ((with_reducible refine gate_dst (N := 2) rfl ?_); refine box_event ?hg (N := 2) ?hd (cs := #[.string a0_0, .string a0_1, .int .i64 a0_2, .slice A0_3 l0_3.length c0_3]) (t := 35) ?hr ?_; (case hd => rfl); (case hg => rfl); (case hr => exact hr_); intro gb204 hg w100 hbox hb; have n0_ := Aside0.mk (below_step bl_ hb); have n1_ := Aside0.mk (hbox); have n2_ := Aside0.mk (gw_ hg bl_); have n3_ := Aside0.mk (gw_ hg bl_); clear HB; have HB := n0_; have BK204 := n1_; have GW204 := n2_; have GE204 := n3_; clear n0_ n1_ n2_ n3_; clear hb hbox hg) | ((with_reducible refine gate_dst (N := 3) rfl ?_); refine box_event ?hg (N := 3) ?hd (cs := #[.string a1_0, .string a1_1, .int .i64 a1_2, .slice A1_3 l1_3.length c1_3]) (t := 35) ?hr ?_; (case hd => rfl); (case hg => rfl); (case hr => exact hr_); intro gb205 hg w101 hbox hb; have n0_ := Aside0.mk (blkb_ BK204 hb); have n1_ := Aside0.mk (below_step bl_ hb); have n2_ := Aside0.mk (hbox); have n3_ := Aside0.mk (gw_ hg bl_); have n4_ := Aside0.mk (gw_ hg bl_); have n5_ := Aside0.mk (gn_ hg (blkl_ BK204)); have n6_ := Aside0.mk (gm_ hg (blkl_ BK204)); clear BK204; clear HB; have BK204 := n0_; have HB := n1_; have BK205 := n2_; have GW205 := n3_; have GE205 := n4_; have NB204_205 := n5_; have NB205_204 := n6_; clear n0_ n1_ n2_ n3_ n4_ n5_ n6_; clear hb hbox hg; have hnb102 := NB204_205.out; have hnc102 := NB205_204.out; obtain ⟨hcz103_0, hcz103_1, hcz103_2, hcz103_3, hfz103_0, hfz103_1, hfz103_2, hfz103_3⟩ := cellsF4 BK204.out) | ((with_reducible refine gate_callee (f := 13) rfl ?_); refine gl_ 12 Try.func13 #[.agg #[.string a0_0, .string a0_1, .int .i64 a0_2, .slice A0_3 l0_3.length c0_3], .int .i64 1048576] ?_ rfl rfl rfl rfl; (with_reducible refine (laws_szParcel.calls k a0_0 a0_1 a0_2 _ _ l0_3 1048576 t206 _ ?side1 ?side2 A3.out).mono ?_); (case side1 => exact au9_4); (case side2 => exact HC0_3.out); rintro e w104 ⟨rfl, hb⟩; refine ⟨_, rfl, ?_⟩; have n0_ := Aside0.mk (blkb_ BK204 hb); have n1_ := Aside0.mk (blkb_ BK205 hb); have n2_ := Aside0.mk (below_step bl_ hb); clear BK204; clear BK205; clear HB; have BK204 := n0_; have BK205 := n1_; have HB := n2_; clear n0_ n1_ n2_; (try clear hb); (try clear hb2); (try clear hk); (try clear hi); obtain ⟨hcz105_0, hcz105_1, hcz105_2, hcz105_3, hfz105_0, hfz105_1, hfz105_2, hfz105_3⟩ := cellsF4 BK205.out) | ((with_reducible refine gate_callee (f := 13) rfl ?_); refine gl_ 17 Try.func13 #[.agg #[.string a1_0, .string a1_1, .int .i64 a1_2, .slice A1_3 l1_3.length c1_3], .int .i64 t206] ?_ rfl rfl rfl rfl; (with_reducible refine (laws_szParcel.calls k a1_0 a1_1 a1_2 _ _ l1_3 t206 t207 _ ?side1 ?side2 A10.out).mono ?_); (case side1 => exact au9_12); (case side2 => exact HC1_3.out); rintro e w106 ⟨rfl, hb⟩; refine ⟨_, rfl, ?_⟩; have n0_ := Aside0.mk (blkb_ BK204 hb); have n1_ := Aside0.mk (blkb_ BK205 hb); have n2_ := Aside0.mk (below_step bl_ hb); clear BK204; clear BK205; clear HB; have BK204 := n0_; have BK205 := n1_; have HB := n2_; clear n0_ n1_ n2_; (try clear hb); (try clear hb2); (try clear hk); (try clear hi)))
            have n0_ := Aside0.mk (blk_drew BK204.out)
            have n1_ := Aside0.mk (blk_drew BK205.out)
            have n2_ := Aside0.mk (below_drew1 HB.out)
            clear BK204
            clear BK205
            clear HB
            have BK204 := n0_
            have BK205 := n1_
            have HB := n2_
            clear n0_ n1_ n2_
            refine start_ (n := 6) (S := fun w' => w'.cell? ⟨gb204, 0, none⟩ = some (.string a0_0) ∧ w'.cell? ⟨gb204, 1, none⟩ = some (.string a0_1) ∧ w'.cell? ⟨gb204, 2, none⟩ = some (.int .i64 a0_2) ∧ w'.cell? ⟨gb204, 3, none⟩ = some (.slice A0_3 l0_3.length c0_3) ∧ w'.cell? ⟨gb205, 0, none⟩ = some (.string a1_0) ∧ w'.cell? ⟨gb205, 1, none⟩ = some (.string a1_1) ∧ w'.cell? ⟨gb205, 2, none⟩ = some (.int .i64 a1_2) ∧ w'.cell? ⟨gb205, 3, none⟩ = some (.slice A1_3 l1_3.length c1_3)) (ds := []) (bs 6 0) (by kernel_rfl) rfl rfl ⟨(blk_cell BK204.out 0).trans rfl, (blk_cell BK204.out 1).trans rfl, (blk_cell BK204.out 2).trans rfl, (blk_cell BK204.out 3).trans rfl, (blk_cell BK205.out 0).trans rfl, (blk_cell BK205.out 1).trans rfl, (blk_cell BK205.out 2).trans rfl, (blk_cell BK205.out 3).trans rfl⟩ (fun hHeld => ?_)
            generalize w106.drew = w107 at BK204 BK205 HB hHeld ⊢
            refine take_ (i := 0) (N := some 20) (v := ?_) (a' := ?_) (bs 6 1) rfl rfl (by kernel_rfl) (fun _ _ _ h => h) (Or.inl ⟨by rfl, ?_⟩) hHeld ?_ ?_
            rotate_left
            · rintro w' ⟨s0, s1, s2, s3, s4, s5, s6, s7⟩
              go_simp
              with_reducible rfl
            rotate_left
            · simp only [Act.put, List.setIfInBounds_toArray, List.set_cons_zero, List.set_cons_succ, i64_w, i32_w]
              rfl
            refine take_ (i := 2) (N := some 22) (v := ?_) (a' := ?_) (bs 6 5) rfl rfl (by kernel_rfl) (fun _ _ _ h => h) (Or.inl ⟨by rfl, ?_⟩) hHeld ?_ ?_
            rotate_left
            · rintro w' ⟨s0, s1, s2, s3, s4, s5, s6, s7⟩
              go_simp
              with_reducible rfl
            rotate_left
            · simp only [Act.put, List.setIfInBounds_toArray, List.set_cons_zero, List.set_cons_succ, i64_w, i32_w]
              rfl
            refine one_ (i := 1) (N := some 21) (bs 6 7) rfl rfl (by kernel_rfl) (by decide) (fun K hK => ?_)
            refine gr_ Try.func15 #[.agg #[.string a0_0, .string a0_1, .int .i64 a0_2, .slice A0_3 l0_3.length c0_3]] (by rfl) ?_ rfl rfl rfl
            with_reducible refine (laws_toParcel.calls k a0_0 a0_1 a0_2 _ _ l0_3 t208 t209 t210 t211 _ ?side1 ?side2 A19.out).mono ?_
            (case side1 => exact au9_4)
            (case side2 => exact HC0_3.out)
            rintro e w108 ⟨v212, rfl, ho0, hb⟩
            refine ⟨_, rfl, ?_⟩
            have n0_ := Aside0.mk (Kd.S_lower ho0 (below_size bl_))
            have n1_ := Aside0.mk (blkb_ BK204 hb)
            have n2_ := Aside0.mk (blkb_ BK205 hb)
            have n3_ := Aside0.mk (below_step bl_ hb)
            clear BK204
            clear BK205
            clear HB
            have HO213 := n0_
            have BK204 := n1_
            have BK205 := n2_
            have HB := n3_
            clear n0_ n1_ n2_ n3_
            (try clear hb)
            (try clear hb2)
            (try clear hk)
            (try clear hi)
            (try clear ho0)
            refine hK.out _ _ ⟨(blk_cell BK204.out 0).trans rfl, (blk_cell BK204.out 1).trans rfl, (blk_cell BK204.out 2).trans rfl, (blk_cell BK204.out 3).trans rfl, (blk_cell BK205.out 0).trans rfl, (blk_cell BK205.out 1).trans rfl, (blk_cell BK205.out 2).trans rfl, (blk_cell BK205.out 3).trans rfl⟩ (fun hHeld => ?_)
            clear hK K
            refine norm_ (a' := ?_) ?_ ?_
            rotate_left
            · show Act.put _ (some 21) _ = _
              simp only [Act.put, List.setIfInBounds_toArray, List.set_cons_zero, List.set_cons_succ, i64_w, i32_w]
              rfl
            refine one_ (i := 3) (N := some 23) (bs 6 15) rfl rfl (by kernel_rfl) (by decide) (fun K hK => ?_)
            refine gr_ Try.func15 #[.agg #[.string a1_0, .string a1_1, .int .i64 a1_2, .slice A1_3 l1_3.length c1_3]] (by rfl) ?_ rfl rfl rfl
            with_reducible refine (laws_toParcel.calls k a1_0 a1_1 a1_2 _ _ l1_3 t214 t215 t216 t217 _ ?side1 ?side2 A20.out).mono ?_
            (case side1 => exact au9_12)
            (case side2 => exact HC1_3.out)
            rintro e w109 ⟨v218, rfl, ho0, hb⟩
            refine ⟨_, rfl, ?_⟩
            have n0_ := Aside0.mk (Kd.S_elder' au9_0 (Kd.S_base ho0) hb)
            have n1_ := Aside0.mk (Kd.S_lower (Kd.S_new' ho0 (Kd.S_lt au9_0)) (below_size bl_))
            have n2_ := Aside0.mk (blkb_ BK204 hb)
            have n3_ := Aside0.mk (blkb_ BK205 hb)
            have n4_ := Aside0.mk (below_step bl_ hb)
            clear HO213
            clear BK204
            clear BK205
            clear HB
            have HO213 := n0_
            have HO219 := n1_
            have BK204 := n2_
            have BK205 := n3_
            have HB := n4_
            clear n0_ n1_ n2_ n3_ n4_
            (try clear hb)
            (try clear hb2)
            (try clear hk)
            (try clear hi)
            (try clear ho0)
            obtain ⟨Ao110, co110, eo110⟩ := Kd.S_slice HO213.out
            (first | subst eo110 | (injection eo110 with f1_ f2_ f3_; have f4_ := f1_.symm; have f5_ := f3_.symm; clear f1_ f2_ f3_; subst f4_; subst f5_))
            obtain ⟨Ao111, co111, eo111⟩ := Kd.S_slice HO219.out
            (first | subst eo111 | (injection eo111 with f1_ f2_ f3_; have f4_ := f1_.symm; have f5_ := f3_.symm; clear f1_ f2_ f3_; subst f4_; subst f5_))
            refine hK.out _ _ ⟨(blk_cell BK204.out 0).trans rfl, (blk_cell BK204.out 1).trans rfl, (blk_cell BK204.out 2).trans rfl, (blk_cell BK204.out 3).trans rfl, (blk_cell BK205.out 0).trans rfl, (blk_cell BK205.out 1).trans rfl, (blk_cell BK205.out 2).trans rfl, (blk_cell BK205.out 3).trans rfl⟩ (fun hHeld => ?_)
            clear hK K
            refine norm_ (a' := ?_) ?_ ?_
            rotate_left
            · show Act.put _ (some 23) _ = _
              simp only [Act.put, List.setIfInBounds_toArray, List.set_cons_zero, List.set_cons_succ, i64_w, i32_w]
              rfl
            refine one_ (i := 4) (N := some 24) (bs 6 31) rfl rfl (by kernel_rfl) (by decide) (fun K hK => ?_)
            refine gr_ Try.func14 #[.agg #[.string t208, .string t209, .int .i64 t210, .slice Ao110 t211.length co110], .agg #[.string t214, .string t215, .int .i64 t216, .slice Ao111 t217.length co111]] (by rfl) ?_ rfl rfl rfl
            with_reducible refine (spec_ParcelSame.calls k t208 t209 t210 _ _ t211 t214 t215 t216 _ _ t217 t220 _ ?side1 ?side2 ?side3 ?side4 A21.out).mono ?_
            (case side1 => exact au9_14)
            (case side2 => exact au9_44)
            (case side3 => exact au9_15)
            (case side4 => exact au9_45)
            rintro e w112 ⟨rfl, hb⟩
            refine ⟨_, rfl, ?_⟩
            have n0_ := Aside0.mk (Kd.S_below au9_0 hb)
            have n1_ := Aside0.mk (Kd.S_below au9_1 hb)
            have n2_ := Aside0.mk (blkb_ BK204 hb)
            have n3_ := Aside0.mk (blkb_ BK205 hb)
            have n4_ := Aside0.mk (below_step bl_ hb)
            clear HO213
            clear HO219
            clear BK204
            clear BK205
            clear HB
            have HO213 := n0_
            have HO219 := n1_
            have BK204 := n2_
            have BK205 := n3_
            have HB := n4_
            clear n0_ n1_ n2_ n3_ n4_
            (try clear hb)
            (try clear hb2)
            (try clear hk)
            (try clear hi)
            refine hK.out _ _ ⟨(blk_cell BK204.out 0).trans rfl, (blk_cell BK204.out 1).trans rfl, (blk_cell BK204.out 2).trans rfl, (blk_cell BK204.out 3).trans rfl, (blk_cell BK205.out 0).trans rfl, (blk_cell BK205.out 1).trans rfl, (blk_cell BK205.out 2).trans rfl, (blk_cell BK205.out 3).trans rfl⟩ (fun hHeld => ?_)
            clear hK K
            refine norm_ (a' := ?_) ?_ ?_
            rotate_left
            · show Act.put _ (some 24) _ = _
              simp only [Act.put, List.setIfInBounds_toArray, List.set_cons_zero, List.set_cons_succ, i64_w, i32_w]
              rfl
            refine pure_ (i := 5) (N := some 6) (v := ?_) (a' := ?_) (bs 6 63) rfl rfl (by kernel_rfl) (fun _ _ _ h => h) (Or.inl ⟨by rfl, ?_⟩) ?_ ?_
            rotate_left
            · intro w'
              go_simp
              with_reducible rfl
            rotate_left
            · simp only [Act.put, List.setIfInBounds_toArray, List.set_cons_zero, List.set_cons_succ, i64_w, i32_w]
              rfl
            refine done_ (by kernel_rfl) ?_
            obtain ⟨hcz113_0, hcz113_1, hcz113_2, hcz113_3, hfz113_0, hfz113_1, hfz113_2, hfz113_3⟩ := cellsF4 BK204.out
            try go_wp2_with (first | ((with_reducible refine gate_callee (f := 15) rfl ?_); refine gl_ 26 Try.func15 #[.agg #[.string a0_0, .string a0_1, .int .i64 a0_2, .slice A0_3 l0_3.length c0_3]] ?_ rfl rfl rfl rfl; (with_reducible refine (laws_toParcel.calls k a0_0 a0_1 a0_2 _ _ l0_3 t221 t222 t223 t224 _ ?side1 ?side2 A22.out).mono ?_); (case side1 => exact au9_4); (case side2 => exact HC0_3.out); rintro e w114 ⟨v225, rfl, ho0, hb⟩; refine ⟨_, rfl, ?_⟩; have n0_ := Aside0.mk (Kd.S_elder' au9_0 (Kd.S_base ho0) hb); have n1_ := Aside0.mk (Kd.S_elder' au9_1 (Kd.S_base ho0) hb); have n2_ := Aside0.mk (Kd.S_lower (Kd.S_new' (Kd.S_new' ho0 (Kd.S_lt au9_0)) (Kd.S_lt au9_1)) (below_size bl_)); have n3_ := Aside0.mk (blkb_ BK204 hb); have n4_ := Aside0.mk (blkb_ BK205 hb); have n5_ := Aside0.mk (below_step bl_ hb); clear HO213; clear HO219; clear BK204; clear BK205; clear HB; have HO213 := n0_; have HO219 := n1_; have HO226 := n2_; have BK204 := n3_; have BK205 := n4_; have HB := n5_; clear n0_ n1_ n2_ n3_ n4_ n5_; (try clear hb); (try clear hb2); (try clear hk); (try clear hi); (try clear ho0)) | ((with_reducible refine gate_dst (N := 7) rfl ?_); refine box_event ?hg (N := 7) ?hd (cs := #[.string (⟨#[]⟩ : ByteArray), .string (⟨#[]⟩ : ByteArray), .int .i64 0, .slice none 0 0]) (t := 40) ?hr ?_; (case hd => rfl); (case hg => rfl); (case hr => exact hr_); intro gb227 hg w115 hbox hb; have n0_ := Aside0.mk (Kd.S_below au9_0 hb); have n1_ := Aside0.mk (Kd.S_below au9_1 hb); have n2_ := Aside0.mk (Kd.S_below au9_5 hb); have n3_ := Aside0.mk (blkb_ BK204 hb); have n4_ := Aside0.mk (blkb_ BK205 hb); have n5_ := Aside0.mk (below_step bl_ hb); have n6_ := Aside0.mk (hbox); have n7_ := Aside0.mk (gw_ hg bl_); have n8_ := Aside0.mk (gw_ hg bl_); have n9_ := Aside0.mk (gn_ hg (blkl_ BK204)); have n10_ := Aside0.mk (gm_ hg (blkl_ BK204)); have n11_ := Aside0.mk (gn_ hg (blkl_ BK205)); have n12_ := Aside0.mk (gm_ hg (blkl_ BK205)); clear HO213; clear HO219; clear HO226; clear BK204; clear BK205; clear HB; have HO213 := n0_; have HO219 := n1_; have HO226 := n2_; have BK204 := n3_; have BK205 := n4_; have HB := n5_; have BK227 := n6_; have GW227 := n7_; have GE227 := n8_; have NB204_227 := n9_; have NB227_204 := n10_; have NB205_227 := n11_; have NB227_205 := n12_; clear n0_ n1_ n2_ n3_ n4_ n5_ n6_ n7_ n8_ n9_ n10_ n11_ n12_; clear hb hbox hg; have hnb116 := NB227_204.out; have hnc116 := NB204_227.out; have hnb117 := NB227_205.out; have hnc117 := NB205_227.out; obtain ⟨hcz118_0, hcz118_1, hcz118_2, hcz118_3, hfz118_0, hfz118_1, hfz118_2, hfz118_3⟩ := cellsF4 BK227.out; obtain ⟨Ao119, co119, eo119⟩ := Kd.S_slice HO226.out; subst eo119; obtain ⟨hcz120_0, hcz120_1, hcz120_2, hcz120_3, hfz120_0, hfz120_1, hfz120_2, hfz120_3⟩ := cellsF4 BK205.out) | ((with_reducible refine gate_callee (f := 15) rfl ?_); refine gl_ 28 Try.func15 #[.agg #[.string a1_0, .string a1_1, .int .i64 a1_2, .slice A1_3 l1_3.length c1_3]] ?_ rfl rfl rfl rfl; (with_reducible refine (laws_toParcel.calls k a1_0 a1_1 a1_2 _ _ l1_3 t228 t229 t230 t231 _ ?side1 ?side2 A23.out).mono ?_); (case side1 => exact au9_46); (case side2 => exact HC1_3.out); rintro e w121 ⟨v232, rfl, ho0, hb⟩; refine ⟨_, rfl, ?_⟩; have n0_ := Aside0.mk (Kd.S_elder' au9_16 (Kd.S_base ho0) hb); have n1_ := Aside0.mk (Kd.S_elder' au9_17 (Kd.S_base ho0) hb); have n2_ := Aside0.mk (Kd.S_elder' au9_18 (Kd.S_base ho0) hb); have n3_ := Aside0.mk (Kd.S_lower (Kd.S_new' (Kd.S_new' (Kd.S_new' ho0 (Kd.S_lt au9_16)) (Kd.S_lt au9_17)) (Kd.S_lt au9_18)) (below_size bl_)); have n4_ := Aside0.mk (blk_below (g := gb204) (o := .cells #[.string a0_0, .string a0_1, .int .i64 a0_2, .slice A0_3 l0_3.length c0_3] 35 (0, 0)) au9_6 hb); have n5_ := Aside0.mk (blk_below (g := gb205) (o := .cells #[.string a1_0, .string a1_1, .int .i64 a1_2, .slice A1_3 l1_3.length c1_3] 35 (0, 0)) au9_7 hb); have n6_ := Aside0.mk (blk_below (g := gb227) (o := .cells #[.string t221, .string t222, .int .i64 t223, .slice Ao119 t224.length co119] 40 (0, 0)) au9_2 hb); have n7_ := Aside0.mk (below_step bl_ hb); clear HO213; clear HO219; clear HO226; clear BK204; clear BK205; clear BK227; clear HB; have HO213 := n0_; have HO219 := n1_; have HO226 := n2_; have HO233 := n3_; have BK204 := n4_; have BK205 := n5_; have BK227 := n6_; have HB := n7_; clear n0_ n1_ n2_ n3_ n4_ n5_ n6_ n7_; (try clear hb); (try clear hb2); (try clear hk); (try clear hi); (try clear ho0)) | ((with_reducible refine gate_dst (N := 8) rfl ?_); refine box_event ?hg (N := 8) ?hd (cs := #[.string (⟨#[]⟩ : ByteArray), .string (⟨#[]⟩ : ByteArray), .int .i64 0, .slice none 0 0]) (t := 40) ?hr ?_; (case hd => rfl); (case hg => rfl); (case hr => exact hr_); intro gb234 hg w122 hbox hb; have n0_ := Aside0.mk (Kd.S_below au9_0 hb); have n1_ := Aside0.mk (Kd.S_below au9_1 hb); have n2_ := Aside0.mk (Kd.S_below au9_5 hb); have n3_ := Aside0.mk (Kd.S_below au9_11 hb); have n4_ := Aside0.mk (blkb_ BK204 hb); have n5_ := Aside0.mk (blkb_ BK205 hb); have n6_ := Aside0.mk (blkb_ BK227 hb); have n7_ := Aside0.mk (below_step bl_ hb); have n8_ := Aside0.mk (hbox); have n9_ := Aside0.mk (gw_ hg bl_); have n10_ := Aside0.mk (gw_ hg bl_); have n11_ := Aside0.mk (gn_ hg (blkl_ BK204)); have n12_ := Aside0.mk (gm_ hg (blkl_ BK204)); have n13_ := Aside0.mk (gn_ hg (blkl_ BK205)); have n14_ := Aside0.mk (gm_ hg (blkl_ BK205)); have n15_ := Aside0.mk (gn_ hg (blkl_ BK227)); have n16_ := Aside0.mk (gm_ hg (blkl_ BK227)); clear HO213; clear HO219; clear HO226; clear HO233; clear BK204; clear BK205; clear BK227; clear HB; have HO213 := n0_; have HO219 := n1_; have HO226 := n2_; have HO233 := n3_; have BK204 := n4_; have BK205 := n5_; have BK227 := n6_; have HB := n7_; have BK234 := n8_; have GW234 := n9_; have GE234 := n10_; have NB204_234 := n11_; have NB234_204 := n12_; have NB205_234 := n13_; have NB234_205 := n14_; have NB227_234 := n15_; have NB234_227 := n16_; clear n0_ n1_ n2_ n3_ n4_ n5_ n6_ n7_ n8_ n9_ n10_ n11_ n12_ n13_ n14_ n15_ n16_; clear hb hbox hg; have hnb123 := NB234_204.out; have hnc123 := NB204_234.out; have hnb124 := NB234_205.out; have hnc124 := NB205_234.out; have hnb125 := NB234_227.out; have hnc125 := NB227_234.out; obtain ⟨hcz126_0, hcz126_1, hcz126_2, hcz126_3, hfz126_0, hfz126_1, hfz126_2, hfz126_3⟩ := cellsF4 BK234.out; obtain ⟨Ao127, co127, eo127⟩ := Kd.S_slice HO233.out; subst eo127; obtain ⟨hcz128_0, hcz128_1, hcz128_2, hcz128_3, hfz128_0, hfz128_1, hfz128_2, hfz128_3⟩ := cellsF4 BK227.out) | ((with_reducible refine gate_callee (f := 16) rfl ?_); refine gl_ 31 Try.func16 #[.agg #[.string t221, .string t222, .int .i64 t223, .slice Ao119 t224.length co119], .agg #[.string t228, .string t229, .int .i64 t230, .slice Ao127 t231.length co127]] ?_ rfl rfl rfl rfl; (with_reducible refine (impl_ParcelSame.calls k t221 t222 t223 _ _ t224 t228 t229 t230 _ _ t231 t235 _ ?side1 ?side2 ?side3 ?side4 A24.out).mono ?_); (case side1 => refine (Kd.S_reads' (e := 30) (base := w.heap.size) (ok := fun k_ => (((True ∧ some k_ ≠ (.slice Ao110 t211.length co110 : Value).ownBlock) ∧ some k_ ≠ (.slice Ao111 t217.length co111 : Value).ownBlock) ∧ some k_ ≠ (.slice Ao127 t231.length co127 : Value).ownBlock)) (n := t224.length) (c := co119) ?_).2.2; exact au9_19); (case side2 => exact au9_41); (case side3 => refine (Kd.S_reads' (e := 30) (base := w.heap.size) (ok := fun k_ => (((True ∧ some k_ ≠ (.slice Ao110 t211.length co110 : Value).ownBlock) ∧ some k_ ≠ (.slice Ao111 t217.length co111 : Value).ownBlock) ∧ some k_ ≠ (.slice Ao119 t224.length co119 : Value).ownBlock)) (n := t231.length) (c := co127) ?_).2.2; exact au9_20); (case side4 => exact au9_42); rintro e w129 ⟨rfl, hb⟩; refine ⟨_, rfl, ?_⟩; have n0_ := Aside0.mk (Kd.S_below (by (with_reducible repeat (first | apply Kd.S_alloc | apply Kd.S_drewN | apply Kd.S_drew)); exact (Kd.S_mono (Kd.S_far (p := ⟨gb234, 3, none⟩) (Kd.S_far (p := ⟨gb234, 2, none⟩) (Kd.S_far (p := ⟨gb234, 1, none⟩) (Kd.S_far (p := ⟨gb234, 0, none⟩) (Kd.S_types HO213.out BK234.out (by decide)) (fun _ hk => hk.2) (.string t228)) (fun _ hk => hk.2) (.string t229)) (fun _ hk => hk.2) (.int .i64 t230)) (fun _ hk => hk.2) (.slice Ao127 t231.length co127)) (fun _ h_ => h_.1))) hb); have n1_ := Aside0.mk (Kd.S_below (by (with_reducible repeat (first | apply Kd.S_alloc | apply Kd.S_drewN | apply Kd.S_drew)); exact (Kd.S_mono (Kd.S_far (p := ⟨gb234, 3, none⟩) (Kd.S_far (p := ⟨gb234, 2, none⟩) (Kd.S_far (p := ⟨gb234, 1, none⟩) (Kd.S_far (p := ⟨gb234, 0, none⟩) (Kd.S_types HO219.out BK234.out (by decide)) (fun _ hk => hk.2) (.string t228)) (fun _ hk => hk.2) (.string t229)) (fun _ hk => hk.2) (.int .i64 t230)) (fun _ hk => hk.2) (.slice Ao127 t231.length co127)) (fun _ h_ => h_.1))) hb); have n2_ := Aside0.mk (Kd.S_below au9_19 hb); have n3_ := Aside0.mk (Kd.S_below au9_20 hb); have n4_ := Aside0.mk (blk_below (g := gb204) (o := .cells #[.string a0_0, .string a0_1, .int .i64 a0_2, .slice A0_3 l0_3.length c0_3] 35 (0, 0)) au9_8 hb); have n5_ := Aside0.mk (blk_below (g := gb205) (o := .cells #[.string a1_0, .string a1_1, .int .i64 a1_2, .slice A1_3 l1_3.length c1_3] 35 (0, 0)) au9_9 hb); have n6_ := Aside0.mk (blk_below (g := gb227) (o := .cells #[.string t221, .string t222, .int .i64 t223, .slice Ao119 t224.length co119] 40 (0, 0)) au9_10 hb); have n7_ := Aside0.mk (blk_below (g := gb234) (o := .cells #[.string t228, .string t229, .int .i64 t230, .slice Ao127 t231.length co127] 40 (0, 0)) au9_3 hb); have n8_ := Aside0.mk (below_step bl_ hb); clear HO213; clear HO219; clear HO226; clear HO233; clear BK204; clear BK205; clear BK227; clear BK234; clear HB; have HO213 := n0_; have HO219 := n1_; have HO226 := n2_; have HO233 := n3_; have BK204 := n4_; have BK205 := n5_; have BK227 := n6_; have BK234 := n7_; have HB := n8_; clear n0_ n1_ n2_ n3_ n4_ n5_ n6_ n7_ n8_; (try clear hb); (try clear hb2); (try clear hk); (try clear hi)))
            have n0_ := Aside0.mk (Kd.S_drew HO213.out)
            have n1_ := Aside0.mk (Kd.S_drew HO219.out)
            have n2_ := Aside0.mk (Kd.S_drew HO226.out)
            have n3_ := Aside0.mk (Kd.S_drew HO233.out)
            have n4_ := Aside0.mk (blk_drew BK204.out)
            have n5_ := Aside0.mk (blk_drew BK205.out)
            have n6_ := Aside0.mk (blk_drew BK227.out)
            have n7_ := Aside0.mk (blk_drew BK234.out)
            have n8_ := Aside0.mk (below_drew1 HB.out)
            clear HO213
            clear HO219
            clear HO226
            clear HO233
            clear BK204
            clear BK205
            clear BK227
            clear BK234
            clear HB
            have HO213 := n0_
            have HO219 := n1_
            have HO226 := n2_
            have HO233 := n3_
            have BK204 := n4_
            have BK205 := n5_
            have BK227 := n6_
            have BK234 := n7_
            have HB := n8_
            clear n0_ n1_ n2_ n3_ n4_ n5_ n6_ n7_ n8_
            refine start_ (n := 5) (S := fun w' => w'.cell? ⟨gb227, 0, none⟩ = some (.string t221) ∧ w'.cell? ⟨gb227, 1, none⟩ = some (.string t222) ∧ w'.cell? ⟨gb227, 2, none⟩ = some (.int .i64 t223) ∧ w'.cell? ⟨gb227, 3, none⟩ = some (.slice Ao119 t224.length co119) ∧ w'.cell? ⟨gb204, 0, none⟩ = some (.string a0_0) ∧ w'.cell? ⟨gb204, 1, none⟩ = some (.string a0_1) ∧ w'.cell? ⟨gb204, 2, none⟩ = some (.int .i64 a0_2) ∧ w'.cell? ⟨gb204, 3, none⟩ = some (.slice A0_3 l0_3.length c0_3)) (ds := []) #[false, false, false, false, false] (by kernel_rfl) rfl rfl ⟨(blk_cell BK227.out 0).trans rfl, (blk_cell BK227.out 1).trans rfl, (blk_cell BK227.out 2).trans rfl, (blk_cell BK227.out 3).trans rfl, (blk_cell BK204.out 0).trans rfl, (blk_cell BK204.out 1).trans rfl, (blk_cell BK204.out 2).trans rfl, (blk_cell BK204.out 3).trans rfl⟩ (fun hHeld => ?_)
            generalize w129.drew = w130 at HO213 HO219 HO226 HO233 BK204 BK205 BK227 BK234 HB hHeld ⊢
            refine take_ (i := 0) (N := some 35) (v := ?_) (a' := ?_) #[true, false, false, false, false] rfl rfl (by kernel_rfl) (fun _ _ _ h => h) (Or.inl ⟨by rfl, ?_⟩) hHeld ?_ ?_
            rotate_left
            · rintro w' ⟨s0, s1, s2, s3, s4, s5, s6, s7⟩
              go_simp
              with_reducible rfl
            rotate_left
            · simp only [Act.put, List.setIfInBounds_toArray, List.set_cons_zero, List.set_cons_succ, i64_w, i32_w]
              rfl
            refine take_ (i := 1) (N := some 36) (v := ?_) (a' := ?_) #[true, true, false, false, false] rfl rfl (by kernel_rfl) (fun _ _ _ h => h) (Or.inl ⟨by rfl, ?_⟩) hHeld ?_ ?_
            rotate_left
            · rintro w' ⟨s0, s1, s2, s3, s4, s5, s6, s7⟩
              go_simp
              with_reducible rfl
            rotate_left
            · simp only [Act.put, List.setIfInBounds_toArray, List.set_cons_zero, List.set_cons_succ, i64_w, i32_w]
              rfl
            refine one_ (i := 2) (N := some 37) #[true, true, true, false, false] rfl rfl (by kernel_rfl) (by decide) (fun K hK => ?_)
            refine gr_ Try.func15 #[.agg #[.string a0_0, .string a0_1, .int .i64 a0_2, .slice A0_3 l0_3.length c0_3]] (by rfl) ?_ rfl rfl rfl
            with_reducible refine (laws_toParcel.calls k a0_0 a0_1 a0_2 _ _ l0_3 t236 t237 t238 t239 _ ?side1 ?side2 A56.out).mono ?_
            (case side1 => exact au9_4)
            (case side2 => exact HC0_3.out)
            rintro e w131 ⟨v240, rfl, ho0, hb⟩
            refine ⟨_, rfl, ?_⟩
            have n0_ := Aside0.mk (Kd.S_elder' au9_0 (Kd.S_base ho0) hb)
            have n1_ := Aside0.mk (Kd.S_elder' au9_1 (Kd.S_base ho0) hb)
            have n2_ := Aside0.mk (Kd.S_elder' au9_5 (Kd.S_base ho0) hb)
            have n3_ := Aside0.mk (Kd.S_elder' au9_11 (Kd.S_base ho0) hb)
            have n4_ := Aside0.mk (Kd.S_lower (Kd.S_new' (Kd.S_new' (Kd.S_new' (Kd.S_new' ho0 (Kd.S_lt au9_0)) (Kd.S_lt au9_1)) (Kd.S_lt au9_5)) (Kd.S_lt au9_11)) (below_size bl_))
            have n5_ := Aside0.mk (blkb_ BK204 hb)
            have n6_ := Aside0.mk (blkb_ BK205 hb)
            have n7_ := Aside0.mk (blkb_ BK227 hb)
            have n8_ := Aside0.mk (blkb_ BK234 hb)
            have n9_ := Aside0.mk (below_step bl_ hb)
            clear HO213
            clear HO219
            clear HO226
            clear HO233
            clear BK204
            clear BK205
            clear BK227
            clear BK234
            clear HB
            have HO213 := n0_
            have HO219 := n1_
            have HO226 := n2_
            have HO233 := n3_
            have HO241 := n4_
            have BK204 := n5_
            have BK205 := n6_
            have BK227 := n7_
            have BK234 := n8_
            have HB := n9_
            clear n0_ n1_ n2_ n3_ n4_ n5_ n6_ n7_ n8_ n9_
            (try clear hb)
            (try clear hb2)
            (try clear hk)
            (try clear hi)
            (try clear ho0)
            obtain ⟨Ao132, co132, eo132⟩ := Kd.S_slice HO241.out
            (first | subst eo132 | (injection eo132 with f1_ f2_ f3_; have f4_ := f1_.symm; have f5_ := f3_.symm; clear f1_ f2_ f3_; subst f4_; subst f5_))
            refine hK.out _ _ ⟨(blk_cell BK227.out 0).trans rfl, (blk_cell BK227.out 1).trans rfl, (blk_cell BK227.out 2).trans rfl, (blk_cell BK227.out 3).trans rfl, (blk_cell BK204.out 0).trans rfl, (blk_cell BK204.out 1).trans rfl, (blk_cell BK204.out 2).trans rfl, (blk_cell BK204.out 3).trans rfl⟩ (fun hHeld => ?_)
            clear hK K
            refine norm_ (a' := ?_) ?_ ?_
            rotate_left
            · show Act.put _ (some 37) _ = _
              simp only [Act.put, List.setIfInBounds_toArray, List.set_cons_zero, List.set_cons_succ, i64_w, i32_w]
              rfl
            refine one_ (i := 3) (N := some 38) #[true, true, true, true, false] rfl rfl (by kernel_rfl) (by decide) (fun K hK => ?_)
            refine gr_ Try.func17 #[.agg #[.string t221, .string t222, .int .i64 t223, .slice Ao119 t224.length co119], .agg #[.string t236, .string t237, .int .i64 t238, .slice Ao132 t239.length co132]] (by rfl) ?_ rfl rfl rfl
            with_reducible refine (laws_eqParcel.calls k t221 t222 t223 _ _ t224 t236 t237 t238 _ _ t239 true _ ?side1 ?side2 ?side3 ?side4 A57.out).mono ?_
            (case side1 => exact au9_37)
            (case side2 => exact au9_41)
            (case side3 => exact au9_38)
            (case side4 => exact (Kd.S_reads' HO241.out).2.1)
            rintro e w133 ⟨rfl, hb⟩
            refine ⟨_, rfl, ?_⟩
            have n0_ := Aside0.mk (Kd.S_below au9_0 hb)
            have n1_ := Aside0.mk (Kd.S_below au9_1 hb)
            have n2_ := Aside0.mk (Kd.S_below au9_5 hb)
            have n3_ := Aside0.mk (Kd.S_below au9_11 hb)
            have n4_ := Aside0.mk (Kd.S_below au9_13 hb)
            have n5_ := Aside0.mk (blkb_ BK204 hb)
            have n6_ := Aside0.mk (blkb_ BK205 hb)
            have n7_ := Aside0.mk (blkb_ BK227 hb)
            have n8_ := Aside0.mk (blkb_ BK234 hb)
            have n9_ := Aside0.mk (below_step bl_ hb)
            clear HO213
            clear HO219
            clear HO226
            clear HO233
            clear HO241
            clear BK204
            clear BK205
            clear BK227
            clear BK234
            clear HB
            have HO213 := n0_
            have HO219 := n1_
            have HO226 := n2_
            have HO233 := n3_
            have HO241 := n4_
            have BK204 := n5_
            have BK205 := n6_
            have BK227 := n7_
            have BK234 := n8_
            have HB := n9_
            clear n0_ n1_ n2_ n3_ n4_ n5_ n6_ n7_ n8_ n9_
            (try clear hb)
            (try clear hb2)
            (try clear hk)
            (try clear hi)
            refine hK.out _ _ ⟨(blk_cell BK227.out 0).trans rfl, (blk_cell BK227.out 1).trans rfl, (blk_cell BK227.out 2).trans rfl, (blk_cell BK227.out 3).trans rfl, (blk_cell BK204.out 0).trans rfl, (blk_cell BK204.out 1).trans rfl, (blk_cell BK204.out 2).trans rfl, (blk_cell BK204.out 3).trans rfl⟩ (fun hHeld => ?_)
            clear hK K
            refine norm_ (a' := ?_) ?_ ?_
            rotate_left
            · show Act.put _ (some 38) _ = _
              simp only [Act.put, List.setIfInBounds_toArray, List.set_cons_zero, List.set_cons_succ, i64_w, i32_w]
              rfl
            refine pure_ (i := 4) (N := some 39) (v := ?_) (a' := ?_) #[true, true, true, true, true] rfl rfl (by kernel_rfl) (fun _ _ _ h => h) (Or.inl ⟨by rfl, ?_⟩) ?_ ?_
            rotate_left
            · intro w'
              go_simp
              with_reducible rfl
            rotate_left
            · simp only [Act.put, List.setIfInBounds_toArray, List.set_cons_zero, List.set_cons_succ, i64_w, i32_w]
              rfl
            refine done_ (by kernel_rfl) ?_
            try go_wp2
            have n0_ := Aside0.mk (Kd.S_drew HO213.out)
            have n1_ := Aside0.mk (Kd.S_drew HO219.out)
            have n2_ := Aside0.mk (Kd.S_drew HO226.out)
            have n3_ := Aside0.mk (Kd.S_drew HO233.out)
            have n4_ := Aside0.mk (Kd.S_drew HO241.out)
            have n5_ := Aside0.mk (blk_drew BK204.out)
            have n6_ := Aside0.mk (blk_drew BK205.out)
            have n7_ := Aside0.mk (blk_drew BK227.out)
            have n8_ := Aside0.mk (blk_drew BK234.out)
            have n9_ := Aside0.mk (below_drew1 HB.out)
            clear HO213
            clear HO219
            clear HO226
            clear HO233
            clear HO241
            clear BK204
            clear BK205
            clear BK227
            clear BK234
            clear HB
            have HO213 := n0_
            have HO219 := n1_
            have HO226 := n2_
            have HO233 := n3_
            have HO241 := n4_
            have BK204 := n5_
            have BK205 := n6_
            have BK227 := n7_
            have BK234 := n8_
            have HB := n9_
            clear n0_ n1_ n2_ n3_ n4_ n5_ n6_ n7_ n8_ n9_
            refine start_ (n := 5) (S := fun w' => w'.cell? ⟨gb234, 0, none⟩ = some (.string t228) ∧ w'.cell? ⟨gb234, 1, none⟩ = some (.string t229) ∧ w'.cell? ⟨gb234, 2, none⟩ = some (.int .i64 t230) ∧ w'.cell? ⟨gb234, 3, none⟩ = some (.slice Ao127 t231.length co127) ∧ w'.cell? ⟨gb205, 0, none⟩ = some (.string a1_0) ∧ w'.cell? ⟨gb205, 1, none⟩ = some (.string a1_1) ∧ w'.cell? ⟨gb205, 2, none⟩ = some (.int .i64 a1_2) ∧ w'.cell? ⟨gb205, 3, none⟩ = some (.slice A1_3 l1_3.length c1_3)) (ds := []) #[false, false, false, false, false] (by kernel_rfl) rfl rfl ⟨(blk_cell BK234.out 0).trans rfl, (blk_cell BK234.out 1).trans rfl, (blk_cell BK234.out 2).trans rfl, (blk_cell BK234.out 3).trans rfl, (blk_cell BK205.out 0).trans rfl, (blk_cell BK205.out 1).trans rfl, (blk_cell BK205.out 2).trans rfl, (blk_cell BK205.out 3).trans rfl⟩ (fun hHeld => ?_)
            generalize w133.drew = w134 at HO213 HO219 HO226 HO233 HO241 BK204 BK205 BK227 BK234 HB hHeld ⊢
            refine take_ (i := 0) (N := some 40) (v := ?_) (a' := ?_) #[true, false, false, false, false] rfl rfl (by kernel_rfl) (fun _ _ _ h => h) (Or.inl ⟨by rfl, ?_⟩) hHeld ?_ ?_
            rotate_left
            · rintro w' ⟨s0, s1, s2, s3, s4, s5, s6, s7⟩
              go_simp
              with_reducible rfl
            rotate_left
            · simp only [Act.put, List.setIfInBounds_toArray, List.set_cons_zero, List.set_cons_succ, i64_w, i32_w]
              rfl
            refine take_ (i := 1) (N := some 41) (v := ?_) (a' := ?_) #[true, true, false, false, false] rfl rfl (by kernel_rfl) (fun _ _ _ h => h) (Or.inl ⟨by rfl, ?_⟩) hHeld ?_ ?_
            rotate_left
            · rintro w' ⟨s0, s1, s2, s3, s4, s5, s6, s7⟩
              go_simp
              with_reducible rfl
            rotate_left
            · simp only [Act.put, List.setIfInBounds_toArray, List.set_cons_zero, List.set_cons_succ, i64_w, i32_w]
              rfl
            refine one_ (i := 2) (N := some 42) #[true, true, true, false, false] rfl rfl (by kernel_rfl) (by decide) (fun K hK => ?_)
            refine gr_ Try.func15 #[.agg #[.string a1_0, .string a1_1, .int .i64 a1_2, .slice A1_3 l1_3.length c1_3]] (by rfl) ?_ rfl rfl rfl
            with_reducible refine (laws_toParcel.calls k a1_0 a1_1 a1_2 _ _ l1_3 t243 t244 t245 t246 _ ?side1 ?side2 A59.out).mono ?_
            (case side1 => exact au9_12)
            (case side2 => exact HC1_3.out)
            rintro e w135 ⟨v247, rfl, ho0, hb⟩
            refine ⟨_, rfl, ?_⟩
            have n0_ := Aside0.mk (Kd.S_elder' au9_0 (Kd.S_base ho0) hb)
            have n1_ := Aside0.mk (Kd.S_elder' au9_1 (Kd.S_base ho0) hb)
            have n2_ := Aside0.mk (Kd.S_elder' au9_5 (Kd.S_base ho0) hb)
            have n3_ := Aside0.mk (Kd.S_elder' au9_11 (Kd.S_base ho0) hb)
            have n4_ := Aside0.mk (Kd.S_elder' au9_13 (Kd.S_base ho0) hb)
            have n5_ := Aside0.mk (Kd.S_lower (Kd.S_new' (Kd.S_new' (Kd.S_new' (Kd.S_new' (Kd.S_new' ho0 (Kd.S_lt au9_0)) (Kd.S_lt au9_1)) (Kd.S_lt au9_5)) (Kd.S_lt au9_11)) (Kd.S_lt au9_13)) (below_size bl_))
            have n6_ := Aside0.mk (blkb_ BK204 hb)
            have n7_ := Aside0.mk (blkb_ BK205 hb)
            have n8_ := Aside0.mk (blkb_ BK227 hb)
            have n9_ := Aside0.mk (blkb_ BK234 hb)
            have n10_ := Aside0.mk (below_step bl_ hb)
            clear HO213
            clear HO219
            clear HO226
            clear HO233
            clear HO241
            clear BK204
            clear BK205
            clear BK227
            clear BK234
            clear HB
            have HO213 := n0_
            have HO219 := n1_
            have HO226 := n2_
            have HO233 := n3_
            have HO241 := n4_
            have HO248 := n5_
            have BK204 := n6_
            have BK205 := n7_
            have BK227 := n8_
            have BK234 := n9_
            have HB := n10_
            clear n0_ n1_ n2_ n3_ n4_ n5_ n6_ n7_ n8_ n9_ n10_
            (try clear hb)
            (try clear hb2)
            (try clear hk)
            (try clear hi)
            (try clear ho0)
            obtain ⟨Ao136, co136, eo136⟩ := Kd.S_slice HO248.out
            (first | subst eo136 | (injection eo136 with f1_ f2_ f3_; have f4_ := f1_.symm; have f5_ := f3_.symm; clear f1_ f2_ f3_; subst f4_; subst f5_))
            refine hK.out _ _ ⟨(blk_cell BK234.out 0).trans rfl, (blk_cell BK234.out 1).trans rfl, (blk_cell BK234.out 2).trans rfl, (blk_cell BK234.out 3).trans rfl, (blk_cell BK205.out 0).trans rfl, (blk_cell BK205.out 1).trans rfl, (blk_cell BK205.out 2).trans rfl, (blk_cell BK205.out 3).trans rfl⟩ (fun hHeld => ?_)
            clear hK K
            refine norm_ (a' := ?_) ?_ ?_
            rotate_left
            · show Act.put _ (some 42) _ = _
              simp only [Act.put, List.setIfInBounds_toArray, List.set_cons_zero, List.set_cons_succ, i64_w, i32_w]
              rfl
            refine one_ (i := 3) (N := some 43) #[true, true, true, true, false] rfl rfl (by kernel_rfl) (by decide) (fun K hK => ?_)
            refine gr_ Try.func17 #[.agg #[.string t228, .string t229, .int .i64 t230, .slice Ao127 t231.length co127], .agg #[.string t243, .string t244, .int .i64 t245, .slice Ao136 t246.length co136]] (by rfl) ?_ rfl rfl rfl
            with_reducible refine (laws_eqParcel.calls k t228 t229 t230 _ _ t231 t243 t244 t245 _ _ t246 false _ ?side1 ?side2 ?side3 ?side4 A60.out).mono ?_
            (case side1 => exact au9_39)
            (case side2 => exact au9_42)
            (case side3 => exact au9_40)
            (case side4 => exact (Kd.S_reads' HO248.out).2.1)
            rintro e w137 ⟨rfl, hb⟩
            refine ⟨_, rfl, ?_⟩
            have n0_ := Aside0.mk (Kd.S_below au9_0 hb)
            have n1_ := Aside0.mk (Kd.S_below au9_1 hb)
            have n2_ := Aside0.mk (Kd.S_below au9_5 hb)
            have n3_ := Aside0.mk (Kd.S_below au9_11 hb)
            have n4_ := Aside0.mk (Kd.S_below au9_13 hb)
            have n5_ := Aside0.mk (Kd.S_below au9_43 hb)
            have n6_ := Aside0.mk (blkb_ BK204 hb)
            have n7_ := Aside0.mk (blkb_ BK205 hb)
            have n8_ := Aside0.mk (blkb_ BK227 hb)
            have n9_ := Aside0.mk (blkb_ BK234 hb)
            have n10_ := Aside0.mk (below_step bl_ hb)
            clear HO213
            clear HO219
            clear HO226
            clear HO233
            clear HO241
            clear HO248
            clear BK204
            clear BK205
            clear BK227
            clear BK234
            clear HB
            have HO213 := n0_
            have HO219 := n1_
            have HO226 := n2_
            have HO233 := n3_
            have HO241 := n4_
            have HO248 := n5_
            have BK204 := n6_
            have BK205 := n7_
            have BK227 := n8_
            have BK234 := n9_
            have HB := n10_
            clear n0_ n1_ n2_ n3_ n4_ n5_ n6_ n7_ n8_ n9_ n10_
            (try clear hb)
            (try clear hb2)
            (try clear hk)
            (try clear hi)
            refine hK.out _ _ ⟨(blk_cell BK234.out 0).trans rfl, (blk_cell BK234.out 1).trans rfl, (blk_cell BK234.out 2).trans rfl, (blk_cell BK234.out 3).trans rfl, (blk_cell BK205.out 0).trans rfl, (blk_cell BK205.out 1).trans rfl, (blk_cell BK205.out 2).trans rfl, (blk_cell BK205.out 3).trans rfl⟩ (fun hHeld => ?_)
            clear hK K
            refine norm_ (a' := ?_) ?_ ?_
            rotate_left
            · show Act.put _ (some 43) _ = _
              simp only [Act.put, List.setIfInBounds_toArray, List.set_cons_zero, List.set_cons_succ, i64_w, i32_w]
              rfl
            refine pure_ (i := 4) (N := some 44) (v := ?_) (a' := ?_) #[true, true, true, true, true] rfl rfl (by kernel_rfl) (fun _ _ _ h => h) (Or.inl ⟨by rfl, ?_⟩) ?_ ?_
            rotate_left
            · intro w'
              go_simp
              with_reducible rfl
            rotate_left
            · simp only [Act.put, List.setIfInBounds_toArray, List.set_cons_zero, List.set_cons_succ, i64_w, i32_w]
              rfl
            refine done_ (by kernel_rfl) ?_
            try go_wp2
            go_ret
            exact ⟨au9_36, bl_⟩
        · replace c58 := Bool.eq_false_iff.mpr c58
          subst c58
          have H1 : (some false) = some r := by rw [if_neg (show ¬ (false = true) by decide)] at H; exact H
          clear H
          have H := H1
          clear H1
          obtain rfl := Option.some.inj H
          go_enter Try.func4, Try.ntmps4
          try go_wp2_with (first | ((with_reducible refine gate_dst (N := 2) rfl ?_); refine box_event ?hg (N := 2) ?hd (cs := #[.string a0_0, .string a0_1, .int .i64 a0_2, .slice A0_3 l0_3.length c0_3]) (t := 35) ?hr ?_; (case hd => rfl); (case hg => rfl); (case hr => exact hr_); intro gb204 hg w138 hbox hb; have n0_ := Aside0.mk (below_step bl_ hb); have n1_ := Aside0.mk (hbox); have n2_ := Aside0.mk (gw_ hg bl_); have n3_ := Aside0.mk (gw_ hg bl_); clear HB; have HB := n0_; have BK204 := n1_; have GW204 := n2_; have GE204 := n3_; clear n0_ n1_ n2_ n3_; clear hb hbox hg) | ((with_reducible refine gate_dst (N := 3) rfl ?_); refine box_event ?hg (N := 3) ?hd (cs := #[.string a1_0, .string a1_1, .int .i64 a1_2, .slice A1_3 l1_3.length c1_3]) (t := 35) ?hr ?_; (case hd => rfl); (case hg => rfl); (case hr => exact hr_); intro gb205 hg w139 hbox hb; have n0_ := Aside0.mk (blkb_ BK204 hb); have n1_ := Aside0.mk (below_step bl_ hb); have n2_ := Aside0.mk (hbox); have n3_ := Aside0.mk (gw_ hg bl_); have n4_ := Aside0.mk (gw_ hg bl_); have n5_ := Aside0.mk (gn_ hg (blkl_ BK204)); have n6_ := Aside0.mk (gm_ hg (blkl_ BK204)); clear BK204; clear HB; have BK204 := n0_; have HB := n1_; have BK205 := n2_; have GW205 := n3_; have GE205 := n4_; have NB204_205 := n5_; have NB205_204 := n6_; clear n0_ n1_ n2_ n3_ n4_ n5_ n6_; clear hb hbox hg; have hnb140 := NB204_205.out; have hnc140 := NB205_204.out; obtain ⟨hcz141_0, hcz141_1, hcz141_2, hcz141_3, hfz141_0, hfz141_1, hfz141_2, hfz141_3⟩ := cellsF4 BK204.out) | ((with_reducible refine gate_callee (f := 13) rfl ?_); refine gl_ 12 Try.func13 #[.agg #[.string a0_0, .string a0_1, .int .i64 a0_2, .slice A0_3 l0_3.length c0_3], .int .i64 1048576] ?_ rfl rfl rfl rfl; (with_reducible refine (laws_szParcel.calls k a0_0 a0_1 a0_2 _ _ l0_3 1048576 t206 _ ?side1 ?side2 A3.out).mono ?_); (case side1 => exact au9_4); (case side2 => exact HC0_3.out); rintro e w142 ⟨rfl, hb⟩; refine ⟨_, rfl, ?_⟩; have n0_ := Aside0.mk (blkb_ BK204 hb); have n1_ := Aside0.mk (blkb_ BK205 hb); have n2_ := Aside0.mk (below_step bl_ hb); clear BK204; clear BK205; clear HB; have BK204 := n0_; have BK205 := n1_; have HB := n2_; clear n0_ n1_ n2_; (try clear hb); (try clear hb2); (try clear hk); (try clear hi); obtain ⟨hcz143_0, hcz143_1, hcz143_2, hcz143_3, hfz143_0, hfz143_1, hfz143_2, hfz143_3⟩ := cellsF4 BK205.out) | ((with_reducible refine gate_callee (f := 13) rfl ?_); refine gl_ 17 Try.func13 #[.agg #[.string a1_0, .string a1_1, .int .i64 a1_2, .slice A1_3 l1_3.length c1_3], .int .i64 t206] ?_ rfl rfl rfl rfl; (with_reducible refine (laws_szParcel.calls k a1_0 a1_1 a1_2 _ _ l1_3 t206 t207 _ ?side1 ?side2 A10.out).mono ?_); (case side1 => exact au9_12); (case side2 => exact HC1_3.out); rintro e w144 ⟨rfl, hb⟩; refine ⟨_, rfl, ?_⟩; have n0_ := Aside0.mk (blkb_ BK204 hb); have n1_ := Aside0.mk (blkb_ BK205 hb); have n2_ := Aside0.mk (below_step bl_ hb); clear BK204; clear BK205; clear HB; have BK204 := n0_; have BK205 := n1_; have HB := n2_; clear n0_ n1_ n2_; (try clear hb); (try clear hb2); (try clear hk); (try clear hi)))
          have n0_ := Aside0.mk (blk_drew BK204.out)
          have n1_ := Aside0.mk (blk_drew BK205.out)
          have n2_ := Aside0.mk (below_drew1 HB.out)
          clear BK204
          clear BK205
          clear HB
          have BK204 := n0_
          have BK205 := n1_
          have HB := n2_
          clear n0_ n1_ n2_
          refine start_ (n := 6) (S := fun w' => w'.cell? ⟨gb204, 0, none⟩ = some (.string a0_0) ∧ w'.cell? ⟨gb204, 1, none⟩ = some (.string a0_1) ∧ w'.cell? ⟨gb204, 2, none⟩ = some (.int .i64 a0_2) ∧ w'.cell? ⟨gb204, 3, none⟩ = some (.slice A0_3 l0_3.length c0_3) ∧ w'.cell? ⟨gb205, 0, none⟩ = some (.string a1_0) ∧ w'.cell? ⟨gb205, 1, none⟩ = some (.string a1_1) ∧ w'.cell? ⟨gb205, 2, none⟩ = some (.int .i64 a1_2) ∧ w'.cell? ⟨gb205, 3, none⟩ = some (.slice A1_3 l1_3.length c1_3)) (ds := []) (bs 6 0) (by kernel_rfl) rfl rfl ⟨(blk_cell BK204.out 0).trans rfl, (blk_cell BK204.out 1).trans rfl, (blk_cell BK204.out 2).trans rfl, (blk_cell BK204.out 3).trans rfl, (blk_cell BK205.out 0).trans rfl, (blk_cell BK205.out 1).trans rfl, (blk_cell BK205.out 2).trans rfl, (blk_cell BK205.out 3).trans rfl⟩ (fun hHeld => ?_)
          generalize w144.drew = w145 at BK204 BK205 HB hHeld ⊢
          refine take_ (i := 0) (N := some 20) (v := ?_) (a' := ?_) (bs 6 1) rfl rfl (by kernel_rfl) (fun _ _ _ h => h) (Or.inl ⟨by rfl, ?_⟩) hHeld ?_ ?_
          rotate_left
          · rintro w' ⟨s0, s1, s2, s3, s4, s5, s6, s7⟩
            go_simp
            with_reducible rfl
          rotate_left
          · simp only [Act.put, List.setIfInBounds_toArray, List.set_cons_zero, List.set_cons_succ, i64_w, i32_w]
            rfl
          refine take_ (i := 2) (N := some 22) (v := ?_) (a' := ?_) (bs 6 5) rfl rfl (by kernel_rfl) (fun _ _ _ h => h) (Or.inl ⟨by rfl, ?_⟩) hHeld ?_ ?_
          rotate_left
          · rintro w' ⟨s0, s1, s2, s3, s4, s5, s6, s7⟩
            go_simp
            with_reducible rfl
          rotate_left
          · simp only [Act.put, List.setIfInBounds_toArray, List.set_cons_zero, List.set_cons_succ, i64_w, i32_w]
            rfl
          refine one_ (i := 1) (N := some 21) (bs 6 7) rfl rfl (by kernel_rfl) (by decide) (fun K hK => ?_)
          refine gr_ Try.func15 #[.agg #[.string a0_0, .string a0_1, .int .i64 a0_2, .slice A0_3 l0_3.length c0_3]] (by rfl) ?_ rfl rfl rfl
          with_reducible refine (laws_toParcel.calls k a0_0 a0_1 a0_2 _ _ l0_3 t208 t209 t210 t211 _ ?side1 ?side2 A19.out).mono ?_
          (case side1 => exact au9_4)
          (case side2 => exact HC0_3.out)
          rintro e w146 ⟨v212, rfl, ho0, hb⟩
          refine ⟨_, rfl, ?_⟩
          have n0_ := Aside0.mk (Kd.S_lower ho0 (below_size bl_))
          have n1_ := Aside0.mk (blkb_ BK204 hb)
          have n2_ := Aside0.mk (blkb_ BK205 hb)
          have n3_ := Aside0.mk (below_step bl_ hb)
          clear BK204
          clear BK205
          clear HB
          have HO213 := n0_
          have BK204 := n1_
          have BK205 := n2_
          have HB := n3_
          clear n0_ n1_ n2_ n3_
          (try clear hb)
          (try clear hb2)
          (try clear hk)
          (try clear hi)
          (try clear ho0)
          refine hK.out _ _ ⟨(blk_cell BK204.out 0).trans rfl, (blk_cell BK204.out 1).trans rfl, (blk_cell BK204.out 2).trans rfl, (blk_cell BK204.out 3).trans rfl, (blk_cell BK205.out 0).trans rfl, (blk_cell BK205.out 1).trans rfl, (blk_cell BK205.out 2).trans rfl, (blk_cell BK205.out 3).trans rfl⟩ (fun hHeld => ?_)
          clear hK K
          refine norm_ (a' := ?_) ?_ ?_
          rotate_left
          · show Act.put _ (some 21) _ = _
            simp only [Act.put, List.setIfInBounds_toArray, List.set_cons_zero, List.set_cons_succ, i64_w, i32_w]
            rfl
          refine one_ (i := 3) (N := some 23) (bs 6 15) rfl rfl (by kernel_rfl) (by decide) (fun K hK => ?_)
          refine gr_ Try.func15 #[.agg #[.string a1_0, .string a1_1, .int .i64 a1_2, .slice A1_3 l1_3.length c1_3]] (by rfl) ?_ rfl rfl rfl
          with_reducible refine (laws_toParcel.calls k a1_0 a1_1 a1_2 _ _ l1_3 t214 t215 t216 t217 _ ?side1 ?side2 A20.out).mono ?_
          (case side1 => exact au9_12)
          (case side2 => exact HC1_3.out)
          rintro e w147 ⟨v218, rfl, ho0, hb⟩
          refine ⟨_, rfl, ?_⟩
          have n0_ := Aside0.mk (Kd.S_elder' au9_0 (Kd.S_base ho0) hb)
          have n1_ := Aside0.mk (Kd.S_lower (Kd.S_new' ho0 (Kd.S_lt au9_0)) (below_size bl_))
          have n2_ := Aside0.mk (blkb_ BK204 hb)
          have n3_ := Aside0.mk (blkb_ BK205 hb)
          have n4_ := Aside0.mk (below_step bl_ hb)
          clear HO213
          clear BK204
          clear BK205
          clear HB
          have HO213 := n0_
          have HO219 := n1_
          have BK204 := n2_
          have BK205 := n3_
          have HB := n4_
          clear n0_ n1_ n2_ n3_ n4_
          (try clear hb)
          (try clear hb2)
          (try clear hk)
          (try clear hi)
          (try clear ho0)
          obtain ⟨Ao148, co148, eo148⟩ := Kd.S_slice HO213.out
          (first | subst eo148 | (injection eo148 with f1_ f2_ f3_; have f4_ := f1_.symm; have f5_ := f3_.symm; clear f1_ f2_ f3_; subst f4_; subst f5_))
          obtain ⟨Ao149, co149, eo149⟩ := Kd.S_slice HO219.out
          (first | subst eo149 | (injection eo149 with f1_ f2_ f3_; have f4_ := f1_.symm; have f5_ := f3_.symm; clear f1_ f2_ f3_; subst f4_; subst f5_))
          refine hK.out _ _ ⟨(blk_cell BK204.out 0).trans rfl, (blk_cell BK204.out 1).trans rfl, (blk_cell BK204.out 2).trans rfl, (blk_cell BK204.out 3).trans rfl, (blk_cell BK205.out 0).trans rfl, (blk_cell BK205.out 1).trans rfl, (blk_cell BK205.out 2).trans rfl, (blk_cell BK205.out 3).trans rfl⟩ (fun hHeld => ?_)
          clear hK K
          refine norm_ (a' := ?_) ?_ ?_
          rotate_left
          · show Act.put _ (some 23) _ = _
            simp only [Act.put, List.setIfInBounds_toArray, List.set_cons_zero, List.set_cons_succ, i64_w, i32_w]
            rfl
          refine one_ (i := 4) (N := some 24) (bs 6 31) rfl rfl (by kernel_rfl) (by decide) (fun K hK => ?_)
          refine gr_ Try.func14 #[.agg #[.string t208, .string t209, .int .i64 t210, .slice Ao148 t211.length co148], .agg #[.string t214, .string t215, .int .i64 t216, .slice Ao149 t217.length co149]] (by rfl) ?_ rfl rfl rfl
          with_reducible refine (spec_ParcelSame.calls k t208 t209 t210 _ _ t211 t214 t215 t216 _ _ t217 t220 _ ?side1 ?side2 ?side3 ?side4 A21.out).mono ?_
          (case side1 => exact au9_14)
          (case side2 => exact au9_44)
          (case side3 => exact au9_15)
          (case side4 => exact au9_45)
          rintro e w150 ⟨rfl, hb⟩
          refine ⟨_, rfl, ?_⟩
          have n0_ := Aside0.mk (Kd.S_below au9_0 hb)
          have n1_ := Aside0.mk (Kd.S_below au9_1 hb)
          have n2_ := Aside0.mk (blkb_ BK204 hb)
          have n3_ := Aside0.mk (blkb_ BK205 hb)
          have n4_ := Aside0.mk (below_step bl_ hb)
          clear HO213
          clear HO219
          clear BK204
          clear BK205
          clear HB
          have HO213 := n0_
          have HO219 := n1_
          have BK204 := n2_
          have BK205 := n3_
          have HB := n4_
          clear n0_ n1_ n2_ n3_ n4_
          (try clear hb)
          (try clear hb2)
          (try clear hk)
          (try clear hi)
          refine hK.out _ _ ⟨(blk_cell BK204.out 0).trans rfl, (blk_cell BK204.out 1).trans rfl, (blk_cell BK204.out 2).trans rfl, (blk_cell BK204.out 3).trans rfl, (blk_cell BK205.out 0).trans rfl, (blk_cell BK205.out 1).trans rfl, (blk_cell BK205.out 2).trans rfl, (blk_cell BK205.out 3).trans rfl⟩ (fun hHeld => ?_)
          clear hK K
          refine norm_ (a' := ?_) ?_ ?_
          rotate_left
          · show Act.put _ (some 24) _ = _
            simp only [Act.put, List.setIfInBounds_toArray, List.set_cons_zero, List.set_cons_succ, i64_w, i32_w]
            rfl
          refine pure_ (i := 5) (N := some 6) (v := ?_) (a' := ?_) (bs 6 63) rfl rfl (by kernel_rfl) (fun _ _ _ h => h) (Or.inl ⟨by rfl, ?_⟩) ?_ ?_
          rotate_left
          · intro w'
            go_simp
            with_reducible rfl
          rotate_left
          · simp only [Act.put, List.setIfInBounds_toArray, List.set_cons_zero, List.set_cons_succ, i64_w, i32_w]
            rfl
          refine done_ (by kernel_rfl) ?_
          obtain ⟨hcz151_0, hcz151_1, hcz151_2, hcz151_3, hfz151_0, hfz151_1, hfz151_2, hfz151_3⟩ := cellsF4 BK204.out
          try go_wp2_with (first | ((with_reducible refine gate_callee (f := 15) rfl ?_); refine gl_ 26 Try.func15 #[.agg #[.string a0_0, .string a0_1, .int .i64 a0_2, .slice A0_3 l0_3.length c0_3]] ?_ rfl rfl rfl rfl; (with_reducible refine (laws_toParcel.calls k a0_0 a0_1 a0_2 _ _ l0_3 t221 t222 t223 t224 _ ?side1 ?side2 A22.out).mono ?_); (case side1 => exact au9_4); (case side2 => exact HC0_3.out); rintro e w152 ⟨v225, rfl, ho0, hb⟩; refine ⟨_, rfl, ?_⟩; have n0_ := Aside0.mk (Kd.S_elder' au9_0 (Kd.S_base ho0) hb); have n1_ := Aside0.mk (Kd.S_elder' au9_1 (Kd.S_base ho0) hb); have n2_ := Aside0.mk (Kd.S_lower (Kd.S_new' (Kd.S_new' ho0 (Kd.S_lt au9_0)) (Kd.S_lt au9_1)) (below_size bl_)); have n3_ := Aside0.mk (blkb_ BK204 hb); have n4_ := Aside0.mk (blkb_ BK205 hb); have n5_ := Aside0.mk (below_step bl_ hb); clear HO213; clear HO219; clear BK204; clear BK205; clear HB; have HO213 := n0_; have HO219 := n1_; have HO226 := n2_; have BK204 := n3_; have BK205 := n4_; have HB := n5_; clear n0_ n1_ n2_ n3_ n4_ n5_; (try clear hb); (try clear hb2); (try clear hk); (try clear hi); (try clear ho0)) | ((with_reducible refine gate_dst (N := 7) rfl ?_); refine box_event ?hg (N := 7) ?hd (cs := #[.string (⟨#[]⟩ : ByteArray), .string (⟨#[]⟩ : ByteArray), .int .i64 0, .slice none 0 0]) (t := 40) ?hr ?_; (case hd => rfl); (case hg => rfl); (case hr => exact hr_); intro gb227 hg w153 hbox hb; have n0_ := Aside0.mk (Kd.S_below au9_0 hb); have n1_ := Aside0.mk (Kd.S_below au9_1 hb); have n2_ := Aside0.mk (Kd.S_below au9_5 hb); have n3_ := Aside0.mk (blkb_ BK204 hb); have n4_ := Aside0.mk (blkb_ BK205 hb); have n5_ := Aside0.mk (below_step bl_ hb); have n6_ := Aside0.mk (hbox); have n7_ := Aside0.mk (gw_ hg bl_); have n8_ := Aside0.mk (gw_ hg bl_); have n9_ := Aside0.mk (gn_ hg (blkl_ BK204)); have n10_ := Aside0.mk (gm_ hg (blkl_ BK204)); have n11_ := Aside0.mk (gn_ hg (blkl_ BK205)); have n12_ := Aside0.mk (gm_ hg (blkl_ BK205)); clear HO213; clear HO219; clear HO226; clear BK204; clear BK205; clear HB; have HO213 := n0_; have HO219 := n1_; have HO226 := n2_; have BK204 := n3_; have BK205 := n4_; have HB := n5_; have BK227 := n6_; have GW227 := n7_; have GE227 := n8_; have NB204_227 := n9_; have NB227_204 := n10_; have NB205_227 := n11_; have NB227_205 := n12_; clear n0_ n1_ n2_ n3_ n4_ n5_ n6_ n7_ n8_ n9_ n10_ n11_ n12_; clear hb hbox hg; have hnb154 := NB227_204.out; have hnc154 := NB204_227.out; have hnb155 := NB227_205.out; have hnc155 := NB205_227.out; obtain ⟨hcz156_0, hcz156_1, hcz156_2, hcz156_3, hfz156_0, hfz156_1, hfz156_2, hfz156_3⟩ := cellsF4 BK227.out; obtain ⟨Ao157, co157, eo157⟩ := Kd.S_slice HO226.out; subst eo157; obtain ⟨hcz158_0, hcz158_1, hcz158_2, hcz158_3, hfz158_0, hfz158_1, hfz158_2, hfz158_3⟩ := cellsF4 BK205.out) | ((with_reducible refine gate_callee (f := 15) rfl ?_); refine gl_ 28 Try.func15 #[.agg #[.string a1_0, .string a1_1, .int .i64 a1_2, .slice A1_3 l1_3.length c1_3]] ?_ rfl rfl rfl rfl; (with_reducible refine (laws_toParcel.calls k a1_0 a1_1 a1_2 _ _ l1_3 t228 t229 t230 t231 _ ?side1 ?side2 A23.out).mono ?_); (case side1 => exact au9_46); (case side2 => exact HC1_3.out); rintro e w159 ⟨v232, rfl, ho0, hb⟩; refine ⟨_, rfl, ?_⟩; have n0_ := Aside0.mk (Kd.S_elder' au9_21 (Kd.S_base ho0) hb); have n1_ := Aside0.mk (Kd.S_elder' au9_22 (Kd.S_base ho0) hb); have n2_ := Aside0.mk (Kd.S_elder' au9_23 (Kd.S_base ho0) hb); have n3_ := Aside0.mk (Kd.S_lower (Kd.S_new' (Kd.S_new' (Kd.S_new' ho0 (Kd.S_lt au9_21)) (Kd.S_lt au9_22)) (Kd.S_lt au9_23)) (below_size bl_)); have n4_ := Aside0.mk (blk_below (g := gb204) (o := .cells #[.string a0_0, .string a0_1, .int .i64 a0_2, .slice A0_3 l0_3.length c0_3] 35 (0, 0)) au9_6 hb); have n5_ := Aside0.mk (blk_below (g := gb205) (o := .cells #[.string a1_0, .string a1_1, .int .i64 a1_2, .slice A1_3 l1_3.length c1_3] 35 (0, 0)) au9_7 hb); have n6_ := Aside0.mk (blk_below (g := gb227) (o := .cells #[.string t221, .string t222, .int .i64 t223, .slice Ao157 t224.length co157] 40 (0, 0)) au9_2 hb); have n7_ := Aside0.mk (below_step bl_ hb); clear HO213; clear HO219; clear HO226; clear BK204; clear BK205; clear BK227; clear HB; have HO213 := n0_; have HO219 := n1_; have HO226 := n2_; have HO233 := n3_; have BK204 := n4_; have BK205 := n5_; have BK227 := n6_; have HB := n7_; clear n0_ n1_ n2_ n3_ n4_ n5_ n6_ n7_; (try clear hb); (try clear hb2); (try clear hk); (try clear hi); (try clear ho0)) | ((with_reducible refine gate_dst (N := 8) rfl ?_); refine box_event ?hg (N := 8) ?hd (cs := #[.string (⟨#[]⟩ : ByteArray), .string (⟨#[]⟩ : ByteArray), .int .i64 0, .slice none 0 0]) (t := 40) ?hr ?_; (case hd => rfl); (case hg => rfl); (case hr => exact hr_); intro gb234 hg w160 hbox hb; have n0_ := Aside0.mk (Kd.S_below au9_0 hb); have n1_ := Aside0.mk (Kd.S_below au9_1 hb); have n2_ := Aside0.mk (Kd.S_below au9_5 hb); have n3_ := Aside0.mk (Kd.S_below au9_11 hb); have n4_ := Aside0.mk (blkb_ BK204 hb); have n5_ := Aside0.mk (blkb_ BK205 hb); have n6_ := Aside0.mk (blkb_ BK227 hb); have n7_ := Aside0.mk (below_step bl_ hb); have n8_ := Aside0.mk (hbox); have n9_ := Aside0.mk (gw_ hg bl_); have n10_ := Aside0.mk (gw_ hg bl_); have n11_ := Aside0.mk (gn_ hg (blkl_ BK204)); have n12_ := Aside0.mk (gm_ hg (blkl_ BK204)); have n13_ := Aside0.mk (gn_ hg (blkl_ BK205)); have n14_ := Aside0.mk (gm_ hg (blkl_ BK205)); have n15_ := Aside0.mk (gn_ hg (blkl_ BK227)); have n16_ := Aside0.mk (gm_ hg (blkl_ BK227)); clear HO213; clear HO219; clear HO226; clear HO233; clear BK204; clear BK205; clear BK227; clear HB; have HO213 := n0_; have HO219 := n1_; have HO226 := n2_; have HO233 := n3_; have BK204 := n4_; have BK205 := n5_; have BK227 := n6_; have HB := n7_; have BK234 := n8_; have GW234 := n9_; have GE234 := n10_; have NB204_234 := n11_; have NB234_204 := n12_; have NB205_234 := n13_; have NB234_205 := n14_; have NB227_234 := n15_; have NB234_227 := n16_; clear n0_ n1_ n2_ n3_ n4_ n5_ n6_ n7_ n8_ n9_ n10_ n11_ n12_ n13_ n14_ n15_ n16_; clear hb hbox hg; have hnb161 := NB234_204.out; have hnc161 := NB204_234.out; have hnb162 := NB234_205.out; have hnc162 := NB205_234.out; have hnb163 := NB234_227.out; have hnc163 := NB227_234.out; obtain ⟨hcz164_0, hcz164_1, hcz164_2, hcz164_3, hfz164_0, hfz164_1, hfz164_2, hfz164_3⟩ := cellsF4 BK234.out; obtain ⟨Ao165, co165, eo165⟩ := Kd.S_slice HO233.out; subst eo165; obtain ⟨hcz166_0, hcz166_1, hcz166_2, hcz166_3, hfz166_0, hfz166_1, hfz166_2, hfz166_3⟩ := cellsF4 BK227.out) | ((with_reducible refine gate_callee (f := 16) rfl ?_); refine gl_ 31 Try.func16 #[.agg #[.string t221, .string t222, .int .i64 t223, .slice Ao157 t224.length co157], .agg #[.string t228, .string t229, .int .i64 t230, .slice Ao165 t231.length co165]] ?_ rfl rfl rfl rfl; (with_reducible refine (impl_ParcelSame.calls k t221 t222 t223 _ _ t224 t228 t229 t230 _ _ t231 t235 _ ?side1 ?side2 ?side3 ?side4 A24.out).mono ?_); (case side1 => refine (Kd.S_reads' (e := 30) (base := w.heap.size) (ok := fun k_ => (((True ∧ some k_ ≠ (.slice Ao148 t211.length co148 : Value).ownBlock) ∧ some k_ ≠ (.slice Ao149 t217.length co149 : Value).ownBlock) ∧ some k_ ≠ (.slice Ao165 t231.length co165 : Value).ownBlock)) (n := t224.length) (c := co157) ?_).2.2; exact au9_24); (case side2 => exact au9_41); (case side3 => refine (Kd.S_reads' (e := 30) (base := w.heap.size) (ok := fun k_ => (((True ∧ some k_ ≠ (.slice Ao148 t211.length co148 : Value).ownBlock) ∧ some k_ ≠ (.slice Ao149 t217.length co149 : Value).ownBlock) ∧ some k_ ≠ (.slice Ao157 t224.length co157 : Value).ownBlock)) (n := t231.length) (c := co165) ?_).2.2; exact au9_25); (case side4 => exact au9_42); rintro e w167 ⟨rfl, hb⟩; refine ⟨_, rfl, ?_⟩; have n0_ := Aside0.mk (Kd.S_below (by (with_reducible repeat (first | apply Kd.S_alloc | apply Kd.S_drewN | apply Kd.S_drew)); exact (Kd.S_mono (Kd.S_far (p := ⟨gb234, 3, none⟩) (Kd.S_far (p := ⟨gb234, 2, none⟩) (Kd.S_far (p := ⟨gb234, 1, none⟩) (Kd.S_far (p := ⟨gb234, 0, none⟩) (Kd.S_types HO213.out BK234.out (by decide)) (fun _ hk => hk.2) (.string t228)) (fun _ hk => hk.2) (.string t229)) (fun _ hk => hk.2) (.int .i64 t230)) (fun _ hk => hk.2) (.slice Ao165 t231.length co165)) (fun _ h_ => h_.1))) hb); have n1_ := Aside0.mk (Kd.S_below (by (with_reducible repeat (first | apply Kd.S_alloc | apply Kd.S_drewN | apply Kd.S_drew)); exact (Kd.S_mono (Kd.S_far (p := ⟨gb234, 3, none⟩) (Kd.S_far (p := ⟨gb234, 2, none⟩) (Kd.S_far (p := ⟨gb234, 1, none⟩) (Kd.S_far (p := ⟨gb234, 0, none⟩) (Kd.S_types HO219.out BK234.out (by decide)) (fun _ hk => hk.2) (.string t228)) (fun _ hk => hk.2) (.string t229)) (fun _ hk => hk.2) (.int .i64 t230)) (fun _ hk => hk.2) (.slice Ao165 t231.length co165)) (fun _ h_ => h_.1))) hb); have n2_ := Aside0.mk (Kd.S_below au9_24 hb); have n3_ := Aside0.mk (Kd.S_below au9_25 hb); have n4_ := Aside0.mk (blk_below (g := gb204) (o := .cells #[.string a0_0, .string a0_1, .int .i64 a0_2, .slice A0_3 l0_3.length c0_3] 35 (0, 0)) au9_8 hb); have n5_ := Aside0.mk (blk_below (g := gb205) (o := .cells #[.string a1_0, .string a1_1, .int .i64 a1_2, .slice A1_3 l1_3.length c1_3] 35 (0, 0)) au9_9 hb); have n6_ := Aside0.mk (blk_below (g := gb227) (o := .cells #[.string t221, .string t222, .int .i64 t223, .slice Ao157 t224.length co157] 40 (0, 0)) au9_10 hb); have n7_ := Aside0.mk (blk_below (g := gb234) (o := .cells #[.string t228, .string t229, .int .i64 t230, .slice Ao165 t231.length co165] 40 (0, 0)) au9_3 hb); have n8_ := Aside0.mk (below_step bl_ hb); clear HO213; clear HO219; clear HO226; clear HO233; clear BK204; clear BK205; clear BK227; clear BK234; clear HB; have HO213 := n0_; have HO219 := n1_; have HO226 := n2_; have HO233 := n3_; have BK204 := n4_; have BK205 := n5_; have BK227 := n6_; have BK234 := n7_; have HB := n8_; clear n0_ n1_ n2_ n3_ n4_ n5_ n6_ n7_ n8_; (try clear hb); (try clear hb2); (try clear hk); (try clear hi)))
          have n0_ := Aside0.mk (Kd.S_drew HO213.out)
          have n1_ := Aside0.mk (Kd.S_drew HO219.out)
          have n2_ := Aside0.mk (Kd.S_drew HO226.out)
          have n3_ := Aside0.mk (Kd.S_drew HO233.out)
          have n4_ := Aside0.mk (blk_drew BK204.out)
          have n5_ := Aside0.mk (blk_drew BK205.out)
          have n6_ := Aside0.mk (blk_drew BK227.out)
          have n7_ := Aside0.mk (blk_drew BK234.out)
          have n8_ := Aside0.mk (below_drew1 HB.out)
          clear HO213
          clear HO219
          clear HO226
          clear HO233
          clear BK204
          clear BK205
          clear BK227
          clear BK234
          clear HB
          have HO213 := n0_
          have HO219 := n1_
          have HO226 := n2_
          have HO233 := n3_
          have BK204 := n4_
          have BK205 := n5_
          have BK227 := n6_
          have BK234 := n7_
          have HB := n8_
          clear n0_ n1_ n2_ n3_ n4_ n5_ n6_ n7_ n8_
          refine start_ (n := 5) (S := fun w' => w'.cell? ⟨gb227, 0, none⟩ = some (.string t221) ∧ w'.cell? ⟨gb227, 1, none⟩ = some (.string t222) ∧ w'.cell? ⟨gb227, 2, none⟩ = some (.int .i64 t223) ∧ w'.cell? ⟨gb227, 3, none⟩ = some (.slice Ao157 t224.length co157) ∧ w'.cell? ⟨gb204, 0, none⟩ = some (.string a0_0) ∧ w'.cell? ⟨gb204, 1, none⟩ = some (.string a0_1) ∧ w'.cell? ⟨gb204, 2, none⟩ = some (.int .i64 a0_2) ∧ w'.cell? ⟨gb204, 3, none⟩ = some (.slice A0_3 l0_3.length c0_3)) (ds := []) #[false, false, false, false, false] (by kernel_rfl) rfl rfl ⟨(blk_cell BK227.out 0).trans rfl, (blk_cell BK227.out 1).trans rfl, (blk_cell BK227.out 2).trans rfl, (blk_cell BK227.out 3).trans rfl, (blk_cell BK204.out 0).trans rfl, (blk_cell BK204.out 1).trans rfl, (blk_cell BK204.out 2).trans rfl, (blk_cell BK204.out 3).trans rfl⟩ (fun hHeld => ?_)
          generalize w167.drew = w168 at HO213 HO219 HO226 HO233 BK204 BK205 BK227 BK234 HB hHeld ⊢
          refine take_ (i := 0) (N := some 35) (v := ?_) (a' := ?_) #[true, false, false, false, false] rfl rfl (by kernel_rfl) (fun _ _ _ h => h) (Or.inl ⟨by rfl, ?_⟩) hHeld ?_ ?_
          rotate_left
          · rintro w' ⟨s0, s1, s2, s3, s4, s5, s6, s7⟩
            go_simp
            with_reducible rfl
          rotate_left
          · simp only [Act.put, List.setIfInBounds_toArray, List.set_cons_zero, List.set_cons_succ, i64_w, i32_w]
            rfl
          refine take_ (i := 1) (N := some 36) (v := ?_) (a' := ?_) #[true, true, false, false, false] rfl rfl (by kernel_rfl) (fun _ _ _ h => h) (Or.inl ⟨by rfl, ?_⟩) hHeld ?_ ?_
          rotate_left
          · rintro w' ⟨s0, s1, s2, s3, s4, s5, s6, s7⟩
            go_simp
            with_reducible rfl
          rotate_left
          · simp only [Act.put, List.setIfInBounds_toArray, List.set_cons_zero, List.set_cons_succ, i64_w, i32_w]
            rfl
          refine one_ (i := 2) (N := some 37) #[true, true, true, false, false] rfl rfl (by kernel_rfl) (by decide) (fun K hK => ?_)
          refine gr_ Try.func15 #[.agg #[.string a0_0, .string a0_1, .int .i64 a0_2, .slice A0_3 l0_3.length c0_3]] (by rfl) ?_ rfl rfl rfl
          with_reducible refine (laws_toParcel.calls k a0_0 a0_1 a0_2 _ _ l0_3 t236 t237 t238 t239 _ ?side1 ?side2 A56.out).mono ?_
          (case side1 => exact au9_4)
          (case side2 => exact HC0_3.out)
          rintro e w169 ⟨v240, rfl, ho0, hb⟩
          refine ⟨_, rfl, ?_⟩
          have n0_ := Aside0.mk (Kd.S_elder' au9_0 (Kd.S_base ho0) hb)
          have n1_ := Aside0.mk (Kd.S_elder' au9_1 (Kd.S_base ho0) hb)
          have n2_ := Aside0.mk (Kd.S_elder' au9_5 (Kd.S_base ho0) hb)
          have n3_ := Aside0.mk (Kd.S_elder' au9_11 (Kd.S_base ho0) hb)
          have n4_ := Aside0.mk (Kd.S_lower (Kd.S_new' (Kd.S_new' (Kd.S_new' (Kd.S_new' ho0 (Kd.S_lt au9_0)) (Kd.S_lt au9_1)) (Kd.S_lt au9_5)) (Kd.S_lt au9_11)) (below_size bl_))
          have n5_ := Aside0.mk (blkb_ BK204 hb)
          have n6_ := Aside0.mk (blkb_ BK205 hb)
          have n7_ := Aside0.mk (blkb_ BK227 hb)
          have n8_ := Aside0.mk (blkb_ BK234 hb)
          have n9_ := Aside0.mk (below_step bl_ hb)
          clear HO213
          clear HO219
          clear HO226
          clear HO233
          clear BK204
          clear BK205
          clear BK227
          clear BK234
          clear HB
          have HO213 := n0_
          have HO219 := n1_
          have HO226 := n2_
          have HO233 := n3_
          have HO241 := n4_
          have BK204 := n5_
          have BK205 := n6_
          have BK227 := n7_
          have BK234 := n8_
          have HB := n9_
          clear n0_ n1_ n2_ n3_ n4_ n5_ n6_ n7_ n8_ n9_
          (try clear hb)
          (try clear hb2)
          (try clear hk)
          (try clear hi)
          (try clear ho0)
          obtain ⟨Ao170, co170, eo170⟩ := Kd.S_slice HO241.out
          (first | subst eo170 | (injection eo170 with f1_ f2_ f3_; have f4_ := f1_.symm; have f5_ := f3_.symm; clear f1_ f2_ f3_; subst f4_; subst f5_))
          refine hK.out _ _ ⟨(blk_cell BK227.out 0).trans rfl, (blk_cell BK227.out 1).trans rfl, (blk_cell BK227.out 2).trans rfl, (blk_cell BK227.out 3).trans rfl, (blk_cell BK204.out 0).trans rfl, (blk_cell BK204.out 1).trans rfl, (blk_cell BK204.out 2).trans rfl, (blk_cell BK204.out 3).trans rfl⟩ (fun hHeld => ?_)
          clear hK K
          refine norm_ (a' := ?_) ?_ ?_
          rotate_left
          · show Act.put _ (some 37) _ = _
            simp only [Act.put, List.setIfInBounds_toArray, List.set_cons_zero, List.set_cons_succ, i64_w, i32_w]
            rfl
          refine one_ (i := 3) (N := some 38) #[true, true, true, true, false] rfl rfl (by kernel_rfl) (by decide) (fun K hK => ?_)
          refine gr_ Try.func17 #[.agg #[.string t221, .string t222, .int .i64 t223, .slice Ao157 t224.length co157], .agg #[.string t236, .string t237, .int .i64 t238, .slice Ao170 t239.length co170]] (by rfl) ?_ rfl rfl rfl
          with_reducible refine (laws_eqParcel.calls k t221 t222 t223 _ _ t224 t236 t237 t238 _ _ t239 false _ ?side1 ?side2 ?side3 ?side4 A57.out).mono ?_
          (case side1 => exact au9_37)
          (case side2 => exact au9_41)
          (case side3 => exact au9_38)
          (case side4 => exact (Kd.S_reads' HO241.out).2.1)
          rintro e w171 ⟨rfl, hb⟩
          refine ⟨_, rfl, ?_⟩
          have n0_ := Aside0.mk (Kd.S_below au9_0 hb)
          have n1_ := Aside0.mk (Kd.S_below au9_1 hb)
          have n2_ := Aside0.mk (Kd.S_below au9_5 hb)
          have n3_ := Aside0.mk (Kd.S_below au9_11 hb)
          have n4_ := Aside0.mk (Kd.S_below au9_13 hb)
          have n5_ := Aside0.mk (blkb_ BK204 hb)
          have n6_ := Aside0.mk (blkb_ BK205 hb)
          have n7_ := Aside0.mk (blkb_ BK227 hb)
          have n8_ := Aside0.mk (blkb_ BK234 hb)
          have n9_ := Aside0.mk (below_step bl_ hb)
          clear HO213
          clear HO219
          clear HO226
          clear HO233
          clear HO241
          clear BK204
          clear BK205
          clear BK227
          clear BK234
          clear HB
          have HO213 := n0_
          have HO219 := n1_
          have HO226 := n2_
          have HO233 := n3_
          have HO241 := n4_
          have BK204 := n5_
          have BK205 := n6_
          have BK227 := n7_
          have BK234 := n8_
          have HB := n9_
          clear n0_ n1_ n2_ n3_ n4_ n5_ n6_ n7_ n8_ n9_
          (try clear hb)
          (try clear hb2)
          (try clear hk)
          (try clear hi)
          refine hK.out _ _ ⟨(blk_cell BK227.out 0).trans rfl, (blk_cell BK227.out 1).trans rfl, (blk_cell BK227.out 2).trans rfl, (blk_cell BK227.out 3).trans rfl, (blk_cell BK204.out 0).trans rfl, (blk_cell BK204.out 1).trans rfl, (blk_cell BK204.out 2).trans rfl, (blk_cell BK204.out 3).trans rfl⟩ (fun hHeld => ?_)
          clear hK K
          refine norm_ (a' := ?_) ?_ ?_
          rotate_left
          · show Act.put _ (some 38) _ = _
            simp only [Act.put, List.setIfInBounds_toArray, List.set_cons_zero, List.set_cons_succ, i64_w, i32_w]
            rfl
          refine pure_ (i := 4) (N := some 39) (v := ?_) (a' := ?_) #[true, true, true, true, true] rfl rfl (by kernel_rfl) (fun _ _ _ h => h) (Or.inl ⟨by rfl, ?_⟩) ?_ ?_
          rotate_left
          · intro w'
            go_simp
            with_reducible rfl
          rotate_left
          · simp only [Act.put, List.setIfInBounds_toArray, List.set_cons_zero, List.set_cons_succ, i64_w, i32_w]
            rfl
          refine done_ (by kernel_rfl) ?_
          try go_wp2
          go_ret
          exact ⟨au9_36, bl_⟩

/-- THE ONE PURE STATEMENT of laws_FnExactParcelSame: yours. -/
def laws_FnExactParcelSame.Pure : Prop := ∀ (a0_0 : ByteArray) (a0_1 : ByteArray) (a0_2 : Int) (l0_3 : List (S25)) (a1_0 : ByteArray) (a1_1 : ByteArray) (a1_2 : Int) (l1_3 : List (S25)), (fun s_ : ByteArray => s_.size ≤ maxLen) a0_0 → (fun s_ : ByteArray => s_.size ≤ maxLen) a0_1 → (fun n_ : Int => (Lit.int .i64 n_).wf = true) a0_2 → (fun xs_ : List (S25) => xs_.length ≤ maxLen ∧ ∀ x_ ∈ xs_, q25 x_) l0_3 → (fun s_ : ByteArray => s_.size ≤ maxLen) a1_0 → (fun s_ : ByteArray => s_.size ≤ maxLen) a1_1 → (fun n_ : Int => (Lit.int .i64 n_).wf = true) a1_2 → (fun xs_ : List (S25) => xs_.length ≤ maxLen ∧ ∀ x_ ∈ xs_, q25 x_) l1_3 → ∃ k, laws_FnExactParcelSame.f k a0_0 a0_1 a0_2 l0_3 a1_0 a1_1 a1_2 l1_3 = some true

end Go.Proofs.Ytlghcbmkhdibdaa.PFnExactParcelSame
