-- printed by a program of this session (wip/xp/xprint.py) out of the translation; Lean checks it
import Derived.Test.YtlghcbmkhdibdaaDoorPFnExactHeadOfx0
import Derived.Test.YtlghcbmkhdibdaaDoorPFnExactHeadOfx1
import Derived.Test.YtlghcbmkhdibdaaDoorPFnExactHeadOfx2
import Derived.Test.YtlghcbmkhdibdaaDoorPFnExactHeadOfx3
namespace Go.Proofs.YtlghcbmkhdibdaaDoor.PFnExactHeadOf
open Go.RowKit Go.Proofs.YtlghcbmkhdibdaaDoorW.PrintWords Go.Proofs.YtlghcbmkhdibdaaDoorW.PrintLast Go.Proofs.YtlghcbmkhdibdaaDoorW.PrintMore
attribute [local go_sem] max2_int min2_int max_two min_two max_three min_three max_four min_four   -- for this text's walks alone
set_option linter.unusedVariables false
set_option linter.unusedSimpArgs false
set_option maxHeartbeats 8000000
set_option maxRecDepth 100000

theorem au4_0 {p : Prop} (h : p := by (with_reducible repeat (first | apply Kd.S_alloc | apply Kd.S_drewN | apply Kd.S_drew)); exact HO_311003.out) : p := h
theorem au4_1 {p : Prop} (h : p := by first | rfl | (simp [errW_none, errW_some] <;> rfl) | (simp [*, errW_none, errW_some] <;> rfl)) : p := h
theorem au4_2 {p : Prop} (h : p := by (with_reducible repeat (first | apply Kd.S_alloc | apply Kd.S_drewN | apply Kd.S_drew)); exact HO300.out) : p := h
theorem au4_3 {p : Prop} (h : p := by (with_reducible repeat (first | apply Kd.S_alloc | apply Kd.S_drewN | apply Kd.S_drew)); exact HO_324003.out) : p := h
theorem au4_4 {p : Prop} (h : p := by (with_reducible repeat (first | apply Kd.S_alloc | apply Kd.S_drewN | apply Kd.S_drew)); exact HO306.out) : p := h
theorem au4_5 {p : Prop} (h : p := by (with_reducible repeat (first | apply Kd.S_alloc | apply Kd.S_drewN | apply Kd.S_drew)); exact HO313.out) : p := h
theorem au4_6 {p : Prop} (h : p := by (with_reducible repeat (first | apply Kd.S_alloc | apply Kd.S_drewN | apply Kd.S_drew)); exact HO337.out) : p := h
theorem au4_7 {p : Prop} (h : p := by repeat (first | exact (Kd.S_reads' HO_324003.out).2.2 | (with_reducible refine Kd.C_alloc ?_ _) | (with_reducible refine Kd.C_drewN ?_ _) | (with_reducible refine Kd.C_drew ?_))) : p := h
theorem au4_8 {p : Prop} (h : p := by repeat (first | exact (Kd.C_below HR0.out HB.out) | (with_reducible refine Kd.C_alloc ?_ _) | (with_reducible refine Kd.C_drewN ?_ _) | (with_reducible refine Kd.C_drew ?_))) : p := h
theorem au4_9 {p : Prop} (h : p := by repeat (first | (with_reducible first | exact HK.out | apply Kept.alloc | apply Kept.drewN | apply Kept.drew) | exact HK.out)) : p := h
theorem au4_10 {p : Prop} (h : p := by repeat (first | (with_reducible first | exact HB.out | apply below_alloc | apply pw_below_drewN | apply below_drew1 | refine below_set ?_ GE310.out | refine below_set ?_ GE323.out) | exact HB.out)) : p := h
theorem au4_11 {p : Prop} (h : p := by rw [show t333.length = t317.length from (Kd.S_reads' HO_324003.out).1.symm]; exact (Kd.S_reads' HO_324003.out).2.1) : p := h
theorem au4_12 {p : Prop} (h : p := by (with_reducible repeat (first | apply Kd.S_alloc | apply Kd.S_drewN | apply Kd.S_drew)); exact HO319.out) : p := h
theorem au4_13 {p : Prop} (h : p := by first | (rw [show t333.length = t317.length from (Kd.S_reads' HO_324003.out).1.symm] <;> rfl) | rfl) : p := h
theorem au4_14 {p : Prop} (h : p := by (with_reducible repeat (first | apply Kd.S_alloc | apply Kd.S_drewN | apply Kd.S_drew)); exact (Kd.S_mono (Kd.S_far (p := ⟨gb347, 6, none⟩) (Kd.S_far (p := ⟨gb347, 5, none⟩) (Kd.S_far (p := ⟨gb347, 4, none⟩) (Kd.S_far (p := ⟨gb347, 3, none⟩) (Kd.S_far (p := ⟨gb347, 2, none⟩) (Kd.S_far (p := ⟨gb347, 1, none⟩) (Kd.S_far (p := ⟨gb347, 0, none⟩) (Kd.S_types HO_311003.out BK347.out (by decide)) (fun _ hk => hk.2) (.string t338)) (fun _ hk => hk.2) (.string t339)) (fun _ hk => hk.2) (.int .i64 t340)) (fun _ hk => hk.2) (.slice Ao105 t341.length co105)) (fun _ hk => hk.2) (.bool t344)) (fun _ hk => hk.2) (.int .i64 t345)) (fun _ hk => hk.2) (.int .i64 t346)) (fun _ h_ => h_.1))) : p := h
theorem au4_15 {p : Prop} (h : p := by (with_reducible repeat (first | apply Kd.S_alloc | apply Kd.S_drewN | apply Kd.S_drew)); exact (Kd.S_mono (Kd.S_far (p := ⟨gb347, 6, none⟩) (Kd.S_far (p := ⟨gb347, 5, none⟩) (Kd.S_far (p := ⟨gb347, 4, none⟩) (Kd.S_far (p := ⟨gb347, 3, none⟩) (Kd.S_far (p := ⟨gb347, 2, none⟩) (Kd.S_far (p := ⟨gb347, 1, none⟩) (Kd.S_far (p := ⟨gb347, 0, none⟩) (Kd.S_types HO_311003.out BK347.out (by decide)) (fun _ hk => hk.2) (.string t338)) (fun _ hk => hk.2) (.string t339)) (fun _ hk => hk.2) (.int .i64 t340)) (fun _ hk => hk.2) (.slice Ao122 t341.length co122)) (fun _ hk => hk.2) (.bool t344)) (fun _ hk => hk.2) (.int .i64 t345)) (fun _ hk => hk.2) (.int .i64 t346)) (fun _ h_ => h_.1))) : p := h
theorem au4_16 {p : Prop} (h : p := by (with_reducible repeat (first | apply Kd.S_alloc | apply Kd.S_drewN | apply Kd.S_drew)); exact HO_0.out) : p := h
theorem au4_17 {p : Prop} (h : p := by (with_reducible repeat (first | apply Kd.S_alloc | apply Kd.S_drewN | apply Kd.S_drew)); exact (Kd.S_mono (Kd.S_far (p := ⟨gb347, 6, none⟩) (Kd.S_far (p := ⟨gb347, 5, none⟩) (Kd.S_far (p := ⟨gb347, 4, none⟩) (Kd.S_far (p := ⟨gb347, 3, none⟩) (Kd.S_far (p := ⟨gb347, 2, none⟩) (Kd.S_far (p := ⟨gb347, 1, none⟩) (Kd.S_far (p := ⟨gb347, 0, none⟩) (Kd.S_types HO_311003.out BK347.out (by decide)) (fun _ hk => hk.2) (.string t338)) (fun _ hk => hk.2) (.string t339)) (fun _ hk => hk.2) (.int .i64 t340)) (fun _ hk => hk.2) (.slice Ao70 t341.length co70)) (fun _ hk => hk.2) (.bool t344)) (fun _ hk => hk.2) (.int .i64 t345)) (fun _ hk => hk.2) (.int .i64 t346)) (fun _ h_ => h_.1))) : p := h
theorem au4_18 {p : Prop} (h : p := by (with_reducible repeat (first | apply Kd.S_alloc | apply Kd.S_drewN | apply Kd.S_drew)); exact (Kd.S_mono (Kd.S_far (p := ⟨gb347, 6, none⟩) (Kd.S_far (p := ⟨gb347, 5, none⟩) (Kd.S_far (p := ⟨gb347, 4, none⟩) (Kd.S_far (p := ⟨gb347, 3, none⟩) (Kd.S_far (p := ⟨gb347, 2, none⟩) (Kd.S_far (p := ⟨gb347, 1, none⟩) (Kd.S_far (p := ⟨gb347, 0, none⟩) (Kd.S_types HO_311003.out BK347.out (by decide)) (fun _ hk => hk.2) (.string t338)) (fun _ hk => hk.2) (.string t339)) (fun _ hk => hk.2) (.int .i64 t340)) (fun _ hk => hk.2) (.slice Ao88 t341.length co88)) (fun _ hk => hk.2) (.bool t344)) (fun _ hk => hk.2) (.int .i64 t345)) (fun _ hk => hk.2) (.int .i64 t346)) (fun _ h_ => h_.1))) : p := h
theorem au4_19 {p : Prop} (h : p := by (with_reducible repeat (first | apply Kd.S_alloc | apply Kd.S_drewN | apply Kd.S_drew)); exact (Kd.S_mono (Kd.S_far (p := ⟨gb347, 6, none⟩) (Kd.S_far (p := ⟨gb347, 5, none⟩) (Kd.S_far (p := ⟨gb347, 4, none⟩) (Kd.S_far (p := ⟨gb347, 3, none⟩) (Kd.S_far (p := ⟨gb347, 2, none⟩) (Kd.S_far (p := ⟨gb347, 1, none⟩) (Kd.S_far (p := ⟨gb347, 0, none⟩) (Kd.S_types HO343.out BK347.out (by decide)) (fun _ hk => hk.2) (.string t338)) (fun _ hk => hk.2) (.string t339)) (fun _ hk => hk.2) (.int .i64 t340)) (fun _ hk => hk.2) (.slice Ao105 t341.length co105)) (fun _ hk => hk.2) (.bool t344)) (fun _ hk => hk.2) (.int .i64 t345)) (fun _ hk => hk.2) (.int .i64 t346)) (fun _ h_ => h_.1))) : p := h
theorem au4_20 {p : Prop} (h : p := by (with_reducible repeat (first | apply Kd.S_alloc | apply Kd.S_drewN | apply Kd.S_drew)); exact (Kd.S_mono (Kd.S_far (p := ⟨gb347, 6, none⟩) (Kd.S_far (p := ⟨gb347, 5, none⟩) (Kd.S_far (p := ⟨gb347, 4, none⟩) (Kd.S_far (p := ⟨gb347, 3, none⟩) (Kd.S_far (p := ⟨gb347, 2, none⟩) (Kd.S_far (p := ⟨gb347, 1, none⟩) (Kd.S_far (p := ⟨gb347, 0, none⟩) (Kd.S_types HO343.out BK347.out (by decide)) (fun _ hk => hk.2) (.string t338)) (fun _ hk => hk.2) (.string t339)) (fun _ hk => hk.2) (.int .i64 t340)) (fun _ hk => hk.2) (.slice Ao122 t341.length co122)) (fun _ hk => hk.2) (.bool t344)) (fun _ hk => hk.2) (.int .i64 t345)) (fun _ hk => hk.2) (.int .i64 t346)) (fun _ h_ => h_.1))) : p := h
theorem au4_21 {p : Prop} (h : p := by (with_reducible repeat (first | apply Kd.S_alloc | apply Kd.S_drewN | apply Kd.S_drew)); exact (Kd.S_mono (Kd.S_far (p := ⟨gb310, 6, none⟩) (Kd.S_far (p := ⟨gb310, 5, none⟩) (Kd.S_far (p := ⟨gb310, 4, none⟩) (Kd.S_far (p := ⟨gb310, 3, none⟩) (Kd.S_far (p := ⟨gb310, 2, none⟩) (Kd.S_far (p := ⟨gb310, 1, none⟩) (Kd.S_far (p := ⟨gb310, 0, none⟩) (Kd.S_types HO300.out BK310.out (by decide)) (fun _ hk => hk.2) (.string t301)) (fun _ hk => hk.2) (.string t302)) (fun _ hk => hk.2) (.int .i64 t303)) (fun _ hk => hk.2) (.slice Ao136 t304.length co136)) (fun _ hk => hk.2) (.bool t307)) (fun _ hk => hk.2) (.int .i64 t308)) (fun _ hk => hk.2) (.int .i64 t309)) (fun _ h_ => h_.1))) : p := h
theorem au4_22 {p : Prop} (h : p := by (with_reducible repeat (first | apply Kd.S_alloc | apply Kd.S_drewN | apply Kd.S_drew)); exact (Kd.S_mono (Kd.S_far (p := ⟨gb323, 6, none⟩) (Kd.S_far (p := ⟨gb323, 5, none⟩) (Kd.S_far (p := ⟨gb323, 4, none⟩) (Kd.S_far (p := ⟨gb323, 3, none⟩) (Kd.S_far (p := ⟨gb323, 2, none⟩) (Kd.S_far (p := ⟨gb323, 1, none⟩) (Kd.S_far (p := ⟨gb323, 0, none⟩) (Kd.S_types HO319.out BK323.out (by decide)) (fun _ hk => hk.2) (.string t314)) (fun _ hk => hk.2) (.string t315)) (fun _ hk => hk.2) (.int .i64 t316)) (fun _ hk => hk.2) (.slice Ao143 t317.length co143)) (fun _ hk => hk.2) (.bool t320)) (fun _ hk => hk.2) (.int .i64 t321)) (fun _ hk => hk.2) (.int .i64 t322)) (fun _ h_ => h_.1))) : p := h
theorem au4_23 {p : Prop} (h : p := by (with_reducible repeat (first | apply Kd.S_alloc | apply Kd.S_drewN | apply Kd.S_drew)); exact (Kd.S_mono (Kd.S_far (p := ⟨gb323, 6, none⟩) (Kd.S_far (p := ⟨gb323, 5, none⟩) (Kd.S_far (p := ⟨gb323, 4, none⟩) (Kd.S_far (p := ⟨gb323, 3, none⟩) (Kd.S_far (p := ⟨gb323, 2, none⟩) (Kd.S_far (p := ⟨gb323, 1, none⟩) (Kd.S_far (p := ⟨gb323, 0, none⟩) (Kd.S_types HO306.out BK323.out (by decide)) (fun _ hk => hk.2) (.string t314)) (fun _ hk => hk.2) (.string t315)) (fun _ hk => hk.2) (.int .i64 t316)) (fun _ hk => hk.2) (.slice Ao143 t317.length co143)) (fun _ hk => hk.2) (.bool t320)) (fun _ hk => hk.2) (.int .i64 t321)) (fun _ hk => hk.2) (.int .i64 t322)) (fun _ h_ => h_.1))) : p := h
theorem au4_24 {p : Prop} (h : p := by (with_reducible repeat (first | apply Kd.S_alloc | apply Kd.S_drewN | apply Kd.S_drew)); exact (Kd.S_mono (Kd.S_far (p := ⟨gb310, 6, none⟩) (Kd.S_far (p := ⟨gb310, 5, none⟩) (Kd.S_far (p := ⟨gb310, 4, none⟩) (Kd.S_far (p := ⟨gb310, 3, none⟩) (Kd.S_far (p := ⟨gb310, 2, none⟩) (Kd.S_far (p := ⟨gb310, 1, none⟩) (Kd.S_far (p := ⟨gb310, 0, none⟩) (Kd.S_types HO300.out BK310.out (by decide)) (fun _ hk => hk.2) (.string t301)) (fun _ hk => hk.2) (.string t302)) (fun _ hk => hk.2) (.int .i64 t303)) (fun _ hk => hk.2) (.slice Ao155 t304.length co155)) (fun _ hk => hk.2) (.bool t307)) (fun _ hk => hk.2) (.int .i64 t308)) (fun _ hk => hk.2) (.int .i64 t309)) (fun _ h_ => h_.1))) : p := h
theorem au4_25 {p : Prop} (h : p := by (with_reducible repeat (first | apply Kd.S_alloc | apply Kd.S_drewN | apply Kd.S_drew)); exact (Kd.S_mono (Kd.S_far (p := ⟨gb323, 6, none⟩) (Kd.S_far (p := ⟨gb323, 5, none⟩) (Kd.S_far (p := ⟨gb323, 4, none⟩) (Kd.S_far (p := ⟨gb323, 3, none⟩) (Kd.S_far (p := ⟨gb323, 2, none⟩) (Kd.S_far (p := ⟨gb323, 1, none⟩) (Kd.S_far (p := ⟨gb323, 0, none⟩) (Kd.S_types HO319.out BK323.out (by decide)) (fun _ hk => hk.2) (.string t314)) (fun _ hk => hk.2) (.string t315)) (fun _ hk => hk.2) (.int .i64 t316)) (fun _ hk => hk.2) (.slice Ao162 t317.length co162)) (fun _ hk => hk.2) (.bool t320)) (fun _ hk => hk.2) (.int .i64 t321)) (fun _ hk => hk.2) (.int .i64 t322)) (fun _ h_ => h_.1))) : p := h
theorem au4_26 {p : Prop} (h : p := by (with_reducible repeat (first | apply Kd.S_alloc | apply Kd.S_drewN | apply Kd.S_drew)); exact (Kd.S_mono (Kd.S_far (p := ⟨gb323, 6, none⟩) (Kd.S_far (p := ⟨gb323, 5, none⟩) (Kd.S_far (p := ⟨gb323, 4, none⟩) (Kd.S_far (p := ⟨gb323, 3, none⟩) (Kd.S_far (p := ⟨gb323, 2, none⟩) (Kd.S_far (p := ⟨gb323, 1, none⟩) (Kd.S_far (p := ⟨gb323, 0, none⟩) (Kd.S_types HO306.out BK323.out (by decide)) (fun _ hk => hk.2) (.string t314)) (fun _ hk => hk.2) (.string t315)) (fun _ hk => hk.2) (.int .i64 t316)) (fun _ hk => hk.2) (.slice Ao162 t317.length co162)) (fun _ hk => hk.2) (.bool t320)) (fun _ hk => hk.2) (.int .i64 t321)) (fun _ hk => hk.2) (.int .i64 t322)) (fun _ h_ => h_.1))) : p := h
theorem au4_27 {p : Prop} (h : p := by (with_reducible repeat (first | apply Kd.S_alloc | apply Kd.S_drewN | apply Kd.S_drew)); exact (Kd.S_mono (Kd.S_far (p := ⟨gb310, 6, none⟩) (Kd.S_far (p := ⟨gb310, 5, none⟩) (Kd.S_far (p := ⟨gb310, 4, none⟩) (Kd.S_far (p := ⟨gb310, 3, none⟩) (Kd.S_far (p := ⟨gb310, 2, none⟩) (Kd.S_far (p := ⟨gb310, 1, none⟩) (Kd.S_far (p := ⟨gb310, 0, none⟩) (Kd.S_types HO300.out BK310.out (by decide)) (fun _ hk => hk.2) (.string t301)) (fun _ hk => hk.2) (.string t302)) (fun _ hk => hk.2) (.int .i64 t303)) (fun _ hk => hk.2) (.slice Ao22 t304.length co22)) (fun _ hk => hk.2) (.bool t307)) (fun _ hk => hk.2) (.int .i64 t308)) (fun _ hk => hk.2) (.int .i64 t309)) (fun _ h_ => h_.1))) : p := h
theorem au4_28 {p : Prop} (h : p := by (with_reducible repeat (first | apply Kd.S_alloc | apply Kd.S_drewN | apply Kd.S_drew)); exact (Kd.S_mono (Kd.S_far (p := ⟨gb323, 6, none⟩) (Kd.S_far (p := ⟨gb323, 5, none⟩) (Kd.S_far (p := ⟨gb323, 4, none⟩) (Kd.S_far (p := ⟨gb323, 3, none⟩) (Kd.S_far (p := ⟨gb323, 2, none⟩) (Kd.S_far (p := ⟨gb323, 1, none⟩) (Kd.S_far (p := ⟨gb323, 0, none⟩) (Kd.S_types HO319.out BK323.out (by decide)) (fun _ hk => hk.2) (.string t314)) (fun _ hk => hk.2) (.string t315)) (fun _ hk => hk.2) (.int .i64 t316)) (fun _ hk => hk.2) (.slice Ao29 t317.length co29)) (fun _ hk => hk.2) (.bool t320)) (fun _ hk => hk.2) (.int .i64 t321)) (fun _ hk => hk.2) (.int .i64 t322)) (fun _ h_ => h_.1))) : p := h
theorem au4_29 {p : Prop} (h : p := by (with_reducible repeat (first | apply Kd.S_alloc | apply Kd.S_drewN | apply Kd.S_drew)); exact (Kd.S_mono (Kd.S_far (p := ⟨gb323, 6, none⟩) (Kd.S_far (p := ⟨gb323, 5, none⟩) (Kd.S_far (p := ⟨gb323, 4, none⟩) (Kd.S_far (p := ⟨gb323, 3, none⟩) (Kd.S_far (p := ⟨gb323, 2, none⟩) (Kd.S_far (p := ⟨gb323, 1, none⟩) (Kd.S_far (p := ⟨gb323, 0, none⟩) (Kd.S_types HO306.out BK323.out (by decide)) (fun _ hk => hk.2) (.string t314)) (fun _ hk => hk.2) (.string t315)) (fun _ hk => hk.2) (.int .i64 t316)) (fun _ hk => hk.2) (.slice Ao29 t317.length co29)) (fun _ hk => hk.2) (.bool t320)) (fun _ hk => hk.2) (.int .i64 t321)) (fun _ hk => hk.2) (.int .i64 t322)) (fun _ h_ => h_.1))) : p := h
theorem au4_30 {p : Prop} (h : p := by (with_reducible repeat (first | apply Kd.S_alloc | apply Kd.S_drewN | apply Kd.S_drew)); exact (Kd.S_mono (Kd.S_far (p := ⟨gb347, 6, none⟩) (Kd.S_far (p := ⟨gb347, 5, none⟩) (Kd.S_far (p := ⟨gb347, 4, none⟩) (Kd.S_far (p := ⟨gb347, 3, none⟩) (Kd.S_far (p := ⟨gb347, 2, none⟩) (Kd.S_far (p := ⟨gb347, 1, none⟩) (Kd.S_far (p := ⟨gb347, 0, none⟩) (Kd.S_types HO343.out BK347.out (by decide)) (fun _ hk => hk.2) (.string t338)) (fun _ hk => hk.2) (.string t339)) (fun _ hk => hk.2) (.int .i64 t340)) (fun _ hk => hk.2) (.slice Ao70 t341.length co70)) (fun _ hk => hk.2) (.bool t344)) (fun _ hk => hk.2) (.int .i64 t345)) (fun _ hk => hk.2) (.int .i64 t346)) (fun _ h_ => h_.1))) : p := h
theorem au4_31 {p : Prop} (h : p := by (with_reducible repeat (first | apply Kd.S_alloc | apply Kd.S_drewN | apply Kd.S_drew)); exact (Kd.S_mono (Kd.S_far (p := ⟨gb347, 6, none⟩) (Kd.S_far (p := ⟨gb347, 5, none⟩) (Kd.S_far (p := ⟨gb347, 4, none⟩) (Kd.S_far (p := ⟨gb347, 3, none⟩) (Kd.S_far (p := ⟨gb347, 2, none⟩) (Kd.S_far (p := ⟨gb347, 1, none⟩) (Kd.S_far (p := ⟨gb347, 0, none⟩) (Kd.S_types HO343.out BK347.out (by decide)) (fun _ hk => hk.2) (.string t338)) (fun _ hk => hk.2) (.string t339)) (fun _ hk => hk.2) (.int .i64 t340)) (fun _ hk => hk.2) (.slice Ao88 t341.length co88)) (fun _ hk => hk.2) (.bool t344)) (fun _ hk => hk.2) (.int .i64 t345)) (fun _ hk => hk.2) (.int .i64 t346)) (fun _ h_ => h_.1))) : p := h
theorem au4_32 {p : Prop} (h : p := by repeat (first | exact (Kd.S_reads' HO313.out).2.2 | (with_reducible refine Kd.C_alloc ?_ _) | (with_reducible refine Kd.C_drewN ?_ _) | (with_reducible refine Kd.C_drew ?_))) : p := h
theorem au4_33 {p : Prop} (h : p := by (with_reducible repeat (first | apply Kd.S_alloc | apply Kd.S_drewN | apply Kd.S_drew)); exact HO343.out) : p := h
theorem au4_34 {p : Prop} (h : p := by (with_reducible repeat (first | apply Kd.S_alloc | apply Kd.S_drewN | apply Kd.S_drew)); exact HP9_.out) : p := h
theorem au4_35 {p : Prop} (h : p := by repeat (first | exact (Kd.C_below HR0_3.out HB.out) | (with_reducible refine Kd.C_alloc ?_ _) | (with_reducible refine Kd.C_drewN ?_ _) | (with_reducible refine Kd.C_drew ?_))) : p := h
theorem au4_36 {p : Prop} (h : p := by repeat (first | exact (Kd.S_reads' HO337.out).2.2 | (with_reducible refine Kd.C_alloc ?_ _) | (with_reducible refine Kd.C_drewN ?_ _) | (with_reducible refine Kd.C_drew ?_))) : p := h
theorem au4_37 {p : Prop} (h : p := by repeat (first | (with_reducible first | exact HK.out | apply Kept.alloc | apply Kept.drewN | apply Kept.drew) | exact HK.out)) : p := h
theorem au4_38 {p : Prop} (h : p := by repeat (first | exact HR0.out | (with_reducible refine Kd.C_alloc ?_ _) | (with_reducible refine Kd.C_drewN ?_ _) | (with_reducible refine Kd.C_drew ?_))) : p := h
theorem au4_39 {p : Prop} (h : p := by (with_reducible repeat (first | apply Kd.S_alloc | apply Kd.S_drewN | apply Kd.S_drew)); exact HO327.out) : p := h
theorem au4_40 {p : Prop} (h : p := by repeat (first | (with_reducible first | exact HB.out | apply below_alloc | apply pw_below_drewN | apply below_drew1) | exact HB.out)) : p := h
theorem au4_41 {p : Prop} (h : p := by first | (with_reducible exact HZT.out) | exact HZT.out.below bl_) : p := h
theorem au4_42 {p : Prop} (h : p := by repeat (first | exact (Kd.S_reads' HO300.out).2.2 | (with_reducible refine Kd.C_alloc ?_ _) | (with_reducible refine Kd.C_drewN ?_ _) | (with_reducible refine Kd.C_drew ?_))) : p := h
theorem au4_43 {p : Prop} (h : p := by (with_reducible repeat (first | apply Kd.S_alloc | apply Kd.S_drewN | apply Kd.S_drew)); exact HO0.out) : p := h
theorem au4_44 {p : Prop} (h : p := by (with_reducible repeat (first | apply Kd.S_alloc | apply Kd.S_drewN | apply Kd.S_drew)); exact Kd.S_mono HO306.out (fun _ hk => ⟨hk.1.2.2, ⟨hk.1.1, ⟨hk.1.2.1.1, ⟨hk.1.2.1.2.1.1, hk.1.2.1.2.1.2.1⟩⟩⟩⟩)) : p := h
theorem au4_45 {p : Prop} (h : p := by (with_reducible repeat (first | apply Kd.S_alloc | apply Kd.S_drewN | apply Kd.S_drew)); exact HR.out) : p := h
theorem au4_46 {p : Prop} (h : p := by repeat (first | exact (Kd.C_below HR280_0.out HB.out) | (with_reducible refine Kd.C_alloc ?_ _) | (with_reducible refine Kd.C_drewN ?_ _) | (with_reducible refine Kd.C_drew ?_))) : p := h
theorem au4_47 {p : Prop} (h : p := by repeat (first | exact (Kd.C_below HR284_1.out HB.out) | (with_reducible refine Kd.C_alloc ?_ _) | (with_reducible refine Kd.C_drewN ?_ _) | (with_reducible refine Kd.C_drew ?_))) : p := h
theorem au4_48 {p : Prop} (h : p := by repeat (first | exact (Kd.C_below HR287_1.out HB.out) | (with_reducible refine Kd.C_alloc ?_ _) | (with_reducible refine Kd.C_drewN ?_ _) | (with_reducible refine Kd.C_drew ?_))) : p := h
theorem au4_49 {p : Prop} (h : p := by repeat (first | exact (Kd.C_below HR291_2.out HB.out) | (with_reducible refine Kd.C_alloc ?_ _) | (with_reducible refine Kd.C_drewN ?_ _) | (with_reducible refine Kd.C_drew ?_))) : p := h
theorem au4_50 {p : Prop} (h : p := by repeat (first | exact (Kd.S_reads' HO327.out).2.2 | (with_reducible refine Kd.C_alloc ?_ _) | (with_reducible refine Kd.C_drewN ?_ _) | (with_reducible refine Kd.C_drew ?_))) : p := h
theorem au4_51 {p : Prop} (h : p := by (with_reducible repeat (first | apply Kd.S_alloc | apply Kd.S_drewN | apply Kd.S_drew)); exact Kd.S_mono HO319.out (fun _ hk => ⟨hk.1.2.1.2, ⟨hk.1.1, hk.1.2.1.1.1⟩⟩)) : p := h
theorem au4_52 {p : Prop} (h : p := by repeat (first | (with_reducible first | exact HB7.out | apply below_alloc | apply pw_below_drewN | apply below_drew1) | exact HB7.out)) : p := h
theorem au4_53 {p : Prop} (h : p := by repeat (first | (with_reducible first | exact HB5.out | apply below_alloc | apply pw_below_drewN | apply below_drew1) | exact HB5.out)) : p := h
theorem au4_54 {p : Prop} (h : p := by repeat (first | (with_reducible first | exact HK7.out | apply Kept.alloc | apply Kept.drewN | apply Kept.drew) | exact HK7.out)) : p := h
theorem au4_55 {p : Prop} (h : p := by exact (Kd.S_reads' HO313.out).2.1) : p := h
theorem au4_56 {p : Prop} (h : p := by (with_reducible repeat (first | apply Kd.S_alloc | apply Kd.S_drewN | apply Kd.S_drew)); exact HO7.out) : p := h
theorem au4_57 {p : Prop} (h : p := by (with_reducible repeat (first | apply Kd.S_alloc | apply Kd.S_drewN | apply Kd.S_drew)); exact HO5.out) : p := h
theorem au4_58 {p : Prop} (h : p := by exact (Kd.S_reads' HO_311003.out).2.1) : p := h
theorem au4_59 {p : Prop} (h : p := by rintro w' ⟨s0, s1⟩; go_simp; with_reducible rfl) : p := h
theorem au4_60 {p : Prop} (h : p := by simpa [Value.ownBlock] using e_) : p := h
theorem au4_61 {p : Prop} (h : p := by exact (Kd.S_reads' HO319.out).2.1) : p := h
theorem au4_62 {p : Prop} (h : p := by exact (Kd.S_reads' HO306.out).2.1) : p := h
theorem au4_63 {p : Prop} (h : p := by exact (Kd.S_reads' HO337.out).2.1) : p := h
theorem au4_64 {p : Prop} (h : p := by exact (Kd.S_reads' HO343.out).2.1) : p := h

/-! ### F41: function 41 -/
def F41.l0 : Nat → List (S55) → Int → Int → Option (Int × List (S55))
  | 0, _, _, _ => none
  | k + 1, x0, x1, x5 => if x5 < (x0.length : Int) then (if 0 ≤ x5 then ((F64.f k (rd_T55 x0 x5).f0 x1).bind fun q => (F41.l0 k (x0.set (x5 : Int).toNat ⟨q.2⟩) q.1 (wrap64 (x5 + 1)))) else (none)) else (some (x1, x0))
def F41.f (k : Nat) (l0 : List (S55)) (a1 : Int) : Option (Int × List (S55)) := F41.l0 k l0 a1 0
theorem F41.mono_l : ∀ k, (∀ y0 y1 y2, LeO (F41.l0 k y0 y1 y2) (F41.l0 (k + 1) y0 y1 y2))
 | 0 => fun _ _ _ r h => by simp [F41.l0] at h
 | k + 1 => by
  have ih := F41.mono_l k
  intro y0 y1 y2
  unfold F41.l0
  exact LeO.ite (LeO.ite (LeO.bind (F64.mono _ _ _) (fun _ => ih _ _ _)) (LeO.none _)) (LeO.refl _)
theorem F41.mono : ∀ a0 a1 k, LeO (F41.f k a0 a1) (F41.f (k + 1) a0 a1) := fun a0 a1 k => F41.mono_l k a0 a1 0
theorem F41.calls (k : Nat) (P0_ : Nat → Prop) (u9000_ : Value) (l0 : List (S55)) (a1 : Int) (r1 : Int) (r2 : List (S55)) (w0 w : World) (hB : Below w0.heap.size w0 w) (ho0 : Kd.S k55 55 w w0.heap.size P0_ u9000_ l0) (h : F41.f k l0 a1 = some (r1, r2)) :
  Calls Tryd.prog 41 #[u9000_, .int .i64 a1] w fun e w' => e = .returned (.int .i64 r1) ∧ Kd.S k55 55 w' w0.heap.size (fun k_ => (P0_ k_ ∨ w.heap.size ≤ k_)) u9000_ r2 ∧ Below w0.heap.size w0 w' ∧ Kept w w' (fun k_ => P0_ k_) := by
 have hu50 := Tryd.underlying50
 have hu55 := Tryd.underlying55
 have HO0 := am_ (show Kd.S k55 55 w w0.heap.size (fun k_ => (P0_ k_ ∨ w.heap.size ≤ k_)) u9000_ l0 from Kd.S_mono ho0 (fun k_ hk => (.inl hk)))
 have HK := am_ (Kept.refl w (fun k_ => P0_ k_))
 have HB := am_ hB
 clear hB ho0
 have H' := am_ (show F41.l0 k l0 a1 0 = some (r1, r2) from h)
 clear h
 go_enter Tryd.func41, Tryd.ntmps41
 go_wp2
 go_loopg [1, 5] k (fun kq v1 v5 w' => ∃ (x0_1 : List (S55)) (x1_1 : Int) (x5_1 : Int), v1 = .int .i64 x1_1 ∧ v5 = .int .i64 x5_1 ∧ Aside0 (F41.l0 kq x0_1 x1_1 x5_1 = some (r1, r2)) ∧ Aside0 (kq ≤ k) ∧ Aside0 (Kd.S k55 55 w' w0.heap.size (fun k_ => (P0_ k_ ∨ w.heap.size ≤ k_)) u9000_ x0_1) ∧ Aside0 (Kept w w' (fun k_ => P0_ k_)) ∧ Aside0 (Below w0.heap.size w0 w'))
 case atStart => exact ⟨(l0), (a1), (0), er_, er_, H', ⟨Nat.le_refl _⟩, ⟨au4_43⟩, ⟨au4_9⟩, ⟨bl_⟩⟩
 case round =>
  clear H'
  obtain ⟨x0_1, x1_1, x5_1, rfl, rfl, HA, HK1, HO_0, HK, HB⟩ := hrel
  cases gk with
  | zero => exact absurd HA.out (by simp [F41.l0])
  | succ k1 =>
   have H := HA.out
   clear HA
   simp only [F41.l0] at H
   by_cases c3 : x5_1 < (x0_1.length : Int)
   rotate_left
   ·rw [if_neg c3] at H
    have c3b0 : decide (x5_1 < (x0_1.length : Int)) = false := decide_eq_false c3
    clear c3
    simp only [Option.some.injEq, Prod.mk.injEq] at H
    obtain ⟨rfl, rfl⟩ := H
    obtain ⟨Ao11, co11, eo11⟩ := Kd.S_slice HO_0.out
    subst eo11
    go_wp2
    go_ret
    exact ⟨au4_1, au4_16, bl_, au4_9⟩

   rw [if_pos c3] at H
   by_cases c4 : 0 ≤ x5_1
   rotate_left
   ·rw [if_neg c4] at H
    exact absurd H (by simp)
   rw [if_pos c4] at H
   replace H := bi_ H; rcases H with ⟨⟨t1, t2⟩, A5, H⟩
   have H' := am_ (show F41.l0 k1 (x0_1.set (x5_1 : Int).toNat ⟨t2⟩) t1 (wrap64 (x5_1 + 1)) = some (r1, r2) from H)
   clear H
   obtain ⟨Ao, co, eo⟩ := Kd.S_slice HO_0.out
   subst eo
   obtain ⟨ad, A7, c7, e7, hx7, hl7, hi7⟩ := at_T55 (Kd.S_reads' HO_0.out).2.2 x5_1 c4 c3
   cases e7
   obtain ⟨g7, hg7⟩ : ∃ g, ad = ⟨g, 0, none⟩ := Kd.R_head (Kd.S_R HO_0.out)
   have hS := HO_0.out
   rw [hg7] at hS
   obtain ⟨oki, ce, hcl, hM, hcc, hoki, hH⟩ := Kd.S_lend hS z55 x5_1 c4 c3
   obtain ⟨v0, rfl, hR⟩ := k55_openM hM
   have hv0 : v0 = .slice A7 ((rd_T55 x0_1 x5_1).f0).length c7 := by
    have h1 := hcc 0 v0 rfl
    rw [show (k55).sz = 1 from rfl, Nat.mul_one, Nat.add_zero] at h1
    have h2 := hx7
    rw [hg7, add_at, Nat.zero_add] at h2
    exact Option.some.inj (h1.symm.trans h2)
   subst hv0
   have HRi := am_ (show Kd.R Kd.string 9 wr w0.heap.size oki (.slice A7 ((rd_T55 x0_1 x5_1).f0).length c7) ((rd_T55 x0_1 x5_1).f0) from hR)
   have HH := am_ hH
   have HG := am_ hg7
   have HKI := am_ hoki
   clear hR hH hg7 hoki hM hcc hcl hS hi7 hl7
   have c3b0 : decide (x5_1 < (x0_1.length : Int)) = true := decide_eq_true c3
   have c4b0 : decide (0 ≤ x5_1) = true := decide_eq_true c4
   have p7 := eq_true c4
   have q7 := eq_true c3
   clear c3 c4
   go_wp2_with (first | ((with_reducible refine gate_callee (f := 64) rfl ?_); refine gl_ 18 Tryd.func64 #[.slice A7 ((rd_T55 x0_1 x5_1).f0).length c7, .int .i64 x1_1] ?_ rfl rfl rfl rfl; (with_reducible refine (F64.calls k1 oki _ ((rd_T55 x0_1 x5_1).f0) x1_1 t1 t2 w0 _ ?s1 ?s2 A5.out).mono ?_); (case s1 => exact au4_40); (case s2 => (with_reducible repeat (first | apply Kd.R_alloc | apply Kd.R_drewN | apply Kd.R_drew)); exact HRi.out); rintro e w8 ⟨rfl, ho, hb, hk⟩; refine ⟨_, rfl, ?_⟩; replace HO_0 : Aside0 (Kd.S k55 55 w8 w0.heap.size (fun k_ => (P0_ k_ ∨ w.heap.size ≤ k_)) (.slice (some ad) x0_1.length co) (x0_1.set (x5_1 : Int).toNat (⟨t2⟩ : S55))) := ⟨by rw [HG.out]; exact Kd.H_back (Kd.H_step (by (with_reducible repeat (first | apply Kd.H_alloc | apply Kd.H_drewN | apply Kd.H_drew)); exact HH.out) (fun k_ _ hn hlt => hk.2 k_ hlt hn)) (k55_mkM _ _ _ (⟨t2⟩ : S55) (Kd.R_tight rfl ho)) (fun k_ he => HRi.out.1 k_ he.symm)⟩; replace HK := am_ (Kept.then_ (S := (fun k_ => P0_ k_)) au4_37 hk (fun k_ h_ => (HKI.out k_ h_).1)); replace HB := am_ hb; clear hb hk ho HH HRi))
   go_roundg k1
   case measure => have := HK1.out; omega
   case rel => exact ⟨(x0_1.set (x5_1 : Int).toNat ⟨t2⟩), t1, (wrap64 (x5_1 + 1)), er_, er_, H', ⟨by have := HK1.out; omega⟩, ⟨au4_16⟩, ⟨au4_9⟩, ⟨bl_⟩⟩
/-! ### F17: function 17 -/
theorem F17.cellsS_ {w : World} {base g n cap : Nat} {ok : Nat → Prop} {xs : List S52} {i : Int} (h : Kd.S k52 52 w base ok (.slice (some ⟨g, 0, none⟩) n cap) xs) (h0 : 0 ≤ i) (h1 : i < (xs.length : Int)) :
  (w.cell? ⟨g, i.toNat * 2, none⟩ = some (.string (rd_T52 xs i).f0)) ∧ w.frozen? ⟨g, i.toNat * 2, none⟩ = false := by
 have hn : n = xs.length := (Kd.S_reads' h).1
 obtain ⟨oki, c, hcl, hM, hcc, hfr, hoki, hH⟩ := Kd.S_elem h z52 i h0 (by omega)
 obtain ⟨v1, rfl, hR⟩ := k52_openM hM
 exact ⟨hcc 0 _ rfl, hfr 0⟩
theorem F17.putS_ {w : World} {base g n cap : Nat} {ok : Nat → Prop} {xs : List S52} {i : Int} (h : Kd.S k52 52 w base ok (.slice (some ⟨g, 0, none⟩) n cap) xs) (h0 : 0 ≤ i) (h1 : i < (xs.length : Int)) (t : ByteArray) :
  Kd.S k52 52 (w.setCell ⟨g, i.toNat * 2, none⟩ (.string t)) base ok (.slice (some ⟨g, 0, none⟩) n cap) (xs.set i.toNat ⟨t, (rd_T52 xs i).f1⟩) ∧ w.grownBy (w.setCell ⟨g, i.toNat * 2, none⟩ (.string t)) (some g) := by
 have hn : n = xs.length := (Kd.S_reads' h).1
 obtain ⟨oki, c, hcl, hM, hcc, hoki, hH⟩ := Kd.S_lend h z52 i h0 (by omega)
 obtain ⟨v1, rfl, hR⟩ := k52_openM hM
 obtain ⟨h2, h3⟩ := Kd.H_seg hH h0 (by omega) (seg := [.string t]) (j := 0) (by show 0 + 1 ≤ 2; omega) (by simp [Value.oneCell'])
 have e : w.setCells g (i.toNat * k52.sz + 0) [.string t] = w.setCell ⟨g, i.toNat * 2, none⟩ (.string t) := rfl
 rw [e] at h2 h3
 refine ⟨Kd.H_back h2 (k52_mkM _ _ oki (⟨t, (rd_T52 xs i).f1⟩ : S52) (Kd.S_step hR (fun k hk hlt => ?_))) (fun _ hk => hk), h3⟩
 exact h3.block k hlt (fun he => (hoki k hk).2 (by injection he))
theorem F17.gets_ {xs : List S52} {i : Int} {x : S52} (h0 : 0 ≤ i) (h1 : i < (xs.length : Int)) : (xs.set i.toNat x).getD i.toNat z52 = x := by
 rw [List.getD_eq_getElem?_getD, List.getElem?_set_self (by omega)]
 rfl
theorem F17.backS_ {w w1 : World} {base b g n cap : Nat} {P0 oki : Nat → Prop} {xs : List S52} {i : Int} {t : ByteArray} {f1 t2 : List S55} {v1 : Value}
  (hH : Kd.H k52 52 w base (fun k_ => (P0 k_ ∨ b ≤ k_)) (.slice (some ⟨g, 0, none⟩) n cap) (xs.set i.toNat ⟨t, f1⟩) i oki [.string t, v1])
  (ho : Kd.S k55 55 w1 base (fun k_ => (oki k_ ∨ w.heap.size ≤ k_)) v1 t2) (hk : Kept w w1 oki) (hb : b ≤ w.heap.size) :
  Kd.S k52 52 w1 base (fun k_ => (P0 k_ ∨ b ≤ k_)) (.slice (some ⟨g, 0, none⟩) n cap) (xs.set i.toNat ⟨t, t2⟩) := by
 have h := Kd.H_back (Kd.H_step (Kd.H_widen hH) (fun k _ hn hlt => hk.2 k hlt (fun h => hn (.inl h)))) (k52_mkM _ _ _ (⟨t, t2⟩ : S52) ho) (fun k h_ => h_.elim (fun a => .inl a) (fun c => .inr ⟨.inr (Nat.le_trans hb c), c⟩))
 rwa [List.set_set] at h
def F17.l0 : Nat → List S52 → Int → Int → Option (Int × List S52)
  | 0, _, _, _ => none
  | k + 1, x0, x1, x5 => if x5 < (x0.length : Int) then (if 0 ≤ x5 then ((F40.f k x1).bind fun t => (F41.f k (rd_T52 x0 x5).f1 (wrap64 (x1 + 1))).bind fun q => (F17.l0 k (x0.set (x5 : Int).toNat ⟨t, q.2⟩) q.1 (wrap64 (x5 + 1)))) else (none)) else (some (x1, x0))
def F17.f (k : Nat) (l0 : List S52) (a1 : Int) : Option (Int × List S52) := F17.l0 k l0 a1 0
theorem F17.mono_l : ∀ k, (∀ y0 y1 y2, LeO (F17.l0 k y0 y1 y2) (F17.l0 (k + 1) y0 y1 y2))
 | 0 => fun _ _ _ r h => by simp [F17.l0] at h
 | k + 1 => by
  have ih := F17.mono_l k
  intro y0 y1 y2
  unfold F17.l0
  exact LeO.ite (LeO.ite (LeO.bind (F40.mono _ _) (fun _ => LeO.bind (F41.mono _ _ _) (fun _ => ih _ _ _))) (LeO.none _)) (LeO.refl _)
theorem F17.mono : ∀ a0 a1 k, LeO (F17.f k a0 a1) (F17.f (k + 1) a0 a1) := fun a0 a1 k => F17.mono_l k a0 a1 0
theorem F17.calls (k : Nat) (P0_ : Nat → Prop) (u9000_ : Value) (l0 : List S52) (a1 : Int) (r1 : Int) (r2 : List S52) (w0 w : World) (hB : Below w0.heap.size w0 w) (ho0 : Kd.S k52 52 w w0.heap.size P0_ u9000_ l0) (h : F17.f k l0 a1 = some (r1, r2)) :
  Calls Tryd.prog 17 #[u9000_, .int .i64 a1] w fun e w' => e = .returned (.int .i64 r1) ∧ Kd.S k52 52 w' w0.heap.size (fun k_ => (P0_ k_ ∨ w.heap.size ≤ k_)) u9000_ r2 ∧ Below w0.heap.size w0 w' ∧ Kept w w' (fun k_ => P0_ k_) := by
 have hu38 := Tryd.underlying38
 have hu52 := Tryd.underlying52
 have HO0 := am_ (show Kd.S k52 52 w w0.heap.size (fun k_ => (P0_ k_ ∨ w.heap.size ≤ k_)) u9000_ l0 from Kd.S_mono ho0 (fun k_ hk => (.inl hk)))
 have HK := am_ (Kept.refl w (fun k_ => P0_ k_))
 have HB := am_ hB
 have HW := am_ (Nat.le_refl w.heap.size)
 clear hB ho0
 have H' := am_ (show F17.l0 k l0 a1 0 = some (r1, r2) from h)
 clear h
 go_enter Tryd.func17, Tryd.ntmps17
 go_wp2
 go_loopg [1, 5] k (fun kq v1 v5 w' => ∃ (x0_1 : List S52) (x1_1 : Int) (x5_1 : Int), v1 = .int .i64 x1_1 ∧ v5 = .int .i64 x5_1 ∧ Aside0 (F17.l0 kq x0_1 x1_1 x5_1 = some (r1, r2)) ∧ Aside0 (kq ≤ k) ∧ Aside0 (Kd.S k52 52 w' w0.heap.size (fun k_ => (P0_ k_ ∨ w.heap.size ≤ k_)) u9000_ x0_1) ∧ Aside0 (Kept w w' (fun k_ => P0_ k_)) ∧ Aside0 (Below w0.heap.size w0 w') ∧ Aside0 (w.heap.size ≤ w'.heap.size))
 case atStart => exact ⟨(l0), (a1), (0), er_, er_, H', ⟨Nat.le_refl _⟩, ⟨au4_43⟩, ⟨au4_9⟩, ⟨bl_⟩, ⟨HW.out⟩⟩
 case round =>
  clear H'
  obtain ⟨x0_1, x1_1, x5_1, rfl, rfl, HA, HK1, HO_0, HK, HB, HW⟩ := hrel
  cases gk with
  | zero => exact absurd HA.out (by simp [F17.l0])
  | succ k1 =>
   have H := HA.out
   clear HA
   simp only [F17.l0] at H
   by_cases c3 : x5_1 < (x0_1.length : Int)
   rotate_left
   ·rw [if_neg c3] at H
    have c3b0 : decide (x5_1 < (x0_1.length : Int)) = false := decide_eq_false c3
    clear c3
    simp only [Option.some.injEq, Prod.mk.injEq] at H
    obtain ⟨rfl, rfl⟩ := H
    obtain ⟨Ao11, co11, eo11⟩ := Kd.S_slice HO_0.out
    subst eo11
    go_wp2
    go_ret
    exact ⟨au4_1, au4_16, bl_, au4_9⟩

   rw [if_pos c3] at H
   by_cases c4 : 0 ≤ x5_1
   rotate_left
   ·rw [if_neg c4] at H
    exact absurd H (by simp)
   rw [if_pos c4] at H
   replace H := bi_ H; rcases H with ⟨t, A5, H⟩
   replace H := bi_ H; rcases H with ⟨⟨t1, t2⟩, A6, H⟩
   have H' := am_ (show F17.l0 k1 (x0_1.set (x5_1 : Int).toNat ⟨t, t2⟩) t1 (wrap64 (x5_1 + 1)) = some (r1, r2) from H)
   clear H
   obtain ⟨Ao, co, eo⟩ := Kd.S_slice HO_0.out
   subst eo
   obtain ⟨ad, A7, c7, e7, hx7, hy7, hl7, hi7⟩ := at_T52 ((Kd.S_reads' HO_0.out).2.2) x5_1 c4 c3
   cases e7
   obtain ⟨g7, hg7⟩ : ∃ g, ad = ⟨g, 0, none⟩ := Kd.R_head (Kd.S_R HO_0.out)
   subst hg7
   clear hx7 hy7 hl7 hi7
   have c3b0 : decide (x5_1 < (x0_1.length : Int)) = true := decide_eq_true c3
   have c4b0 : decide (0 ≤ x5_1) = true := decide_eq_true c4
   have C3 := am_ c3
   have C4 := am_ c4
   have p7 := eq_true c4
   have q7 := eq_true c3
   clear c3 c4
   go_wp2_with (first | ((with_reducible refine gate_callee (f := 40) rfl ?_); refine gl_ 15 Tryd.func40 #[.int .i64 x1_1] ?_ rfl rfl rfl rfl; (with_reducible refine (F40.calls k1 x1_1 t _ A5.out).mono ?_); rintro e w8 ⟨rfl, hb⟩; refine ⟨_, rfl, ?_⟩; have n0_ := am_ (Kd.S_below (by (with_reducible repeat (first | apply Kd.S_alloc | apply Kd.S_drewN | apply Kd.S_drew)); exact HO_0.out) hb); have n1_ := am_ (Kept.below (S := (fun k_ => P0_ k_)) au4_37 hb); have n2_ := am_ (below_step bl_ hb); have n3_ := am_ (Nat.le_trans HW.out hb.size); clear HO_0 HK HB HW hb; have HO_0 := n0_; have HK := n1_; have HB := n2_; have HW := n3_; clear n0_ n1_ n2_ n3_; obtain ⟨hsc0, hsf0⟩ := F17.cellsS_ HO_0.out C4.out C3.out; have HP := F17.putS_ HO_0.out C4.out C3.out t) | ((with_reducible refine gate_store (t := 9) (p := 17) rfl ?_); refine store_event (t := 9) (p := 17) (v := ?vo_w10) (w1 := (w8.setCell ⟨g7, (x5_1 : Int).toNat * 2, none⟩ (.string t))) ?hg ?ho ?hn ?hr ?_; (case ho => rfl); (case hg => rfl); (case hn => rfl); (case hr => exact hr_); intro w10 hw; have hg : w8.grownBy w10 (some g7) := (by rw [hw]; exact HP.2); have n0_ := am_ (show Kd.S k52 52 w10 w0.heap.size (fun k_ => (P0_ k_ ∨ w.heap.size ≤ k_)) (.slice (some ⟨g7, 0, none⟩) x0_1.length co) (x0_1.set (x5_1 : Int).toNat ⟨t, (rd_T52 x0_1 x5_1).f1⟩) from by rw [hw]; exact HP.1); have n1_ := am_ (Kept.of_grown (S := (fun k_ => P0_ k_)) hg (by exact HK.out) (fun k_ e_ => (Kd.S_R HO_0.out).1 k_ au4_60)); have n2_ := am_ (show Below w0.heap.size w0 w10 from by rw [hw]; exact below_set HB.out (Kd.S_base HO_0.out g7 rfl)); have n3_ := am_ (Nat.le_trans HW.out hg.size); clear HO_0 HK HB HW HP hw hg hsc0 hsf0; have HO_0 := n0_; have HK := n1_; have HB := n2_; have HW := n3_; clear n0_ n1_ n2_ n3_; obtain ⟨oki, ce, hcl, hM, hcc, hfr, hoki, hH⟩ := Kd.S_elem HO_0.out z52 x5_1 C4.out C3.out; rw [F17.gets_ C4.out C3.out] at hM; obtain ⟨v1, rfl, hR⟩ := k52_openM hM; obtain ⟨A1, c1, rfl⟩ := Kd.S_slice hR; have hl1 : w10.cell? ⟨g7, (x5_1 : Int).toNat * 2 + 1, none⟩ = some (.slice A1 (rd_T52 x0_1 x5_1).f1.length c1) := hcc 1 _ rfl; have hf1 : w10.frozen? ⟨g7, (x5_1 : Int).toNat * 2 + 1, none⟩ = false := hfr 1; have HR := am_ hR; have HH := am_ hH; have HKI := am_ hoki; clear hcl hM hcc hfr hoki hR hH HO_0) | ((with_reducible refine gate_callee (f := 41) rfl ?_); refine gl_ 26 Tryd.func41 #[.slice A1 (rd_T52 x0_1 x5_1).f1.length c1, .int .i64 (wrap64 (x1_1 + 1))] ?_ rfl rfl rfl rfl; (with_reducible refine (F41.calls k1 oki (.slice A1 (rd_T52 x0_1 x5_1).f1.length c1) ((rd_T52 x0_1 x5_1).f1) (wrap64 (x1_1 + 1)) t1 t2 w0 _ ?s1 ?s2 A6.out).mono ?_); (case s1 => exact au4_40); (case s2 => exact au4_45); rintro e w12 ⟨rfl, ho, hb, hk⟩; refine ⟨_, rfl, ?_⟩; have n0_ := am_ (show Kd.S k52 52 w12 w0.heap.size (fun k_ => (P0_ k_ ∨ w.heap.size ≤ k_)) (.slice (some ⟨g7, 0, none⟩) x0_1.length co) (x0_1.set (x5_1 : Int).toNat ⟨t, t2⟩) from F17.backS_ HH.out ho hk HW.out); have n1_ := am_ (Kept.then_ (S := (fun k_ => P0_ k_)) au4_37 hk (fun k_ h_ => (HKI.out k_ h_).1)); have n2_ := am_ hb; have n3_ := am_ (Nat.le_trans HW.out hk.1); clear HK HB HW HR HH hb hk ho; have HO_0 := n0_; have HK := n1_; have HB := n2_; have HW := n3_; clear n0_ n1_ n2_ n3_))
   go_roundg k1
   case measure => have := HK1.out; omega
   case rel => exact ⟨(x0_1.set (x5_1 : Int).toNat ⟨t, t2⟩), t1, (wrap64 (x5_1 + 1)), er_, er_, H', ⟨by have := HK1.out; omega⟩, ⟨au4_16⟩, ⟨au4_9⟩, ⟨bl_⟩, ⟨HW.out⟩⟩
/-! ### F98: function 98 -/
theorem F98.cellsS_ {w : World} {base g n cap : Nat} {ok : Nat → Prop} {xs : List S85} {i : Int} (h : Kd.S k85 85 w base ok (.slice (some ⟨g, 0, none⟩) n cap) xs) (h0 : 0 ≤ i) (h1 : i < (xs.length : Int)) :
  (w.cell? ⟨g, i.toNat * 2, none⟩ = some (.int .i64 (rd_T85 xs i).f0)) ∧ w.frozen? ⟨g, i.toNat * 2, none⟩ = false := by
 have hn : n = xs.length := (Kd.S_reads' h).1
 obtain ⟨oki, c, hcl, hM, hcc, hfr, hoki, hH⟩ := Kd.S_elem h z85 i h0 (by omega)
 obtain ⟨v1, rfl, hR⟩ := k85_openM hM
 exact ⟨hcc 0 _ rfl, hfr 0⟩
theorem F98.putS_ {w : World} {base g n cap : Nat} {ok : Nat → Prop} {xs : List S85} {i : Int} (h : Kd.S k85 85 w base ok (.slice (some ⟨g, 0, none⟩) n cap) xs) (h0 : 0 ≤ i) (h1 : i < (xs.length : Int)) (t : Int) :
  Kd.S k85 85 (w.setCell ⟨g, i.toNat * 2, none⟩ (.int .i64 t)) base ok (.slice (some ⟨g, 0, none⟩) n cap) (xs.set i.toNat ⟨t, (rd_T85 xs i).f1⟩) ∧ w.grownBy (w.setCell ⟨g, i.toNat * 2, none⟩ (.int .i64 t)) (some g) := by
 have hn : n = xs.length := (Kd.S_reads' h).1
 obtain ⟨oki, c, hcl, hM, hcc, hoki, hH⟩ := Kd.S_lend h z85 i h0 (by omega)
 obtain ⟨v1, rfl, hR⟩ := k85_openM hM
 obtain ⟨h2, h3⟩ := Kd.H_seg hH h0 (by omega) (seg := [.int .i64 t]) (j := 0) (by show 0 + 1 ≤ 2; omega) (by simp [Value.oneCell'])
 have e : w.setCells g (i.toNat * k85.sz + 0) [.int .i64 t] = w.setCell ⟨g, i.toNat * 2, none⟩ (.int .i64 t) := rfl
 rw [e] at h2 h3
 refine ⟨Kd.H_back h2 (k85_mkM _ _ oki (⟨t, (rd_T85 xs i).f1⟩ : S85) (Kd.S_step hR (fun k hk hlt => ?_))) (fun _ hk => hk), h3⟩
 exact h3.block k hlt (fun he => (hoki k hk).2 (by injection he))
theorem F98.gets_ {xs : List S85} {i : Int} {x : S85} (h0 : 0 ≤ i) (h1 : i < (xs.length : Int)) : (xs.set i.toNat x).getD i.toNat z85 = x := by
 rw [List.getD_eq_getElem?_getD, List.getElem?_set_self (by omega)]
 rfl
theorem F98.backS_ {w w1 : World} {base b g n cap : Nat} {P0 oki : Nat → Prop} {xs : List S85} {i : Int} {t : Int} {f1 t2 : List S52} {v1 : Value}
  (hH : Kd.H k85 85 w base (fun k_ => (P0 k_ ∨ b ≤ k_)) (.slice (some ⟨g, 0, none⟩) n cap) (xs.set i.toNat ⟨t, f1⟩) i oki [.int .i64 t, v1])
  (ho : Kd.S k52 52 w1 base (fun k_ => (oki k_ ∨ w.heap.size ≤ k_)) v1 t2) (hk : Kept w w1 oki) (hb : b ≤ w.heap.size) :
  Kd.S k85 85 w1 base (fun k_ => (P0 k_ ∨ b ≤ k_)) (.slice (some ⟨g, 0, none⟩) n cap) (xs.set i.toNat ⟨t, t2⟩) := by
 have h := Kd.H_back (Kd.H_step (Kd.H_widen hH) (fun k _ hn hlt => hk.2 k hlt (fun h => hn (.inl h)))) (k85_mkM _ _ _ (⟨t, t2⟩ : S85) ho) (fun k h_ => h_.elim (fun a => .inl a) (fun c => .inr ⟨.inr (Nat.le_trans hb c), c⟩))
 rwa [List.set_set] at h
def F98.l0 : Nat → List S85 → Int → Int → Option (Int × List S85)
  | 0, _, _, _ => none
  | k + 1, x0, x1, x5 => if x5 < (x0.length : Int) then (if 0 ≤ x5 then ((F17.f k (rd_T85 x0 x5).f1 (wrap64 (x1 + 1))).bind fun q => (F98.l0 k (x0.set (x5 : Int).toNat ⟨x1, q.2⟩) q.1 (wrap64 (x5 + 1)))) else (none)) else (some (x1, x0))
def F98.f (k : Nat) (l0 : List S85) (a1 : Int) : Option (Int × List S85) := F98.l0 k l0 a1 0
theorem F98.mono_l : ∀ k, (∀ y0 y1 y2, LeO (F98.l0 k y0 y1 y2) (F98.l0 (k + 1) y0 y1 y2))
 | 0 => fun _ _ _ r h => by simp [F98.l0] at h
 | k + 1 => by
  have ih := F98.mono_l k
  intro y0 y1 y2
  unfold F98.l0
  exact LeO.ite (LeO.ite (LeO.bind (F17.mono _ _ _) (fun _ => ih _ _ _)) (LeO.none _)) (LeO.refl _)
theorem F98.mono : ∀ a0 a1 k, LeO (F98.f k a0 a1) (F98.f (k + 1) a0 a1) := fun a0 a1 k => F98.mono_l k a0 a1 0
theorem F98.calls (k : Nat) (P0_ : Nat → Prop) (u9000_ : Value) (l0 : List S85) (a1 : Int) (r1 : Int) (r2 : List S85) (w0 w : World) (hB : Below w0.heap.size w0 w) (ho0 : Kd.S k85 85 w w0.heap.size P0_ u9000_ l0) (h : F98.f k l0 a1 = some (r1, r2)) :
  Calls Tryd.prog 98 #[u9000_, .int .i64 a1] w fun e w' => e = .returned (.int .i64 r1) ∧ Kd.S k85 85 w' w0.heap.size (fun k_ => (P0_ k_ ∨ w.heap.size ≤ k_)) u9000_ r2 ∧ Below w0.heap.size w0 w' ∧ Kept w w' (fun k_ => P0_ k_) := by
 have hu81 := Tryd.underlying81
 have hu85 := Tryd.underlying85
 have HO0 := am_ (show Kd.S k85 85 w w0.heap.size (fun k_ => (P0_ k_ ∨ w.heap.size ≤ k_)) u9000_ l0 from Kd.S_mono ho0 (fun k_ hk => (.inl hk)))
 have HK := am_ (Kept.refl w (fun k_ => P0_ k_))
 have HB := am_ hB
 have HW := am_ (Nat.le_refl w.heap.size)
 clear hB ho0
 have H' := am_ (show F98.l0 k l0 a1 0 = some (r1, r2) from h)
 clear h
 go_enter Tryd.func98, Tryd.ntmps98
 go_wp2
 go_loopg [1, 5] k (fun kq v1 v5 w' => ∃ (x0_1 : List S85) (x1_1 : Int) (x5_1 : Int), v1 = .int .i64 x1_1 ∧ v5 = .int .i64 x5_1 ∧ Aside0 (F98.l0 kq x0_1 x1_1 x5_1 = some (r1, r2)) ∧ Aside0 (kq ≤ k) ∧ Aside0 (Kd.S k85 85 w' w0.heap.size (fun k_ => (P0_ k_ ∨ w.heap.size ≤ k_)) u9000_ x0_1) ∧ Aside0 (Kept w w' (fun k_ => P0_ k_)) ∧ Aside0 (Below w0.heap.size w0 w') ∧ Aside0 (w.heap.size ≤ w'.heap.size))
 case atStart => exact ⟨(l0), (a1), (0), er_, er_, H', ⟨Nat.le_refl _⟩, ⟨au4_43⟩, ⟨au4_9⟩, ⟨bl_⟩, ⟨HW.out⟩⟩
 case round =>
  clear H'
  obtain ⟨x0_1, x1_1, x5_1, rfl, rfl, HA, HK1, HO_0, HK, HB, HW⟩ := hrel
  cases gk with
  | zero => exact absurd HA.out (by simp [F98.l0])
  | succ k1 =>
   have H := HA.out
   clear HA
   simp only [F98.l0] at H
   by_cases c3 : x5_1 < (x0_1.length : Int)
   rotate_left
   ·rw [if_neg c3] at H
    have c3b0 : decide (x5_1 < (x0_1.length : Int)) = false := decide_eq_false c3
    clear c3
    simp only [Option.some.injEq, Prod.mk.injEq] at H
    obtain ⟨rfl, rfl⟩ := H
    obtain ⟨Ao11, co11, eo11⟩ := Kd.S_slice HO_0.out
    subst eo11
    go_wp2
    go_ret
    exact ⟨au4_1, au4_16, bl_, au4_9⟩

   rw [if_pos c3] at H
   by_cases c4 : 0 ≤ x5_1
   rotate_left
   ·rw [if_neg c4] at H
    exact absurd H (by simp)
   rw [if_pos c4] at H
   replace H := bi_ H; rcases H with ⟨⟨t1, t2⟩, A6, H⟩
   have H' := am_ (show F98.l0 k1 (x0_1.set (x5_1 : Int).toNat ⟨x1_1, t2⟩) t1 (wrap64 (x5_1 + 1)) = some (r1, r2) from H)
   clear H
   obtain ⟨Ao, co, eo⟩ := Kd.S_slice HO_0.out
   subst eo
   obtain ⟨ad, A7, c7, e7, hx7, hy7, hl7, hi7⟩ := at_T85 ((Kd.S_reads' HO_0.out).2.2) x5_1 c4 c3
   cases e7
   obtain ⟨g7, hg7⟩ : ∃ g, ad = ⟨g, 0, none⟩ := Kd.R_head (Kd.S_R HO_0.out)
   subst hg7
   clear hx7 hy7 hl7 hi7
   have c3b0 : decide (x5_1 < (x0_1.length : Int)) = true := decide_eq_true c3
   have c4b0 : decide (0 ≤ x5_1) = true := decide_eq_true c4
   have C3 := am_ c3
   have C4 := am_ c4
   have p7 := eq_true c4
   have q7 := eq_true c3
   clear c3 c4
   obtain ⟨hsc0, hsf0⟩ := F98.cellsS_ HO_0.out C4.out C3.out
   have HP := F98.putS_ HO_0.out C4.out C3.out x1_1
   go_wp2_with (first | ((with_reducible refine gate_store (t := 2) (p := 16) rfl ?_); refine store_event (t := 2) (p := 16) (v := ?vo_w10) (w1 := (wr.setCell ⟨g7, (x5_1 : Int).toNat * 2, none⟩ (.int .i64 x1_1))) ?hg ?ho ?hn ?hr ?_; (case ho => rfl); (case hg => rfl); (case hn => rfl); (case hr => exact hr_); intro w10 hw; have hg : wr.grownBy w10 (some g7) := (by rw [hw]; exact HP.2); have n0_ := am_ (show Kd.S k85 85 w10 w0.heap.size (fun k_ => (P0_ k_ ∨ w.heap.size ≤ k_)) (.slice (some ⟨g7, 0, none⟩) x0_1.length co) (x0_1.set (x5_1 : Int).toNat ⟨x1_1, (rd_T85 x0_1 x5_1).f1⟩) from by rw [hw]; exact HP.1); have n1_ := am_ (Kept.of_grown (S := (fun k_ => P0_ k_)) hg (by exact HK.out) (fun k_ e_ => (Kd.S_R HO_0.out).1 k_ au4_60)); have n2_ := am_ (show Below w0.heap.size w0 w10 from by rw [hw]; exact below_set HB.out (Kd.S_base HO_0.out g7 rfl)); have n3_ := am_ (Nat.le_trans HW.out hg.size); clear HO_0 HK HB HW HP hw hg hsc0 hsf0; have HO_0 := n0_; have HK := n1_; have HB := n2_; have HW := n3_; clear n0_ n1_ n2_ n3_; obtain ⟨oki, ce, hcl, hM, hcc, hfr, hoki, hH⟩ := Kd.S_elem HO_0.out z85 x5_1 C4.out C3.out; rw [F98.gets_ C4.out C3.out] at hM; obtain ⟨v1, rfl, hR⟩ := k85_openM hM; obtain ⟨A1, c1, rfl⟩ := Kd.S_slice hR; have hl1 : w10.cell? ⟨g7, (x5_1 : Int).toNat * 2 + 1, none⟩ = some (.slice A1 (rd_T85 x0_1 x5_1).f1.length c1) := hcc 1 _ rfl; have hf1 : w10.frozen? ⟨g7, (x5_1 : Int).toNat * 2 + 1, none⟩ = false := hfr 1; have HR := am_ hR; have HH := am_ hH; have HKI := am_ hoki; clear hcl hM hcc hfr hoki hR hH HO_0) | ((with_reducible refine gate_callee (f := 17) rfl ?_); refine gl_ 25 Tryd.func17 #[.slice A1 (rd_T85 x0_1 x5_1).f1.length c1, .int .i64 (wrap64 (x1_1 + 1))] ?_ rfl rfl rfl rfl; (with_reducible refine (F17.calls k1 oki (.slice A1 (rd_T85 x0_1 x5_1).f1.length c1) ((rd_T85 x0_1 x5_1).f1) (wrap64 (x1_1 + 1)) t1 t2 w0 _ ?s1 ?s2 A6.out).mono ?_); (case s1 => exact au4_40); (case s2 => exact au4_45); rintro e w12 ⟨rfl, ho, hb, hk⟩; refine ⟨_, rfl, ?_⟩; have n0_ := am_ (show Kd.S k85 85 w12 w0.heap.size (fun k_ => (P0_ k_ ∨ w.heap.size ≤ k_)) (.slice (some ⟨g7, 0, none⟩) x0_1.length co) (x0_1.set (x5_1 : Int).toNat ⟨x1_1, t2⟩) from F98.backS_ HH.out ho hk HW.out); have n1_ := am_ (Kept.then_ (S := (fun k_ => P0_ k_)) au4_37 hk (fun k_ h_ => (HKI.out k_ h_).1)); have n2_ := am_ hb; have n3_ := am_ (Nat.le_trans HW.out hk.1); clear HK HB HW HR HH hb hk ho; have HO_0 := n0_; have HK := n1_; have HB := n2_; have HW := n3_; clear n0_ n1_ n2_ n3_))
   go_roundg k1
   case measure => have := HK1.out; omega
   case rel => exact ⟨(x0_1.set (x5_1 : Int).toNat ⟨x1_1, t2⟩), t1, (wrap64 (x5_1 + 1)), er_, er_, H', ⟨by have := HK1.out; omega⟩, ⟨au4_16⟩, ⟨au4_9⟩, ⟨bl_⟩, ⟨HW.out⟩⟩
/-! ### F65: function 65 -/
theorem F65.cellsS_ {w : World} {base g n cap : Nat} {ok : Nat → Prop} {xs : List S83} {i : Int} (h : Kd.S k83 83 w base ok (.slice (some ⟨g, 0, none⟩) n cap) xs) (h0 : 0 ≤ i) (h1 : i < (xs.length : Int)) :
  (w.cell? ⟨g, i.toNat * 3, none⟩ = some (.int .i64 (rd_T83 xs i).f0)) ∧ w.frozen? ⟨g, i.toNat * 3, none⟩ = false := by
 have hn : n = xs.length := (Kd.S_reads' h).1
 obtain ⟨oki, c, hcl, hM, hcc, hfr, hoki, hH⟩ := Kd.S_elem h z83 i h0 (by omega)
 obtain ⟨v1, rfl, hR⟩ := k83_openM hM
 exact ⟨hcc 0 _ rfl, hfr 0⟩
theorem F65.cellsT_ {w : World} {base g n cap : Nat} {ok : Nat → Prop} {xs : List S83} {i : Int} (h : Kd.S k83 83 w base ok (.slice (some ⟨g, 0, none⟩) n cap) xs) (h0 : 0 ≤ i) (h1 : i < (xs.length : Int)) :
  (w.cell? ⟨g, i.toNat * 3 + 1, none⟩ = some (.int .i64 (rd_T83 xs i).f1)) ∧ w.frozen? ⟨g, i.toNat * 3 + 1, none⟩ = false := by
 have hn : n = xs.length := (Kd.S_reads' h).1
 obtain ⟨oki, c, hcl, hM, hcc, hfr, hoki, hH⟩ := Kd.S_elem h z83 i h0 (by omega)
 obtain ⟨v1, rfl, hR⟩ := k83_openM hM
 exact ⟨hcc 1 _ rfl, hfr 1⟩
theorem F65.putS_ {w : World} {base g n cap : Nat} {ok : Nat → Prop} {xs : List S83} {i : Int} (h : Kd.S k83 83 w base ok (.slice (some ⟨g, 0, none⟩) n cap) xs) (h0 : 0 ≤ i) (h1 : i < (xs.length : Int)) (t : Int) :
  Kd.S k83 83 (w.setCell ⟨g, i.toNat * 3, none⟩ (.int .i64 t)) base ok (.slice (some ⟨g, 0, none⟩) n cap) (xs.set i.toNat ⟨t, (rd_T83 xs i).f1, (rd_T83 xs i).f2⟩) ∧ w.grownBy (w.setCell ⟨g, i.toNat * 3, none⟩ (.int .i64 t)) (some g) := by
 have hn : n = xs.length := (Kd.S_reads' h).1
 obtain ⟨oki, c, hcl, hM, hcc, hoki, hH⟩ := Kd.S_lend h z83 i h0 (by omega)
 obtain ⟨v1, rfl, hR⟩ := k83_openM hM
 obtain ⟨h2, h3⟩ := Kd.H_seg hH h0 (by omega) (seg := [.int .i64 t]) (j := 0) (by show 0 + 1 ≤ 3; omega) (by simp [Value.oneCell'])
 have e : w.setCells g (i.toNat * k83.sz + 0) [.int .i64 t] = w.setCell ⟨g, i.toNat * 3, none⟩ (.int .i64 t) := rfl
 rw [e] at h2 h3
 refine ⟨Kd.H_back h2 (k83_mkM _ _ oki (⟨t, (rd_T83 xs i).f1, (rd_T83 xs i).f2⟩ : S83) (Kd.S_step hR (fun k hk hlt => ?_))) (fun _ hk => hk), h3⟩
 exact h3.block k hlt (fun he => (hoki k hk).2 (by injection he))
theorem F65.putT_ {w : World} {base g n cap : Nat} {ok : Nat → Prop} {xs : List S83} {i : Int} {x : S83} (h : Kd.S k83 83 w base ok (.slice (some ⟨g, 0, none⟩) n cap) (xs.set i.toNat x)) (h0 : 0 ≤ i) (h1 : i < (xs.length : Int)) (t : Int) :
  Kd.S k83 83 (w.setCell ⟨g, i.toNat * 3 + 1, none⟩ (.int .i64 t)) base ok (.slice (some ⟨g, 0, none⟩) n cap) (xs.set i.toNat ⟨x.f0, t, x.f2⟩) ∧ w.grownBy (w.setCell ⟨g, i.toNat * 3 + 1, none⟩ (.int .i64 t)) (some g) := by
 have hn : n = xs.length := by have := (Kd.S_reads' h).1; rwa [List.length_set] at this
 obtain ⟨oki, c, hcl, hM, hcc, hoki, hH⟩ := Kd.S_lend h z83 i h0 (by omega)
 rw [show (xs.set i.toNat x).getD i.toNat z83 = x from by rw [List.getD_eq_getElem?_getD, List.getElem?_set_self (by omega)]; rfl] at hM
 obtain ⟨v1, rfl, hR⟩ := k83_openM hM
 obtain ⟨h2, h3⟩ := Kd.H_seg hH h0 (by omega) (seg := [.int .i64 t]) (j := 1) (by show 1 + 1 ≤ 3; omega) (by simp [Value.oneCell'])
 have e : w.setCells g (i.toNat * k83.sz + 1) [.int .i64 t] = w.setCell ⟨g, i.toNat * 3 + 1, none⟩ (.int .i64 t) := rfl
 rw [e] at h2 h3
 have h4 := Kd.H_back h2 (k83_mkM _ _ oki (⟨x.f0, t, x.f2⟩ : S83) (Kd.S_step hR (fun k hk hlt => h3.block k hlt (fun he => (hoki k hk).2 (by injection he))))) (fun _ hk => hk)
 rw [List.set_set] at h4
 exact ⟨h4, h3⟩
theorem F65.gets_ {xs : List S83} {i : Int} {x : S83} (h0 : 0 ≤ i) (h1 : i < (xs.length : Int)) : (xs.set i.toNat x).getD i.toNat z83 = x := by
 rw [List.getD_eq_getElem?_getD, List.getElem?_set_self (by omega)]
 rfl
theorem F65.backS_ {w w1 : World} {base b g n cap : Nat} {P0 oki : Nat → Prop} {xs : List S83} {i : Int} {t u : Int} {f1 t2 : List S85} {v1 : Value}
  (hH : Kd.H k83 83 w base (fun k_ => (P0 k_ ∨ b ≤ k_)) (.slice (some ⟨g, 0, none⟩) n cap) (xs.set i.toNat ⟨t, u, f1⟩) i oki [.int .i64 t, .int .i64 u, v1])
  (ho : Kd.S k85 85 w1 base (fun k_ => (oki k_ ∨ w.heap.size ≤ k_)) v1 t2) (hk : Kept w w1 oki) (hb : b ≤ w.heap.size) :
  Kd.S k83 83 w1 base (fun k_ => (P0 k_ ∨ b ≤ k_)) (.slice (some ⟨g, 0, none⟩) n cap) (xs.set i.toNat ⟨t, u, t2⟩) := by
 have h := Kd.H_back (Kd.H_step (Kd.H_widen hH) (fun k _ hn hlt => hk.2 k hlt (fun h => hn (.inl h)))) (k83_mkM _ _ _ (⟨t, u, t2⟩ : S83) ho) (fun k h_ => h_.elim (fun a => .inl a) (fun c => .inr ⟨.inr (Nat.le_trans hb c), c⟩))
 rwa [List.set_set] at h
def F65.l0 : Nat → List S83 → Int → Int → Option (Int × List S83)
  | 0, _, _, _ => none
  | k + 1, x0, x1, x5 => if x5 < (x0.length : Int) then (if 0 ≤ x5 then ((F98.f k (rd_T83 x0 x5).f2 (wrap64 ((wrap64 (x1 + 1)) + 1))).bind fun q => (F65.l0 k (x0.set (x5 : Int).toNat ⟨x1, wrap64 (x1 + 1), q.2⟩) q.1 (wrap64 (x5 + 1)))) else (none)) else (some (x1, x0))
def F65.f (k : Nat) (l0 : List S83) (a1 : Int) : Option (Int × List S83) := F65.l0 k l0 a1 0
theorem F65.mono_l : ∀ k, (∀ y0 y1 y2, LeO (F65.l0 k y0 y1 y2) (F65.l0 (k + 1) y0 y1 y2))
 | 0 => fun _ _ _ r h => by simp [F65.l0] at h
 | k + 1 => by
  have ih := F65.mono_l k
  intro y0 y1 y2
  unfold F65.l0
  exact LeO.ite (LeO.ite (LeO.bind (F98.mono _ _ _) (fun _ => ih _ _ _)) (LeO.none _)) (LeO.refl _)
theorem F65.mono : ∀ a0 a1 k, LeO (F65.f k a0 a1) (F65.f (k + 1) a0 a1) := fun a0 a1 k => F65.mono_l k a0 a1 0
theorem F65.calls (k : Nat) (P0_ : Nat → Prop) (u9000_ : Value) (l0 : List S83) (a1 : Int) (r1 : Int) (r2 : List S83) (w0 w : World) (hB : Below w0.heap.size w0 w) (ho0 : Kd.S k83 83 w w0.heap.size P0_ u9000_ l0) (h : F65.f k l0 a1 = some (r1, r2)) :
  Calls Tryd.prog 65 #[u9000_, .int .i64 a1] w fun e w' => e = .returned (.int .i64 r1) ∧ Kd.S k83 83 w' w0.heap.size (fun k_ => (P0_ k_ ∨ w.heap.size ≤ k_)) u9000_ r2 ∧ Below w0.heap.size w0 w' ∧ Kept w w' (fun k_ => P0_ k_) := by
 have hu27 := Tryd.underlying27
 have hu83 := Tryd.underlying83
 have HO0 := am_ (show Kd.S k83 83 w w0.heap.size (fun k_ => (P0_ k_ ∨ w.heap.size ≤ k_)) u9000_ l0 from Kd.S_mono ho0 (fun k_ hk => (.inl hk)))
 have HK := am_ (Kept.refl w (fun k_ => P0_ k_))
 have HB := am_ hB
 have HW := am_ (Nat.le_refl w.heap.size)
 clear hB ho0
 have H' := am_ (show F65.l0 k l0 a1 0 = some (r1, r2) from h)
 clear h
 go_enter Tryd.func65, Tryd.ntmps65
 go_wp2
 go_loopg [1, 5] k (fun kq v1 v5 w' => ∃ (x0_1 : List S83) (x1_1 : Int) (x5_1 : Int), v1 = .int .i64 x1_1 ∧ v5 = .int .i64 x5_1 ∧ Aside0 (F65.l0 kq x0_1 x1_1 x5_1 = some (r1, r2)) ∧ Aside0 (kq ≤ k) ∧ Aside0 (Kd.S k83 83 w' w0.heap.size (fun k_ => (P0_ k_ ∨ w.heap.size ≤ k_)) u9000_ x0_1) ∧ Aside0 (Kept w w' (fun k_ => P0_ k_)) ∧ Aside0 (Below w0.heap.size w0 w') ∧ Aside0 (w.heap.size ≤ w'.heap.size))
 case atStart => exact ⟨(l0), (a1), (0), er_, er_, H', ⟨Nat.le_refl _⟩, ⟨au4_43⟩, ⟨au4_9⟩, ⟨bl_⟩, ⟨HW.out⟩⟩
 case round =>
  clear H'
  obtain ⟨x0_1, x1_1, x5_1, rfl, rfl, HA, HK1, HO_0, HK, HB, HW⟩ := hrel
  cases gk with
  | zero => exact absurd HA.out (by simp [F65.l0])
  | succ k1 =>
   have H := HA.out
   clear HA
   simp only [F65.l0] at H
   by_cases c3 : x5_1 < (x0_1.length : Int)
   rotate_left
   ·rw [if_neg c3] at H
    have c3b0 : decide (x5_1 < (x0_1.length : Int)) = false := decide_eq_false c3
    clear c3
    simp only [Option.some.injEq, Prod.mk.injEq] at H
    obtain ⟨rfl, rfl⟩ := H
    obtain ⟨Ao11, co11, eo11⟩ := Kd.S_slice HO_0.out
    subst eo11
    go_wp2
    go_ret
    exact ⟨au4_1, au4_16, bl_, au4_9⟩

   rw [if_pos c3] at H
   by_cases c4 : 0 ≤ x5_1
   rotate_left
   ·rw [if_neg c4] at H
    exact absurd H (by simp)
   rw [if_pos c4] at H
   replace H := bi_ H; rcases H with ⟨⟨t1, t2⟩, A6, H⟩
   have H' := am_ (show F65.l0 k1 (x0_1.set (x5_1 : Int).toNat ⟨x1_1, wrap64 (x1_1 + 1), t2⟩) t1 (wrap64 (x5_1 + 1)) = some (r1, r2) from H)
   clear H
   obtain ⟨Ao, co, eo⟩ := Kd.S_slice HO_0.out
   subst eo
   obtain ⟨ad, A7, c7, e7, hx7, hy7, hz7, hl7, hi7⟩ := at_T83 ((Kd.S_reads' HO_0.out).2.2) x5_1 c4 c3
   cases e7
   obtain ⟨g7, hg7⟩ : ∃ g, ad = ⟨g, 0, none⟩ := Kd.R_head (Kd.S_R HO_0.out)
   subst hg7
   clear hx7 hy7 hz7 hl7 hi7
   have c3b0 : decide (x5_1 < (x0_1.length : Int)) = true := decide_eq_true c3
   have c4b0 : decide (0 ≤ x5_1) = true := decide_eq_true c4
   have C3 := am_ c3
   have C4 := am_ c4
   have p7 := eq_true c4
   have q7 := eq_true c3
   clear c3 c4
   obtain ⟨hsc0, hsf0⟩ := F65.cellsS_ HO_0.out C4.out C3.out
   have HP := F65.putS_ HO_0.out C4.out C3.out x1_1
   go_wp2_with (first | ((with_reducible refine gate_store (t := 2) (p := 16) rfl ?_); refine store_event (t := 2) (p := 16) (v := ?vo_w10) (w1 := (wr.setCell ⟨g7, (x5_1 : Int).toNat * 3, none⟩ (.int .i64 x1_1))) ?hg ?ho ?hn ?hr ?_; (case ho => rfl); (case hg => rfl); (case hn => rfl); (case hr => exact hr_); intro w10 hw; have hg : wr.grownBy w10 (some g7) := (by rw [hw]; exact HP.2); have n0_ := am_ (show Kd.S k83 83 w10 w0.heap.size (fun k_ => (P0_ k_ ∨ w.heap.size ≤ k_)) (.slice (some ⟨g7, 0, none⟩) x0_1.length co) (x0_1.set (x5_1 : Int).toNat ⟨x1_1, (rd_T83 x0_1 x5_1).f1, (rd_T83 x0_1 x5_1).f2⟩) from by rw [hw]; exact HP.1); have n1_ := am_ (Kept.of_grown (S := (fun k_ => P0_ k_)) hg (by exact HK.out) (fun k_ e_ => (Kd.S_R HO_0.out).1 k_ au4_60)); have n2_ := am_ (show Below w0.heap.size w0 w10 from by rw [hw]; exact below_set HB.out (Kd.S_base HO_0.out g7 rfl)); have n3_ := am_ (Nat.le_trans HW.out hg.size); clear HO_0 HK HB HW HP hw hg hsc0 hsf0; have HO_0 := n0_; have HK := n1_; have HB := n2_; have HW := n3_; clear n0_ n1_ n2_ n3_; obtain ⟨hsc1, hsf1⟩ := F65.cellsT_ HO_0.out C4.out (by have := C3.out; rw [List.length_set]; exact this); rw [show (rd_T83 (x0_1.set (x5_1 : Int).toNat ⟨x1_1, (rd_T83 x0_1 x5_1).f1, (rd_T83 x0_1 x5_1).f2⟩) x5_1) = (⟨x1_1, (rd_T83 x0_1 x5_1).f1, (rd_T83 x0_1 x5_1).f2⟩ : S83) from F65.gets_ C4.out C3.out] at hsc1; have HP := F65.putT_ HO_0.out C4.out C3.out (wrap64 (x1_1 + 1))) | ((with_reducible refine gate_store (t := 2) (p := 23) rfl ?_); refine store_event (t := 2) (p := 23) (v := ?vo_w11) (w1 := (w10.setCell ⟨g7, (x5_1 : Int).toNat * 3 + 1, none⟩ (.int .i64 (wrap64 (x1_1 + 1))))) ?hg ?ho ?hn ?hr ?_; (case ho => rfl); (case hg => rfl); (case hn => rfl); (case hr => exact hr_); intro w11 hw; have hg : w10.grownBy w11 (some g7) := (by rw [hw]; exact HP.2); have n0_ := am_ (show Kd.S k83 83 w11 w0.heap.size (fun k_ => (P0_ k_ ∨ w.heap.size ≤ k_)) (.slice (some ⟨g7, 0, none⟩) x0_1.length co) (x0_1.set (x5_1 : Int).toNat ⟨x1_1, wrap64 (x1_1 + 1), (rd_T83 x0_1 x5_1).f2⟩) from by rw [hw]; exact HP.1); have n1_ := am_ (Kept.of_grown (S := (fun k_ => P0_ k_)) hg (by exact HK.out) (fun k_ e_ => (Kd.S_R HO_0.out).1 k_ au4_60)); have n2_ := am_ (show Below w0.heap.size w0 w11 from by rw [hw]; exact below_set HB.out (Kd.S_base HO_0.out g7 rfl)); have n3_ := am_ (Nat.le_trans HW.out hg.size); clear HO_0 HK HB HW HP hw hg hsc1 hsf1; have HO_0 := n0_; have HK := n1_; have HB := n2_; have HW := n3_; clear n0_ n1_ n2_ n3_; obtain ⟨oki, ce, hcl, hM, hcc, hfr, hoki, hH⟩ := Kd.S_elem HO_0.out z83 x5_1 C4.out C3.out; rw [F65.gets_ C4.out C3.out] at hM; obtain ⟨v1, rfl, hR⟩ := k83_openM hM; obtain ⟨A1, c1, rfl⟩ := Kd.S_slice hR; have hl1 : w11.cell? ⟨g7, (x5_1 : Int).toNat * 3 + 2, none⟩ = some (.slice A1 (rd_T83 x0_1 x5_1).f2.length c1) := hcc 2 _ rfl; have hf1 : w11.frozen? ⟨g7, (x5_1 : Int).toNat * 3 + 2, none⟩ = false := hfr 2; have HR := am_ hR; have HH := am_ hH; have HKI := am_ hoki; clear hcl hM hcc hfr hoki hR hH HO_0) | ((with_reducible refine gate_callee (f := 98) rfl ?_); refine gl_ 32 Tryd.func98 #[.slice A1 (rd_T83 x0_1 x5_1).f2.length c1, .int .i64 (wrap64 ((wrap64 (x1_1 + 1)) + 1))] ?_ rfl rfl rfl rfl; (with_reducible refine (F98.calls k1 oki (.slice A1 (rd_T83 x0_1 x5_1).f2.length c1) ((rd_T83 x0_1 x5_1).f2) (wrap64 ((wrap64 (x1_1 + 1)) + 1)) t1 t2 w0 _ ?s1 ?s2 A6.out).mono ?_); (case s1 => exact au4_40); (case s2 => exact au4_45); rintro e w12 ⟨rfl, ho, hb, hk⟩; refine ⟨_, rfl, ?_⟩; have n0_ := am_ (show Kd.S k83 83 w12 w0.heap.size (fun k_ => (P0_ k_ ∨ w.heap.size ≤ k_)) (.slice (some ⟨g7, 0, none⟩) x0_1.length co) (x0_1.set (x5_1 : Int).toNat ⟨x1_1, wrap64 (x1_1 + 1), t2⟩) from F65.backS_ HH.out ho hk HW.out); have n1_ := am_ (Kept.then_ (S := (fun k_ => P0_ k_)) au4_37 hk (fun k_ h_ => (HKI.out k_ h_).1)); have n2_ := am_ hb; have n3_ := am_ (Nat.le_trans HW.out hk.1); clear HK HB HW HR HH hb hk ho; have HO_0 := n0_; have HK := n1_; have HB := n2_; have HW := n3_; clear n0_ n1_ n2_ n3_))
   go_roundg k1
   case measure => have := HK1.out; omega
   case rel => exact ⟨(x0_1.set (x5_1 : Int).toNat ⟨x1_1, wrap64 (x1_1 + 1), t2⟩), t1, (wrap64 (x5_1 + 1)), er_, er_, H', ⟨by have := HK1.out; omega⟩, ⟨au4_16⟩, ⟨au4_9⟩, ⟨bl_⟩, ⟨HW.out⟩⟩
/-! ### F42: function 42 -/
def F42.f (k : Nat) (a0_0 : ByteArray) (a0_1 : ByteArray) (a0_2 : Int) (l0_3 : List (S83)) (a1 : Int) : Option (Int × List (S83)) := F65.f k l0_3 a1
theorem F42.mono : ∀ a0 a1 a2 a3 a4 k, LeO (F42.f k a0 a1 a2 a3 a4) (F42.f (k + 1) a0 a1 a2 a3 a4) := fun _ _ _ a3 a4 k => F65.mono a3 a4 k
theorem F42.calls (k : Nat) (a0_0 : ByteArray) (a0_1 : ByteArray) (a0_2 : Int) (P0_3_ : Nat → Prop) (u9000_ : Value) (l0_3 : List (S83)) (a1 : Int) (r1 : Int) (r2 : List (S83)) (w0 w : World) (hB : Below w0.heap.size w0 w) (ho0_3 : Kd.S k83 83 w w0.heap.size P0_3_ u9000_ l0_3) (h : F42.f k a0_0 a0_1 a0_2 l0_3 a1 = some (r1, r2)) :
  Calls Tryd.prog 42 #[.agg #[.string a0_0, .string a0_1, .int .i64 a0_2, u9000_], .int .i64 a1] w fun e w' => e = .returned (.int .i64 r1) ∧ Kd.S k83 83 w' w0.heap.size (fun k_ => (P0_3_ k_ ∨ w.heap.size ≤ k_)) u9000_ r2 ∧ Below w0.heap.size w0 w' ∧ Kept w w' (fun k_ => P0_3_ k_) := by
 have hu29 := Tryd.underlying29
 have HO := am_ ho0_3
 have HB := am_ hB
 have HH := am_ (show F65.f k l0_3 a1 = some (r1, r2) from h)
 clear hB ho0_3 h
 obtain ⟨Ao4, co4, eo4⟩ := Kd.S_slice HO.out
 subst eo4
 go_enter Tryd.func42, Tryd.ntmps42
 go_wp2_with (first | ((with_reducible refine gate_dst (N := 2) rfl ?_); refine be_ 2 #[.string a0_0, .string a0_1, .int .i64 a0_2, .slice Ao4 l0_3.length co4] 29 ?_; intro gb hg w5 hbox hb; have BK := am_ hbox; have HZ := am_ hb.size; have HO5 := am_ (Kd.S_below HO.out hb); have HK5 := am_ (Kept.of_below hb (fun k_ => P0_3_ k_)); have HB5 := am_ (below_step HB.out hb); clear hb hbox hg; obtain ⟨hcz_0, hcz_1, hcz_2, hcz_3, hfz_0, hfz_1, hfz_2, hfz_3⟩ := cellsF4 BK.out) | ((with_reducible refine gate_callee (f := 65) rfl ?_); refine gl_ 8 Tryd.func65 #[.slice Ao4 l0_3.length co4, .int .i64 a1] ?_ rfl rfl rfl rfl; (with_reducible refine (F65.calls k P0_3_ (.slice Ao4 l0_3.length co4) l0_3 a1 r1 r2 w0 _ ?s1 ?s2 HH.out).mono ?_); (case s1 => exact au4_53); (case s2 => exact au4_57); rintro e w7 ⟨rfl, ho, hb, hk⟩; refine ⟨_, rfl, ?_⟩; have HO7 := am_ (Kd.S_mono ho (fun k_ h_ => h_.elim (fun a_ => Or.inl a_) (fun b_ => Or.inr (Nat.le_trans HZ.out b_))) : Kd.S k83 83 w7 w0.heap.size (fun k_ => (P0_3_ k_ ∨ w.heap.size ≤ k_)) (.slice Ao4 l0_3.length co4) r2); have HB7 := am_ hb; have HK7 := am_ (Kept.then_ HK5.out hk (fun k_ h_ => Or.inl h_)); clear ho hb hk))
 go_ret
 exact ⟨by first | rfl | (simp; done), au4_56, au4_52, au4_54⟩

/-! ### F18: function 18 -/
def F18.f (k : Nat) (a0_0 : ByteArray) (a0_1 : ByteArray) (a0_2 : Int) (l0_3 : List (S83)) (a0_4 : Bool) (a0_5 : Int) (a0_6 : Int) (a1 : Int) : Option (Int × List (S83)) := F42.f k a0_0 a0_1 a0_2 l0_3 a1
theorem F18.mono : ∀ a0 a1 a2 a3 a4 a5 a6 a7 k, LeO (F18.f k a0 a1 a2 a3 a4 a5 a6 a7) (F18.f (k + 1) a0 a1 a2 a3 a4 a5 a6 a7) := fun a0 a1 a2 a3 _ _ _ a7 k => F42.mono a0 a1 a2 a3 a7 k
theorem F18.calls (k : Nat) (a0_0 : ByteArray) (a0_1 : ByteArray) (a0_2 : Int) (P0_3_ : Nat → Prop) (u9000_ : Value) (l0_3 : List (S83)) (a0_4 : Bool) (a0_5 : Int) (a0_6 : Int) (a1 : Int) (r1 : Int) (r2 : List (S83)) (w0 w : World) (hB : Below w0.heap.size w0 w) (ho0_3 : Kd.S k83 83 w w0.heap.size P0_3_ u9000_ l0_3) (h : F18.f k a0_0 a0_1 a0_2 l0_3 a0_4 a0_5 a0_6 a1 = some (r1, r2)) :
  Calls Tryd.prog 18 #[.agg #[.string a0_0, .string a0_1, .int .i64 a0_2, u9000_, .bool a0_4, .int .i64 a0_5, .int .i64 a0_6], .int .i64 a1] w fun e w' => e = .returned (.int .i64 r1) ∧ Kd.S k83 83 w' w0.heap.size (fun k_ => (P0_3_ k_ ∨ w.heap.size ≤ k_)) u9000_ r2 ∧ Below w0.heap.size w0 w' ∧ Kept w w' (fun k_ => P0_3_ k_) := by
 have hu36 := Tryd.underlying36
 have hu29 := Tryd.underlying29
 have HO := am_ ho0_3
 have HB := am_ hB
 have HH := am_ (show F42.f k a0_0 a0_1 a0_2 l0_3 a1 = some (r1, r2) from h)
 clear hB ho0_3 h
 obtain ⟨Ao4, co4, eo4⟩ := Kd.S_slice HO.out
 subst eo4
 go_enter Tryd.func18, Tryd.ntmps18
 go_wp2_with (first | ((with_reducible refine gate_dst (N := 2) rfl ?_); refine be_ 2 #[.string a0_0, .string a0_1, .int .i64 a0_2, .slice Ao4 l0_3.length co4, .bool a0_4, .int .i64 a0_5, .int .i64 a0_6] 36 ?_; intro gb hg w5 hbox hb; have BK := am_ hbox; have HZ := am_ hb.size; have HO5 := am_ (Kd.S_below HO.out hb); have HK5 := am_ (Kept.of_below hb (fun k_ => P0_3_ k_)); have HB5 := am_ (below_step HB.out hb); clear hb hbox hg; obtain ⟨hcz_0, hcz_1, hcz_2, hcz_3, hcz_4, hcz_5, hcz_6, hfz_0, hfz_1, hfz_2, hfz_3, hfz_4, hfz_5, hfz_6⟩ := cellsF7 BK.out) | ((with_reducible refine gate_callee (f := 42) rfl ?_); refine gl_ 8 Tryd.func42 #[.agg #[.string a0_0, .string a0_1, .int .i64 a0_2, .slice Ao4 l0_3.length co4], .int .i64 a1] ?_ rfl rfl rfl rfl; (with_reducible refine (F42.calls k a0_0 a0_1 a0_2 P0_3_ (.slice Ao4 l0_3.length co4) l0_3 a1 r1 r2 w0 _ ?s1 ?s2 HH.out).mono ?_); (case s1 => exact au4_53); (case s2 => exact au4_57); rintro e w7 ⟨rfl, ho, hb, hk⟩; refine ⟨_, rfl, ?_⟩; have HO7 := am_ (Kd.S_mono ho (fun k_ h_ => h_.elim (fun a_ => Or.inl a_) (fun b_ => Or.inr (Nat.le_trans HZ.out b_))) : Kd.S k83 83 w7 w0.heap.size (fun k_ => (P0_3_ k_ ∨ w.heap.size ≤ k_)) (.slice Ao4 l0_3.length co4) r2); have HB7 := am_ hb; have HK7 := am_ (Kept.then_ HK5.out hk (fun k_ h_ => Or.inl h_)); clear ho hb hk))
 go_ret
 exact ⟨by first | rfl | (simp; done), au4_56, au4_52, au4_54⟩

/-! ### F148: function 148 -/
def F148.l0 : Nat → List ByteArray → Int → Int → Option (Int)
  | 0, _, _, _ => none
  | k + 1, x0, x1, x5 => if x5 < (x0.length : Int) then (if 0 ≤ x5 then ((F40.f k x1).bind fun t279 => (if (rdOf ByteArray.empty x0 x5).toList = t279.toList then (F148.l0 k x0 (wrap64 (x1 + 1)) (wrap64 (x5 + 1))) else (some (-1)))) else (none)) else (some x1)
def F148.f (k : Nat) (l0 : List ByteArray) (a1 : Int) : Option (Int) := F148.l0 k l0 a1 0
theorem F148.mono_l : ∀ k, (∀ y0 y1 y2, LeO (F148.l0 k y0 y1 y2) (F148.l0 (k + 1) y0 y1 y2))
 | 0 => fun _ _ _ r h => by simp [F148.l0] at h
 | k + 1 => by
  have ih0 := F148.mono_l k
  intro y0 y1 y2
  unfold F148.l0
  repeat' with_reducible first | exact ih0 _ _ _ | exact F40.mono _ _ | exact LeO.refl _ | exact LeO.none _ | refine LeO.ite ?_ ?_ | refine LeO.bind ?_ (fun _ => ?_)
theorem F148.mono : ∀ a0 a1 k, LeO (F148.f k a0 a1) (F148.f (k + 1) a0 a1) := by
 intro a0 a1 k
 have ih0 := F148.mono_l k
 unfold F148.f
 repeat' with_reducible first | exact ih0 _ _ _ | exact F40.mono _ _ | exact LeO.refl _ | exact LeO.none _ | refine LeO.ite ?_ ?_ | refine LeO.bind ?_ (fun _ => ?_)
theorem F148.calls (k : Nat) (A0 : Option Addr) (c0 : Nat) (l0 : List ByteArray) (a1 : Int) (r : Int) (w : World) (hr0 : Kd.C Kd.string w A0 l0.length l0) (hc0 : l0.length ≤ c0) (h : F148.f k l0 a1 = some r) :
  Calls Tryd.prog 148 #[.slice A0 l0.length c0, .int .i64 a1] w fun e w' => e = .returned (.int .i64 r) ∧ Below w.heap.size w w' := by
 have HR0 := am_ hr0
 have HC0 := am_ hc0
 clear hr0 hc0
 have HB := am_ (Below.refl w.heap.size w)
 have H : (F148.l0 k l0 a1 0) = some r := h
 clear h
 have H' := am_ H
 clear H
 go_enter Tryd.func148, Tryd.ntmps148
 go_wp2
 go_loopg [1, 5] k (fun kq v1 v5 w' => ∃ (x1_1 : Int) (x5_1 : Int), v1 = .int .i64 x1_1 ∧ v5 = .int .i64 x5_1 ∧ Aside0 (F148.l0 kq l0 x1_1 x5_1 = some r) ∧ Aside0 (kq ≤ k) ∧ Aside0 (Below w.heap.size w w'))
 case atStart => exact ⟨(a1), (0), er_, er_, H', ⟨Nat.le_refl _⟩, ⟨bl_⟩⟩
 case round =>
  clear H'
  obtain ⟨x1_1, x5_1, rfl, rfl, HA, HK1, HB⟩ := hrel
  cases gk with
  | zero => exact absurd HA.out (by simp [F148.l0])
  | succ k1 =>
   have H := HA.out
   clear HA
   simp only [F148.l0] at H
   replace H := it_ H; rcases H with ⟨c3b0, H⟩ | ⟨c3b0, H⟩
   rotate_left
   ·obtain rfl := Option.some.inj H
    go_wp2
    go_ret
    exact ⟨au4_1, bl_⟩

   replace H := itn_ H; rcases H with ⟨c4b0, H⟩
   replace H := bi_ H; rcases H with ⟨t279, A5, H⟩
   by_cases c6 : (rdOf ByteArray.empty l0 x5_1).toList = t279.toList
   rotate_left
   ·rw [if_neg c6] at H
    have c6b0 : ((rdOf ByteArray.empty l0 x5_1).toList == t279.toList) = false := beq_eq_false_iff_ne.mpr c6
    have c6b1 : ((rdOf ByteArray.empty l0 x5_1).toList != t279.toList) = true := bne_iff_ne.mpr c6
    obtain rfl := Option.some.inj H
    try go_wp2
    replace HB := am_ (below_drew1 HB.out)
    have p278 : 0 ≤ (x5_1 : Int) := od_
    have q278 : x5_1 < (l0.length : Int) := od_
    obtain ⟨ad278, e278, hx278_0⟩ := Kd.at_string HR0.out x5_1 p278 q278
    have hw278_0 := hx278_0
    cases e278
    replace hx278_0 := (HB.out.cell (World.block_lt_of_cell? _ _ hx278_0)).trans hx278_0
    replace p278 := eq_true p278
    replace q278 := eq_true q278
    refine start_ (n := 7) (S := fun w' => w'.cell? (ad278.add (x5_1).toNat) = some (.string (rdOf ByteArray.empty l0 x5_1))) (ds := []) (bs 7 0) (by kernel_rfl) rfl rfl (((HB.out.cell (World.block_lt_of_cell? _ _ hw278_0)).trans hw278_0)) (fun hHeld => ?_)
    generalize wr.drew = w9 at HB hx278_0 hHeld ⊢
    refine pk_ 0 12 (bs 7 1) ?_ rfl rfl
    refine pk_ 1 13 (bs 7 3) ?_ rfl rfl
    refine pk_ 2 14 (bs 7 7) ?_ rfl rfl
    refine pk_ 4 16 (bs 7 23) ?_ rfl rfl
    refine take_ (i := 3) (N := some 15) (v := ?_) (a' := ?_) (bs 7 31) rfl rfl (by kernel_rfl) (fun _ _ _ h => h) (Or.inl ⟨by rfl, ?_⟩) hHeld ?_ ?_
    rotate_left
    ·intro w' s0
     go_simp
     with_reducible rfl
    rotate_left
    ·simp only [Act.put, List.setIfInBounds_toArray, List.set_cons_zero, List.set_cons_succ, i64_w, i32_w]
     rfl
    refine one_ (i := 5) (N := some 17) (bs 7 63) rfl rfl (by kernel_rfl) (by decide) (fun K hK => ?_)
    refine gr_ Tryd.func40 #[.int .i64 x1_1] (by rfl) ?_ rfl rfl rfl
    with_reducible refine (F40.calls k1 x1_1 t279 _ A5.out).mono ?_
    rintro e w10 ⟨rfl, hb⟩
    refine ⟨_, rfl, ?_⟩
    replace HB := hs_ w hb
    (try clear hb)
    (try clear hb2)
    (try clear hk)
    (try clear hi)
    refine hK.out _ _ (((HB.out.cell (World.block_lt_of_cell? _ _ hw278_0)).trans hw278_0)) (fun hHeld => ?_)
    clear hK K
    refine no_ 17 ?_
    refine pk_ 6 18 (bs 7 127) ?_ rfl rfl
    refine done_ (by kernel_rfl) ?_
    try go_wp2
    go_ret
    exact ⟨au4_1, bl_⟩
   rw [if_pos c6] at H
   have c6b0 : ((rdOf ByteArray.empty l0 x5_1).toList == t279.toList) = true := beq_iff_eq.mpr c6
   have c6b1 : ((rdOf ByteArray.empty l0 x5_1).toList != t279.toList) = false := bne_eq_false_iff_eq.mpr c6
   clear c6
   have H' := am_ H
   clear H
   try go_wp2
   replace HB := am_ (below_drew1 HB.out)
   have p278 : 0 ≤ (x5_1 : Int) := od_
   have q278 : x5_1 < (l0.length : Int) := od_
   obtain ⟨ad278, e278, hx278_0⟩ := Kd.at_string HR0.out x5_1 p278 q278
   have hw278_0 := hx278_0
   cases e278
   replace hx278_0 := (HB.out.cell (World.block_lt_of_cell? _ _ hx278_0)).trans hx278_0
   replace p278 := eq_true p278
   replace q278 := eq_true q278
   refine start_ (n := 7) (S := fun w' => w'.cell? (ad278.add (x5_1).toNat) = some (.string (rdOf ByteArray.empty l0 x5_1))) (ds := []) (bs 7 0) (by kernel_rfl) rfl rfl (((HB.out.cell (World.block_lt_of_cell? _ _ hw278_0)).trans hw278_0)) (fun hHeld => ?_)
   generalize wr.drew = w7 at HB hx278_0 hHeld ⊢
   refine pk_ 0 12 (bs 7 1) ?_ rfl rfl
   refine pk_ 1 13 (bs 7 3) ?_ rfl rfl
   refine pk_ 2 14 (bs 7 7) ?_ rfl rfl
   refine pk_ 4 16 (bs 7 23) ?_ rfl rfl
   refine take_ (i := 3) (N := some 15) (v := ?_) (a' := ?_) (bs 7 31) rfl rfl (by kernel_rfl) (fun _ _ _ h => h) (Or.inl ⟨by rfl, ?_⟩) hHeld ?_ ?_
   rotate_left
   ·intro w' s0
    go_simp
    with_reducible rfl
   rotate_left
   ·simp only [Act.put, List.setIfInBounds_toArray, List.set_cons_zero, List.set_cons_succ, i64_w, i32_w]
    rfl
   refine one_ (i := 5) (N := some 17) (bs 7 63) rfl rfl (by kernel_rfl) (by decide) (fun K hK => ?_)
   refine gr_ Tryd.func40 #[.int .i64 x1_1] (by rfl) ?_ rfl rfl rfl
   with_reducible refine (F40.calls k1 x1_1 t279 _ A5.out).mono ?_
   rintro e w8 ⟨rfl, hb⟩
   refine ⟨_, rfl, ?_⟩
   replace HB := hs_ w hb
   (try clear hb)
   (try clear hb2)
   (try clear hk)
   (try clear hi)
   refine hK.out _ _ (((HB.out.cell (World.block_lt_of_cell? _ _ hw278_0)).trans hw278_0)) (fun hHeld => ?_)
   clear hK K
   refine no_ 17 ?_
   refine pk_ 6 18 (bs 7 127) ?_ rfl rfl
   refine done_ (by kernel_rfl) ?_
   try go_wp2
   go_roundg k1
   case measure => have := HK1.out; omega
   case rel => exact ⟨(wrap64 (x1_1 + 1)), (wrap64 (x5_1 + 1)), er_, er_, H', ⟨by have := HK1.out; omega⟩, ⟨bl_⟩⟩
/-! ### F135: function 135 -/
def F135.l0 : Nat → List (S55) → Int → Int → Option (Int)
  | 0, _, _, _ => none
  | k + 1, x0, x1, x5 => if x5 < (x0.length : Int) then (if 0 ≤ x5 then ((F148.f k ((rd_T55 x0 x5).f0) x1).bind fun t281 => (if t281 < 0 then (some (-1)) else (F135.l0 k x0 t281 (wrap64 (x5 + 1))))) else (none)) else (some x1)
def F135.f (k : Nat) (l0 : List (S55)) (a1 : Int) : Option (Int) := F135.l0 k l0 a1 0
theorem F135.mono_l : ∀ k, (∀ y0 y1 y2, LeO (F135.l0 k y0 y1 y2) (F135.l0 (k + 1) y0 y1 y2))
 | 0 => fun _ _ _ r h => by simp [F135.l0] at h
 | k + 1 => by
  have ih0 := F135.mono_l k
  intro y0 y1 y2
  unfold F135.l0
  repeat' with_reducible first | exact ih0 _ _ _ | exact F148.mono _ _ _ | exact LeO.refl _ | exact LeO.none _ | refine LeO.ite ?_ ?_ | refine LeO.bind ?_ (fun _ => ?_)
theorem F135.mono : ∀ a0 a1 k, LeO (F135.f k a0 a1) (F135.f (k + 1) a0 a1) := by
 intro a0 a1 k
 have ih0 := F135.mono_l k
 unfold F135.f
 repeat' with_reducible first | exact ih0 _ _ _ | exact F148.mono _ _ _ | exact LeO.refl _ | exact LeO.none _ | refine LeO.ite ?_ ?_ | refine LeO.bind ?_ (fun _ => ?_)
theorem F135.calls (k : Nat) (A0 : Option Addr) (c0 : Nat) (l0 : List (S55)) (a1 : Int) (r : Int) (w : World) (hr0 : Kd.C k55 w A0 l0.length l0) (hc0 : l0.length ≤ c0) (h : F135.f k l0 a1 = some r) :
  Calls Tryd.prog 135 #[.slice A0 l0.length c0, .int .i64 a1] w fun e w' => e = .returned (.int .i64 r) ∧ Below w.heap.size w w' := by
 have HR0 := am_ hr0
 have HC0 := am_ hc0
 clear hr0 hc0
 have HB := am_ (Below.refl w.heap.size w)
 have H : (F135.l0 k l0 a1 0) = some r := h
 clear h
 have H' := am_ H
 clear H
 go_enter Tryd.func135, Tryd.ntmps135
 go_wp2
 go_loopg [1, 5] k (fun kq v1 v5 w' => ∃ (x1_1 : Int) (x5_1 : Int), v1 = .int .i64 x1_1 ∧ v5 = .int .i64 x5_1 ∧ Aside0 (F135.l0 kq l0 x1_1 x5_1 = some r) ∧ Aside0 (kq ≤ k) ∧ Aside0 (Below w.heap.size w w'))
 case atStart => exact ⟨(a1), (0), er_, er_, H', ⟨Nat.le_refl _⟩, ⟨bl_⟩⟩
 case round =>
  clear H'
  obtain ⟨x1_1, x5_1, rfl, rfl, HA, HK1, HB⟩ := hrel
  cases gk with
  | zero => exact absurd HA.out (by simp [F135.l0])
  | succ k1 =>
   have H := HA.out
   clear HA
   simp only [F135.l0] at H
   replace H := it_ H; rcases H with ⟨c3b0, H⟩ | ⟨c3b0, H⟩
   rotate_left
   ·obtain rfl := Option.some.inj H
    go_wp2
    go_ret
    exact ⟨au4_1, bl_⟩

   replace H := itn_ H; rcases H with ⟨c4b0, H⟩
   replace H := bi_ H; rcases H with ⟨t281, A5, H⟩
   replace H := it_ H; rcases H with ⟨c6b0, H⟩ | ⟨c6b0, H⟩
   ·obtain rfl := Option.some.inj H
    have p280 : 0 ≤ (x5_1 : Int) := od_
    have q280 : x5_1 < (l0.length : Int) := od_
    obtain ⟨ad280, A280_0, c280_0, e280, hx280_0, hl280_0, hi280_0⟩ := at_T55 HR0.out x5_1 p280 q280
    cases e280
    replace hx280_0 := (HB.out.cell (World.block_lt_of_cell? _ _ hx280_0)).trans hx280_0
    have HR280_0 := am_ hi280_0
    have HC280_0 := am_ hl280_0
    clear hi280_0 hl280_0
    replace p280 := eq_true p280
    replace q280 := eq_true q280
    go_wp2_with (first | ((with_reducible refine gate_callee (f := 148) rfl ?_); refine gl_ 18 Tryd.func148 #[.slice A280_0 ((rd_T55 l0 x5_1).f0).length c280_0, .int .i64 x1_1] ?_ rfl rfl rfl rfl; (with_reducible refine (F148.calls k1 _ _ ((rd_T55 l0 x5_1).f0) x1_1 t281 _ ?s1 ?s2 A5.out).mono ?_); (case s1 => exact au4_46); (case s2 => exact HC280_0.out); rintro e w7 ⟨rfl, hb⟩; refine ⟨_, rfl, ?_⟩; replace HB := hs_ w hb; (try clear hb)))
    go_ret
    exact ⟨au4_1, bl_⟩
   have H' := am_ H
   clear H
   have p280 : 0 ≤ (x5_1 : Int) := od_
   have q280 : x5_1 < (l0.length : Int) := od_
   obtain ⟨ad280, A280_0, c280_0, e280, hx280_0, hl280_0, hi280_0⟩ := at_T55 HR0.out x5_1 p280 q280
   cases e280
   replace hx280_0 := (HB.out.cell (World.block_lt_of_cell? _ _ hx280_0)).trans hx280_0
   have HR280_0 := am_ hi280_0
   have HC280_0 := am_ hl280_0
   clear hi280_0 hl280_0
   replace p280 := eq_true p280
   replace q280 := eq_true q280
   go_wp2_with (first | ((with_reducible refine gate_callee (f := 148) rfl ?_); refine gl_ 18 Tryd.func148 #[.slice A280_0 ((rd_T55 l0 x5_1).f0).length c280_0, .int .i64 x1_1] ?_ rfl rfl rfl rfl; (with_reducible refine (F148.calls k1 _ _ ((rd_T55 l0 x5_1).f0) x1_1 t281 _ ?s1 ?s2 A5.out).mono ?_); (case s1 => exact au4_46); (case s2 => exact HC280_0.out); rintro e w8 ⟨rfl, hb⟩; refine ⟨_, rfl, ?_⟩; replace HB := hs_ w hb; (try clear hb)))
   go_roundg k1
   case measure => have := HK1.out; omega
   case rel => exact ⟨(t281), (wrap64 (x5_1 + 1)), er_, er_, H', ⟨by have := HK1.out; omega⟩, ⟨bl_⟩⟩
/-! ### F120: function 120 -/
def F120.l0 : Nat → List (S52) → Int → Int → Option (Int)
  | 0, _, _, _ => none
  | k + 1, x0, x1, x5 => if x5 < (x0.length : Int) then (if 0 ≤ x5 then ((F40.f k x1).bind fun t283 => (if ((rd_T52 x0 x5).f0).toList = t283.toList then ((F135.f k ((rd_T52 x0 x5).f1) (wrap64 (x1 + 1))).bind fun t285 => (if t285 < 0 then (some (-1)) else (F120.l0 k x0 t285 (wrap64 (x5 + 1))))) else (some (-1)))) else (none)) else (some x1)
def F120.f (k : Nat) (l0 : List (S52)) (a1 : Int) : Option (Int) := F120.l0 k l0 a1 0
theorem F120.mono_l : ∀ k, (∀ y0 y1 y2, LeO (F120.l0 k y0 y1 y2) (F120.l0 (k + 1) y0 y1 y2))
 | 0 => fun _ _ _ r h => by simp [F120.l0] at h
 | k + 1 => by
  have ih0 := F120.mono_l k
  intro y0 y1 y2
  unfold F120.l0
  repeat' with_reducible first | exact ih0 _ _ _ | exact F135.mono _ _ _ | exact F40.mono _ _ | exact LeO.refl _ | exact LeO.none _ | refine LeO.ite ?_ ?_ | refine LeO.bind ?_ (fun _ => ?_)
theorem F120.mono : ∀ a0 a1 k, LeO (F120.f k a0 a1) (F120.f (k + 1) a0 a1) := by
 intro a0 a1 k
 have ih0 := F120.mono_l k
 unfold F120.f
 repeat' with_reducible first | exact ih0 _ _ _ | exact F135.mono _ _ _ | exact F40.mono _ _ | exact LeO.refl _ | exact LeO.none _ | refine LeO.ite ?_ ?_ | refine LeO.bind ?_ (fun _ => ?_)
def F120.T4 : Bool × List (List Nat × List Nat) := (true, [([], []), ([], []), ([0, 1], [0, 1]), ([2], [2]), ([3], [3]), ([], []), ([5], [5]), ([4, 6], [4, 6])])
def F120.B4 : List Nat := [0, 0, 3, 7, 15, 0, 32, 127]
theorem F120.tab4 : rtab .any (opsOf Tryd.f120 4) = F120.T4 := by kernel_rfl
theorem F120.bits4 : waitsOk F120.T4.2 F120.B4 = true := by kernel_rfl
theorem F120.calls (k : Nat) (A0 : Option Addr) (c0 : Nat) (l0 : List (S52)) (a1 : Int) (r : Int) (w : World) (hr0 : Kd.C k52 w A0 l0.length l0) (hc0 : l0.length ≤ c0) (h : F120.f k l0 a1 = some r) :
  Calls Tryd.prog 120 #[.slice A0 l0.length c0, .int .i64 a1] w fun e w' => e = .returned (.int .i64 r) ∧ Below w.heap.size w w' := by
 have HR0 := am_ hr0
 have HC0 := am_ hc0
 clear hr0 hc0
 have HB := am_ (Below.refl w.heap.size w)
 have H : (F120.l0 k l0 a1 0) = some r := h
 clear h
 have H' := am_ H
 clear H
 go_enter Tryd.func120, Tryd.ntmps120
 go_wp2
 go_loopg [1, 5] k (fun kq v1 v5 w' => ∃ (x1_1 : Int) (x5_1 : Int), v1 = .int .i64 x1_1 ∧ v5 = .int .i64 x5_1 ∧ Aside0 (F120.l0 kq l0 x1_1 x5_1 = some r) ∧ Aside0 (kq ≤ k) ∧ Aside0 (Below w.heap.size w w'))
 case atStart => exact ⟨(a1), (0), er_, er_, H', ⟨Nat.le_refl _⟩, ⟨bl_⟩⟩
 case round =>
  clear H'
  obtain ⟨x1_1, x5_1, rfl, rfl, HA, HK1, HB⟩ := hrel
  cases gk with
  | zero => exact absurd HA.out (by simp [F120.l0])
  | succ k1 =>
   have H := HA.out
   clear HA
   simp only [F120.l0] at H
   replace H := it_ H; rcases H with ⟨c3b0, H⟩ | ⟨c3b0, H⟩
   rotate_left
   ·obtain rfl := Option.some.inj H
    go_wp2
    go_ret
    exact ⟨au4_1, bl_⟩

   replace H := itn_ H; rcases H with ⟨c4b0, H⟩
   replace H := bi_ H; rcases H with ⟨t283, A5, H⟩
   by_cases c6 : ((rd_T52 l0 x5_1).f0).toList = t283.toList
   rotate_left
   ·rw [if_neg c6] at H
    have c6b0 : (((rd_T52 l0 x5_1).f0).toList == t283.toList) = false := beq_eq_false_iff_ne.mpr c6
    have c6b1 : (((rd_T52 l0 x5_1).f0).toList != t283.toList) = true := bne_iff_ne.mpr c6
    obtain rfl := Option.some.inj H
    try go_wp2
    replace HB := am_ (below_drew1 HB.out)
    have p282 : 0 ≤ (x5_1 : Int) := od_
    have q282 : x5_1 < (l0.length : Int) := od_
    obtain ⟨ad282, A282_1, c282_1, e282, hx282_0, hx282_1, hl282_1, hi282_1⟩ := at_T52 HR0.out x5_1 p282 q282
    have hw282_1 := hx282_1
    have hw282_0 := hx282_0
    cases e282
    replace hx282_0 := (HB.out.cell (World.block_lt_of_cell? _ _ hx282_0)).trans hx282_0
    replace hx282_1 := (HB.out.cell (World.block_lt_of_cell? _ _ hx282_1)).trans hx282_1
    have HR282_1 := am_ hi282_1
    have HC282_1 := am_ hl282_1
    clear hi282_1 hl282_1
    replace p282 := eq_true p282
    replace q282 := eq_true q282
    refine start_ (n := 8) (S := fun w' => w'.cell? (ad282.add ((x5_1).toNat * 2)) = some (.string ((rd_T52 l0 x5_1).f0)) ∧ w'.cell? ⟨(ad282.add ((x5_1).toNat * 2)).block, (ad282.add ((x5_1).toNat * 2)).off + 1, none⟩ = some (.slice A282_1 ((rd_T52 l0 x5_1).f1).length c282_1)) (ds := []) (bs 8 0) (by kernel_rfl) rfl rfl ⟨((HB.out.cell (World.block_lt_of_cell? _ _ hw282_0)).trans hw282_0), ((HB.out.cell (World.block_lt_of_cell? _ _ hw282_1)).trans hw282_1)⟩ (fun hHeld => ?_); refine with_tabW F120.tab4 F120.bits4 (fun HT_ HW_ => ?_)
    generalize wr.drew = w15 at HB HR282_1 hx282_0 hx282_1 hHeld ⊢
    refine pu_ 0 12 (bs 8 1) HT_ ?_ rfl rfl
    refine pu_ 1 13 (bs 8 3) HT_ ?_ rfl rfl
    refine pu_ 2 14 (bs 8 7) HT_ ?_ rfl rfl
    refine pu_ 3 15 (bs 8 15) HT_ ?_ rfl rfl
    refine pu_ 5 17 (bs 8 47) HT_ ?_ rfl rfl
    refine tk_ 4 16 (bs 8 63) HT_ HW_ hHeld au4_59 ?_ rfl rfl
    refine one_ (i := 6) (N := some 18) (bs 8 127) rfl rfl (one_of HT_.out (by kernel_rfl)) (by decide) (fun K hK => ?_)
    refine gr_ Tryd.func40 #[.int .i64 x1_1] (by rfl) ?_ rfl rfl rfl
    with_reducible refine (F40.calls k1 x1_1 t283 _ A5.out).mono ?_
    rintro e w16 ⟨rfl, hb⟩
    refine ⟨_, rfl, ?_⟩
    replace HB := hs_ w hb
    (try clear hb)
    (try clear hb2)
    (try clear hk)
    (try clear hi)
    refine hK.out _ _ ⟨((HB.out.cell (World.block_lt_of_cell? _ _ hw282_0)).trans hw282_0), ((HB.out.cell (World.block_lt_of_cell? _ _ hw282_1)).trans hw282_1)⟩ (fun hHeld => ?_)
    clear hK K
    refine no_ 18 ?_
    refine pu_ 7 19 (bs 8 255) HT_ ?_ rfl rfl
    refine done_ (done_of HT_.out (by kernel_rfl)) ?_
    try go_wp2
    go_ret
    exact ⟨au4_1, bl_⟩
   rw [if_pos c6] at H
   have c6b0 : (((rd_T52 l0 x5_1).f0).toList == t283.toList) = true := beq_iff_eq.mpr c6
   have c6b1 : (((rd_T52 l0 x5_1).f0).toList != t283.toList) = false := bne_eq_false_iff_eq.mpr c6
   clear c6
   replace H := bi_ H; rcases H with ⟨t285, A7, H⟩
   replace H := it_ H; rcases H with ⟨c8b0, H⟩ | ⟨c8b0, H⟩
   ·obtain rfl := Option.some.inj H
    try go_wp2
    replace HB := am_ (below_drew1 HB.out)
    have p282 : 0 ≤ (x5_1 : Int) := od_
    have q282 : x5_1 < (l0.length : Int) := od_
    obtain ⟨ad282, A282_1, c282_1, e282, hx282_0, hx282_1, hl282_1, hi282_1⟩ := at_T52 HR0.out x5_1 p282 q282
    have hw282_1 := hx282_1
    have hw282_0 := hx282_0
    cases e282
    replace hx282_0 := (HB.out.cell (World.block_lt_of_cell? _ _ hx282_0)).trans hx282_0
    replace hx282_1 := (HB.out.cell (World.block_lt_of_cell? _ _ hx282_1)).trans hx282_1
    have HR282_1 := am_ hi282_1
    have HC282_1 := am_ hl282_1
    clear hi282_1 hl282_1
    replace p282 := eq_true p282
    replace q282 := eq_true q282
    refine start_ (n := 8) (S := fun w' => w'.cell? (ad282.add ((x5_1).toNat * 2)) = some (.string ((rd_T52 l0 x5_1).f0)) ∧ w'.cell? ⟨(ad282.add ((x5_1).toNat * 2)).block, (ad282.add ((x5_1).toNat * 2)).off + 1, none⟩ = some (.slice A282_1 ((rd_T52 l0 x5_1).f1).length c282_1)) (ds := []) (bs 8 0) (by kernel_rfl) rfl rfl ⟨((HB.out.cell (World.block_lt_of_cell? _ _ hw282_0)).trans hw282_0), ((HB.out.cell (World.block_lt_of_cell? _ _ hw282_1)).trans hw282_1)⟩ (fun hHeld => ?_); refine with_tabW F120.tab4 F120.bits4 (fun HT_ HW_ => ?_)
    generalize wr.drew = w9 at HB HR282_1 hx282_0 hx282_1 hHeld ⊢
    refine pu_ 0 12 (bs 8 1) HT_ ?_ rfl rfl
    refine pu_ 1 13 (bs 8 3) HT_ ?_ rfl rfl
    refine pu_ 2 14 (bs 8 7) HT_ ?_ rfl rfl
    refine pu_ 3 15 (bs 8 15) HT_ ?_ rfl rfl
    refine pu_ 5 17 (bs 8 47) HT_ ?_ rfl rfl
    refine tk_ 4 16 (bs 8 63) HT_ HW_ hHeld au4_59 ?_ rfl rfl
    refine one_ (i := 6) (N := some 18) (bs 8 127) rfl rfl (one_of HT_.out (by kernel_rfl)) (by decide) (fun K hK => ?_)
    refine gr_ Tryd.func40 #[.int .i64 x1_1] (by rfl) ?_ rfl rfl rfl
    with_reducible refine (F40.calls k1 x1_1 t283 _ A5.out).mono ?_
    rintro e w10 ⟨rfl, hb⟩
    refine ⟨_, rfl, ?_⟩
    replace HB := hs_ w hb
    (try clear hb)
    (try clear hb2)
    (try clear hk)
    (try clear hi)
    refine hK.out _ _ ⟨((HB.out.cell (World.block_lt_of_cell? _ _ hw282_0)).trans hw282_0), ((HB.out.cell (World.block_lt_of_cell? _ _ hw282_1)).trans hw282_1)⟩ (fun hHeld => ?_)
    clear hK K
    refine no_ 18 ?_
    refine pu_ 7 19 (bs 8 255) HT_ ?_ rfl rfl
    refine done_ (done_of HT_.out (by kernel_rfl)) ?_
    have p284 : 0 ≤ (x5_1 : Int) := od_
    have q284 : x5_1 < (l0.length : Int) := od_
    obtain ⟨ad284, A284_1, c284_1, e284, hx284_0, hx284_1, hl284_1, hi284_1⟩ := at_T52 HR0.out x5_1 p284 q284
    obtain rfl : ad282 = ad284 := (by injection e284)
    obtain ⟨rfl, rfl⟩ : A284_1 = A282_1 ∧ c284_1 = c282_1 := by have e_ := Option.some.inj (hw282_1.symm.trans hx284_1); injection e_ with e1_ e2_ e3_; exact ⟨e1_.symm, e3_.symm⟩
    replace hx284_0 := (HB.out.cell (World.block_lt_of_cell? _ _ hx284_0)).trans hx284_0
    replace hx284_1 := (HB.out.cell (World.block_lt_of_cell? _ _ hx284_1)).trans hx284_1
    have HR284_1 := am_ hi284_1
    have HC284_1 := am_ hl284_1
    clear hi284_1 hl284_1
    replace p284 := eq_true p284
    replace q284 := eq_true q284
    try go_wp2_with (first | ((with_reducible refine gate_callee (f := 135) rfl ?_); refine gl_ 28 Tryd.func135 #[.slice A284_1 ((rd_T52 l0 x5_1).f1).length c284_1, .int .i64 (wrap64 (x1_1 + 1))] ?_ rfl rfl rfl rfl; (with_reducible refine (F135.calls k1 _ _ ((rd_T52 l0 x5_1).f1) (wrap64 (x1_1 + 1)) t285 _ ?s1 ?s2 A7.out).mono ?_); (case s1 => exact au4_47); (case s2 => exact HC284_1.out); rintro e w11 ⟨rfl, hb⟩; refine ⟨_, rfl, ?_⟩; replace HB := hs_ w hb; (try clear hb)))
    go_ret
    exact ⟨au4_1, bl_⟩
   have H' := am_ H
   clear H
   try go_wp2
   replace HB := am_ (below_drew1 HB.out)
   have p282 : 0 ≤ (x5_1 : Int) := od_
   have q282 : x5_1 < (l0.length : Int) := od_
   obtain ⟨ad282, A282_1, c282_1, e282, hx282_0, hx282_1, hl282_1, hi282_1⟩ := at_T52 HR0.out x5_1 p282 q282
   have hw282_1 := hx282_1
   have hw282_0 := hx282_0
   cases e282
   replace hx282_0 := (HB.out.cell (World.block_lt_of_cell? _ _ hx282_0)).trans hx282_0
   replace hx282_1 := (HB.out.cell (World.block_lt_of_cell? _ _ hx282_1)).trans hx282_1
   have HR282_1 := am_ hi282_1
   have HC282_1 := am_ hl282_1
   clear hi282_1 hl282_1
   replace p282 := eq_true p282
   replace q282 := eq_true q282
   refine start_ (n := 8) (S := fun w' => w'.cell? (ad282.add ((x5_1).toNat * 2)) = some (.string ((rd_T52 l0 x5_1).f0)) ∧ w'.cell? ⟨(ad282.add ((x5_1).toNat * 2)).block, (ad282.add ((x5_1).toNat * 2)).off + 1, none⟩ = some (.slice A282_1 ((rd_T52 l0 x5_1).f1).length c282_1)) (ds := []) (bs 8 0) (by kernel_rfl) rfl rfl ⟨((HB.out.cell (World.block_lt_of_cell? _ _ hw282_0)).trans hw282_0), ((HB.out.cell (World.block_lt_of_cell? _ _ hw282_1)).trans hw282_1)⟩ (fun hHeld => ?_); refine with_tabW F120.tab4 F120.bits4 (fun HT_ HW_ => ?_)
   generalize wr.drew = w12 at HB HR282_1 hx282_0 hx282_1 hHeld ⊢
   refine pu_ 0 12 (bs 8 1) HT_ ?_ rfl rfl
   refine pu_ 1 13 (bs 8 3) HT_ ?_ rfl rfl
   refine pu_ 2 14 (bs 8 7) HT_ ?_ rfl rfl
   refine pu_ 3 15 (bs 8 15) HT_ ?_ rfl rfl
   refine pu_ 5 17 (bs 8 47) HT_ ?_ rfl rfl
   refine tk_ 4 16 (bs 8 63) HT_ HW_ hHeld au4_59 ?_ rfl rfl
   refine one_ (i := 6) (N := some 18) (bs 8 127) rfl rfl (one_of HT_.out (by kernel_rfl)) (by decide) (fun K hK => ?_)
   refine gr_ Tryd.func40 #[.int .i64 x1_1] (by rfl) ?_ rfl rfl rfl
   with_reducible refine (F40.calls k1 x1_1 t283 _ A5.out).mono ?_
   rintro e w13 ⟨rfl, hb⟩
   refine ⟨_, rfl, ?_⟩
   replace HB := hs_ w hb
   (try clear hb)
   (try clear hb2)
   (try clear hk)
   (try clear hi)
   refine hK.out _ _ ⟨((HB.out.cell (World.block_lt_of_cell? _ _ hw282_0)).trans hw282_0), ((HB.out.cell (World.block_lt_of_cell? _ _ hw282_1)).trans hw282_1)⟩ (fun hHeld => ?_)
   clear hK K
   refine no_ 18 ?_
   refine pu_ 7 19 (bs 8 255) HT_ ?_ rfl rfl
   refine done_ (done_of HT_.out (by kernel_rfl)) ?_
   have p284 : 0 ≤ (x5_1 : Int) := od_
   have q284 : x5_1 < (l0.length : Int) := od_
   obtain ⟨ad284, A284_1, c284_1, e284, hx284_0, hx284_1, hl284_1, hi284_1⟩ := at_T52 HR0.out x5_1 p284 q284
   obtain rfl : ad282 = ad284 := (by injection e284)
   obtain ⟨rfl, rfl⟩ : A284_1 = A282_1 ∧ c284_1 = c282_1 := by have e_ := Option.some.inj (hw282_1.symm.trans hx284_1); injection e_ with e1_ e2_ e3_; exact ⟨e1_.symm, e3_.symm⟩
   replace hx284_0 := (HB.out.cell (World.block_lt_of_cell? _ _ hx284_0)).trans hx284_0
   replace hx284_1 := (HB.out.cell (World.block_lt_of_cell? _ _ hx284_1)).trans hx284_1
   have HR284_1 := am_ hi284_1
   have HC284_1 := am_ hl284_1
   clear hi284_1 hl284_1
   replace p284 := eq_true p284
   replace q284 := eq_true q284
   try go_wp2_with (first | ((with_reducible refine gate_callee (f := 135) rfl ?_); refine gl_ 28 Tryd.func135 #[.slice A284_1 ((rd_T52 l0 x5_1).f1).length c284_1, .int .i64 (wrap64 (x1_1 + 1))] ?_ rfl rfl rfl rfl; (with_reducible refine (F135.calls k1 _ _ ((rd_T52 l0 x5_1).f1) (wrap64 (x1_1 + 1)) t285 _ ?s1 ?s2 A7.out).mono ?_); (case s1 => exact au4_47); (case s2 => exact HC284_1.out); rintro e w14 ⟨rfl, hb⟩; refine ⟨_, rfl, ?_⟩; replace HB := hs_ w hb; (try clear hb)))
   go_roundg k1
   case measure => have := HK1.out; omega
   case rel => exact ⟨(t285), (wrap64 (x5_1 + 1)), er_, er_, H', ⟨by have := HK1.out; omega⟩, ⟨bl_⟩⟩
/-! ### F99: function 99 -/
def F99.l0 : Nat → List (S85) → Int → Int → Option (Int)
  | 0, _, _, _ => none
  | k + 1, x0, x1, x5 => if x5 < (x0.length : Int) then (if 0 ≤ x5 then (if ((rd_T85 x0 x5).f0) = x1 then ((F120.f k ((rd_T85 x0 x5).f1) (wrap64 (x1 + 1))).bind fun t288 => (if t288 < 0 then (some (-1)) else (F99.l0 k x0 t288 (wrap64 (x5 + 1))))) else (some (-1))) else (none)) else (some x1)
def F99.f (k : Nat) (l0 : List (S85)) (a1 : Int) : Option (Int) := F99.l0 k l0 a1 0
theorem F99.mono_l : ∀ k, (∀ y0 y1 y2, LeO (F99.l0 k y0 y1 y2) (F99.l0 (k + 1) y0 y1 y2))
 | 0 => fun _ _ _ r h => by simp [F99.l0] at h
 | k + 1 => by
  have ih0 := F99.mono_l k
  intro y0 y1 y2
  unfold F99.l0
  repeat' with_reducible first | exact ih0 _ _ _ | exact F120.mono _ _ _ | exact LeO.refl _ | exact LeO.none _ | refine LeO.ite ?_ ?_ | refine LeO.bind ?_ (fun _ => ?_)
theorem F99.mono : ∀ a0 a1 k, LeO (F99.f k a0 a1) (F99.f (k + 1) a0 a1) := by
 intro a0 a1 k
 have ih0 := F99.mono_l k
 unfold F99.f
 repeat' with_reducible first | exact ih0 _ _ _ | exact F120.mono _ _ _ | exact LeO.refl _ | exact LeO.none _ | refine LeO.ite ?_ ?_ | refine LeO.bind ?_ (fun _ => ?_)
theorem F99.calls (k : Nat) (A0 : Option Addr) (c0 : Nat) (l0 : List (S85)) (a1 : Int) (r : Int) (w : World) (hr0 : Kd.C k85 w A0 l0.length l0) (hc0 : l0.length ≤ c0) (h : F99.f k l0 a1 = some r) :
  Calls Tryd.prog 99 #[.slice A0 l0.length c0, .int .i64 a1] w fun e w' => e = .returned (.int .i64 r) ∧ Below w.heap.size w w' := by
 have HR0 := am_ hr0
 have HC0 := am_ hc0
 clear hr0 hc0
 have HB := am_ (Below.refl w.heap.size w)
 have H : (F99.l0 k l0 a1 0) = some r := h
 clear h
 have H' := am_ H
 clear H
 go_enter Tryd.func99, Tryd.ntmps99
 go_wp2
 go_loopg [1, 5] k (fun kq v1 v5 w' => ∃ (x1_1 : Int) (x5_1 : Int), v1 = .int .i64 x1_1 ∧ v5 = .int .i64 x5_1 ∧ Aside0 (F99.l0 kq l0 x1_1 x5_1 = some r) ∧ Aside0 (kq ≤ k) ∧ Aside0 (Below w.heap.size w w'))
 case atStart => exact ⟨(a1), (0), er_, er_, H', ⟨Nat.le_refl _⟩, ⟨bl_⟩⟩
 case round =>
  clear H'
  obtain ⟨x1_1, x5_1, rfl, rfl, HA, HK1, HB⟩ := hrel
  cases gk with
  | zero => exact absurd HA.out (by simp [F99.l0])
  | succ k1 =>
   have H := HA.out
   clear HA
   simp only [F99.l0] at H
   replace H := it_ H; rcases H with ⟨c3b0, H⟩ | ⟨c3b0, H⟩
   rotate_left
   ·obtain rfl := Option.some.inj H
    go_wp2
    go_ret
    exact ⟨au4_1, bl_⟩

   replace H := itn_ H; rcases H with ⟨c4b0, H⟩
   by_cases c5 : ((rd_T85 l0 x5_1).f0) = x1_1
   rotate_left
   ·rw [if_neg c5] at H
    have c5b0 : (((rd_T85 l0 x5_1).f0) == x1_1) = false := beq_eq_false_iff_ne.mpr c5
    have c5b1 : (((rd_T85 l0 x5_1).f0) != x1_1) = true := bne_iff_ne.mpr c5
    obtain rfl := Option.some.inj H
    have p286 : 0 ≤ (x5_1 : Int) := od_
    have q286 : x5_1 < (l0.length : Int) := od_
    obtain ⟨ad286, A286_1, c286_1, e286, hx286_0, hx286_1, hl286_1, hi286_1⟩ := at_T85 HR0.out x5_1 p286 q286
    cases e286
    replace hx286_0 := (HB.out.cell (World.block_lt_of_cell? _ _ hx286_0)).trans hx286_0
    replace hx286_1 := (HB.out.cell (World.block_lt_of_cell? _ _ hx286_1)).trans hx286_1
    have HR286_1 := am_ hi286_1
    have HC286_1 := am_ hl286_1
    clear hi286_1 hl286_1
    replace p286 := eq_true p286
    replace q286 := eq_true q286
    go_wp2
    go_ret
    exact ⟨au4_1, bl_⟩
   rw [if_pos c5] at H
   have c5b0 : (((rd_T85 l0 x5_1).f0) == x1_1) = true := beq_iff_eq.mpr c5
   have c5b1 : (((rd_T85 l0 x5_1).f0) != x1_1) = false := bne_eq_false_iff_eq.mpr c5
   clear c5
   replace H := bi_ H; rcases H with ⟨t288, A6, H⟩
   replace H := it_ H; rcases H with ⟨c7b0, H⟩ | ⟨c7b0, H⟩
   ·obtain rfl := Option.some.inj H
    have p286 : 0 ≤ (x5_1 : Int) := od_
    have q286 : x5_1 < (l0.length : Int) := od_
    obtain ⟨ad286, A286_1, c286_1, e286, hx286_0, hx286_1, hl286_1, hi286_1⟩ := at_T85 HR0.out x5_1 p286 q286
    cases e286
    replace hx286_0 := (HB.out.cell (World.block_lt_of_cell? _ _ hx286_0)).trans hx286_0
    replace hx286_1 := (HB.out.cell (World.block_lt_of_cell? _ _ hx286_1)).trans hx286_1
    have HR286_1 := am_ hi286_1
    have HC286_1 := am_ hl286_1
    clear hi286_1 hl286_1
    replace p286 := eq_true p286
    replace q286 := eq_true q286
    have p287 : 0 ≤ (x5_1 : Int) := od_
    have q287 : x5_1 < (l0.length : Int) := od_
    obtain ⟨ad287, A287_1, c287_1, e287, hx287_0, hx287_1, hl287_1, hi287_1⟩ := at_T85 HR0.out x5_1 p287 q287
    obtain rfl : ad286 = ad287 := (by injection e287)
    replace hx287_0 := (HB.out.cell (World.block_lt_of_cell? _ _ hx287_0)).trans hx287_0
    replace hx287_1 := (HB.out.cell (World.block_lt_of_cell? _ _ hx287_1)).trans hx287_1
    have HR287_1 := am_ hi287_1
    have HC287_1 := am_ hl287_1
    clear hi287_1 hl287_1
    replace p287 := eq_true p287
    replace q287 := eq_true q287
    have ea_ := Option.some.inj (hx286_1.symm.trans hx287_1)
    injection ea_ with ea_ en_ ec_
    subst ea_
    subst ec_
    clear en_
    go_wp2_with (first | ((with_reducible refine gate_callee (f := 120) rfl ?_); refine gl_ 27 Tryd.func120 #[.slice A286_1 ((rd_T85 l0 x5_1).f1).length c286_1, .int .i64 (wrap64 (x1_1 + 1))] ?_ rfl rfl rfl rfl; (with_reducible refine (F120.calls k1 _ _ ((rd_T85 l0 x5_1).f1) (wrap64 (x1_1 + 1)) t288 _ ?s1 ?s2 A6.out).mono ?_); (case s1 => exact au4_48); (case s2 => exact HC287_1.out); rintro e w8 ⟨rfl, hb⟩; refine ⟨_, rfl, ?_⟩; replace HB := hs_ w hb; (try clear hb)))
    go_ret
    exact ⟨au4_1, bl_⟩
   have H' := am_ H
   clear H
   have p286 : 0 ≤ (x5_1 : Int) := od_
   have q286 : x5_1 < (l0.length : Int) := od_
   obtain ⟨ad286, A286_1, c286_1, e286, hx286_0, hx286_1, hl286_1, hi286_1⟩ := at_T85 HR0.out x5_1 p286 q286
   cases e286
   replace hx286_0 := (HB.out.cell (World.block_lt_of_cell? _ _ hx286_0)).trans hx286_0
   replace hx286_1 := (HB.out.cell (World.block_lt_of_cell? _ _ hx286_1)).trans hx286_1
   have HR286_1 := am_ hi286_1
   have HC286_1 := am_ hl286_1
   clear hi286_1 hl286_1
   replace p286 := eq_true p286
   replace q286 := eq_true q286
   have p287 : 0 ≤ (x5_1 : Int) := od_
   have q287 : x5_1 < (l0.length : Int) := od_
   obtain ⟨ad287, A287_1, c287_1, e287, hx287_0, hx287_1, hl287_1, hi287_1⟩ := at_T85 HR0.out x5_1 p287 q287
   obtain rfl : ad286 = ad287 := (by injection e287)
   replace hx287_0 := (HB.out.cell (World.block_lt_of_cell? _ _ hx287_0)).trans hx287_0
   replace hx287_1 := (HB.out.cell (World.block_lt_of_cell? _ _ hx287_1)).trans hx287_1
   have HR287_1 := am_ hi287_1
   have HC287_1 := am_ hl287_1
   clear hi287_1 hl287_1
   replace p287 := eq_true p287
   replace q287 := eq_true q287
   have ea_ := Option.some.inj (hx286_1.symm.trans hx287_1)
   injection ea_ with ea_ en_ ec_
   subst ea_
   subst ec_
   clear en_
   go_wp2_with (first | ((with_reducible refine gate_callee (f := 120) rfl ?_); refine gl_ 27 Tryd.func120 #[.slice A286_1 ((rd_T85 l0 x5_1).f1).length c286_1, .int .i64 (wrap64 (x1_1 + 1))] ?_ rfl rfl rfl rfl; (with_reducible refine (F120.calls k1 _ _ ((rd_T85 l0 x5_1).f1) (wrap64 (x1_1 + 1)) t288 _ ?s1 ?s2 A6.out).mono ?_); (case s1 => exact au4_48); (case s2 => exact HC287_1.out); rintro e w9 ⟨rfl, hb⟩; refine ⟨_, rfl, ?_⟩; replace HB := hs_ w hb; (try clear hb)))
   go_roundg k1
   case measure => have := HK1.out; omega
   case rel => exact ⟨(t288), (wrap64 (x5_1 + 1)), er_, er_, H', ⟨by have := HK1.out; omega⟩, ⟨bl_⟩⟩
/-! ### F66: function 66 -/
def F66.l0 : Nat → List (S83) → Int → Int → Option (Int)
  | 0, _, _, _ => none
  | k + 1, x0, x1, x5 => if x5 < (x0.length : Int) then (if 0 ≤ x5 then (if ((rd_T83 x0 x5).f0) = x1 then (if ((rd_T83 x0 x5).f1) = (wrap64 (x1 + 1)) then ((F99.f k ((rd_T83 x0 x5).f2) (wrap64 ((wrap64 (x1 + 1)) + 1))).bind fun t292 => (if t292 < 0 then (some (-1)) else (F66.l0 k x0 t292 (wrap64 (x5 + 1))))) else (some (-1))) else (some (-1))) else (none)) else (some x1)
def F66.f (k : Nat) (l0 : List (S83)) (a1 : Int) : Option (Int) := F66.l0 k l0 a1 0
theorem F66.mono_l : ∀ k, (∀ y0 y1 y2, LeO (F66.l0 k y0 y1 y2) (F66.l0 (k + 1) y0 y1 y2))
 | 0 => fun _ _ _ r h => by simp [F66.l0] at h
 | k + 1 => by
  have ih0 := F66.mono_l k
  intro y0 y1 y2
  unfold F66.l0
  repeat' with_reducible first | exact ih0 _ _ _ | exact F99.mono _ _ _ | exact LeO.refl _ | exact LeO.none _ | refine LeO.ite ?_ ?_ | refine LeO.bind ?_ (fun _ => ?_)
theorem F66.mono : ∀ a0 a1 k, LeO (F66.f k a0 a1) (F66.f (k + 1) a0 a1) := by
 intro a0 a1 k
 have ih0 := F66.mono_l k
 unfold F66.f
 repeat' with_reducible first | exact ih0 _ _ _ | exact F99.mono _ _ _ | exact LeO.refl _ | exact LeO.none _ | refine LeO.ite ?_ ?_ | refine LeO.bind ?_ (fun _ => ?_)
theorem F66.calls (k : Nat) (A0 : Option Addr) (c0 : Nat) (l0 : List (S83)) (a1 : Int) (r : Int) (w : World) (hr0 : Kd.C k83 w A0 l0.length l0) (hc0 : l0.length ≤ c0) (h : F66.f k l0 a1 = some r) :
  Calls Tryd.prog 66 #[.slice A0 l0.length c0, .int .i64 a1] w fun e w' => e = .returned (.int .i64 r) ∧ Below w.heap.size w w' := by
 have HR0 := am_ hr0
 have HC0 := am_ hc0
 clear hr0 hc0
 have HB := am_ (Below.refl w.heap.size w)
 have H : (F66.l0 k l0 a1 0) = some r := h
 clear h
 have H' := am_ H
 clear H
 go_enter Tryd.func66, Tryd.ntmps66
 go_wp2
 go_loopg [1, 5] k (fun kq v1 v5 w' => ∃ (x1_1 : Int) (x5_1 : Int), v1 = .int .i64 x1_1 ∧ v5 = .int .i64 x5_1 ∧ Aside0 (F66.l0 kq l0 x1_1 x5_1 = some r) ∧ Aside0 (kq ≤ k) ∧ Aside0 (Below w.heap.size w w'))
 case atStart => exact ⟨(a1), (0), er_, er_, H', ⟨Nat.le_refl _⟩, ⟨bl_⟩⟩
 case round =>
  clear H'
  obtain ⟨x1_1, x5_1, rfl, rfl, HA, HK1, HB⟩ := hrel
  cases gk with
  | zero => exact absurd HA.out (by simp [F66.l0])
  | succ k1 =>
   have H := HA.out
   clear HA
   simp only [F66.l0] at H
   replace H := it_ H; rcases H with ⟨c3b0, H⟩ | ⟨c3b0, H⟩
   rotate_left
   ·obtain rfl := Option.some.inj H
    go_wp2
    go_ret
    exact ⟨au4_1, bl_⟩

   replace H := itn_ H; rcases H with ⟨c4b0, H⟩
   by_cases c5 : ((rd_T83 l0 x5_1).f0) = x1_1
   rotate_left
   ·rw [if_neg c5] at H
    have c5b0 : (((rd_T83 l0 x5_1).f0) == x1_1) = false := beq_eq_false_iff_ne.mpr c5
    have c5b1 : (((rd_T83 l0 x5_1).f0) != x1_1) = true := bne_iff_ne.mpr c5
    obtain rfl := Option.some.inj H
    have p289 : 0 ≤ (x5_1 : Int) := od_
    have q289 : x5_1 < (l0.length : Int) := od_
    obtain ⟨ad289, A289_2, c289_2, e289, hx289_0, hx289_1, hx289_2, hl289_2, hi289_2⟩ := at_T83 HR0.out x5_1 p289 q289
    cases e289
    replace hx289_0 := (HB.out.cell (World.block_lt_of_cell? _ _ hx289_0)).trans hx289_0
    replace hx289_1 := (HB.out.cell (World.block_lt_of_cell? _ _ hx289_1)).trans hx289_1
    replace hx289_2 := (HB.out.cell (World.block_lt_of_cell? _ _ hx289_2)).trans hx289_2
    have HR289_2 := am_ hi289_2
    have HC289_2 := am_ hl289_2
    clear hi289_2 hl289_2
    replace p289 := eq_true p289
    replace q289 := eq_true q289
    go_wp2
    go_ret
    exact ⟨au4_1, bl_⟩
   rw [if_pos c5] at H
   have c5b0 : (((rd_T83 l0 x5_1).f0) == x1_1) = true := beq_iff_eq.mpr c5
   have c5b1 : (((rd_T83 l0 x5_1).f0) != x1_1) = false := bne_eq_false_iff_eq.mpr c5
   clear c5
   by_cases c6 : ((rd_T83 l0 x5_1).f1) = (wrap64 (x1_1 + 1))
   rotate_left
   ·rw [if_neg c6] at H
    have c6b0 : (((rd_T83 l0 x5_1).f1) == (wrap64 (x1_1 + 1))) = false := beq_eq_false_iff_ne.mpr c6
    have c6b1 : (((rd_T83 l0 x5_1).f1) != (wrap64 (x1_1 + 1))) = true := bne_iff_ne.mpr c6
    obtain rfl := Option.some.inj H
    have p289 : 0 ≤ (x5_1 : Int) := od_
    have q289 : x5_1 < (l0.length : Int) := od_
    obtain ⟨ad289, A289_2, c289_2, e289, hx289_0, hx289_1, hx289_2, hl289_2, hi289_2⟩ := at_T83 HR0.out x5_1 p289 q289
    cases e289
    replace hx289_0 := (HB.out.cell (World.block_lt_of_cell? _ _ hx289_0)).trans hx289_0
    replace hx289_1 := (HB.out.cell (World.block_lt_of_cell? _ _ hx289_1)).trans hx289_1
    replace hx289_2 := (HB.out.cell (World.block_lt_of_cell? _ _ hx289_2)).trans hx289_2
    have HR289_2 := am_ hi289_2
    have HC289_2 := am_ hl289_2
    clear hi289_2 hl289_2
    replace p289 := eq_true p289
    replace q289 := eq_true q289
    have p290 : 0 ≤ (x5_1 : Int) := od_
    have q290 : x5_1 < (l0.length : Int) := od_
    obtain ⟨ad290, A290_2, c290_2, e290, hx290_0, hx290_1, hx290_2, hl290_2, hi290_2⟩ := at_T83 HR0.out x5_1 p290 q290
    obtain rfl : ad289 = ad290 := (by injection e290)
    replace hx290_0 := (HB.out.cell (World.block_lt_of_cell? _ _ hx290_0)).trans hx290_0
    replace hx290_1 := (HB.out.cell (World.block_lt_of_cell? _ _ hx290_1)).trans hx290_1
    replace hx290_2 := (HB.out.cell (World.block_lt_of_cell? _ _ hx290_2)).trans hx290_2
    have HR290_2 := am_ hi290_2
    have HC290_2 := am_ hl290_2
    clear hi290_2 hl290_2
    replace p290 := eq_true p290
    replace q290 := eq_true q290
    have ea_ := Option.some.inj (hx289_2.symm.trans hx290_2)
    injection ea_ with ea_ en_ ec_
    subst ea_
    subst ec_
    clear en_
    go_wp2
    go_ret
    exact ⟨au4_1, bl_⟩
   rw [if_pos c6] at H
   have c6b0 : (((rd_T83 l0 x5_1).f1) == (wrap64 (x1_1 + 1))) = true := beq_iff_eq.mpr c6
   have c6b1 : (((rd_T83 l0 x5_1).f1) != (wrap64 (x1_1 + 1))) = false := bne_eq_false_iff_eq.mpr c6
   clear c6
   replace H := bi_ H; rcases H with ⟨t292, A7, H⟩
   replace H := it_ H; rcases H with ⟨c8b0, H⟩ | ⟨c8b0, H⟩
   ·obtain rfl := Option.some.inj H
    have p289 : 0 ≤ (x5_1 : Int) := od_
    have q289 : x5_1 < (l0.length : Int) := od_
    obtain ⟨ad289, A289_2, c289_2, e289, hx289_0, hx289_1, hx289_2, hl289_2, hi289_2⟩ := at_T83 HR0.out x5_1 p289 q289
    cases e289
    replace hx289_0 := (HB.out.cell (World.block_lt_of_cell? _ _ hx289_0)).trans hx289_0
    replace hx289_1 := (HB.out.cell (World.block_lt_of_cell? _ _ hx289_1)).trans hx289_1
    replace hx289_2 := (HB.out.cell (World.block_lt_of_cell? _ _ hx289_2)).trans hx289_2
    have HR289_2 := am_ hi289_2
    have HC289_2 := am_ hl289_2
    clear hi289_2 hl289_2
    replace p289 := eq_true p289
    replace q289 := eq_true q289
    have p290 : 0 ≤ (x5_1 : Int) := od_
    have q290 : x5_1 < (l0.length : Int) := od_
    obtain ⟨ad290, A290_2, c290_2, e290, hx290_0, hx290_1, hx290_2, hl290_2, hi290_2⟩ := at_T83 HR0.out x5_1 p290 q290
    obtain rfl : ad289 = ad290 := (by injection e290)
    replace hx290_0 := (HB.out.cell (World.block_lt_of_cell? _ _ hx290_0)).trans hx290_0
    replace hx290_1 := (HB.out.cell (World.block_lt_of_cell? _ _ hx290_1)).trans hx290_1
    replace hx290_2 := (HB.out.cell (World.block_lt_of_cell? _ _ hx290_2)).trans hx290_2
    have HR290_2 := am_ hi290_2
    have HC290_2 := am_ hl290_2
    clear hi290_2 hl290_2
    replace p290 := eq_true p290
    replace q290 := eq_true q290
    have ea_ := Option.some.inj (hx289_2.symm.trans hx290_2)
    injection ea_ with ea_ en_ ec_
    subst ea_
    subst ec_
    clear en_
    have p291 : 0 ≤ (x5_1 : Int) := od_
    have q291 : x5_1 < (l0.length : Int) := od_
    obtain ⟨ad291, A291_2, c291_2, e291, hx291_0, hx291_1, hx291_2, hl291_2, hi291_2⟩ := at_T83 HR0.out x5_1 p291 q291
    obtain rfl : ad289 = ad291 := (by injection e291)
    replace hx291_0 := (HB.out.cell (World.block_lt_of_cell? _ _ hx291_0)).trans hx291_0
    replace hx291_1 := (HB.out.cell (World.block_lt_of_cell? _ _ hx291_1)).trans hx291_1
    replace hx291_2 := (HB.out.cell (World.block_lt_of_cell? _ _ hx291_2)).trans hx291_2
    have HR291_2 := am_ hi291_2
    have HC291_2 := am_ hl291_2
    clear hi291_2 hl291_2
    replace p291 := eq_true p291
    replace q291 := eq_true q291
    have ea_ := Option.some.inj (hx289_2.symm.trans hx291_2)
    injection ea_ with ea_ en_ ec_
    subst ea_
    subst ec_
    clear en_
    go_wp2_with (first | ((with_reducible refine gate_callee (f := 99) rfl ?_); refine gl_ 36 Tryd.func99 #[.slice A289_2 ((rd_T83 l0 x5_1).f2).length c289_2, .int .i64 (wrap64 ((wrap64 (x1_1 + 1)) + 1))] ?_ rfl rfl rfl rfl; (with_reducible refine (F99.calls k1 _ _ ((rd_T83 l0 x5_1).f2) (wrap64 ((wrap64 (x1_1 + 1)) + 1)) t292 _ ?s1 ?s2 A7.out).mono ?_); (case s1 => exact au4_49); (case s2 => exact HC291_2.out); rintro e w9 ⟨rfl, hb⟩; refine ⟨_, rfl, ?_⟩; replace HB := hs_ w hb; (try clear hb)))
    go_ret
    exact ⟨au4_1, bl_⟩
   have H' := am_ H
   clear H
   have p289 : 0 ≤ (x5_1 : Int) := od_
   have q289 : x5_1 < (l0.length : Int) := od_
   obtain ⟨ad289, A289_2, c289_2, e289, hx289_0, hx289_1, hx289_2, hl289_2, hi289_2⟩ := at_T83 HR0.out x5_1 p289 q289
   cases e289
   replace hx289_0 := (HB.out.cell (World.block_lt_of_cell? _ _ hx289_0)).trans hx289_0
   replace hx289_1 := (HB.out.cell (World.block_lt_of_cell? _ _ hx289_1)).trans hx289_1
   replace hx289_2 := (HB.out.cell (World.block_lt_of_cell? _ _ hx289_2)).trans hx289_2
   have HR289_2 := am_ hi289_2
   have HC289_2 := am_ hl289_2
   clear hi289_2 hl289_2
   replace p289 := eq_true p289
   replace q289 := eq_true q289
   have p290 : 0 ≤ (x5_1 : Int) := od_
   have q290 : x5_1 < (l0.length : Int) := od_
   obtain ⟨ad290, A290_2, c290_2, e290, hx290_0, hx290_1, hx290_2, hl290_2, hi290_2⟩ := at_T83 HR0.out x5_1 p290 q290
   obtain rfl : ad289 = ad290 := (by injection e290)
   replace hx290_0 := (HB.out.cell (World.block_lt_of_cell? _ _ hx290_0)).trans hx290_0
   replace hx290_1 := (HB.out.cell (World.block_lt_of_cell? _ _ hx290_1)).trans hx290_1
   replace hx290_2 := (HB.out.cell (World.block_lt_of_cell? _ _ hx290_2)).trans hx290_2
   have HR290_2 := am_ hi290_2
   have HC290_2 := am_ hl290_2
   clear hi290_2 hl290_2
   replace p290 := eq_true p290
   replace q290 := eq_true q290
   have ea_ := Option.some.inj (hx289_2.symm.trans hx290_2)
   injection ea_ with ea_ en_ ec_
   subst ea_
   subst ec_
   clear en_
   have p291 : 0 ≤ (x5_1 : Int) := od_
   have q291 : x5_1 < (l0.length : Int) := od_
   obtain ⟨ad291, A291_2, c291_2, e291, hx291_0, hx291_1, hx291_2, hl291_2, hi291_2⟩ := at_T83 HR0.out x5_1 p291 q291
   obtain rfl : ad289 = ad291 := (by injection e291)
   replace hx291_0 := (HB.out.cell (World.block_lt_of_cell? _ _ hx291_0)).trans hx291_0
   replace hx291_1 := (HB.out.cell (World.block_lt_of_cell? _ _ hx291_1)).trans hx291_1
   replace hx291_2 := (HB.out.cell (World.block_lt_of_cell? _ _ hx291_2)).trans hx291_2
   have HR291_2 := am_ hi291_2
   have HC291_2 := am_ hl291_2
   clear hi291_2 hl291_2
   replace p291 := eq_true p291
   replace q291 := eq_true q291
   have ea_ := Option.some.inj (hx289_2.symm.trans hx291_2)
   injection ea_ with ea_ en_ ec_
   subst ea_
   subst ec_
   clear en_
   go_wp2_with (first | ((with_reducible refine gate_callee (f := 99) rfl ?_); refine gl_ 36 Tryd.func99 #[.slice A289_2 ((rd_T83 l0 x5_1).f2).length c289_2, .int .i64 (wrap64 ((wrap64 (x1_1 + 1)) + 1))] ?_ rfl rfl rfl rfl; (with_reducible refine (F99.calls k1 _ _ ((rd_T83 l0 x5_1).f2) (wrap64 ((wrap64 (x1_1 + 1)) + 1)) t292 _ ?s1 ?s2 A7.out).mono ?_); (case s1 => exact au4_49); (case s2 => exact HC291_2.out); rintro e w10 ⟨rfl, hb⟩; refine ⟨_, rfl, ?_⟩; replace HB := hs_ w hb; (try clear hb)))
   go_roundg k1
   case measure => have := HK1.out; omega
   case rel => exact ⟨(t292), (wrap64 (x5_1 + 1)), er_, er_, H', ⟨by have := HK1.out; omega⟩, ⟨bl_⟩⟩
/-! ### F43: function 43 -/
def F43.f (k : Nat) (a0_0 : ByteArray) (a0_1 : ByteArray) (a0_2 : Int) (l0_3 : List (S83)) (a1 : Int) : Option (Int) := (F66.f k l0_3 a1).bind fun t294 => (if t294 < 0 then (some (-1)) else (some t294))
theorem F43.mono : ∀ a0 a1 a2 a3 a4 k, LeO (F43.f k a0 a1 a2 a3 a4) (F43.f (k + 1) a0 a1 a2 a3 a4) := by
 intro a0 a1 a2 a3 a4 k
 unfold F43.f
 repeat' with_reducible first | exact F66.mono _ _ _ | exact LeO.refl _ | exact LeO.none _ | refine LeO.ite ?_ ?_ | refine LeO.bind ?_ (fun _ => ?_)
theorem F43.calls (k : Nat) (a0_0 : ByteArray) (a0_1 : ByteArray) (a0_2 : Int) (A0_3 : Option Addr) (c0_3 : Nat) (l0_3 : List (S83)) (a1 : Int) (r : Int) (w : World) (hr0_3 : Kd.C k83 w A0_3 l0_3.length l0_3) (hc0_3 : l0_3.length ≤ c0_3) (h : F43.f k a0_0 a0_1 a0_2 l0_3 a1 = some r) :
  Calls Tryd.prog 43 #[.agg #[.string a0_0, .string a0_1, .int .i64 a0_2, .slice A0_3 l0_3.length c0_3], .int .i64 a1] w fun e w' => e = .returned (.int .i64 r) ∧ Below w.heap.size w w' := by
 have hu29 := Tryd.underlying29
 have HR0_3 := am_ hr0_3
 have HC0_3 := am_ hc0_3
 clear hr0_3 hc0_3
 have HB := am_ (Below.refl w.heap.size w)
 have H : ((F66.f k l0_3 a1).bind fun t294 => (if t294 < 0 then (some (-1)) else (some t294))) = some r := h
 clear h
 replace H := bi_ H; rcases H with ⟨t294, A3, H⟩
 replace H := it_ H; rcases H with ⟨c4b0, H⟩ | ⟨c4b0, H⟩
 ·obtain rfl := Option.some.inj H
  go_enter Tryd.func43, Tryd.ntmps43
  go_wp2_with (first | ((with_reducible refine gate_dst (N := 2) rfl ?_); refine be_ 2 #[.string a0_0, .string a0_1, .int .i64 a0_2, .slice A0_3 l0_3.length c0_3] 29 ?_; intro gb293 hg w5 hbox hb; have BK293 := am_ (hbox); have GW293 := am_ (gw_ hg bl_); have GE293 := GW293; replace HB := hs_ w hb; clear hb hbox hg; obtain ⟨hcz6_0, hcz6_1, hcz6_2, hcz6_3, hfz6_0, hfz6_1, hfz6_2, hfz6_3⟩ := cellsF4 BK293.out) | ((with_reducible refine gate_callee (f := 66) rfl ?_); refine gl_ 8 Tryd.func66 #[.slice A0_3 l0_3.length c0_3, .int .i64 a1] ?_ rfl rfl rfl rfl; (with_reducible refine (F66.calls k _ _ l0_3 a1 t294 _ ?s1 ?s2 A3.out).mono ?_); (case s1 => exact au4_35); (case s2 => exact HC0_3.out); rintro e w7 ⟨rfl, hb⟩; refine ⟨_, rfl, ?_⟩; replace BK293 := bb_ BK293 hb; replace HB := hs_ w hb; (try clear hb)))
  go_ret
  exact ⟨au4_1, bl_⟩
 obtain rfl := Option.some.inj H
 go_enter Tryd.func43, Tryd.ntmps43
 go_wp2_with (first | ((with_reducible refine gate_dst (N := 2) rfl ?_); refine be_ 2 #[.string a0_0, .string a0_1, .int .i64 a0_2, .slice A0_3 l0_3.length c0_3] 29 ?_; intro gb293 hg w8 hbox hb; have BK293 := am_ (hbox); have GW293 := am_ (gw_ hg bl_); have GE293 := GW293; replace HB := hs_ w hb; clear hb hbox hg; obtain ⟨hcz9_0, hcz9_1, hcz9_2, hcz9_3, hfz9_0, hfz9_1, hfz9_2, hfz9_3⟩ := cellsF4 BK293.out) | ((with_reducible refine gate_callee (f := 66) rfl ?_); refine gl_ 8 Tryd.func66 #[.slice A0_3 l0_3.length c0_3, .int .i64 a1] ?_ rfl rfl rfl rfl; (with_reducible refine (F66.calls k _ _ l0_3 a1 t294 _ ?s1 ?s2 A3.out).mono ?_); (case s1 => exact au4_35); (case s2 => exact HC0_3.out); rintro e w10 ⟨rfl, hb⟩; refine ⟨_, rfl, ?_⟩; replace BK293 := bb_ BK293 hb; replace HB := hs_ w hb; (try clear hb)))
 go_ret
 exact ⟨au4_1, bl_⟩

/-! ### F19: function 19 -/
def F19.f (k : Nat) (a0_0 : ByteArray) (a0_1 : ByteArray) (a0_2 : Int) (l0_3 : List (S83)) (a0_4 : Bool) (a0_5 : Int) (a0_6 : Int) (a1 : Int) : Option (Int) := (F43.f k a0_0 a0_1 a0_2 l0_3 a1).bind fun t296 => (if t296 < 0 then (some (-1)) else (some t296))
theorem F19.mono : ∀ a0 a1 a2 a3 a4 a5 a6 a7 k, LeO (F19.f k a0 a1 a2 a3 a4 a5 a6 a7) (F19.f (k + 1) a0 a1 a2 a3 a4 a5 a6 a7) := by
 intro a0 a1 a2 a3 a4 a5 a6 a7 k
 unfold F19.f
 repeat' with_reducible first | exact F43.mono _ _ _ _ _ _ | exact LeO.refl _ | exact LeO.none _ | refine LeO.ite ?_ ?_ | refine LeO.bind ?_ (fun _ => ?_)
theorem F19.calls (k : Nat) (a0_0 : ByteArray) (a0_1 : ByteArray) (a0_2 : Int) (A0_3 : Option Addr) (c0_3 : Nat) (l0_3 : List (S83)) (a0_4 : Bool) (a0_5 : Int) (a0_6 : Int) (a1 : Int) (r : Int) (w : World) (hr0_3 : Kd.C k83 w A0_3 l0_3.length l0_3) (hc0_3 : l0_3.length ≤ c0_3) (h : F19.f k a0_0 a0_1 a0_2 l0_3 a0_4 a0_5 a0_6 a1 = some r) :
  Calls Tryd.prog 19 #[.agg #[.string a0_0, .string a0_1, .int .i64 a0_2, .slice A0_3 l0_3.length c0_3, .bool a0_4, .int .i64 a0_5, .int .i64 a0_6], .int .i64 a1] w fun e w' => e = .returned (.int .i64 r) ∧ Below w.heap.size w w' := by
 have hu36 := Tryd.underlying36
 have hu29 := Tryd.underlying29
 have HR0_3 := am_ hr0_3
 have HC0_3 := am_ hc0_3
 clear hr0_3 hc0_3
 have HB := am_ (Below.refl w.heap.size w)
 have H : ((F43.f k a0_0 a0_1 a0_2 l0_3 a1).bind fun t296 => (if t296 < 0 then (some (-1)) else (some t296))) = some r := h
 clear h
 replace H := bi_ H; rcases H with ⟨t296, A3, H⟩
 replace H := it_ H; rcases H with ⟨c4b0, H⟩ | ⟨c4b0, H⟩
 ·obtain rfl := Option.some.inj H
  go_enter Tryd.func19, Tryd.ntmps19
  go_wp2_with (first | ((with_reducible refine gate_dst (N := 2) rfl ?_); refine be_ 2 #[.string a0_0, .string a0_1, .int .i64 a0_2, .slice A0_3 l0_3.length c0_3, .bool a0_4, .int .i64 a0_5, .int .i64 a0_6] 36 ?_; intro gb295 hg w5 hbox hb; have BK295 := am_ (hbox); have GW295 := am_ (gw_ hg bl_); have GE295 := GW295; replace HB := hs_ w hb; clear hb hbox hg; obtain ⟨hcz6_0, hcz6_1, hcz6_2, hcz6_3, hcz6_4, hcz6_5, hcz6_6, hfz6_0, hfz6_1, hfz6_2, hfz6_3, hfz6_4, hfz6_5, hfz6_6⟩ := cellsF7 BK295.out) | ((with_reducible refine gate_callee (f := 43) rfl ?_); refine gl_ 8 Tryd.func43 #[.agg #[.string a0_0, .string a0_1, .int .i64 a0_2, .slice A0_3 l0_3.length c0_3], .int .i64 a1] ?_ rfl rfl rfl rfl; (with_reducible refine (F43.calls k a0_0 a0_1 a0_2 _ _ l0_3 a1 t296 _ ?s1 ?s2 A3.out).mono ?_); (case s1 => exact au4_35); (case s2 => exact HC0_3.out); rintro e w7 ⟨rfl, hb⟩; refine ⟨_, rfl, ?_⟩; replace BK295 := bb_ BK295 hb; replace HB := hs_ w hb; (try clear hb)))
  go_ret
  exact ⟨au4_1, bl_⟩
 obtain rfl := Option.some.inj H
 go_enter Tryd.func19, Tryd.ntmps19
 go_wp2_with (first | ((with_reducible refine gate_dst (N := 2) rfl ?_); refine be_ 2 #[.string a0_0, .string a0_1, .int .i64 a0_2, .slice A0_3 l0_3.length c0_3, .bool a0_4, .int .i64 a0_5, .int .i64 a0_6] 36 ?_; intro gb295 hg w8 hbox hb; have BK295 := am_ (hbox); have GW295 := am_ (gw_ hg bl_); have GE295 := GW295; replace HB := hs_ w hb; clear hb hbox hg; obtain ⟨hcz9_0, hcz9_1, hcz9_2, hcz9_3, hcz9_4, hcz9_5, hcz9_6, hfz9_0, hfz9_1, hfz9_2, hfz9_3, hfz9_4, hfz9_5, hfz9_6⟩ := cellsF7 BK295.out) | ((with_reducible refine gate_callee (f := 43) rfl ?_); refine gl_ 8 Tryd.func43 #[.agg #[.string a0_0, .string a0_1, .int .i64 a0_2, .slice A0_3 l0_3.length c0_3], .int .i64 a1] ?_ rfl rfl rfl rfl; (with_reducible refine (F43.calls k a0_0 a0_1 a0_2 _ _ l0_3 a1 t296 _ ?s1 ?s2 A3.out).mono ?_); (case s1 => exact au4_35); (case s2 => exact HC0_3.out); rintro e w10 ⟨rfl, hb⟩; refine ⟨_, rfl, ?_⟩; replace BK295 := bb_ BK295 hb; replace HB := hs_ w hb; (try clear hb)))
 go_ret
 exact ⟨au4_1, bl_⟩

/-! ### F4: function 4 -/
def F4.j0 : Nat → List (S63) → Bool → ByteArray → ByteArray → Int → List (S83) → Bool → Int → Int → ByteArray → ByteArray → Int → List (S83) → Bool → Int → Int → Option (Bool)
  | 0, _, _, _, _, _, _, _, _, _, _, _, _, _, _, _, _ => none
  | k + 1, x0, x42, x311000, x311001, x311002, x311003, x311004, x311005, x311006, x324000, x324001, x324002, x324003, x324004, x324005, x324006 => if x42 = true then (some false) else ((F18.f k x324000 x324001 x324002 x324003 x324004 x324005 x324006 1).bind fun bt332 => ((F19.f k x324000 x324001 x324002 bt332.2 x324004 x324005 x324006 1).bind fun t334 => (if t334 < 0 then (some false) else (if t334 = bt332.1 then ((F13.f k x0).bind fun t335 => ((F14.f k t335).bind fun bt338 => ((F15.f k bt338.1 bt338.2.1 bt338.2.2.1 bt338.2.2.2.1 bt338.2.2.2.2.1 bt338.2.2.2.2.2.1 bt338.2.2.2.2.2.2 x311000 x311001 x311002 x311003 x311004 x311005 x311006).bind fun t348 => (if t348 = true then ((F19.f k x324000 x324001 x324002 bt332.2 x324004 x324005 x324006 1).bind fun t349 => (if t349 < 0 then (some false) else (if t349 = bt332.1 then (some true) else (some false)))) else (some false))))) else (some false)))))
def F4.f (k : Nat) (l0 : List (S63)) : Option (Bool) := (F11.f k l0 1048576).bind fun t297 => (if t297 < 0 then (some true) else ((F13.f k l0).bind fun t298 => ((F12.f k t298).bind fun bt301 => ((F13.f k l0).bind fun t311 => ((F14.f k t311).bind fun bt314 => ((F15.f k bt314.1 bt314.2.1 bt314.2.2.1 bt314.2.2.2.1 bt314.2.2.2.2.1 bt314.2.2.2.2.2.1 bt314.2.2.2.2.2.2 bt301.1 bt301.2.1 bt301.2.2.1 bt301.2.2.2.1 bt301.2.2.2.2.1 bt301.2.2.2.2.2.1 bt301.2.2.2.2.2.2).bind fun t324 => (if t324 = true then ((F13.f k l0).bind fun t325 => ((F16.f k t311 t325).bind fun t328 => (if t328 = true then ((F17.f k t311 1).bind fun bt329 => (if bt329.1 < 0 then (F4.j0 k l0 true bt301.1 bt301.2.1 bt301.2.2.1 bt301.2.2.2.1 bt301.2.2.2.2.1 bt301.2.2.2.2.2.1 bt301.2.2.2.2.2.2 bt314.1 bt314.2.1 bt314.2.2.1 bt314.2.2.2.1 bt314.2.2.2.2.1 bt314.2.2.2.2.2.1 bt314.2.2.2.2.2.2) else ((F15.f k bt314.1 bt314.2.1 bt314.2.2.1 bt314.2.2.2.1 bt314.2.2.2.2.1 bt314.2.2.2.2.2.1 bt314.2.2.2.2.2.2 bt301.1 bt301.2.1 bt301.2.2.1 bt301.2.2.2.1 bt301.2.2.2.2.1 bt301.2.2.2.2.2.1 bt301.2.2.2.2.2.2).bind fun t331 => (F4.j0 k l0 (!t331) bt301.1 bt301.2.1 bt301.2.2.1 bt301.2.2.2.1 bt301.2.2.2.2.1 bt301.2.2.2.2.2.1 bt301.2.2.2.2.2.2 bt314.1 bt314.2.1 bt314.2.2.1 bt314.2.2.2.1 bt314.2.2.2.2.1 bt314.2.2.2.2.2.1 bt314.2.2.2.2.2.2)))) else (some false)))) else (some false))))))))
theorem F4.mono_l : ∀ k, (∀ y0 y1 y2 y3 y4 y5 y6 y7 y8 y9 y10 y11 y12 y13 y14 y15, LeO (F4.j0 k y0 y1 y2 y3 y4 y5 y6 y7 y8 y9 y10 y11 y12 y13 y14 y15) (F4.j0 (k + 1) y0 y1 y2 y3 y4 y5 y6 y7 y8 y9 y10 y11 y12 y13 y14 y15))
 | 0 => fun _ _ _ _ _ _ _ _ _ _ _ _ _ _ _ _ r h => by simp [F4.j0] at h
 | k + 1 => by
  have ih0 := F4.mono_l k
  intro y0 y1 y2 y3 y4 y5 y6 y7 y8 y9 y10 y11 y12 y13 y14 y15
  unfold F4.j0
  repeat' with_reducible first | exact ih0 _ _ _ _ _ _ _ _ _ _ _ _ _ _ _ _ | exact F14.mono _ _ | exact F15.mono _ _ _ _ _ _ _ _ _ _ _ _ _ _ _ | exact F16.mono _ _ _ | exact F19.mono _ _ _ _ _ _ _ _ _ | exact F18.mono _ _ _ _ _ _ _ _ _ | exact F17.mono _ _ _ | exact F11.mono _ _ _ | exact F13.mono _ _ | exact F12.mono _ _ | exact LeO.refl _ | exact LeO.none _ | refine LeO.ite ?_ ?_ | refine LeO.bind ?_ (fun _ => ?_)
theorem F4.mono : ∀ a0 k, LeO (F4.f k a0) (F4.f (k + 1) a0) := by
 intro a0 k
 have ih0 := F4.mono_l k
 unfold F4.f
 repeat' with_reducible first | exact ih0 _ _ _ _ _ _ _ _ _ _ _ _ _ _ _ _ | exact F14.mono _ _ | exact F15.mono _ _ _ _ _ _ _ _ _ _ _ _ _ _ _ | exact F16.mono _ _ _ | exact F19.mono _ _ _ _ _ _ _ _ _ | exact F18.mono _ _ _ _ _ _ _ _ _ | exact F17.mono _ _ _ | exact F11.mono _ _ _ | exact F13.mono _ _ | exact F12.mono _ _ | exact LeO.refl _ | exact LeO.none _ | refine LeO.ite ?_ ?_ | refine LeO.bind ?_ (fun _ => ?_)
theorem F4.calls (k : Nat) (A0 : Option Addr) (c0 : Nat) (l0 : List (S63)) (r : Bool) (w : World) (hr0 : Kd.C k63 w A0 l0.length l0) (hc0 : l0.length ≤ c0) (hT : LaidT true Tryd.prog w) (h : F4.f k l0 = some r) :
  Calls Tryd.prog 4 #[.slice A0 l0.length c0] w fun e w' => e = .returned (.bool r) ∧ Below w.heap.size w w' := by
 have hu36 := Tryd.underlying36
 have HR0 := am_ hr0
 have HC0 := am_ hc0
 clear hr0 hc0
 have HZT := am_ hT
 clear hT
 have HB := am_ (Below.refl w.heap.size w)
 have H : ((F11.f k l0 1048576).bind fun t297 => (if t297 < 0 then (some true) else ((F13.f k l0).bind fun t298 => ((F12.f k t298).bind fun bt301 => ((F13.f k l0).bind fun t311 => ((F14.f k t311).bind fun bt314 => ((F15.f k bt314.1 bt314.2.1 bt314.2.2.1 bt314.2.2.2.1 bt314.2.2.2.2.1 bt314.2.2.2.2.2.1 bt314.2.2.2.2.2.2 bt301.1 bt301.2.1 bt301.2.2.1 bt301.2.2.2.1 bt301.2.2.2.2.1 bt301.2.2.2.2.2.1 bt301.2.2.2.2.2.2).bind fun t324 => (if t324 = true then ((F13.f k l0).bind fun t325 => ((F16.f k t311 t325).bind fun t328 => (if t328 = true then ((F17.f k t311 1).bind fun bt329 => (if bt329.1 < 0 then (F4.j0 k l0 true bt301.1 bt301.2.1 bt301.2.2.1 bt301.2.2.2.1 bt301.2.2.2.2.1 bt301.2.2.2.2.2.1 bt301.2.2.2.2.2.2 bt314.1 bt314.2.1 bt314.2.2.1 bt314.2.2.2.1 bt314.2.2.2.2.1 bt314.2.2.2.2.2.1 bt314.2.2.2.2.2.2) else ((F15.f k bt314.1 bt314.2.1 bt314.2.2.1 bt314.2.2.2.1 bt314.2.2.2.2.1 bt314.2.2.2.2.2.1 bt314.2.2.2.2.2.2 bt301.1 bt301.2.1 bt301.2.2.1 bt301.2.2.2.1 bt301.2.2.2.2.1 bt301.2.2.2.2.2.1 bt301.2.2.2.2.2.2).bind fun t331 => (F4.j0 k l0 (!t331) bt301.1 bt301.2.1 bt301.2.2.1 bt301.2.2.2.1 bt301.2.2.2.2.1 bt301.2.2.2.2.2.1 bt301.2.2.2.2.2.2 bt314.1 bt314.2.1 bt314.2.2.1 bt314.2.2.2.1 bt314.2.2.2.2.1 bt314.2.2.2.2.2.1 bt314.2.2.2.2.2.2)))) else (some false)))) else (some false))))))))) = some r := h
 clear h
 replace H := bi_ H; rcases H with ⟨t297, A2, H⟩
 replace H := it_ H; rcases H with ⟨c3b0, H⟩ | ⟨c3b0, H⟩
 ·obtain rfl := Option.some.inj H
  go_enter Tryd.func4, Tryd.ntmps4
  go_wp2_with (first | (go_at_call 11; (with_reducible refine (F11.calls k _ _ l0 1048576 t297 _ ?s1 ?s2 A2.out).mono ?_); (case s1 => exact au4_38); (case s2 => exact HC0.out); rintro e w4 ⟨rfl, hb⟩; (try clear A2); replace HB := hs_ w hb; (try clear hb)))
  go_ret
  exact ⟨au4_1, bl_⟩
 replace H := bi_ H; rcases H with ⟨t298, A5, H⟩
 replace H := bi_ H; rcases H with ⟨⟨t301, t302, t303, t304, t307, t308, t309⟩, A6, H⟩
 replace H := bi_ H; rcases H with ⟨t311, A7, H⟩
 replace H := bi_ H; rcases H with ⟨⟨t314, t315, t316, t317, t320, t321, t322⟩, A8, H⟩
 replace H := bi_ H; rcases H with ⟨t324, A9, H⟩
 replace H := ib_ H; rcases H with ⟨rfl, H⟩ | ⟨rfl, H⟩
 rotate_left
 ·obtain rfl := Option.some.inj H
  go_enter Tryd.func4, Tryd.ntmps4
  go_wp2_with (first | (go_at_call 11; (with_reducible refine (F11.calls k _ _ l0 1048576 t297 _ ?s1 ?s2 A2.out).mono ?_); (case s1 => exact au4_38); (case s2 => exact HC0.out); rintro e w149 ⟨rfl, hb⟩; (try clear A2); replace HB := hs_ w hb; (try clear hb)) | (go_at_call 13; (with_reducible refine (F13.calls k _ _ l0 t298 _ ?s1 ?s2 A5.out).mono ?_); (case s1 => exact au4_8); (case s2 => exact HC0.out); rintro e w150 ⟨v299, rfl, ho0, hb⟩; (try clear A5); obtain ⟨b9_19, hb9_19, ho9_19⟩ := nb9_ ho0; have HO300 := am_ (Kd.S_lower ho9_19 (below_size bl_)); replace HB := hs_ w hb; (try clear hb); (try clear ho0); obtain ⟨Ao151, co151, eo151⟩ := Kd.S_slice HO300.out; subst eo151) | (go_at_call 12; (with_reducible refine (F12.calls k _ _ t298 t301 t302 t303 t304 t307 t308 t309 _ ?s1 ?s2 A6.out).mono ?_); (case s1 => exact au4_42); (case s2 => exact (Kd.S_reads' HO300.out).2.1); rintro e w152 ⟨v305, rfl, ho0, hb⟩; (try clear A6); obtain ⟨b9_20, hb9_20, ho9_20⟩ := nb9_ ho0; have HO306 := am_ (Kd.S_lower (Kd.S_new' ho9_20 (Kd.S_lt au4_2)) (below_size bl_)); replace HO300 := am_ (Kd.S_below (Kd.S_mono (Kd.S_bound (ok := fun k_ => b9_19 ≤ k_) au4_2) (fun k_ hk_ => (⟨hb9_20 _ hk_.2.2.1, hk_.1⟩ : k_ < b9_20 ∧ _))) hb); replace HB := hs_ w hb; (try clear hb); (try clear hb2); (try clear hk); (try clear hi); (try clear ho0)) | ((with_reducible refine gate_dst (N := 4) rfl ?_); refine be_ 4 #[.string (⟨#[]⟩ : ByteArray), .string (⟨#[]⟩ : ByteArray), .int .i64 0, .slice none 0 0, .bool false, .int .i64 0, .int .i64 0] 36 ?_; intro gb310 hg w153 hbox hb; replace HO300 := am_ (Kd.S_below au4_2 hb); replace HO306 := am_ (Kd.S_below au4_4 hb); have BK310 := am_ (hbox); have GW310 := am_ (gw_ hg bl_); have GE310 := GW310; replace HB := hs_ w hb; clear hb hbox hg; obtain ⟨hcz154_0, hcz154_1, hcz154_2, hcz154_3, hcz154_4, hcz154_5, hcz154_6, hfz154_0, hfz154_1, hfz154_2, hfz154_3, hfz154_4, hfz154_5, hfz154_6⟩ := cellsF7 BK310.out; obtain ⟨Ao155, co155, eo155⟩ := Kd.S_slice HO306.out; subst eo155) | (go_at_call 13; (with_reducible refine (F13.calls k _ _ l0 t311 _ ?s1 ?s2 A7.out).mono ?_); (case s1 => exact Kd.C_below HR0.out bl_); (case s2 => exact HC0.out); rintro e w156 ⟨v312, rfl, ho0, hb⟩; (try clear A7); obtain ⟨b9_21, hb9_21, ho9_21⟩ := nb9_ ho0; replace HO306 := am_ (Kd.S_elder' (Kd.S_mono (Kd.S_bound (ok := fun k_ => (b9_20 ≤ k_ ∧ some k_ ≠ (.slice Ao151 t298.length co151 : Value).ownBlock)) (by (with_reducible repeat (first | apply Kd.S_alloc | apply Kd.S_drewN | apply Kd.S_drew)); exact (Kd.S_mono (Kd.S_far (p := ⟨gb310, 6, none⟩) (Kd.S_far (p := ⟨gb310, 5, none⟩) (Kd.S_far (p := ⟨gb310, 4, none⟩) (Kd.S_far (p := ⟨gb310, 3, none⟩) (Kd.S_far (p := ⟨gb310, 2, none⟩) (Kd.S_far (p := ⟨gb310, 1, none⟩) (Kd.S_far (p := ⟨gb310, 0, none⟩) (Kd.S_types HO306.out BK310.out (by decide)) (fun _ hk => hk.2) (.string t301)) (fun _ hk => hk.2) (.string t302)) (fun _ hk => hk.2) (.int .i64 t303)) (fun _ hk => hk.2) (.slice Ao155 t304.length co155)) (fun _ hk => hk.2) (.bool t307)) (fun _ hk => hk.2) (.int .i64 t308)) (fun _ hk => hk.2) (.int .i64 t309)) (fun _ h_ => h_.1)))) (fun k_ hk_ => (⟨hb9_21 _ hk_.2.2.1, hk_.1⟩ : k_ < b9_21 ∧ _))) (Kd.S_base ho0) hb); have HO313 := am_ (Kd.S_lower (Kd.S_new' ho9_21 (Kd.S_lt au4_24)) (below_size bl_)); replace HO300 := am_ (Kd.S_elder' (Kd.S_mono (Kd.S_bound (ok := fun k_ => (k_ < b9_20 ∧ b9_19 ≤ k_)) au4_24) (fun k_ hk_ => (⟨hb9_21 _ hk_.2.2.1, hk_.1⟩ : k_ < b9_21 ∧ _))) (Kd.S_base ho0) hb); replace BK310 := am_ (blk_below (g := gb310) (o := .cells #[.string t301, .string t302, .int .i64 t303, .slice Ao155 t304.length co155, .bool t307, .int .i64 t308, .int .i64 t309] 36 (0, 0)) (bq_ BK310) hb); replace HB := hs_ w hb; (try clear hb); (try clear hb2); (try clear hk); (try clear hi); (try clear ho0); obtain ⟨Ao157, co157, eo157⟩ := Kd.S_slice HO313.out; subst eo157) | (go_at_call 14; (with_reducible refine (F14.calls k _ _ t311 t314 t315 t316 t317 t320 t321 t322 _ ?s1 ?s2 ?s3 A8.out).mono ?_); (case s1 => exact au4_32); (case s2 => exact au4_55); (case s3 => exact au4_41); rintro e w158 ⟨v318, rfl, ho0, hb⟩; (try clear A8); obtain ⟨b9_22, hb9_22, ho9_22⟩ := nb9_ ho0; have HO319 := am_ (Kd.S_lower (Kd.S_new' (Kd.S_new' (Kd.S_new' ho9_22 (Kd.S_lt au4_2)) (Kd.S_lt au4_4)) (Kd.S_lt au4_5)) (below_size bl_)); replace HO300 := am_ (Kd.S_below (Kd.S_mono (Kd.S_bound (ok := fun k_ => ((k_ < b9_21 ∧ (k_ < b9_20 ∧ b9_19 ≤ k_)) ∧ some k_ ≠ (.slice Ao157 t311.length co157 : Value).ownBlock)) au4_2) (fun k_ hk_ => (⟨hb9_22 _ hk_.2.2.1, hk_.1⟩ : k_ < b9_22 ∧ _))) hb); replace HO306 := am_ (Kd.S_elder' (Kd.S_mono (Kd.S_bound (ok := fun k_ => ((k_ < b9_21 ∧ (b9_20 ≤ k_ ∧ some k_ ≠ (.slice Ao151 t298.length co151 : Value).ownBlock)) ∧ some k_ ≠ (.slice Ao157 t311.length co157 : Value).ownBlock)) au4_4) (fun k_ hk_ => (⟨hb9_22 _ hk_.2.2.1, hk_.1⟩ : k_ < b9_22 ∧ _))) (Kd.S_base ho0) hb); replace HO313 := am_ (Kd.S_below (Kd.S_mono (Kd.S_bound (ok := fun k_ => (b9_21 ≤ k_ ∧ some k_ ≠ (.slice Ao151 t298.length co151 : Value).ownBlock)) au4_5) (fun k_ hk_ => (⟨hb9_22 _ hk_.2.2.1, hk_.1⟩ : k_ < b9_22 ∧ _))) hb); replace BK310 := bb_ BK310 hb; replace HB := hs_ w hb; (try clear hb); (try clear hb2); (try clear hk); (try clear hi); (try clear ho0)) | ((with_reducible refine gate_dst (N := 6) rfl ?_); refine be_ 6 #[.string (⟨#[]⟩ : ByteArray), .string (⟨#[]⟩ : ByteArray), .int .i64 0, .slice none 0 0, .bool false, .int .i64 0, .int .i64 0] 36 ?_; intro gb323 hg w159 hbox hb; replace HO300 := am_ (Kd.S_below au4_2 hb); replace HO306 := am_ (Kd.S_below au4_4 hb); replace HO313 := am_ (Kd.S_below au4_5 hb); replace HO319 := am_ (Kd.S_below au4_12 hb); have BK323 := am_ (hbox); have GW323 := am_ (gw_ hg bl_); have GE323 := GW323; replace HB := hs_ w hb; have NB310_323 := am_ (gn_ hg (blkl_ BK310)); have NB323_310 := am_ (gm_ hg (blkl_ BK310)); replace BK310 := bb_ BK310 hb; clear hb hbox hg; have hnb160 := NB323_310.out; have hnc160 := NB310_323.out; obtain ⟨hcz161_0, hcz161_1, hcz161_2, hcz161_3, hcz161_4, hcz161_5, hcz161_6, hfz161_0, hfz161_1, hfz161_2, hfz161_3, hfz161_4, hfz161_5, hfz161_6⟩ := cellsF7 BK323.out; obtain ⟨Ao162, co162, eo162⟩ := Kd.S_slice HO319.out; subst eo162; obtain ⟨hcz163_0, hcz163_1, hcz163_2, hcz163_3, hcz163_4, hcz163_5, hcz163_6, hfz163_0, hfz163_1, hfz163_2, hfz163_3, hfz163_4, hfz163_5, hfz163_6⟩ := cellsF7 BK310.out) | (go_at_call 15; (with_reducible refine (F15.calls k t314 t315 t316 _ _ t317 t320 t321 t322 t301 t302 t303 _ _ t304 t307 t308 t309 false _ ?s1 ?s2 ?s3 ?s4 A9.out).mono ?_); (case s1 => refine (Kd.S_reads' (e := 83) (base := w.heap.size) (ok := fun k_ => (((b9_22 ≤ k_ ∧ some k_ ≠ (.slice Ao151 t298.length co151 : Value).ownBlock) ∧ some k_ ≠ (.slice Ao155 t304.length co155 : Value).ownBlock) ∧ some k_ ≠ (.slice Ao157 t311.length co157 : Value).ownBlock)) (n := t317.length) (c := co162) ?_).2.2; exact au4_25); (case s2 => exact au4_61); (case s3 => refine (Kd.S_reads' (e := 83) (base := w.heap.size) (ok := fun k_ => ((k_ < b9_22 ∧ ((k_ < b9_21 ∧ (b9_20 ≤ k_ ∧ some k_ ≠ (.slice Ao151 t298.length co151 : Value).ownBlock)) ∧ some k_ ≠ (.slice Ao157 t311.length co157 : Value).ownBlock)) ∧ some k_ ≠ (.slice Ao162 t317.length co162 : Value).ownBlock)) (n := t304.length) (c := co155) ?_).2.2; exact au4_26); (case s4 => exact au4_62); rintro e w164 ⟨rfl, hb⟩; (try clear A9); replace HO300 := am_ (Kd.S_below (by (with_reducible repeat (first | apply Kd.S_alloc | apply Kd.S_drewN | apply Kd.S_drew)); exact (Kd.S_mono (Kd.S_far (p := ⟨gb323, 6, none⟩) (Kd.S_far (p := ⟨gb323, 5, none⟩) (Kd.S_far (p := ⟨gb323, 4, none⟩) (Kd.S_far (p := ⟨gb323, 3, none⟩) (Kd.S_far (p := ⟨gb323, 2, none⟩) (Kd.S_far (p := ⟨gb323, 1, none⟩) (Kd.S_far (p := ⟨gb323, 0, none⟩) (Kd.S_types HO300.out BK323.out (by decide)) (fun _ hk => hk.2) (.string t314)) (fun _ hk => hk.2) (.string t315)) (fun _ hk => hk.2) (.int .i64 t316)) (fun _ hk => hk.2) (.slice Ao162 t317.length co162)) (fun _ hk => hk.2) (.bool t320)) (fun _ hk => hk.2) (.int .i64 t321)) (fun _ hk => hk.2) (.int .i64 t322)) (fun _ h_ => h_.1))) hb); replace HO306 := am_ (Kd.S_below au4_26 hb); replace HO313 := am_ (Kd.S_below (by (with_reducible repeat (first | apply Kd.S_alloc | apply Kd.S_drewN | apply Kd.S_drew)); exact (Kd.S_mono (Kd.S_far (p := ⟨gb323, 6, none⟩) (Kd.S_far (p := ⟨gb323, 5, none⟩) (Kd.S_far (p := ⟨gb323, 4, none⟩) (Kd.S_far (p := ⟨gb323, 3, none⟩) (Kd.S_far (p := ⟨gb323, 2, none⟩) (Kd.S_far (p := ⟨gb323, 1, none⟩) (Kd.S_far (p := ⟨gb323, 0, none⟩) (Kd.S_types HO313.out BK323.out (by decide)) (fun _ hk => hk.2) (.string t314)) (fun _ hk => hk.2) (.string t315)) (fun _ hk => hk.2) (.int .i64 t316)) (fun _ hk => hk.2) (.slice Ao162 t317.length co162)) (fun _ hk => hk.2) (.bool t320)) (fun _ hk => hk.2) (.int .i64 t321)) (fun _ hk => hk.2) (.int .i64 t322)) (fun _ h_ => h_.1))) hb); replace HO319 := am_ (Kd.S_below au4_25 hb); replace BK310 := am_ (blk_below (g := gb310) (o := .cells #[.string t301, .string t302, .int .i64 t303, .slice Ao155 t304.length co155, .bool t307, .int .i64 t308, .int .i64 t309] 36 (0, 0)) (bf_ BK310) hb); replace BK323 := am_ (blk_below (g := gb323) (o := .cells #[.string t314, .string t315, .int .i64 t316, .slice Ao162 t317.length co162, .bool t320, .int .i64 t321, .int .i64 t322] 36 (0, 0)) (bq_ BK323) hb); replace HB := hs_ w hb; (try clear hb); (try clear hb2); (try clear hk); (try clear hi)))
  go_ret
  exact ⟨au4_1, bl_⟩

 replace H := bi_ H; rcases H with ⟨t325, A11, H⟩
 replace H := bi_ H; rcases H with ⟨t328, A12, H⟩
 replace H := ib_ H; rcases H with ⟨rfl, H⟩ | ⟨rfl, H⟩
 rotate_left
 ·obtain rfl := Option.some.inj H
  go_enter Tryd.func4, Tryd.ntmps4
  go_wp2_with (first | (go_at_call 11; (with_reducible refine (F11.calls k _ _ l0 1048576 t297 _ ?s1 ?s2 A2.out).mono ?_); (case s1 => exact au4_38); (case s2 => exact HC0.out); rintro e w130 ⟨rfl, hb⟩; (try clear A2); replace HB := hs_ w hb; (try clear hb)) | (go_at_call 13; (with_reducible refine (F13.calls k _ _ l0 t298 _ ?s1 ?s2 A5.out).mono ?_); (case s1 => exact au4_8); (case s2 => exact HC0.out); rintro e w131 ⟨v299, rfl, ho0, hb⟩; (try clear A5); obtain ⟨b9_14, hb9_14, ho9_14⟩ := nb9_ ho0; have HO300 := am_ (Kd.S_lower ho9_14 (below_size bl_)); replace HB := hs_ w hb; (try clear hb); (try clear ho0); obtain ⟨Ao132, co132, eo132⟩ := Kd.S_slice HO300.out; subst eo132) | (go_at_call 12; (with_reducible refine (F12.calls k _ _ t298 t301 t302 t303 t304 t307 t308 t309 _ ?s1 ?s2 A6.out).mono ?_); (case s1 => exact au4_42); (case s2 => exact (Kd.S_reads' HO300.out).2.1); rintro e w133 ⟨v305, rfl, ho0, hb⟩; (try clear A6); obtain ⟨b9_15, hb9_15, ho9_15⟩ := nb9_ ho0; have HO306 := am_ (Kd.S_lower (Kd.S_new' ho9_15 (Kd.S_lt au4_2)) (below_size bl_)); replace HO300 := am_ (Kd.S_below (Kd.S_mono (Kd.S_bound (ok := fun k_ => b9_14 ≤ k_) au4_2) (fun k_ hk_ => (⟨hb9_15 _ hk_.2.2.1, hk_.1⟩ : k_ < b9_15 ∧ _))) hb); replace HB := hs_ w hb; (try clear hb); (try clear hb2); (try clear hk); (try clear hi); (try clear ho0)) | ((with_reducible refine gate_dst (N := 4) rfl ?_); refine be_ 4 #[.string (⟨#[]⟩ : ByteArray), .string (⟨#[]⟩ : ByteArray), .int .i64 0, .slice none 0 0, .bool false, .int .i64 0, .int .i64 0] 36 ?_; intro gb310 hg w134 hbox hb; replace HO300 := am_ (Kd.S_below au4_2 hb); replace HO306 := am_ (Kd.S_below au4_4 hb); have BK310 := am_ (hbox); have GW310 := am_ (gw_ hg bl_); have GE310 := GW310; replace HB := hs_ w hb; clear hb hbox hg; obtain ⟨hcz135_0, hcz135_1, hcz135_2, hcz135_3, hcz135_4, hcz135_5, hcz135_6, hfz135_0, hfz135_1, hfz135_2, hfz135_3, hfz135_4, hfz135_5, hfz135_6⟩ := cellsF7 BK310.out; obtain ⟨Ao136, co136, eo136⟩ := Kd.S_slice HO306.out; subst eo136) | (go_at_call 13; (with_reducible refine (F13.calls k _ _ l0 t311 _ ?s1 ?s2 A7.out).mono ?_); (case s1 => exact Kd.C_below HR0.out bl_); (case s2 => exact HC0.out); rintro e w137 ⟨v312, rfl, ho0, hb⟩; (try clear A7); obtain ⟨b9_16, hb9_16, ho9_16⟩ := nb9_ ho0; replace HO306 := am_ (Kd.S_elder' (Kd.S_mono (Kd.S_bound (ok := fun k_ => (b9_15 ≤ k_ ∧ some k_ ≠ (.slice Ao132 t298.length co132 : Value).ownBlock)) (by (with_reducible repeat (first | apply Kd.S_alloc | apply Kd.S_drewN | apply Kd.S_drew)); exact (Kd.S_mono (Kd.S_far (p := ⟨gb310, 6, none⟩) (Kd.S_far (p := ⟨gb310, 5, none⟩) (Kd.S_far (p := ⟨gb310, 4, none⟩) (Kd.S_far (p := ⟨gb310, 3, none⟩) (Kd.S_far (p := ⟨gb310, 2, none⟩) (Kd.S_far (p := ⟨gb310, 1, none⟩) (Kd.S_far (p := ⟨gb310, 0, none⟩) (Kd.S_types HO306.out BK310.out (by decide)) (fun _ hk => hk.2) (.string t301)) (fun _ hk => hk.2) (.string t302)) (fun _ hk => hk.2) (.int .i64 t303)) (fun _ hk => hk.2) (.slice Ao136 t304.length co136)) (fun _ hk => hk.2) (.bool t307)) (fun _ hk => hk.2) (.int .i64 t308)) (fun _ hk => hk.2) (.int .i64 t309)) (fun _ h_ => h_.1)))) (fun k_ hk_ => (⟨hb9_16 _ hk_.2.2.1, hk_.1⟩ : k_ < b9_16 ∧ _))) (Kd.S_base ho0) hb); have HO313 := am_ (Kd.S_lower (Kd.S_new' ho9_16 (Kd.S_lt au4_21)) (below_size bl_)); replace HO300 := am_ (Kd.S_elder' (Kd.S_mono (Kd.S_bound (ok := fun k_ => (k_ < b9_15 ∧ b9_14 ≤ k_)) au4_21) (fun k_ hk_ => (⟨hb9_16 _ hk_.2.2.1, hk_.1⟩ : k_ < b9_16 ∧ _))) (Kd.S_base ho0) hb); replace BK310 := am_ (blk_below (g := gb310) (o := .cells #[.string t301, .string t302, .int .i64 t303, .slice Ao136 t304.length co136, .bool t307, .int .i64 t308, .int .i64 t309] 36 (0, 0)) (bq_ BK310) hb); replace HB := hs_ w hb; (try clear hb); (try clear hb2); (try clear hk); (try clear hi); (try clear ho0); obtain ⟨Ao138, co138, eo138⟩ := Kd.S_slice HO313.out; subst eo138) | (go_at_call 14; (with_reducible refine (F14.calls k _ _ t311 t314 t315 t316 t317 t320 t321 t322 _ ?s1 ?s2 ?s3 A8.out).mono ?_); (case s1 => exact au4_32); (case s2 => exact au4_55); (case s3 => exact au4_41); rintro e w139 ⟨v318, rfl, ho0, hb⟩; (try clear A8); obtain ⟨b9_17, hb9_17, ho9_17⟩ := nb9_ ho0; have HO319 := am_ (Kd.S_lower (Kd.S_new' (Kd.S_new' (Kd.S_new' ho9_17 (Kd.S_lt au4_2)) (Kd.S_lt au4_4)) (Kd.S_lt au4_5)) (below_size bl_)); replace HO300 := am_ (Kd.S_below (Kd.S_mono (Kd.S_bound (ok := fun k_ => ((k_ < b9_16 ∧ (k_ < b9_15 ∧ b9_14 ≤ k_)) ∧ some k_ ≠ (.slice Ao138 t311.length co138 : Value).ownBlock)) au4_2) (fun k_ hk_ => (⟨hb9_17 _ hk_.2.2.1, hk_.1⟩ : k_ < b9_17 ∧ _))) hb); replace HO306 := am_ (Kd.S_elder' (Kd.S_mono (Kd.S_bound (ok := fun k_ => ((k_ < b9_16 ∧ (b9_15 ≤ k_ ∧ some k_ ≠ (.slice Ao132 t298.length co132 : Value).ownBlock)) ∧ some k_ ≠ (.slice Ao138 t311.length co138 : Value).ownBlock)) au4_4) (fun k_ hk_ => (⟨hb9_17 _ hk_.2.2.1, hk_.1⟩ : k_ < b9_17 ∧ _))) (Kd.S_base ho0) hb); replace HO313 := am_ (Kd.S_below (Kd.S_mono (Kd.S_bound (ok := fun k_ => (b9_16 ≤ k_ ∧ some k_ ≠ (.slice Ao132 t298.length co132 : Value).ownBlock)) au4_5) (fun k_ hk_ => (⟨hb9_17 _ hk_.2.2.1, hk_.1⟩ : k_ < b9_17 ∧ _))) hb); replace BK310 := bb_ BK310 hb; replace HB := hs_ w hb; (try clear hb); (try clear hb2); (try clear hk); (try clear hi); (try clear ho0)) | ((with_reducible refine gate_dst (N := 6) rfl ?_); refine be_ 6 #[.string (⟨#[]⟩ : ByteArray), .string (⟨#[]⟩ : ByteArray), .int .i64 0, .slice none 0 0, .bool false, .int .i64 0, .int .i64 0] 36 ?_; intro gb323 hg w140 hbox hb; replace HO300 := am_ (Kd.S_below au4_2 hb); replace HO306 := am_ (Kd.S_below au4_4 hb); replace HO313 := am_ (Kd.S_below au4_5 hb); replace HO319 := am_ (Kd.S_below au4_12 hb); have BK323 := am_ (hbox); have GW323 := am_ (gw_ hg bl_); have GE323 := GW323; replace HB := hs_ w hb; have NB310_323 := am_ (gn_ hg (blkl_ BK310)); have NB323_310 := am_ (gm_ hg (blkl_ BK310)); replace BK310 := bb_ BK310 hb; clear hb hbox hg; have hnb141 := NB323_310.out; have hnc141 := NB310_323.out; obtain ⟨hcz142_0, hcz142_1, hcz142_2, hcz142_3, hcz142_4, hcz142_5, hcz142_6, hfz142_0, hfz142_1, hfz142_2, hfz142_3, hfz142_4, hfz142_5, hfz142_6⟩ := cellsF7 BK323.out; obtain ⟨Ao143, co143, eo143⟩ := Kd.S_slice HO319.out; subst eo143; obtain ⟨hcz144_0, hcz144_1, hcz144_2, hcz144_3, hcz144_4, hcz144_5, hcz144_6, hfz144_0, hfz144_1, hfz144_2, hfz144_3, hfz144_4, hfz144_5, hfz144_6⟩ := cellsF7 BK310.out) | (go_at_call 15; (with_reducible refine (F15.calls k t314 t315 t316 _ _ t317 t320 t321 t322 t301 t302 t303 _ _ t304 t307 t308 t309 true _ ?s1 ?s2 ?s3 ?s4 A9.out).mono ?_); (case s1 => refine (Kd.S_reads' (e := 83) (base := w.heap.size) (ok := fun k_ => (((b9_17 ≤ k_ ∧ some k_ ≠ (.slice Ao132 t298.length co132 : Value).ownBlock) ∧ some k_ ≠ (.slice Ao136 t304.length co136 : Value).ownBlock) ∧ some k_ ≠ (.slice Ao138 t311.length co138 : Value).ownBlock)) (n := t317.length) (c := co143) ?_).2.2; exact au4_22); (case s2 => exact au4_61); (case s3 => refine (Kd.S_reads' (e := 83) (base := w.heap.size) (ok := fun k_ => ((k_ < b9_17 ∧ ((k_ < b9_16 ∧ (b9_15 ≤ k_ ∧ some k_ ≠ (.slice Ao132 t298.length co132 : Value).ownBlock)) ∧ some k_ ≠ (.slice Ao138 t311.length co138 : Value).ownBlock)) ∧ some k_ ≠ (.slice Ao143 t317.length co143 : Value).ownBlock)) (n := t304.length) (c := co136) ?_).2.2; exact au4_23); (case s4 => exact au4_62); rintro e w145 ⟨rfl, hb⟩; (try clear A9); replace HO300 := am_ (Kd.S_below (by (with_reducible repeat (first | apply Kd.S_alloc | apply Kd.S_drewN | apply Kd.S_drew)); exact (Kd.S_mono (Kd.S_far (p := ⟨gb323, 6, none⟩) (Kd.S_far (p := ⟨gb323, 5, none⟩) (Kd.S_far (p := ⟨gb323, 4, none⟩) (Kd.S_far (p := ⟨gb323, 3, none⟩) (Kd.S_far (p := ⟨gb323, 2, none⟩) (Kd.S_far (p := ⟨gb323, 1, none⟩) (Kd.S_far (p := ⟨gb323, 0, none⟩) (Kd.S_types HO300.out BK323.out (by decide)) (fun _ hk => hk.2) (.string t314)) (fun _ hk => hk.2) (.string t315)) (fun _ hk => hk.2) (.int .i64 t316)) (fun _ hk => hk.2) (.slice Ao143 t317.length co143)) (fun _ hk => hk.2) (.bool t320)) (fun _ hk => hk.2) (.int .i64 t321)) (fun _ hk => hk.2) (.int .i64 t322)) (fun _ h_ => h_.1))) hb); replace HO306 := am_ (Kd.S_below au4_23 hb); replace HO313 := am_ (Kd.S_below (by (with_reducible repeat (first | apply Kd.S_alloc | apply Kd.S_drewN | apply Kd.S_drew)); exact (Kd.S_mono (Kd.S_far (p := ⟨gb323, 6, none⟩) (Kd.S_far (p := ⟨gb323, 5, none⟩) (Kd.S_far (p := ⟨gb323, 4, none⟩) (Kd.S_far (p := ⟨gb323, 3, none⟩) (Kd.S_far (p := ⟨gb323, 2, none⟩) (Kd.S_far (p := ⟨gb323, 1, none⟩) (Kd.S_far (p := ⟨gb323, 0, none⟩) (Kd.S_types HO313.out BK323.out (by decide)) (fun _ hk => hk.2) (.string t314)) (fun _ hk => hk.2) (.string t315)) (fun _ hk => hk.2) (.int .i64 t316)) (fun _ hk => hk.2) (.slice Ao143 t317.length co143)) (fun _ hk => hk.2) (.bool t320)) (fun _ hk => hk.2) (.int .i64 t321)) (fun _ hk => hk.2) (.int .i64 t322)) (fun _ h_ => h_.1))) hb); replace HO319 := am_ (Kd.S_below au4_22 hb); replace BK310 := am_ (blk_below (g := gb310) (o := .cells #[.string t301, .string t302, .int .i64 t303, .slice Ao136 t304.length co136, .bool t307, .int .i64 t308, .int .i64 t309] 36 (0, 0)) (bf_ BK310) hb); replace BK323 := am_ (blk_below (g := gb323) (o := .cells #[.string t314, .string t315, .int .i64 t316, .slice Ao143 t317.length co143, .bool t320, .int .i64 t321, .int .i64 t322] 36 (0, 0)) (bq_ BK323) hb); replace HB := hs_ w hb; (try clear hb); (try clear hb2); (try clear hk); (try clear hi)) | (go_at_call 13; (with_reducible refine (F13.calls k _ _ l0 t325 _ ?s1 ?s2 A11.out).mono ?_); (case s1 => exact au4_8); (case s2 => exact HC0.out); rintro e w146 ⟨v326, rfl, ho0, hb⟩; (try clear A11); obtain ⟨b9_18, hb9_18, ho9_18⟩ := nb9_ ho0; replace HO306 := am_ (Kd.S_elder' (Kd.S_mono (Kd.S_bound (ok := fun k_ => ((k_ < b9_17 ∧ ((k_ < b9_16 ∧ (b9_15 ≤ k_ ∧ some k_ ≠ (.slice Ao132 t298.length co132 : Value).ownBlock)) ∧ some k_ ≠ (.slice Ao138 t311.length co138 : Value).ownBlock)) ∧ some k_ ≠ (.slice Ao143 t317.length co143 : Value).ownBlock)) au4_4) (fun k_ hk_ => (⟨hb9_18 _ hk_.2.2.1, hk_.1⟩ : k_ < b9_18 ∧ _))) (Kd.S_base ho0) hb); replace HO319 := am_ (Kd.S_elder' (Kd.S_mono (Kd.S_bound (ok := fun k_ => (((b9_17 ≤ k_ ∧ some k_ ≠ (.slice Ao132 t298.length co132 : Value).ownBlock) ∧ some k_ ≠ (.slice Ao136 t304.length co136 : Value).ownBlock) ∧ some k_ ≠ (.slice Ao138 t311.length co138 : Value).ownBlock)) au4_12) (fun k_ hk_ => (⟨hb9_18 _ hk_.2.2.1, hk_.1⟩ : k_ < b9_18 ∧ _))) (Kd.S_base ho0) hb); have HO327 := am_ (Kd.S_lower (Kd.S_new' (Kd.S_new' ho9_18 (Kd.S_lt au4_2)) (Kd.S_lt au4_5)) (below_size bl_)); replace HO300 := am_ (Kd.S_elder' (Kd.S_mono (Kd.S_bound (ok := fun k_ => (k_ < b9_17 ∧ ((k_ < b9_16 ∧ (k_ < b9_15 ∧ b9_14 ≤ k_)) ∧ some k_ ≠ (.slice Ao138 t311.length co138 : Value).ownBlock))) au4_2) (fun k_ hk_ => (⟨hb9_18 _ hk_.2.2.1, hk_.1⟩ : k_ < b9_18 ∧ _))) (Kd.S_base ho0) hb); replace HO313 := am_ (Kd.S_elder' (Kd.S_mono (Kd.S_bound (ok := fun k_ => (k_ < b9_17 ∧ (b9_16 ≤ k_ ∧ some k_ ≠ (.slice Ao132 t298.length co132 : Value).ownBlock))) au4_5) (fun k_ hk_ => (⟨hb9_18 _ hk_.2.2.1, hk_.1⟩ : k_ < b9_18 ∧ _))) (Kd.S_base ho0) hb); replace BK310 := bb_ BK310 hb; replace BK323 := bb_ BK323 hb; replace HB := hs_ w hb; (try clear hb); (try clear hb2); (try clear hk); (try clear hi); (try clear ho0); obtain ⟨Ao147, co147, eo147⟩ := Kd.S_slice HO327.out; subst eo147) | (go_at_call 16; (with_reducible refine (F16.calls k _ _ t311 _ _ t325 false _ ?s1 ?s2 ?s3 ?s4 A12.out).mono ?_); (case s1 => exact au4_32); (case s2 => exact au4_55); (case s3 => exact au4_50); (case s4 => exact (Kd.S_reads' HO327.out).2.1); rintro e w148 ⟨rfl, hb⟩; (try clear A12); replace HO300 := am_ (Kd.S_below au4_2 hb); replace HO306 := am_ (Kd.S_below au4_4 hb); replace HO313 := am_ (Kd.S_below au4_5 hb); replace HO319 := am_ (Kd.S_below au4_12 hb); replace HO327 := am_ (Kd.S_below au4_39 hb); replace BK310 := bb_ BK310 hb; replace BK323 := bb_ BK323 hb; replace HB := hs_ w hb; (try clear hb); (try clear hb2); (try clear hk); (try clear hi)))
  go_ret
  exact ⟨au4_1, bl_⟩
 replace H := bi_ H; rcases H with ⟨⟨t329, t330⟩, A14, H⟩
 have HC15 := am_ H
 clear H
 go_enter Tryd.func4, Tryd.ntmps4
 go_upto_region 14 with (first | (go_at_call 11; (with_reducible refine (F11.calls k _ _ l0 1048576 t297 _ ?s1 ?s2 A2.out).mono ?_); (case s1 => exact au4_38); (case s2 => exact HC0.out); rintro e w16 ⟨rfl, hb⟩; (try clear A2); replace HB := hs_ w hb; (try clear hb)) | (go_at_call 13; (with_reducible refine (F13.calls k _ _ l0 t298 _ ?s1 ?s2 A5.out).mono ?_); (case s1 => exact au4_8); (case s2 => exact HC0.out); rintro e w17 ⟨v299, rfl, ho0, hb⟩; (try clear A5); obtain ⟨b9_1, hb9_1, ho9_1⟩ := nb9_ ho0; have HO300 := am_ (Kd.S_lower ho9_1 (below_size bl_)); replace HB := hs_ w hb; (try clear hb); (try clear ho0); obtain ⟨Ao18, co18, eo18⟩ := Kd.S_slice HO300.out; subst eo18) | (go_at_call 12; (with_reducible refine (F12.calls k _ _ t298 t301 t302 t303 t304 t307 t308 t309 _ ?s1 ?s2 A6.out).mono ?_); (case s1 => exact au4_42); (case s2 => exact (Kd.S_reads' HO300.out).2.1); rintro e w19 ⟨v305, rfl, ho0, hb⟩; (try clear A6); obtain ⟨b9_2, hb9_2, ho9_2⟩ := nb9_ ho0; have HO306 := am_ (Kd.S_lower (Kd.S_new' ho9_2 (Kd.S_lt au4_2)) (below_size bl_)); replace HO300 := am_ (Kd.S_below (Kd.S_mono (Kd.S_bound (ok := fun k_ => b9_1 ≤ k_) au4_2) (fun k_ hk_ => (⟨hb9_2 _ hk_.2.2.1, hk_.1⟩ : k_ < b9_2 ∧ _))) hb); replace HB := hs_ w hb; (try clear hb); (try clear hb2); (try clear hk); (try clear hi); (try clear ho0)) | ((with_reducible refine gate_dst (N := 4) rfl ?_); refine be_ 4 #[.string (⟨#[]⟩ : ByteArray), .string (⟨#[]⟩ : ByteArray), .int .i64 0, .slice none 0 0, .bool false, .int .i64 0, .int .i64 0] 36 ?_; intro gb310 hg w20 hbox hb; replace HO300 := am_ (Kd.S_below au4_2 hb); replace HO306 := am_ (Kd.S_below au4_4 hb); have BK310 := am_ (hbox); have GW310 := am_ (gw_ hg bl_); have GE310 := GW310; replace HB := hs_ w hb; clear hb hbox hg; obtain ⟨hcz21_0, hcz21_1, hcz21_2, hcz21_3, hcz21_4, hcz21_5, hcz21_6, hfz21_0, hfz21_1, hfz21_2, hfz21_3, hfz21_4, hfz21_5, hfz21_6⟩ := cellsF7 BK310.out; obtain ⟨Ao22, co22, eo22⟩ := Kd.S_slice HO306.out; subst eo22) | (go_at_call 13; (with_reducible refine (F13.calls k _ _ l0 t311 _ ?s1 ?s2 A7.out).mono ?_); (case s1 => exact Kd.C_below HR0.out bl_); (case s2 => exact HC0.out); rintro e w23 ⟨v312, rfl, ho0, hb⟩; (try clear A7); obtain ⟨b9_3, hb9_3, ho9_3⟩ := nb9_ ho0; replace HO306 := am_ (Kd.S_elder' (Kd.S_mono (Kd.S_bound (ok := fun k_ => (b9_2 ≤ k_ ∧ some k_ ≠ (.slice Ao18 t298.length co18 : Value).ownBlock)) (by (with_reducible repeat (first | apply Kd.S_alloc | apply Kd.S_drewN | apply Kd.S_drew)); exact (Kd.S_mono (Kd.S_far (p := ⟨gb310, 6, none⟩) (Kd.S_far (p := ⟨gb310, 5, none⟩) (Kd.S_far (p := ⟨gb310, 4, none⟩) (Kd.S_far (p := ⟨gb310, 3, none⟩) (Kd.S_far (p := ⟨gb310, 2, none⟩) (Kd.S_far (p := ⟨gb310, 1, none⟩) (Kd.S_far (p := ⟨gb310, 0, none⟩) (Kd.S_types HO306.out BK310.out (by decide)) (fun _ hk => hk.2) (.string t301)) (fun _ hk => hk.2) (.string t302)) (fun _ hk => hk.2) (.int .i64 t303)) (fun _ hk => hk.2) (.slice Ao22 t304.length co22)) (fun _ hk => hk.2) (.bool t307)) (fun _ hk => hk.2) (.int .i64 t308)) (fun _ hk => hk.2) (.int .i64 t309)) (fun _ h_ => h_.1)))) (fun k_ hk_ => (⟨hb9_3 _ hk_.2.2.1, hk_.1⟩ : k_ < b9_3 ∧ _))) (Kd.S_base ho0) hb); have HO313 := am_ (Kd.S_lower (Kd.S_new' ho9_3 (Kd.S_lt au4_27)) (below_size bl_)); replace HO300 := am_ (Kd.S_elder' (Kd.S_mono (Kd.S_bound (ok := fun k_ => (k_ < b9_2 ∧ b9_1 ≤ k_)) au4_27) (fun k_ hk_ => (⟨hb9_3 _ hk_.2.2.1, hk_.1⟩ : k_ < b9_3 ∧ _))) (Kd.S_base ho0) hb); replace BK310 := am_ (blk_below (g := gb310) (o := .cells #[.string t301, .string t302, .int .i64 t303, .slice Ao22 t304.length co22, .bool t307, .int .i64 t308, .int .i64 t309] 36 (0, 0)) (bq_ BK310) hb); replace HB := hs_ w hb; (try clear hb); (try clear hb2); (try clear hk); (try clear hi); (try clear ho0); obtain ⟨Ao24, co24, eo24⟩ := Kd.S_slice HO313.out; subst eo24) | (go_at_call 14; (with_reducible refine (F14.calls k _ _ t311 t314 t315 t316 t317 t320 t321 t322 _ ?s1 ?s2 ?s3 A8.out).mono ?_); (case s1 => exact au4_32); (case s2 => exact au4_55); (case s3 => exact au4_41); rintro e w25 ⟨v318, rfl, ho0, hb⟩; (try clear A8); obtain ⟨b9_4, hb9_4, ho9_4⟩ := nb9_ ho0; have HO319 := am_ (Kd.S_lower (Kd.S_new' (Kd.S_new' (Kd.S_new' ho9_4 (Kd.S_lt au4_2)) (Kd.S_lt au4_4)) (Kd.S_lt au4_5)) (below_size bl_)); replace HO300 := am_ (Kd.S_below (Kd.S_mono (Kd.S_bound (ok := fun k_ => ((k_ < b9_3 ∧ (k_ < b9_2 ∧ b9_1 ≤ k_)) ∧ some k_ ≠ (.slice Ao24 t311.length co24 : Value).ownBlock)) au4_2) (fun k_ hk_ => (⟨hb9_4 _ hk_.2.2.1, hk_.1⟩ : k_ < b9_4 ∧ _))) hb); replace HO306 := am_ (Kd.S_elder' (Kd.S_mono (Kd.S_bound (ok := fun k_ => ((k_ < b9_3 ∧ (b9_2 ≤ k_ ∧ some k_ ≠ (.slice Ao18 t298.length co18 : Value).ownBlock)) ∧ some k_ ≠ (.slice Ao24 t311.length co24 : Value).ownBlock)) au4_4) (fun k_ hk_ => (⟨hb9_4 _ hk_.2.2.1, hk_.1⟩ : k_ < b9_4 ∧ _))) (Kd.S_base ho0) hb); replace HO313 := am_ (Kd.S_below (Kd.S_mono (Kd.S_bound (ok := fun k_ => (b9_3 ≤ k_ ∧ some k_ ≠ (.slice Ao18 t298.length co18 : Value).ownBlock)) au4_5) (fun k_ hk_ => (⟨hb9_4 _ hk_.2.2.1, hk_.1⟩ : k_ < b9_4 ∧ _))) hb); replace BK310 := bb_ BK310 hb; replace HB := hs_ w hb; (try clear hb); (try clear hb2); (try clear hk); (try clear hi); (try clear ho0)) | ((with_reducible refine gate_dst (N := 6) rfl ?_); refine be_ 6 #[.string (⟨#[]⟩ : ByteArray), .string (⟨#[]⟩ : ByteArray), .int .i64 0, .slice none 0 0, .bool false, .int .i64 0, .int .i64 0] 36 ?_; intro gb323 hg w26 hbox hb; replace HO300 := am_ (Kd.S_below au4_2 hb); replace HO306 := am_ (Kd.S_below au4_4 hb); replace HO313 := am_ (Kd.S_below au4_5 hb); replace HO319 := am_ (Kd.S_below au4_12 hb); have BK323 := am_ (hbox); have GW323 := am_ (gw_ hg bl_); have GE323 := GW323; replace HB := hs_ w hb; have NB310_323 := am_ (gn_ hg (blkl_ BK310)); have NB323_310 := am_ (gm_ hg (blkl_ BK310)); replace BK310 := bb_ BK310 hb; clear hb hbox hg; have hnb27 := NB323_310.out; have hnc27 := NB310_323.out; obtain ⟨hcz28_0, hcz28_1, hcz28_2, hcz28_3, hcz28_4, hcz28_5, hcz28_6, hfz28_0, hfz28_1, hfz28_2, hfz28_3, hfz28_4, hfz28_5, hfz28_6⟩ := cellsF7 BK323.out; obtain ⟨Ao29, co29, eo29⟩ := Kd.S_slice HO319.out; subst eo29; obtain ⟨hcz30_0, hcz30_1, hcz30_2, hcz30_3, hcz30_4, hcz30_5, hcz30_6, hfz30_0, hfz30_1, hfz30_2, hfz30_3, hfz30_4, hfz30_5, hfz30_6⟩ := cellsF7 BK310.out) | (go_at_call 15; (with_reducible refine (F15.calls k t314 t315 t316 _ _ t317 t320 t321 t322 t301 t302 t303 _ _ t304 t307 t308 t309 true _ ?s1 ?s2 ?s3 ?s4 A9.out).mono ?_); (case s1 => refine (Kd.S_reads' (e := 83) (base := w.heap.size) (ok := fun k_ => (((b9_4 ≤ k_ ∧ some k_ ≠ (.slice Ao18 t298.length co18 : Value).ownBlock) ∧ some k_ ≠ (.slice Ao22 t304.length co22 : Value).ownBlock) ∧ some k_ ≠ (.slice Ao24 t311.length co24 : Value).ownBlock)) (n := t317.length) (c := co29) ?_).2.2; exact au4_28); (case s2 => exact au4_61); (case s3 => refine (Kd.S_reads' (e := 83) (base := w.heap.size) (ok := fun k_ => ((k_ < b9_4 ∧ ((k_ < b9_3 ∧ (b9_2 ≤ k_ ∧ some k_ ≠ (.slice Ao18 t298.length co18 : Value).ownBlock)) ∧ some k_ ≠ (.slice Ao24 t311.length co24 : Value).ownBlock)) ∧ some k_ ≠ (.slice Ao29 t317.length co29 : Value).ownBlock)) (n := t304.length) (c := co22) ?_).2.2; exact au4_29); (case s4 => exact au4_62); rintro e w31 ⟨rfl, hb⟩; (try clear A9); replace HO300 := am_ (Kd.S_below (by (with_reducible repeat (first | apply Kd.S_alloc | apply Kd.S_drewN | apply Kd.S_drew)); exact (Kd.S_mono (Kd.S_far (p := ⟨gb323, 6, none⟩) (Kd.S_far (p := ⟨gb323, 5, none⟩) (Kd.S_far (p := ⟨gb323, 4, none⟩) (Kd.S_far (p := ⟨gb323, 3, none⟩) (Kd.S_far (p := ⟨gb323, 2, none⟩) (Kd.S_far (p := ⟨gb323, 1, none⟩) (Kd.S_far (p := ⟨gb323, 0, none⟩) (Kd.S_types HO300.out BK323.out (by decide)) (fun _ hk => hk.2) (.string t314)) (fun _ hk => hk.2) (.string t315)) (fun _ hk => hk.2) (.int .i64 t316)) (fun _ hk => hk.2) (.slice Ao29 t317.length co29)) (fun _ hk => hk.2) (.bool t320)) (fun _ hk => hk.2) (.int .i64 t321)) (fun _ hk => hk.2) (.int .i64 t322)) (fun _ h_ => h_.1))) hb); replace HO306 := am_ (Kd.S_below au4_29 hb); replace HO313 := am_ (Kd.S_below (by (with_reducible repeat (first | apply Kd.S_alloc | apply Kd.S_drewN | apply Kd.S_drew)); exact (Kd.S_mono (Kd.S_far (p := ⟨gb323, 6, none⟩) (Kd.S_far (p := ⟨gb323, 5, none⟩) (Kd.S_far (p := ⟨gb323, 4, none⟩) (Kd.S_far (p := ⟨gb323, 3, none⟩) (Kd.S_far (p := ⟨gb323, 2, none⟩) (Kd.S_far (p := ⟨gb323, 1, none⟩) (Kd.S_far (p := ⟨gb323, 0, none⟩) (Kd.S_types HO313.out BK323.out (by decide)) (fun _ hk => hk.2) (.string t314)) (fun _ hk => hk.2) (.string t315)) (fun _ hk => hk.2) (.int .i64 t316)) (fun _ hk => hk.2) (.slice Ao29 t317.length co29)) (fun _ hk => hk.2) (.bool t320)) (fun _ hk => hk.2) (.int .i64 t321)) (fun _ hk => hk.2) (.int .i64 t322)) (fun _ h_ => h_.1))) hb); replace HO319 := am_ (Kd.S_below au4_28 hb); replace BK310 := am_ (blk_below (g := gb310) (o := .cells #[.string t301, .string t302, .int .i64 t303, .slice Ao22 t304.length co22, .bool t307, .int .i64 t308, .int .i64 t309] 36 (0, 0)) (bf_ BK310) hb); replace BK323 := am_ (blk_below (g := gb323) (o := .cells #[.string t314, .string t315, .int .i64 t316, .slice Ao29 t317.length co29, .bool t320, .int .i64 t321, .int .i64 t322] 36 (0, 0)) (bq_ BK323) hb); replace HB := hs_ w hb; (try clear hb); (try clear hb2); (try clear hk); (try clear hi)) | (go_at_call 13; (with_reducible refine (F13.calls k _ _ l0 t325 _ ?s1 ?s2 A11.out).mono ?_); (case s1 => exact au4_8); (case s2 => exact HC0.out); rintro e w32 ⟨v326, rfl, ho0, hb⟩; (try clear A11); obtain ⟨b9_5, hb9_5, ho9_5⟩ := nb9_ ho0; replace HO306 := am_ (Kd.S_elder' (Kd.S_mono (Kd.S_bound (ok := fun k_ => ((k_ < b9_4 ∧ ((k_ < b9_3 ∧ (b9_2 ≤ k_ ∧ some k_ ≠ (.slice Ao18 t298.length co18 : Value).ownBlock)) ∧ some k_ ≠ (.slice Ao24 t311.length co24 : Value).ownBlock)) ∧ some k_ ≠ (.slice Ao29 t317.length co29 : Value).ownBlock)) au4_4) (fun k_ hk_ => (⟨hb9_5 _ hk_.2.2.1, hk_.1⟩ : k_ < b9_5 ∧ _))) (Kd.S_base ho0) hb); replace HO319 := am_ (Kd.S_elder' (Kd.S_mono (Kd.S_bound (ok := fun k_ => (((b9_4 ≤ k_ ∧ some k_ ≠ (.slice Ao18 t298.length co18 : Value).ownBlock) ∧ some k_ ≠ (.slice Ao22 t304.length co22 : Value).ownBlock) ∧ some k_ ≠ (.slice Ao24 t311.length co24 : Value).ownBlock)) au4_12) (fun k_ hk_ => (⟨hb9_5 _ hk_.2.2.1, hk_.1⟩ : k_ < b9_5 ∧ _))) (Kd.S_base ho0) hb); have HO327 := am_ (Kd.S_lower (Kd.S_new' (Kd.S_new' ho9_5 (Kd.S_lt au4_2)) (Kd.S_lt au4_5)) (below_size bl_)); replace HO300 := am_ (Kd.S_elder' (Kd.S_mono (Kd.S_bound (ok := fun k_ => (k_ < b9_4 ∧ ((k_ < b9_3 ∧ (k_ < b9_2 ∧ b9_1 ≤ k_)) ∧ some k_ ≠ (.slice Ao24 t311.length co24 : Value).ownBlock))) au4_2) (fun k_ hk_ => (⟨hb9_5 _ hk_.2.2.1, hk_.1⟩ : k_ < b9_5 ∧ _))) (Kd.S_base ho0) hb); replace HO313 := am_ (Kd.S_elder' (Kd.S_mono (Kd.S_bound (ok := fun k_ => (k_ < b9_4 ∧ (b9_3 ≤ k_ ∧ some k_ ≠ (.slice Ao18 t298.length co18 : Value).ownBlock))) au4_5) (fun k_ hk_ => (⟨hb9_5 _ hk_.2.2.1, hk_.1⟩ : k_ < b9_5 ∧ _))) (Kd.S_base ho0) hb); replace BK310 := bb_ BK310 hb; replace BK323 := bb_ BK323 hb; replace HB := hs_ w hb; (try clear hb); (try clear hb2); (try clear hk); (try clear hi); (try clear ho0); obtain ⟨Ao33, co33, eo33⟩ := Kd.S_slice HO327.out; subst eo33) | (go_at_call 16; (with_reducible refine (F16.calls k _ _ t311 _ _ t325 true _ ?s1 ?s2 ?s3 ?s4 A12.out).mono ?_); (case s1 => exact au4_32); (case s2 => exact au4_55); (case s3 => exact au4_50); (case s4 => exact (Kd.S_reads' HO327.out).2.1); rintro e w34 ⟨rfl, hb⟩; (try clear A12); replace HO300 := am_ (Kd.S_below au4_2 hb); replace HO306 := am_ (Kd.S_below au4_4 hb); replace HO313 := am_ (Kd.S_below au4_5 hb); replace HO319 := am_ (Kd.S_below au4_12 hb); replace HO327 := am_ (Kd.S_below au4_39 hb); replace BK310 := bb_ BK310 hb; replace BK323 := bb_ BK323 hb; replace HB := hs_ w hb; (try clear hb); (try clear hb2); (try clear hk); (try clear hi)) | (go_at_call 17; obtain ⟨P9_, HP9_, HQ9_⟩ := pp9_ HO313; (with_reducible refine (F17.calls k P9_ (.slice Ao24 t311.length co24) t311 1 t329 t330 w _ ?s1 ?s2 A14.out).mono ?_); (case s1 => exact au4_10); (case s2 => exact au4_34); rintro e w35 ⟨rfl, hy0, hb, hkp⟩; (try clear A14); replace HO306 := am_ (Kd.S_mono (Kd.S_keptB (ok := fun k_ => ((k_ < b9_5 ∧ ((k_ < b9_4 ∧ ((k_ < b9_3 ∧ (b9_2 ≤ k_ ∧ some k_ ≠ (.slice Ao18 t298.length co18 : Value).ownBlock)) ∧ some k_ ≠ (.slice Ao24 t311.length co24 : Value).ownBlock)) ∧ some k_ ≠ (.slice Ao29 t317.length co29 : Value).ownBlock)) ∧ some k_ ≠ (.slice Ao33 t325.length co33 : Value).ownBlock)) au4_4 hkp (fun k_ hk_ hs_ => Nat.not_le.2 (hk_.1.2.1.2.1.1) ((HQ9_.out _ hs_).1.1.2.2.1))) (fun k_ hk_ => hk_.1)); replace BK310 := am_ (blk_kept (bk_ BK310) hkp (fun hs_ => nt9_ (HQ9_.out _ hs_).2 (bk_ BK310) (by decide))); replace HO313 := am_ (Kd.S_mono (ok' := fun k_ => some k_ ≠ (.slice Ao18 t298.length co18 : Value).ownBlock ∧ some k_ ≠ (.slice Ao33 t325.length co33 : Value).ownBlock) hy0 (fun k_ h_ => h_.elim (fun p_ => ⟨(HQ9_.out _ p_).1.1.2.2.2, (HQ9_.out _ p_).1.2⟩) (fun n_ => ⟨Kd.fresh' (Kd.S_lt au4_2) k_ n_, Kd.fresh' (Kd.S_lt au4_39) k_ n_⟩))); replace HO300 := am_ (Kd.S_mono (Kd.S_keptB (ok := fun k_ => ((k_ < b9_5 ∧ (k_ < b9_4 ∧ ((k_ < b9_3 ∧ (k_ < b9_2 ∧ b9_1 ≤ k_)) ∧ some k_ ≠ (.slice Ao24 t311.length co24 : Value).ownBlock))) ∧ some k_ ≠ (.slice Ao33 t325.length co33 : Value).ownBlock)) au4_2 hkp (fun k_ hk_ hs_ => Nat.not_le.2 (hk_.1.2.2.1.1) ((HQ9_.out _ hs_).1.1.2.2.1))) (fun k_ hk_ => hk_.1)); replace HO319 := am_ (Kd.S_mono (Kd.S_keptB (ok := fun k_ => ((k_ < b9_5 ∧ (((b9_4 ≤ k_ ∧ some k_ ≠ (.slice Ao18 t298.length co18 : Value).ownBlock) ∧ some k_ ≠ (.slice Ao22 t304.length co22 : Value).ownBlock) ∧ some k_ ≠ (.slice Ao24 t311.length co24 : Value).ownBlock)) ∧ some k_ ≠ (.slice Ao33 t325.length co33 : Value).ownBlock)) au4_12 hkp (fun k_ hk_ hs_ => Nat.not_le.2 ((HQ9_.out _ hs_).1.1.2.1) (hk_.1.2.1.1.1))) (fun k_ hk_ => hk_.1)); replace BK323 := am_ (blk_kept (bk_ BK323) hkp (fun hs_ => nt9_ (HQ9_.out _ hs_).2 (bk_ BK323) (by decide))); replace HO327 := am_ (Kd.S_mono (Kd.S_keptB (ok := fun k_ => ((b9_5 ≤ k_ ∧ some k_ ≠ (.slice Ao18 t298.length co18 : Value).ownBlock) ∧ some k_ ≠ (.slice Ao24 t311.length co24 : Value).ownBlock)) au4_39 hkp (fun k_ hk_ hs_ => Nat.not_le.2 ((HQ9_.out _ hs_).1.1.1) (hk_.1.1))) (fun k_ hk_ => hk_.1)); replace HB := am_ (hb); (try clear hb); (try clear hkp); (try clear hy0)))
 (try simp only [Act.put, List.setIfInBounds_toArray, List.set_cons_zero, List.set_cons_succ])
 go_cut [42] (fun v42 wc => ∃ (kq : Nat) (x42_14 : Bool), v42 = .bool x42_14 ∧ Aside0 (F4.j0 kq l0 x42_14 t301 t302 t303 t304 t307 t308 t309 t314 t315 t316 t317 t320 t321 t322 = some r) ∧ Aside0 (kq ≤ k) ∧ Aside0 (Kd.S k83 83 wc w.heap.size (fun k_ => some k_ ≠ ((.slice Ao29 t317.length co29) : Value).ownBlock ∧ k_ < b9_5 ∧ k_ < b9_4 ∧ k_ < b9_3 ∧ b9_2 ≤ k_) (.slice Ao22 t304.length co22) t304) ∧ Aside0 (Kd.S k83 83 wc w.heap.size (fun k_ => some k_ ≠ ((.slice Ao22 t304.length co22) : Value).ownBlock ∧ k_ < b9_5 ∧ b9_4 ≤ k_) (.slice Ao29 t317.length co29) t317) ∧ Aside0 (wc.heap[gb310]? = some (.cells #[.string t301, .string t302, .int .i64 t303, (.slice Ao22 t304.length co22), .bool t307, .int .i64 t308, .int .i64 t309] 36 (0, 0))) ∧ Aside0 (wc.heap[gb323]? = some (.cells #[.string t314, .string t315, .int .i64 t316, (.slice Ao29 t317.length co29), .bool t320, .int .i64 t321, .int .i64 t322] 36 (0, 0))) ∧ Aside0 (Below w.heap.size w wc))
 case first =>
  have H := HC15.out
  clear HC15
  replace H := it_ H; rcases H with ⟨c36b0, H⟩ | ⟨c36b0, H⟩
  ·(first | rw [c36b0] | (simp only [i64_w, i32_w]; rw [c36b0]) | skip)
   have H' := am_ H
   clear H
   go_wp2
   go_meet
   case rel => exact ⟨_, (true), er_, H', ⟨by first | omega | exact Nat.le_refl _⟩, ⟨au4_44⟩, ⟨au4_51⟩, ⟨bk_ BK310⟩, ⟨bk_ BK323⟩, ⟨bl_⟩⟩
  (first | rw [c36b0] | (simp only [i64_w, i32_w]; rw [c36b0]) | skip)
  replace H := bi_ H; rcases H with ⟨t331, A37, H⟩
  have H' := am_ H
  clear H
  have hnb38 := NB323_310.out
  have hnc38 := NB310_323.out
  obtain ⟨hcz39_0, hcz39_1, hcz39_2, hcz39_3, hcz39_4, hcz39_5, hcz39_6, hfz39_0, hfz39_1, hfz39_2, hfz39_3, hfz39_4, hfz39_5, hfz39_6⟩ := cellsF7 BK323.out
  obtain ⟨hcz40_0, hcz40_1, hcz40_2, hcz40_3, hcz40_4, hcz40_5, hcz40_6, hfz40_0, hfz40_1, hfz40_2, hfz40_3, hfz40_4, hfz40_5, hfz40_6⟩ := cellsF7 BK310.out
  go_wp2_with (first | (go_at_call 15; (with_reducible refine (F15.calls k t314 t315 t316 _ _ t317 t320 t321 t322 t301 t302 t303 _ _ t304 t307 t308 t309 t331 _ ?s1 ?s2 ?s3 ?s4 A37.out).mono ?_); (case s1 => repeat (first | exact (Kd.S_reads' HO319.out).2.2 | (with_reducible refine Kd.C_alloc ?_ _) | (with_reducible refine Kd.C_drewN ?_ _) | (with_reducible refine Kd.C_drew ?_))); (case s2 => exact au4_61); (case s3 => repeat (first | exact (Kd.S_reads' HO306.out).2.2 | (with_reducible refine Kd.C_alloc ?_ _) | (with_reducible refine Kd.C_drewN ?_ _) | (with_reducible refine Kd.C_drew ?_))); (case s4 => exact au4_62); rintro e w41 ⟨rfl, hb⟩; (try clear A37); replace HO300 := am_ (Kd.S_below au4_2 hb); replace HO306 := am_ (Kd.S_below au4_4 hb); replace HO313 := am_ (Kd.S_below au4_5 hb); replace HO319 := am_ (Kd.S_below au4_12 hb); replace HO327 := am_ (Kd.S_below au4_39 hb); replace BK310 := bb_ BK310 hb; replace BK323 := bb_ BK323 hb; replace HB := hs_ w hb; (try clear hb); (try clear hb2); (try clear hk); (try clear hi)))
  go_meet
  case rel => exact ⟨_, (!t331), er_, H', ⟨by first | omega | exact Nat.le_refl _⟩, ⟨au4_44⟩, ⟨au4_51⟩, ⟨bk_ BK310⟩, ⟨bk_ BK323⟩, ⟨bl_⟩⟩
 case rest =>
  clear HC15
  try clear c3b0
  try clear c36b0
  try clear hcz21_0 hcz21_1 hcz21_2 hcz21_3 hcz21_4 hcz21_5 hcz21_6
  try clear hcz28_0 hcz28_1 hcz28_2 hcz28_3 hcz28_4 hcz28_5 hcz28_6
  try clear hcz30_0 hcz30_1 hcz30_2 hcz30_3 hcz30_4 hcz30_5 hcz30_6
  try clear hcz39_0 hcz39_1 hcz39_2 hcz39_3 hcz39_4 hcz39_5 hcz39_6
  try clear hcz40_0 hcz40_1 hcz40_2 hcz40_3 hcz40_4 hcz40_5 hcz40_6
  try clear hfz21_0 hfz21_1 hfz21_2 hfz21_3 hfz21_4 hfz21_5 hfz21_6
  try clear hfz28_0 hfz28_1 hfz28_2 hfz28_3 hfz28_4 hfz28_5 hfz28_6
  try clear hfz30_0 hfz30_1 hfz30_2 hfz30_3 hfz30_4 hfz30_5 hfz30_6
  try clear hfz39_0 hfz39_1 hfz39_2 hfz39_3 hfz39_4 hfz39_5 hfz39_6
  try clear hfz40_0 hfz40_1 hfz40_2 hfz40_3 hfz40_4 hfz40_5 hfz40_6
  obtain ⟨kq, x42_14, rfl, HA, HJ14, HO_311003, HO_324003, BK310, BK323, HB⟩ := hcut
  cases kq with
  | zero => exact absurd HA.out (by simp [F4.j0])
  | succ kj14 =>
   have H := HA.out
   clear HA
   simp only [F4.j0] at H
   replace H := ib_ H; rcases H with ⟨rfl, H⟩ | ⟨rfl, H⟩
   ·obtain rfl := Option.some.inj H
    go_wp2
    go_ret
    exact ⟨au4_1, bl_⟩
   replace H := bi_ H; rcases H with ⟨⟨t332, t333⟩, A43, H⟩
   replace H := bi_ H; rcases H with ⟨t334, A44, H⟩
   replace H := it_ H; rcases H with ⟨c45b0, H⟩ | ⟨c45b0, H⟩
   ·obtain rfl := Option.some.inj H
    have hnb46 := NB323_310.out
    have hnc46 := NB310_323.out
    obtain ⟨hcz47_0, hcz47_1, hcz47_2, hcz47_3, hcz47_4, hcz47_5, hcz47_6, hfz47_0, hfz47_1, hfz47_2, hfz47_3, hfz47_4, hfz47_5, hfz47_6⟩ := cellsF7 BK323.out
    go_wp2_with (first | (go_at_call 18; obtain ⟨P9_, HP9_, HQ9_⟩ := pp9_ HO_324003; (with_reducible refine (F18.calls kj14 t314 t315 t316 P9_ (.slice Ao29 t317.length co29) t317 t320 t321 t322 1 t332 t333 w _ ?s1 ?s2 A43.out).mono ?_); (case s1 => exact au4_10); (case s2 => exact au4_34); rintro e w48 ⟨rfl, hy0, hb, hkp⟩; (try clear A43); replace HO_324003 := am_ (Kd.S_mono (ok' := fun k_ => some k_ ≠ (.slice Ao22 t304.length co22 : Value).ownBlock) hy0 (fun k_ h_ => h_.elim (fun p_ => (HQ9_.out _ p_).1.1) (fun n_ => Kd.fresh' (Kd.S_lt au4_0) k_ n_))); replace HO_311003 := am_ (Kd.S_mono (Kd.S_keptB (ok := fun k_ => (some k_ ≠ (.slice Ao29 t317.length co29 : Value).ownBlock ∧ (k_ < b9_5 ∧ (k_ < b9_4 ∧ (k_ < b9_3 ∧ b9_2 ≤ k_))))) au4_0 hkp (fun k_ hk_ hs_ => Nat.not_le.2 (hk_.2.2.1) ((HQ9_.out _ hs_).1.2.2))) (fun k_ hk_ => hk_.1)); replace BK310 := am_ (blk_kept (bk_ BK310) hkp (fun hs_ => nt9_ (HQ9_.out _ hs_).2 (bk_ BK310) (by decide))); replace BK323 := am_ (blk_kept (bk_ BK323) hkp (fun hs_ => nt9_ (HQ9_.out _ hs_).2 (bk_ BK323) (by decide))); replace HB := am_ (hb); (try clear hb); (try clear hkp); (try clear hy0); obtain ⟨hcz49_0, hcz49_1, hcz49_2, hcz49_3, hcz49_4, hcz49_5, hcz49_6, hfz49_0, hfz49_1, hfz49_2, hfz49_3, hfz49_4, hfz49_5, hfz49_6⟩ := cellsF7 BK323.out) | (go_at_call 19; refine calls_of_args (args' := #[.agg #[.string t314, .string t315, .int .i64 t316, .slice Ao29 t333.length co29, .bool t320, .int .i64 t321, .int .i64 t322], .int .i64 1]) au4_13 ?_; (with_reducible refine (F19.calls kj14 t314 t315 t316 _ _ t333 t320 t321 t322 1 t334 _ ?s1 ?s2 A44.out).mono ?_); (case s1 => exact au4_7); (case s2 => exact au4_11); rintro e w50 ⟨rfl, hb⟩; (try clear A44); replace HO_311003 := am_ (Kd.S_below au4_0 hb); replace HO_324003 := am_ (Kd.S_below au4_3 hb); replace BK310 := bb_ BK310 hb; replace BK323 := bb_ BK323 hb; replace HB := hs_ w hb; (try clear hb); (try clear hb2); (try clear hk); (try clear hi)))
    go_ret
    exact ⟨au4_1, bl_⟩
   by_cases c51 : t334 = t332
   rotate_left
   ·rw [if_neg c51] at H
    have c51b0 : (t334 == t332) = false := beq_eq_false_iff_ne.mpr c51
    have c51b1 : (t334 != t332) = true := bne_iff_ne.mpr c51
    obtain rfl := Option.some.inj H
    have hnb125 := NB323_310.out
    have hnc125 := NB310_323.out
    obtain ⟨hcz126_0, hcz126_1, hcz126_2, hcz126_3, hcz126_4, hcz126_5, hcz126_6, hfz126_0, hfz126_1, hfz126_2, hfz126_3, hfz126_4, hfz126_5, hfz126_6⟩ := cellsF7 BK323.out
    go_wp2_with (first | (go_at_call 18; obtain ⟨P9_, HP9_, HQ9_⟩ := pp9_ HO_324003; (with_reducible refine (F18.calls kj14 t314 t315 t316 P9_ (.slice Ao29 t317.length co29) t317 t320 t321 t322 1 t332 t333 w _ ?s1 ?s2 A43.out).mono ?_); (case s1 => exact au4_10); (case s2 => exact au4_34); rintro e w127 ⟨rfl, hy0, hb, hkp⟩; (try clear A43); replace HO_324003 := am_ (Kd.S_mono (ok' := fun k_ => some k_ ≠ (.slice Ao22 t304.length co22 : Value).ownBlock) hy0 (fun k_ h_ => h_.elim (fun p_ => (HQ9_.out _ p_).1.1) (fun n_ => Kd.fresh' (Kd.S_lt au4_0) k_ n_))); replace HO_311003 := am_ (Kd.S_mono (Kd.S_keptB (ok := fun k_ => (some k_ ≠ (.slice Ao29 t317.length co29 : Value).ownBlock ∧ (k_ < b9_5 ∧ (k_ < b9_4 ∧ (k_ < b9_3 ∧ b9_2 ≤ k_))))) au4_0 hkp (fun k_ hk_ hs_ => Nat.not_le.2 (hk_.2.2.1) ((HQ9_.out _ hs_).1.2.2))) (fun k_ hk_ => hk_.1)); replace BK310 := am_ (blk_kept (bk_ BK310) hkp (fun hs_ => nt9_ (HQ9_.out _ hs_).2 (bk_ BK310) (by decide))); replace BK323 := am_ (blk_kept (bk_ BK323) hkp (fun hs_ => nt9_ (HQ9_.out _ hs_).2 (bk_ BK323) (by decide))); replace HB := am_ (hb); (try clear hb); (try clear hkp); (try clear hy0); obtain ⟨hcz128_0, hcz128_1, hcz128_2, hcz128_3, hcz128_4, hcz128_5, hcz128_6, hfz128_0, hfz128_1, hfz128_2, hfz128_3, hfz128_4, hfz128_5, hfz128_6⟩ := cellsF7 BK323.out) | (go_at_call 19; refine calls_of_args (args' := #[.agg #[.string t314, .string t315, .int .i64 t316, .slice Ao29 t333.length co29, .bool t320, .int .i64 t321, .int .i64 t322], .int .i64 1]) au4_13 ?_; (with_reducible refine (F19.calls kj14 t314 t315 t316 _ _ t333 t320 t321 t322 1 t334 _ ?s1 ?s2 A44.out).mono ?_); (case s1 => exact au4_7); (case s2 => exact au4_11); rintro e w129 ⟨rfl, hb⟩; (try clear A44); replace HO_311003 := am_ (Kd.S_below au4_0 hb); replace HO_324003 := am_ (Kd.S_below au4_3 hb); replace BK310 := bb_ BK310 hb; replace BK323 := bb_ BK323 hb; replace HB := hs_ w hb; (try clear hb); (try clear hb2); (try clear hk); (try clear hi)))
    go_ret
    exact ⟨au4_1, bl_⟩
   rw [if_pos c51] at H
   have c51b0 : (t334 == t332) = true := beq_iff_eq.mpr c51
   have c51b1 : (t334 != t332) = false := bne_eq_false_iff_eq.mpr c51
   clear c51
   replace H := bi_ H; rcases H with ⟨t335, A52, H⟩
   replace H := bi_ H; rcases H with ⟨⟨t338, t339, t340, t341, t344, t345, t346⟩, A53, H⟩
   replace H := bi_ H; rcases H with ⟨t348, A54, H⟩
   replace H := ib_ H; rcases H with ⟨rfl, H⟩ | ⟨rfl, H⟩
   rotate_left
   ·obtain rfl := Option.some.inj H
    have hnb110 := NB323_310.out
    have hnc110 := NB310_323.out
    obtain ⟨hcz111_0, hcz111_1, hcz111_2, hcz111_3, hcz111_4, hcz111_5, hcz111_6, hfz111_0, hfz111_1, hfz111_2, hfz111_3, hfz111_4, hfz111_5, hfz111_6⟩ := cellsF7 BK323.out
    go_wp2_with (first | (go_at_call 18; obtain ⟨P9_, HP9_, HQ9_⟩ := pp9_ HO_324003; (with_reducible refine (F18.calls kj14 t314 t315 t316 P9_ (.slice Ao29 t317.length co29) t317 t320 t321 t322 1 t332 t333 w _ ?s1 ?s2 A43.out).mono ?_); (case s1 => exact au4_10); (case s2 => exact au4_34); rintro e w112 ⟨rfl, hy0, hb, hkp⟩; (try clear A43); replace HO_324003 := am_ (Kd.S_mono (ok' := fun k_ => some k_ ≠ (.slice Ao22 t304.length co22 : Value).ownBlock) hy0 (fun k_ h_ => h_.elim (fun p_ => (HQ9_.out _ p_).1.1) (fun n_ => Kd.fresh' (Kd.S_lt au4_0) k_ n_))); replace HO_311003 := am_ (Kd.S_mono (Kd.S_keptB (ok := fun k_ => (some k_ ≠ (.slice Ao29 t317.length co29 : Value).ownBlock ∧ (k_ < b9_5 ∧ (k_ < b9_4 ∧ (k_ < b9_3 ∧ b9_2 ≤ k_))))) au4_0 hkp (fun k_ hk_ hs_ => Nat.not_le.2 (hk_.2.2.1) ((HQ9_.out _ hs_).1.2.2))) (fun k_ hk_ => hk_.1)); replace BK310 := am_ (blk_kept (bk_ BK310) hkp (fun hs_ => nt9_ (HQ9_.out _ hs_).2 (bk_ BK310) (by decide))); replace BK323 := am_ (blk_kept (bk_ BK323) hkp (fun hs_ => nt9_ (HQ9_.out _ hs_).2 (bk_ BK323) (by decide))); replace HB := am_ (hb); (try clear hb); (try clear hkp); (try clear hy0); obtain ⟨hcz113_0, hcz113_1, hcz113_2, hcz113_3, hcz113_4, hcz113_5, hcz113_6, hfz113_0, hfz113_1, hfz113_2, hfz113_3, hfz113_4, hfz113_5, hfz113_6⟩ := cellsF7 BK323.out) | (go_at_call 19; refine calls_of_args (args' := #[.agg #[.string t314, .string t315, .int .i64 t316, .slice Ao29 t333.length co29, .bool t320, .int .i64 t321, .int .i64 t322], .int .i64 1]) au4_13 ?_; (with_reducible refine (F19.calls kj14 t314 t315 t316 _ _ t333 t320 t321 t322 1 t334 _ ?s1 ?s2 A44.out).mono ?_); (case s1 => exact au4_7); (case s2 => exact au4_11); rintro e w114 ⟨rfl, hb⟩; (try clear A44); replace HO_311003 := am_ (Kd.S_below au4_0 hb); replace HO_324003 := am_ (Kd.S_below au4_3 hb); replace BK310 := bb_ BK310 hb; replace BK323 := bb_ BK323 hb; replace HB := hs_ w hb; (try clear hb); (try clear hb2); (try clear hk); (try clear hi)) | (go_at_call 13; (with_reducible refine (F13.calls kj14 _ _ l0 t335 _ ?s1 ?s2 A52.out).mono ?_); (case s1 => exact au4_8); (case s2 => exact HC0.out); rintro e w115 ⟨v336, rfl, ho0, hb⟩; (try clear A52); obtain ⟨b9_12, hb9_12, ho9_12⟩ := nb9_ ho0; replace HO_311003 := am_ (Kd.S_elder' (Kd.S_mono (Kd.S_bound (ok := fun k_ => (some k_ ≠ (.slice Ao29 t317.length co29 : Value).ownBlock ∧ (k_ < b9_5 ∧ (k_ < b9_4 ∧ (k_ < b9_3 ∧ b9_2 ≤ k_))))) au4_0) (fun k_ hk_ => (⟨hb9_12 _ hk_.2.2.1, hk_.1⟩ : k_ < b9_12 ∧ _))) (Kd.S_base ho0) hb); replace HO_324003 := am_ (Kd.S_elder' (Kd.S_mono (Kd.S_bound (ok := fun k_ => some k_ ≠ (.slice Ao22 t304.length co22 : Value).ownBlock) au4_3) (fun k_ hk_ => (⟨hb9_12 _ hk_.2.2.1, hk_.1⟩ : k_ < b9_12 ∧ _))) (Kd.S_base ho0) hb); have HO337 := am_ (Kd.S_lower ho9_12 (below_size bl_)); replace BK310 := bb_ BK310 hb; replace BK323 := bb_ BK323 hb; replace HB := hs_ w hb; (try clear hb); (try clear hb2); (try clear hk); (try clear hi); (try clear ho0); obtain ⟨Ao116, co116, eo116⟩ := Kd.S_slice HO337.out; subst eo116) | (go_at_call 14; (with_reducible refine (F14.calls kj14 _ _ t335 t338 t339 t340 t341 t344 t345 t346 _ ?s1 ?s2 ?s3 A53.out).mono ?_); (case s1 => exact au4_36); (case s2 => exact au4_63); (case s3 => exact au4_41); rintro e w117 ⟨v342, rfl, ho0, hb⟩; (try clear A53); obtain ⟨b9_13, hb9_13, ho9_13⟩ := nb9_ ho0; have HO343 := am_ (Kd.S_lower (Kd.S_new' (Kd.S_new' (Kd.S_new' ho9_13 (Kd.S_lt au4_0)) (Kd.S_lt au4_3)) (Kd.S_lt au4_6)) (below_size bl_)); replace HO_311003 := am_ (Kd.S_elder' (Kd.S_mono (Kd.S_bound (ok := fun k_ => ((k_ < b9_12 ∧ (some k_ ≠ (.slice Ao29 t317.length co29 : Value).ownBlock ∧ (k_ < b9_5 ∧ (k_ < b9_4 ∧ (k_ < b9_3 ∧ b9_2 ≤ k_))))) ∧ some k_ ≠ (.slice Ao116 t335.length co116 : Value).ownBlock)) au4_0) (fun k_ hk_ => (⟨hb9_13 _ hk_.2.2.1, hk_.1⟩ : k_ < b9_13 ∧ _))) (Kd.S_base ho0) hb); replace HO_324003 := am_ (Kd.S_elder' (Kd.S_mono (Kd.S_bound (ok := fun k_ => ((k_ < b9_12 ∧ some k_ ≠ (.slice Ao22 t304.length co22 : Value).ownBlock) ∧ some k_ ≠ (.slice Ao116 t335.length co116 : Value).ownBlock)) au4_3) (fun k_ hk_ => (⟨hb9_13 _ hk_.2.2.1, hk_.1⟩ : k_ < b9_13 ∧ _))) (Kd.S_base ho0) hb); replace HO337 := am_ (Kd.S_below (Kd.S_mono (Kd.S_bound (ok := fun k_ => b9_12 ≤ k_) au4_6) (fun k_ hk_ => (⟨hb9_13 _ hk_.2.2.1, hk_.1⟩ : k_ < b9_13 ∧ _))) hb); replace BK310 := bb_ BK310 hb; replace BK323 := bb_ BK323 hb; replace HB := hs_ w hb; (try clear hb); (try clear hb2); (try clear hk); (try clear hi); (try clear ho0)) | ((with_reducible refine gate_dst (N := 10) rfl ?_); refine be_ 10 #[.string (⟨#[]⟩ : ByteArray), .string (⟨#[]⟩ : ByteArray), .int .i64 0, .slice none 0 0, .bool false, .int .i64 0, .int .i64 0] 36 ?_; intro gb347 hg w118 hbox hb; replace HO_311003 := am_ (Kd.S_below au4_0 hb); replace HO_324003 := am_ (Kd.S_below au4_3 hb); replace HO337 := am_ (Kd.S_below au4_6 hb); replace HO343 := am_ (Kd.S_below au4_33 hb); have BK347 := am_ (hbox); have GW347 := am_ (gw_ hg bl_); have GE347 := GW347; replace HB := hs_ w hb; have NB310_347 := am_ (gn_ hg (blkl_ BK310)); have NB347_310 := am_ (gm_ hg (blkl_ BK310)); replace BK310 := bb_ BK310 hb; have NB323_347 := am_ (gn_ hg (blkl_ BK323)); have NB347_323 := am_ (gm_ hg (blkl_ BK323)); replace BK323 := bb_ BK323 hb; clear hb hbox hg; have hnb119 := NB347_310.out; have hnc119 := NB310_347.out; have hnb120 := NB347_323.out; have hnc120 := NB323_347.out; obtain ⟨hcz121_0, hcz121_1, hcz121_2, hcz121_3, hcz121_4, hcz121_5, hcz121_6, hfz121_0, hfz121_1, hfz121_2, hfz121_3, hfz121_4, hfz121_5, hfz121_6⟩ := cellsF7 BK347.out; obtain ⟨Ao122, co122, eo122⟩ := Kd.S_slice HO343.out; subst eo122; obtain ⟨hcz123_0, hcz123_1, hcz123_2, hcz123_3, hcz123_4, hcz123_5, hcz123_6, hfz123_0, hfz123_1, hfz123_2, hfz123_3, hfz123_4, hfz123_5, hfz123_6⟩ := cellsF7 BK310.out) | (go_at_call 15; (with_reducible refine (F15.calls kj14 t338 t339 t340 _ _ t341 t344 t345 t346 t301 t302 t303 _ _ t304 t307 t308 t309 false _ ?s1 ?s2 ?s3 ?s4 A54.out).mono ?_); (case s1 => refine (Kd.S_reads' (e := 83) (base := w.heap.size) (ok := fun k_ => (((b9_13 ≤ k_ ∧ some k_ ≠ (.slice Ao22 t304.length co22 : Value).ownBlock) ∧ some k_ ≠ (.slice Ao29 t317.length co29 : Value).ownBlock) ∧ some k_ ≠ (.slice Ao116 t335.length co116 : Value).ownBlock)) (n := t341.length) (c := co122) ?_).2.2; exact au4_20); (case s2 => exact au4_64); (case s3 => refine (Kd.S_reads' (e := 83) (base := w.heap.size) (ok := fun k_ => ((k_ < b9_13 ∧ ((k_ < b9_12 ∧ (some k_ ≠ (.slice Ao29 t317.length co29 : Value).ownBlock ∧ (k_ < b9_5 ∧ (k_ < b9_4 ∧ (k_ < b9_3 ∧ b9_2 ≤ k_))))) ∧ some k_ ≠ (.slice Ao116 t335.length co116 : Value).ownBlock)) ∧ some k_ ≠ (.slice Ao122 t341.length co122 : Value).ownBlock)) (n := t304.length) (c := co22) ?_).2.2; exact au4_15); (case s4 => exact au4_58); rintro e w124 ⟨rfl, hb⟩; (try clear A54); replace HO_311003 := am_ (Kd.S_below au4_15 hb); replace HO_324003 := am_ (Kd.S_below (by (with_reducible repeat (first | apply Kd.S_alloc | apply Kd.S_drewN | apply Kd.S_drew)); exact (Kd.S_mono (Kd.S_far (p := ⟨gb347, 6, none⟩) (Kd.S_far (p := ⟨gb347, 5, none⟩) (Kd.S_far (p := ⟨gb347, 4, none⟩) (Kd.S_far (p := ⟨gb347, 3, none⟩) (Kd.S_far (p := ⟨gb347, 2, none⟩) (Kd.S_far (p := ⟨gb347, 1, none⟩) (Kd.S_far (p := ⟨gb347, 0, none⟩) (Kd.S_types HO_324003.out BK347.out (by decide)) (fun _ hk => hk.2) (.string t338)) (fun _ hk => hk.2) (.string t339)) (fun _ hk => hk.2) (.int .i64 t340)) (fun _ hk => hk.2) (.slice Ao122 t341.length co122)) (fun _ hk => hk.2) (.bool t344)) (fun _ hk => hk.2) (.int .i64 t345)) (fun _ hk => hk.2) (.int .i64 t346)) (fun _ h_ => h_.1))) hb); replace HO337 := am_ (Kd.S_below (by (with_reducible repeat (first | apply Kd.S_alloc | apply Kd.S_drewN | apply Kd.S_drew)); exact (Kd.S_mono (Kd.S_far (p := ⟨gb347, 6, none⟩) (Kd.S_far (p := ⟨gb347, 5, none⟩) (Kd.S_far (p := ⟨gb347, 4, none⟩) (Kd.S_far (p := ⟨gb347, 3, none⟩) (Kd.S_far (p := ⟨gb347, 2, none⟩) (Kd.S_far (p := ⟨gb347, 1, none⟩) (Kd.S_far (p := ⟨gb347, 0, none⟩) (Kd.S_types HO337.out BK347.out (by decide)) (fun _ hk => hk.2) (.string t338)) (fun _ hk => hk.2) (.string t339)) (fun _ hk => hk.2) (.int .i64 t340)) (fun _ hk => hk.2) (.slice Ao122 t341.length co122)) (fun _ hk => hk.2) (.bool t344)) (fun _ hk => hk.2) (.int .i64 t345)) (fun _ hk => hk.2) (.int .i64 t346)) (fun _ h_ => h_.1))) hb); replace HO343 := am_ (Kd.S_below au4_20 hb); replace BK310 := am_ (blk_below (g := gb310) (o := .cells #[.string t301, .string t302, .int .i64 t303, .slice Ao22 t304.length co22, .bool t307, .int .i64 t308, .int .i64 t309] 36 (0, 0)) (bf_ BK310) hb); replace BK323 := am_ (blk_below (g := gb323) (o := .cells #[.string t314, .string t315, .int .i64 t316, .slice Ao29 t317.length co29, .bool t320, .int .i64 t321, .int .i64 t322] 36 (0, 0)) (bf_ BK323) hb); replace BK347 := am_ (blk_below (g := gb347) (o := .cells #[.string t338, .string t339, .int .i64 t340, .slice Ao122 t341.length co122, .bool t344, .int .i64 t345, .int .i64 t346] 36 (0, 0)) (bq_ BK347) hb); replace HB := hs_ w hb; (try clear hb); (try clear hb2); (try clear hk); (try clear hi)))
    go_ret
    exact ⟨au4_1, bl_⟩
   replace H := bi_ H; rcases H with ⟨t349, A56, H⟩
   replace H := it_ H; rcases H with ⟨c57b0, H⟩ | ⟨c57b0, H⟩
   ·obtain rfl := Option.some.inj H
    have hnb58 := NB323_310.out
    have hnc58 := NB310_323.out
    obtain ⟨hcz59_0, hcz59_1, hcz59_2, hcz59_3, hcz59_4, hcz59_5, hcz59_6, hfz59_0, hfz59_1, hfz59_2, hfz59_3, hfz59_4, hfz59_5, hfz59_6⟩ := cellsF7 BK323.out
    go_wp2_with (first | (go_at_call 18; obtain ⟨P9_, HP9_, HQ9_⟩ := pp9_ HO_324003; (with_reducible refine (F18.calls kj14 t314 t315 t316 P9_ (.slice Ao29 t317.length co29) t317 t320 t321 t322 1 t332 t333 w _ ?s1 ?s2 A43.out).mono ?_); (case s1 => exact au4_10); (case s2 => exact au4_34); rintro e w60 ⟨rfl, hy0, hb, hkp⟩; (try clear A43); replace HO_324003 := am_ (Kd.S_mono (ok' := fun k_ => some k_ ≠ (.slice Ao22 t304.length co22 : Value).ownBlock) hy0 (fun k_ h_ => h_.elim (fun p_ => (HQ9_.out _ p_).1.1) (fun n_ => Kd.fresh' (Kd.S_lt au4_0) k_ n_))); replace HO_311003 := am_ (Kd.S_mono (Kd.S_keptB (ok := fun k_ => (some k_ ≠ (.slice Ao29 t317.length co29 : Value).ownBlock ∧ (k_ < b9_5 ∧ (k_ < b9_4 ∧ (k_ < b9_3 ∧ b9_2 ≤ k_))))) au4_0 hkp (fun k_ hk_ hs_ => Nat.not_le.2 (hk_.2.2.1) ((HQ9_.out _ hs_).1.2.2))) (fun k_ hk_ => hk_.1)); replace BK310 := am_ (blk_kept (bk_ BK310) hkp (fun hs_ => nt9_ (HQ9_.out _ hs_).2 (bk_ BK310) (by decide))); replace BK323 := am_ (blk_kept (bk_ BK323) hkp (fun hs_ => nt9_ (HQ9_.out _ hs_).2 (bk_ BK323) (by decide))); replace HB := am_ (hb); (try clear hb); (try clear hkp); (try clear hy0); obtain ⟨hcz61_0, hcz61_1, hcz61_2, hcz61_3, hcz61_4, hcz61_5, hcz61_6, hfz61_0, hfz61_1, hfz61_2, hfz61_3, hfz61_4, hfz61_5, hfz61_6⟩ := cellsF7 BK323.out) | (go_at_call 19; refine calls_of_args (args' := #[.agg #[.string t314, .string t315, .int .i64 t316, .slice Ao29 t333.length co29, .bool t320, .int .i64 t321, .int .i64 t322], .int .i64 1]) au4_13 ?_; (with_reducible refine (F19.calls kj14 t314 t315 t316 _ _ t333 t320 t321 t322 1 t334 _ ?s1 ?s2 A44.out).mono ?_); (case s1 => exact au4_7); (case s2 => exact au4_11); rintro e w62 ⟨rfl, hb⟩; (try clear A44); replace HO_311003 := am_ (Kd.S_below au4_0 hb); replace HO_324003 := am_ (Kd.S_below au4_3 hb); replace BK310 := bb_ BK310 hb; replace BK323 := bb_ BK323 hb; replace HB := hs_ w hb; (try clear hb); (try clear hb2); (try clear hk); (try clear hi)) | (go_at_call 13; (with_reducible refine (F13.calls kj14 _ _ l0 t335 _ ?s1 ?s2 A52.out).mono ?_); (case s1 => exact au4_8); (case s2 => exact HC0.out); rintro e w63 ⟨v336, rfl, ho0, hb⟩; (try clear A52); obtain ⟨b9_6, hb9_6, ho9_6⟩ := nb9_ ho0; replace HO_311003 := am_ (Kd.S_elder' (Kd.S_mono (Kd.S_bound (ok := fun k_ => (some k_ ≠ (.slice Ao29 t317.length co29 : Value).ownBlock ∧ (k_ < b9_5 ∧ (k_ < b9_4 ∧ (k_ < b9_3 ∧ b9_2 ≤ k_))))) au4_0) (fun k_ hk_ => (⟨hb9_6 _ hk_.2.2.1, hk_.1⟩ : k_ < b9_6 ∧ _))) (Kd.S_base ho0) hb); replace HO_324003 := am_ (Kd.S_elder' (Kd.S_mono (Kd.S_bound (ok := fun k_ => some k_ ≠ (.slice Ao22 t304.length co22 : Value).ownBlock) au4_3) (fun k_ hk_ => (⟨hb9_6 _ hk_.2.2.1, hk_.1⟩ : k_ < b9_6 ∧ _))) (Kd.S_base ho0) hb); have HO337 := am_ (Kd.S_lower ho9_6 (below_size bl_)); replace BK310 := bb_ BK310 hb; replace BK323 := bb_ BK323 hb; replace HB := hs_ w hb; (try clear hb); (try clear hb2); (try clear hk); (try clear hi); (try clear ho0); obtain ⟨Ao64, co64, eo64⟩ := Kd.S_slice HO337.out; subst eo64) | (go_at_call 14; (with_reducible refine (F14.calls kj14 _ _ t335 t338 t339 t340 t341 t344 t345 t346 _ ?s1 ?s2 ?s3 A53.out).mono ?_); (case s1 => exact au4_36); (case s2 => exact au4_63); (case s3 => exact au4_41); rintro e w65 ⟨v342, rfl, ho0, hb⟩; (try clear A53); obtain ⟨b9_7, hb9_7, ho9_7⟩ := nb9_ ho0; have HO343 := am_ (Kd.S_lower (Kd.S_new' (Kd.S_new' (Kd.S_new' ho9_7 (Kd.S_lt au4_0)) (Kd.S_lt au4_3)) (Kd.S_lt au4_6)) (below_size bl_)); replace HO_311003 := am_ (Kd.S_elder' (Kd.S_mono (Kd.S_bound (ok := fun k_ => ((k_ < b9_6 ∧ (some k_ ≠ (.slice Ao29 t317.length co29 : Value).ownBlock ∧ (k_ < b9_5 ∧ (k_ < b9_4 ∧ (k_ < b9_3 ∧ b9_2 ≤ k_))))) ∧ some k_ ≠ (.slice Ao64 t335.length co64 : Value).ownBlock)) au4_0) (fun k_ hk_ => (⟨hb9_7 _ hk_.2.2.1, hk_.1⟩ : k_ < b9_7 ∧ _))) (Kd.S_base ho0) hb); replace HO_324003 := am_ (Kd.S_elder' (Kd.S_mono (Kd.S_bound (ok := fun k_ => ((k_ < b9_6 ∧ some k_ ≠ (.slice Ao22 t304.length co22 : Value).ownBlock) ∧ some k_ ≠ (.slice Ao64 t335.length co64 : Value).ownBlock)) au4_3) (fun k_ hk_ => (⟨hb9_7 _ hk_.2.2.1, hk_.1⟩ : k_ < b9_7 ∧ _))) (Kd.S_base ho0) hb); replace HO337 := am_ (Kd.S_below (Kd.S_mono (Kd.S_bound (ok := fun k_ => b9_6 ≤ k_) au4_6) (fun k_ hk_ => (⟨hb9_7 _ hk_.2.2.1, hk_.1⟩ : k_ < b9_7 ∧ _))) hb); replace BK310 := bb_ BK310 hb; replace BK323 := bb_ BK323 hb; replace HB := hs_ w hb; (try clear hb); (try clear hb2); (try clear hk); (try clear hi); (try clear ho0)) | ((with_reducible refine gate_dst (N := 10) rfl ?_); refine be_ 10 #[.string (⟨#[]⟩ : ByteArray), .string (⟨#[]⟩ : ByteArray), .int .i64 0, .slice none 0 0, .bool false, .int .i64 0, .int .i64 0] 36 ?_; intro gb347 hg w66 hbox hb; replace HO_311003 := am_ (Kd.S_below au4_0 hb); replace HO_324003 := am_ (Kd.S_below au4_3 hb); replace HO337 := am_ (Kd.S_below au4_6 hb); replace HO343 := am_ (Kd.S_below au4_33 hb); have BK347 := am_ (hbox); have GW347 := am_ (gw_ hg bl_); have GE347 := GW347; replace HB := hs_ w hb; have NB310_347 := am_ (gn_ hg (blkl_ BK310)); have NB347_310 := am_ (gm_ hg (blkl_ BK310)); replace BK310 := bb_ BK310 hb; have NB323_347 := am_ (gn_ hg (blkl_ BK323)); have NB347_323 := am_ (gm_ hg (blkl_ BK323)); replace BK323 := bb_ BK323 hb; clear hb hbox hg; have hnb67 := NB347_310.out; have hnc67 := NB310_347.out; have hnb68 := NB347_323.out; have hnc68 := NB323_347.out; obtain ⟨hcz69_0, hcz69_1, hcz69_2, hcz69_3, hcz69_4, hcz69_5, hcz69_6, hfz69_0, hfz69_1, hfz69_2, hfz69_3, hfz69_4, hfz69_5, hfz69_6⟩ := cellsF7 BK347.out; obtain ⟨Ao70, co70, eo70⟩ := Kd.S_slice HO343.out; subst eo70; obtain ⟨hcz71_0, hcz71_1, hcz71_2, hcz71_3, hcz71_4, hcz71_5, hcz71_6, hfz71_0, hfz71_1, hfz71_2, hfz71_3, hfz71_4, hfz71_5, hfz71_6⟩ := cellsF7 BK310.out) | (go_at_call 15; (with_reducible refine (F15.calls kj14 t338 t339 t340 _ _ t341 t344 t345 t346 t301 t302 t303 _ _ t304 t307 t308 t309 true _ ?s1 ?s2 ?s3 ?s4 A54.out).mono ?_); (case s1 => refine (Kd.S_reads' (e := 83) (base := w.heap.size) (ok := fun k_ => (((b9_7 ≤ k_ ∧ some k_ ≠ (.slice Ao22 t304.length co22 : Value).ownBlock) ∧ some k_ ≠ (.slice Ao29 t317.length co29 : Value).ownBlock) ∧ some k_ ≠ (.slice Ao64 t335.length co64 : Value).ownBlock)) (n := t341.length) (c := co70) ?_).2.2; exact au4_30); (case s2 => exact au4_64); (case s3 => refine (Kd.S_reads' (e := 83) (base := w.heap.size) (ok := fun k_ => ((k_ < b9_7 ∧ ((k_ < b9_6 ∧ (some k_ ≠ (.slice Ao29 t317.length co29 : Value).ownBlock ∧ (k_ < b9_5 ∧ (k_ < b9_4 ∧ (k_ < b9_3 ∧ b9_2 ≤ k_))))) ∧ some k_ ≠ (.slice Ao64 t335.length co64 : Value).ownBlock)) ∧ some k_ ≠ (.slice Ao70 t341.length co70 : Value).ownBlock)) (n := t304.length) (c := co22) ?_).2.2; exact au4_17); (case s4 => exact au4_58); rintro e w72 ⟨rfl, hb⟩; (try clear A54); replace HO_311003 := am_ (Kd.S_below au4_17 hb); replace HO_324003 := am_ (Kd.S_below (by (with_reducible repeat (first | apply Kd.S_alloc | apply Kd.S_drewN | apply Kd.S_drew)); exact (Kd.S_mono (Kd.S_far (p := ⟨gb347, 6, none⟩) (Kd.S_far (p := ⟨gb347, 5, none⟩) (Kd.S_far (p := ⟨gb347, 4, none⟩) (Kd.S_far (p := ⟨gb347, 3, none⟩) (Kd.S_far (p := ⟨gb347, 2, none⟩) (Kd.S_far (p := ⟨gb347, 1, none⟩) (Kd.S_far (p := ⟨gb347, 0, none⟩) (Kd.S_types HO_324003.out BK347.out (by decide)) (fun _ hk => hk.2) (.string t338)) (fun _ hk => hk.2) (.string t339)) (fun _ hk => hk.2) (.int .i64 t340)) (fun _ hk => hk.2) (.slice Ao70 t341.length co70)) (fun _ hk => hk.2) (.bool t344)) (fun _ hk => hk.2) (.int .i64 t345)) (fun _ hk => hk.2) (.int .i64 t346)) (fun _ h_ => h_.1))) hb); replace HO337 := am_ (Kd.S_below (by (with_reducible repeat (first | apply Kd.S_alloc | apply Kd.S_drewN | apply Kd.S_drew)); exact (Kd.S_mono (Kd.S_far (p := ⟨gb347, 6, none⟩) (Kd.S_far (p := ⟨gb347, 5, none⟩) (Kd.S_far (p := ⟨gb347, 4, none⟩) (Kd.S_far (p := ⟨gb347, 3, none⟩) (Kd.S_far (p := ⟨gb347, 2, none⟩) (Kd.S_far (p := ⟨gb347, 1, none⟩) (Kd.S_far (p := ⟨gb347, 0, none⟩) (Kd.S_types HO337.out BK347.out (by decide)) (fun _ hk => hk.2) (.string t338)) (fun _ hk => hk.2) (.string t339)) (fun _ hk => hk.2) (.int .i64 t340)) (fun _ hk => hk.2) (.slice Ao70 t341.length co70)) (fun _ hk => hk.2) (.bool t344)) (fun _ hk => hk.2) (.int .i64 t345)) (fun _ hk => hk.2) (.int .i64 t346)) (fun _ h_ => h_.1))) hb); replace HO343 := am_ (Kd.S_below au4_30 hb); replace BK310 := am_ (blk_below (g := gb310) (o := .cells #[.string t301, .string t302, .int .i64 t303, .slice Ao22 t304.length co22, .bool t307, .int .i64 t308, .int .i64 t309] 36 (0, 0)) (bf_ BK310) hb); replace BK323 := am_ (blk_below (g := gb323) (o := .cells #[.string t314, .string t315, .int .i64 t316, .slice Ao29 t317.length co29, .bool t320, .int .i64 t321, .int .i64 t322] 36 (0, 0)) (bf_ BK323) hb); replace BK347 := am_ (blk_below (g := gb347) (o := .cells #[.string t338, .string t339, .int .i64 t340, .slice Ao70 t341.length co70, .bool t344, .int .i64 t345, .int .i64 t346] 36 (0, 0)) (bq_ BK347) hb); replace HB := hs_ w hb; (try clear hb); (try clear hb2); (try clear hk); (try clear hi); obtain ⟨hcz73_0, hcz73_1, hcz73_2, hcz73_3, hcz73_4, hcz73_5, hcz73_6, hfz73_0, hfz73_1, hfz73_2, hfz73_3, hfz73_4, hfz73_5, hfz73_6⟩ := cellsF7 BK323.out) | (go_at_call 19; refine calls_of_args (args' := #[.agg #[.string t314, .string t315, .int .i64 t316, .slice Ao29 t333.length co29, .bool t320, .int .i64 t321, .int .i64 t322], .int .i64 1]) au4_13 ?_; (with_reducible refine (F19.calls kj14 t314 t315 t316 _ _ t333 t320 t321 t322 1 t349 _ ?s1 ?s2 A56.out).mono ?_); (case s1 => exact au4_7); (case s2 => exact au4_11); rintro e w74 ⟨rfl, hb⟩; (try clear A56); replace HO_311003 := am_ (Kd.S_below au4_0 hb); replace HO_324003 := am_ (Kd.S_below au4_3 hb); replace HO337 := am_ (Kd.S_below au4_6 hb); replace HO343 := am_ (Kd.S_below au4_33 hb); replace BK310 := bb_ BK310 hb; replace BK323 := bb_ BK323 hb; replace BK347 := bb_ BK347 hb; replace HB := hs_ w hb; (try clear hb); (try clear hb2); (try clear hk); (try clear hi)))
    go_ret
    exact ⟨au4_1, bl_⟩
   by_cases c75 : t349 = t332
   rotate_left
   ·rw [if_neg c75] at H
    have c75b0 : (t349 == t332) = false := beq_eq_false_iff_ne.mpr c75
    have c75b1 : (t349 != t332) = true := bne_iff_ne.mpr c75
    obtain rfl := Option.some.inj H
    have hnb93 := NB323_310.out
    have hnc93 := NB310_323.out
    obtain ⟨hcz94_0, hcz94_1, hcz94_2, hcz94_3, hcz94_4, hcz94_5, hcz94_6, hfz94_0, hfz94_1, hfz94_2, hfz94_3, hfz94_4, hfz94_5, hfz94_6⟩ := cellsF7 BK323.out
    go_wp2_with (first | (go_at_call 18; obtain ⟨P9_, HP9_, HQ9_⟩ := pp9_ HO_324003; (with_reducible refine (F18.calls kj14 t314 t315 t316 P9_ (.slice Ao29 t317.length co29) t317 t320 t321 t322 1 t332 t333 w _ ?s1 ?s2 A43.out).mono ?_); (case s1 => exact au4_10); (case s2 => exact au4_34); rintro e w95 ⟨rfl, hy0, hb, hkp⟩; (try clear A43); replace HO_324003 := am_ (Kd.S_mono (ok' := fun k_ => some k_ ≠ (.slice Ao22 t304.length co22 : Value).ownBlock) hy0 (fun k_ h_ => h_.elim (fun p_ => (HQ9_.out _ p_).1.1) (fun n_ => Kd.fresh' (Kd.S_lt au4_0) k_ n_))); replace HO_311003 := am_ (Kd.S_mono (Kd.S_keptB (ok := fun k_ => (some k_ ≠ (.slice Ao29 t317.length co29 : Value).ownBlock ∧ (k_ < b9_5 ∧ (k_ < b9_4 ∧ (k_ < b9_3 ∧ b9_2 ≤ k_))))) au4_0 hkp (fun k_ hk_ hs_ => Nat.not_le.2 (hk_.2.2.1) ((HQ9_.out _ hs_).1.2.2))) (fun k_ hk_ => hk_.1)); replace BK310 := am_ (blk_kept (bk_ BK310) hkp (fun hs_ => nt9_ (HQ9_.out _ hs_).2 (bk_ BK310) (by decide))); replace BK323 := am_ (blk_kept (bk_ BK323) hkp (fun hs_ => nt9_ (HQ9_.out _ hs_).2 (bk_ BK323) (by decide))); replace HB := am_ (hb); (try clear hb); (try clear hkp); (try clear hy0); obtain ⟨hcz96_0, hcz96_1, hcz96_2, hcz96_3, hcz96_4, hcz96_5, hcz96_6, hfz96_0, hfz96_1, hfz96_2, hfz96_3, hfz96_4, hfz96_5, hfz96_6⟩ := cellsF7 BK323.out) | (go_at_call 19; refine calls_of_args (args' := #[.agg #[.string t314, .string t315, .int .i64 t316, .slice Ao29 t333.length co29, .bool t320, .int .i64 t321, .int .i64 t322], .int .i64 1]) au4_13 ?_; (with_reducible refine (F19.calls kj14 t314 t315 t316 _ _ t333 t320 t321 t322 1 t334 _ ?s1 ?s2 A44.out).mono ?_); (case s1 => exact au4_7); (case s2 => exact au4_11); rintro e w97 ⟨rfl, hb⟩; (try clear A44); replace HO_311003 := am_ (Kd.S_below au4_0 hb); replace HO_324003 := am_ (Kd.S_below au4_3 hb); replace BK310 := bb_ BK310 hb; replace BK323 := bb_ BK323 hb; replace HB := hs_ w hb; (try clear hb); (try clear hb2); (try clear hk); (try clear hi)) | (go_at_call 13; (with_reducible refine (F13.calls kj14 _ _ l0 t335 _ ?s1 ?s2 A52.out).mono ?_); (case s1 => exact au4_8); (case s2 => exact HC0.out); rintro e w98 ⟨v336, rfl, ho0, hb⟩; (try clear A52); obtain ⟨b9_10, hb9_10, ho9_10⟩ := nb9_ ho0; replace HO_311003 := am_ (Kd.S_elder' (Kd.S_mono (Kd.S_bound (ok := fun k_ => (some k_ ≠ (.slice Ao29 t317.length co29 : Value).ownBlock ∧ (k_ < b9_5 ∧ (k_ < b9_4 ∧ (k_ < b9_3 ∧ b9_2 ≤ k_))))) au4_0) (fun k_ hk_ => (⟨hb9_10 _ hk_.2.2.1, hk_.1⟩ : k_ < b9_10 ∧ _))) (Kd.S_base ho0) hb); replace HO_324003 := am_ (Kd.S_elder' (Kd.S_mono (Kd.S_bound (ok := fun k_ => some k_ ≠ (.slice Ao22 t304.length co22 : Value).ownBlock) au4_3) (fun k_ hk_ => (⟨hb9_10 _ hk_.2.2.1, hk_.1⟩ : k_ < b9_10 ∧ _))) (Kd.S_base ho0) hb); have HO337 := am_ (Kd.S_lower ho9_10 (below_size bl_)); replace BK310 := bb_ BK310 hb; replace BK323 := bb_ BK323 hb; replace HB := hs_ w hb; (try clear hb); (try clear hb2); (try clear hk); (try clear hi); (try clear ho0); obtain ⟨Ao99, co99, eo99⟩ := Kd.S_slice HO337.out; subst eo99) | (go_at_call 14; (with_reducible refine (F14.calls kj14 _ _ t335 t338 t339 t340 t341 t344 t345 t346 _ ?s1 ?s2 ?s3 A53.out).mono ?_); (case s1 => exact au4_36); (case s2 => exact au4_63); (case s3 => exact au4_41); rintro e w100 ⟨v342, rfl, ho0, hb⟩; (try clear A53); obtain ⟨b9_11, hb9_11, ho9_11⟩ := nb9_ ho0; have HO343 := am_ (Kd.S_lower (Kd.S_new' (Kd.S_new' (Kd.S_new' ho9_11 (Kd.S_lt au4_0)) (Kd.S_lt au4_3)) (Kd.S_lt au4_6)) (below_size bl_)); replace HO_311003 := am_ (Kd.S_elder' (Kd.S_mono (Kd.S_bound (ok := fun k_ => ((k_ < b9_10 ∧ (some k_ ≠ (.slice Ao29 t317.length co29 : Value).ownBlock ∧ (k_ < b9_5 ∧ (k_ < b9_4 ∧ (k_ < b9_3 ∧ b9_2 ≤ k_))))) ∧ some k_ ≠ (.slice Ao99 t335.length co99 : Value).ownBlock)) au4_0) (fun k_ hk_ => (⟨hb9_11 _ hk_.2.2.1, hk_.1⟩ : k_ < b9_11 ∧ _))) (Kd.S_base ho0) hb); replace HO_324003 := am_ (Kd.S_elder' (Kd.S_mono (Kd.S_bound (ok := fun k_ => ((k_ < b9_10 ∧ some k_ ≠ (.slice Ao22 t304.length co22 : Value).ownBlock) ∧ some k_ ≠ (.slice Ao99 t335.length co99 : Value).ownBlock)) au4_3) (fun k_ hk_ => (⟨hb9_11 _ hk_.2.2.1, hk_.1⟩ : k_ < b9_11 ∧ _))) (Kd.S_base ho0) hb); replace HO337 := am_ (Kd.S_below (Kd.S_mono (Kd.S_bound (ok := fun k_ => b9_10 ≤ k_) au4_6) (fun k_ hk_ => (⟨hb9_11 _ hk_.2.2.1, hk_.1⟩ : k_ < b9_11 ∧ _))) hb); replace BK310 := bb_ BK310 hb; replace BK323 := bb_ BK323 hb; replace HB := hs_ w hb; (try clear hb); (try clear hb2); (try clear hk); (try clear hi); (try clear ho0)) | ((with_reducible refine gate_dst (N := 10) rfl ?_); refine be_ 10 #[.string (⟨#[]⟩ : ByteArray), .string (⟨#[]⟩ : ByteArray), .int .i64 0, .slice none 0 0, .bool false, .int .i64 0, .int .i64 0] 36 ?_; intro gb347 hg w101 hbox hb; replace HO_311003 := am_ (Kd.S_below au4_0 hb); replace HO_324003 := am_ (Kd.S_below au4_3 hb); replace HO337 := am_ (Kd.S_below au4_6 hb); replace HO343 := am_ (Kd.S_below au4_33 hb); have BK347 := am_ (hbox); have GW347 := am_ (gw_ hg bl_); have GE347 := GW347; replace HB := hs_ w hb; have NB310_347 := am_ (gn_ hg (blkl_ BK310)); have NB347_310 := am_ (gm_ hg (blkl_ BK310)); replace BK310 := bb_ BK310 hb; have NB323_347 := am_ (gn_ hg (blkl_ BK323)); have NB347_323 := am_ (gm_ hg (blkl_ BK323)); replace BK323 := bb_ BK323 hb; clear hb hbox hg; have hnb102 := NB347_310.out; have hnc102 := NB310_347.out; have hnb103 := NB347_323.out; have hnc103 := NB323_347.out; obtain ⟨hcz104_0, hcz104_1, hcz104_2, hcz104_3, hcz104_4, hcz104_5, hcz104_6, hfz104_0, hfz104_1, hfz104_2, hfz104_3, hfz104_4, hfz104_5, hfz104_6⟩ := cellsF7 BK347.out; obtain ⟨Ao105, co105, eo105⟩ := Kd.S_slice HO343.out; subst eo105; obtain ⟨hcz106_0, hcz106_1, hcz106_2, hcz106_3, hcz106_4, hcz106_5, hcz106_6, hfz106_0, hfz106_1, hfz106_2, hfz106_3, hfz106_4, hfz106_5, hfz106_6⟩ := cellsF7 BK310.out) | (go_at_call 15; (with_reducible refine (F15.calls kj14 t338 t339 t340 _ _ t341 t344 t345 t346 t301 t302 t303 _ _ t304 t307 t308 t309 true _ ?s1 ?s2 ?s3 ?s4 A54.out).mono ?_); (case s1 => refine (Kd.S_reads' (e := 83) (base := w.heap.size) (ok := fun k_ => (((b9_11 ≤ k_ ∧ some k_ ≠ (.slice Ao22 t304.length co22 : Value).ownBlock) ∧ some k_ ≠ (.slice Ao29 t317.length co29 : Value).ownBlock) ∧ some k_ ≠ (.slice Ao99 t335.length co99 : Value).ownBlock)) (n := t341.length) (c := co105) ?_).2.2; exact au4_19); (case s2 => exact au4_64); (case s3 => refine (Kd.S_reads' (e := 83) (base := w.heap.size) (ok := fun k_ => ((k_ < b9_11 ∧ ((k_ < b9_10 ∧ (some k_ ≠ (.slice Ao29 t317.length co29 : Value).ownBlock ∧ (k_ < b9_5 ∧ (k_ < b9_4 ∧ (k_ < b9_3 ∧ b9_2 ≤ k_))))) ∧ some k_ ≠ (.slice Ao99 t335.length co99 : Value).ownBlock)) ∧ some k_ ≠ (.slice Ao105 t341.length co105 : Value).ownBlock)) (n := t304.length) (c := co22) ?_).2.2; exact au4_14); (case s4 => exact au4_58); rintro e w107 ⟨rfl, hb⟩; (try clear A54); replace HO_311003 := am_ (Kd.S_below au4_14 hb); replace HO_324003 := am_ (Kd.S_below (by (with_reducible repeat (first | apply Kd.S_alloc | apply Kd.S_drewN | apply Kd.S_drew)); exact (Kd.S_mono (Kd.S_far (p := ⟨gb347, 6, none⟩) (Kd.S_far (p := ⟨gb347, 5, none⟩) (Kd.S_far (p := ⟨gb347, 4, none⟩) (Kd.S_far (p := ⟨gb347, 3, none⟩) (Kd.S_far (p := ⟨gb347, 2, none⟩) (Kd.S_far (p := ⟨gb347, 1, none⟩) (Kd.S_far (p := ⟨gb347, 0, none⟩) (Kd.S_types HO_324003.out BK347.out (by decide)) (fun _ hk => hk.2) (.string t338)) (fun _ hk => hk.2) (.string t339)) (fun _ hk => hk.2) (.int .i64 t340)) (fun _ hk => hk.2) (.slice Ao105 t341.length co105)) (fun _ hk => hk.2) (.bool t344)) (fun _ hk => hk.2) (.int .i64 t345)) (fun _ hk => hk.2) (.int .i64 t346)) (fun _ h_ => h_.1))) hb); replace HO337 := am_ (Kd.S_below (by (with_reducible repeat (first | apply Kd.S_alloc | apply Kd.S_drewN | apply Kd.S_drew)); exact (Kd.S_mono (Kd.S_far (p := ⟨gb347, 6, none⟩) (Kd.S_far (p := ⟨gb347, 5, none⟩) (Kd.S_far (p := ⟨gb347, 4, none⟩) (Kd.S_far (p := ⟨gb347, 3, none⟩) (Kd.S_far (p := ⟨gb347, 2, none⟩) (Kd.S_far (p := ⟨gb347, 1, none⟩) (Kd.S_far (p := ⟨gb347, 0, none⟩) (Kd.S_types HO337.out BK347.out (by decide)) (fun _ hk => hk.2) (.string t338)) (fun _ hk => hk.2) (.string t339)) (fun _ hk => hk.2) (.int .i64 t340)) (fun _ hk => hk.2) (.slice Ao105 t341.length co105)) (fun _ hk => hk.2) (.bool t344)) (fun _ hk => hk.2) (.int .i64 t345)) (fun _ hk => hk.2) (.int .i64 t346)) (fun _ h_ => h_.1))) hb); replace HO343 := am_ (Kd.S_below au4_19 hb); replace BK310 := am_ (blk_below (g := gb310) (o := .cells #[.string t301, .string t302, .int .i64 t303, .slice Ao22 t304.length co22, .bool t307, .int .i64 t308, .int .i64 t309] 36 (0, 0)) (bf_ BK310) hb); replace BK323 := am_ (blk_below (g := gb323) (o := .cells #[.string t314, .string t315, .int .i64 t316, .slice Ao29 t317.length co29, .bool t320, .int .i64 t321, .int .i64 t322] 36 (0, 0)) (bf_ BK323) hb); replace BK347 := am_ (blk_below (g := gb347) (o := .cells #[.string t338, .string t339, .int .i64 t340, .slice Ao105 t341.length co105, .bool t344, .int .i64 t345, .int .i64 t346] 36 (0, 0)) (bq_ BK347) hb); replace HB := hs_ w hb; (try clear hb); (try clear hb2); (try clear hk); (try clear hi); obtain ⟨hcz108_0, hcz108_1, hcz108_2, hcz108_3, hcz108_4, hcz108_5, hcz108_6, hfz108_0, hfz108_1, hfz108_2, hfz108_3, hfz108_4, hfz108_5, hfz108_6⟩ := cellsF7 BK323.out) | (go_at_call 19; refine calls_of_args (args' := #[.agg #[.string t314, .string t315, .int .i64 t316, .slice Ao29 t333.length co29, .bool t320, .int .i64 t321, .int .i64 t322], .int .i64 1]) au4_13 ?_; (with_reducible refine (F19.calls kj14 t314 t315 t316 _ _ t333 t320 t321 t322 1 t349 _ ?s1 ?s2 A56.out).mono ?_); (case s1 => exact au4_7); (case s2 => exact au4_11); rintro e w109 ⟨rfl, hb⟩; (try clear A56); replace HO_311003 := am_ (Kd.S_below au4_0 hb); replace HO_324003 := am_ (Kd.S_below au4_3 hb); replace HO337 := am_ (Kd.S_below au4_6 hb); replace HO343 := am_ (Kd.S_below au4_33 hb); replace BK310 := bb_ BK310 hb; replace BK323 := bb_ BK323 hb; replace BK347 := bb_ BK347 hb; replace HB := hs_ w hb; (try clear hb); (try clear hb2); (try clear hk); (try clear hi)))
    go_ret
    exact ⟨au4_1, bl_⟩
   rw [if_pos c75] at H
   have c75b0 : (t349 == t332) = true := beq_iff_eq.mpr c75
   have c75b1 : (t349 != t332) = false := bne_eq_false_iff_eq.mpr c75
   clear c75
   obtain rfl := Option.some.inj H
   have hnb76 := NB323_310.out
   have hnc76 := NB310_323.out
   obtain ⟨hcz77_0, hcz77_1, hcz77_2, hcz77_3, hcz77_4, hcz77_5, hcz77_6, hfz77_0, hfz77_1, hfz77_2, hfz77_3, hfz77_4, hfz77_5, hfz77_6⟩ := cellsF7 BK323.out
   go_wp2_with (first | (go_at_call 18; obtain ⟨P9_, HP9_, HQ9_⟩ := pp9_ HO_324003; (with_reducible refine (F18.calls kj14 t314 t315 t316 P9_ (.slice Ao29 t317.length co29) t317 t320 t321 t322 1 t332 t333 w _ ?s1 ?s2 A43.out).mono ?_); (case s1 => exact au4_10); (case s2 => exact au4_34); rintro e w78 ⟨rfl, hy0, hb, hkp⟩; (try clear A43); replace HO_324003 := am_ (Kd.S_mono (ok' := fun k_ => some k_ ≠ (.slice Ao22 t304.length co22 : Value).ownBlock) hy0 (fun k_ h_ => h_.elim (fun p_ => (HQ9_.out _ p_).1.1) (fun n_ => Kd.fresh' (Kd.S_lt au4_0) k_ n_))); replace HO_311003 := am_ (Kd.S_mono (Kd.S_keptB (ok := fun k_ => (some k_ ≠ (.slice Ao29 t317.length co29 : Value).ownBlock ∧ (k_ < b9_5 ∧ (k_ < b9_4 ∧ (k_ < b9_3 ∧ b9_2 ≤ k_))))) au4_0 hkp (fun k_ hk_ hs_ => Nat.not_le.2 (hk_.2.2.1) ((HQ9_.out _ hs_).1.2.2))) (fun k_ hk_ => hk_.1)); replace BK310 := am_ (blk_kept (bk_ BK310) hkp (fun hs_ => nt9_ (HQ9_.out _ hs_).2 (bk_ BK310) (by decide))); replace BK323 := am_ (blk_kept (bk_ BK323) hkp (fun hs_ => nt9_ (HQ9_.out _ hs_).2 (bk_ BK323) (by decide))); replace HB := am_ (hb); (try clear hb); (try clear hkp); (try clear hy0); obtain ⟨hcz79_0, hcz79_1, hcz79_2, hcz79_3, hcz79_4, hcz79_5, hcz79_6, hfz79_0, hfz79_1, hfz79_2, hfz79_3, hfz79_4, hfz79_5, hfz79_6⟩ := cellsF7 BK323.out) | (go_at_call 19; refine calls_of_args (args' := #[.agg #[.string t314, .string t315, .int .i64 t316, .slice Ao29 t333.length co29, .bool t320, .int .i64 t321, .int .i64 t322], .int .i64 1]) au4_13 ?_; (with_reducible refine (F19.calls kj14 t314 t315 t316 _ _ t333 t320 t321 t322 1 t334 _ ?s1 ?s2 A44.out).mono ?_); (case s1 => exact au4_7); (case s2 => exact au4_11); rintro e w80 ⟨rfl, hb⟩; (try clear A44); replace HO_311003 := am_ (Kd.S_below au4_0 hb); replace HO_324003 := am_ (Kd.S_below au4_3 hb); replace BK310 := bb_ BK310 hb; replace BK323 := bb_ BK323 hb; replace HB := hs_ w hb; (try clear hb); (try clear hb2); (try clear hk); (try clear hi)) | (go_at_call 13; (with_reducible refine (F13.calls kj14 _ _ l0 t335 _ ?s1 ?s2 A52.out).mono ?_); (case s1 => exact au4_8); (case s2 => exact HC0.out); rintro e w81 ⟨v336, rfl, ho0, hb⟩; (try clear A52); obtain ⟨b9_8, hb9_8, ho9_8⟩ := nb9_ ho0; replace HO_311003 := am_ (Kd.S_elder' (Kd.S_mono (Kd.S_bound (ok := fun k_ => (some k_ ≠ (.slice Ao29 t317.length co29 : Value).ownBlock ∧ (k_ < b9_5 ∧ (k_ < b9_4 ∧ (k_ < b9_3 ∧ b9_2 ≤ k_))))) au4_0) (fun k_ hk_ => (⟨hb9_8 _ hk_.2.2.1, hk_.1⟩ : k_ < b9_8 ∧ _))) (Kd.S_base ho0) hb); replace HO_324003 := am_ (Kd.S_elder' (Kd.S_mono (Kd.S_bound (ok := fun k_ => some k_ ≠ (.slice Ao22 t304.length co22 : Value).ownBlock) au4_3) (fun k_ hk_ => (⟨hb9_8 _ hk_.2.2.1, hk_.1⟩ : k_ < b9_8 ∧ _))) (Kd.S_base ho0) hb); have HO337 := am_ (Kd.S_lower ho9_8 (below_size bl_)); replace BK310 := bb_ BK310 hb; replace BK323 := bb_ BK323 hb; replace HB := hs_ w hb; (try clear hb); (try clear hb2); (try clear hk); (try clear hi); (try clear ho0); obtain ⟨Ao82, co82, eo82⟩ := Kd.S_slice HO337.out; subst eo82) | (go_at_call 14; (with_reducible refine (F14.calls kj14 _ _ t335 t338 t339 t340 t341 t344 t345 t346 _ ?s1 ?s2 ?s3 A53.out).mono ?_); (case s1 => exact au4_36); (case s2 => exact au4_63); (case s3 => exact au4_41); rintro e w83 ⟨v342, rfl, ho0, hb⟩; (try clear A53); obtain ⟨b9_9, hb9_9, ho9_9⟩ := nb9_ ho0; have HO343 := am_ (Kd.S_lower (Kd.S_new' (Kd.S_new' (Kd.S_new' ho9_9 (Kd.S_lt au4_0)) (Kd.S_lt au4_3)) (Kd.S_lt au4_6)) (below_size bl_)); replace HO_311003 := am_ (Kd.S_elder' (Kd.S_mono (Kd.S_bound (ok := fun k_ => ((k_ < b9_8 ∧ (some k_ ≠ (.slice Ao29 t317.length co29 : Value).ownBlock ∧ (k_ < b9_5 ∧ (k_ < b9_4 ∧ (k_ < b9_3 ∧ b9_2 ≤ k_))))) ∧ some k_ ≠ (.slice Ao82 t335.length co82 : Value).ownBlock)) au4_0) (fun k_ hk_ => (⟨hb9_9 _ hk_.2.2.1, hk_.1⟩ : k_ < b9_9 ∧ _))) (Kd.S_base ho0) hb); replace HO_324003 := am_ (Kd.S_elder' (Kd.S_mono (Kd.S_bound (ok := fun k_ => ((k_ < b9_8 ∧ some k_ ≠ (.slice Ao22 t304.length co22 : Value).ownBlock) ∧ some k_ ≠ (.slice Ao82 t335.length co82 : Value).ownBlock)) au4_3) (fun k_ hk_ => (⟨hb9_9 _ hk_.2.2.1, hk_.1⟩ : k_ < b9_9 ∧ _))) (Kd.S_base ho0) hb); replace HO337 := am_ (Kd.S_below (Kd.S_mono (Kd.S_bound (ok := fun k_ => b9_8 ≤ k_) au4_6) (fun k_ hk_ => (⟨hb9_9 _ hk_.2.2.1, hk_.1⟩ : k_ < b9_9 ∧ _))) hb); replace BK310 := bb_ BK310 hb; replace BK323 := bb_ BK323 hb; replace HB := hs_ w hb; (try clear hb); (try clear hb2); (try clear hk); (try clear hi); (try clear ho0)) | ((with_reducible refine gate_dst (N := 10) rfl ?_); refine be_ 10 #[.string (⟨#[]⟩ : ByteArray), .string (⟨#[]⟩ : ByteArray), .int .i64 0, .slice none 0 0, .bool false, .int .i64 0, .int .i64 0] 36 ?_; intro gb347 hg w84 hbox hb; replace HO_311003 := am_ (Kd.S_below au4_0 hb); replace HO_324003 := am_ (Kd.S_below au4_3 hb); replace HO337 := am_ (Kd.S_below au4_6 hb); replace HO343 := am_ (Kd.S_below au4_33 hb); have BK347 := am_ (hbox); have GW347 := am_ (gw_ hg bl_); have GE347 := GW347; replace HB := hs_ w hb; have NB310_347 := am_ (gn_ hg (blkl_ BK310)); have NB347_310 := am_ (gm_ hg (blkl_ BK310)); replace BK310 := bb_ BK310 hb; have NB323_347 := am_ (gn_ hg (blkl_ BK323)); have NB347_323 := am_ (gm_ hg (blkl_ BK323)); replace BK323 := bb_ BK323 hb; clear hb hbox hg; have hnb85 := NB347_310.out; have hnc85 := NB310_347.out; have hnb86 := NB347_323.out; have hnc86 := NB323_347.out; obtain ⟨hcz87_0, hcz87_1, hcz87_2, hcz87_3, hcz87_4, hcz87_5, hcz87_6, hfz87_0, hfz87_1, hfz87_2, hfz87_3, hfz87_4, hfz87_5, hfz87_6⟩ := cellsF7 BK347.out; obtain ⟨Ao88, co88, eo88⟩ := Kd.S_slice HO343.out; subst eo88; obtain ⟨hcz89_0, hcz89_1, hcz89_2, hcz89_3, hcz89_4, hcz89_5, hcz89_6, hfz89_0, hfz89_1, hfz89_2, hfz89_3, hfz89_4, hfz89_5, hfz89_6⟩ := cellsF7 BK310.out) | (go_at_call 15; (with_reducible refine (F15.calls kj14 t338 t339 t340 _ _ t341 t344 t345 t346 t301 t302 t303 _ _ t304 t307 t308 t309 true _ ?s1 ?s2 ?s3 ?s4 A54.out).mono ?_); (case s1 => refine (Kd.S_reads' (e := 83) (base := w.heap.size) (ok := fun k_ => (((b9_9 ≤ k_ ∧ some k_ ≠ (.slice Ao22 t304.length co22 : Value).ownBlock) ∧ some k_ ≠ (.slice Ao29 t317.length co29 : Value).ownBlock) ∧ some k_ ≠ (.slice Ao82 t335.length co82 : Value).ownBlock)) (n := t341.length) (c := co88) ?_).2.2; exact au4_31); (case s2 => exact au4_64); (case s3 => refine (Kd.S_reads' (e := 83) (base := w.heap.size) (ok := fun k_ => ((k_ < b9_9 ∧ ((k_ < b9_8 ∧ (some k_ ≠ (.slice Ao29 t317.length co29 : Value).ownBlock ∧ (k_ < b9_5 ∧ (k_ < b9_4 ∧ (k_ < b9_3 ∧ b9_2 ≤ k_))))) ∧ some k_ ≠ (.slice Ao82 t335.length co82 : Value).ownBlock)) ∧ some k_ ≠ (.slice Ao88 t341.length co88 : Value).ownBlock)) (n := t304.length) (c := co22) ?_).2.2; exact au4_18); (case s4 => exact au4_58); rintro e w90 ⟨rfl, hb⟩; (try clear A54); replace HO_311003 := am_ (Kd.S_below au4_18 hb); replace HO_324003 := am_ (Kd.S_below (by (with_reducible repeat (first | apply Kd.S_alloc | apply Kd.S_drewN | apply Kd.S_drew)); exact (Kd.S_mono (Kd.S_far (p := ⟨gb347, 6, none⟩) (Kd.S_far (p := ⟨gb347, 5, none⟩) (Kd.S_far (p := ⟨gb347, 4, none⟩) (Kd.S_far (p := ⟨gb347, 3, none⟩) (Kd.S_far (p := ⟨gb347, 2, none⟩) (Kd.S_far (p := ⟨gb347, 1, none⟩) (Kd.S_far (p := ⟨gb347, 0, none⟩) (Kd.S_types HO_324003.out BK347.out (by decide)) (fun _ hk => hk.2) (.string t338)) (fun _ hk => hk.2) (.string t339)) (fun _ hk => hk.2) (.int .i64 t340)) (fun _ hk => hk.2) (.slice Ao88 t341.length co88)) (fun _ hk => hk.2) (.bool t344)) (fun _ hk => hk.2) (.int .i64 t345)) (fun _ hk => hk.2) (.int .i64 t346)) (fun _ h_ => h_.1))) hb); replace HO337 := am_ (Kd.S_below (by (with_reducible repeat (first | apply Kd.S_alloc | apply Kd.S_drewN | apply Kd.S_drew)); exact (Kd.S_mono (Kd.S_far (p := ⟨gb347, 6, none⟩) (Kd.S_far (p := ⟨gb347, 5, none⟩) (Kd.S_far (p := ⟨gb347, 4, none⟩) (Kd.S_far (p := ⟨gb347, 3, none⟩) (Kd.S_far (p := ⟨gb347, 2, none⟩) (Kd.S_far (p := ⟨gb347, 1, none⟩) (Kd.S_far (p := ⟨gb347, 0, none⟩) (Kd.S_types HO337.out BK347.out (by decide)) (fun _ hk => hk.2) (.string t338)) (fun _ hk => hk.2) (.string t339)) (fun _ hk => hk.2) (.int .i64 t340)) (fun _ hk => hk.2) (.slice Ao88 t341.length co88)) (fun _ hk => hk.2) (.bool t344)) (fun _ hk => hk.2) (.int .i64 t345)) (fun _ hk => hk.2) (.int .i64 t346)) (fun _ h_ => h_.1))) hb); replace HO343 := am_ (Kd.S_below au4_31 hb); replace BK310 := am_ (blk_below (g := gb310) (o := .cells #[.string t301, .string t302, .int .i64 t303, .slice Ao22 t304.length co22, .bool t307, .int .i64 t308, .int .i64 t309] 36 (0, 0)) (bf_ BK310) hb); replace BK323 := am_ (blk_below (g := gb323) (o := .cells #[.string t314, .string t315, .int .i64 t316, .slice Ao29 t317.length co29, .bool t320, .int .i64 t321, .int .i64 t322] 36 (0, 0)) (bf_ BK323) hb); replace BK347 := am_ (blk_below (g := gb347) (o := .cells #[.string t338, .string t339, .int .i64 t340, .slice Ao88 t341.length co88, .bool t344, .int .i64 t345, .int .i64 t346] 36 (0, 0)) (bq_ BK347) hb); replace HB := hs_ w hb; (try clear hb); (try clear hb2); (try clear hk); (try clear hi); obtain ⟨hcz91_0, hcz91_1, hcz91_2, hcz91_3, hcz91_4, hcz91_5, hcz91_6, hfz91_0, hfz91_1, hfz91_2, hfz91_3, hfz91_4, hfz91_5, hfz91_6⟩ := cellsF7 BK323.out) | (go_at_call 19; refine calls_of_args (args' := #[.agg #[.string t314, .string t315, .int .i64 t316, .slice Ao29 t333.length co29, .bool t320, .int .i64 t321, .int .i64 t322], .int .i64 1]) au4_13 ?_; (with_reducible refine (F19.calls kj14 t314 t315 t316 _ _ t333 t320 t321 t322 1 t349 _ ?s1 ?s2 A56.out).mono ?_); (case s1 => exact au4_7); (case s2 => exact au4_11); rintro e w92 ⟨rfl, hb⟩; (try clear A56); replace HO_311003 := am_ (Kd.S_below au4_0 hb); replace HO_324003 := am_ (Kd.S_below au4_3 hb); replace HO337 := am_ (Kd.S_below au4_6 hb); replace HO343 := am_ (Kd.S_below au4_33 hb); replace BK310 := bb_ BK310 hb; replace BK323 := bb_ BK323 hb; replace BK347 := bb_ BK347 hb; replace HB := hs_ w hb; (try clear hb); (try clear hb2); (try clear hk); (try clear hi)))
   go_ret
   exact ⟨au4_1, bl_⟩
/-- THE ONE PURE STATEMENT of F4: yours. -/
def F4.Pure : Prop := ∀ (l0 : List (S63)), (fun xs_ : List (S63) => xs_.length ≤ maxLen ∧ ∀ x_ ∈ xs_, q63 x_) l0 → ∃ k, F4.f k l0 = some true
end Go.Proofs.YtlghcbmkhdibdaaDoor.PFnExactHeadOf
