-- printed by a program of this session (wip/xp/xprint.py) out of the translation; Lean checks it
import Derived.Test.YtjffakoifpldeaaPFnTakeOncex0
import Derived.Test.YtjffakoifpldeaaPFnTakeOncex2
import Derived.Test.YtjffakoifpldeaaPFnTakeOncex3
import Derived.Test.YtjffakoifpldeaaPFnTakeOncex4
import Derived.Test.YtjffakoifpldeaaPFnTakeOncex8
namespace Go.Proofs.Ytjffakoifpldeaa.PFnTakeOnce
open Go.RowKit Go.Proofs.YtjffakoifpldeaaW.PrintWords Go.Proofs.YtjffakoifpldeaaW.PrintLast Go.Proofs.YtjffakoifpldeaaW.PrintMore
attribute [local go_sem] max2_int min2_int max_two min_two max_three min_three max_four min_four   -- for this text's walks alone
set_option linter.unusedVariables false
set_option linter.unusedSimpArgs false

theorem au9_0 {p : Prop} (h : p := by (with_reducible repeat (first | refine blk_drewN ?_ _ | refine blk_drew ?_ | refine blk_alloc ?_ _)); refine blk_put (cs := #[.string t203, .int .i64 t204, .int .i64 t205, .slice A0_3 l0_3.length c0_3]) ?_ 3 _ rfl; (with_reducible repeat (first | refine blk_drewN ?_ _ | refine blk_drew ?_ | refine blk_alloc ?_ _)); refine blk_put (cs := #[.string t203, .int .i64 t204, .int .i64 a0_2, .slice A0_3 l0_3.length c0_3]) ?_ 2 _ rfl; (with_reducible repeat (first | refine blk_drewN ?_ _ | refine blk_drew ?_ | refine blk_alloc ?_ _)); refine blk_put (cs := #[.string t203, .int .i64 a0_1, .int .i64 a0_2, .slice A0_3 l0_3.length c0_3]) ?_ 1 _ rfl; (with_reducible repeat (first | refine blk_drewN ?_ _ | refine blk_drew ?_ | refine blk_alloc ?_ _)); refine blk_put (cs := #[.string a0_0, .int .i64 a0_1, .int .i64 a0_2, .slice A0_3 l0_3.length c0_3]) ?_ 0 _ rfl; (with_reducible repeat (first | refine blk_drewN ?_ _ | refine blk_drew ?_ | refine blk_alloc ?_ _)); exact BK198.out) : p := h
theorem au9_1 {p : Prop} (h : p := by (with_reducible repeat (first | refine blk_drewN ?_ _ | refine blk_drew ?_ | refine blk_alloc ?_ _)); refine blk_put (cs := #[.string (⟨#[]⟩ : ByteArray), .int .i64 0, .int .i64 0, .slice none 0 0, .int .i64 0, .int .i64 0, .int .i64 0, .int .i64 0, .int .i64 0]) ?_ 8 _ rfl; (with_reducible repeat (first | refine blk_drewN ?_ _ | refine blk_drew ?_ | refine blk_alloc ?_ _)); refine blk_put (cs := #[.string (⟨#[]⟩ : ByteArray), .int .i64 0, .int .i64 0, .slice none 0 0, .int .i64 0, .int .i64 0, .int .i64 0, .int .i64 0, .int .i64 0]) ?_ 7 _ rfl; (with_reducible repeat (first | refine blk_drewN ?_ _ | refine blk_drew ?_ | refine blk_alloc ?_ _)); refine blk_put (cs := #[.string (⟨#[]⟩ : ByteArray), .int .i64 0, .int .i64 0, .slice none 0 0, .int .i64 0, .int .i64 0, .int .i64 0, .int .i64 0, .int .i64 0]) ?_ 6 _ rfl; (with_reducible repeat (first | refine blk_drewN ?_ _ | refine blk_drew ?_ | refine blk_alloc ?_ _)); refine blk_put (cs := #[.string (⟨#[]⟩ : ByteArray), .int .i64 0, .int .i64 0, .slice none 0 0, .int .i64 0, .int .i64 0, .int .i64 0, .int .i64 0, .int .i64 0]) ?_ 5 _ rfl; (with_reducible repeat (first | refine blk_drewN ?_ _ | refine blk_drew ?_ | refine blk_alloc ?_ _)); refine blk_put (cs := #[.string (⟨#[]⟩ : ByteArray), .int .i64 0, .int .i64 0, .slice none 0 0, .int .i64 0, .int .i64 0, .int .i64 0, .int .i64 0, .int .i64 0]) ?_ 4 _ rfl; (with_reducible repeat (first | refine blk_drewN ?_ _ | refine blk_drew ?_ | refine blk_alloc ?_ _)); refine blk_put (cs := #[.string (⟨#[]⟩ : ByteArray), .int .i64 0, .int .i64 0, .slice none 0 0, .int .i64 0, .int .i64 0, .int .i64 0, .int .i64 0, .int .i64 0]) ?_ 3 _ rfl; (with_reducible repeat (first | refine blk_drewN ?_ _ | refine blk_drew ?_ | refine blk_alloc ?_ _)); refine blk_put (cs := #[.string (⟨#[]⟩ : ByteArray), .int .i64 0, .int .i64 0, .slice none 0 0, .int .i64 0, .int .i64 0, .int .i64 0, .int .i64 0, .int .i64 0]) ?_ 2 _ rfl; (with_reducible repeat (first | refine blk_drewN ?_ _ | refine blk_drew ?_ | refine blk_alloc ?_ _)); refine blk_put (cs := #[.string (⟨#[]⟩ : ByteArray), .int .i64 0, .int .i64 0, .slice none 0 0, .int .i64 0, .int .i64 0, .int .i64 0, .int .i64 0, .int .i64 0]) ?_ 1 _ rfl; (with_reducible repeat (first | refine blk_drewN ?_ _ | refine blk_drew ?_ | refine blk_alloc ?_ _)); refine blk_put (cs := #[.string (⟨#[]⟩ : ByteArray), .int .i64 0, .int .i64 0, .slice none 0 0, .int .i64 0, .int .i64 0, .int .i64 0, .int .i64 0, .int .i64 0]) ?_ 0 _ rfl; (with_reducible repeat (first | refine blk_drewN ?_ _ | refine blk_drew ?_ | refine blk_alloc ?_ _)); exact BK199.out) : p := h
theorem au9_2 {p : Prop} (h : p := by (with_reducible repeat (first | refine blk_drewN ?_ _ | refine blk_drew ?_ | refine blk_alloc ?_ _)); refine blk_far ?_ NB199_198.out _; (with_reducible repeat (first | refine blk_drewN ?_ _ | refine blk_drew ?_ | refine blk_alloc ?_ _)); refine blk_far ?_ NB199_198.out _; (with_reducible repeat (first | refine blk_drewN ?_ _ | refine blk_drew ?_ | refine blk_alloc ?_ _)); refine blk_far ?_ NB199_198.out _; (with_reducible repeat (first | refine blk_drewN ?_ _ | refine blk_drew ?_ | refine blk_alloc ?_ _)); refine blk_far ?_ NB199_198.out _; (with_reducible repeat (first | refine blk_drewN ?_ _ | refine blk_drew ?_ | refine blk_alloc ?_ _)); exact BK199.out) : p := h
theorem au9_3 {p : Prop} (h : p := by repeat (first | exact (Kd.C_below HR0_3.out HB.out) | (with_reducible refine Kd.C_alloc ?_ _) | (with_reducible refine Kd.C_drewN ?_ _) | (with_reducible refine Kd.C_drew ?_))) : p := h
theorem au9_4 {p : Prop} (h : p := by (with_reducible repeat (first | apply Kd.R_alloc | apply Kd.R_drewN | apply Kd.R_drew)); exact (Kd.R_mono (Kd.R_far (p := ⟨gb198, 3, none⟩) (Kd.R_far (p := ⟨gb198, 2, none⟩) (Kd.R_far (p := ⟨gb198, 1, none⟩) (Kd.R_far (p := ⟨gb198, 0, none⟩) (Kd.R_types HO208.out BK198.out (by decide)) (fun _ hk => hk.2) (.string t203)) (fun _ hk => hk.2) (.int .i64 t204)) (fun _ hk => hk.2) (.int .i64 t205)) (fun _ hk => hk.2) (.slice Ao32 t206.length co32)) (fun _ h_ => h_.1))) : p := h
theorem au9_5 {p : Prop} (h : p := by (with_reducible repeat (first | apply Kd.R_alloc | apply Kd.R_drewN | apply Kd.R_drew)); exact (Kd.R_mono (Kd.R_far (p := ⟨gb198, 3, none⟩) (Kd.R_far (p := ⟨gb198, 2, none⟩) (Kd.R_far (p := ⟨gb198, 1, none⟩) (Kd.R_far (p := ⟨gb198, 0, none⟩) (Kd.R_types HO208.out BK198.out (by decide)) (fun _ hk => hk.2) (.string t203)) (fun _ hk => hk.2) (.int .i64 t204)) (fun _ hk => hk.2) (.int .i64 t205)) (fun _ hk => hk.2) (.slice Ao42 t206.length co42)) (fun _ h_ => h_.1))) : p := h
theorem au9_6 {p : Prop} (h : p := by (with_reducible repeat (first | apply Kd.R_alloc | apply Kd.R_drewN | apply Kd.R_drew)); exact (Kd.R_mono (Kd.R_far (p := ⟨gb198, 3, none⟩) (Kd.R_far (p := ⟨gb198, 2, none⟩) (Kd.R_far (p := ⟨gb198, 1, none⟩) (Kd.R_far (p := ⟨gb198, 0, none⟩) (Kd.R_types HO208.out BK198.out (by decide)) (fun _ hk => hk.2) (.string t203)) (fun _ hk => hk.2) (.int .i64 t204)) (fun _ hk => hk.2) (.int .i64 t205)) (fun _ hk => hk.2) (.slice Ao95 t206.length co95)) (fun _ h_ => h_.1))) : p := h
theorem au9_7 {p : Prop} (h : p := by repeat (first | (with_reducible first | exact HB.out | apply below_alloc | apply pw_below_drewN | apply below_drew1 | refine below_set ?_ GE198.out | refine below_set ?_ GE199.out | refine below_set ?_ GE215.out) | exact HB.out)) : p := h
theorem au9_8 {p : Prop} (h : p := by first | rfl | (simp [errW_none, errW_some] <;> rfl) | (simp [*, errW_none, errW_some] <;> rfl)) : p := h
theorem au9_9 {p : Prop} (h : p := by first | rfl | (simp [errW_none, errW_some] <;> rfl) | (simp only [← hji36]; first | rfl | (simp [errW_none, errW_some] <;> rfl)) | (simp [*, errW_none, errW_some] <;> rfl)) : p := h
theorem au9_10 {p : Prop} (h : p := by exact (Reps.c3 (show Kd.M k62 _ _ _ (⟨a1, t205, a2⟩ : S62) [.int .i64 a1, .int .i64 t205, .int .i64 a2] from (k62_mkM _ _ _ (⟨a1, t205, a2⟩ : S62) )) (Reps.none _ _))) : p := h
theorem au9_11 {p : Prop} (h : p := by first | exact Kd.R_nil _ _ _ _ _ | exact Kd.N_nil _ _ _ _ _ | exact Kd.V_nil _ _ _ _ _ | exact Kd.Q_nil _ _ _ _ _ | exact Kd.S_nil _ _ _ _ _) : p := h
theorem au9_12 {p : Prop} (h : p := by exact (Kd.R_reads' HO208.out).2.1) : p := h

/-! ### impl_PartnerTake: function 45 -/
mutual
def impl_PartnerTake.j0 : Nat → Int → Int → Bool → ByteArray → Int → Int → List (S62) → Option (ByteArray × Int × Int × (List (S62)) × Int × Int × Int × Int × Int)
  | 0, _, _, _, _, _, _, _ => none
  | k + 1, x1, x2, x24, x199000, x199001, x199002, x199003 => if x24 = true then (some ((⟨#[]⟩ : ByteArray), 0, 0, ([] : List (S62)), 0, 0, 0, 0, 1)) else ((impl_ownPartner.f x199000 x199001 x199002 x199003).bind fun bt203 => ((impl_Partner_ask.f k bt203.1 bt203.2.1 bt203.2.2.1 bt203.2.2.2 x1).bind fun t209 => (if t209 = 1 then (if bt203.2.2.1 = 999999 then (some ((⟨#[]⟩ : ByteArray), 0, 0, ([] : List (S62)), 0, 0, 0, 0, 13)) else ((impl_Seen_94__impl_PartnerTake_1.f k bt203.2.2.2 bt203.1 (mx bt203.2.1 (wrap64 ((wrap64 (x1 - 32)) + 1))) bt203.2.2.1 bt203.2.2.2).bind fun t216 => (impl_PartnerTake.l0 k x1 t209 0 bt203.1 (mx bt203.2.1 (wrap64 ((wrap64 (x1 - 32)) + 1))) bt203.2.2.1 t216 x1 bt203.2.2.1 x2))) else ((impl_Partner_seen.f k bt203.1 bt203.2.1 bt203.2.2.1 bt203.2.2.2 x1).bind fun bt210 => (some (bt203.1, bt203.2.1, bt203.2.2.1, bt203.2.2.2, t209, bt210.1, bt210.2.1, bt210.2.2.1, 0))))))
def impl_PartnerTake.l0 : Nat → Int → Int → Int → ByteArray → Int → Int → List (S62) → Int → Int → Int → Option (ByteArray × Int × Int × (List (S62)) × Int × Int × Int × Int × Int)
  | 0, _, _, _, _, _, _, _, _, _, _ => none
  | k + 1, x1, x7, x11, x199000, x199001, x199002, x199003, x216000, x216001, x216002 => if x11 < (x199003.length : Int) then (if 0 ≤ x11 then (if ((rd_T62 x199003 x11).f0) < x1 then (impl_PartnerTake.l0 k x1 x7 (wrap64 (x11 + 1)) x199000 x199001 x199002 x199003 x216000 x216001 x216002) else ((impl_Seen_96.f x199003 x11 (([(⟨x216000, x216001, x216002⟩ : S62)] : List (S62)))).bind fun t223 => (some (x199000, x199001, wrap64 (x199002 + 1), t223, x7, x216000, x216001, x216002, 0)))) else (none)) else ((impl_Seen_96.f x199003 x11 (([(⟨x216000, x216001, x216002⟩ : S62)] : List (S62)))).bind fun t229 => (some (x199000, x199001, wrap64 (x199002 + 1), t229, x7, x216000, x216001, x216002, 0)))
end
def impl_PartnerTake.f (k : Nat) (a0_0 : ByteArray) (a0_1 : Int) (a0_2 : Int) (l0_3 : List (S62)) (a1 : Int) (a2 : Int) : Option (ByteArray × Int × Int × (List (S62)) × Int × Int × Int × Int × Int) := (impl_PartnerRight.f k a0_0 a0_1 a0_2 l0_3).bind fun t200 => (if t200 = true then ((impl_isControl.f a1).bind fun t201 => (if t201 = true then ((impl_isCode.f a2).bind fun t202 => (impl_PartnerTake.j0 k a1 a2 (!t202) a0_0 a0_1 a0_2 l0_3)) else (impl_PartnerTake.j0 k a1 a2 true a0_0 a0_1 a0_2 l0_3))) else (impl_PartnerTake.j0 k a1 a2 true a0_0 a0_1 a0_2 l0_3))
theorem impl_PartnerTake.mono_l : ∀ k, (∀ y0 y1 y2 y3 y4 y5 y6, LeO (impl_PartnerTake.j0 k y0 y1 y2 y3 y4 y5 y6) (impl_PartnerTake.j0 (k + 1) y0 y1 y2 y3 y4 y5 y6)) ∧ (∀ y0 y1 y2 y3 y4 y5 y6 y7 y8 y9, LeO (impl_PartnerTake.l0 k y0 y1 y2 y3 y4 y5 y6 y7 y8 y9) (impl_PartnerTake.l0 (k + 1) y0 y1 y2 y3 y4 y5 y6 y7 y8 y9))
  | 0 => ⟨fun _ _ _ _ _ _ _ r h => by simp [impl_PartnerTake.j0] at h, fun _ _ _ _ _ _ _ _ _ _ r h => by simp [impl_PartnerTake.l0] at h⟩
  | k + 1 => by
    obtain ⟨ih0, ih1⟩ := impl_PartnerTake.mono_l k
    refine ⟨?_, ?_⟩
    · intro y0 y1 y2 y3 y4 y5 y6
      unfold impl_PartnerTake.j0
      repeat' first
      | (with_reducible exact ih0 _ _ _ _ _ _ _)
      | (with_reducible exact ih1 _ _ _ _ _ _ _ _ _ _)
      | (with_reducible exact impl_PartnerRight.mono _ _ _ _ _)
      | (with_reducible exact impl_Partner_ask.mono _ _ _ _ _ _)
      | (with_reducible exact impl_Partner_seen.mono _ _ _ _ _ _)
      | (with_reducible exact impl_Seen_94__impl_PartnerTake_1.mono _ _ _ _ _ _)
      | (with_reducible exact LeO.refl _)
      | (with_reducible exact LeO.none _)
      | (with_reducible refine LeO.ite ?_ ?_)
      | (with_reducible refine LeO.bind ?_ (fun _ => ?_))
      | exact ih0 _ _ _ _ _ _ _
      | exact ih1 _ _ _ _ _ _ _ _ _ _
      | exact impl_PartnerRight.mono _ _ _ _ _
      | exact impl_Partner_ask.mono _ _ _ _ _ _
      | exact impl_Partner_seen.mono _ _ _ _ _ _
      | exact impl_Seen_94__impl_PartnerTake_1.mono _ _ _ _ _ _
      | exact LeO.none _
      | refine LeO.ite ?_ ?_
      | refine LeO.bind ?_ (fun _ => ?_)
    · intro y0 y1 y2 y3 y4 y5 y6 y7 y8 y9
      unfold impl_PartnerTake.l0
      repeat' first
      | (with_reducible exact ih0 _ _ _ _ _ _ _)
      | (with_reducible exact ih1 _ _ _ _ _ _ _ _ _ _)
      | (with_reducible exact impl_PartnerRight.mono _ _ _ _ _)
      | (with_reducible exact impl_Partner_ask.mono _ _ _ _ _ _)
      | (with_reducible exact impl_Partner_seen.mono _ _ _ _ _ _)
      | (with_reducible exact impl_Seen_94__impl_PartnerTake_1.mono _ _ _ _ _ _)
      | (with_reducible exact LeO.refl _)
      | (with_reducible exact LeO.none _)
      | (with_reducible refine LeO.ite ?_ ?_)
      | (with_reducible refine LeO.bind ?_ (fun _ => ?_))
      | exact ih0 _ _ _ _ _ _ _
      | exact ih1 _ _ _ _ _ _ _ _ _ _
      | exact impl_PartnerRight.mono _ _ _ _ _
      | exact impl_Partner_ask.mono _ _ _ _ _ _
      | exact impl_Partner_seen.mono _ _ _ _ _ _
      | exact impl_Seen_94__impl_PartnerTake_1.mono _ _ _ _ _ _
      | exact LeO.none _
      | refine LeO.ite ?_ ?_
      | refine LeO.bind ?_ (fun _ => ?_)
theorem impl_PartnerTake.mono : ∀ a0 a1 a2 a3 a4 a5 k, LeO (impl_PartnerTake.f k a0 a1 a2 a3 a4 a5) (impl_PartnerTake.f (k + 1) a0 a1 a2 a3 a4 a5) := by
  intro a0 a1 a2 a3 a4 a5 k
  obtain ⟨ih0, ih1⟩ := impl_PartnerTake.mono_l k
  unfold impl_PartnerTake.f
  repeat' first
      | (with_reducible exact ih0 _ _ _ _ _ _ _)
      | (with_reducible exact ih1 _ _ _ _ _ _ _ _ _ _)
      | (with_reducible exact impl_PartnerRight.mono _ _ _ _ _)
      | (with_reducible exact impl_Partner_ask.mono _ _ _ _ _ _)
      | (with_reducible exact impl_Partner_seen.mono _ _ _ _ _ _)
      | (with_reducible exact impl_Seen_94__impl_PartnerTake_1.mono _ _ _ _ _ _)
      | (with_reducible exact LeO.refl _)
      | (with_reducible exact LeO.none _)
      | (with_reducible refine LeO.ite ?_ ?_)
      | (with_reducible refine LeO.bind ?_ (fun _ => ?_))
      | exact ih0 _ _ _ _ _ _ _
      | exact ih1 _ _ _ _ _ _ _ _ _ _
      | exact impl_PartnerRight.mono _ _ _ _ _
      | exact impl_Partner_ask.mono _ _ _ _ _ _
      | exact impl_Partner_seen.mono _ _ _ _ _ _
      | exact impl_Seen_94__impl_PartnerTake_1.mono _ _ _ _ _ _
      | exact LeO.none _
      | refine LeO.ite ?_ ?_
      | refine LeO.bind ?_ (fun _ => ?_)
set_option maxHeartbeats 8000000 in
set_option maxRecDepth 100000 in
theorem impl_PartnerTake.calls (k : Nat) (a0_0 : ByteArray) (a0_1 : Int) (a0_2 : Int) (A0_3 : Option Addr) (c0_3 : Nat) (l0_3 : List (S62)) (a1 : Int) (a2 : Int) (r1 : ByteArray) (r2 : Int) (r3 : Int) (r4 : List (S62)) (r5 : Int) (r6 : Int) (r7 : Int) (r8 : Int) (r9 : Int) (w : World) (hr0_3 : Kd.C k62 w A0_3 l0_3.length l0_3) (hc0_3 : l0_3.length ≤ c0_3) (h : impl_PartnerTake.f k a0_0 a0_1 a0_2 l0_3 a1 a2 = some (r1, r2, r3, r4, r5, r6, r7, r8, r9)) :
    Calls Try.prog 45 #[.agg #[.string a0_0, .int .i64 a0_1, .int .i64 a0_2, .slice A0_3 l0_3.length c0_3], .int .i64 a1, .int .i64 a2] w fun e w' => ∃ v3_ : Value, e = .returned (.agg #[.string r1, .int .i64 r2, .int .i64 r3, v3_, .int .i64 r5, .int .i64 r6, .int .i64 r7, .int .i64 r8, .int .i64 r9]) ∧ Kd.R k62 62 w' w.heap.size (fun _ => True) v3_ r4 ∧ Below w.heap.size w w' := by
  have hu51 := Try.underlying51
  have hu64 := Try.underlying64
  have hu62 := Try.underlying62
  have HR0_3 := Aside0.mk hr0_3
  have HC0_3 := Aside0.mk hc0_3
  clear hr0_3 hc0_3
  have HB := Aside0.mk (Below.refl w.heap.size w)
  have H : ((impl_PartnerRight.f k a0_0 a0_1 a0_2 l0_3).bind fun t200 => (if t200 = true then ((impl_isControl.f a1).bind fun t201 => (if t201 = true then ((impl_isCode.f a2).bind fun t202 => (impl_PartnerTake.j0 k a1 a2 (!t202) a0_0 a0_1 a0_2 l0_3)) else (impl_PartnerTake.j0 k a1 a2 true a0_0 a0_1 a0_2 l0_3))) else (impl_PartnerTake.j0 k a1 a2 true a0_0 a0_1 a0_2 l0_3))) = some (r1, r2, r3, r4, r5, r6, r7, r8, r9) := h
  clear h
  have HC4 := Aside0.mk H
  clear H
  go_enter Try.func45, Try.ntmps45
  go_upto_region 1 with (first | ((with_reducible refine gate_dst (N := 3) rfl ?_); refine box_event ?hg (N := 3) ?hd (cs := #[.string a0_0, .int .i64 a0_1, .int .i64 a0_2, .slice A0_3 l0_3.length c0_3]) (t := 51) ?hr ?_; (case hd => rfl); (case hg => rfl); (case hr => exact hr_); intro gb198 hg w5 hbox hb; have n0_ := Aside0.mk (below_step bl_ hb); have n1_ := Aside0.mk (hbox); have n2_ := Aside0.mk (gw_ hg bl_); have n3_ := Aside0.mk (gw_ hg bl_); clear HB; have HB := n0_; have BK198 := n1_; have GW198 := n2_; have GE198 := n3_; clear n0_ n1_ n2_ n3_; clear hb hbox hg) | ((with_reducible refine gate_dst (N := 6) rfl ?_); refine box_event ?hg (N := 6) ?hd (cs := #[.string (⟨#[]⟩ : ByteArray), .int .i64 0, .int .i64 0, .slice none 0 0, .int .i64 0, .int .i64 0, .int .i64 0, .int .i64 0, .int .i64 0]) (t := 64) ?hr ?_; (case hd => rfl); (case hg => rfl); (case hr => exact hr_); intro gb199 hg w6 hbox hb; have n0_ := Aside0.mk (blkb_ BK198 hb); have n1_ := Aside0.mk (below_step bl_ hb); have n2_ := Aside0.mk (hbox); have n3_ := Aside0.mk (gw_ hg bl_); have n4_ := Aside0.mk (gw_ hg bl_); have n5_ := Aside0.mk (gn_ hg (blkl_ BK198)); have n6_ := Aside0.mk (gm_ hg (blkl_ BK198)); clear BK198; clear HB; have BK198 := n0_; have HB := n1_; have BK199 := n2_; have GW199 := n3_; have GE199 := n4_; have NB198_199 := n5_; have NB199_198 := n6_; clear n0_ n1_ n2_ n3_ n4_ n5_ n6_; clear hb hbox hg))
  (try simp only [Act.put, List.setIfInBounds_toArray, List.set_cons_zero, List.set_cons_succ])
  go_cut [24] (fun v24 wc => ∃ (kq : Nat) (x24_3 : Bool), v24 = .bool x24_3 ∧ Aside0 (impl_PartnerTake.j0 kq a1 a2 x24_3 a0_0 a0_1 a0_2 l0_3 = some (r1, r2, r3, r4, r5, r6, r7, r8, r9)) ∧ Aside0 (kq ≤ k) ∧ Aside0 (wc.heap[gb198]? = some (.cells #[.string a0_0, .int .i64 a0_1, .int .i64 a0_2, (.slice A0_3 l0_3.length c0_3)] 51 (0, 0))) ∧ Aside0 (wc.heap[gb199]? = some (.cells #[.string (⟨#[]⟩ : ByteArray), .int .i64 0, .int .i64 0, (.slice none 0 0), .int .i64 0, .int .i64 0, .int .i64 0, .int .i64 0, .int .i64 0] 64 (0, 0))) ∧ Aside0 (Below w.heap.size w wc))
  case first =>
    have H := HC4.out
    clear HC4
    replace H := Option.bind_eq_some_iff.mp H
    obtain ⟨t200, A70, H⟩ := H
    replace H : (if t200 = true then ((impl_isControl.f a1).bind fun t201 => (if t201 = true then ((impl_isCode.f a2).bind fun t202 => (impl_PartnerTake.j0 k a1 a2 (!t202) a0_0 a0_1 a0_2 l0_3)) else (impl_PartnerTake.j0 k a1 a2 true a0_0 a0_1 a0_2 l0_3))) else (impl_PartnerTake.j0 k a1 a2 true a0_0 a0_1 a0_2 l0_3)) = some (r1, r2, r3, r4, r5, r6, r7, r8, r9) := H
    have A7 := Aside0.mk A70
    clear A70
    by_cases c8 : t200 = true
    · subst c8
      have H1 : ((impl_isControl.f a1).bind fun t201 => (if t201 = true then ((impl_isCode.f a2).bind fun t202 => (impl_PartnerTake.j0 k a1 a2 (!t202) a0_0 a0_1 a0_2 l0_3)) else (impl_PartnerTake.j0 k a1 a2 true a0_0 a0_1 a0_2 l0_3))) = some (r1, r2, r3, r4, r5, r6, r7, r8, r9) := by rw [if_pos rfl] at H; exact H
      clear H
      have H := H1
      clear H1
      replace H := Option.bind_eq_some_iff.mp H
      obtain ⟨t201, A90, H⟩ := H
      replace H : (if t201 = true then ((impl_isCode.f a2).bind fun t202 => (impl_PartnerTake.j0 k a1 a2 (!t202) a0_0 a0_1 a0_2 l0_3)) else (impl_PartnerTake.j0 k a1 a2 true a0_0 a0_1 a0_2 l0_3)) = some (r1, r2, r3, r4, r5, r6, r7, r8, r9) := H
      have A9 := Aside0.mk A90
      clear A90
      by_cases c10 : t201 = true
      · subst c10
        have H1 : ((impl_isCode.f a2).bind fun t202 => (impl_PartnerTake.j0 k a1 a2 (!t202) a0_0 a0_1 a0_2 l0_3)) = some (r1, r2, r3, r4, r5, r6, r7, r8, r9) := by rw [if_pos rfl] at H; exact H
        clear H
        have H := H1
        clear H1
        replace H := Option.bind_eq_some_iff.mp H
        obtain ⟨t202, A110, H⟩ := H
        replace H : (impl_PartnerTake.j0 k a1 a2 (!t202) a0_0 a0_1 a0_2 l0_3) = some (r1, r2, r3, r4, r5, r6, r7, r8, r9) := H
        have A11 := Aside0.mk A110
        clear A110
        have H' := Aside0.mk H
        clear H
        have hnb12 := NB198_199.out
        have hnc12 := NB199_198.out
        obtain ⟨hcz13_0, hcz13_1, hcz13_2, hcz13_3, hfz13_0, hfz13_1, hfz13_2, hfz13_3⟩ := cellsF4 BK198.out
        go_wp2_with (first | (go_at_call 52; (with_reducible refine (impl_PartnerRight.calls k a0_0 a0_1 a0_2 _ _ l0_3 true _ ?side1 ?side2 A7.out).mono ?_); (case side1 => exact au9_3); (case side2 => exact HC0_3.out); rintro e w14 ⟨rfl, hb⟩; (try clear A7); have n0_ := Aside0.mk (blkb_ BK198 hb); have n1_ := Aside0.mk (blkb_ BK199 hb); have n2_ := Aside0.mk (below_step bl_ hb); clear BK198; clear BK199; clear HB; have BK198 := n0_; have BK199 := n1_; have HB := n2_; clear n0_ n1_ n2_; (try clear hb); (try clear hb2); (try clear hk); (try clear hi)) | (go_at_call 81; (with_reducible refine (impl_isControl.calls a1 true _ A9.out).mono ?_); rintro e w' ⟨rfl, ⟨nd, rfl⟩⟩; (try clear A9)) | (go_at_call 91; (with_reducible refine (impl_isCode.calls a2 t202 _ A11.out).mono ?_); rintro e w' ⟨rfl, ⟨nd, rfl⟩⟩; (try clear A11)))
        go_meet
        case rel => exact ⟨_, (!t202), er_, H', ⟨by first | omega | exact Nat.le_refl _⟩, ⟨bk_ BK198⟩, ⟨bk_ BK199⟩, ⟨bl_⟩⟩
      · replace c10 := Bool.eq_false_iff.mpr c10
        subst c10
        have H1 : (impl_PartnerTake.j0 k a1 a2 true a0_0 a0_1 a0_2 l0_3) = some (r1, r2, r3, r4, r5, r6, r7, r8, r9) := by rw [if_neg (show ¬ (false = true) by decide)] at H; exact H
        clear H
        have H := H1
        clear H1
        have H' := Aside0.mk H
        clear H
        have hnb15 := NB198_199.out
        have hnc15 := NB199_198.out
        obtain ⟨hcz16_0, hcz16_1, hcz16_2, hcz16_3, hfz16_0, hfz16_1, hfz16_2, hfz16_3⟩ := cellsF4 BK198.out
        go_wp2_with (first | (go_at_call 52; (with_reducible refine (impl_PartnerRight.calls k a0_0 a0_1 a0_2 _ _ l0_3 true _ ?side1 ?side2 A7.out).mono ?_); (case side1 => exact au9_3); (case side2 => exact HC0_3.out); rintro e w17 ⟨rfl, hb⟩; (try clear A7); have n0_ := Aside0.mk (blkb_ BK198 hb); have n1_ := Aside0.mk (blkb_ BK199 hb); have n2_ := Aside0.mk (below_step bl_ hb); clear BK198; clear BK199; clear HB; have BK198 := n0_; have BK199 := n1_; have HB := n2_; clear n0_ n1_ n2_; (try clear hb); (try clear hb2); (try clear hk); (try clear hi)) | (go_at_call 81; (with_reducible refine (impl_isControl.calls a1 false _ A9.out).mono ?_); rintro e w' ⟨rfl, ⟨nd, rfl⟩⟩; (try clear A9)))
        go_meet
        case rel => exact ⟨_, (true), er_, H', ⟨by first | omega | exact Nat.le_refl _⟩, ⟨bk_ BK198⟩, ⟨bk_ BK199⟩, ⟨bl_⟩⟩
    · replace c8 := Bool.eq_false_iff.mpr c8
      subst c8
      have H1 : (impl_PartnerTake.j0 k a1 a2 true a0_0 a0_1 a0_2 l0_3) = some (r1, r2, r3, r4, r5, r6, r7, r8, r9) := by rw [if_neg (show ¬ (false = true) by decide)] at H; exact H
      clear H
      have H := H1
      clear H1
      have H' := Aside0.mk H
      clear H
      have hnb18 := NB198_199.out
      have hnc18 := NB199_198.out
      obtain ⟨hcz19_0, hcz19_1, hcz19_2, hcz19_3, hfz19_0, hfz19_1, hfz19_2, hfz19_3⟩ := cellsF4 BK198.out
      go_wp2_with (first | (go_at_call 52; (with_reducible refine (impl_PartnerRight.calls k a0_0 a0_1 a0_2 _ _ l0_3 false _ ?side1 ?side2 A7.out).mono ?_); (case side1 => exact au9_3); (case side2 => exact HC0_3.out); rintro e w20 ⟨rfl, hb⟩; (try clear A7); have n0_ := Aside0.mk (blkb_ BK198 hb); have n1_ := Aside0.mk (blkb_ BK199 hb); have n2_ := Aside0.mk (below_step bl_ hb); clear BK198; clear BK199; clear HB; have BK198 := n0_; have BK199 := n1_; have HB := n2_; clear n0_ n1_ n2_; (try clear hb); (try clear hb2); (try clear hk); (try clear hi)))
      go_meet
      case rel => exact ⟨_, (true), er_, H', ⟨by first | omega | exact Nat.le_refl _⟩, ⟨bk_ BK198⟩, ⟨bk_ BK199⟩, ⟨bl_⟩⟩
  case rest =>
    clear HC4
    try clear c1
    try clear p2
    try clear c4
    try clear c8
    try clear c10
    try clear c12
    try clear c15
    try clear c18
    try clear hcz13_0
    try clear hcz13_1
    try clear hcz13_2
    try clear hcz13_3
    try clear hcz16_0
    try clear hcz16_1
    try clear hcz16_2
    try clear hcz16_3
    try clear hcz19_0
    try clear hcz19_1
    try clear hcz19_2
    try clear hcz19_3
    try clear hfz13_0
    try clear hfz13_1
    try clear hfz13_2
    try clear hfz13_3
    try clear hfz16_0
    try clear hfz16_1
    try clear hfz16_2
    try clear hfz16_3
    try clear hfz19_0
    try clear hfz19_1
    try clear hfz19_2
    try clear hfz19_3
    obtain ⟨kq, x24_3, rfl, HA, HJ3, BK198, BK199, HB⟩ := hcut
    cases kq with
    | zero => exact absurd HA.out (by simp [impl_PartnerTake.j0])
    | succ kj3 =>
      have H := HA.out
      clear HA
      simp only [impl_PartnerTake.j0] at H
      by_cases c21 : x24_3 = true
      · subst c21
        have H1 : (some ((⟨#[]⟩ : ByteArray), 0, 0, ([] : List (S62)), 0, 0, 0, 0, 1)) = some (r1, r2, r3, r4, r5, r6, r7, r8, r9) := by rw [if_pos rfl] at H; exact H
        clear H
        have H := H1
        clear H1
        simp only [Option.some.injEq, Prod.mk.injEq] at H
        obtain ⟨rfl, rfl, rfl, rfl, rfl, rfl, rfl, rfl, rfl⟩ := H
        have hnb22 := NB199_198.out
        have hnc22 := NB198_199.out
        obtain ⟨hcz23_0, hcz23_1, hcz23_2, hcz23_3, hcz23_4, hcz23_5, hcz23_6, hcz23_7, hcz23_8, hfz23_0, hfz23_1, hfz23_2, hfz23_3, hfz23_4, hfz23_5, hfz23_6, hfz23_7, hfz23_8⟩ := cellsF9 BK199.out
        go_wp2
        refine bodyPost_ret (results_cell_row rfl _ _ gb199 64 #[.string (⟨#[]⟩ : ByteArray), .int .i64 0, .int .i64 0, .slice none 0 0, .int .i64 0, .int .i64 0, .int .i64 0, .int .i64 0, .int .i64 1] (0, 0) _ rfl au9_1 Try.underlying64 rfl (by kernel_rfl)) rfl ?_
        exact ⟨_, au9_8, au9_11, bl_⟩
      · replace c21 := Bool.eq_false_iff.mpr c21
        subst c21
        have H1 : ((impl_ownPartner.f a0_0 a0_1 a0_2 l0_3).bind fun bt203 => ((impl_Partner_ask.f kj3 bt203.1 bt203.2.1 bt203.2.2.1 bt203.2.2.2 a1).bind fun t209 => (if t209 = 1 then (if bt203.2.2.1 = 999999 then (some ((⟨#[]⟩ : ByteArray), 0, 0, ([] : List (S62)), 0, 0, 0, 0, 13)) else ((impl_Seen_94__impl_PartnerTake_1.f kj3 bt203.2.2.2 bt203.1 (mx bt203.2.1 (wrap64 ((wrap64 (a1 - 32)) + 1))) bt203.2.2.1 bt203.2.2.2).bind fun t216 => (impl_PartnerTake.l0 kj3 a1 t209 0 bt203.1 (mx bt203.2.1 (wrap64 ((wrap64 (a1 - 32)) + 1))) bt203.2.2.1 t216 a1 bt203.2.2.1 a2))) else ((impl_Partner_seen.f kj3 bt203.1 bt203.2.1 bt203.2.2.1 bt203.2.2.2 a1).bind fun bt210 => (some (bt203.1, bt203.2.1, bt203.2.2.1, bt203.2.2.2, t209, bt210.1, bt210.2.1, bt210.2.2.1, 0)))))) = some (r1, r2, r3, r4, r5, r6, r7, r8, r9) := by rw [if_neg (show ¬ (false = true) by decide)] at H; exact H
        clear H
        have H := H1
        clear H1
        replace H := Option.bind_eq_some_iff.mp H
        obtain ⟨⟨t203, t204, t205, t206⟩, A240, H⟩ := H
        replace H : ((impl_Partner_ask.f kj3 t203 t204 t205 t206 a1).bind fun t209 => (if t209 = 1 then (if t205 = 999999 then (some ((⟨#[]⟩ : ByteArray), 0, 0, ([] : List (S62)), 0, 0, 0, 0, 13)) else ((impl_Seen_94__impl_PartnerTake_1.f kj3 t206 t203 (mx t204 (wrap64 ((wrap64 (a1 - 32)) + 1))) t205 t206).bind fun t216 => (impl_PartnerTake.l0 kj3 a1 t209 0 t203 (mx t204 (wrap64 ((wrap64 (a1 - 32)) + 1))) t205 t216 a1 t205 a2))) else ((impl_Partner_seen.f kj3 t203 t204 t205 t206 a1).bind fun bt210 => (some (t203, t204, t205, t206, t209, bt210.1, bt210.2.1, bt210.2.2.1, 0))))) = some (r1, r2, r3, r4, r5, r6, r7, r8, r9) := H
        have A24 := Aside0.mk A240
        clear A240
        replace H := Option.bind_eq_some_iff.mp H
        obtain ⟨t209, A250, H⟩ := H
        replace H : (if t209 = 1 then (if t205 = 999999 then (some ((⟨#[]⟩ : ByteArray), 0, 0, ([] : List (S62)), 0, 0, 0, 0, 13)) else ((impl_Seen_94__impl_PartnerTake_1.f kj3 t206 t203 (mx t204 (wrap64 ((wrap64 (a1 - 32)) + 1))) t205 t206).bind fun t216 => (impl_PartnerTake.l0 kj3 a1 t209 0 t203 (mx t204 (wrap64 ((wrap64 (a1 - 32)) + 1))) t205 t216 a1 t205 a2))) else ((impl_Partner_seen.f kj3 t203 t204 t205 t206 a1).bind fun bt210 => (some (t203, t204, t205, t206, t209, bt210.1, bt210.2.1, bt210.2.2.1, 0)))) = some (r1, r2, r3, r4, r5, r6, r7, r8, r9) := H
        have A25 := Aside0.mk A250
        clear A250
        by_cases c26 : t209 = 1
        · rw [if_pos c26] at H
          have c26b0 : (t209 == 1) = true := beq_iff_eq.mpr c26
          have c26b1 : (t209 != 1) = false := bne_eq_false_iff_eq.mpr c26
          clear c26
          by_cases c27 : t205 = 999999
          · rw [if_pos c27] at H
            have c27b0 : (t205 == 999999) = true := beq_iff_eq.mpr c27
            have c27b1 : (t205 != 999999) = false := bne_eq_false_iff_eq.mpr c27
            clear c27
            simp only [Option.some.injEq, Prod.mk.injEq] at H
            obtain ⟨rfl, rfl, rfl, rfl, rfl, rfl, rfl, rfl, rfl⟩ := H
            have hnb28 := NB198_199.out
            have hnc28 := NB199_198.out
            obtain ⟨hcz29_0, hcz29_1, hcz29_2, hcz29_3, hfz29_0, hfz29_1, hfz29_2, hfz29_3⟩ := cellsF4 BK198.out
            go_wp2_with (first | (go_at_call 92; (with_reducible refine (impl_ownPartner.calls a0_0 a0_1 a0_2 _ _ l0_3 t203 t204 t205 t206 _ ?side1 ?side2 A24.out).mono ?_); (case side1 => exact au9_3); (case side2 => exact HC0_3.out); rintro e w30 ⟨v207, rfl, ho0, hb⟩; (try clear A24); have n0_ := Aside0.mk (Kd.R_lower ho0 (below_size bl_)); have n1_ := Aside0.mk (blkb_ BK198 hb); have n2_ := Aside0.mk (blkb_ BK199 hb); have n3_ := Aside0.mk (below_step bl_ hb); clear BK198; clear BK199; clear HB; have HO208 := n0_; have BK198 := n1_; have BK199 := n2_; have HB := n3_; clear n0_ n1_ n2_ n3_; (try clear hb); (try clear hb2); (try clear hk); (try clear hi); (try clear ho0); obtain ⟨hcz31_0, hcz31_1, hcz31_2, hcz31_3, hfz31_0, hfz31_1, hfz31_2, hfz31_3⟩ := cellsF4 BK198.out; obtain ⟨Ao32, co32, eo32⟩ := Kd.R_slice HO208.out; subst eo32) | (go_at_call 82; (with_reducible refine (impl_Partner_ask.calls kj3 gb198 t203 t204 t205 Ao32 co32 t206 a1 t209 _ ?side1 ?side2 ?side3 A25.out).mono ?_); (case side1 => exact au9_0); (case side2 => refine (Kd.R_reads' (e := 62) (base := w.heap.size) (ok := fun k_ => True) (n := t206.length) (c := co32) ?_).2.2; exact au9_4); (case side3 => exact au9_12); rintro e w33 ⟨rfl, hb⟩; (try clear A25); have n0_ := Aside0.mk (Kd.R_below au9_4 hb); have n1_ := Aside0.mk (blk_below (g := gb198) (o := .cells #[.string t203, .int .i64 t204, .int .i64 t205, .slice Ao32 t206.length co32] 51 (0, 0)) au9_0 hb); have n2_ := Aside0.mk (blk_below (g := gb199) (o := .cells #[.string (⟨#[]⟩ : ByteArray), .int .i64 0, .int .i64 0, .slice none 0 0, .int .i64 0, .int .i64 0, .int .i64 0, .int .i64 0, .int .i64 0] 64 (0, 0)) au9_2 hb); have n3_ := Aside0.mk (below_step bl_ hb); clear HO208; clear BK198; clear BK199; clear HB; have HO208 := n0_; have BK198 := n1_; have BK199 := n2_; have HB := n3_; clear n0_ n1_ n2_ n3_; (try clear hb); (try clear hb2); (try clear hk); (try clear hi); obtain ⟨hcz34_0, hcz34_1, hcz34_2, hcz34_3, hfz34_0, hfz34_1, hfz34_2, hfz34_3⟩ := cellsF4 BK198.out; obtain ⟨hcz35_0, hcz35_1, hcz35_2, hcz35_3, hcz35_4, hcz35_5, hcz35_6, hcz35_7, hcz35_8, hfz35_0, hfz35_1, hfz35_2, hfz35_3, hfz35_4, hfz35_5, hfz35_6, hfz35_7, hfz35_8⟩ := cellsF9 BK199.out))
            refine bodyPost_ret (results_cell_row rfl _ _ gb199 64 #[.string (⟨#[]⟩ : ByteArray), .int .i64 0, .int .i64 0, .slice none 0 0, .int .i64 0, .int .i64 0, .int .i64 0, .int .i64 0, .int .i64 13] (0, 0) _ rfl au9_1 Try.underlying64 rfl (by kernel_rfl)) rfl ?_
            exact ⟨_, au9_8, au9_11, bl_⟩
          · rw [if_neg c27] at H
            have c27b0 : (t205 == 999999) = false := beq_eq_false_iff_ne.mpr c27
            have c27b1 : (t205 != 999999) = true := bne_iff_ne.mpr c27
            obtain ⟨ji36, hji36⟩ : ∃ j_ : Int, (mx t204 (wrap64 ((wrap64 (a1 - 32)) + 1))) = j_ := ⟨_, rfl⟩
            replace H : ((impl_Seen_94__impl_PartnerTake_1.f kj3 t206 t203 (ji36) t205 t206).bind fun t216 => (impl_PartnerTake.l0 kj3 a1 t209 0 t203 ji36 t205 t216 a1 t205 a2)) = some (r1, r2, r3, r4, r5, r6, r7, r8, r9) := by first | (rw [hji36] at H; exact H) | (simp only [hji36] at H ⊢; exact H)
            (try rw [hji36] at A24)
            (try rw [hji36] at A25)
            have hji36_ : (if t204 < (wrap64 ((wrap64 (a1 - 32)) + 1)) then (wrap64 ((wrap64 (a1 - 32)) + 1)) else t204) = ji36 := hji36
            replace H := Option.bind_eq_some_iff.mp H
            obtain ⟨t216, A370, H⟩ := H
            replace H : (impl_PartnerTake.l0 kj3 a1 t209 0 t203 ji36 t205 t216 a1 t205 a2) = some (r1, r2, r3, r4, r5, r6, r7, r8, r9) := H
            have A37 := Aside0.mk A370
            clear A370
            have H' := Aside0.mk H
            clear H
            have hnb38 := NB198_199.out
            have hnc38 := NB199_198.out
            obtain ⟨hcz39_0, hcz39_1, hcz39_2, hcz39_3, hfz39_0, hfz39_1, hfz39_2, hfz39_3⟩ := cellsF4 BK198.out
            go_wp2_with (first | (go_at_call 92; (with_reducible refine (impl_ownPartner.calls a0_0 a0_1 a0_2 _ _ l0_3 t203 t204 t205 t206 _ ?side1 ?side2 A24.out).mono ?_); (case side1 => exact au9_3); (case side2 => exact HC0_3.out); rintro e w40 ⟨v207, rfl, ho0, hb⟩; (try clear A24); have n0_ := Aside0.mk (Kd.R_lower ho0 (below_size bl_)); have n1_ := Aside0.mk (blkb_ BK198 hb); have n2_ := Aside0.mk (blkb_ BK199 hb); have n3_ := Aside0.mk (below_step bl_ hb); clear BK198; clear BK199; clear HB; have HO208 := n0_; have BK198 := n1_; have BK199 := n2_; have HB := n3_; clear n0_ n1_ n2_ n3_; (try clear hb); (try clear hb2); (try clear hk); (try clear hi); (try clear ho0); obtain ⟨hcz41_0, hcz41_1, hcz41_2, hcz41_3, hfz41_0, hfz41_1, hfz41_2, hfz41_3⟩ := cellsF4 BK198.out; obtain ⟨Ao42, co42, eo42⟩ := Kd.R_slice HO208.out; subst eo42) | (go_at_call 82; (with_reducible refine (impl_Partner_ask.calls kj3 gb198 t203 t204 t205 Ao42 co42 t206 a1 t209 _ ?side1 ?side2 ?side3 A25.out).mono ?_); (case side1 => exact au9_0); (case side2 => refine (Kd.R_reads' (e := 62) (base := w.heap.size) (ok := fun k_ => True) (n := t206.length) (c := co42) ?_).2.2; exact au9_5); (case side3 => exact au9_12); rintro e w43 ⟨rfl, hb⟩; (try clear A25); have n0_ := Aside0.mk (Kd.R_below au9_5 hb); have n1_ := Aside0.mk (blk_below (g := gb198) (o := .cells #[.string t203, .int .i64 t204, .int .i64 t205, .slice Ao42 t206.length co42] 51 (0, 0)) au9_0 hb); have n2_ := Aside0.mk (blk_below (g := gb199) (o := .cells #[.string (⟨#[]⟩ : ByteArray), .int .i64 0, .int .i64 0, .slice none 0 0, .int .i64 0, .int .i64 0, .int .i64 0, .int .i64 0, .int .i64 0] 64 (0, 0)) au9_2 hb); have n3_ := Aside0.mk (below_step bl_ hb); clear HO208; clear BK198; clear BK199; clear HB; have HO208 := n0_; have BK198 := n1_; have BK199 := n2_; have HB := n3_; clear n0_ n1_ n2_ n3_; (try clear hb); (try clear hb2); (try clear hk); (try clear hi); obtain ⟨hcz44_0, hcz44_1, hcz44_2, hcz44_3, hfz44_0, hfz44_1, hfz44_2, hfz44_3⟩ := cellsF4 BK198.out) | ((with_reducible refine gate_dst (N := 10) rfl ?_); refine box_event ?hg (N := 10) ?hd (cs := #[.int .i64 0, .int .i64 0, .int .i64 0]) (t := 62) ?hr ?_; (case hd => rfl); (case hg => rfl); (case hr => exact hr_); intro gb215 hg w45 hbox hb; have n0_ := Aside0.mk (Kd.R_below (Kd.R_elderB (rk_ HO208) gb215 (Nat.le_of_eq hg.symm)) hb); have n1_ := Aside0.mk (blkb_ BK198 hb); have n2_ := Aside0.mk (blkb_ BK199 hb); have n3_ := Aside0.mk (below_step bl_ hb); have n4_ := Aside0.mk (hbox); have n5_ := Aside0.mk (gw_ hg bl_); have n6_ := Aside0.mk (gw_ hg bl_); have n7_ := Aside0.mk (gn_ hg (blkl_ BK198)); have n8_ := Aside0.mk (gm_ hg (blkl_ BK198)); have n9_ := Aside0.mk (gn_ hg (blkl_ BK199)); have n10_ := Aside0.mk (gm_ hg (blkl_ BK199)); clear HO208; clear BK198; clear BK199; clear HB; have HO208 := n0_; have BK198 := n1_; have BK199 := n2_; have HB := n3_; have BK215 := n4_; have GW215 := n5_; have GE215 := n6_; have NB198_215 := n7_; have NB215_198 := n8_; have NB199_215 := n9_; have NB215_199 := n10_; clear n0_ n1_ n2_ n3_ n4_ n5_ n6_ n7_ n8_ n9_ n10_; clear hb hbox hg; have hnb46 := NB215_198.out; have hnc46 := NB198_215.out; have hnb47 := NB215_199.out; have hnc47 := NB199_215.out; obtain ⟨hcz48_0, hcz48_1, hcz48_2, hfz48_0, hfz48_1, hfz48_2⟩ := cellsF3 BK215.out) | ((with_reducible refine gate_store (t := 62) (p := 10) rfl ?_); refine store_event (t := 62) (p := 10) (v := ?vo_w49) (w1 := (((w45.setCell ⟨gb215, 0, none⟩ (.int .i64 a1)).setCell ⟨gb215, 1, none⟩ (.int .i64 t205)).setCell ⟨gb215, 2, none⟩ (.int .i64 a2))) ?hg ?ho ?hn ?hr ?_; (case ho => rfl); (case hg => rfl); (case hn => rfl); (case hr => exact hr_); intro w49 hw; have n0_ : Aside0 (Kd.R k62 62 w49 w.heap.size (fun k_ => k_ ≠ gb215) (.slice Ao42 t206.length co42) t206) := ⟨(by rw [hw]; exact (by (with_reducible repeat (first | apply Kd.R_alloc | apply Kd.R_drewN | apply Kd.R_drew)); exact Kd.R_mono (Kd.R_far (p := ⟨gb215, 2, none⟩) (Kd.R_far (p := ⟨gb215, 1, none⟩) (Kd.R_far (p := ⟨gb215, 0, none⟩) (Kd.R_mono HO208.out (fun k_ hk => (⟨hk, hk.2⟩ : _ ∧ k_ ≠ gb215))) (fun _ hk => hk.2) (.int .i64 a1)) (fun _ hk => hk.2) (.int .i64 t205)) (fun _ hk => hk.2) (.int .i64 a2)) (fun _ hk => hk.1.2)))⟩; have n1_ : Aside0 (w49.heap[gb198]? = some (.cells #[.string t203, .int .i64 t204, .int .i64 t205, .slice Ao42 t206.length co42] 51 (0, 0))) := ⟨(by rw [hw]; exact (by (with_reducible repeat (first | refine blk_drewN ?_ _ | refine blk_drew ?_ | refine blk_alloc ?_ _)); refine blk_far ?_ NB198_215.out _; (with_reducible repeat (first | refine blk_drewN ?_ _ | refine blk_drew ?_ | refine blk_alloc ?_ _)); refine blk_far ?_ NB198_215.out _; (with_reducible repeat (first | refine blk_drewN ?_ _ | refine blk_drew ?_ | refine blk_alloc ?_ _)); refine blk_far ?_ NB198_215.out _; (with_reducible repeat (first | refine blk_drewN ?_ _ | refine blk_drew ?_ | refine blk_alloc ?_ _)); exact BK198.out))⟩; have n2_ : Aside0 (w49.heap[gb199]? = some (.cells #[.string (⟨#[]⟩ : ByteArray), .int .i64 0, .int .i64 0, .slice none 0 0, .int .i64 0, .int .i64 0, .int .i64 0, .int .i64 0, .int .i64 0] 64 (0, 0))) := ⟨(by rw [hw]; exact (by (with_reducible repeat (first | refine blk_drewN ?_ _ | refine blk_drew ?_ | refine blk_alloc ?_ _)); refine blk_far ?_ NB199_215.out _; (with_reducible repeat (first | refine blk_drewN ?_ _ | refine blk_drew ?_ | refine blk_alloc ?_ _)); refine blk_far ?_ NB199_215.out _; (with_reducible repeat (first | refine blk_drewN ?_ _ | refine blk_drew ?_ | refine blk_alloc ?_ _)); refine blk_far ?_ NB199_215.out _; (with_reducible repeat (first | refine blk_drewN ?_ _ | refine blk_drew ?_ | refine blk_alloc ?_ _)); exact BK199.out))⟩; have n3_ : Aside0 (w49.heap[gb215]? = some (.cells #[.int .i64 a1, .int .i64 t205, .int .i64 a2] 62 (0, 0))) := ⟨(by rw [hw]; exact (by (with_reducible repeat (first | refine blk_drewN ?_ _ | refine blk_drew ?_ | refine blk_alloc ?_ _)); refine blk_put (cs := #[.int .i64 a1, .int .i64 t205, .int .i64 0]) ?_ 2 _ rfl; (with_reducible repeat (first | refine blk_drewN ?_ _ | refine blk_drew ?_ | refine blk_alloc ?_ _)); refine blk_put (cs := #[.int .i64 a1, .int .i64 0, .int .i64 0]) ?_ 1 _ rfl; (with_reducible repeat (first | refine blk_drewN ?_ _ | refine blk_drew ?_ | refine blk_alloc ?_ _)); refine blk_put (cs := #[.int .i64 0, .int .i64 0, .int .i64 0]) ?_ 0 _ rfl; (with_reducible repeat (first | refine blk_drewN ?_ _ | refine blk_drew ?_ | refine blk_alloc ?_ _)); exact BK215.out))⟩; have n4_ : Aside0 (Below w.heap.size w w49) := ⟨(by rw [hw]; exact bl_)⟩; clear hw; clear HO208; clear BK198; clear BK199; clear BK215; clear HB; have HO208 := n0_; have BK198 := n1_; have BK199 := n2_; have BK215 := n3_; have HB := n4_; clear n0_ n1_ n2_ n3_ n4_; obtain ⟨hcz50_0, hcz50_1, hcz50_2, hcz50_3, hfz50_0, hfz50_1, hfz50_2, hfz50_3⟩ := cellsF4 BK198.out) | ((with_reducible refine gate_store (t := 2) (p := 56) rfl ?_); refine store_event (t := 2) (p := 56) (v := ?vo_w51) (w1 := (w49.setCell ⟨gb198, 1, none⟩ (.int .i64 ji36))) ?hg ?ho ?hn ?hr ?_; (case ho => rfl); (case hg => rfl); (case hn => rfl); (case hr => exact hr_); intro w51 hw; have n0_ : Aside0 (Kd.R k62 62 w51 w.heap.size (fun k_ => k_ ≠ gb215) (.slice Ao42 t206.length co42) t206) := ⟨(by rw [hw]; exact (by (with_reducible repeat (first | apply Kd.R_alloc | apply Kd.R_drewN | apply Kd.R_drew)); exact Kd.R_mono (Kd.R_far (p := ⟨gb198, 1, none⟩) (Kd.R_types HO208.out BK198.out (by decide)) (fun _ hk => hk.2) (.int .i64 ji36)) (fun _ hk => hk.1)))⟩; have n1_ : Aside0 (w51.heap[gb198]? = some (.cells #[.string t203, .int .i64 ji36, .int .i64 t205, .slice Ao42 t206.length co42] 51 (0, 0))) := ⟨(by rw [hw]; exact (by (with_reducible repeat (first | refine blk_drewN ?_ _ | refine blk_drew ?_ | refine blk_alloc ?_ _)); refine blk_put (cs := #[.string t203, .int .i64 t204, .int .i64 t205, .slice Ao42 t206.length co42]) ?_ 1 _ rfl; (with_reducible repeat (first | refine blk_drewN ?_ _ | refine blk_drew ?_ | refine blk_alloc ?_ _)); exact BK198.out))⟩; have n2_ : Aside0 (w51.heap[gb199]? = some (.cells #[.string (⟨#[]⟩ : ByteArray), .int .i64 0, .int .i64 0, .slice none 0 0, .int .i64 0, .int .i64 0, .int .i64 0, .int .i64 0, .int .i64 0] 64 (0, 0))) := ⟨(by rw [hw]; exact (by (with_reducible repeat (first | refine blk_drewN ?_ _ | refine blk_drew ?_ | refine blk_alloc ?_ _)); refine blk_far ?_ NB199_198.out _; (with_reducible repeat (first | refine blk_drewN ?_ _ | refine blk_drew ?_ | refine blk_alloc ?_ _)); exact BK199.out))⟩; have n3_ : Aside0 (w51.heap[gb215]? = some (.cells #[.int .i64 a1, .int .i64 t205, .int .i64 a2] 62 (0, 0))) := ⟨(by rw [hw]; exact (by (with_reducible repeat (first | refine blk_drewN ?_ _ | refine blk_drew ?_ | refine blk_alloc ?_ _)); refine blk_far ?_ NB215_198.out _; (with_reducible repeat (first | refine blk_drewN ?_ _ | refine blk_drew ?_ | refine blk_alloc ?_ _)); exact BK215.out))⟩; have n4_ : Aside0 (Below w.heap.size w w51) := ⟨(by rw [hw]; exact bl_)⟩; clear hw; clear HO208; clear BK198; clear BK199; clear BK215; clear HB; have HO208 := n0_; have BK198 := n1_; have BK199 := n2_; have BK215 := n3_; have HB := n4_; clear n0_ n1_ n2_ n3_ n4_; obtain ⟨hcz52_0, hcz52_1, hcz52_2, hcz52_3, hfz52_0, hfz52_1, hfz52_2, hfz52_3⟩ := cellsF4 BK198.out) | (go_at_call 94; (with_reducible refine (impl_Seen_94__impl_PartnerTake_1.calls kj3 (fun k_ => some k_ = (.slice Ao42 t206.length co42 : Value).ownBlock) (.slice Ao42 t206.length co42) t206 gb198 t203 ji36 t205 Ao42 co42 t206 t216 w _ ?side1 ?side2 ?side3 ?side4 A37.out).mono ?_); (case side1 => exact au9_7); (case side2 => exact Kd.R_tight rfl HO208.out); (case side3 => exact (bk_ BK198)); (case side4 => exact fun h_ => (Kd.R_ne HO208.out BK198.out (by decide)) h_); rintro e w53 ⟨v217, rfl, ho0, hb, hkp⟩; (try clear A37); have n0_ := Aside0.mk (blk_kept (bk_ BK198) hkp (fun hs_ => (fun e_ => (Kd.R_ne HO208.out BK198.out (by decide)) e_) hs_)); have n1_ := Aside0.mk (blk_kept (bk_ BK199) hkp (fun hs_ => (fun e_ => (Kd.R_ne HO208.out BK199.out (by decide)) e_) hs_)); have n2_ := Aside0.mk (blk_kept (bk_ BK215) hkp (fun hs_ => (fun e_ => (Kd.R_away HO208.out (fun _ hk => hk)) e_) hs_)); have n3_ := Aside0.mk (Kd.R_mono (ok' := fun k_ => k_ ≠ gb215) ho0 (fun k_ hk_ => Or.elim hk_ (fun hs_ => fun e_ => (Kd.R_away HO208.out (fun _ hk => hk)) (by rw [← e_]; exact hs_)) (fun hn_ => (Kd.freshB (g := gb215) (o := .cells #[.int .i64 a1, .int .i64 t205, .int .i64 a2] 62 (0, 0)) (bk_ BK215) k_ hn_)))); have n4_ := Aside0.mk (hb); clear BK198; clear BK199; clear BK215; clear HB; clear HO208; have BK198 := n0_; have BK199 := n1_; have BK215 := n2_; have HO218 := n3_; have HB := n4_; clear n0_ n1_ n2_ n3_ n4_; (try clear hb); (try clear hkp); (try clear ho0); obtain ⟨Ao54, co54, eo54⟩ := Kd.R_slice HO218.out; subst eo54; obtain ⟨hcz55_0, hcz55_1, hcz55_2, hcz55_3, hfz55_0, hfz55_1, hfz55_2, hfz55_3⟩ := cellsF4 BK198.out))
            go_loopg [11] kj3 (fun kq v11 w' => ∃ (x11_2 : Int), v11 = .int .i64 x11_2 ∧ Aside0 (impl_PartnerTake.l0 kq a1 t209 x11_2 t203 ji36 t205 t216 a1 t205 a2 = some (r1, r2, r3, r4, r5, r6, r7, r8, r9)) ∧ Aside0 (kq ≤ kj3) ∧ Aside0 (Kd.R k62 62 w' w.heap.size (fun k_ => k_ ≠ gb215) (.slice Ao54 t216.length co54) t216) ∧ Aside0 (w'.heap[gb198]? = some (.cells #[.string t203, .int .i64 ji36, .int .i64 t205, (.slice Ao54 t216.length co54)] 51 (0, 0))) ∧ Aside0 (w'.heap[gb199]? = some (.cells #[.string (⟨#[]⟩ : ByteArray), .int .i64 0, .int .i64 0, (.slice none 0 0), .int .i64 0, .int .i64 0, .int .i64 0, .int .i64 0, .int .i64 0] 64 (0, 0))) ∧ Aside0 (w'.heap[gb215]? = some (.cells #[.int .i64 a1, .int .i64 t205, .int .i64 a2] 62 (0, 0))) ∧ Aside0 (Below w.heap.size w w'))
            case atStart => exact ⟨(0), er_, H', ⟨Nat.le_refl _⟩, ⟨by (with_reducible repeat (first | apply Kd.R_alloc | apply Kd.R_drewN | apply Kd.R_drew)); exact Kd.R_mono (Kd.R_far (p := ⟨gb198, 3, none⟩) (Kd.R_types HO218.out BK198.out (by decide)) (fun _ hk => hk.2) (.slice Ao54 t216.length co54)) (fun _ hk => hk.1)⟩, ⟨by (with_reducible repeat (first | refine blk_drewN ?_ _ | refine blk_drew ?_ | refine blk_alloc ?_ _)); refine blk_put (cs := #[.string t203, .int .i64 ji36, .int .i64 t205, .slice Ao42 t206.length co42]) ?_ 3 _ rfl; (with_reducible repeat (first | refine blk_drewN ?_ _ | refine blk_drew ?_ | refine blk_alloc ?_ _)); exact BK198.out⟩, ⟨by (with_reducible repeat (first | refine blk_drewN ?_ _ | refine blk_drew ?_ | refine blk_alloc ?_ _)); refine blk_far ?_ NB199_198.out _; (with_reducible repeat (first | refine blk_drewN ?_ _ | refine blk_drew ?_ | refine blk_alloc ?_ _)); exact BK199.out⟩, ⟨by (with_reducible repeat (first | refine blk_drewN ?_ _ | refine blk_drew ?_ | refine blk_alloc ?_ _)); refine blk_far ?_ NB215_198.out _; (with_reducible repeat (first | refine blk_drewN ?_ _ | refine blk_drew ?_ | refine blk_alloc ?_ _)); exact BK215.out⟩, ⟨bl_⟩⟩
            case round =>
              clear H'
              try clear c1
              try clear c2
              try clear p2
              try clear c3
              try clear c4
              try clear p6
              try clear c8
              try clear c10
              try clear c12
              try clear c15
              try clear c18
              try clear c21
              try clear c22
              try clear c26
              try clear c26b0
              try clear c26b1
              try clear c27
              try clear c27b0
              try clear c27b1
              try clear c28
              try clear c38
              try clear c45
              try clear c46
              try clear c47
              try clear hcz13_0
              try clear hcz13_1
              try clear hcz13_2
              try clear hcz13_3
              try clear hcz16_0
              try clear hcz16_1
              try clear hcz16_2
              try clear hcz16_3
              try clear hcz19_0
              try clear hcz19_1
              try clear hcz19_2
              try clear hcz19_3
              try clear hcz23_0
              try clear hcz23_1
              try clear hcz23_2
              try clear hcz23_3
              try clear hcz23_4
              try clear hcz23_5
              try clear hcz23_6
              try clear hcz23_7
              try clear hcz23_8
              try clear hcz29_0
              try clear hcz29_1
              try clear hcz29_2
              try clear hcz29_3
              try clear hcz31_0
              try clear hcz31_1
              try clear hcz31_2
              try clear hcz31_3
              try clear hcz34_0
              try clear hcz34_1
              try clear hcz34_2
              try clear hcz34_3
              try clear hcz35_0
              try clear hcz35_1
              try clear hcz35_2
              try clear hcz35_3
              try clear hcz35_4
              try clear hcz35_5
              try clear hcz35_6
              try clear hcz35_7
              try clear hcz35_8
              try clear hcz39_0
              try clear hcz39_1
              try clear hcz39_2
              try clear hcz39_3
              try clear hcz41_0
              try clear hcz41_1
              try clear hcz41_2
              try clear hcz41_3
              try clear hcz44_0
              try clear hcz44_1
              try clear hcz44_2
              try clear hcz44_3
              try clear hcz48_0
              try clear hcz48_1
              try clear hcz48_2
              try clear hcz50_0
              try clear hcz50_1
              try clear hcz50_2
              try clear hcz50_3
              try clear hcz52_0
              try clear hcz52_1
              try clear hcz52_2
              try clear hcz52_3
              try clear hcz55_0
              try clear hcz55_1
              try clear hcz55_2
              try clear hcz55_3
              try clear hfz13_0
              try clear hfz13_1
              try clear hfz13_2
              try clear hfz13_3
              try clear hfz16_0
              try clear hfz16_1
              try clear hfz16_2
              try clear hfz16_3
              try clear hfz19_0
              try clear hfz19_1
              try clear hfz19_2
              try clear hfz19_3
              try clear hfz23_0
              try clear hfz23_1
              try clear hfz23_2
              try clear hfz23_3
              try clear hfz23_4
              try clear hfz23_5
              try clear hfz23_6
              try clear hfz23_7
              try clear hfz23_8
              try clear hfz29_0
              try clear hfz29_1
              try clear hfz29_2
              try clear hfz29_3
              try clear hfz31_0
              try clear hfz31_1
              try clear hfz31_2
              try clear hfz31_3
              try clear hfz34_0
              try clear hfz34_1
              try clear hfz34_2
              try clear hfz34_3
              try clear hfz35_0
              try clear hfz35_1
              try clear hfz35_2
              try clear hfz35_3
              try clear hfz35_4
              try clear hfz35_5
              try clear hfz35_6
              try clear hfz35_7
              try clear hfz35_8
              try clear hfz39_0
              try clear hfz39_1
              try clear hfz39_2
              try clear hfz39_3
              try clear hfz41_0
              try clear hfz41_1
              try clear hfz41_2
              try clear hfz41_3
              try clear hfz44_0
              try clear hfz44_1
              try clear hfz44_2
              try clear hfz44_3
              try clear hfz48_0
              try clear hfz48_1
              try clear hfz48_2
              try clear hfz50_0
              try clear hfz50_1
              try clear hfz50_2
              try clear hfz50_3
              try clear hfz52_0
              try clear hfz52_1
              try clear hfz52_2
              try clear hfz52_3
              try clear hfz55_0
              try clear hfz55_1
              try clear hfz55_2
              try clear hfz55_3
              try clear p2
              obtain ⟨x11_2, rfl, HA, HK2, HO_199003, BK198, BK199, BK215, HB⟩ := hrel
              cases gk with
              | zero => exact absurd HA.out (by simp [impl_PartnerTake.l0])
              | succ k2 =>
                have H := HA.out
                clear HA
                simp only [impl_PartnerTake.l0] at H
                by_cases c56 : x11_2 < (t216.length : Int)
                · rw [if_pos c56] at H
                  have c56b0 : decide (x11_2 < (t216.length : Int)) = true := decide_eq_true c56
                  clear c56
                  by_cases c57 : 0 ≤ x11_2
                  · rw [if_pos c57] at H
                    have c57b0 : decide (0 ≤ x11_2) = true := decide_eq_true c57
                    clear c57
                    by_cases c58 : ((rd_T62 t216 x11_2).f0) < a1
                    · rw [if_pos c58] at H
                      have c58b0 : decide (((rd_T62 t216 x11_2).f0) < a1) = true := decide_eq_true c58
                      clear c58
                      have H' := Aside0.mk H
                      clear H
                      have hnb59 := NB198_199.out
                      have hnc59 := NB199_198.out
                      have hnb60 := NB198_215.out
                      have hnc60 := NB215_198.out
                      obtain ⟨hcz61_0, hcz61_1, hcz61_2, hcz61_3, hfz61_0, hfz61_1, hfz61_2, hfz61_3⟩ := cellsF4 BK198.out
                      have p219 : 0 ≤ (x11_2 : Int) := of_decide_eq_true as_
                      have q219 : x11_2 < (t216.length : Int) := of_decide_eq_true as_
                      obtain ⟨ad219, e219, hx219_0, hx219_1, hx219_2⟩ := at_T62 (Kd.R_reads' HO_199003.out).2.2 x11_2 p219 q219
                      cases e219
                      replace p219 := eq_true p219
                      replace q219 := eq_true q219
                      go_wp2
                      go_roundg k2
                      case measure => have := HJ3.out; have := HK2.out; omega
                      case rel => exact ⟨(wrap64 (x11_2 + 1)), er_, H', ⟨by have := HJ3.out; have := HK2.out; omega⟩, ⟨rk_ HO_199003⟩, ⟨bk_ BK198⟩, ⟨bk_ BK199⟩, ⟨bk_ BK215⟩, ⟨bl_⟩⟩
                    · rw [if_neg c58] at H
                      have c58b0 : decide (((rd_T62 t216 x11_2).f0) < a1) = false := decide_eq_false c58
                      clear c58
                      obtain ⟨y220, hy220⟩ : ∃ y_ : List (S62), y_ = (([(⟨a1, t205, a2⟩ : S62)] : List (S62))) := ⟨_, rfl⟩
                      replace H : ((impl_Seen_96.f t216 x11_2 y220).bind fun t223 => (some (t203, ji36, wrap64 (t205 + 1), t223, t209, a1, t205, a2, 0))) = some (r1, r2, r3, r4, r5, r6, r7, r8, r9) := by first | (rw [hy220]; with_reducible exact H) | (have H2_ := (Option.bind_some _ _).symm.trans H; rw [hy220]; with_reducible exact H2_) | (have H2_ := (Option.bind_some _ _).symm.trans H; with_reducible exact H2_) | with_reducible exact H | (rw [hy220]; exact H) | exact H
                      have Ny220 := Aside0.mk hy220
                      clear hy220
                      replace H := Option.bind_eq_some_iff.mp H
                      obtain ⟨t223, A620, H⟩ := H
                      replace H : (some (t203, ji36, wrap64 (t205 + 1), t223, t209, a1, t205, a2, 0)) = some (r1, r2, r3, r4, r5, r6, r7, r8, r9) := H
                      have A62 := Aside0.mk A620
                      clear A620
                      simp only [Option.some.injEq, Prod.mk.injEq] at H
                      obtain ⟨rfl, rfl, rfl, rfl, rfl, rfl, rfl, rfl, rfl⟩ := H
                      have hnb63 := NB198_199.out
                      have hnc63 := NB199_198.out
                      have hnb64 := NB198_215.out
                      have hnc64 := NB215_198.out
                      obtain ⟨hcz65_0, hcz65_1, hcz65_2, hcz65_3, hfz65_0, hfz65_1, hfz65_2, hfz65_3⟩ := cellsF4 BK198.out
                      have p219 : 0 ≤ (x11_2 : Int) := of_decide_eq_true as_
                      have q219 : x11_2 < (t216.length : Int) := of_decide_eq_true as_
                      obtain ⟨ad219, e219, hx219_0, hx219_1, hx219_2⟩ := at_T62 (Kd.R_reads' HO_199003.out).2.2 x11_2 p219 q219
                      cases e219
                      replace p219 := eq_true p219
                      replace q219 := eq_true q219
                      have hnb66 := NB215_199.out
                      have hnc66 := NB199_215.out
                      obtain ⟨hcz67_0, hcz67_1, hcz67_2, hfz67_0, hfz67_1, hfz67_2⟩ := cellsF3 BK215.out
                      go_wp2_with (first | ((with_reducible refine gate_dst (N := 83) rfl ?_); refine Kd.R_lit k62 _ 62 ?hg (N := 83) ?hd (xs := ([(⟨a1, t205, a2⟩ : S62)] : List (S62))) (inner := [.int .i64 a1, .int .i64 t205, .int .i64 a2]) (ok := fun _ => True) (okp := fun _ => True) ?hr ?hp (fun _ hk => hk) trivial (Below.refl _ _) (Nat.le_refl _) (by simp) ?_; (case hd => rfl); (case hg => rfl); (case hr => exact hr_); (case hp => exact au9_10); intro v221 w68 ho69 hb hg_ hnew_; clear hg_ hnew_; (first | rw [← Ny220.out] at ho69 | (simp only [Int.reduceToNat] at ho69; rw [← Ny220.out] at ho69)); have n0_ := Aside0.mk (Kd.R_elder' (rk_ HO_199003) (Kd.R_base ho69) hb); have n1_ := Aside0.mk (Kd.R_lower (Kd.R_newB (Kd.R_new' ho69 (Kd.R_lt (rk_ HO_199003))) (g := gb215) (o := .cells #[.int .i64 a1, .int .i64 t205, .int .i64 a2] 62 (0, 0)) (bk_ BK215)) (below_size bl_)); have n2_ := Aside0.mk (blkb_ BK198 hb); have n3_ := Aside0.mk (blkb_ BK199 hb); have n4_ := Aside0.mk (blkb_ BK215 hb); have n5_ := Aside0.mk (below_step bl_ hb); clear HO_199003; clear BK198; clear BK199; clear BK215; clear HB; have HO_199003 := n0_; have HO222 := n1_; have BK198 := n2_; have BK199 := n3_; have BK215 := n4_; have HB := n5_; clear n0_ n1_ n2_ n3_ n4_ n5_; clear hb ho69; obtain ⟨Ao70, co70, eo70⟩ := Kd.R_slice HO222.out; subst eo70) | (go_at_call 96; (with_reducible refine (impl_Seen_96.calls (fun k_ => some k_ = (.slice (some ad219) t216.length co54 : Value).ownBlock) (.slice (some ad219) t216.length co54) t216 x11_2 (fun k_ => some k_ = (.slice Ao70 y220.length co70 : Value).ownBlock) (.slice Ao70 y220.length co70) y220 t223 w _ ?side1 ?side2 ?side3 ?side4 ?side5 A62.out).mono ?_); (case side1 => exact au9_7); (case side2 => exact Kd.R_tight rfl HO_199003.out); (case side3 => exact fun k_ e_ => (HO_199003.out.1 k_ e_.symm).2); (case side4 => exact Kd.R_tight rfl HO222.out); (case side5 => exact fun k_ e_ => (HO222.out.1 k_ e_.symm).1.2); rintro e w71 ⟨v224, rfl, ho0, hb, hkp⟩; (try clear A62); have n0_ := Aside0.mk (blk_kept (bk_ BK198) hkp (fun hs_ => Or.elim hs_ (fun e_ => (fun e_ => (Kd.R_ne HO_199003.out BK198.out (by decide)) e_) e_) (fun e_ => (fun e_ => (Kd.R_ne HO222.out BK198.out (by decide)) e_) e_))); have n1_ := Aside0.mk (blk_kept (bk_ BK199) hkp (fun hs_ => Or.elim hs_ (fun e_ => (fun e_ => (Kd.R_ne HO_199003.out BK199.out (by decide)) e_) e_) (fun e_ => (fun e_ => (Kd.R_ne HO222.out BK199.out (by decide)) e_) e_))); have n2_ := Aside0.mk (blk_kept (bk_ BK215) hkp (fun hs_ => Or.elim hs_ (fun e_ => (fun e_ => (Kd.R_away HO_199003.out (fun _ hk => hk.1)) e_) e_) (fun e_ => (fun e_ => (Kd.R_away HO222.out (fun _ hk => hk.2)) e_) e_))); have n3_ := Aside0.mk (Kd.R_mono (ok' := fun k_ => k_ ≠ gb215) ho0 (fun k_ hk_ => Or.elim hk_ (fun hs_ => Or.elim hs_ (fun hs_ => fun e_ => (Kd.R_away HO_199003.out (fun _ hk => hk.1)) (by rw [← e_]; exact hs_)) (fun hs_ => fun e_ => (Kd.R_away HO222.out (fun _ hk => hk.2)) (by rw [← e_]; exact hs_))) (fun hn_ => (Kd.freshB (g := gb215) (o := .cells #[.int .i64 a1, .int .i64 t205, .int .i64 a2] 62 (0, 0)) (bk_ BK215) k_ hn_)))); have n4_ := Aside0.mk (hb); clear BK198; clear BK199; clear BK215; clear HB; clear HO222; clear HO_199003; have BK198 := n0_; have BK199 := n1_; have BK215 := n2_; have HO225 := n3_; have HB := n4_; clear n0_ n1_ n2_ n3_ n4_; (try clear hb); (try clear hkp); (try clear ho0); obtain ⟨Ao72, co72, eo72⟩ := Kd.R_slice HO225.out; subst eo72; obtain ⟨hcz73_0, hcz73_1, hcz73_2, hcz73_3, hfz73_0, hfz73_1, hfz73_2, hfz73_3⟩ := cellsF4 BK198.out; obtain ⟨hcz74_0, hcz74_1, hcz74_2, hfz74_0, hfz74_1, hfz74_2⟩ := cellsF3 BK215.out; obtain ⟨hcz75_0, hcz75_1, hcz75_2, hcz75_3, hcz75_4, hcz75_5, hcz75_6, hcz75_7, hcz75_8, hfz75_0, hfz75_1, hfz75_2, hfz75_3, hfz75_4, hfz75_5, hfz75_6, hfz75_7, hfz75_8⟩ := cellsF9 BK199.out))
                      refine bodyPost_ret (results_cell_row rfl _ _ gb199 64 #[.string t203, .int .i64 ji36, .int .i64 (wrap64 (t205 + 1)), .slice Ao72 t223.length co72, .int .i64 t209, .int .i64 a1, .int .i64 t205, .int .i64 a2, .int .i64 0] (0, 0) _ rfl (by (with_reducible repeat (first | refine blk_drewN ?_ _ | refine blk_drew ?_ | refine blk_alloc ?_ _)); refine blk_put (cs := #[.string t203, .int .i64 ji36, .int .i64 (wrap64 (t205 + 1)), .slice Ao72 t223.length co72, .int .i64 t209, .int .i64 a1, .int .i64 t205, .int .i64 a2, .int .i64 0]) ?_ 8 _ rfl; (with_reducible repeat (first | refine blk_drewN ?_ _ | refine blk_drew ?_ | refine blk_alloc ?_ _)); refine blk_put (cs := #[.string t203, .int .i64 ji36, .int .i64 (wrap64 (t205 + 1)), .slice Ao72 t223.length co72, .int .i64 t209, .int .i64 a1, .int .i64 t205, .int .i64 0, .int .i64 0]) ?_ 7 _ rfl; (with_reducible repeat (first | refine blk_drewN ?_ _ | refine blk_drew ?_ | refine blk_alloc ?_ _)); refine blk_put (cs := #[.string t203, .int .i64 ji36, .int .i64 (wrap64 (t205 + 1)), .slice Ao72 t223.length co72, .int .i64 t209, .int .i64 a1, .int .i64 0, .int .i64 0, .int .i64 0]) ?_ 6 _ rfl; (with_reducible repeat (first | refine blk_drewN ?_ _ | refine blk_drew ?_ | refine blk_alloc ?_ _)); refine blk_put (cs := #[.string t203, .int .i64 ji36, .int .i64 (wrap64 (t205 + 1)), .slice Ao72 t223.length co72, .int .i64 t209, .int .i64 0, .int .i64 0, .int .i64 0, .int .i64 0]) ?_ 5 _ rfl; (with_reducible repeat (first | refine blk_drewN ?_ _ | refine blk_drew ?_ | refine blk_alloc ?_ _)); refine blk_put (cs := #[.string t203, .int .i64 ji36, .int .i64 (wrap64 (t205 + 1)), .slice Ao72 t223.length co72, .int .i64 0, .int .i64 0, .int .i64 0, .int .i64 0, .int .i64 0]) ?_ 4 _ rfl; (with_reducible repeat (first | refine blk_drewN ?_ _ | refine blk_drew ?_ | refine blk_alloc ?_ _)); refine blk_put (cs := #[.string t203, .int .i64 ji36, .int .i64 (wrap64 (t205 + 1)), .slice none 0 0, .int .i64 0, .int .i64 0, .int .i64 0, .int .i64 0, .int .i64 0]) ?_ 3 _ rfl; (with_reducible repeat (first | refine blk_drewN ?_ _ | refine blk_drew ?_ | refine blk_alloc ?_ _)); refine blk_put (cs := #[.string t203, .int .i64 ji36, .int .i64 0, .slice none 0 0, .int .i64 0, .int .i64 0, .int .i64 0, .int .i64 0, .int .i64 0]) ?_ 2 _ rfl; (with_reducible repeat (first | refine blk_drewN ?_ _ | refine blk_drew ?_ | refine blk_alloc ?_ _)); refine blk_put (cs := #[.string t203, .int .i64 0, .int .i64 0, .slice none 0 0, .int .i64 0, .int .i64 0, .int .i64 0, .int .i64 0, .int .i64 0]) ?_ 1 _ rfl; (with_reducible repeat (first | refine blk_drewN ?_ _ | refine blk_drew ?_ | refine blk_alloc ?_ _)); refine blk_put (cs := #[.string (⟨#[]⟩ : ByteArray), .int .i64 0, .int .i64 0, .slice none 0 0, .int .i64 0, .int .i64 0, .int .i64 0, .int .i64 0, .int .i64 0]) ?_ 0 _ rfl; (with_reducible repeat (first | refine blk_drewN ?_ _ | refine blk_drew ?_ | refine blk_alloc ?_ _)); refine blk_far ?_ NB199_198.out _; (with_reducible repeat (first | refine blk_drewN ?_ _ | refine blk_drew ?_ | refine blk_alloc ?_ _)); refine blk_far ?_ NB199_198.out _; (with_reducible repeat (first | refine blk_drewN ?_ _ | refine blk_drew ?_ | refine blk_alloc ?_ _)); exact BK199.out) Try.underlying64 rfl (by kernel_rfl)) rfl ?_
                      exact ⟨_, au9_9, by (with_reducible repeat (first | apply Kd.R_alloc | apply Kd.R_drewN | apply Kd.R_drew)); exact Kd.R_mono (Kd.R_far (p := ⟨gb199, 8, none⟩) (Kd.R_far (p := ⟨gb199, 7, none⟩) (Kd.R_far (p := ⟨gb199, 6, none⟩) (Kd.R_far (p := ⟨gb199, 5, none⟩) (Kd.R_far (p := ⟨gb199, 4, none⟩) (Kd.R_far (p := ⟨gb199, 3, none⟩) (Kd.R_far (p := ⟨gb199, 2, none⟩) (Kd.R_far (p := ⟨gb199, 1, none⟩) (Kd.R_far (p := ⟨gb199, 0, none⟩) (Kd.R_far (p := ⟨gb198, 2, none⟩) (Kd.R_far (p := ⟨gb198, 3, none⟩) (Kd.R_types (Kd.R_types HO225.out BK198.out (by decide)) BK199.out (by decide)) (fun _ hk => hk.1.2) (.slice Ao72 t223.length co72)) (fun _ hk => hk.1.2) (.int .i64 (wrap64 (t205 + 1)))) (fun _ hk => hk.2) (.string t203)) (fun _ hk => hk.2) (.int .i64 ji36)) (fun _ hk => hk.2) (.int .i64 (wrap64 (t205 + 1)))) (fun _ hk => hk.2) (.slice Ao72 t223.length co72)) (fun _ hk => hk.2) (.int .i64 t209)) (fun _ hk => hk.2) (.int .i64 a1)) (fun _ hk => hk.2) (.int .i64 t205)) (fun _ hk => hk.2) (.int .i64 a2)) (fun _ hk => hk.2) (.int .i64 0)) (fun _ hk => trivial), bl_⟩
                  · rw [if_neg c57] at H
                    exact absurd H (by simp)
                · rw [if_neg c56] at H
                  have c56b0 : decide (x11_2 < (t216.length : Int)) = false := decide_eq_false c56
                  clear c56
                  obtain ⟨y226, hy226⟩ : ∃ y_ : List (S62), y_ = (([(⟨a1, t205, a2⟩ : S62)] : List (S62))) := ⟨_, rfl⟩
                  replace H : ((impl_Seen_96.f t216 x11_2 y226).bind fun t229 => (some (t203, ji36, wrap64 (t205 + 1), t229, t209, a1, t205, a2, 0))) = some (r1, r2, r3, r4, r5, r6, r7, r8, r9) := by first | (rw [hy226]; with_reducible exact H) | (have H2_ := (Option.bind_some _ _).symm.trans H; rw [hy226]; with_reducible exact H2_) | (have H2_ := (Option.bind_some _ _).symm.trans H; with_reducible exact H2_) | with_reducible exact H | (rw [hy226]; exact H) | exact H
                  have Ny226 := Aside0.mk hy226
                  clear hy226
                  replace H := Option.bind_eq_some_iff.mp H
                  obtain ⟨t229, A760, H⟩ := H
                  replace H : (some (t203, ji36, wrap64 (t205 + 1), t229, t209, a1, t205, a2, 0)) = some (r1, r2, r3, r4, r5, r6, r7, r8, r9) := H
                  have A76 := Aside0.mk A760
                  clear A760
                  simp only [Option.some.injEq, Prod.mk.injEq] at H
                  obtain ⟨rfl, rfl, rfl, rfl, rfl, rfl, rfl, rfl, rfl⟩ := H
                  have hnb77 := NB198_199.out
                  have hnc77 := NB199_198.out
                  have hnb78 := NB198_215.out
                  have hnc78 := NB215_198.out
                  obtain ⟨hcz79_0, hcz79_1, hcz79_2, hcz79_3, hfz79_0, hfz79_1, hfz79_2, hfz79_3⟩ := cellsF4 BK198.out
                  have hnb80 := NB215_199.out
                  have hnc80 := NB199_215.out
                  obtain ⟨hcz81_0, hcz81_1, hcz81_2, hfz81_0, hfz81_1, hfz81_2⟩ := cellsF3 BK215.out
                  go_wp2_with (first | ((with_reducible refine gate_dst (N := 83) rfl ?_); refine Kd.R_lit k62 _ 62 ?hg (N := 83) ?hd (xs := ([(⟨a1, t205, a2⟩ : S62)] : List (S62))) (inner := [.int .i64 a1, .int .i64 t205, .int .i64 a2]) (ok := fun _ => True) (okp := fun _ => True) ?hr ?hp (fun _ hk => hk) trivial (Below.refl _ _) (Nat.le_refl _) (by simp) ?_; (case hd => rfl); (case hg => rfl); (case hr => exact hr_); (case hp => exact au9_10); intro v227 w82 ho83 hb hg_ hnew_; clear hg_ hnew_; (first | rw [← Ny226.out] at ho83 | (simp only [Int.reduceToNat] at ho83; rw [← Ny226.out] at ho83)); have n0_ := Aside0.mk (Kd.R_elder' (rk_ HO_199003) (Kd.R_base ho83) hb); have n1_ := Aside0.mk (Kd.R_lower (Kd.R_newB (Kd.R_new' ho83 (Kd.R_lt (rk_ HO_199003))) (g := gb215) (o := .cells #[.int .i64 a1, .int .i64 t205, .int .i64 a2] 62 (0, 0)) (bk_ BK215)) (below_size bl_)); have n2_ := Aside0.mk (blkb_ BK198 hb); have n3_ := Aside0.mk (blkb_ BK199 hb); have n4_ := Aside0.mk (blkb_ BK215 hb); have n5_ := Aside0.mk (below_step bl_ hb); clear HO_199003; clear BK198; clear BK199; clear BK215; clear HB; have HO_199003 := n0_; have HO228 := n1_; have BK198 := n2_; have BK199 := n3_; have BK215 := n4_; have HB := n5_; clear n0_ n1_ n2_ n3_ n4_ n5_; clear hb ho83; obtain ⟨Ao84, co84, eo84⟩ := Kd.R_slice HO228.out; subst eo84) | (go_at_call 96; (with_reducible refine (impl_Seen_96.calls (fun k_ => some k_ = (.slice Ao54 t216.length co54 : Value).ownBlock) (.slice Ao54 t216.length co54) t216 x11_2 (fun k_ => some k_ = (.slice Ao84 y226.length co84 : Value).ownBlock) (.slice Ao84 y226.length co84) y226 t229 w _ ?side1 ?side2 ?side3 ?side4 ?side5 A76.out).mono ?_); (case side1 => exact au9_7); (case side2 => exact Kd.R_tight rfl HO_199003.out); (case side3 => exact fun k_ e_ => (HO_199003.out.1 k_ e_.symm).2); (case side4 => exact Kd.R_tight rfl HO228.out); (case side5 => exact fun k_ e_ => (HO228.out.1 k_ e_.symm).1.2); rintro e w85 ⟨v230, rfl, ho0, hb, hkp⟩; (try clear A76); have n0_ := Aside0.mk (blk_kept (bk_ BK198) hkp (fun hs_ => Or.elim hs_ (fun e_ => (fun e_ => (Kd.R_ne HO_199003.out BK198.out (by decide)) e_) e_) (fun e_ => (fun e_ => (Kd.R_ne HO228.out BK198.out (by decide)) e_) e_))); have n1_ := Aside0.mk (blk_kept (bk_ BK199) hkp (fun hs_ => Or.elim hs_ (fun e_ => (fun e_ => (Kd.R_ne HO_199003.out BK199.out (by decide)) e_) e_) (fun e_ => (fun e_ => (Kd.R_ne HO228.out BK199.out (by decide)) e_) e_))); have n2_ := Aside0.mk (blk_kept (bk_ BK215) hkp (fun hs_ => Or.elim hs_ (fun e_ => (fun e_ => (Kd.R_away HO_199003.out (fun _ hk => hk.1)) e_) e_) (fun e_ => (fun e_ => (Kd.R_away HO228.out (fun _ hk => hk.2)) e_) e_))); have n3_ := Aside0.mk (Kd.R_mono (ok' := fun k_ => k_ ≠ gb215) ho0 (fun k_ hk_ => Or.elim hk_ (fun hs_ => Or.elim hs_ (fun hs_ => fun e_ => (Kd.R_away HO_199003.out (fun _ hk => hk.1)) (by rw [← e_]; exact hs_)) (fun hs_ => fun e_ => (Kd.R_away HO228.out (fun _ hk => hk.2)) (by rw [← e_]; exact hs_))) (fun hn_ => (Kd.freshB (g := gb215) (o := .cells #[.int .i64 a1, .int .i64 t205, .int .i64 a2] 62 (0, 0)) (bk_ BK215) k_ hn_)))); have n4_ := Aside0.mk (hb); clear BK198; clear BK199; clear BK215; clear HB; clear HO228; clear HO_199003; have BK198 := n0_; have BK199 := n1_; have BK215 := n2_; have HO231 := n3_; have HB := n4_; clear n0_ n1_ n2_ n3_ n4_; (try clear hb); (try clear hkp); (try clear ho0); obtain ⟨Ao86, co86, eo86⟩ := Kd.R_slice HO231.out; subst eo86; obtain ⟨hcz87_0, hcz87_1, hcz87_2, hcz87_3, hfz87_0, hfz87_1, hfz87_2, hfz87_3⟩ := cellsF4 BK198.out; obtain ⟨hcz88_0, hcz88_1, hcz88_2, hfz88_0, hfz88_1, hfz88_2⟩ := cellsF3 BK215.out; obtain ⟨hcz89_0, hcz89_1, hcz89_2, hcz89_3, hcz89_4, hcz89_5, hcz89_6, hcz89_7, hcz89_8, hfz89_0, hfz89_1, hfz89_2, hfz89_3, hfz89_4, hfz89_5, hfz89_6, hfz89_7, hfz89_8⟩ := cellsF9 BK199.out))
                  refine bodyPost_ret (results_cell_row rfl _ _ gb199 64 #[.string t203, .int .i64 ji36, .int .i64 (wrap64 (t205 + 1)), .slice Ao86 t229.length co86, .int .i64 t209, .int .i64 a1, .int .i64 t205, .int .i64 a2, .int .i64 0] (0, 0) _ rfl (by (with_reducible repeat (first | refine blk_drewN ?_ _ | refine blk_drew ?_ | refine blk_alloc ?_ _)); refine blk_put (cs := #[.string t203, .int .i64 ji36, .int .i64 (wrap64 (t205 + 1)), .slice Ao86 t229.length co86, .int .i64 t209, .int .i64 a1, .int .i64 t205, .int .i64 a2, .int .i64 0]) ?_ 8 _ rfl; (with_reducible repeat (first | refine blk_drewN ?_ _ | refine blk_drew ?_ | refine blk_alloc ?_ _)); refine blk_put (cs := #[.string t203, .int .i64 ji36, .int .i64 (wrap64 (t205 + 1)), .slice Ao86 t229.length co86, .int .i64 t209, .int .i64 a1, .int .i64 t205, .int .i64 0, .int .i64 0]) ?_ 7 _ rfl; (with_reducible repeat (first | refine blk_drewN ?_ _ | refine blk_drew ?_ | refine blk_alloc ?_ _)); refine blk_put (cs := #[.string t203, .int .i64 ji36, .int .i64 (wrap64 (t205 + 1)), .slice Ao86 t229.length co86, .int .i64 t209, .int .i64 a1, .int .i64 0, .int .i64 0, .int .i64 0]) ?_ 6 _ rfl; (with_reducible repeat (first | refine blk_drewN ?_ _ | refine blk_drew ?_ | refine blk_alloc ?_ _)); refine blk_put (cs := #[.string t203, .int .i64 ji36, .int .i64 (wrap64 (t205 + 1)), .slice Ao86 t229.length co86, .int .i64 t209, .int .i64 0, .int .i64 0, .int .i64 0, .int .i64 0]) ?_ 5 _ rfl; (with_reducible repeat (first | refine blk_drewN ?_ _ | refine blk_drew ?_ | refine blk_alloc ?_ _)); refine blk_put (cs := #[.string t203, .int .i64 ji36, .int .i64 (wrap64 (t205 + 1)), .slice Ao86 t229.length co86, .int .i64 0, .int .i64 0, .int .i64 0, .int .i64 0, .int .i64 0]) ?_ 4 _ rfl; (with_reducible repeat (first | refine blk_drewN ?_ _ | refine blk_drew ?_ | refine blk_alloc ?_ _)); refine blk_put (cs := #[.string t203, .int .i64 ji36, .int .i64 (wrap64 (t205 + 1)), .slice none 0 0, .int .i64 0, .int .i64 0, .int .i64 0, .int .i64 0, .int .i64 0]) ?_ 3 _ rfl; (with_reducible repeat (first | refine blk_drewN ?_ _ | refine blk_drew ?_ | refine blk_alloc ?_ _)); refine blk_put (cs := #[.string t203, .int .i64 ji36, .int .i64 0, .slice none 0 0, .int .i64 0, .int .i64 0, .int .i64 0, .int .i64 0, .int .i64 0]) ?_ 2 _ rfl; (with_reducible repeat (first | refine blk_drewN ?_ _ | refine blk_drew ?_ | refine blk_alloc ?_ _)); refine blk_put (cs := #[.string t203, .int .i64 0, .int .i64 0, .slice none 0 0, .int .i64 0, .int .i64 0, .int .i64 0, .int .i64 0, .int .i64 0]) ?_ 1 _ rfl; (with_reducible repeat (first | refine blk_drewN ?_ _ | refine blk_drew ?_ | refine blk_alloc ?_ _)); refine blk_put (cs := #[.string (⟨#[]⟩ : ByteArray), .int .i64 0, .int .i64 0, .slice none 0 0, .int .i64 0, .int .i64 0, .int .i64 0, .int .i64 0, .int .i64 0]) ?_ 0 _ rfl; (with_reducible repeat (first | refine blk_drewN ?_ _ | refine blk_drew ?_ | refine blk_alloc ?_ _)); refine blk_far ?_ NB199_198.out _; (with_reducible repeat (first | refine blk_drewN ?_ _ | refine blk_drew ?_ | refine blk_alloc ?_ _)); refine blk_far ?_ NB199_198.out _; (with_reducible repeat (first | refine blk_drewN ?_ _ | refine blk_drew ?_ | refine blk_alloc ?_ _)); exact BK199.out) Try.underlying64 rfl (by kernel_rfl)) rfl ?_
                  exact ⟨_, au9_9, by (with_reducible repeat (first | apply Kd.R_alloc | apply Kd.R_drewN | apply Kd.R_drew)); exact Kd.R_mono (Kd.R_far (p := ⟨gb199, 8, none⟩) (Kd.R_far (p := ⟨gb199, 7, none⟩) (Kd.R_far (p := ⟨gb199, 6, none⟩) (Kd.R_far (p := ⟨gb199, 5, none⟩) (Kd.R_far (p := ⟨gb199, 4, none⟩) (Kd.R_far (p := ⟨gb199, 3, none⟩) (Kd.R_far (p := ⟨gb199, 2, none⟩) (Kd.R_far (p := ⟨gb199, 1, none⟩) (Kd.R_far (p := ⟨gb199, 0, none⟩) (Kd.R_far (p := ⟨gb198, 2, none⟩) (Kd.R_far (p := ⟨gb198, 3, none⟩) (Kd.R_types (Kd.R_types HO231.out BK198.out (by decide)) BK199.out (by decide)) (fun _ hk => hk.1.2) (.slice Ao86 t229.length co86)) (fun _ hk => hk.1.2) (.int .i64 (wrap64 (t205 + 1)))) (fun _ hk => hk.2) (.string t203)) (fun _ hk => hk.2) (.int .i64 ji36)) (fun _ hk => hk.2) (.int .i64 (wrap64 (t205 + 1)))) (fun _ hk => hk.2) (.slice Ao86 t229.length co86)) (fun _ hk => hk.2) (.int .i64 t209)) (fun _ hk => hk.2) (.int .i64 a1)) (fun _ hk => hk.2) (.int .i64 t205)) (fun _ hk => hk.2) (.int .i64 a2)) (fun _ hk => hk.2) (.int .i64 0)) (fun _ hk => trivial), bl_⟩
        · rw [if_neg c26] at H
          have c26b0 : (t209 == 1) = false := beq_eq_false_iff_ne.mpr c26
          have c26b1 : (t209 != 1) = true := bne_iff_ne.mpr c26
          replace H := Option.bind_eq_some_iff.mp H
          obtain ⟨⟨t210, t211, t212, t213⟩, A900, H⟩ := H
          replace H : (some (t203, t204, t205, t206, t209, t210, t211, t212, 0)) = some (r1, r2, r3, r4, r5, r6, r7, r8, r9) := H
          have A90 := Aside0.mk A900
          clear A900
          simp only [Option.some.injEq, Prod.mk.injEq] at H
          obtain ⟨rfl, rfl, rfl, rfl, rfl, rfl, rfl, rfl, rfl⟩ := H
          have hnb91 := NB198_199.out
          have hnc91 := NB199_198.out
          obtain ⟨hcz92_0, hcz92_1, hcz92_2, hcz92_3, hfz92_0, hfz92_1, hfz92_2, hfz92_3⟩ := cellsF4 BK198.out
          go_wp2_with (first | (go_at_call 92; (with_reducible refine (impl_ownPartner.calls a0_0 a0_1 a0_2 _ _ l0_3 t203 t204 t205 t206 _ ?side1 ?side2 A24.out).mono ?_); (case side1 => exact au9_3); (case side2 => exact HC0_3.out); rintro e w93 ⟨v207, rfl, ho0, hb⟩; (try clear A24); have n0_ := Aside0.mk (Kd.R_lower ho0 (below_size bl_)); have n1_ := Aside0.mk (blkb_ BK198 hb); have n2_ := Aside0.mk (blkb_ BK199 hb); have n3_ := Aside0.mk (below_step bl_ hb); clear BK198; clear BK199; clear HB; have HO208 := n0_; have BK198 := n1_; have BK199 := n2_; have HB := n3_; clear n0_ n1_ n2_ n3_; (try clear hb); (try clear hb2); (try clear hk); (try clear hi); (try clear ho0); obtain ⟨hcz94_0, hcz94_1, hcz94_2, hcz94_3, hfz94_0, hfz94_1, hfz94_2, hfz94_3⟩ := cellsF4 BK198.out; obtain ⟨Ao95, co95, eo95⟩ := Kd.R_slice HO208.out; subst eo95) | (go_at_call 82; (with_reducible refine (impl_Partner_ask.calls kj3 gb198 t203 t204 t205 Ao95 co95 t206 a1 t209 _ ?side1 ?side2 ?side3 A25.out).mono ?_); (case side1 => exact au9_0); (case side2 => refine (Kd.R_reads' (e := 62) (base := w.heap.size) (ok := fun k_ => True) (n := t206.length) (c := co95) ?_).2.2; exact au9_6); (case side3 => exact au9_12); rintro e w96 ⟨rfl, hb⟩; (try clear A25); have n0_ := Aside0.mk (Kd.R_below au9_6 hb); have n1_ := Aside0.mk (blk_below (g := gb198) (o := .cells #[.string t203, .int .i64 t204, .int .i64 t205, .slice Ao95 t206.length co95] 51 (0, 0)) au9_0 hb); have n2_ := Aside0.mk (blk_below (g := gb199) (o := .cells #[.string (⟨#[]⟩ : ByteArray), .int .i64 0, .int .i64 0, .slice none 0 0, .int .i64 0, .int .i64 0, .int .i64 0, .int .i64 0, .int .i64 0] 64 (0, 0)) au9_2 hb); have n3_ := Aside0.mk (below_step bl_ hb); clear HO208; clear BK198; clear BK199; clear HB; have HO208 := n0_; have BK198 := n1_; have BK199 := n2_; have HB := n3_; clear n0_ n1_ n2_ n3_; (try clear hb); (try clear hb2); (try clear hk); (try clear hi)) | (go_at_call 93; (with_reducible refine (impl_Partner_seen.calls kj3 gb198 t203 t204 t205 Ao95 co95 t206 a1 t210 t211 t212 t213 _ ?side1 ?side2 ?side3 A90.out).mono ?_); (case side1 => exact (bk_ BK198)); (case side2 => repeat (first | exact (Kd.R_reads' HO208.out).2.2 | (with_reducible refine Kd.C_alloc ?_ _) | (with_reducible refine Kd.C_drewN ?_ _) | (with_reducible refine Kd.C_drew ?_))); (case side3 => exact au9_12); rintro e w97 ⟨rfl, hb⟩; (try clear A90); have n0_ := Aside0.mk (Kd.R_below (rk_ HO208) hb); have n1_ := Aside0.mk (blkb_ BK198 hb); have n2_ := Aside0.mk (blkb_ BK199 hb); have n3_ := Aside0.mk (below_step bl_ hb); clear HO208; clear BK198; clear BK199; clear HB; have HO208 := n0_; have BK198 := n1_; have BK199 := n2_; have HB := n3_; clear n0_ n1_ n2_ n3_; (try clear hb); (try clear hb2); (try clear hk); (try clear hi)) | ((with_reducible refine gate_dst (N := 8) rfl ?_); refine box_event ?hg (N := 8) ?hd (cs := #[.int .i64 0, .int .i64 0, .int .i64 0]) (t := 62) ?hr ?_; (case hd => rfl); (case hg => rfl); (case hr => exact hr_); intro gb214 hg w98 hbox hb; have n0_ := Aside0.mk (Kd.R_below (Kd.R_elderB (rk_ HO208) gb214 (Nat.le_of_eq hg.symm)) hb); have n1_ := Aside0.mk (blkb_ BK198 hb); have n2_ := Aside0.mk (blkb_ BK199 hb); have n3_ := Aside0.mk (below_step bl_ hb); have n4_ := Aside0.mk (hbox); have n5_ := Aside0.mk (gw_ hg bl_); have n6_ := Aside0.mk (gw_ hg bl_); have n7_ := Aside0.mk (gn_ hg (blkl_ BK198)); have n8_ := Aside0.mk (gm_ hg (blkl_ BK198)); have n9_ := Aside0.mk (gn_ hg (blkl_ BK199)); have n10_ := Aside0.mk (gm_ hg (blkl_ BK199)); clear HO208; clear BK198; clear BK199; clear HB; have HO208 := n0_; have BK198 := n1_; have BK199 := n2_; have HB := n3_; have BK214 := n4_; have GW214 := n5_; have GE214 := n6_; have NB198_214 := n7_; have NB214_198 := n8_; have NB199_214 := n9_; have NB214_199 := n10_; clear n0_ n1_ n2_ n3_ n4_ n5_ n6_ n7_ n8_ n9_ n10_; clear hb hbox hg; have hnb99 := NB214_198.out; have hnc99 := NB198_214.out; have hnb100 := NB214_199.out; have hnc100 := NB199_214.out; obtain ⟨hcz101_0, hcz101_1, hcz101_2, hfz101_0, hfz101_1, hfz101_2⟩ := cellsF3 BK214.out; obtain ⟨hcz102_0, hcz102_1, hcz102_2, hcz102_3, hfz102_0, hfz102_1, hfz102_2, hfz102_3⟩ := cellsF4 BK198.out; obtain ⟨hcz103_0, hcz103_1, hcz103_2, hcz103_3, hcz103_4, hcz103_5, hcz103_6, hcz103_7, hcz103_8, hfz103_0, hfz103_1, hfz103_2, hfz103_3, hfz103_4, hfz103_5, hfz103_6, hfz103_7, hfz103_8⟩ := cellsF9 BK199.out))
          refine bodyPost_ret (results_cell_row rfl _ _ gb199 64 #[.string t203, .int .i64 t204, .int .i64 t205, .slice Ao95 t206.length co95, .int .i64 t209, .int .i64 t210, .int .i64 t211, .int .i64 t212, .int .i64 0] (0, 0) _ rfl (by (with_reducible repeat (first | refine blk_drewN ?_ _ | refine blk_drew ?_ | refine blk_alloc ?_ _)); refine blk_put (cs := #[.string t203, .int .i64 t204, .int .i64 t205, .slice Ao95 t206.length co95, .int .i64 t209, .int .i64 t210, .int .i64 t211, .int .i64 t212, .int .i64 0]) ?_ 8 _ rfl; (with_reducible repeat (first | refine blk_drewN ?_ _ | refine blk_drew ?_ | refine blk_alloc ?_ _)); refine blk_put (cs := #[.string t203, .int .i64 t204, .int .i64 t205, .slice Ao95 t206.length co95, .int .i64 t209, .int .i64 t210, .int .i64 t211, .int .i64 0, .int .i64 0]) ?_ 7 _ rfl; (with_reducible repeat (first | refine blk_drewN ?_ _ | refine blk_drew ?_ | refine blk_alloc ?_ _)); refine blk_put (cs := #[.string t203, .int .i64 t204, .int .i64 t205, .slice Ao95 t206.length co95, .int .i64 t209, .int .i64 t210, .int .i64 0, .int .i64 0, .int .i64 0]) ?_ 6 _ rfl; (with_reducible repeat (first | refine blk_drewN ?_ _ | refine blk_drew ?_ | refine blk_alloc ?_ _)); refine blk_put (cs := #[.string t203, .int .i64 t204, .int .i64 t205, .slice Ao95 t206.length co95, .int .i64 t209, .int .i64 0, .int .i64 0, .int .i64 0, .int .i64 0]) ?_ 5 _ rfl; (with_reducible repeat (first | refine blk_drewN ?_ _ | refine blk_drew ?_ | refine blk_alloc ?_ _)); refine blk_put (cs := #[.string t203, .int .i64 t204, .int .i64 t205, .slice Ao95 t206.length co95, .int .i64 0, .int .i64 0, .int .i64 0, .int .i64 0, .int .i64 0]) ?_ 4 _ rfl; (with_reducible repeat (first | refine blk_drewN ?_ _ | refine blk_drew ?_ | refine blk_alloc ?_ _)); refine blk_put (cs := #[.string t203, .int .i64 t204, .int .i64 t205, .slice none 0 0, .int .i64 0, .int .i64 0, .int .i64 0, .int .i64 0, .int .i64 0]) ?_ 3 _ rfl; (with_reducible repeat (first | refine blk_drewN ?_ _ | refine blk_drew ?_ | refine blk_alloc ?_ _)); refine blk_put (cs := #[.string t203, .int .i64 t204, .int .i64 0, .slice none 0 0, .int .i64 0, .int .i64 0, .int .i64 0, .int .i64 0, .int .i64 0]) ?_ 2 _ rfl; (with_reducible repeat (first | refine blk_drewN ?_ _ | refine blk_drew ?_ | refine blk_alloc ?_ _)); refine blk_put (cs := #[.string t203, .int .i64 0, .int .i64 0, .slice none 0 0, .int .i64 0, .int .i64 0, .int .i64 0, .int .i64 0, .int .i64 0]) ?_ 1 _ rfl; (with_reducible repeat (first | refine blk_drewN ?_ _ | refine blk_drew ?_ | refine blk_alloc ?_ _)); refine blk_put (cs := #[.string (⟨#[]⟩ : ByteArray), .int .i64 0, .int .i64 0, .slice none 0 0, .int .i64 0, .int .i64 0, .int .i64 0, .int .i64 0, .int .i64 0]) ?_ 0 _ rfl; (with_reducible repeat (first | refine blk_drewN ?_ _ | refine blk_drew ?_ | refine blk_alloc ?_ _)); refine blk_far ?_ NB199_214.out _; (with_reducible repeat (first | refine blk_drewN ?_ _ | refine blk_drew ?_ | refine blk_alloc ?_ _)); refine blk_far ?_ NB199_214.out _; (with_reducible repeat (first | refine blk_drewN ?_ _ | refine blk_drew ?_ | refine blk_alloc ?_ _)); refine blk_far ?_ NB199_214.out _; (with_reducible repeat (first | refine blk_drewN ?_ _ | refine blk_drew ?_ | refine blk_alloc ?_ _)); exact BK199.out) Try.underlying64 rfl (by kernel_rfl)) rfl ?_
          exact ⟨_, au9_8, by (with_reducible repeat (first | apply Kd.R_alloc | apply Kd.R_drewN | apply Kd.R_drew)); exact Kd.R_mono (Kd.R_far (p := ⟨gb199, 8, none⟩) (Kd.R_far (p := ⟨gb199, 7, none⟩) (Kd.R_far (p := ⟨gb199, 6, none⟩) (Kd.R_far (p := ⟨gb199, 5, none⟩) (Kd.R_far (p := ⟨gb199, 4, none⟩) (Kd.R_far (p := ⟨gb199, 3, none⟩) (Kd.R_far (p := ⟨gb199, 2, none⟩) (Kd.R_far (p := ⟨gb199, 1, none⟩) (Kd.R_far (p := ⟨gb199, 0, none⟩) (Kd.R_far (p := ⟨gb214, 2, none⟩) (Kd.R_far (p := ⟨gb214, 1, none⟩) (Kd.R_far (p := ⟨gb214, 0, none⟩) (Kd.R_types (Kd.R_mono HO208.out (fun k_ hk => (⟨hk, hk.2⟩ : _ ∧ k_ ≠ gb214))) BK199.out (by decide)) (fun _ hk => hk.1.2) (.int .i64 t210)) (fun _ hk => hk.1.2) (.int .i64 t211)) (fun _ hk => hk.1.2) (.int .i64 t212)) (fun _ hk => hk.2) (.string t203)) (fun _ hk => hk.2) (.int .i64 t204)) (fun _ hk => hk.2) (.int .i64 t205)) (fun _ hk => hk.2) (.slice Ao95 t206.length co95)) (fun _ hk => hk.2) (.int .i64 t209)) (fun _ hk => hk.2) (.int .i64 t210)) (fun _ hk => hk.2) (.int .i64 t211)) (fun _ hk => hk.2) (.int .i64 t212)) (fun _ hk => hk.2) (.int .i64 0)) (fun _ hk => trivial), bl_⟩

end Go.Proofs.Ytjffakoifpldeaa.PFnTakeOnce
