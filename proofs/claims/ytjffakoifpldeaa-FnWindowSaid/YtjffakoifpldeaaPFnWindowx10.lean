-- printed by a program of this session (wip/xp/xprint.py) out of the translation; Lean checks it
import Derived.Test.YtjffakoifpldeaaPFnWindowx0
import Derived.Test.YtjffakoifpldeaaPFnWindowx7
import Derived.Test.YtjffakoifpldeaaPFnWindowx8
import Derived.Test.YtjffakoifpldeaaPFnWindowx9
namespace Go.Proofs.Ytjffakoifpldeaa.PFnWindow
open Go.RowKit Go.Proofs.YtjffakoifpldeaaW.PrintWords Go.Proofs.YtjffakoifpldeaaW.PrintLast Go.Proofs.YtjffakoifpldeaaW.PrintMore
attribute [local go_sem] max2_int min2_int max_two min_two max_three min_three max_four min_four   -- for this text's walks alone
set_option linter.unusedVariables false
set_option linter.unusedSimpArgs false

theorem au10_0 {p : Prop} (h : p := by (with_reducible repeat (first | refine blk_drewN ?_ _ | refine blk_drew ?_ | refine blk_alloc ?_ _)); refine blk_put (cs := #[.string t233, .int .i64 t234, .int .i64 t235, .slice A0_3 l0_3.length c0_3]) ?_ 3 _ rfl; (with_reducible repeat (first | refine blk_drewN ?_ _ | refine blk_drew ?_ | refine blk_alloc ?_ _)); refine blk_put (cs := #[.string t233, .int .i64 t234, .int .i64 a0_2, .slice A0_3 l0_3.length c0_3]) ?_ 2 _ rfl; (with_reducible repeat (first | refine blk_drewN ?_ _ | refine blk_drew ?_ | refine blk_alloc ?_ _)); refine blk_put (cs := #[.string t233, .int .i64 a0_1, .int .i64 a0_2, .slice A0_3 l0_3.length c0_3]) ?_ 1 _ rfl; (with_reducible repeat (first | refine blk_drewN ?_ _ | refine blk_drew ?_ | refine blk_alloc ?_ _)); refine blk_put (cs := #[.string a0_0, .int .i64 a0_1, .int .i64 a0_2, .slice A0_3 l0_3.length c0_3]) ?_ 0 _ rfl; (with_reducible repeat (first | refine blk_drewN ?_ _ | refine blk_drew ?_ | refine blk_alloc ?_ _)); exact BK228.out) : p := h
theorem au10_1 {p : Prop} (h : p := by (with_reducible repeat (first | refine blk_drewN ?_ _ | refine blk_drew ?_ | refine blk_alloc ?_ _)); refine blk_put (cs := #[.string (⟨#[]⟩ : ByteArray), .int .i64 0, .int .i64 0, .slice none 0 0, .int .i64 0, .int .i64 0, .int .i64 0, .int .i64 0, .int .i64 0]) ?_ 8 _ rfl; (with_reducible repeat (first | refine blk_drewN ?_ _ | refine blk_drew ?_ | refine blk_alloc ?_ _)); refine blk_put (cs := #[.string (⟨#[]⟩ : ByteArray), .int .i64 0, .int .i64 0, .slice none 0 0, .int .i64 0, .int .i64 0, .int .i64 0, .int .i64 0, .int .i64 0]) ?_ 7 _ rfl; (with_reducible repeat (first | refine blk_drewN ?_ _ | refine blk_drew ?_ | refine blk_alloc ?_ _)); refine blk_put (cs := #[.string (⟨#[]⟩ : ByteArray), .int .i64 0, .int .i64 0, .slice none 0 0, .int .i64 0, .int .i64 0, .int .i64 0, .int .i64 0, .int .i64 0]) ?_ 6 _ rfl; (with_reducible repeat (first | refine blk_drewN ?_ _ | refine blk_drew ?_ | refine blk_alloc ?_ _)); refine blk_put (cs := #[.string (⟨#[]⟩ : ByteArray), .int .i64 0, .int .i64 0, .slice none 0 0, .int .i64 0, .int .i64 0, .int .i64 0, .int .i64 0, .int .i64 0]) ?_ 5 _ rfl; (with_reducible repeat (first | refine blk_drewN ?_ _ | refine blk_drew ?_ | refine blk_alloc ?_ _)); refine blk_put (cs := #[.string (⟨#[]⟩ : ByteArray), .int .i64 0, .int .i64 0, .slice none 0 0, .int .i64 0, .int .i64 0, .int .i64 0, .int .i64 0, .int .i64 0]) ?_ 4 _ rfl; (with_reducible repeat (first | refine blk_drewN ?_ _ | refine blk_drew ?_ | refine blk_alloc ?_ _)); refine blk_put (cs := #[.string (⟨#[]⟩ : ByteArray), .int .i64 0, .int .i64 0, .slice none 0 0, .int .i64 0, .int .i64 0, .int .i64 0, .int .i64 0, .int .i64 0]) ?_ 3 _ rfl; (with_reducible repeat (first | refine blk_drewN ?_ _ | refine blk_drew ?_ | refine blk_alloc ?_ _)); refine blk_put (cs := #[.string (⟨#[]⟩ : ByteArray), .int .i64 0, .int .i64 0, .slice none 0 0, .int .i64 0, .int .i64 0, .int .i64 0, .int .i64 0, .int .i64 0]) ?_ 2 _ rfl; (with_reducible repeat (first | refine blk_drewN ?_ _ | refine blk_drew ?_ | refine blk_alloc ?_ _)); refine blk_put (cs := #[.string (⟨#[]⟩ : ByteArray), .int .i64 0, .int .i64 0, .slice none 0 0, .int .i64 0, .int .i64 0, .int .i64 0, .int .i64 0, .int .i64 0]) ?_ 1 _ rfl; (with_reducible repeat (first | refine blk_drewN ?_ _ | refine blk_drew ?_ | refine blk_alloc ?_ _)); refine blk_put (cs := #[.string (⟨#[]⟩ : ByteArray), .int .i64 0, .int .i64 0, .slice none 0 0, .int .i64 0, .int .i64 0, .int .i64 0, .int .i64 0, .int .i64 0]) ?_ 0 _ rfl; (with_reducible repeat (first | refine blk_drewN ?_ _ | refine blk_drew ?_ | refine blk_alloc ?_ _)); exact BK229.out) : p := h
theorem au10_2 {p : Prop} (h : p := by (with_reducible repeat (first | refine blk_drewN ?_ _ | refine blk_drew ?_ | refine blk_alloc ?_ _)); refine blk_far ?_ NB229_228.out _; (with_reducible repeat (first | refine blk_drewN ?_ _ | refine blk_drew ?_ | refine blk_alloc ?_ _)); refine blk_far ?_ NB229_228.out _; (with_reducible repeat (first | refine blk_drewN ?_ _ | refine blk_drew ?_ | refine blk_alloc ?_ _)); refine blk_far ?_ NB229_228.out _; (with_reducible repeat (first | refine blk_drewN ?_ _ | refine blk_drew ?_ | refine blk_alloc ?_ _)); refine blk_far ?_ NB229_228.out _; (with_reducible repeat (first | refine blk_drewN ?_ _ | refine blk_drew ?_ | refine blk_alloc ?_ _)); exact BK229.out) : p := h
theorem au10_3 {p : Prop} (h : p := by repeat (first | exact (Kd.C_below HR0_3.out HB.out) | (with_reducible refine Kd.C_alloc ?_ _) | (with_reducible refine Kd.C_drewN ?_ _) | (with_reducible refine Kd.C_drew ?_))) : p := h
theorem au10_4 {p : Prop} (h : p := by (with_reducible repeat (first | apply Kd.R_alloc | apply Kd.R_drewN | apply Kd.R_drew)); exact (Kd.R_mono (Kd.R_far (p := ⟨gb228, 3, none⟩) (Kd.R_far (p := ⟨gb228, 2, none⟩) (Kd.R_far (p := ⟨gb228, 1, none⟩) (Kd.R_far (p := ⟨gb228, 0, none⟩) (Kd.R_types HO238.out BK228.out (by decide)) (fun _ hk => hk.2) (.string t233)) (fun _ hk => hk.2) (.int .i64 t234)) (fun _ hk => hk.2) (.int .i64 t235)) (fun _ hk => hk.2) (.slice Ao32 t236.length co32)) (fun _ h_ => h_.1))) : p := h
theorem au10_5 {p : Prop} (h : p := by (with_reducible repeat (first | apply Kd.R_alloc | apply Kd.R_drewN | apply Kd.R_drew)); exact (Kd.R_mono (Kd.R_far (p := ⟨gb228, 3, none⟩) (Kd.R_far (p := ⟨gb228, 2, none⟩) (Kd.R_far (p := ⟨gb228, 1, none⟩) (Kd.R_far (p := ⟨gb228, 0, none⟩) (Kd.R_types HO238.out BK228.out (by decide)) (fun _ hk => hk.2) (.string t233)) (fun _ hk => hk.2) (.int .i64 t234)) (fun _ hk => hk.2) (.int .i64 t235)) (fun _ hk => hk.2) (.slice Ao42 t236.length co42)) (fun _ h_ => h_.1))) : p := h
theorem au10_6 {p : Prop} (h : p := by (with_reducible repeat (first | apply Kd.R_alloc | apply Kd.R_drewN | apply Kd.R_drew)); exact (Kd.R_mono (Kd.R_far (p := ⟨gb228, 3, none⟩) (Kd.R_far (p := ⟨gb228, 2, none⟩) (Kd.R_far (p := ⟨gb228, 1, none⟩) (Kd.R_far (p := ⟨gb228, 0, none⟩) (Kd.R_types HO238.out BK228.out (by decide)) (fun _ hk => hk.2) (.string t233)) (fun _ hk => hk.2) (.int .i64 t234)) (fun _ hk => hk.2) (.int .i64 t235)) (fun _ hk => hk.2) (.slice Ao95 t236.length co95)) (fun _ h_ => h_.1))) : p := h
theorem au10_7 {p : Prop} (h : p := by repeat (first | (with_reducible first | exact HB.out | apply below_alloc | apply pw_below_drewN | apply below_drew1 | refine below_set ?_ GE228.out | refine below_set ?_ GE229.out | refine below_set ?_ GE245.out) | exact HB.out)) : p := h
theorem au10_8 {p : Prop} (h : p := by first | exact Kd.R_nil _ _ _ _ _ | exact Kd.N_nil _ _ _ _ _ | exact Kd.V_nil _ _ _ _ _ | exact Kd.Q_nil _ _ _ _ _ | exact Kd.S_nil _ _ _ _ _) : p := h
theorem au10_9 {p : Prop} (h : p := by first | rfl | (simp [errW_none, errW_some] <;> rfl) | (simp [*, errW_none, errW_some] <;> rfl)) : p := h
theorem au10_10 {p : Prop} (h : p := by first | rfl | (simp [errW_none, errW_some] <;> rfl) | (simp only [← hji36]; first | rfl | (simp [errW_none, errW_some] <;> rfl)) | (simp [*, errW_none, errW_some] <;> rfl)) : p := h
theorem au10_11 {p : Prop} (h : p := by exact (Reps.c3 (show Kd.M k62 _ _ _ (⟨a1, t235, a2⟩ : S62) [.int .i64 a1, .int .i64 t235, .int .i64 a2] from (k62_mkM _ _ _ (⟨a1, t235, a2⟩ : S62) )) (Reps.none _ _))) : p := h
theorem au10_12 {p : Prop} (h : p := by exact (Kd.R_reads' HO238.out).2.1) : p := h

/-! ### impl_Seen_94__impl_PartnerTake_1: function 94 -/
def impl_Seen_94__impl_PartnerTake_1.f (k : Nat) (l0 : List (S62)) (a1_0 : ByteArray) (a1_1 : Int) (a1_2 : Int) (l1_3 : List (S62)) : Option (List (S62)) := (impl_Seen_118__impl_PartnerTake_1.f k l0 a1_0 a1_1 a1_2 l1_3).bind fun i => if i = -1 then (some l0) else (if 0 ≤ i then (if i < (l0.length : Int) then (some (l0.take i.toNat ++ (l0.drop (i.toNat + 1)).filter (fun x => !((impl_PartnerTake_1.f x.f0 x.f1 x.f2 a1_0 a1_1 a1_2 l1_3).getD false)))) else (none)) else (none))
theorem impl_Seen_94__impl_PartnerTake_1.mono : ∀ l0 a1_0 a1_1 a1_2 l1_3 k, LeO (impl_Seen_94__impl_PartnerTake_1.f k l0 a1_0 a1_1 a1_2 l1_3) (impl_Seen_94__impl_PartnerTake_1.f (k + 1) l0 a1_0 a1_1 a1_2 l1_3) := by
  intro l0 a1_0 a1_1 a1_2 l1_3 k
  unfold impl_Seen_94__impl_PartnerTake_1.f
  exact LeO.bind (impl_Seen_118__impl_PartnerTake_1.mono _ _ _ _ _ _) (fun _ => LeO.refl _)
theorem impl_Seen_94__impl_PartnerTake_1.plain : Go.Proofs.YtjffakoifpldeaaW.Row.Plain k62 (fun x : S62 => ([.int .i64 x.f0, .int .i64 x.f1, .int .i64 x.f2] : List Value)) where
  K := ⟨fun h => k62_open h, fun h => by rw [h]; exact k62_mk _ _⟩
  M := ⟨fun h => k62_openM h, fun h => by rw [h]; exact k62_mkM _ _ _ _⟩
  sz := rfl
  len := fun x => ⟨_, _, _, rfl⟩
  one := fun x v hv => by
    simp only [List.mem_cons, List.not_mem_nil, or_false] at hv
    rcases hv with rfl | rfl | rfl <;> rfl
theorem impl_Seen_94__impl_PartnerTake_1.some_ (u : S62) (a1_0 : ByteArray) (a1_1 : Int) (a1_2 : Int) (l1_3 : List (S62)) : ∃ b, impl_PartnerTake_1.f u.f0 u.f1 u.f2 a1_0 a1_1 a1_2 l1_3 = some b := by
  unfold impl_PartnerTake_1.f
  repeat' split
  all_goals exact ⟨_, rfl⟩
set_option maxHeartbeats 8000000 in
set_option maxRecDepth 100000 in
theorem impl_Seen_94__impl_PartnerTake_1.calls (k : Nat) (P0_ : Nat → Prop) (u9000_ : Value) (l0 : List (S62)) (gb1 : Nat) (a1_0 : ByteArray) (a1_1 : Int) (a1_2 : Int) (A1_3 : Option Addr) (c1_3 : Nat) (l1_3 : List (S62)) (r : List (S62)) (w0 w : World) (hB : Below w0.heap.size w0 w) (ho0 : Kd.R k62 62 w w0.heap.size P0_ u9000_ l0) (hb1 : w.heap[gb1]? = some (.cells #[.string a1_0, .int .i64 a1_1, .int .i64 a1_2, .slice A1_3 l1_3.length c1_3] 51 (0, 0))) (hn1 : ¬ P0_ gb1) (h : impl_Seen_94__impl_PartnerTake_1.f k l0 a1_0 a1_1 a1_2 l1_3 = some r) :
    Calls Try.prog 94 #[u9000_, .func (.func 95) #[] #[.pointer (some ⟨gb1, 0, none⟩)]] w fun e w' => ∃ v0_ : Value, e = .returned (v0_) ∧ Kd.R k62 62 w' w0.heap.size (fun k_ => (P0_ k_ ∨ w.heap.size ≤ k_)) v0_ r ∧ Below w0.heap.size w0 w' ∧ Kept w w' (fun k_ => P0_ k_) := by
  have hu62 := Try.underlying62
  have hu49 := Try.underlying49
  unfold impl_Seen_94__impl_PartnerTake_1.f at h
  obtain ⟨i, hi, h⟩ := Option.bind_eq_some_iff.mp h
  have HI := Aside0.mk hi
  clear hi
  have HO := Aside0.mk ho0
  have BK := Aside0.mk hb1
  have HB0 := Aside0.mk hB
  have HN := Aside0.mk hn1
  clear ho0 hb1 hB hn1
  by_cases h1 : i = -1
  · rw [if_pos h1] at h
    obtain rfl := Option.some.inj h
    subst h1
    clear h
    obtain ⟨A, c, rfl, hc, hC⟩ := Kd.R_reads HO.out
    have HC := Aside0.mk hC
    have HL := Aside0.mk hc
    clear hC hc
    go_enter Try.func94, Try.ntmps94
    go_wp2_with (go_at_call 118; (with_reducible refine (impl_Seen_118__impl_PartnerTake_1.calls k _ _ l0 gb1 a1_0 a1_1 a1_2 A1_3 c1_3 l1_3 (-1) _ ?side1 ?side2 ?side3 HI.out).mono ?_); (case side1 => exact HC.out); (case side2 => exact HL.out); (case side3 => exact BK.out); rintro e w1 ⟨rfl, hb⟩; have HB := Aside0.mk hb; clear hb)
    go_ret
    exact ⟨_, rfl, Kd.R_mono (Kd.R_below HO.out HB.out) (fun _ h => .inl h), below_step HB0.out HB.out, Kept.of_below HB.out _⟩
  · rw [if_neg h1] at h
    by_cases h2 : 0 ≤ i
    · rw [if_pos h2] at h
      by_cases h3 : i < (l0.length : Int)
      · rw [if_pos h3] at h
        have hr := Option.some.inj h
        clear h
        obtain ⟨i0, rfl⟩ : ∃ i0 : Nat, i = (i0 : Int) := ⟨i.toNat, by omega⟩
        simp only [Int.toNat_natCast] at hr
        have hi0 : i0 < l0.length := by omega
        have hne : l0 ≠ [] := fun e => by rw [e] at hi0; simp at hi0
        obtain ⟨g, cap, t, rfl, hbase, hP, hg, hn, hm, hs⟩ := impl_Seen_94__impl_PartnerTake_1.plain.blk HO.out hne
        have hne1 : ((i0 : Int) == -1) = false := beq_eq_false_iff_ne.2 h1
        have hC : Kd.C k62 w (some ⟨g, 0, none⟩) l0.length l0 := impl_Seen_94__impl_PartnerTake_1.plain.read (by unfold maxLen at hm; omega) hg
        have HC := Aside0.mk hC
        have HG := Aside0.mk hg
        have HS := Aside0.mk hs
        have HR := Aside0.mk hr
        have HP := Aside0.mk hP
        have HBS := Aside0.mk hbase
        have HL := Aside0.mk hn
        have HM := Aside0.mk hm
        have hgb : g ≠ gb1 := fun e => HN.out (by rw [← e]; exact hP)
        have hcap : cap ≤ 9223372036854775807 := by unfold maxLen at hm; omega
        have hl63 : l0.length ≤ 9223372036854775807 := by omega
        clear hC hg hs hr hP hbase hn hm h1 h2 h3 hne
        go_enter Try.func94, Try.ntmps94
        go_wp2_with (go_at_call 118; (with_reducible refine (impl_Seen_118__impl_PartnerTake_1.calls k _ _ l0 gb1 a1_0 a1_1 a1_2 A1_3 c1_3 l1_3 (i0 : Int) _ ?side1 ?side2 ?side3 HI.out).mono ?_); (case side1 => exact HC.out); (case side2 => exact HL.out); (case side3 => exact BK.out); rintro e w1 ⟨rfl, hb⟩; have HB := Aside0.mk hb; clear hb)
        go_loopg [5, 6, 7] l0.length (fun gg s5 s6 _ wr => ∃ (i j : Nat) (dk : List (S62)), s5 = .int .i64 i ∧ s6 = .int .i64 j ∧ i < j ∧ j ≤ l0.length ∧ l0.length - j ≤ gg ∧ Aside0 (dk.length = l0.length) ∧ Aside0 (dk.drop j = l0.drop j) ∧ Aside0 (dk.take i ++ (l0.drop j).filter (fun x => !((impl_PartnerTake_1.f x.f0 x.f1 x.f2 a1_0 a1_1 a1_2 l1_3).getD false)) = r) ∧ Aside0 (wr.heap[g]? = some (.cells (dk.flatMap (fun x : S62 => ([.int .i64 x.f0, .int .i64 x.f1, .int .i64 x.f2] : List Value)) ++ t).toArray 62 (0, 0))) ∧ Aside0 (wr.heap[gb1]? = some (.cells #[.string a1_0, .int .i64 a1_1, .int .i64 a1_2, .slice A1_3 l1_3.length c1_3] 51 (0, 0))) ∧ Aside0 (Below w0.heap.size w0 wr) ∧ Aside0 (Kept w wr (fun k_ => P0_ k_)))
        case atStart => exact ⟨i0, i0 + 1, l0, rfl, by go_num, Nat.lt_succ_self _, by omega, by omega, ⟨rfl⟩, ⟨rfl⟩, HR, ⟨blk_below HG.out HB.out⟩, ⟨blk_below BK.out HB.out⟩, ⟨below_step HB0.out HB.out⟩, ⟨Kept.of_below HB.out _⟩⟩
        case round =>
          clear HI HC HG HR BK HB HB0 HO
          obtain ⟨i, j, dk, rfl, rfl, hij, hjn, hgg, HDL, HDJ, HR, HG, BK, HB, HK⟩ := hrel
          by_cases hlt : j < l0.length
          · have hltz : (j : Int) < (l0.length : Int) := by omega
            have hjd : j < dk.length := by rw [HDL.out]; exact hlt
            have hid : i < dk.length := by omega
            obtain ⟨u, hu⟩ : ∃ u, dk[j] = u := ⟨_, rfl⟩
            have hu2 : l0[j] = u := by
              have e1 : (dk.drop j)[0]? = (l0.drop j)[0]? := by rw [HDJ.out]
              rw [List.getElem?_drop, List.getElem?_drop, Nat.add_zero, List.getElem?_eq_getElem hjd, List.getElem?_eq_getElem hlt, hu] at e1
              exact (Option.some.inj e1).symm
            have hdrop : l0.drop j = u :: l0.drop (j + 1) := by rw [List.drop_eq_getElem_cons hlt, hu2]
            obtain ⟨cj0, cj1, cj2⟩ := impl_Seen_94__impl_PartnerTake_1.plain.cell HG.out j hjd (by rw [hu])
            obtain ⟨ci0, ci1, ci2⟩ := impl_Seen_94__impl_PartnerTake_1.plain.cell HG.out i hid rfl
            have fz := fun q => blk_frozen HG.out q
            obtain ⟨b, hb⟩ := impl_Seen_94__impl_PartnerTake_1.some_ u a1_0 a1_1 a1_2 l1_3
            have HU := Aside0.mk hb
            have HD := Aside0.mk hdrop
            have HDD : Aside0 (dk.drop (j + 1) = l0.drop (j + 1)) := ⟨by
              have e := congrArg (fun l : List (S62) => l.drop 1) HDJ.out
              simpa [List.drop_drop] using e⟩
            clear hu hu2 hdrop hb
            cases b with
            | false =>
              go_wp2_with (go_at_call 95; (with_reducible refine (impl_PartnerTake_1.calls u.f0 u.f1 u.f2 gb1 a1_0 a1_1 a1_2 A1_3 c1_3 l1_3 false _ ?side1 HU.out).mono ?_); (case side1 => exact blk_alloc BK.out _); rintro e w2 ⟨rfl, hb⟩; have HG2 := Aside0.mk (blk_below (blk_alloc HG.out _) hb); have BK2 := Aside0.mk (blk_below (blk_alloc BK.out _) hb); have hnb := blk_below (blk_new wr _) hb; obtain ⟨di0, di1, di2⟩ := impl_Seen_94__impl_PartnerTake_1.plain.cell HG2.out i hid rfl; have fz2 := fun q => blk_frozen HG2.out q; have bx0 := (blk_cell hnb 0).trans rfl; have bx1 := (blk_cell hnb 1).trans rfl; have bx2 := (blk_cell hnb 2).trans rfl; have HB2 := Aside0.mk (below_step (below_alloc HB.out _) hb); have HK2 := Aside0.mk (Kept.below (Kept.alloc HK.out _) hb); clear hnb hb)
              go_roundg (l0.length - (j + 1))
              case measure => omega
              case rel =>
                refine ⟨i + 1, j + 1, dk.set i u, by go_num, by go_num, by omega, by omega, Nat.le_refl _, ⟨by rw [List.length_set]; exact HDL.out⟩, ⟨by rw [List.drop_set_of_lt (by omega)]; exact HDD.out⟩, ⟨?_⟩, ⟨impl_Seen_94__impl_PartnerTake_1.plain.put HG2.out i hid u rfl⟩, ⟨?_⟩, ⟨?_⟩, ⟨?_⟩⟩
                · rw [← HR.out, HD.out, List.filter_cons_of_pos (by rw [HU.out]; rfl), List.take_set, List.take_succ_eq_append_getElem hid, List.set_append, if_neg (by rw [List.length_take]; omega)]
                  simp [List.length_take, Nat.min_eq_left (Nat.le_of_lt hid)]
                · exact blk_far (blk_far (blk_far BK2.out (Ne.symm hgb) _) (Ne.symm hgb) _) (Ne.symm hgb) _
                · exact below_set (below_set (below_set HB2.out HBS.out) HBS.out) HBS.out
                · exact Kept.setCell (Kept.setCell (Kept.setCell HK2.out (.inl HP.out) _) (.inl HP.out) _) (.inl HP.out) _
            | true =>
              go_wp2_with (go_at_call 95; (with_reducible refine (impl_PartnerTake_1.calls u.f0 u.f1 u.f2 gb1 a1_0 a1_1 a1_2 A1_3 c1_3 l1_3 true _ ?side1 HU.out).mono ?_); (case side1 => exact blk_alloc BK.out _); rintro e w2 ⟨rfl, hb⟩; have HG2 := Aside0.mk (blk_below (blk_alloc HG.out _) hb); have BK2 := Aside0.mk (blk_below (blk_alloc BK.out _) hb); have hnb := blk_below (blk_new wr _) hb; obtain ⟨di0, di1, di2⟩ := impl_Seen_94__impl_PartnerTake_1.plain.cell HG2.out i hid rfl; have fz2 := fun q => blk_frozen HG2.out q; have bx0 := (blk_cell hnb 0).trans rfl; have bx1 := (blk_cell hnb 1).trans rfl; have bx2 := (blk_cell hnb 2).trans rfl; have HB2 := Aside0.mk (below_step (below_alloc HB.out _) hb); have HK2 := Aside0.mk (Kept.below (Kept.alloc HK.out _) hb); clear hnb hb)
              go_roundg (l0.length - (j + 1))
              case measure => omega
              case rel =>
                refine ⟨i, j + 1, dk, rfl, by go_num, by omega, by omega, Nat.le_refl _, HDL, HDD, ⟨?_⟩, HG2, BK2, HB2, HK2⟩
                rw [← HR.out, HD.out, List.filter_cons_of_neg (by rw [HU.out]; decide)]
          · obtain rfl : j = l0.length := by omega
            have hltz : ¬ (l0.length : Int) < (l0.length : Int) := by omega
            have hic : i ≤ cap := by have := HL.out; omega
            have hicz : (i : Int) ≤ (cap : Int) := by omega
            have hcne : ¬ (cap = i) := by have := HL.out; omega
            obtain ⟨iz, hz0, hz1, _, _⟩ := info_parts info62
            have hfl : (dk.flatMap (fun x : S62 => ([.int .i64 x.f0, .int .i64 x.f1, .int .i64 x.f2] : List Value))).length = l0.length * 3 := by rw [Go.Proofs.YtjffakoifpldeaaW.Row.flat_len impl_Seen_94__impl_PartnerTake_1.plain.l3, HDL.out]
            obtain ⟨zs, hzs⟩ : ∃ zs, zs = (Builtin.zeroCells ((.agg #[(.int .i64 0), (.int .i64 0), (.int .i64 0)]) : Value).cells (l0.length - i)).toList := ⟨_, rfl⟩
            have hzl : zs.length = (l0.length - i) * 3 := by rw [hzs]; exact Go.Proofs.YtjffakoifpldeaaW.Row.zeros_len _ _ _ _
            obtain ⟨ROW, hROW⟩ : ∃ ROW : Array Value, ROW = ((dk.flatMap (fun x : S62 => ([.int .i64 x.f0, .int .i64 x.f1, .int .i64 x.f2] : List Value)) ++ t).take (i * 3) ++ zs ++ (dk.flatMap (fun x : S62 => ([.int .i64 x.f0, .int .i64 x.f1, .int .i64 x.f2] : List Value)) ++ t).drop (i * 3 + zs.length)).toArray := ⟨_, rfl⟩
            have hcl : ∀ ty, (Builtin.clear_ #[49] ty #[.slice (some ⟨g, i * 3, none⟩) (l0.length - i) (cap - i)]).run Try.prog wr = .ok (.tuple #[]) (wr.setRow g ROW) := fun ty => by
              rw [hROW]
              exact Go.Proofs.YtjffakoifpldeaaW.Row.run_clear_rowk (P := Try.prog) wr 49 62 ty (.agg #[(.int .i64 0), (.int .i64 0), (.int .i64 0)]) hu49 (fun _ => by simp [zeroValue, typeInfo, hz0, hz1]) g (i * 3) (l0.length - i) (cap - i) (by omega) _ 62 HG.out zs hzs.symm (by rw [List.size_toArray, List.length_append, hfl, hzl]; omega) (fun v hv => by rw [hzs] at hv; rcases Go.Proofs.YtjffakoifpldeaaW.Row.zeros_mem _ _ _ _ v hv with rfl | rfl | rfl <;> rfl)
            have HROW := Aside0.mk hROW
            have HZL := Aside0.mk hzl
            have HFL := Aside0.mk hfl
            clear hROW hzl hfl hzs hz0 hz1
            go_wp2
            go_ret
            have hr2 : dk.take i = r := by
              have := HR.out
              rwa [List.drop_length, List.filter_nil, List.append_nil] at this
            have hrl : r.length = i := by rw [← hr2, List.length_take, HDL.out]; omega
            have hrow : ROW = (r.flatMap (fun x : S62 => ([.int .i64 x.f0, .int .i64 x.f1, .int .i64 x.f2] : List Value)) ++ (zs ++ t)).toArray := by
              rw [HROW.out, Go.Proofs.YtjffakoifpldeaaW.Row.flat_take impl_Seen_94__impl_PartnerTake_1.plain.l3 dk t i (by rw [HDL.out]; omega), hr2, HZL.out, show i * 3 + (l0.length - i) * 3 = dk.length * 3 by rw [HDL.out]; omega, Go.Proofs.YtjffakoifpldeaaW.Row.flat_drop_all impl_Seen_94__impl_PartnerTake_1.plain.l3, List.append_assoc]
            refine ⟨_, rfl, ?_, Go.Proofs.YtjffakoifpldeaaW.Row.below_setRow HB.out HBS.out _, Go.Proofs.YtjffakoifpldeaaW.Row.kept_setRow HK.out (.inl HP.out) _⟩
            refine impl_Seen_94__impl_PartnerTake_1.plain.of_blk (g := g) (cap := cap) (t := zs ++ t) (by rw [hrl]; rfl) HBS.out (.inl HP.out) (by rw [← hrow]; exact setRow_heap _ _ _ _ _ _ HG.out) (by rw [hrl]; exact hic) HM.out ?_
            have e1 := HS.out
            rw [List.length_append, Go.Proofs.YtjffakoifpldeaaW.Row.flat_len impl_Seen_94__impl_PartnerTake_1.plain.l3] at e1
            have e2 := HZL.out
            rw [List.length_append, Go.Proofs.YtjffakoifpldeaaW.Row.flat_len impl_Seen_94__impl_PartnerTake_1.plain.l3, hrl, List.length_append, e2]
            omega
      · rw [if_neg h3] at h
        cases h
    · rw [if_neg h2] at h
      cases h

/-! ### impl_PartnerTake: function 45 -/
mutual
def impl_PartnerTake.j0 : Nat → Int → Int → Bool → ByteArray → Int → Int → List (S62) → Option (ByteArray × Int × Int × (List (S62)) × Int × Int × Int × Int × Int)
  | 0, _, _, _, _, _, _, _ => none
  | k + 1, x1, x2, x24, x229000, x229001, x229002, x229003 => if x24 = true then (some ((⟨#[]⟩ : ByteArray), 0, 0, ([] : List (S62)), 0, 0, 0, 0, 1)) else ((impl_ownPartner.f x229000 x229001 x229002 x229003).bind fun bt233 => ((impl_Partner_ask.f k bt233.1 bt233.2.1 bt233.2.2.1 bt233.2.2.2 x1).bind fun t239 => (if t239 = 1 then (if bt233.2.2.1 = 999999 then (some ((⟨#[]⟩ : ByteArray), 0, 0, ([] : List (S62)), 0, 0, 0, 0, 13)) else ((impl_Seen_94__impl_PartnerTake_1.f k bt233.2.2.2 bt233.1 (mx bt233.2.1 (wrap64 ((wrap64 (x1 - 32)) + 1))) bt233.2.2.1 bt233.2.2.2).bind fun t246 => (impl_PartnerTake.l0 k x1 t239 0 bt233.1 (mx bt233.2.1 (wrap64 ((wrap64 (x1 - 32)) + 1))) bt233.2.2.1 t246 x1 bt233.2.2.1 x2))) else ((impl_Partner_seen.f k bt233.1 bt233.2.1 bt233.2.2.1 bt233.2.2.2 x1).bind fun bt240 => (some (bt233.1, bt233.2.1, bt233.2.2.1, bt233.2.2.2, t239, bt240.1, bt240.2.1, bt240.2.2.1, 0))))))
def impl_PartnerTake.l0 : Nat → Int → Int → Int → ByteArray → Int → Int → List (S62) → Int → Int → Int → Option (ByteArray × Int × Int × (List (S62)) × Int × Int × Int × Int × Int)
  | 0, _, _, _, _, _, _, _, _, _, _ => none
  | k + 1, x1, x7, x11, x229000, x229001, x229002, x229003, x246000, x246001, x246002 => if x11 < (x229003.length : Int) then (if 0 ≤ x11 then (if ((rd_T62 x229003 x11).f0) < x1 then (impl_PartnerTake.l0 k x1 x7 (wrap64 (x11 + 1)) x229000 x229001 x229002 x229003 x246000 x246001 x246002) else ((impl_Seen_96.f x229003 x11 (([(⟨x246000, x246001, x246002⟩ : S62)] : List (S62)))).bind fun t253 => (some (x229000, x229001, wrap64 (x229002 + 1), t253, x7, x246000, x246001, x246002, 0)))) else (none)) else ((impl_Seen_96.f x229003 x11 (([(⟨x246000, x246001, x246002⟩ : S62)] : List (S62)))).bind fun t259 => (some (x229000, x229001, wrap64 (x229002 + 1), t259, x7, x246000, x246001, x246002, 0)))
end
def impl_PartnerTake.f (k : Nat) (a0_0 : ByteArray) (a0_1 : Int) (a0_2 : Int) (l0_3 : List (S62)) (a1 : Int) (a2 : Int) : Option (ByteArray × Int × Int × (List (S62)) × Int × Int × Int × Int × Int) := (impl_PartnerRight.f k a0_0 a0_1 a0_2 l0_3).bind fun t230 => (if t230 = true then ((impl_isControl.f a1).bind fun t231 => (if t231 = true then ((impl_isCode.f a2).bind fun t232 => (impl_PartnerTake.j0 k a1 a2 (!t232) a0_0 a0_1 a0_2 l0_3)) else (impl_PartnerTake.j0 k a1 a2 true a0_0 a0_1 a0_2 l0_3))) else (impl_PartnerTake.j0 k a1 a2 true a0_0 a0_1 a0_2 l0_3))
theorem impl_PartnerTake.mono_l : ∀ k, (∀ y0 y1 y2 y3 y4 y5 y6, LeO (impl_PartnerTake.j0 k y0 y1 y2 y3 y4 y5 y6) (impl_PartnerTake.j0 (k + 1) y0 y1 y2 y3 y4 y5 y6)) ∧ (∀ y0 y1 y2 y3 y4 y5 y6 y7 y8 y9, LeO (impl_PartnerTake.l0 k y0 y1 y2 y3 y4 y5 y6 y7 y8 y9) (impl_PartnerTake.l0 (k + 1) y0 y1 y2 y3 y4 y5 y6 y7 y8 y9))
  | 0 => ⟨fun _ _ _ _ _ _ _ r h => by simp [impl_PartnerTake.j0] at h, fun _ _ _ _ _ _ _ _ _ _ r h => by simp [impl_PartnerTake.l0] at h⟩
  | k + 1 => by
    obtain ⟨ih0, ih1⟩ := impl_PartnerTake.mono_l k
    refine ⟨?_, ?_⟩
    · intro y0 y1 y2 y3 y4 y5 y6
      unfold impl_PartnerTake.j0
      repeat' first
      | (with_reducible exact ih0 _ _ _ _ _ _ _)
      | (with_reducible exact ih1 _ _ _ _ _ _ _ _ _ _)
      | (with_reducible exact impl_PartnerRight.mono _ _ _ _ _)
      | (with_reducible exact impl_Partner_ask.mono _ _ _ _ _ _)
      | (with_reducible exact impl_Partner_seen.mono _ _ _ _ _ _)
      | (with_reducible exact impl_Seen_94__impl_PartnerTake_1.mono _ _ _ _ _ _)
      | (with_reducible exact LeO.refl _)
      | (with_reducible exact LeO.none _)
      | (with_reducible refine LeO.ite ?_ ?_)
      | (with_reducible refine LeO.bind ?_ (fun _ => ?_))
      | exact ih0 _ _ _ _ _ _ _
      | exact ih1 _ _ _ _ _ _ _ _ _ _
      | exact impl_PartnerRight.mono _ _ _ _ _
      | exact impl_Partner_ask.mono _ _ _ _ _ _
      | exact impl_Partner_seen.mono _ _ _ _ _ _
      | exact impl_Seen_94__impl_PartnerTake_1.mono _ _ _ _ _ _
      | exact LeO.none _
      | refine LeO.ite ?_ ?_
      | refine LeO.bind ?_ (fun _ => ?_)
    · intro y0 y1 y2 y3 y4 y5 y6 y7 y8 y9
      unfold impl_PartnerTake.l0
      repeat' first
      | (with_reducible exact ih0 _ _ _ _ _ _ _)
      | (with_reducible exact ih1 _ _ _ _ _ _ _ _ _ _)
      | (with_reducible exact impl_PartnerRight.mono _ _ _ _ _)
      | (with_reducible exact impl_Partner_ask.mono _ _ _ _ _ _)
      | (with_reducible exact impl_Partner_seen.mono _ _ _ _ _ _)
      | (with_reducible exact impl_Seen_94__impl_PartnerTake_1.mono _ _ _ _ _ _)
      | (with_reducible exact LeO.refl _)
      | (with_reducible exact LeO.none _)
      | (with_reducible refine LeO.ite ?_ ?_)
      | (with_reducible refine LeO.bind ?_ (fun _ => ?_))
      | exact ih0 _ _ _ _ _ _ _
      | exact ih1 _ _ _ _ _ _ _ _ _ _
      | exact impl_PartnerRight.mono _ _ _ _ _
      | exact impl_Partner_ask.mono _ _ _ _ _ _
      | exact impl_Partner_seen.mono _ _ _ _ _ _
      | exact impl_Seen_94__impl_PartnerTake_1.mono _ _ _ _ _ _
      | exact LeO.none _
      | refine LeO.ite ?_ ?_
      | refine LeO.bind ?_ (fun _ => ?_)
theorem impl_PartnerTake.mono : ∀ a0 a1 a2 a3 a4 a5 k, LeO (impl_PartnerTake.f k a0 a1 a2 a3 a4 a5) (impl_PartnerTake.f (k + 1) a0 a1 a2 a3 a4 a5) := by
  intro a0 a1 a2 a3 a4 a5 k
  obtain ⟨ih0, ih1⟩ := impl_PartnerTake.mono_l k
  unfold impl_PartnerTake.f
  repeat' first
      | (with_reducible exact ih0 _ _ _ _ _ _ _)
      | (with_reducible exact ih1 _ _ _ _ _ _ _ _ _ _)
      | (with_reducible exact impl_PartnerRight.mono _ _ _ _ _)
      | (with_reducible exact impl_Partner_ask.mono _ _ _ _ _ _)
      | (with_reducible exact impl_Partner_seen.mono _ _ _ _ _ _)
      | (with_reducible exact impl_Seen_94__impl_PartnerTake_1.mono _ _ _ _ _ _)
      | (with_reducible exact LeO.refl _)
      | (with_reducible exact LeO.none _)
      | (with_reducible refine LeO.ite ?_ ?_)
      | (with_reducible refine LeO.bind ?_ (fun _ => ?_))
      | exact ih0 _ _ _ _ _ _ _
      | exact ih1 _ _ _ _ _ _ _ _ _ _
      | exact impl_PartnerRight.mono _ _ _ _ _
      | exact impl_Partner_ask.mono _ _ _ _ _ _
      | exact impl_Partner_seen.mono _ _ _ _ _ _
      | exact impl_Seen_94__impl_PartnerTake_1.mono _ _ _ _ _ _
      | exact LeO.none _
      | refine LeO.ite ?_ ?_
      | refine LeO.bind ?_ (fun _ => ?_)
set_option maxHeartbeats 8000000 in
set_option maxRecDepth 100000 in
theorem impl_PartnerTake.calls (k : Nat) (a0_0 : ByteArray) (a0_1 : Int) (a0_2 : Int) (A0_3 : Option Addr) (c0_3 : Nat) (l0_3 : List (S62)) (a1 : Int) (a2 : Int) (r1 : ByteArray) (r2 : Int) (r3 : Int) (r4 : List (S62)) (r5 : Int) (r6 : Int) (r7 : Int) (r8 : Int) (r9 : Int) (w : World) (hr0_3 : Kd.C k62 w A0_3 l0_3.length l0_3) (hc0_3 : l0_3.length ≤ c0_3) (h : impl_PartnerTake.f k a0_0 a0_1 a0_2 l0_3 a1 a2 = some (r1, r2, r3, r4, r5, r6, r7, r8, r9)) :
    Calls Try.prog 45 #[.agg #[.string a0_0, .int .i64 a0_1, .int .i64 a0_2, .slice A0_3 l0_3.length c0_3], .int .i64 a1, .int .i64 a2] w fun e w' => ∃ v3_ : Value, e = .returned (.agg #[.string r1, .int .i64 r2, .int .i64 r3, v3_, .int .i64 r5, .int .i64 r6, .int .i64 r7, .int .i64 r8, .int .i64 r9]) ∧ Kd.R k62 62 w' w.heap.size (fun _ => True) v3_ r4 ∧ Below w.heap.size w w' := by
  have hu51 := Try.underlying51
  have hu64 := Try.underlying64
  have hu62 := Try.underlying62
  have HR0_3 := Aside0.mk hr0_3
  have HC0_3 := Aside0.mk hc0_3
  clear hr0_3 hc0_3
  have HB := Aside0.mk (Below.refl w.heap.size w)
  have H : ((impl_PartnerRight.f k a0_0 a0_1 a0_2 l0_3).bind fun t230 => (if t230 = true then ((impl_isControl.f a1).bind fun t231 => (if t231 = true then ((impl_isCode.f a2).bind fun t232 => (impl_PartnerTake.j0 k a1 a2 (!t232) a0_0 a0_1 a0_2 l0_3)) else (impl_PartnerTake.j0 k a1 a2 true a0_0 a0_1 a0_2 l0_3))) else (impl_PartnerTake.j0 k a1 a2 true a0_0 a0_1 a0_2 l0_3))) = some (r1, r2, r3, r4, r5, r6, r7, r8, r9) := h
  clear h
  have HC4 := Aside0.mk H
  clear H
  go_enter Try.func45, Try.ntmps45
  go_upto_region 1 with (first | ((with_reducible refine gate_dst (N := 3) rfl ?_); refine box_event ?hg (N := 3) ?hd (cs := #[.string a0_0, .int .i64 a0_1, .int .i64 a0_2, .slice A0_3 l0_3.length c0_3]) (t := 51) ?hr ?_; (case hd => rfl); (case hg => rfl); (case hr => exact hr_); intro gb228 hg w5 hbox hb; have n0_ := Aside0.mk (below_step bl_ hb); have n1_ := Aside0.mk (hbox); have n2_ := Aside0.mk (gw_ hg bl_); have n3_ := Aside0.mk (gw_ hg bl_); clear HB; have HB := n0_; have BK228 := n1_; have GW228 := n2_; have GE228 := n3_; clear n0_ n1_ n2_ n3_; clear hb hbox hg) | ((with_reducible refine gate_dst (N := 6) rfl ?_); refine box_event ?hg (N := 6) ?hd (cs := #[.string (⟨#[]⟩ : ByteArray), .int .i64 0, .int .i64 0, .slice none 0 0, .int .i64 0, .int .i64 0, .int .i64 0, .int .i64 0, .int .i64 0]) (t := 64) ?hr ?_; (case hd => rfl); (case hg => rfl); (case hr => exact hr_); intro gb229 hg w6 hbox hb; have n0_ := Aside0.mk (blkb_ BK228 hb); have n1_ := Aside0.mk (below_step bl_ hb); have n2_ := Aside0.mk (hbox); have n3_ := Aside0.mk (gw_ hg bl_); have n4_ := Aside0.mk (gw_ hg bl_); have n5_ := Aside0.mk (gn_ hg (blkl_ BK228)); have n6_ := Aside0.mk (gm_ hg (blkl_ BK228)); clear BK228; clear HB; have BK228 := n0_; have HB := n1_; have BK229 := n2_; have GW229 := n3_; have GE229 := n4_; have NB228_229 := n5_; have NB229_228 := n6_; clear n0_ n1_ n2_ n3_ n4_ n5_ n6_; clear hb hbox hg))
  (try simp only [Act.put, List.setIfInBounds_toArray, List.set_cons_zero, List.set_cons_succ])
  go_cut [24] (fun v24 wc => ∃ (kq : Nat) (x24_3 : Bool), v24 = .bool x24_3 ∧ Aside0 (impl_PartnerTake.j0 kq a1 a2 x24_3 a0_0 a0_1 a0_2 l0_3 = some (r1, r2, r3, r4, r5, r6, r7, r8, r9)) ∧ Aside0 (kq ≤ k) ∧ Aside0 (wc.heap[gb228]? = some (.cells #[.string a0_0, .int .i64 a0_1, .int .i64 a0_2, (.slice A0_3 l0_3.length c0_3)] 51 (0, 0))) ∧ Aside0 (wc.heap[gb229]? = some (.cells #[.string (⟨#[]⟩ : ByteArray), .int .i64 0, .int .i64 0, (.slice none 0 0), .int .i64 0, .int .i64 0, .int .i64 0, .int .i64 0, .int .i64 0] 64 (0, 0))) ∧ Aside0 (Below w.heap.size w wc))
  case first =>
    have H := HC4.out
    clear HC4
    replace H := Option.bind_eq_some_iff.mp H
    obtain ⟨t230, A70, H⟩ := H
    replace H : (if t230 = true then ((impl_isControl.f a1).bind fun t231 => (if t231 = true then ((impl_isCode.f a2).bind fun t232 => (impl_PartnerTake.j0 k a1 a2 (!t232) a0_0 a0_1 a0_2 l0_3)) else (impl_PartnerTake.j0 k a1 a2 true a0_0 a0_1 a0_2 l0_3))) else (impl_PartnerTake.j0 k a1 a2 true a0_0 a0_1 a0_2 l0_3)) = some (r1, r2, r3, r4, r5, r6, r7, r8, r9) := H
    have A7 := Aside0.mk A70
    clear A70
    by_cases c8 : t230 = true
    · subst c8
      have H1 : ((impl_isControl.f a1).bind fun t231 => (if t231 = true then ((impl_isCode.f a2).bind fun t232 => (impl_PartnerTake.j0 k a1 a2 (!t232) a0_0 a0_1 a0_2 l0_3)) else (impl_PartnerTake.j0 k a1 a2 true a0_0 a0_1 a0_2 l0_3))) = some (r1, r2, r3, r4, r5, r6, r7, r8, r9) := by rw [if_pos rfl] at H; exact H
      clear H
      have H := H1
      clear H1
      replace H := Option.bind_eq_some_iff.mp H
      obtain ⟨t231, A90, H⟩ := H
      replace H : (if t231 = true then ((impl_isCode.f a2).bind fun t232 => (impl_PartnerTake.j0 k a1 a2 (!t232) a0_0 a0_1 a0_2 l0_3)) else (impl_PartnerTake.j0 k a1 a2 true a0_0 a0_1 a0_2 l0_3)) = some (r1, r2, r3, r4, r5, r6, r7, r8, r9) := H
      have A9 := Aside0.mk A90
      clear A90
      by_cases c10 : t231 = true
      · subst c10
        have H1 : ((impl_isCode.f a2).bind fun t232 => (impl_PartnerTake.j0 k a1 a2 (!t232) a0_0 a0_1 a0_2 l0_3)) = some (r1, r2, r3, r4, r5, r6, r7, r8, r9) := by rw [if_pos rfl] at H; exact H
        clear H
        have H := H1
        clear H1
        replace H := Option.bind_eq_some_iff.mp H
        obtain ⟨t232, A110, H⟩ := H
        replace H : (impl_PartnerTake.j0 k a1 a2 (!t232) a0_0 a0_1 a0_2 l0_3) = some (r1, r2, r3, r4, r5, r6, r7, r8, r9) := H
        have A11 := Aside0.mk A110
        clear A110
        have H' := Aside0.mk H
        clear H
        have hnb12 := NB228_229.out
        have hnc12 := NB229_228.out
        obtain ⟨hcz13_0, hcz13_1, hcz13_2, hcz13_3, hfz13_0, hfz13_1, hfz13_2, hfz13_3⟩ := cellsF4 BK228.out
        go_wp2_with (first | (go_at_call 52; (with_reducible refine (impl_PartnerRight.calls k a0_0 a0_1 a0_2 _ _ l0_3 true _ ?side1 ?side2 A7.out).mono ?_); (case side1 => exact au10_3); (case side2 => exact HC0_3.out); rintro e w14 ⟨rfl, hb⟩; (try clear A7); have n0_ := Aside0.mk (blkb_ BK228 hb); have n1_ := Aside0.mk (blkb_ BK229 hb); have n2_ := Aside0.mk (below_step bl_ hb); clear BK228; clear BK229; clear HB; have BK228 := n0_; have BK229 := n1_; have HB := n2_; clear n0_ n1_ n2_; (try clear hb); (try clear hb2); (try clear hk); (try clear hi)) | (go_at_call 81; (with_reducible refine (impl_isControl.calls a1 true _ A9.out).mono ?_); rintro e w' ⟨rfl, ⟨nd, rfl⟩⟩; (try clear A9)) | (go_at_call 91; (with_reducible refine (impl_isCode.calls a2 t232 _ A11.out).mono ?_); rintro e w' ⟨rfl, ⟨nd, rfl⟩⟩; (try clear A11)))
        go_meet
        case rel => exact ⟨_, (!t232), er_, H', ⟨by first | omega | exact Nat.le_refl _⟩, ⟨bk_ BK228⟩, ⟨bk_ BK229⟩, ⟨bl_⟩⟩
      · replace c10 := Bool.eq_false_iff.mpr c10
        subst c10
        have H1 : (impl_PartnerTake.j0 k a1 a2 true a0_0 a0_1 a0_2 l0_3) = some (r1, r2, r3, r4, r5, r6, r7, r8, r9) := by rw [if_neg (show ¬ (false = true) by decide)] at H; exact H
        clear H
        have H := H1
        clear H1
        have H' := Aside0.mk H
        clear H
        have hnb15 := NB228_229.out
        have hnc15 := NB229_228.out
        obtain ⟨hcz16_0, hcz16_1, hcz16_2, hcz16_3, hfz16_0, hfz16_1, hfz16_2, hfz16_3⟩ := cellsF4 BK228.out
        go_wp2_with (first | (go_at_call 52; (with_reducible refine (impl_PartnerRight.calls k a0_0 a0_1 a0_2 _ _ l0_3 true _ ?side1 ?side2 A7.out).mono ?_); (case side1 => exact au10_3); (case side2 => exact HC0_3.out); rintro e w17 ⟨rfl, hb⟩; (try clear A7); have n0_ := Aside0.mk (blkb_ BK228 hb); have n1_ := Aside0.mk (blkb_ BK229 hb); have n2_ := Aside0.mk (below_step bl_ hb); clear BK228; clear BK229; clear HB; have BK228 := n0_; have BK229 := n1_; have HB := n2_; clear n0_ n1_ n2_; (try clear hb); (try clear hb2); (try clear hk); (try clear hi)) | (go_at_call 81; (with_reducible refine (impl_isControl.calls a1 false _ A9.out).mono ?_); rintro e w' ⟨rfl, ⟨nd, rfl⟩⟩; (try clear A9)))
        go_meet
        case rel => exact ⟨_, (true), er_, H', ⟨by first | omega | exact Nat.le_refl _⟩, ⟨bk_ BK228⟩, ⟨bk_ BK229⟩, ⟨bl_⟩⟩
    · replace c8 := Bool.eq_false_iff.mpr c8
      subst c8
      have H1 : (impl_PartnerTake.j0 k a1 a2 true a0_0 a0_1 a0_2 l0_3) = some (r1, r2, r3, r4, r5, r6, r7, r8, r9) := by rw [if_neg (show ¬ (false = true) by decide)] at H; exact H
      clear H
      have H := H1
      clear H1
      have H' := Aside0.mk H
      clear H
      have hnb18 := NB228_229.out
      have hnc18 := NB229_228.out
      obtain ⟨hcz19_0, hcz19_1, hcz19_2, hcz19_3, hfz19_0, hfz19_1, hfz19_2, hfz19_3⟩ := cellsF4 BK228.out
      go_wp2_with (first | (go_at_call 52; (with_reducible refine (impl_PartnerRight.calls k a0_0 a0_1 a0_2 _ _ l0_3 false _ ?side1 ?side2 A7.out).mono ?_); (case side1 => exact au10_3); (case side2 => exact HC0_3.out); rintro e w20 ⟨rfl, hb⟩; (try clear A7); have n0_ := Aside0.mk (blkb_ BK228 hb); have n1_ := Aside0.mk (blkb_ BK229 hb); have n2_ := Aside0.mk (below_step bl_ hb); clear BK228; clear BK229; clear HB; have BK228 := n0_; have BK229 := n1_; have HB := n2_; clear n0_ n1_ n2_; (try clear hb); (try clear hb2); (try clear hk); (try clear hi)))
      go_meet
      case rel => exact ⟨_, (true), er_, H', ⟨by first | omega | exact Nat.le_refl _⟩, ⟨bk_ BK228⟩, ⟨bk_ BK229⟩, ⟨bl_⟩⟩
  case rest =>
    clear HC4
    try clear c1
    try clear p2
    try clear c4
    try clear c8
    try clear c10
    try clear c12
    try clear c15
    try clear c18
    try clear hcz13_0
    try clear hcz13_1
    try clear hcz13_2
    try clear hcz13_3
    try clear hcz16_0
    try clear hcz16_1
    try clear hcz16_2
    try clear hcz16_3
    try clear hcz19_0
    try clear hcz19_1
    try clear hcz19_2
    try clear hcz19_3
    try clear hfz13_0
    try clear hfz13_1
    try clear hfz13_2
    try clear hfz13_3
    try clear hfz16_0
    try clear hfz16_1
    try clear hfz16_2
    try clear hfz16_3
    try clear hfz19_0
    try clear hfz19_1
    try clear hfz19_2
    try clear hfz19_3
    obtain ⟨kq, x24_3, rfl, HA, HJ3, BK228, BK229, HB⟩ := hcut
    cases kq with
    | zero => exact absurd HA.out (by simp [impl_PartnerTake.j0])
    | succ kj3 =>
      have H := HA.out
      clear HA
      simp only [impl_PartnerTake.j0] at H
      by_cases c21 : x24_3 = true
      · subst c21
        have H1 : (some ((⟨#[]⟩ : ByteArray), 0, 0, ([] : List (S62)), 0, 0, 0, 0, 1)) = some (r1, r2, r3, r4, r5, r6, r7, r8, r9) := by rw [if_pos rfl] at H; exact H
        clear H
        have H := H1
        clear H1
        simp only [Option.some.injEq, Prod.mk.injEq] at H
        obtain ⟨rfl, rfl, rfl, rfl, rfl, rfl, rfl, rfl, rfl⟩ := H
        have hnb22 := NB229_228.out
        have hnc22 := NB228_229.out
        obtain ⟨hcz23_0, hcz23_1, hcz23_2, hcz23_3, hcz23_4, hcz23_5, hcz23_6, hcz23_7, hcz23_8, hfz23_0, hfz23_1, hfz23_2, hfz23_3, hfz23_4, hfz23_5, hfz23_6, hfz23_7, hfz23_8⟩ := cellsF9 BK229.out
        go_wp2
        refine bodyPost_ret (results_cell_row rfl _ _ gb229 64 #[.string (⟨#[]⟩ : ByteArray), .int .i64 0, .int .i64 0, .slice none 0 0, .int .i64 0, .int .i64 0, .int .i64 0, .int .i64 0, .int .i64 1] (0, 0) _ rfl au10_1 Try.underlying64 rfl (by kernel_rfl)) rfl ?_
        exact ⟨_, au10_9, au10_8, bl_⟩
      · replace c21 := Bool.eq_false_iff.mpr c21
        subst c21
        have H1 : ((impl_ownPartner.f a0_0 a0_1 a0_2 l0_3).bind fun bt233 => ((impl_Partner_ask.f kj3 bt233.1 bt233.2.1 bt233.2.2.1 bt233.2.2.2 a1).bind fun t239 => (if t239 = 1 then (if bt233.2.2.1 = 999999 then (some ((⟨#[]⟩ : ByteArray), 0, 0, ([] : List (S62)), 0, 0, 0, 0, 13)) else ((impl_Seen_94__impl_PartnerTake_1.f kj3 bt233.2.2.2 bt233.1 (mx bt233.2.1 (wrap64 ((wrap64 (a1 - 32)) + 1))) bt233.2.2.1 bt233.2.2.2).bind fun t246 => (impl_PartnerTake.l0 kj3 a1 t239 0 bt233.1 (mx bt233.2.1 (wrap64 ((wrap64 (a1 - 32)) + 1))) bt233.2.2.1 t246 a1 bt233.2.2.1 a2))) else ((impl_Partner_seen.f kj3 bt233.1 bt233.2.1 bt233.2.2.1 bt233.2.2.2 a1).bind fun bt240 => (some (bt233.1, bt233.2.1, bt233.2.2.1, bt233.2.2.2, t239, bt240.1, bt240.2.1, bt240.2.2.1, 0)))))) = some (r1, r2, r3, r4, r5, r6, r7, r8, r9) := by rw [if_neg (show ¬ (false = true) by decide)] at H; exact H
        clear H
        have H := H1
        clear H1
        replace H := Option.bind_eq_some_iff.mp H
        obtain ⟨⟨t233, t234, t235, t236⟩, A240, H⟩ := H
        replace H : ((impl_Partner_ask.f kj3 t233 t234 t235 t236 a1).bind fun t239 => (if t239 = 1 then (if t235 = 999999 then (some ((⟨#[]⟩ : ByteArray), 0, 0, ([] : List (S62)), 0, 0, 0, 0, 13)) else ((impl_Seen_94__impl_PartnerTake_1.f kj3 t236 t233 (mx t234 (wrap64 ((wrap64 (a1 - 32)) + 1))) t235 t236).bind fun t246 => (impl_PartnerTake.l0 kj3 a1 t239 0 t233 (mx t234 (wrap64 ((wrap64 (a1 - 32)) + 1))) t235 t246 a1 t235 a2))) else ((impl_Partner_seen.f kj3 t233 t234 t235 t236 a1).bind fun bt240 => (some (t233, t234, t235, t236, t239, bt240.1, bt240.2.1, bt240.2.2.1, 0))))) = some (r1, r2, r3, r4, r5, r6, r7, r8, r9) := H
        have A24 := Aside0.mk A240
        clear A240
        replace H := Option.bind_eq_some_iff.mp H
        obtain ⟨t239, A250, H⟩ := H
        replace H : (if t239 = 1 then (if t235 = 999999 then (some ((⟨#[]⟩ : ByteArray), 0, 0, ([] : List (S62)), 0, 0, 0, 0, 13)) else ((impl_Seen_94__impl_PartnerTake_1.f kj3 t236 t233 (mx t234 (wrap64 ((wrap64 (a1 - 32)) + 1))) t235 t236).bind fun t246 => (impl_PartnerTake.l0 kj3 a1 t239 0 t233 (mx t234 (wrap64 ((wrap64 (a1 - 32)) + 1))) t235 t246 a1 t235 a2))) else ((impl_Partner_seen.f kj3 t233 t234 t235 t236 a1).bind fun bt240 => (some (t233, t234, t235, t236, t239, bt240.1, bt240.2.1, bt240.2.2.1, 0)))) = some (r1, r2, r3, r4, r5, r6, r7, r8, r9) := H
        have A25 := Aside0.mk A250
        clear A250
        by_cases c26 : t239 = 1
        · rw [if_pos c26] at H
          have c26b0 : (t239 == 1) = true := beq_iff_eq.mpr c26
          have c26b1 : (t239 != 1) = false := bne_eq_false_iff_eq.mpr c26
          clear c26
          by_cases c27 : t235 = 999999
          · rw [if_pos c27] at H
            have c27b0 : (t235 == 999999) = true := beq_iff_eq.mpr c27
            have c27b1 : (t235 != 999999) = false := bne_eq_false_iff_eq.mpr c27
            clear c27
            simp only [Option.some.injEq, Prod.mk.injEq] at H
            obtain ⟨rfl, rfl, rfl, rfl, rfl, rfl, rfl, rfl, rfl⟩ := H
            have hnb28 := NB228_229.out
            have hnc28 := NB229_228.out
            obtain ⟨hcz29_0, hcz29_1, hcz29_2, hcz29_3, hfz29_0, hfz29_1, hfz29_2, hfz29_3⟩ := cellsF4 BK228.out
            go_wp2_with (first | (go_at_call 92; (with_reducible refine (impl_ownPartner.calls a0_0 a0_1 a0_2 _ _ l0_3 t233 t234 t235 t236 _ ?side1 ?side2 A24.out).mono ?_); (case side1 => exact au10_3); (case side2 => exact HC0_3.out); rintro e w30 ⟨v237, rfl, ho0, hb⟩; (try clear A24); have n0_ := Aside0.mk (Kd.R_lower ho0 (below_size bl_)); have n1_ := Aside0.mk (blkb_ BK228 hb); have n2_ := Aside0.mk (blkb_ BK229 hb); have n3_ := Aside0.mk (below_step bl_ hb); clear BK228; clear BK229; clear HB; have HO238 := n0_; have BK228 := n1_; have BK229 := n2_; have HB := n3_; clear n0_ n1_ n2_ n3_; (try clear hb); (try clear hb2); (try clear hk); (try clear hi); (try clear ho0); obtain ⟨hcz31_0, hcz31_1, hcz31_2, hcz31_3, hfz31_0, hfz31_1, hfz31_2, hfz31_3⟩ := cellsF4 BK228.out; obtain ⟨Ao32, co32, eo32⟩ := Kd.R_slice HO238.out; subst eo32) | (go_at_call 82; (with_reducible refine (impl_Partner_ask.calls kj3 gb228 t233 t234 t235 Ao32 co32 t236 a1 t239 _ ?side1 ?side2 ?side3 A25.out).mono ?_); (case side1 => exact au10_0); (case side2 => refine (Kd.R_reads' (e := 62) (base := w.heap.size) (ok := fun k_ => True) (n := t236.length) (c := co32) ?_).2.2; exact au10_4); (case side3 => exact au10_12); rintro e w33 ⟨rfl, hb⟩; (try clear A25); have n0_ := Aside0.mk (Kd.R_below au10_4 hb); have n1_ := Aside0.mk (blk_below (g := gb228) (o := .cells #[.string t233, .int .i64 t234, .int .i64 t235, .slice Ao32 t236.length co32] 51 (0, 0)) au10_0 hb); have n2_ := Aside0.mk (blk_below (g := gb229) (o := .cells #[.string (⟨#[]⟩ : ByteArray), .int .i64 0, .int .i64 0, .slice none 0 0, .int .i64 0, .int .i64 0, .int .i64 0, .int .i64 0, .int .i64 0] 64 (0, 0)) au10_2 hb); have n3_ := Aside0.mk (below_step bl_ hb); clear HO238; clear BK228; clear BK229; clear HB; have HO238 := n0_; have BK228 := n1_; have BK229 := n2_; have HB := n3_; clear n0_ n1_ n2_ n3_; (try clear hb); (try clear hb2); (try clear hk); (try clear hi); obtain ⟨hcz34_0, hcz34_1, hcz34_2, hcz34_3, hfz34_0, hfz34_1, hfz34_2, hfz34_3⟩ := cellsF4 BK228.out; obtain ⟨hcz35_0, hcz35_1, hcz35_2, hcz35_3, hcz35_4, hcz35_5, hcz35_6, hcz35_7, hcz35_8, hfz35_0, hfz35_1, hfz35_2, hfz35_3, hfz35_4, hfz35_5, hfz35_6, hfz35_7, hfz35_8⟩ := cellsF9 BK229.out))
            refine bodyPost_ret (results_cell_row rfl _ _ gb229 64 #[.string (⟨#[]⟩ : ByteArray), .int .i64 0, .int .i64 0, .slice none 0 0, .int .i64 0, .int .i64 0, .int .i64 0, .int .i64 0, .int .i64 13] (0, 0) _ rfl au10_1 Try.underlying64 rfl (by kernel_rfl)) rfl ?_
            exact ⟨_, au10_9, au10_8, bl_⟩
          · rw [if_neg c27] at H
            have c27b0 : (t235 == 999999) = false := beq_eq_false_iff_ne.mpr c27
            have c27b1 : (t235 != 999999) = true := bne_iff_ne.mpr c27
            obtain ⟨ji36, hji36⟩ : ∃ j_ : Int, (mx t234 (wrap64 ((wrap64 (a1 - 32)) + 1))) = j_ := ⟨_, rfl⟩
            replace H : ((impl_Seen_94__impl_PartnerTake_1.f kj3 t236 t233 (ji36) t235 t236).bind fun t246 => (impl_PartnerTake.l0 kj3 a1 t239 0 t233 ji36 t235 t246 a1 t235 a2)) = some (r1, r2, r3, r4, r5, r6, r7, r8, r9) := by first | (rw [hji36] at H; exact H) | (simp only [hji36] at H ⊢; exact H)
            (try rw [hji36] at A24)
            (try rw [hji36] at A25)
            have hji36_ : (if t234 < (wrap64 ((wrap64 (a1 - 32)) + 1)) then (wrap64 ((wrap64 (a1 - 32)) + 1)) else t234) = ji36 := hji36
            replace H := Option.bind_eq_some_iff.mp H
            obtain ⟨t246, A370, H⟩ := H
            replace H : (impl_PartnerTake.l0 kj3 a1 t239 0 t233 ji36 t235 t246 a1 t235 a2) = some (r1, r2, r3, r4, r5, r6, r7, r8, r9) := H
            have A37 := Aside0.mk A370
            clear A370
            have H' := Aside0.mk H
            clear H
            have hnb38 := NB228_229.out
            have hnc38 := NB229_228.out
            obtain ⟨hcz39_0, hcz39_1, hcz39_2, hcz39_3, hfz39_0, hfz39_1, hfz39_2, hfz39_3⟩ := cellsF4 BK228.out
            go_wp2_with (first | (go_at_call 92; (with_reducible refine (impl_ownPartner.calls a0_0 a0_1 a0_2 _ _ l0_3 t233 t234 t235 t236 _ ?side1 ?side2 A24.out).mono ?_); (case side1 => exact au10_3); (case side2 => exact HC0_3.out); rintro e w40 ⟨v237, rfl, ho0, hb⟩; (try clear A24); have n0_ := Aside0.mk (Kd.R_lower ho0 (below_size bl_)); have n1_ := Aside0.mk (blkb_ BK228 hb); have n2_ := Aside0.mk (blkb_ BK229 hb); have n3_ := Aside0.mk (below_step bl_ hb); clear BK228; clear BK229; clear HB; have HO238 := n0_; have BK228 := n1_; have BK229 := n2_; have HB := n3_; clear n0_ n1_ n2_ n3_; (try clear hb); (try clear hb2); (try clear hk); (try clear hi); (try clear ho0); obtain ⟨hcz41_0, hcz41_1, hcz41_2, hcz41_3, hfz41_0, hfz41_1, hfz41_2, hfz41_3⟩ := cellsF4 BK228.out; obtain ⟨Ao42, co42, eo42⟩ := Kd.R_slice HO238.out; subst eo42) | (go_at_call 82; (with_reducible refine (impl_Partner_ask.calls kj3 gb228 t233 t234 t235 Ao42 co42 t236 a1 t239 _ ?side1 ?side2 ?side3 A25.out).mono ?_); (case side1 => exact au10_0); (case side2 => refine (Kd.R_reads' (e := 62) (base := w.heap.size) (ok := fun k_ => True) (n := t236.length) (c := co42) ?_).2.2; exact au10_5); (case side3 => exact au10_12); rintro e w43 ⟨rfl, hb⟩; (try clear A25); have n0_ := Aside0.mk (Kd.R_below au10_5 hb); have n1_ := Aside0.mk (blk_below (g := gb228) (o := .cells #[.string t233, .int .i64 t234, .int .i64 t235, .slice Ao42 t236.length co42] 51 (0, 0)) au10_0 hb); have n2_ := Aside0.mk (blk_below (g := gb229) (o := .cells #[.string (⟨#[]⟩ : ByteArray), .int .i64 0, .int .i64 0, .slice none 0 0, .int .i64 0, .int .i64 0, .int .i64 0, .int .i64 0, .int .i64 0] 64 (0, 0)) au10_2 hb); have n3_ := Aside0.mk (below_step bl_ hb); clear HO238; clear BK228; clear BK229; clear HB; have HO238 := n0_; have BK228 := n1_; have BK229 := n2_; have HB := n3_; clear n0_ n1_ n2_ n3_; (try clear hb); (try clear hb2); (try clear hk); (try clear hi); obtain ⟨hcz44_0, hcz44_1, hcz44_2, hcz44_3, hfz44_0, hfz44_1, hfz44_2, hfz44_3⟩ := cellsF4 BK228.out) | ((with_reducible refine gate_dst (N := 10) rfl ?_); refine box_event ?hg (N := 10) ?hd (cs := #[.int .i64 0, .int .i64 0, .int .i64 0]) (t := 62) ?hr ?_; (case hd => rfl); (case hg => rfl); (case hr => exact hr_); intro gb245 hg w45 hbox hb; have n0_ := Aside0.mk (Kd.R_below (Kd.R_elderB (rk_ HO238) gb245 (Nat.le_of_eq hg.symm)) hb); have n1_ := Aside0.mk (blkb_ BK228 hb); have n2_ := Aside0.mk (blkb_ BK229 hb); have n3_ := Aside0.mk (below_step bl_ hb); have n4_ := Aside0.mk (hbox); have n5_ := Aside0.mk (gw_ hg bl_); have n6_ := Aside0.mk (gw_ hg bl_); have n7_ := Aside0.mk (gn_ hg (blkl_ BK228)); have n8_ := Aside0.mk (gm_ hg (blkl_ BK228)); have n9_ := Aside0.mk (gn_ hg (blkl_ BK229)); have n10_ := Aside0.mk (gm_ hg (blkl_ BK229)); clear HO238; clear BK228; clear BK229; clear HB; have HO238 := n0_; have BK228 := n1_; have BK229 := n2_; have HB := n3_; have BK245 := n4_; have GW245 := n5_; have GE245 := n6_; have NB228_245 := n7_; have NB245_228 := n8_; have NB229_245 := n9_; have NB245_229 := n10_; clear n0_ n1_ n2_ n3_ n4_ n5_ n6_ n7_ n8_ n9_ n10_; clear hb hbox hg; have hnb46 := NB245_228.out; have hnc46 := NB228_245.out; have hnb47 := NB245_229.out; have hnc47 := NB229_245.out; obtain ⟨hcz48_0, hcz48_1, hcz48_2, hfz48_0, hfz48_1, hfz48_2⟩ := cellsF3 BK245.out) | ((with_reducible refine gate_store (t := 62) (p := 10) rfl ?_); refine store_event (t := 62) (p := 10) (v := ?vo_w49) (w1 := (((w45.setCell ⟨gb245, 0, none⟩ (.int .i64 a1)).setCell ⟨gb245, 1, none⟩ (.int .i64 t235)).setCell ⟨gb245, 2, none⟩ (.int .i64 a2))) ?hg ?ho ?hn ?hr ?_; (case ho => rfl); (case hg => rfl); (case hn => rfl); (case hr => exact hr_); intro w49 hw; have n0_ : Aside0 (Kd.R k62 62 w49 w.heap.size (fun k_ => k_ ≠ gb245) (.slice Ao42 t236.length co42) t236) := ⟨(by rw [hw]; exact (by (with_reducible repeat (first | apply Kd.R_alloc | apply Kd.R_drewN | apply Kd.R_drew)); exact Kd.R_mono (Kd.R_far (p := ⟨gb245, 2, none⟩) (Kd.R_far (p := ⟨gb245, 1, none⟩) (Kd.R_far (p := ⟨gb245, 0, none⟩) (Kd.R_mono HO238.out (fun k_ hk => (⟨hk, hk.2⟩ : _ ∧ k_ ≠ gb245))) (fun _ hk => hk.2) (.int .i64 a1)) (fun _ hk => hk.2) (.int .i64 t235)) (fun _ hk => hk.2) (.int .i64 a2)) (fun _ hk => hk.1.2)))⟩; have n1_ : Aside0 (w49.heap[gb228]? = some (.cells #[.string t233, .int .i64 t234, .int .i64 t235, .slice Ao42 t236.length co42] 51 (0, 0))) := ⟨(by rw [hw]; exact (by (with_reducible repeat (first | refine blk_drewN ?_ _ | refine blk_drew ?_ | refine blk_alloc ?_ _)); refine blk_far ?_ NB228_245.out _; (with_reducible repeat (first | refine blk_drewN ?_ _ | refine blk_drew ?_ | refine blk_alloc ?_ _)); refine blk_far ?_ NB228_245.out _; (with_reducible repeat (first | refine blk_drewN ?_ _ | refine blk_drew ?_ | refine blk_alloc ?_ _)); refine blk_far ?_ NB228_245.out _; (with_reducible repeat (first | refine blk_drewN ?_ _ | refine blk_drew ?_ | refine blk_alloc ?_ _)); exact BK228.out))⟩; have n2_ : Aside0 (w49.heap[gb229]? = some (.cells #[.string (⟨#[]⟩ : ByteArray), .int .i64 0, .int .i64 0, .slice none 0 0, .int .i64 0, .int .i64 0, .int .i64 0, .int .i64 0, .int .i64 0] 64 (0, 0))) := ⟨(by rw [hw]; exact (by (with_reducible repeat (first | refine blk_drewN ?_ _ | refine blk_drew ?_ | refine blk_alloc ?_ _)); refine blk_far ?_ NB229_245.out _; (with_reducible repeat (first | refine blk_drewN ?_ _ | refine blk_drew ?_ | refine blk_alloc ?_ _)); refine blk_far ?_ NB229_245.out _; (with_reducible repeat (first | refine blk_drewN ?_ _ | refine blk_drew ?_ | refine blk_alloc ?_ _)); refine blk_far ?_ NB229_245.out _; (with_reducible repeat (first | refine blk_drewN ?_ _ | refine blk_drew ?_ | refine blk_alloc ?_ _)); exact BK229.out))⟩; have n3_ : Aside0 (w49.heap[gb245]? = some (.cells #[.int .i64 a1, .int .i64 t235, .int .i64 a2] 62 (0, 0))) := ⟨(by rw [hw]; exact (by (with_reducible repeat (first | refine blk_drewN ?_ _ | refine blk_drew ?_ | refine blk_alloc ?_ _)); refine blk_put (cs := #[.int .i64 a1, .int .i64 t235, .int .i64 0]) ?_ 2 _ rfl; (with_reducible repeat (first | refine blk_drewN ?_ _ | refine blk_drew ?_ | refine blk_alloc ?_ _)); refine blk_put (cs := #[.int .i64 a1, .int .i64 0, .int .i64 0]) ?_ 1 _ rfl; (with_reducible repeat (first | refine blk_drewN ?_ _ | refine blk_drew ?_ | refine blk_alloc ?_ _)); refine blk_put (cs := #[.int .i64 0, .int .i64 0, .int .i64 0]) ?_ 0 _ rfl; (with_reducible repeat (first | refine blk_drewN ?_ _ | refine blk_drew ?_ | refine blk_alloc ?_ _)); exact BK245.out))⟩; have n4_ : Aside0 (Below w.heap.size w w49) := ⟨(by rw [hw]; exact bl_)⟩; clear hw; clear HO238; clear BK228; clear BK229; clear BK245; clear HB; have HO238 := n0_; have BK228 := n1_; have BK229 := n2_; have BK245 := n3_; have HB := n4_; clear n0_ n1_ n2_ n3_ n4_; obtain ⟨hcz50_0, hcz50_1, hcz50_2, hcz50_3, hfz50_0, hfz50_1, hfz50_2, hfz50_3⟩ := cellsF4 BK228.out) | ((with_reducible refine gate_store (t := 2) (p := 56) rfl ?_); refine store_event (t := 2) (p := 56) (v := ?vo_w51) (w1 := (w49.setCell ⟨gb228, 1, none⟩ (.int .i64 ji36))) ?hg ?ho ?hn ?hr ?_; (case ho => rfl); (case hg => rfl); (case hn => rfl); (case hr => exact hr_); intro w51 hw; have n0_ : Aside0 (Kd.R k62 62 w51 w.heap.size (fun k_ => k_ ≠ gb245) (.slice Ao42 t236.length co42) t236) := ⟨(by rw [hw]; exact (by (with_reducible repeat (first | apply Kd.R_alloc | apply Kd.R_drewN | apply Kd.R_drew)); exact Kd.R_mono (Kd.R_far (p := ⟨gb228, 1, none⟩) (Kd.R_types HO238.out BK228.out (by decide)) (fun _ hk => hk.2) (.int .i64 ji36)) (fun _ hk => hk.1)))⟩; have n1_ : Aside0 (w51.heap[gb228]? = some (.cells #[.string t233, .int .i64 ji36, .int .i64 t235, .slice Ao42 t236.length co42] 51 (0, 0))) := ⟨(by rw [hw]; exact (by (with_reducible repeat (first | refine blk_drewN ?_ _ | refine blk_drew ?_ | refine blk_alloc ?_ _)); refine blk_put (cs := #[.string t233, .int .i64 t234, .int .i64 t235, .slice Ao42 t236.length co42]) ?_ 1 _ rfl; (with_reducible repeat (first | refine blk_drewN ?_ _ | refine blk_drew ?_ | refine blk_alloc ?_ _)); exact BK228.out))⟩; have n2_ : Aside0 (w51.heap[gb229]? = some (.cells #[.string (⟨#[]⟩ : ByteArray), .int .i64 0, .int .i64 0, .slice none 0 0, .int .i64 0, .int .i64 0, .int .i64 0, .int .i64 0, .int .i64 0] 64 (0, 0))) := ⟨(by rw [hw]; exact (by (with_reducible repeat (first | refine blk_drewN ?_ _ | refine blk_drew ?_ | refine blk_alloc ?_ _)); refine blk_far ?_ NB229_228.out _; (with_reducible repeat (first | refine blk_drewN ?_ _ | refine blk_drew ?_ | refine blk_alloc ?_ _)); exact BK229.out))⟩; have n3_ : Aside0 (w51.heap[gb245]? = some (.cells #[.int .i64 a1, .int .i64 t235, .int .i64 a2] 62 (0, 0))) := ⟨(by rw [hw]; exact (by (with_reducible repeat (first | refine blk_drewN ?_ _ | refine blk_drew ?_ | refine blk_alloc ?_ _)); refine blk_far ?_ NB245_228.out _; (with_reducible repeat (first | refine blk_drewN ?_ _ | refine blk_drew ?_ | refine blk_alloc ?_ _)); exact BK245.out))⟩; have n4_ : Aside0 (Below w.heap.size w w51) := ⟨(by rw [hw]; exact bl_)⟩; clear hw; clear HO238; clear BK228; clear BK229; clear BK245; clear HB; have HO238 := n0_; have BK228 := n1_; have BK229 := n2_; have BK245 := n3_; have HB := n4_; clear n0_ n1_ n2_ n3_ n4_; obtain ⟨hcz52_0, hcz52_1, hcz52_2, hcz52_3, hfz52_0, hfz52_1, hfz52_2, hfz52_3⟩ := cellsF4 BK228.out) | (go_at_call 94; (with_reducible refine (impl_Seen_94__impl_PartnerTake_1.calls kj3 (fun k_ => some k_ = (.slice Ao42 t236.length co42 : Value).ownBlock) (.slice Ao42 t236.length co42) t236 gb228 t233 ji36 t235 Ao42 co42 t236 t246 w _ ?side1 ?side2 ?side3 ?side4 A37.out).mono ?_); (case side1 => exact au10_7); (case side2 => exact Kd.R_tight rfl HO238.out); (case side3 => exact (bk_ BK228)); (case side4 => exact fun h_ => (Kd.R_ne HO238.out BK228.out (by decide)) h_); rintro e w53 ⟨v247, rfl, ho0, hb, hkp⟩; (try clear A37); have n0_ := Aside0.mk (blk_kept (bk_ BK228) hkp (fun hs_ => (fun e_ => (Kd.R_ne HO238.out BK228.out (by decide)) e_) hs_)); have n1_ := Aside0.mk (blk_kept (bk_ BK229) hkp (fun hs_ => (fun e_ => (Kd.R_ne HO238.out BK229.out (by decide)) e_) hs_)); have n2_ := Aside0.mk (blk_kept (bk_ BK245) hkp (fun hs_ => (fun e_ => (Kd.R_away HO238.out (fun _ hk => hk)) e_) hs_)); have n3_ := Aside0.mk (Kd.R_mono (ok' := fun k_ => k_ ≠ gb245) ho0 (fun k_ hk_ => Or.elim hk_ (fun hs_ => fun e_ => (Kd.R_away HO238.out (fun _ hk => hk)) (by rw [← e_]; exact hs_)) (fun hn_ => (Kd.freshB (g := gb245) (o := .cells #[.int .i64 a1, .int .i64 t235, .int .i64 a2] 62 (0, 0)) (bk_ BK245) k_ hn_)))); have n4_ := Aside0.mk (hb); clear BK228; clear BK229; clear BK245; clear HB; clear HO238; have BK228 := n0_; have BK229 := n1_; have BK245 := n2_; have HO248 := n3_; have HB := n4_; clear n0_ n1_ n2_ n3_ n4_; (try clear hb); (try clear hkp); (try clear ho0); obtain ⟨Ao54, co54, eo54⟩ := Kd.R_slice HO248.out; subst eo54; obtain ⟨hcz55_0, hcz55_1, hcz55_2, hcz55_3, hfz55_0, hfz55_1, hfz55_2, hfz55_3⟩ := cellsF4 BK228.out))
            go_loopg [11] kj3 (fun kq v11 w' => ∃ (x11_2 : Int), v11 = .int .i64 x11_2 ∧ Aside0 (impl_PartnerTake.l0 kq a1 t239 x11_2 t233 ji36 t235 t246 a1 t235 a2 = some (r1, r2, r3, r4, r5, r6, r7, r8, r9)) ∧ Aside0 (kq ≤ kj3) ∧ Aside0 (Kd.R k62 62 w' w.heap.size (fun k_ => k_ ≠ gb245) (.slice Ao54 t246.length co54) t246) ∧ Aside0 (w'.heap[gb228]? = some (.cells #[.string t233, .int .i64 ji36, .int .i64 t235, (.slice Ao54 t246.length co54)] 51 (0, 0))) ∧ Aside0 (w'.heap[gb229]? = some (.cells #[.string (⟨#[]⟩ : ByteArray), .int .i64 0, .int .i64 0, (.slice none 0 0), .int .i64 0, .int .i64 0, .int .i64 0, .int .i64 0, .int .i64 0] 64 (0, 0))) ∧ Aside0 (w'.heap[gb245]? = some (.cells #[.int .i64 a1, .int .i64 t235, .int .i64 a2] 62 (0, 0))) ∧ Aside0 (Below w.heap.size w w'))
            case atStart => exact ⟨(0), er_, H', ⟨Nat.le_refl _⟩, ⟨by (with_reducible repeat (first | apply Kd.R_alloc | apply Kd.R_drewN | apply Kd.R_drew)); exact Kd.R_mono (Kd.R_far (p := ⟨gb228, 3, none⟩) (Kd.R_types HO248.out BK228.out (by decide)) (fun _ hk => hk.2) (.slice Ao54 t246.length co54)) (fun _ hk => hk.1)⟩, ⟨by (with_reducible repeat (first | refine blk_drewN ?_ _ | refine blk_drew ?_ | refine blk_alloc ?_ _)); refine blk_put (cs := #[.string t233, .int .i64 ji36, .int .i64 t235, .slice Ao42 t236.length co42]) ?_ 3 _ rfl; (with_reducible repeat (first | refine blk_drewN ?_ _ | refine blk_drew ?_ | refine blk_alloc ?_ _)); exact BK228.out⟩, ⟨by (with_reducible repeat (first | refine blk_drewN ?_ _ | refine blk_drew ?_ | refine blk_alloc ?_ _)); refine blk_far ?_ NB229_228.out _; (with_reducible repeat (first | refine blk_drewN ?_ _ | refine blk_drew ?_ | refine blk_alloc ?_ _)); exact BK229.out⟩, ⟨by (with_reducible repeat (first | refine blk_drewN ?_ _ | refine blk_drew ?_ | refine blk_alloc ?_ _)); refine blk_far ?_ NB245_228.out _; (with_reducible repeat (first | refine blk_drewN ?_ _ | refine blk_drew ?_ | refine blk_alloc ?_ _)); exact BK245.out⟩, ⟨bl_⟩⟩
            case round =>
              clear H'
              try clear c1
              try clear c2
              try clear p2
              try clear c3
              try clear c4
              try clear p6
              try clear c8
              try clear c10
              try clear c12
              try clear c15
              try clear c18
              try clear c21
              try clear c22
              try clear c26
              try clear c26b0
              try clear c26b1
              try clear c27
              try clear c27b0
              try clear c27b1
              try clear c28
              try clear c38
              try clear c45
              try clear c46
              try clear c47
              try clear hcz13_0
              try clear hcz13_1
              try clear hcz13_2
              try clear hcz13_3
              try clear hcz16_0
              try clear hcz16_1
              try clear hcz16_2
              try clear hcz16_3
              try clear hcz19_0
              try clear hcz19_1
              try clear hcz19_2
              try clear hcz19_3
              try clear hcz23_0
              try clear hcz23_1
              try clear hcz23_2
              try clear hcz23_3
              try clear hcz23_4
              try clear hcz23_5
              try clear hcz23_6
              try clear hcz23_7
              try clear hcz23_8
              try clear hcz29_0
              try clear hcz29_1
              try clear hcz29_2
              try clear hcz29_3
              try clear hcz31_0
              try clear hcz31_1
              try clear hcz31_2
              try clear hcz31_3
              try clear hcz34_0
              try clear hcz34_1
              try clear hcz34_2
              try clear hcz34_3
              try clear hcz35_0
              try clear hcz35_1
              try clear hcz35_2
              try clear hcz35_3
              try clear hcz35_4
              try clear hcz35_5
              try clear hcz35_6
              try clear hcz35_7
              try clear hcz35_8
              try clear hcz39_0
              try clear hcz39_1
              try clear hcz39_2
              try clear hcz39_3
              try clear hcz41_0
              try clear hcz41_1
              try clear hcz41_2
              try clear hcz41_3
              try clear hcz44_0
              try clear hcz44_1
              try clear hcz44_2
              try clear hcz44_3
              try clear hcz48_0
              try clear hcz48_1
              try clear hcz48_2
              try clear hcz50_0
              try clear hcz50_1
              try clear hcz50_2
              try clear hcz50_3
              try clear hcz52_0
              try clear hcz52_1
              try clear hcz52_2
              try clear hcz52_3
              try clear hcz55_0
              try clear hcz55_1
              try clear hcz55_2
              try clear hcz55_3
              try clear hfz13_0
              try clear hfz13_1
              try clear hfz13_2
              try clear hfz13_3
              try clear hfz16_0
              try clear hfz16_1
              try clear hfz16_2
              try clear hfz16_3
              try clear hfz19_0
              try clear hfz19_1
              try clear hfz19_2
              try clear hfz19_3
              try clear hfz23_0
              try clear hfz23_1
              try clear hfz23_2
              try clear hfz23_3
              try clear hfz23_4
              try clear hfz23_5
              try clear hfz23_6
              try clear hfz23_7
              try clear hfz23_8
              try clear hfz29_0
              try clear hfz29_1
              try clear hfz29_2
              try clear hfz29_3
              try clear hfz31_0
              try clear hfz31_1
              try clear hfz31_2
              try clear hfz31_3
              try clear hfz34_0
              try clear hfz34_1
              try clear hfz34_2
              try clear hfz34_3
              try clear hfz35_0
              try clear hfz35_1
              try clear hfz35_2
              try clear hfz35_3
              try clear hfz35_4
              try clear hfz35_5
              try clear hfz35_6
              try clear hfz35_7
              try clear hfz35_8
              try clear hfz39_0
              try clear hfz39_1
              try clear hfz39_2
              try clear hfz39_3
              try clear hfz41_0
              try clear hfz41_1
              try clear hfz41_2
              try clear hfz41_3
              try clear hfz44_0
              try clear hfz44_1
              try clear hfz44_2
              try clear hfz44_3
              try clear hfz48_0
              try clear hfz48_1
              try clear hfz48_2
              try clear hfz50_0
              try clear hfz50_1
              try clear hfz50_2
              try clear hfz50_3
              try clear hfz52_0
              try clear hfz52_1
              try clear hfz52_2
              try clear hfz52_3
              try clear hfz55_0
              try clear hfz55_1
              try clear hfz55_2
              try clear hfz55_3
              try clear p2
              obtain ⟨x11_2, rfl, HA, HK2, HO_229003, BK228, BK229, BK245, HB⟩ := hrel
              cases gk with
              | zero => exact absurd HA.out (by simp [impl_PartnerTake.l0])
              | succ k2 =>
                have H := HA.out
                clear HA
                simp only [impl_PartnerTake.l0] at H
                by_cases c56 : x11_2 < (t246.length : Int)
                · rw [if_pos c56] at H
                  have c56b0 : decide (x11_2 < (t246.length : Int)) = true := decide_eq_true c56
                  clear c56
                  by_cases c57 : 0 ≤ x11_2
                  · rw [if_pos c57] at H
                    have c57b0 : decide (0 ≤ x11_2) = true := decide_eq_true c57
                    clear c57
                    by_cases c58 : ((rd_T62 t246 x11_2).f0) < a1
                    · rw [if_pos c58] at H
                      have c58b0 : decide (((rd_T62 t246 x11_2).f0) < a1) = true := decide_eq_true c58
                      clear c58
                      have H' := Aside0.mk H
                      clear H
                      have hnb59 := NB228_229.out
                      have hnc59 := NB229_228.out
                      have hnb60 := NB228_245.out
                      have hnc60 := NB245_228.out
                      obtain ⟨hcz61_0, hcz61_1, hcz61_2, hcz61_3, hfz61_0, hfz61_1, hfz61_2, hfz61_3⟩ := cellsF4 BK228.out
                      have p249 : 0 ≤ (x11_2 : Int) := of_decide_eq_true as_
                      have q249 : x11_2 < (t246.length : Int) := of_decide_eq_true as_
                      obtain ⟨ad249, e249, hx249_0, hx249_1, hx249_2⟩ := at_T62 (Kd.R_reads' HO_229003.out).2.2 x11_2 p249 q249
                      cases e249
                      replace p249 := eq_true p249
                      replace q249 := eq_true q249
                      go_wp2
                      go_roundg k2
                      case measure => have := HJ3.out; have := HK2.out; omega
                      case rel => exact ⟨(wrap64 (x11_2 + 1)), er_, H', ⟨by have := HJ3.out; have := HK2.out; omega⟩, ⟨rk_ HO_229003⟩, ⟨bk_ BK228⟩, ⟨bk_ BK229⟩, ⟨bk_ BK245⟩, ⟨bl_⟩⟩
                    · rw [if_neg c58] at H
                      have c58b0 : decide (((rd_T62 t246 x11_2).f0) < a1) = false := decide_eq_false c58
                      clear c58
                      obtain ⟨y250, hy250⟩ : ∃ y_ : List (S62), y_ = (([(⟨a1, t235, a2⟩ : S62)] : List (S62))) := ⟨_, rfl⟩
                      replace H : ((impl_Seen_96.f t246 x11_2 y250).bind fun t253 => (some (t233, ji36, wrap64 (t235 + 1), t253, t239, a1, t235, a2, 0))) = some (r1, r2, r3, r4, r5, r6, r7, r8, r9) := by first | (rw [hy250]; with_reducible exact H) | (have H2_ := (Option.bind_some _ _).symm.trans H; rw [hy250]; with_reducible exact H2_) | (have H2_ := (Option.bind_some _ _).symm.trans H; with_reducible exact H2_) | with_reducible exact H | (rw [hy250]; exact H) | exact H
                      have Ny250 := Aside0.mk hy250
                      clear hy250
                      replace H := Option.bind_eq_some_iff.mp H
                      obtain ⟨t253, A620, H⟩ := H
                      replace H : (some (t233, ji36, wrap64 (t235 + 1), t253, t239, a1, t235, a2, 0)) = some (r1, r2, r3, r4, r5, r6, r7, r8, r9) := H
                      have A62 := Aside0.mk A620
                      clear A620
                      simp only [Option.some.injEq, Prod.mk.injEq] at H
                      obtain ⟨rfl, rfl, rfl, rfl, rfl, rfl, rfl, rfl, rfl⟩ := H
                      have hnb63 := NB228_229.out
                      have hnc63 := NB229_228.out
                      have hnb64 := NB228_245.out
                      have hnc64 := NB245_228.out
                      obtain ⟨hcz65_0, hcz65_1, hcz65_2, hcz65_3, hfz65_0, hfz65_1, hfz65_2, hfz65_3⟩ := cellsF4 BK228.out
                      have p249 : 0 ≤ (x11_2 : Int) := of_decide_eq_true as_
                      have q249 : x11_2 < (t246.length : Int) := of_decide_eq_true as_
                      obtain ⟨ad249, e249, hx249_0, hx249_1, hx249_2⟩ := at_T62 (Kd.R_reads' HO_229003.out).2.2 x11_2 p249 q249
                      cases e249
                      replace p249 := eq_true p249
                      replace q249 := eq_true q249
                      have hnb66 := NB245_229.out
                      have hnc66 := NB229_245.out
                      obtain ⟨hcz67_0, hcz67_1, hcz67_2, hfz67_0, hfz67_1, hfz67_2⟩ := cellsF3 BK245.out
                      go_wp2_with (first | ((with_reducible refine gate_dst (N := 83) rfl ?_); refine Kd.R_lit k62 _ 62 ?hg (N := 83) ?hd (xs := ([(⟨a1, t235, a2⟩ : S62)] : List (S62))) (inner := [.int .i64 a1, .int .i64 t235, .int .i64 a2]) (ok := fun _ => True) (okp := fun _ => True) ?hr ?hp (fun _ hk => hk) trivial (Below.refl _ _) (Nat.le_refl _) (by simp) ?_; (case hd => rfl); (case hg => rfl); (case hr => exact hr_); (case hp => exact au10_11); intro v251 w68 ho69 hb hg_ hnew_; clear hg_ hnew_; (first | rw [← Ny250.out] at ho69 | (simp only [Int.reduceToNat] at ho69; rw [← Ny250.out] at ho69)); have n0_ := Aside0.mk (Kd.R_elder' (rk_ HO_229003) (Kd.R_base ho69) hb); have n1_ := Aside0.mk (Kd.R_lower (Kd.R_newB (Kd.R_new' ho69 (Kd.R_lt (rk_ HO_229003))) (g := gb245) (o := .cells #[.int .i64 a1, .int .i64 t235, .int .i64 a2] 62 (0, 0)) (bk_ BK245)) (below_size bl_)); have n2_ := Aside0.mk (blkb_ BK228 hb); have n3_ := Aside0.mk (blkb_ BK229 hb); have n4_ := Aside0.mk (blkb_ BK245 hb); have n5_ := Aside0.mk (below_step bl_ hb); clear HO_229003; clear BK228; clear BK229; clear BK245; clear HB; have HO_229003 := n0_; have HO252 := n1_; have BK228 := n2_; have BK229 := n3_; have BK245 := n4_; have HB := n5_; clear n0_ n1_ n2_ n3_ n4_ n5_; clear hb ho69; obtain ⟨Ao70, co70, eo70⟩ := Kd.R_slice HO252.out; subst eo70) | (go_at_call 96; (with_reducible refine (impl_Seen_96.calls (fun k_ => some k_ = (.slice (some ad249) t246.length co54 : Value).ownBlock) (.slice (some ad249) t246.length co54) t246 x11_2 (fun k_ => some k_ = (.slice Ao70 y250.length co70 : Value).ownBlock) (.slice Ao70 y250.length co70) y250 t253 w _ ?side1 ?side2 ?side3 ?side4 ?side5 A62.out).mono ?_); (case side1 => exact au10_7); (case side2 => exact Kd.R_tight rfl HO_229003.out); (case side3 => exact fun k_ e_ => (HO_229003.out.1 k_ e_.symm).2); (case side4 => exact Kd.R_tight rfl HO252.out); (case side5 => exact fun k_ e_ => (HO252.out.1 k_ e_.symm).1.2); rintro e w71 ⟨v254, rfl, ho0, hb, hkp⟩; (try clear A62); have n0_ := Aside0.mk (blk_kept (bk_ BK228) hkp (fun hs_ => Or.elim hs_ (fun e_ => (fun e_ => (Kd.R_ne HO_229003.out BK228.out (by decide)) e_) e_) (fun e_ => (fun e_ => (Kd.R_ne HO252.out BK228.out (by decide)) e_) e_))); have n1_ := Aside0.mk (blk_kept (bk_ BK229) hkp (fun hs_ => Or.elim hs_ (fun e_ => (fun e_ => (Kd.R_ne HO_229003.out BK229.out (by decide)) e_) e_) (fun e_ => (fun e_ => (Kd.R_ne HO252.out BK229.out (by decide)) e_) e_))); have n2_ := Aside0.mk (blk_kept (bk_ BK245) hkp (fun hs_ => Or.elim hs_ (fun e_ => (fun e_ => (Kd.R_away HO_229003.out (fun _ hk => hk.1)) e_) e_) (fun e_ => (fun e_ => (Kd.R_away HO252.out (fun _ hk => hk.2)) e_) e_))); have n3_ := Aside0.mk (Kd.R_mono (ok' := fun k_ => k_ ≠ gb245) ho0 (fun k_ hk_ => Or.elim hk_ (fun hs_ => Or.elim hs_ (fun hs_ => fun e_ => (Kd.R_away HO_229003.out (fun _ hk => hk.1)) (by rw [← e_]; exact hs_)) (fun hs_ => fun e_ => (Kd.R_away HO252.out (fun _ hk => hk.2)) (by rw [← e_]; exact hs_))) (fun hn_ => (Kd.freshB (g := gb245) (o := .cells #[.int .i64 a1, .int .i64 t235, .int .i64 a2] 62 (0, 0)) (bk_ BK245) k_ hn_)))); have n4_ := Aside0.mk (hb); clear BK228; clear BK229; clear BK245; clear HB; clear HO252; clear HO_229003; have BK228 := n0_; have BK229 := n1_; have BK245 := n2_; have HO255 := n3_; have HB := n4_; clear n0_ n1_ n2_ n3_ n4_; (try clear hb); (try clear hkp); (try clear ho0); obtain ⟨Ao72, co72, eo72⟩ := Kd.R_slice HO255.out; subst eo72; obtain ⟨hcz73_0, hcz73_1, hcz73_2, hcz73_3, hfz73_0, hfz73_1, hfz73_2, hfz73_3⟩ := cellsF4 BK228.out; obtain ⟨hcz74_0, hcz74_1, hcz74_2, hfz74_0, hfz74_1, hfz74_2⟩ := cellsF3 BK245.out; obtain ⟨hcz75_0, hcz75_1, hcz75_2, hcz75_3, hcz75_4, hcz75_5, hcz75_6, hcz75_7, hcz75_8, hfz75_0, hfz75_1, hfz75_2, hfz75_3, hfz75_4, hfz75_5, hfz75_6, hfz75_7, hfz75_8⟩ := cellsF9 BK229.out))
                      refine bodyPost_ret (results_cell_row rfl _ _ gb229 64 #[.string t233, .int .i64 ji36, .int .i64 (wrap64 (t235 + 1)), .slice Ao72 t253.length co72, .int .i64 t239, .int .i64 a1, .int .i64 t235, .int .i64 a2, .int .i64 0] (0, 0) _ rfl (by (with_reducible repeat (first | refine blk_drewN ?_ _ | refine blk_drew ?_ | refine blk_alloc ?_ _)); refine blk_put (cs := #[.string t233, .int .i64 ji36, .int .i64 (wrap64 (t235 + 1)), .slice Ao72 t253.length co72, .int .i64 t239, .int .i64 a1, .int .i64 t235, .int .i64 a2, .int .i64 0]) ?_ 8 _ rfl; (with_reducible repeat (first | refine blk_drewN ?_ _ | refine blk_drew ?_ | refine blk_alloc ?_ _)); refine blk_put (cs := #[.string t233, .int .i64 ji36, .int .i64 (wrap64 (t235 + 1)), .slice Ao72 t253.length co72, .int .i64 t239, .int .i64 a1, .int .i64 t235, .int .i64 0, .int .i64 0]) ?_ 7 _ rfl; (with_reducible repeat (first | refine blk_drewN ?_ _ | refine blk_drew ?_ | refine blk_alloc ?_ _)); refine blk_put (cs := #[.string t233, .int .i64 ji36, .int .i64 (wrap64 (t235 + 1)), .slice Ao72 t253.length co72, .int .i64 t239, .int .i64 a1, .int .i64 0, .int .i64 0, .int .i64 0]) ?_ 6 _ rfl; (with_reducible repeat (first | refine blk_drewN ?_ _ | refine blk_drew ?_ | refine blk_alloc ?_ _)); refine blk_put (cs := #[.string t233, .int .i64 ji36, .int .i64 (wrap64 (t235 + 1)), .slice Ao72 t253.length co72, .int .i64 t239, .int .i64 0, .int .i64 0, .int .i64 0, .int .i64 0]) ?_ 5 _ rfl; (with_reducible repeat (first | refine blk_drewN ?_ _ | refine blk_drew ?_ | refine blk_alloc ?_ _)); refine blk_put (cs := #[.string t233, .int .i64 ji36, .int .i64 (wrap64 (t235 + 1)), .slice Ao72 t253.length co72, .int .i64 0, .int .i64 0, .int .i64 0, .int .i64 0, .int .i64 0]) ?_ 4 _ rfl; (with_reducible repeat (first | refine blk_drewN ?_ _ | refine blk_drew ?_ | refine blk_alloc ?_ _)); refine blk_put (cs := #[.string t233, .int .i64 ji36, .int .i64 (wrap64 (t235 + 1)), .slice none 0 0, .int .i64 0, .int .i64 0, .int .i64 0, .int .i64 0, .int .i64 0]) ?_ 3 _ rfl; (with_reducible repeat (first | refine blk_drewN ?_ _ | refine blk_drew ?_ | refine blk_alloc ?_ _)); refine blk_put (cs := #[.string t233, .int .i64 ji36, .int .i64 0, .slice none 0 0, .int .i64 0, .int .i64 0, .int .i64 0, .int .i64 0, .int .i64 0]) ?_ 2 _ rfl; (with_reducible repeat (first | refine blk_drewN ?_ _ | refine blk_drew ?_ | refine blk_alloc ?_ _)); refine blk_put (cs := #[.string t233, .int .i64 0, .int .i64 0, .slice none 0 0, .int .i64 0, .int .i64 0, .int .i64 0, .int .i64 0, .int .i64 0]) ?_ 1 _ rfl; (with_reducible repeat (first | refine blk_drewN ?_ _ | refine blk_drew ?_ | refine blk_alloc ?_ _)); refine blk_put (cs := #[.string (⟨#[]⟩ : ByteArray), .int .i64 0, .int .i64 0, .slice none 0 0, .int .i64 0, .int .i64 0, .int .i64 0, .int .i64 0, .int .i64 0]) ?_ 0 _ rfl; (with_reducible repeat (first | refine blk_drewN ?_ _ | refine blk_drew ?_ | refine blk_alloc ?_ _)); refine blk_far ?_ NB229_228.out _; (with_reducible repeat (first | refine blk_drewN ?_ _ | refine blk_drew ?_ | refine blk_alloc ?_ _)); refine blk_far ?_ NB229_228.out _; (with_reducible repeat (first | refine blk_drewN ?_ _ | refine blk_drew ?_ | refine blk_alloc ?_ _)); exact BK229.out) Try.underlying64 rfl (by kernel_rfl)) rfl ?_
                      exact ⟨_, au10_10, by (with_reducible repeat (first | apply Kd.R_alloc | apply Kd.R_drewN | apply Kd.R_drew)); exact Kd.R_mono (Kd.R_far (p := ⟨gb229, 8, none⟩) (Kd.R_far (p := ⟨gb229, 7, none⟩) (Kd.R_far (p := ⟨gb229, 6, none⟩) (Kd.R_far (p := ⟨gb229, 5, none⟩) (Kd.R_far (p := ⟨gb229, 4, none⟩) (Kd.R_far (p := ⟨gb229, 3, none⟩) (Kd.R_far (p := ⟨gb229, 2, none⟩) (Kd.R_far (p := ⟨gb229, 1, none⟩) (Kd.R_far (p := ⟨gb229, 0, none⟩) (Kd.R_far (p := ⟨gb228, 2, none⟩) (Kd.R_far (p := ⟨gb228, 3, none⟩) (Kd.R_types (Kd.R_types HO255.out BK228.out (by decide)) BK229.out (by decide)) (fun _ hk => hk.1.2) (.slice Ao72 t253.length co72)) (fun _ hk => hk.1.2) (.int .i64 (wrap64 (t235 + 1)))) (fun _ hk => hk.2) (.string t233)) (fun _ hk => hk.2) (.int .i64 ji36)) (fun _ hk => hk.2) (.int .i64 (wrap64 (t235 + 1)))) (fun _ hk => hk.2) (.slice Ao72 t253.length co72)) (fun _ hk => hk.2) (.int .i64 t239)) (fun _ hk => hk.2) (.int .i64 a1)) (fun _ hk => hk.2) (.int .i64 t235)) (fun _ hk => hk.2) (.int .i64 a2)) (fun _ hk => hk.2) (.int .i64 0)) (fun _ hk => trivial), bl_⟩
                  · rw [if_neg c57] at H
                    exact absurd H (by simp)
                · rw [if_neg c56] at H
                  have c56b0 : decide (x11_2 < (t246.length : Int)) = false := decide_eq_false c56
                  clear c56
                  obtain ⟨y256, hy256⟩ : ∃ y_ : List (S62), y_ = (([(⟨a1, t235, a2⟩ : S62)] : List (S62))) := ⟨_, rfl⟩
                  replace H : ((impl_Seen_96.f t246 x11_2 y256).bind fun t259 => (some (t233, ji36, wrap64 (t235 + 1), t259, t239, a1, t235, a2, 0))) = some (r1, r2, r3, r4, r5, r6, r7, r8, r9) := by first | (rw [hy256]; with_reducible exact H) | (have H2_ := (Option.bind_some _ _).symm.trans H; rw [hy256]; with_reducible exact H2_) | (have H2_ := (Option.bind_some _ _).symm.trans H; with_reducible exact H2_) | with_reducible exact H | (rw [hy256]; exact H) | exact H
                  have Ny256 := Aside0.mk hy256
                  clear hy256
                  replace H := Option.bind_eq_some_iff.mp H
                  obtain ⟨t259, A760, H⟩ := H
                  replace H : (some (t233, ji36, wrap64 (t235 + 1), t259, t239, a1, t235, a2, 0)) = some (r1, r2, r3, r4, r5, r6, r7, r8, r9) := H
                  have A76 := Aside0.mk A760
                  clear A760
                  simp only [Option.some.injEq, Prod.mk.injEq] at H
                  obtain ⟨rfl, rfl, rfl, rfl, rfl, rfl, rfl, rfl, rfl⟩ := H
                  have hnb77 := NB228_229.out
                  have hnc77 := NB229_228.out
                  have hnb78 := NB228_245.out
                  have hnc78 := NB245_228.out
                  obtain ⟨hcz79_0, hcz79_1, hcz79_2, hcz79_3, hfz79_0, hfz79_1, hfz79_2, hfz79_3⟩ := cellsF4 BK228.out
                  have hnb80 := NB245_229.out
                  have hnc80 := NB229_245.out
                  obtain ⟨hcz81_0, hcz81_1, hcz81_2, hfz81_0, hfz81_1, hfz81_2⟩ := cellsF3 BK245.out
                  go_wp2_with (first | ((with_reducible refine gate_dst (N := 83) rfl ?_); refine Kd.R_lit k62 _ 62 ?hg (N := 83) ?hd (xs := ([(⟨a1, t235, a2⟩ : S62)] : List (S62))) (inner := [.int .i64 a1, .int .i64 t235, .int .i64 a2]) (ok := fun _ => True) (okp := fun _ => True) ?hr ?hp (fun _ hk => hk) trivial (Below.refl _ _) (Nat.le_refl _) (by simp) ?_; (case hd => rfl); (case hg => rfl); (case hr => exact hr_); (case hp => exact au10_11); intro v257 w82 ho83 hb hg_ hnew_; clear hg_ hnew_; (first | rw [← Ny256.out] at ho83 | (simp only [Int.reduceToNat] at ho83; rw [← Ny256.out] at ho83)); have n0_ := Aside0.mk (Kd.R_elder' (rk_ HO_229003) (Kd.R_base ho83) hb); have n1_ := Aside0.mk (Kd.R_lower (Kd.R_newB (Kd.R_new' ho83 (Kd.R_lt (rk_ HO_229003))) (g := gb245) (o := .cells #[.int .i64 a1, .int .i64 t235, .int .i64 a2] 62 (0, 0)) (bk_ BK245)) (below_size bl_)); have n2_ := Aside0.mk (blkb_ BK228 hb); have n3_ := Aside0.mk (blkb_ BK229 hb); have n4_ := Aside0.mk (blkb_ BK245 hb); have n5_ := Aside0.mk (below_step bl_ hb); clear HO_229003; clear BK228; clear BK229; clear BK245; clear HB; have HO_229003 := n0_; have HO258 := n1_; have BK228 := n2_; have BK229 := n3_; have BK245 := n4_; have HB := n5_; clear n0_ n1_ n2_ n3_ n4_ n5_; clear hb ho83; obtain ⟨Ao84, co84, eo84⟩ := Kd.R_slice HO258.out; subst eo84) | (go_at_call 96; (with_reducible refine (impl_Seen_96.calls (fun k_ => some k_ = (.slice Ao54 t246.length co54 : Value).ownBlock) (.slice Ao54 t246.length co54) t246 x11_2 (fun k_ => some k_ = (.slice Ao84 y256.length co84 : Value).ownBlock) (.slice Ao84 y256.length co84) y256 t259 w _ ?side1 ?side2 ?side3 ?side4 ?side5 A76.out).mono ?_); (case side1 => exact au10_7); (case side2 => exact Kd.R_tight rfl HO_229003.out); (case side3 => exact fun k_ e_ => (HO_229003.out.1 k_ e_.symm).2); (case side4 => exact Kd.R_tight rfl HO258.out); (case side5 => exact fun k_ e_ => (HO258.out.1 k_ e_.symm).1.2); rintro e w85 ⟨v260, rfl, ho0, hb, hkp⟩; (try clear A76); have n0_ := Aside0.mk (blk_kept (bk_ BK228) hkp (fun hs_ => Or.elim hs_ (fun e_ => (fun e_ => (Kd.R_ne HO_229003.out BK228.out (by decide)) e_) e_) (fun e_ => (fun e_ => (Kd.R_ne HO258.out BK228.out (by decide)) e_) e_))); have n1_ := Aside0.mk (blk_kept (bk_ BK229) hkp (fun hs_ => Or.elim hs_ (fun e_ => (fun e_ => (Kd.R_ne HO_229003.out BK229.out (by decide)) e_) e_) (fun e_ => (fun e_ => (Kd.R_ne HO258.out BK229.out (by decide)) e_) e_))); have n2_ := Aside0.mk (blk_kept (bk_ BK245) hkp (fun hs_ => Or.elim hs_ (fun e_ => (fun e_ => (Kd.R_away HO_229003.out (fun _ hk => hk.1)) e_) e_) (fun e_ => (fun e_ => (Kd.R_away HO258.out (fun _ hk => hk.2)) e_) e_))); have n3_ := Aside0.mk (Kd.R_mono (ok' := fun k_ => k_ ≠ gb245) ho0 (fun k_ hk_ => Or.elim hk_ (fun hs_ => Or.elim hs_ (fun hs_ => fun e_ => (Kd.R_away HO_229003.out (fun _ hk => hk.1)) (by rw [← e_]; exact hs_)) (fun hs_ => fun e_ => (Kd.R_away HO258.out (fun _ hk => hk.2)) (by rw [← e_]; exact hs_))) (fun hn_ => (Kd.freshB (g := gb245) (o := .cells #[.int .i64 a1, .int .i64 t235, .int .i64 a2] 62 (0, 0)) (bk_ BK245) k_ hn_)))); have n4_ := Aside0.mk (hb); clear BK228; clear BK229; clear BK245; clear HB; clear HO258; clear HO_229003; have BK228 := n0_; have BK229 := n1_; have BK245 := n2_; have HO261 := n3_; have HB := n4_; clear n0_ n1_ n2_ n3_ n4_; (try clear hb); (try clear hkp); (try clear ho0); obtain ⟨Ao86, co86, eo86⟩ := Kd.R_slice HO261.out; subst eo86; obtain ⟨hcz87_0, hcz87_1, hcz87_2, hcz87_3, hfz87_0, hfz87_1, hfz87_2, hfz87_3⟩ := cellsF4 BK228.out; obtain ⟨hcz88_0, hcz88_1, hcz88_2, hfz88_0, hfz88_1, hfz88_2⟩ := cellsF3 BK245.out; obtain ⟨hcz89_0, hcz89_1, hcz89_2, hcz89_3, hcz89_4, hcz89_5, hcz89_6, hcz89_7, hcz89_8, hfz89_0, hfz89_1, hfz89_2, hfz89_3, hfz89_4, hfz89_5, hfz89_6, hfz89_7, hfz89_8⟩ := cellsF9 BK229.out))
                  refine bodyPost_ret (results_cell_row rfl _ _ gb229 64 #[.string t233, .int .i64 ji36, .int .i64 (wrap64 (t235 + 1)), .slice Ao86 t259.length co86, .int .i64 t239, .int .i64 a1, .int .i64 t235, .int .i64 a2, .int .i64 0] (0, 0) _ rfl (by (with_reducible repeat (first | refine blk_drewN ?_ _ | refine blk_drew ?_ | refine blk_alloc ?_ _)); refine blk_put (cs := #[.string t233, .int .i64 ji36, .int .i64 (wrap64 (t235 + 1)), .slice Ao86 t259.length co86, .int .i64 t239, .int .i64 a1, .int .i64 t235, .int .i64 a2, .int .i64 0]) ?_ 8 _ rfl; (with_reducible repeat (first | refine blk_drewN ?_ _ | refine blk_drew ?_ | refine blk_alloc ?_ _)); refine blk_put (cs := #[.string t233, .int .i64 ji36, .int .i64 (wrap64 (t235 + 1)), .slice Ao86 t259.length co86, .int .i64 t239, .int .i64 a1, .int .i64 t235, .int .i64 0, .int .i64 0]) ?_ 7 _ rfl; (with_reducible repeat (first | refine blk_drewN ?_ _ | refine blk_drew ?_ | refine blk_alloc ?_ _)); refine blk_put (cs := #[.string t233, .int .i64 ji36, .int .i64 (wrap64 (t235 + 1)), .slice Ao86 t259.length co86, .int .i64 t239, .int .i64 a1, .int .i64 0, .int .i64 0, .int .i64 0]) ?_ 6 _ rfl; (with_reducible repeat (first | refine blk_drewN ?_ _ | refine blk_drew ?_ | refine blk_alloc ?_ _)); refine blk_put (cs := #[.string t233, .int .i64 ji36, .int .i64 (wrap64 (t235 + 1)), .slice Ao86 t259.length co86, .int .i64 t239, .int .i64 0, .int .i64 0, .int .i64 0, .int .i64 0]) ?_ 5 _ rfl; (with_reducible repeat (first | refine blk_drewN ?_ _ | refine blk_drew ?_ | refine blk_alloc ?_ _)); refine blk_put (cs := #[.string t233, .int .i64 ji36, .int .i64 (wrap64 (t235 + 1)), .slice Ao86 t259.length co86, .int .i64 0, .int .i64 0, .int .i64 0, .int .i64 0, .int .i64 0]) ?_ 4 _ rfl; (with_reducible repeat (first | refine blk_drewN ?_ _ | refine blk_drew ?_ | refine blk_alloc ?_ _)); refine blk_put (cs := #[.string t233, .int .i64 ji36, .int .i64 (wrap64 (t235 + 1)), .slice none 0 0, .int .i64 0, .int .i64 0, .int .i64 0, .int .i64 0, .int .i64 0]) ?_ 3 _ rfl; (with_reducible repeat (first | refine blk_drewN ?_ _ | refine blk_drew ?_ | refine blk_alloc ?_ _)); refine blk_put (cs := #[.string t233, .int .i64 ji36, .int .i64 0, .slice none 0 0, .int .i64 0, .int .i64 0, .int .i64 0, .int .i64 0, .int .i64 0]) ?_ 2 _ rfl; (with_reducible repeat (first | refine blk_drewN ?_ _ | refine blk_drew ?_ | refine blk_alloc ?_ _)); refine blk_put (cs := #[.string t233, .int .i64 0, .int .i64 0, .slice none 0 0, .int .i64 0, .int .i64 0, .int .i64 0, .int .i64 0, .int .i64 0]) ?_ 1 _ rfl; (with_reducible repeat (first | refine blk_drewN ?_ _ | refine blk_drew ?_ | refine blk_alloc ?_ _)); refine blk_put (cs := #[.string (⟨#[]⟩ : ByteArray), .int .i64 0, .int .i64 0, .slice none 0 0, .int .i64 0, .int .i64 0, .int .i64 0, .int .i64 0, .int .i64 0]) ?_ 0 _ rfl; (with_reducible repeat (first | refine blk_drewN ?_ _ | refine blk_drew ?_ | refine blk_alloc ?_ _)); refine blk_far ?_ NB229_228.out _; (with_reducible repeat (first | refine blk_drewN ?_ _ | refine blk_drew ?_ | refine blk_alloc ?_ _)); refine blk_far ?_ NB229_228.out _; (with_reducible repeat (first | refine blk_drewN ?_ _ | refine blk_drew ?_ | refine blk_alloc ?_ _)); exact BK229.out) Try.underlying64 rfl (by kernel_rfl)) rfl ?_
                  exact ⟨_, au10_10, by (with_reducible repeat (first | apply Kd.R_alloc | apply Kd.R_drewN | apply Kd.R_drew)); exact Kd.R_mono (Kd.R_far (p := ⟨gb229, 8, none⟩) (Kd.R_far (p := ⟨gb229, 7, none⟩) (Kd.R_far (p := ⟨gb229, 6, none⟩) (Kd.R_far (p := ⟨gb229, 5, none⟩) (Kd.R_far (p := ⟨gb229, 4, none⟩) (Kd.R_far (p := ⟨gb229, 3, none⟩) (Kd.R_far (p := ⟨gb229, 2, none⟩) (Kd.R_far (p := ⟨gb229, 1, none⟩) (Kd.R_far (p := ⟨gb229, 0, none⟩) (Kd.R_far (p := ⟨gb228, 2, none⟩) (Kd.R_far (p := ⟨gb228, 3, none⟩) (Kd.R_types (Kd.R_types HO261.out BK228.out (by decide)) BK229.out (by decide)) (fun _ hk => hk.1.2) (.slice Ao86 t259.length co86)) (fun _ hk => hk.1.2) (.int .i64 (wrap64 (t235 + 1)))) (fun _ hk => hk.2) (.string t233)) (fun _ hk => hk.2) (.int .i64 ji36)) (fun _ hk => hk.2) (.int .i64 (wrap64 (t235 + 1)))) (fun _ hk => hk.2) (.slice Ao86 t259.length co86)) (fun _ hk => hk.2) (.int .i64 t239)) (fun _ hk => hk.2) (.int .i64 a1)) (fun _ hk => hk.2) (.int .i64 t235)) (fun _ hk => hk.2) (.int .i64 a2)) (fun _ hk => hk.2) (.int .i64 0)) (fun _ hk => trivial), bl_⟩
        · rw [if_neg c26] at H
          have c26b0 : (t239 == 1) = false := beq_eq_false_iff_ne.mpr c26
          have c26b1 : (t239 != 1) = true := bne_iff_ne.mpr c26
          replace H := Option.bind_eq_some_iff.mp H
          obtain ⟨⟨t240, t241, t242, t243⟩, A900, H⟩ := H
          replace H : (some (t233, t234, t235, t236, t239, t240, t241, t242, 0)) = some (r1, r2, r3, r4, r5, r6, r7, r8, r9) := H
          have A90 := Aside0.mk A900
          clear A900
          simp only [Option.some.injEq, Prod.mk.injEq] at H
          obtain ⟨rfl, rfl, rfl, rfl, rfl, rfl, rfl, rfl, rfl⟩ := H
          have hnb91 := NB228_229.out
          have hnc91 := NB229_228.out
          obtain ⟨hcz92_0, hcz92_1, hcz92_2, hcz92_3, hfz92_0, hfz92_1, hfz92_2, hfz92_3⟩ := cellsF4 BK228.out
          go_wp2_with (first | (go_at_call 92; (with_reducible refine (impl_ownPartner.calls a0_0 a0_1 a0_2 _ _ l0_3 t233 t234 t235 t236 _ ?side1 ?side2 A24.out).mono ?_); (case side1 => exact au10_3); (case side2 => exact HC0_3.out); rintro e w93 ⟨v237, rfl, ho0, hb⟩; (try clear A24); have n0_ := Aside0.mk (Kd.R_lower ho0 (below_size bl_)); have n1_ := Aside0.mk (blkb_ BK228 hb); have n2_ := Aside0.mk (blkb_ BK229 hb); have n3_ := Aside0.mk (below_step bl_ hb); clear BK228; clear BK229; clear HB; have HO238 := n0_; have BK228 := n1_; have BK229 := n2_; have HB := n3_; clear n0_ n1_ n2_ n3_; (try clear hb); (try clear hb2); (try clear hk); (try clear hi); (try clear ho0); obtain ⟨hcz94_0, hcz94_1, hcz94_2, hcz94_3, hfz94_0, hfz94_1, hfz94_2, hfz94_3⟩ := cellsF4 BK228.out; obtain ⟨Ao95, co95, eo95⟩ := Kd.R_slice HO238.out; subst eo95) | (go_at_call 82; (with_reducible refine (impl_Partner_ask.calls kj3 gb228 t233 t234 t235 Ao95 co95 t236 a1 t239 _ ?side1 ?side2 ?side3 A25.out).mono ?_); (case side1 => exact au10_0); (case side2 => refine (Kd.R_reads' (e := 62) (base := w.heap.size) (ok := fun k_ => True) (n := t236.length) (c := co95) ?_).2.2; exact au10_6); (case side3 => exact au10_12); rintro e w96 ⟨rfl, hb⟩; (try clear A25); have n0_ := Aside0.mk (Kd.R_below au10_6 hb); have n1_ := Aside0.mk (blk_below (g := gb228) (o := .cells #[.string t233, .int .i64 t234, .int .i64 t235, .slice Ao95 t236.length co95] 51 (0, 0)) au10_0 hb); have n2_ := Aside0.mk (blk_below (g := gb229) (o := .cells #[.string (⟨#[]⟩ : ByteArray), .int .i64 0, .int .i64 0, .slice none 0 0, .int .i64 0, .int .i64 0, .int .i64 0, .int .i64 0, .int .i64 0] 64 (0, 0)) au10_2 hb); have n3_ := Aside0.mk (below_step bl_ hb); clear HO238; clear BK228; clear BK229; clear HB; have HO238 := n0_; have BK228 := n1_; have BK229 := n2_; have HB := n3_; clear n0_ n1_ n2_ n3_; (try clear hb); (try clear hb2); (try clear hk); (try clear hi)) | (go_at_call 93; (with_reducible refine (impl_Partner_seen.calls kj3 gb228 t233 t234 t235 Ao95 co95 t236 a1 t240 t241 t242 t243 _ ?side1 ?side2 ?side3 A90.out).mono ?_); (case side1 => exact (bk_ BK228)); (case side2 => repeat (first | exact (Kd.R_reads' HO238.out).2.2 | (with_reducible refine Kd.C_alloc ?_ _) | (with_reducible refine Kd.C_drewN ?_ _) | (with_reducible refine Kd.C_drew ?_))); (case side3 => exact au10_12); rintro e w97 ⟨rfl, hb⟩; (try clear A90); have n0_ := Aside0.mk (Kd.R_below (rk_ HO238) hb); have n1_ := Aside0.mk (blkb_ BK228 hb); have n2_ := Aside0.mk (blkb_ BK229 hb); have n3_ := Aside0.mk (below_step bl_ hb); clear HO238; clear BK228; clear BK229; clear HB; have HO238 := n0_; have BK228 := n1_; have BK229 := n2_; have HB := n3_; clear n0_ n1_ n2_ n3_; (try clear hb); (try clear hb2); (try clear hk); (try clear hi)) | ((with_reducible refine gate_dst (N := 8) rfl ?_); refine box_event ?hg (N := 8) ?hd (cs := #[.int .i64 0, .int .i64 0, .int .i64 0]) (t := 62) ?hr ?_; (case hd => rfl); (case hg => rfl); (case hr => exact hr_); intro gb244 hg w98 hbox hb; have n0_ := Aside0.mk (Kd.R_below (Kd.R_elderB (rk_ HO238) gb244 (Nat.le_of_eq hg.symm)) hb); have n1_ := Aside0.mk (blkb_ BK228 hb); have n2_ := Aside0.mk (blkb_ BK229 hb); have n3_ := Aside0.mk (below_step bl_ hb); have n4_ := Aside0.mk (hbox); have n5_ := Aside0.mk (gw_ hg bl_); have n6_ := Aside0.mk (gw_ hg bl_); have n7_ := Aside0.mk (gn_ hg (blkl_ BK228)); have n8_ := Aside0.mk (gm_ hg (blkl_ BK228)); have n9_ := Aside0.mk (gn_ hg (blkl_ BK229)); have n10_ := Aside0.mk (gm_ hg (blkl_ BK229)); clear HO238; clear BK228; clear BK229; clear HB; have HO238 := n0_; have BK228 := n1_; have BK229 := n2_; have HB := n3_; have BK244 := n4_; have GW244 := n5_; have GE244 := n6_; have NB228_244 := n7_; have NB244_228 := n8_; have NB229_244 := n9_; have NB244_229 := n10_; clear n0_ n1_ n2_ n3_ n4_ n5_ n6_ n7_ n8_ n9_ n10_; clear hb hbox hg; have hnb99 := NB244_228.out; have hnc99 := NB228_244.out; have hnb100 := NB244_229.out; have hnc100 := NB229_244.out; obtain ⟨hcz101_0, hcz101_1, hcz101_2, hfz101_0, hfz101_1, hfz101_2⟩ := cellsF3 BK244.out; obtain ⟨hcz102_0, hcz102_1, hcz102_2, hcz102_3, hfz102_0, hfz102_1, hfz102_2, hfz102_3⟩ := cellsF4 BK228.out; obtain ⟨hcz103_0, hcz103_1, hcz103_2, hcz103_3, hcz103_4, hcz103_5, hcz103_6, hcz103_7, hcz103_8, hfz103_0, hfz103_1, hfz103_2, hfz103_3, hfz103_4, hfz103_5, hfz103_6, hfz103_7, hfz103_8⟩ := cellsF9 BK229.out))
          refine bodyPost_ret (results_cell_row rfl _ _ gb229 64 #[.string t233, .int .i64 t234, .int .i64 t235, .slice Ao95 t236.length co95, .int .i64 t239, .int .i64 t240, .int .i64 t241, .int .i64 t242, .int .i64 0] (0, 0) _ rfl (by (with_reducible repeat (first | refine blk_drewN ?_ _ | refine blk_drew ?_ | refine blk_alloc ?_ _)); refine blk_put (cs := #[.string t233, .int .i64 t234, .int .i64 t235, .slice Ao95 t236.length co95, .int .i64 t239, .int .i64 t240, .int .i64 t241, .int .i64 t242, .int .i64 0]) ?_ 8 _ rfl; (with_reducible repeat (first | refine blk_drewN ?_ _ | refine blk_drew ?_ | refine blk_alloc ?_ _)); refine blk_put (cs := #[.string t233, .int .i64 t234, .int .i64 t235, .slice Ao95 t236.length co95, .int .i64 t239, .int .i64 t240, .int .i64 t241, .int .i64 0, .int .i64 0]) ?_ 7 _ rfl; (with_reducible repeat (first | refine blk_drewN ?_ _ | refine blk_drew ?_ | refine blk_alloc ?_ _)); refine blk_put (cs := #[.string t233, .int .i64 t234, .int .i64 t235, .slice Ao95 t236.length co95, .int .i64 t239, .int .i64 t240, .int .i64 0, .int .i64 0, .int .i64 0]) ?_ 6 _ rfl; (with_reducible repeat (first | refine blk_drewN ?_ _ | refine blk_drew ?_ | refine blk_alloc ?_ _)); refine blk_put (cs := #[.string t233, .int .i64 t234, .int .i64 t235, .slice Ao95 t236.length co95, .int .i64 t239, .int .i64 0, .int .i64 0, .int .i64 0, .int .i64 0]) ?_ 5 _ rfl; (with_reducible repeat (first | refine blk_drewN ?_ _ | refine blk_drew ?_ | refine blk_alloc ?_ _)); refine blk_put (cs := #[.string t233, .int .i64 t234, .int .i64 t235, .slice Ao95 t236.length co95, .int .i64 0, .int .i64 0, .int .i64 0, .int .i64 0, .int .i64 0]) ?_ 4 _ rfl; (with_reducible repeat (first | refine blk_drewN ?_ _ | refine blk_drew ?_ | refine blk_alloc ?_ _)); refine blk_put (cs := #[.string t233, .int .i64 t234, .int .i64 t235, .slice none 0 0, .int .i64 0, .int .i64 0, .int .i64 0, .int .i64 0, .int .i64 0]) ?_ 3 _ rfl; (with_reducible repeat (first | refine blk_drewN ?_ _ | refine blk_drew ?_ | refine blk_alloc ?_ _)); refine blk_put (cs := #[.string t233, .int .i64 t234, .int .i64 0, .slice none 0 0, .int .i64 0, .int .i64 0, .int .i64 0, .int .i64 0, .int .i64 0]) ?_ 2 _ rfl; (with_reducible repeat (first | refine blk_drewN ?_ _ | refine blk_drew ?_ | refine blk_alloc ?_ _)); refine blk_put (cs := #[.string t233, .int .i64 0, .int .i64 0, .slice none 0 0, .int .i64 0, .int .i64 0, .int .i64 0, .int .i64 0, .int .i64 0]) ?_ 1 _ rfl; (with_reducible repeat (first | refine blk_drewN ?_ _ | refine blk_drew ?_ | refine blk_alloc ?_ _)); refine blk_put (cs := #[.string (⟨#[]⟩ : ByteArray), .int .i64 0, .int .i64 0, .slice none 0 0, .int .i64 0, .int .i64 0, .int .i64 0, .int .i64 0, .int .i64 0]) ?_ 0 _ rfl; (with_reducible repeat (first | refine blk_drewN ?_ _ | refine blk_drew ?_ | refine blk_alloc ?_ _)); refine blk_far ?_ NB229_244.out _; (with_reducible repeat (first | refine blk_drewN ?_ _ | refine blk_drew ?_ | refine blk_alloc ?_ _)); refine blk_far ?_ NB229_244.out _; (with_reducible repeat (first | refine blk_drewN ?_ _ | refine blk_drew ?_ | refine blk_alloc ?_ _)); refine blk_far ?_ NB229_244.out _; (with_reducible repeat (first | refine blk_drewN ?_ _ | refine blk_drew ?_ | refine blk_alloc ?_ _)); exact BK229.out) Try.underlying64 rfl (by kernel_rfl)) rfl ?_
          exact ⟨_, au10_9, by (with_reducible repeat (first | apply Kd.R_alloc | apply Kd.R_drewN | apply Kd.R_drew)); exact Kd.R_mono (Kd.R_far (p := ⟨gb229, 8, none⟩) (Kd.R_far (p := ⟨gb229, 7, none⟩) (Kd.R_far (p := ⟨gb229, 6, none⟩) (Kd.R_far (p := ⟨gb229, 5, none⟩) (Kd.R_far (p := ⟨gb229, 4, none⟩) (Kd.R_far (p := ⟨gb229, 3, none⟩) (Kd.R_far (p := ⟨gb229, 2, none⟩) (Kd.R_far (p := ⟨gb229, 1, none⟩) (Kd.R_far (p := ⟨gb229, 0, none⟩) (Kd.R_far (p := ⟨gb244, 2, none⟩) (Kd.R_far (p := ⟨gb244, 1, none⟩) (Kd.R_far (p := ⟨gb244, 0, none⟩) (Kd.R_types (Kd.R_mono HO238.out (fun k_ hk => (⟨hk, hk.2⟩ : _ ∧ k_ ≠ gb244))) BK229.out (by decide)) (fun _ hk => hk.1.2) (.int .i64 t240)) (fun _ hk => hk.1.2) (.int .i64 t241)) (fun _ hk => hk.1.2) (.int .i64 t242)) (fun _ hk => hk.2) (.string t233)) (fun _ hk => hk.2) (.int .i64 t234)) (fun _ hk => hk.2) (.int .i64 t235)) (fun _ hk => hk.2) (.slice Ao95 t236.length co95)) (fun _ hk => hk.2) (.int .i64 t239)) (fun _ hk => hk.2) (.int .i64 t240)) (fun _ hk => hk.2) (.int .i64 t241)) (fun _ hk => hk.2) (.int .i64 t242)) (fun _ hk => hk.2) (.int .i64 0)) (fun _ hk => trivial), bl_⟩

/-! ### impl_longList_int64: function 85 -/
def impl_longList_int64.f (l0 : List Int) : Option (Bool) := some (decide ((l0.length : Int) > 400))
set_option maxHeartbeats 8000000 in
set_option maxRecDepth 100000 in
theorem impl_longList_int64.calls (A0 : Option Addr) (c0 : Nat) (l0 : List Int) (r : Bool) (w : World) (hr0 : Kd.C (Kd.int .i64) w A0 l0.length l0) (hc0 : l0.length ≤ c0) (h : impl_longList_int64.f l0 = some r) :
    Calls Try.prog 85 #[.slice A0 l0.length c0] w fun e w' => e = .returned (.bool r) ∧ Drawn0 w w' := by
  have HR0 := Aside0.mk hr0
  have HC0 := Aside0.mk hc0
  clear hr0 hc0
  have H : (some (decide ((l0.length : Int) > 400))) = some r := h
  clear h
  obtain rfl := Option.some.inj H
  go_enter Try.func85, Try.ntmps85
  go_wp2
  go_ret
  exact ⟨er_, dn_⟩

/-! ### impl_PartnerRun_1: function 87 -/
def impl_PartnerRun_1.f (a0 : Int) : Option (Bool) := (impl_isControl.f a0).bind fun t262 => (some (!t262))
set_option maxHeartbeats 8000000 in
set_option maxRecDepth 100000 in
theorem impl_PartnerRun_1.calls (a0 : Int) (r : Bool) (w : World) (h : impl_PartnerRun_1.f a0 = some r) :
    Calls Try.prog 87 #[.int .i64 a0] w fun e w' => e = .returned (.bool r) ∧ Drawn0 w w' := by
  have H : ((impl_isControl.f a0).bind fun t262 => (some (!t262))) = some r := h
  clear h
  replace H := Option.bind_eq_some_iff.mp H
  obtain ⟨t262, A20, H⟩ := H
  replace H : (some (!t262)) = some r := H
  have A2 := Aside0.mk A20
  clear A20
  obtain rfl := Option.some.inj H
  go_enter Try.func87, Try.ntmps87
  go_wp2_with (first | ((with_reducible refine gate_callee (f := 81) rfl ?_); refine gl_ 4 Try.func81 #[.int .i64 a0] ?_ rfl rfl rfl rfl; (with_reducible refine (impl_isControl.calls a0 t262 _ A2.out).mono ?_); rintro e w' ⟨rfl, ⟨nd, rfl⟩⟩; refine ⟨_, rfl, ?_⟩))
  go_ret
  exact ⟨er_, dn_⟩

/-! ### impl_PartnerNew: function 88 -/
def impl_PartnerNew.f (k : Nat) (a0 : ByteArray) : Option (ByteArray × Int × Int × (List (S62))) := (impl_isName.f k a0).bind fun t264 => (if t264 = true then (some (a0, 1, 1, ([] : List (S62)))) else (some ((⟨#[]⟩ : ByteArray), 0, 0, ([] : List (S62)))))
theorem impl_PartnerNew.mono : ∀ a0 k, LeO (impl_PartnerNew.f k a0) (impl_PartnerNew.f (k + 1) a0) := by
  intro a0 k
  unfold impl_PartnerNew.f
  repeat' first
      | (with_reducible exact impl_isName.mono _ _)
      | (with_reducible exact LeO.refl _)
      | (with_reducible exact LeO.none _)
      | (with_reducible refine LeO.ite ?_ ?_)
      | (with_reducible refine LeO.bind ?_ (fun _ => ?_))
      | exact impl_isName.mono _ _
      | exact LeO.none _
      | refine LeO.ite ?_ ?_
      | refine LeO.bind ?_ (fun _ => ?_)
set_option maxHeartbeats 8000000 in
set_option maxRecDepth 100000 in
theorem impl_PartnerNew.calls (k : Nat) (a0 : ByteArray) (r1 : ByteArray) (r2 : Int) (r3 : Int) (r4 : List (S62)) (w : World) (h : impl_PartnerNew.f k a0 = some (r1, r2, r3, r4)) :
    Calls Try.prog 88 #[.string a0] w fun e w' => ∃ v3_ : Value, e = .returned (.agg #[.string r1, .int .i64 r2, .int .i64 r3, v3_]) ∧ Kd.R k62 62 w' w.heap.size (fun _ => True) v3_ r4 ∧ Below w.heap.size w w' := by
  have hu51 := Try.underlying51
  have HB := Aside0.mk (Below.refl w.heap.size w)
  have H : ((impl_isName.f k a0).bind fun t264 => (if t264 = true then (some (a0, 1, 1, ([] : List (S62)))) else (some ((⟨#[]⟩ : ByteArray), 0, 0, ([] : List (S62)))))) = some (r1, r2, r3, r4) := h
  clear h
  replace H := Option.bind_eq_some_iff.mp H
  obtain ⟨t264, A20, H⟩ := H
  replace H : (if t264 = true then (some (a0, 1, 1, ([] : List (S62)))) else (some ((⟨#[]⟩ : ByteArray), 0, 0, ([] : List (S62))))) = some (r1, r2, r3, r4) := H
  have A2 := Aside0.mk A20
  clear A20
  by_cases c3 : t264 = true
  · subst c3
    have H1 : (some (a0, 1, 1, ([] : List (S62)))) = some (r1, r2, r3, r4) := by rw [if_pos rfl] at H; exact H
    clear H
    have H := H1
    clear H1
    simp only [Option.some.injEq, Prod.mk.injEq] at H
    obtain ⟨rfl, rfl, rfl, rfl⟩ := H
    go_enter Try.func88, Try.ntmps88
    go_wp2_with (first | ((with_reducible refine gate_dst (N := 2) rfl ?_); refine box_event ?hg (N := 2) ?hd (cs := #[.string (⟨#[]⟩ : ByteArray), .int .i64 0, .int .i64 0, .slice none 0 0]) (t := 51) ?hr ?_; (case hd => rfl); (case hg => rfl); (case hr => exact hr_); intro gb263 hg w4 hbox hb; have n0_ := Aside0.mk (below_step bl_ hb); have n1_ := Aside0.mk (hbox); have n2_ := Aside0.mk (gw_ hg bl_); have n3_ := Aside0.mk (gw_ hg bl_); clear HB; have HB := n0_; have BK263 := n1_; have GW263 := n2_; have GE263 := n3_; clear n0_ n1_ n2_ n3_; clear hb hbox hg) | ((with_reducible refine gate_callee (f := 56) rfl ?_); refine gl_ 4 Try.func56 #[.string a0] ?_ rfl rfl rfl rfl; (with_reducible refine (impl_isName.calls k a0 true _ A2.out).mono ?_); rintro e w' ⟨rfl, ⟨nd, rfl⟩⟩; refine ⟨_, rfl, ?_⟩; (try (rw [drewN_self w4]; generalize hq_ : World.drewN w4 _ = w4; have n0_ : Aside0 (w4.heap[gb263]? = some (.cells #[.string (⟨#[]⟩ : ByteArray), .int .i64 0, .int .i64 0, .slice none 0 0] 51 (0, 0))) := ⟨by rw [← hq_]; exact (bk_ BK263)⟩; have n1_ : Aside0 (Below w.heap.size w w4) := ⟨by rw [← hq_]; exact bl_⟩; clear BK263 HB hq_; have BK263 := n0_; have HB := n1_; clear n0_ n1_)); obtain ⟨hcz5_0, hcz5_1, hcz5_2, hcz5_3, hfz5_0, hfz5_1, hfz5_2, hfz5_3⟩ := cellsF4 BK263.out))
    refine bodyPost_ret (results_cell_row rfl _ _ gb263 51 #[.string a0, .int .i64 1, .int .i64 1, .slice none 0 0] (0, 0) _ rfl (by (with_reducible repeat (first | refine blk_drewN ?_ _ | refine blk_drew ?_ | refine blk_alloc ?_ _)); refine blk_put (cs := #[.string a0, .int .i64 1, .int .i64 1, .slice none 0 0]) ?_ 3 _ rfl; (with_reducible repeat (first | refine blk_drewN ?_ _ | refine blk_drew ?_ | refine blk_alloc ?_ _)); refine blk_put (cs := #[.string a0, .int .i64 1, .int .i64 0, .slice none 0 0]) ?_ 2 _ rfl; (with_reducible repeat (first | refine blk_drewN ?_ _ | refine blk_drew ?_ | refine blk_alloc ?_ _)); refine blk_put (cs := #[.string a0, .int .i64 0, .int .i64 0, .slice none 0 0]) ?_ 1 _ rfl; (with_reducible repeat (first | refine blk_drewN ?_ _ | refine blk_drew ?_ | refine blk_alloc ?_ _)); refine blk_put (cs := #[.string (⟨#[]⟩ : ByteArray), .int .i64 0, .int .i64 0, .slice none 0 0]) ?_ 0 _ rfl; (with_reducible repeat (first | refine blk_drewN ?_ _ | refine blk_drew ?_ | refine blk_alloc ?_ _)); exact BK263.out) Try.underlying51 rfl (by kernel_rfl)) rfl ?_
    exact ⟨_, au10_9, au10_8, bl_⟩
  · replace c3 := Bool.eq_false_iff.mpr c3
    subst c3
    have H1 : (some ((⟨#[]⟩ : ByteArray), 0, 0, ([] : List (S62)))) = some (r1, r2, r3, r4) := by rw [if_neg (show ¬ (false = true) by decide)] at H; exact H
    clear H
    have H := H1
    clear H1
    simp only [Option.some.injEq, Prod.mk.injEq] at H
    obtain ⟨rfl, rfl, rfl, rfl⟩ := H
    go_enter Try.func88, Try.ntmps88
    go_wp2_with (first | ((with_reducible refine gate_dst (N := 2) rfl ?_); refine box_event ?hg (N := 2) ?hd (cs := #[.string (⟨#[]⟩ : ByteArray), .int .i64 0, .int .i64 0, .slice none 0 0]) (t := 51) ?hr ?_; (case hd => rfl); (case hg => rfl); (case hr => exact hr_); intro gb263 hg w6 hbox hb; have n0_ := Aside0.mk (below_step bl_ hb); have n1_ := Aside0.mk (hbox); have n2_ := Aside0.mk (gw_ hg bl_); have n3_ := Aside0.mk (gw_ hg bl_); clear HB; have HB := n0_; have BK263 := n1_; have GW263 := n2_; have GE263 := n3_; clear n0_ n1_ n2_ n3_; clear hb hbox hg) | ((with_reducible refine gate_callee (f := 56) rfl ?_); refine gl_ 4 Try.func56 #[.string a0] ?_ rfl rfl rfl rfl; (with_reducible refine (impl_isName.calls k a0 false _ A2.out).mono ?_); rintro e w' ⟨rfl, ⟨nd, rfl⟩⟩; refine ⟨_, rfl, ?_⟩; (try (rw [drewN_self w6]; generalize hq_ : World.drewN w6 _ = w6; have n0_ : Aside0 (w6.heap[gb263]? = some (.cells #[.string (⟨#[]⟩ : ByteArray), .int .i64 0, .int .i64 0, .slice none 0 0] 51 (0, 0))) := ⟨by rw [← hq_]; exact (bk_ BK263)⟩; have n1_ : Aside0 (Below w.heap.size w w6) := ⟨by rw [← hq_]; exact bl_⟩; clear BK263 HB hq_; have BK263 := n0_; have HB := n1_; clear n0_ n1_)); obtain ⟨hcz7_0, hcz7_1, hcz7_2, hcz7_3, hfz7_0, hfz7_1, hfz7_2, hfz7_3⟩ := cellsF4 BK263.out))
    refine bodyPost_ret (results_cell_row rfl _ _ gb263 51 #[.string (⟨#[]⟩ : ByteArray), .int .i64 0, .int .i64 0, .slice none 0 0] (0, 0) _ rfl (by (with_reducible repeat (first | refine blk_drewN ?_ _ | refine blk_drew ?_ | refine blk_alloc ?_ _)); refine blk_put (cs := #[.string (⟨#[]⟩ : ByteArray), .int .i64 0, .int .i64 0, .slice none 0 0]) ?_ 3 _ rfl; (with_reducible repeat (first | refine blk_drewN ?_ _ | refine blk_drew ?_ | refine blk_alloc ?_ _)); refine blk_put (cs := #[.string (⟨#[]⟩ : ByteArray), .int .i64 0, .int .i64 0, .slice none 0 0]) ?_ 2 _ rfl; (with_reducible repeat (first | refine blk_drewN ?_ _ | refine blk_drew ?_ | refine blk_alloc ?_ _)); refine blk_put (cs := #[.string (⟨#[]⟩ : ByteArray), .int .i64 0, .int .i64 0, .slice none 0 0]) ?_ 1 _ rfl; (with_reducible repeat (first | refine blk_drewN ?_ _ | refine blk_drew ?_ | refine blk_alloc ?_ _)); refine blk_put (cs := #[.string (⟨#[]⟩ : ByteArray), .int .i64 0, .int .i64 0, .slice none 0 0]) ?_ 0 _ rfl; (with_reducible repeat (first | refine blk_drewN ?_ _ | refine blk_drew ?_ | refine blk_alloc ?_ _)); exact BK263.out) Try.underlying51 rfl (by kernel_rfl)) rfl ?_
    exact ⟨_, au10_9, au10_8, bl_⟩

end Go.Proofs.Ytjffakoifpldeaa.PFnWindow
