-- printed by a program of this session (wip/xp/xprint.py) out of the translation; Lean checks it
import Derived.Test.YtjffakoifpldeaaPFnCrossx0
import Derived.Test.YtjffakoifpldeaaPFnCrossx5
import Derived.Test.YtjffakoifpldeaaPFnCrossx6
namespace Go.Proofs.Ytjffakoifpldeaa.PFnCross
open Go.RowKit Go.Proofs.YtjffakoifpldeaaW.PrintWords Go.Proofs.YtjffakoifpldeaaW.PrintLast Go.Proofs.YtjffakoifpldeaaW.PrintMore
attribute [local go_sem] max2_int min2_int max_two min_two max_three min_three max_four min_four   -- for this text's walks alone
set_option linter.unusedVariables false
set_option linter.unusedSimpArgs false

theorem au7_0 {p : Prop} (h : p := by repeat (first | exact (Kd.C_below HR0.out HB.out) | (with_reducible refine Kd.C_alloc ?_ _) | (with_reducible refine Kd.C_drewN ?_ _) | (with_reducible refine Kd.C_drew ?_))) : p := h
theorem au7_1 {p : Prop} (h : p := by first | rfl | (simp [errW_none, errW_some] <;> rfl) | (simp [*, errW_none, errW_some] <;> rfl)) : p := h

/-! ### impl_Cross_66__impl_CrossDrop_1: function 66 -/
def impl_Cross_66__impl_CrossDrop_1.f (k : Nat) (l0 : List (S37)) (a1_0 : ByteArray) (a2_0 : ByteArray) : Option (List (S37)) := (impl_Cross_109__impl_CrossDrop_1.f k l0 a1_0 a2_0).bind fun i => if i = -1 then (some l0) else (if 0 ≤ i then (if i < (l0.length : Int) then (some (l0.take i.toNat ++ (l0.drop (i.toNat + 1)).filter (fun x => !((impl_CrossDrop_1.f x.f0 x.f1 x.f2 a1_0 a2_0).getD false)))) else (none)) else (none))
theorem impl_Cross_66__impl_CrossDrop_1.mono : ∀ l0 a1_0 a2_0 k, LeO (impl_Cross_66__impl_CrossDrop_1.f k l0 a1_0 a2_0) (impl_Cross_66__impl_CrossDrop_1.f (k + 1) l0 a1_0 a2_0) := by
  intro l0 a1_0 a2_0 k
  unfold impl_Cross_66__impl_CrossDrop_1.f
  exact LeO.bind (impl_Cross_109__impl_CrossDrop_1.mono _ _ _ _) (fun _ => LeO.refl _)
theorem impl_Cross_66__impl_CrossDrop_1.plain : Go.Proofs.YtjffakoifpldeaaW.Row.Plain k37 (fun x : S37 => ([.string x.f0, .string x.f1, .string x.f2] : List Value)) where
  K := ⟨fun h => k37_open h, fun h => by rw [h]; exact k37_mk _ _⟩
  M := ⟨fun h => k37_openM h, fun h => by rw [h]; exact k37_mkM _ _ _ _⟩
  sz := rfl
  len := fun x => ⟨_, _, _, rfl⟩
  one := fun x v hv => by
    simp only [List.mem_cons, List.not_mem_nil, or_false] at hv
    rcases hv with rfl | rfl | rfl <;> rfl
theorem impl_Cross_66__impl_CrossDrop_1.some_ (u : S37) (a1_0 : ByteArray) (a2_0 : ByteArray) : ∃ b, impl_CrossDrop_1.f u.f0 u.f1 u.f2 a1_0 a2_0 = some b := by
  unfold impl_CrossDrop_1.f
  repeat' split
  all_goals exact ⟨_, rfl⟩
set_option maxHeartbeats 8000000 in
set_option maxRecDepth 100000 in
theorem impl_Cross_66__impl_CrossDrop_1.calls (k : Nat) (P0_ : Nat → Prop) (u9000_ : Value) (l0 : List (S37)) (gb1 : Nat) (a1_0 : ByteArray) (gb2 : Nat) (a2_0 : ByteArray) (r : List (S37)) (w0 w : World) (hB : Below w0.heap.size w0 w) (ho0 : Kd.R k37 37 w w0.heap.size P0_ u9000_ l0) (hb1 : w.heap[gb1]? = some (.cells #[.string a1_0] 9 (0, 0))) (hn1 : ¬ P0_ gb1) (hb2 : w.heap[gb2]? = some (.cells #[.string a2_0] 9 (0, 0))) (hn2 : ¬ P0_ gb2)  (h : impl_Cross_66__impl_CrossDrop_1.f k l0 a1_0 a2_0 = some r) :
    Calls Try.prog 66 #[u9000_, .func (.func 67) #[] #[.pointer (some ⟨gb1, 0, none⟩), .pointer (some ⟨gb2, 0, none⟩)]] w fun e w' => ∃ v0_ : Value, e = .returned (v0_) ∧ Kd.R k37 37 w' w0.heap.size (fun k_ => (P0_ k_ ∨ w.heap.size ≤ k_)) v0_ r ∧ Below w0.heap.size w0 w' ∧ Kept w w' (fun k_ => P0_ k_) := by
  have hu37 := Try.underlying37
  have hu25 := Try.underlying25
  unfold impl_Cross_66__impl_CrossDrop_1.f at h
  obtain ⟨i, hi, h⟩ := Option.bind_eq_some_iff.mp h
  have HI := Aside0.mk hi
  clear hi
  have HO := Aside0.mk ho0
  have HB0 := Aside0.mk hB
  have BK1 := Aside0.mk hb1
  have HN1 := Aside0.mk hn1
  have BK2 := Aside0.mk hb2
  have HN2 := Aside0.mk hn2
  clear ho0 hB hb1 hn1 hb2 hn2
  by_cases h1 : i = -1
  · rw [if_pos h1] at h
    obtain rfl := Option.some.inj h
    subst h1
    clear h
    obtain ⟨A, c, rfl, hc, hC⟩ := Kd.R_reads HO.out
    have HC := Aside0.mk hC
    have HL := Aside0.mk hc
    clear hC hc
    go_enter Try.func66, Try.ntmps66
    go_wp2_with (go_at_call 109; (with_reducible refine (impl_Cross_109__impl_CrossDrop_1.calls k _ _ l0 gb1 a1_0 gb2 a2_0 (-1) _ ?side1 ?side2 ?sb1 ?sb2 HI.out).mono ?_); (case side1 => exact HC.out); (case side2 => exact HL.out); (case sb1 => exact BK1.out); (case sb2 => exact BK2.out);  rintro e w1 ⟨rfl, hb⟩; have HB := Aside0.mk hb; clear hb)
    go_ret
    exact ⟨_, rfl, Kd.R_mono (Kd.R_below HO.out HB.out) (fun _ h => .inl h), below_step HB0.out HB.out, Kept.of_below HB.out _⟩
  · rw [if_neg h1] at h
    by_cases h2 : 0 ≤ i
    · rw [if_pos h2] at h
      by_cases h3 : i < (l0.length : Int)
      · rw [if_pos h3] at h
        have hr := Option.some.inj h
        clear h
        obtain ⟨i0, rfl⟩ : ∃ i0 : Nat, i = (i0 : Int) := ⟨i.toNat, by omega⟩
        simp only [Int.toNat_natCast] at hr
        have hi0 : i0 < l0.length := by omega
        have hne : l0 ≠ [] := fun e => by rw [e] at hi0; simp at hi0
        obtain ⟨g, cap, t, rfl, hbase, hP, hg, hn, hm, hs⟩ := impl_Cross_66__impl_CrossDrop_1.plain.blk HO.out hne
        have hne1 : ((i0 : Int) == -1) = false := beq_eq_false_iff_ne.2 h1
        have hC : Kd.C k37 w (some ⟨g, 0, none⟩) l0.length l0 := impl_Cross_66__impl_CrossDrop_1.plain.read (by unfold maxLen at hm; omega) hg
        have HC := Aside0.mk hC
        have HG := Aside0.mk hg
        have HS := Aside0.mk hs
        have HR := Aside0.mk hr
        have HP := Aside0.mk hP
        have HBS := Aside0.mk hbase
        have HL := Aside0.mk hn
        have HM := Aside0.mk hm
        have hgb1 : g ≠ gb1 := fun e => HN1.out (by rw [← e]; exact hP)
        have hgb2 : g ≠ gb2 := fun e => HN2.out (by rw [← e]; exact hP)
        have hcap : cap ≤ 9223372036854775807 := by unfold maxLen at hm; omega
        have hl63 : l0.length ≤ 9223372036854775807 := by omega
        clear hC hg hs hr hP hbase hn hm h1 h2 h3 hne
        go_enter Try.func66, Try.ntmps66
        go_wp2_with (go_at_call 109; (with_reducible refine (impl_Cross_109__impl_CrossDrop_1.calls k _ _ l0 gb1 a1_0 gb2 a2_0 (i0 : Int) _ ?side1 ?side2 ?sb1 ?sb2 HI.out).mono ?_); (case side1 => exact HC.out); (case side2 => exact HL.out); (case sb1 => exact BK1.out); (case sb2 => exact BK2.out);  rintro e w1 ⟨rfl, hb⟩; have HB := Aside0.mk hb; clear hb)
        go_loopg [5, 6, 7] l0.length (fun gg s5 s6 _ wr => ∃ (i j : Nat) (dk : List (S37)), s5 = .int .i64 i ∧ s6 = .int .i64 j ∧ i < j ∧ j ≤ l0.length ∧ l0.length - j ≤ gg ∧ Aside0 (dk.length = l0.length) ∧ Aside0 (dk.drop j = l0.drop j) ∧ Aside0 (dk.take i ++ (l0.drop j).filter (fun x => !((impl_CrossDrop_1.f x.f0 x.f1 x.f2 a1_0 a2_0).getD false)) = r) ∧ Aside0 (wr.heap[g]? = some (.cells (dk.flatMap (fun x : S37 => ([.string x.f0, .string x.f1, .string x.f2] : List Value)) ++ t).toArray 37 (0, 0))) ∧ Aside0 (wr.heap[gb1]? = some (.cells #[.string a1_0] 9 (0, 0))) ∧ Aside0 (wr.heap[gb2]? = some (.cells #[.string a2_0] 9 (0, 0))) ∧ Aside0 (Below w0.heap.size w0 wr) ∧ Aside0 (Kept w wr (fun k_ => P0_ k_)))
        case atStart => exact ⟨i0, i0 + 1, l0, rfl, by go_num, Nat.lt_succ_self _, by omega, by omega, ⟨rfl⟩, ⟨rfl⟩, HR, ⟨blk_below HG.out HB.out⟩, ⟨blk_below BK1.out HB.out⟩, ⟨blk_below BK2.out HB.out⟩, ⟨below_step HB0.out HB.out⟩, ⟨Kept.of_below HB.out _⟩⟩
        case round =>
          clear HI HC HG HR BK1 BK2 HB HB0 HO
          obtain ⟨i, j, dk, rfl, rfl, hij, hjn, hgg, HDL, HDJ, HR, HG, BK1, BK2, HB, HK⟩ := hrel
          by_cases hlt : j < l0.length
          · have hltz : (j : Int) < (l0.length : Int) := by omega
            have hjd : j < dk.length := by rw [HDL.out]; exact hlt
            have hid : i < dk.length := by omega
            obtain ⟨u, hu⟩ : ∃ u, dk[j] = u := ⟨_, rfl⟩
            have hu2 : l0[j] = u := by
              have e1 : (dk.drop j)[0]? = (l0.drop j)[0]? := by rw [HDJ.out]
              rw [List.getElem?_drop, List.getElem?_drop, Nat.add_zero, List.getElem?_eq_getElem hjd, List.getElem?_eq_getElem hlt, hu] at e1
              exact (Option.some.inj e1).symm
            have hdrop : l0.drop j = u :: l0.drop (j + 1) := by rw [List.drop_eq_getElem_cons hlt, hu2]
            obtain ⟨cj0, cj1, cj2⟩ := impl_Cross_66__impl_CrossDrop_1.plain.cell HG.out j hjd (by rw [hu])
            obtain ⟨ci0, ci1, ci2⟩ := impl_Cross_66__impl_CrossDrop_1.plain.cell HG.out i hid rfl
            have fz := fun q => blk_frozen HG.out q
            obtain ⟨b, hb⟩ := impl_Cross_66__impl_CrossDrop_1.some_ u a1_0 a2_0
            have HU := Aside0.mk hb
            have HD := Aside0.mk hdrop
            have HDD : Aside0 (dk.drop (j + 1) = l0.drop (j + 1)) := ⟨by
              have e := congrArg (fun l : List (S37) => l.drop 1) HDJ.out
              simpa [List.drop_drop] using e⟩
            clear hu hu2 hdrop hb
            cases b with
            | false =>
              go_wp2_with (go_at_call 67; (with_reducible refine (impl_CrossDrop_1.calls u.f0 u.f1 u.f2 gb1 a1_0 gb2 a2_0 false _ ?sb1 ?sb2 HU.out).mono ?_); (case sb1 => exact blk_alloc BK1.out _); (case sb2 => exact blk_alloc BK2.out _);  rintro e w2 ⟨rfl, hb⟩; have HG2 := Aside0.mk (blk_below (blk_alloc HG.out _) hb); have BKn1 := Aside0.mk (blk_below (blk_alloc BK1.out _) hb); have BKn2 := Aside0.mk (blk_below (blk_alloc BK2.out _) hb); have hnb := blk_below (blk_new wr _) hb; obtain ⟨di0, di1, di2⟩ := impl_Cross_66__impl_CrossDrop_1.plain.cell HG2.out i hid rfl; have fz2 := fun q => blk_frozen HG2.out q; have bx0 := (blk_cell hnb 0).trans rfl; have bx1 := (blk_cell hnb 1).trans rfl; have bx2 := (blk_cell hnb 2).trans rfl; have HB2 := Aside0.mk (below_step (below_alloc HB.out _) hb); have HK2 := Aside0.mk (Kept.below (Kept.alloc HK.out _) hb); clear hnb hb)
              go_roundg (l0.length - (j + 1))
              case measure => omega
              case rel =>
                refine ⟨i + 1, j + 1, dk.set i u, by go_num, by go_num, by omega, by omega, Nat.le_refl _, ⟨by rw [List.length_set]; exact HDL.out⟩, ⟨by rw [List.drop_set_of_lt (by omega)]; exact HDD.out⟩, ⟨?_⟩, ⟨impl_Cross_66__impl_CrossDrop_1.plain.put HG2.out i hid u rfl⟩, ⟨?_⟩, ⟨?_⟩, ⟨?_⟩, ⟨?_⟩⟩
                · rw [← HR.out, HD.out, List.filter_cons_of_pos (by rw [HU.out]; rfl), List.take_set, List.take_succ_eq_append_getElem hid, List.set_append, if_neg (by rw [List.length_take]; omega)]
                  simp [List.length_take, Nat.min_eq_left (Nat.le_of_lt hid)]
                · exact blk_far (blk_far (blk_far BKn1.out (Ne.symm hgb1) _) (Ne.symm hgb1) _) (Ne.symm hgb1) _
                · exact blk_far (blk_far (blk_far BKn2.out (Ne.symm hgb2) _) (Ne.symm hgb2) _) (Ne.symm hgb2) _
                · exact below_set (below_set (below_set HB2.out HBS.out) HBS.out) HBS.out
                · exact Kept.setCell (Kept.setCell (Kept.setCell HK2.out (.inl HP.out) _) (.inl HP.out) _) (.inl HP.out) _
            | true =>
              go_wp2_with (go_at_call 67; (with_reducible refine (impl_CrossDrop_1.calls u.f0 u.f1 u.f2 gb1 a1_0 gb2 a2_0 true _ ?sb1 ?sb2 HU.out).mono ?_); (case sb1 => exact blk_alloc BK1.out _); (case sb2 => exact blk_alloc BK2.out _);  rintro e w2 ⟨rfl, hb⟩; have HG2 := Aside0.mk (blk_below (blk_alloc HG.out _) hb); have BKn1 := Aside0.mk (blk_below (blk_alloc BK1.out _) hb); have BKn2 := Aside0.mk (blk_below (blk_alloc BK2.out _) hb); have hnb := blk_below (blk_new wr _) hb; obtain ⟨di0, di1, di2⟩ := impl_Cross_66__impl_CrossDrop_1.plain.cell HG2.out i hid rfl; have fz2 := fun q => blk_frozen HG2.out q; have bx0 := (blk_cell hnb 0).trans rfl; have bx1 := (blk_cell hnb 1).trans rfl; have bx2 := (blk_cell hnb 2).trans rfl; have HB2 := Aside0.mk (below_step (below_alloc HB.out _) hb); have HK2 := Aside0.mk (Kept.below (Kept.alloc HK.out _) hb); clear hnb hb)
              go_roundg (l0.length - (j + 1))
              case measure => omega
              case rel =>
                refine ⟨i, j + 1, dk, rfl, by go_num, by omega, by omega, Nat.le_refl _, HDL, HDD, ⟨?_⟩, HG2, BKn1, BKn2, HB2, HK2⟩
                rw [← HR.out, HD.out, List.filter_cons_of_neg (by rw [HU.out]; decide)]
          · obtain rfl : j = l0.length := by omega
            have hltz : ¬ (l0.length : Int) < (l0.length : Int) := by omega
            have hic : i ≤ cap := by have := HL.out; omega
            have hicz : (i : Int) ≤ (cap : Int) := by omega
            have hcne : ¬ (cap = i) := by have := HL.out; omega
            obtain ⟨iz, hz0, hz1, _, _⟩ := info_parts info37
            have hfl : (dk.flatMap (fun x : S37 => ([.string x.f0, .string x.f1, .string x.f2] : List Value))).length = l0.length * 3 := by rw [Go.Proofs.YtjffakoifpldeaaW.Row.flat_len impl_Cross_66__impl_CrossDrop_1.plain.l3, HDL.out]
            obtain ⟨zs, hzs⟩ : ∃ zs, zs = (Builtin.zeroCells ((.agg #[(.string ⟨#[]⟩), (.string ⟨#[]⟩), (.string ⟨#[]⟩)]) : Value).cells (l0.length - i)).toList := ⟨_, rfl⟩
            have hzl : zs.length = (l0.length - i) * 3 := by rw [hzs]; exact Go.Proofs.YtjffakoifpldeaaW.Row.zeros_len _ _ _ _
            obtain ⟨ROW, hROW⟩ : ∃ ROW : Array Value, ROW = ((dk.flatMap (fun x : S37 => ([.string x.f0, .string x.f1, .string x.f2] : List Value)) ++ t).take (i * 3) ++ zs ++ (dk.flatMap (fun x : S37 => ([.string x.f0, .string x.f1, .string x.f2] : List Value)) ++ t).drop (i * 3 + zs.length)).toArray := ⟨_, rfl⟩
            have hcl : ∀ ty, (Builtin.clear_ #[25] ty #[.slice (some ⟨g, i * 3, none⟩) (l0.length - i) (cap - i)]).run Try.prog wr = .ok (.tuple #[]) (wr.setRow g ROW) := fun ty => by
              rw [hROW]
              exact Go.Proofs.YtjffakoifpldeaaW.Row.run_clear_rowk (P := Try.prog) wr 25 37 ty (.agg #[(.string ⟨#[]⟩), (.string ⟨#[]⟩), (.string ⟨#[]⟩)]) hu25 (fun _ => by simp [zeroValue, typeInfo, hz0, hz1]) g (i * 3) (l0.length - i) (cap - i) (by omega) _ 37 HG.out zs hzs.symm (by rw [List.size_toArray, List.length_append, hfl, hzl]; omega) (fun v hv => by rw [hzs] at hv; rcases Go.Proofs.YtjffakoifpldeaaW.Row.zeros_mem _ _ _ _ v hv with rfl | rfl | rfl <;> rfl)
            have HROW := Aside0.mk hROW
            have HZL := Aside0.mk hzl
            have HFL := Aside0.mk hfl
            clear hROW hzl hfl hzs hz0 hz1
            go_wp2
            go_ret
            have hr2 : dk.take i = r := by
              have := HR.out
              rwa [List.drop_length, List.filter_nil, List.append_nil] at this
            have hrl : r.length = i := by rw [← hr2, List.length_take, HDL.out]; omega
            have hrow : ROW = (r.flatMap (fun x : S37 => ([.string x.f0, .string x.f1, .string x.f2] : List Value)) ++ (zs ++ t)).toArray := by
              rw [HROW.out, Go.Proofs.YtjffakoifpldeaaW.Row.flat_take impl_Cross_66__impl_CrossDrop_1.plain.l3 dk t i (by rw [HDL.out]; omega), hr2, HZL.out, show i * 3 + (l0.length - i) * 3 = dk.length * 3 by rw [HDL.out]; omega, Go.Proofs.YtjffakoifpldeaaW.Row.flat_drop_all impl_Cross_66__impl_CrossDrop_1.plain.l3, List.append_assoc]
            refine ⟨_, rfl, ?_, Go.Proofs.YtjffakoifpldeaaW.Row.below_setRow HB.out HBS.out _, Go.Proofs.YtjffakoifpldeaaW.Row.kept_setRow HK.out (.inl HP.out) _⟩
            refine impl_Cross_66__impl_CrossDrop_1.plain.of_blk (g := g) (cap := cap) (t := zs ++ t) (by rw [hrl]; rfl) HBS.out (.inl HP.out) (by rw [← hrow]; exact setRow_heap _ _ _ _ _ _ HG.out) (by rw [hrl]; exact hic) HM.out ?_
            have e1 := HS.out
            rw [List.length_append, Go.Proofs.YtjffakoifpldeaaW.Row.flat_len impl_Cross_66__impl_CrossDrop_1.plain.l3] at e1
            have e2 := HZL.out
            rw [List.length_append, Go.Proofs.YtjffakoifpldeaaW.Row.flat_len impl_Cross_66__impl_CrossDrop_1.plain.l3, hrl, List.length_append, e2]
            omega
      · rw [if_neg h3] at h
        cases h
    · rw [if_neg h2] at h
      cases h

/-! ### impl_CrossDrop: function 24 -/
def impl_CrossDrop.j0 : Nat → List (S37) → Bool → ByteArray → ByteArray → Option ((List (S37)))
  | 0, _, _, _, _ => none
  | k + 1, x0, x15, x166000, x167000 => if x15 = true then (some ([] : List (S37))) else ((impl_Cross_65.f x0).bind fun t172 => ((impl_CrossRight.f k x0).bind fun t175 => (if t175 = true then ((impl_Cross_66__impl_CrossDrop_1.f k t172 x166000 x167000).bind fun t176 => (some t176)) else (some t172))))
def impl_CrossDrop.f (k : Nat) (l0 : List (S37)) (a1 : ByteArray) (a2 : ByteArray) : Option ((List (S37))) := (impl_Cross_64.f l0).bind fun t167 => (if t167 = true then (impl_CrossDrop.j0 k l0 true a1 a2) else ((impl_longText.f k (([a1, a2] : List ByteArray))).bind fun t171 => (impl_CrossDrop.j0 k l0 t171 a1 a2)))
theorem impl_CrossDrop.mono_l : ∀ k, (∀ y0 y1 y2 y3, LeO (impl_CrossDrop.j0 k y0 y1 y2 y3) (impl_CrossDrop.j0 (k + 1) y0 y1 y2 y3))
  | 0 => fun _ _ _ _ r h => by simp [impl_CrossDrop.j0] at h
  | k + 1 => by
    have ih0 := impl_CrossDrop.mono_l k
    · intro y0 y1 y2 y3
      unfold impl_CrossDrop.j0
      repeat' first
      | (with_reducible exact ih0 _ _ _ _)
      | (with_reducible exact impl_CrossRight.mono _ _)
      | (with_reducible exact impl_Cross_66__impl_CrossDrop_1.mono _ _ _ _)
      | (with_reducible exact impl_longText.mono _ _)
      | (with_reducible exact LeO.refl _)
      | (with_reducible exact LeO.none _)
      | (with_reducible refine LeO.ite ?_ ?_)
      | (with_reducible refine LeO.bind ?_ (fun _ => ?_))
      | exact ih0 _ _ _ _
      | exact impl_CrossRight.mono _ _
      | exact impl_Cross_66__impl_CrossDrop_1.mono _ _ _ _
      | exact impl_longText.mono _ _
      | exact LeO.none _
      | refine LeO.ite ?_ ?_
      | refine LeO.bind ?_ (fun _ => ?_)
theorem impl_CrossDrop.mono : ∀ a0 a1 a2 k, LeO (impl_CrossDrop.f k a0 a1 a2) (impl_CrossDrop.f (k + 1) a0 a1 a2) := by
  intro a0 a1 a2 k
  have ih0 := impl_CrossDrop.mono_l k
  unfold impl_CrossDrop.f
  repeat' first
      | (with_reducible exact ih0 _ _ _ _)
      | (with_reducible exact impl_CrossRight.mono _ _)
      | (with_reducible exact impl_Cross_66__impl_CrossDrop_1.mono _ _ _ _)
      | (with_reducible exact impl_longText.mono _ _)
      | (with_reducible exact LeO.refl _)
      | (with_reducible exact LeO.none _)
      | (with_reducible refine LeO.ite ?_ ?_)
      | (with_reducible refine LeO.bind ?_ (fun _ => ?_))
      | exact ih0 _ _ _ _
      | exact impl_CrossRight.mono _ _
      | exact impl_Cross_66__impl_CrossDrop_1.mono _ _ _ _
      | exact impl_longText.mono _ _
      | exact LeO.none _
      | refine LeO.ite ?_ ?_
      | refine LeO.bind ?_ (fun _ => ?_)
set_option maxHeartbeats 8000000 in
set_option maxRecDepth 100000 in
theorem impl_CrossDrop.calls (k : Nat) (A0 : Option Addr) (c0 : Nat) (l0 : List (S37)) (a1 : ByteArray) (a2 : ByteArray) (r : List (S37)) (w : World) (hr0 : Kd.C k37 w A0 l0.length l0) (hc0 : l0.length ≤ c0) (h : impl_CrossDrop.f k l0 a1 a2 = some r) :
    Calls Try.prog 24 #[.slice A0 l0.length c0, .string a1, .string a2] w fun e w' => ∃ v0_ : Value, e = .returned (v0_) ∧ Kd.R k37 37 w' w.heap.size (fun _ => True) v0_ r ∧ Below w.heap.size w w' := by
  have HR0 := Aside0.mk hr0
  have HC0 := Aside0.mk hc0
  clear hr0 hc0
  have HB := Aside0.mk (Below.refl w.heap.size w)
  have H : ((impl_Cross_64.f l0).bind fun t167 => (if t167 = true then (impl_CrossDrop.j0 k l0 true a1 a2) else ((impl_longText.f k (([a1, a2] : List ByteArray))).bind fun t171 => (impl_CrossDrop.j0 k l0 t171 a1 a2)))) = some r := h
  clear h
  have HC4 := Aside0.mk H
  clear H
  go_enter Try.func24, Try.ntmps24
  go_upto_region 1 with (first | ((with_reducible refine gate_dst (N := 4) rfl ?_); (try (refine gate_guard (by rfl) ?_; dsimp only)); refine box_event ?hg (N := 4) ?hd (cs := #[.string a1]) (t := 9) ?hr ?_; (case hd => rfl); (case hg => rfl); (case hr => exact hr_); intro gb165 hg w5 hbox hb; have n0_ := Aside0.mk (below_step bl_ hb); have n1_ := Aside0.mk (hbox); have n2_ := Aside0.mk (gw_ hg bl_); have n3_ := Aside0.mk (gw_ hg bl_); clear HB; have HB := n0_; have BK165 := n1_; have GW165 := n2_; have GE165 := n3_; clear n0_ n1_ n2_ n3_; clear hb hbox hg) | ((with_reducible refine gate_dst (N := 5) rfl ?_); (try (refine gate_guard (by rfl) ?_; dsimp only)); refine box_event ?hg (N := 5) ?hd (cs := #[.string a2]) (t := 9) ?hr ?_; (case hd => rfl); (case hg => rfl); (case hr => exact hr_); intro gb166 hg w6 hbox hb; have n0_ := Aside0.mk (blkb_ BK165 hb); have n1_ := Aside0.mk (below_step bl_ hb); have n2_ := Aside0.mk (hbox); have n3_ := Aside0.mk (gw_ hg bl_); have n4_ := Aside0.mk (gw_ hg bl_); have n5_ := Aside0.mk (gn_ hg (blkl_ BK165)); have n6_ := Aside0.mk (gm_ hg (blkl_ BK165)); clear BK165; clear HB; have BK165 := n0_; have HB := n1_; have BK166 := n2_; have GW166 := n3_; have GE166 := n4_; have NB165_166 := n5_; have NB166_165 := n6_; clear n0_ n1_ n2_ n3_ n4_ n5_ n6_; clear hb hbox hg))
  (try simp only [Act.put, List.setIfInBounds_toArray, List.set_cons_zero, List.set_cons_succ])
  go_cut [15] (fun v15 wc => ∃ (kq : Nat) (x15_3 : Bool), v15 = .bool x15_3 ∧ Aside0 (impl_CrossDrop.j0 kq l0 x15_3 a1 a2 = some r) ∧ Aside0 (kq ≤ k) ∧ Aside0 (wc.heap[gb165]? = some (.cells #[.string a1] 9 (0, 0))) ∧ Aside0 (wc.heap[gb166]? = some (.cells #[.string a2] 9 (0, 0))) ∧ Aside0 (Below w.heap.size w wc))
  case first =>
    have H := HC4.out
    clear HC4
    replace H := Option.bind_eq_some_iff.mp H
    obtain ⟨t167, A70, H⟩ := H
    replace H : (if t167 = true then (impl_CrossDrop.j0 k l0 true a1 a2) else ((impl_longText.f k (([a1, a2] : List ByteArray))).bind fun t171 => (impl_CrossDrop.j0 k l0 t171 a1 a2))) = some r := H
    have A7 := Aside0.mk A70
    clear A70
    by_cases c8 : t167 = true
    · subst c8
      have H1 : (impl_CrossDrop.j0 k l0 true a1 a2) = some r := by rw [if_pos rfl] at H; exact H
      clear H
      have H := H1
      clear H1
      have H' := Aside0.mk H
      clear H
      go_wp2_with (first | ((with_reducible refine gate_callee (f := 64) rfl ?_); refine gl_ 9 Try.func64 #[.slice A0 l0.length c0] ?_ rfl rfl rfl rfl; (with_reducible refine (impl_Cross_64.calls _ _ l0 true _ ?side1 ?side2 A7.out).mono ?_); (case side1 => exact au7_0); (case side2 => exact HC0.out); rintro e w' ⟨rfl, ⟨nd, rfl⟩⟩; refine ⟨_, rfl, ?_⟩))
      go_meet
      case rel => exact ⟨_, (true), er_, H', ⟨by first | omega | exact Nat.le_refl _⟩, ⟨bk_ BK165⟩, ⟨bk_ BK166⟩, ⟨bl_⟩⟩
    · replace c8 := Bool.eq_false_iff.mpr c8
      subst c8
      have H1 : ((impl_longText.f k (([a1, a2] : List ByteArray))).bind fun t171 => (impl_CrossDrop.j0 k l0 t171 a1 a2)) = some r := by rw [if_neg (show ¬ (false = true) by decide)] at H; exact H
      clear H
      have H := H1
      clear H1
      obtain ⟨y168, hy168⟩ : ∃ y_ : List ByteArray, y_ = (([a1, a2] : List ByteArray)) := ⟨_, rfl⟩
      replace H : ((impl_longText.f k y168).bind fun t171 => (impl_CrossDrop.j0 k l0 t171 a1 a2)) = some r := by first | (rw [hy168]; with_reducible exact H) | (have H2_ := (Option.bind_some _ _).symm.trans H; rw [hy168]; with_reducible exact H2_) | (have H2_ := (Option.bind_some _ _).symm.trans H; with_reducible exact H2_) | with_reducible exact H | (rw [hy168]; exact H) | exact H
      have Ny168 := Aside0.mk hy168
      clear hy168
      replace H := Option.bind_eq_some_iff.mp H
      obtain ⟨t171, A90, H⟩ := H
      replace H : (impl_CrossDrop.j0 k l0 t171 a1 a2) = some r := H
      have A9 := Aside0.mk A90
      clear A90
      have H' := Aside0.mk H
      clear H
      go_wp2_with (first | ((with_reducible refine gate_callee (f := 64) rfl ?_); refine gl_ 9 Try.func64 #[.slice A0 l0.length c0] ?_ rfl rfl rfl rfl; (with_reducible refine (impl_Cross_64.calls _ _ l0 false _ ?side1 ?side2 A7.out).mono ?_); (case side1 => exact au7_0); (case side2 => exact HC0.out); rintro e w' ⟨rfl, ⟨nd, rfl⟩⟩; refine ⟨_, rfl, ?_⟩; have hnb10 := NB165_166.out; have hnc10 := NB166_165.out; have hcz11_0 : w6.cell? ⟨gb165, 0, none⟩ = some (.string a1) := (blk_cell BK165.out 0).trans rfl; have hfz11_0 := blk_frozen BK165.out 0; have hcz12_0 : w6.cell? ⟨gb166, 0, none⟩ = some (.string a2) := (blk_cell BK166.out 0).trans rfl; have hfz12_0 := blk_frozen BK166.out 0) | ((with_reducible refine gate_dst (N := 13) rfl ?_); (try (refine gate_guard (by rfl) ?_; dsimp only)); refine Kd.R_lit Kd.string _ 9 ?hg (N := 13) ?hd (xs := ([a1, a2] : List ByteArray)) (inner := [.string a1, .string a2]) (ok := fun _ => True) (okp := fun _ => True) ?hr ?hp (fun _ hk => hk) trivial (Below.refl _ _) (Nat.le_refl _) (by simp) ?_; (case hd => rfl); (case hg => rfl); (case hr => exact hr_); (case hp => exact (Reps.one (show Kd.M Kd.string _ _ _ a1 [.string a1] from rfl) (Reps.one (show Kd.M Kd.string _ _ _ a2 [.string a2] from rfl) (Reps.none _ _)))); intro v169 w13 ho14 hb hg_ hnew_; clear hg_ hnew_; (first | rw [← Ny168.out] at ho14 | (simp only [Int.reduceToNat] at ho14; rw [← Ny168.out] at ho14)); have n0_ := Aside0.mk (Kd.R_lower (Kd.R_newB (Kd.R_newB ho14 (g := gb165) (o := .cells #[.string a1] 9 (0, 0)) (bk_ BK165)) (g := gb166) (o := .cells #[.string a2] 9 (0, 0)) (bk_ BK166)) (below_size bl_)); have n1_ := Aside0.mk (blkb_ BK165 hb); have n2_ := Aside0.mk (blkb_ BK166 hb); have n3_ := Aside0.mk (below_step bl_ hb); clear BK165; clear BK166; clear HB; have HO170 := n0_; have BK165 := n1_; have BK166 := n2_; have HB := n3_; clear n0_ n1_ n2_ n3_; clear hb ho14; obtain ⟨Ao15, co15, eo15⟩ := Kd.R_slice HO170.out; subst eo15) | (go_at_call 61; (with_reducible refine (impl_longText.calls k _ _ y168 t171 _ ?side1 ?side2 A9.out).mono ?_); (case side1 => repeat (first | exact (Kd.R_reads' HO170.out).2.2 | (with_reducible refine Kd.C_alloc ?_ _) | (with_reducible refine Kd.C_drewN ?_ _) | (with_reducible refine Kd.C_drew ?_))); (case side2 => exact (Kd.R_reads' HO170.out).2.1); rintro e w' ⟨rfl, ⟨nd, rfl⟩⟩))
      go_meet
      case rel => exact ⟨_, (t171), er_, H', ⟨by first | omega | exact Nat.le_refl _⟩, ⟨bk_ BK165⟩, ⟨bk_ BK166⟩, ⟨bl_⟩⟩
  case rest =>
    clear HC4
    try clear c1
    try clear c2
    try clear p2
    try clear c6
    try clear c8
    try clear c10
    try clear hcz11_0
    try clear hcz12_0
    try clear hfz11_0
    try clear hfz12_0
    obtain ⟨kq, x15_3, rfl, HA, HJ3, BK165, BK166, HB⟩ := hcut
    cases kq with
    | zero => exact absurd HA.out (by simp [impl_CrossDrop.j0])
    | succ kj3 =>
      have H := HA.out
      clear HA
      simp only [impl_CrossDrop.j0] at H
      by_cases c16 : x15_3 = true
      · subst c16
        have H1 : (some ([] : List (S37))) = some r := by rw [if_pos rfl] at H; exact H
        clear H
        have H := H1
        clear H1
        obtain rfl := Option.some.inj H
        go_wp2
        go_ret
        exact ⟨_, au7_1, by first | exact Kd.R_nil _ _ _ _ _ | exact Kd.N_nil _ _ _ _ _ | exact Kd.V_nil _ _ _ _ _ | exact Kd.Q_nil _ _ _ _ _ | exact Kd.S_nil _ _ _ _ _, bl_⟩
      · replace c16 := Bool.eq_false_iff.mpr c16
        subst c16
        have H1 : ((impl_Cross_65.f l0).bind fun t172 => ((impl_CrossRight.f kj3 l0).bind fun t175 => (if t175 = true then ((impl_Cross_66__impl_CrossDrop_1.f kj3 t172 a1 a2).bind fun t176 => (some t176)) else (some t172)))) = some r := by rw [if_neg (show ¬ (false = true) by decide)] at H; exact H
        clear H
        have H := H1
        clear H1
        replace H := Option.bind_eq_some_iff.mp H
        obtain ⟨t172, A170, H⟩ := H
        replace H : ((impl_CrossRight.f kj3 l0).bind fun t175 => (if t175 = true then ((impl_Cross_66__impl_CrossDrop_1.f kj3 t172 a1 a2).bind fun t176 => (some t176)) else (some t172))) = some r := H
        have A17 := Aside0.mk A170
        clear A170
        replace H := Option.bind_eq_some_iff.mp H
        obtain ⟨t175, A180, H⟩ := H
        replace H : (if t175 = true then ((impl_Cross_66__impl_CrossDrop_1.f kj3 t172 a1 a2).bind fun t176 => (some t176)) else (some t172)) = some r := H
        have A18 := Aside0.mk A180
        clear A180
        by_cases c19 : t175 = true
        · subst c19
          have H1 : ((impl_Cross_66__impl_CrossDrop_1.f kj3 t172 a1 a2).bind fun t176 => (some t176)) = some r := by rw [if_pos rfl] at H; exact H
          clear H
          have H := H1
          clear H1
          replace H := Option.bind_eq_some_iff.mp H
          obtain ⟨t176, A200, H⟩ := H
          replace H : (some t176) = some r := H
          have A20 := Aside0.mk A200
          clear A200
          obtain rfl := Option.some.inj H
          go_wp2_with (first | ((with_reducible refine gate_callee (f := 65) rfl ?_); refine gl_ 17 Try.func65 #[.slice A0 l0.length c0] ?_ rfl rfl rfl rfl; (with_reducible refine (impl_Cross_65.calls _ _ l0 t172 _ ?side1 ?side2 A17.out).mono ?_); (case side1 => exact au7_0); (case side2 => exact HC0.out); rintro e w21 ⟨v173, rfl, ho0, hb⟩; refine ⟨_, rfl, ?_⟩; have n0_ := Aside0.mk (Kd.R_lower ho0 (below_size bl_)); have n1_ := Aside0.mk (blkb_ BK165 hb); have n2_ := Aside0.mk (blkb_ BK166 hb); have n3_ := Aside0.mk (below_step bl_ hb); clear BK165; clear BK166; clear HB; have HO174 := n0_; have BK165 := n1_; have BK166 := n2_; have HB := n3_; clear n0_ n1_ n2_ n3_; (try clear hb); (try clear hb2); (try clear hk); (try clear hi); (try clear ho0)) | ((with_reducible refine gate_callee (f := 17) rfl ?_); refine gl_ 19 Try.func17 #[.slice A0 l0.length c0] ?_ rfl rfl rfl rfl; (with_reducible refine (impl_CrossRight.calls kj3 _ _ l0 true _ ?side1 ?side2 A18.out).mono ?_); (case side1 => exact au7_0); (case side2 => exact HC0.out); rintro e w22 ⟨rfl, hb⟩; refine ⟨_, rfl, ?_⟩; have n0_ := Aside0.mk (Kd.R_below (rk_ HO174) hb); have n1_ := Aside0.mk (blkb_ BK165 hb); have n2_ := Aside0.mk (blkb_ BK166 hb); have n3_ := Aside0.mk (below_step bl_ hb); clear HO174; clear BK165; clear BK166; clear HB; have HO174 := n0_; have BK165 := n1_; have BK166 := n2_; have HB := n3_; clear n0_ n1_ n2_ n3_; (try clear hb); (try clear hb2); (try clear hk); (try clear hi); obtain ⟨Ao23, co23, eo23⟩ := Kd.R_slice HO174.out; subst eo23) | ((with_reducible refine gate_callee (f := 66) rfl ?_); refine gl_ 24 Try.func66 #[.slice Ao23 t172.length co23, .func (.func 67) #[] #[.pointer (some ⟨gb165, 0, none⟩), .pointer (some ⟨gb166, 0, none⟩)]] ?_ rfl rfl rfl rfl; (with_reducible refine (impl_Cross_66__impl_CrossDrop_1.calls kj3 (fun k_ => some k_ = (.slice Ao23 t172.length co23 : Value).ownBlock) (.slice Ao23 t172.length co23) t172 gb165 a1 gb166 a2 t176 w _ ?side1 ?side2 ?side3 ?side4 ?side5 ?side6 A20.out).mono ?_); (case side1 => repeat (first | (with_reducible first | exact HB.out | apply below_alloc | apply pw_below_drewN | apply below_drew1 | refine below_set ?_ GE165.out | refine below_set ?_ GE166.out) | exact HB.out)); (case side2 => exact Kd.R_tight rfl HO174.out); (case side3 => exact (bk_ BK165)); (case side4 => exact fun h_ => (Kd.R_ne HO174.out BK165.out (by decide)) h_); (case side5 => exact (bk_ BK166)); (case side6 => exact fun h_ => (Kd.R_ne HO174.out BK166.out (by decide)) h_); rintro e w24 ⟨v177, rfl, ho0, hb, hkp⟩; refine ⟨_, rfl, ?_⟩; have n0_ := Aside0.mk (blk_kept (bk_ BK165) hkp (fun hs_ => (fun e_ => (Kd.R_ne HO174.out BK165.out (by decide)) e_) hs_)); have n1_ := Aside0.mk (blk_kept (bk_ BK166) hkp (fun hs_ => (fun e_ => (Kd.R_ne HO174.out BK166.out (by decide)) e_) hs_)); have n2_ := Aside0.mk (Kd.R_mono (ok' := fun k_ => True) ho0 (fun k_ hk_ => trivial)); have n3_ := Aside0.mk (hb); clear BK165; clear BK166; clear HB; clear HO174; have BK165 := n0_; have BK166 := n1_; have HO178 := n2_; have HB := n3_; clear n0_ n1_ n2_ n3_; (try clear hb); (try clear hkp); (try clear ho0)))
          go_ret
          exact ⟨_, au7_1, rk_ HO178, bl_⟩
        · replace c19 := Bool.eq_false_iff.mpr c19
          subst c19
          have H1 : (some t172) = some r := by rw [if_neg (show ¬ (false = true) by decide)] at H; exact H
          clear H
          have H := H1
          clear H1
          obtain rfl := Option.some.inj H
          go_wp2_with (first | ((with_reducible refine gate_callee (f := 65) rfl ?_); refine gl_ 17 Try.func65 #[.slice A0 l0.length c0] ?_ rfl rfl rfl rfl; (with_reducible refine (impl_Cross_65.calls _ _ l0 t172 _ ?side1 ?side2 A17.out).mono ?_); (case side1 => exact au7_0); (case side2 => exact HC0.out); rintro e w25 ⟨v173, rfl, ho0, hb⟩; refine ⟨_, rfl, ?_⟩; have n0_ := Aside0.mk (Kd.R_lower ho0 (below_size bl_)); have n1_ := Aside0.mk (blkb_ BK165 hb); have n2_ := Aside0.mk (blkb_ BK166 hb); have n3_ := Aside0.mk (below_step bl_ hb); clear BK165; clear BK166; clear HB; have HO174 := n0_; have BK165 := n1_; have BK166 := n2_; have HB := n3_; clear n0_ n1_ n2_ n3_; (try clear hb); (try clear hb2); (try clear hk); (try clear hi); (try clear ho0)) | ((with_reducible refine gate_callee (f := 17) rfl ?_); refine gl_ 19 Try.func17 #[.slice A0 l0.length c0] ?_ rfl rfl rfl rfl; (with_reducible refine (impl_CrossRight.calls kj3 _ _ l0 false _ ?side1 ?side2 A18.out).mono ?_); (case side1 => exact au7_0); (case side2 => exact HC0.out); rintro e w26 ⟨rfl, hb⟩; refine ⟨_, rfl, ?_⟩; have n0_ := Aside0.mk (Kd.R_below (rk_ HO174) hb); have n1_ := Aside0.mk (blkb_ BK165 hb); have n2_ := Aside0.mk (blkb_ BK166 hb); have n3_ := Aside0.mk (below_step bl_ hb); clear HO174; clear BK165; clear BK166; clear HB; have HO174 := n0_; have BK165 := n1_; have BK166 := n2_; have HB := n3_; clear n0_ n1_ n2_ n3_; (try clear hb); (try clear hb2); (try clear hk); (try clear hi)))
          go_ret
          exact ⟨_, au7_1, rk_ HO174, bl_⟩

end Go.Proofs.Ytjffakoifpldeaa.PFnCross
