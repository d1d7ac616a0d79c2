-- printed by a program of this session (wip/xp/xprint.py) out of the translation; Lean checks it
import Derived.Test.YtjffakoifpldeaaPFnCrossx0
namespace Go.Proofs.Ytjffakoifpldeaa.PFnCross
open Go.RowKit Go.Proofs.YtjffakoifpldeaaW.PrintWords Go.Proofs.YtjffakoifpldeaaW.PrintLast Go.Proofs.YtjffakoifpldeaaW.PrintMore
attribute [local go_sem] max2_int min2_int max_two min_two max_three min_three max_four min_four   -- for this text's walks alone
set_option linter.unusedVariables false
set_option linter.unusedSimpArgs false

/-! ### impl_Cross_70: function 70 -/
def impl_Cross_70.f (l0 : List (S37)) (a1 : Int) (l2 : List (S37)) : Option (List (S37)) := if 0 ≤ a1 then (if a1 ≤ (l0.length : Int) then (if 0 < l2.length then (if l0.length + l2.length < 2932031007402 then (some (l0.take a1.toNat ++ l2 ++ l0.drop a1.toNat)) else (none)) else (none)) else (none)) else (none)
theorem impl_Cross_70.plain : Go.Proofs.YtjffakoifpldeaaW.Row.Plain k37 (fun x : S37 => ([.string x.f0, .string x.f1, .string x.f2] : List Value)) where
  K := ⟨fun h => k37_open h, fun h => by rw [h]; exact k37_mk _ _⟩
  M := ⟨fun h => k37_openM h, fun h => by rw [h]; exact k37_mkM _ _ _ _⟩
  sz := rfl
  len := fun x => ⟨_, _, _, rfl⟩
  one := fun x v hv => by
    simp only [List.mem_cons, List.not_mem_nil, or_false] at hv
    rcases hv with rfl | rfl | rfl <;> rfl
set_option maxHeartbeats 8000000 in
set_option maxRecDepth 100000 in
/-- At the end: an append. -/
theorem impl_Cross_70.ends (P0_ P2_ : Nat → Prop) (u9000_ : Value) (l0 l2 : List (S37)) (vb vc : Nat) (t2 : List Value) (w0 w : World) (hB : Below w0.heap.size w0 w) (ho0 : Kd.R k37 37 w w0.heap.size P0_ u9000_ l0) (hg2 : w.heap[vb]? = some (.cells (l2.flatMap (fun x : S37 => ([.string x.f0, .string x.f1, .string x.f2] : List Value)) ++ t2).toArray 37 (0, 0))) (hm : 0 < l2.length) (hlim : l0.length + l2.length < 2932031007402) :
    Calls Try.prog 70 #[u9000_, .int .i64 (l0.length : Int), .slice (some ⟨vb, 0, none⟩) l2.length vc] w fun e w' => ∃ v0_ : Value, e = .returned (v0_) ∧ Kd.R k37 37 w' w0.heap.size (fun k_ => ((P0_ k_ ∨ P2_ k_) ∨ w.heap.size ≤ k_)) v0_ (l0 ++ l2) ∧ Below w0.heap.size w0 w' ∧ Kept w w' (fun k_ => P0_ k_ ∨ P2_ k_) := by
  have hu25 := Try.underlying25
  have hu37 := Try.underlying37
  obtain ⟨A, c, rfl, hc, hC⟩ := Kd.R_reads ho0
  have hz1 : ¬ ((l2.length : Int) = 0) := by omega
  have hz2 : ((l2.length : Int) == 0) = false := beq_eq_false_iff_ne.2 hz1
  have hR2 : Kd.C k37 w (some ⟨vb, 0, none⟩) l2.length l2 := impl_Cross_70.plain.read (by omega) hg2
  have HO := Aside0.mk (Kd.R_mono (ok' := fun k_ => (P0_ k_ ∨ P2_ k_) ∨ w.heap.size ≤ k_) ho0 (fun _ h => .inl (.inl h)))
  have HP := Aside0.mk ho0.1
  have HR2 := Aside0.mk hR2
  have HB := Aside0.mk hB
  clear ho0 hC hR2 hB hg2
  go_enter Try.func70, Try.ntmps70
  have HG : ∀ k_, w.heap.size ≤ k_ → (P0_ k_ ∨ P2_ k_) ∨ w.heap.size ≤ k_ := fun _ h => .inr h
  go_wp2_with ((with_reducible refine gate_builtin (b := .append) (xs := #[.tmp 23, .tmp 24]) rfl ?_); at_builtin; refine Kd.R_append_rows k37 (w0 := w0) w0.heap.size rfl (.tmp 23) (.tmp 24) 25 37 (.agg #[(.string ⟨#[]⟩), (.string ⟨#[]⟩), (.string ⟨#[]⟩)]) 48 rfl Try.underlying25 info37 rfl (by decide) (by omega) (.slice _ l0.length c) l0 l2 _ _ _ (fun k_ => (P0_ k_ ∨ P2_ k_) ∨ w.heap.size ≤ k_) (fun _ => False) rfl rfl ?aO ?aR (fun _ _ h => h) (fun _ h => h.elim) ?aF ?aB ?aS ?aL ?_; (case aR => exact HR2.out); (case aB => exact HB.out); (case aF => exact HG); (case aO => exact HO.out); (case aS => exact HB.out.size); (case aL => omega); intro v2 w2 ho hb hg hat; have HO2 := Aside0.mk ho; have HB2 := Aside0.mk hb; have HG2 := Aside0.mk hg; clear ho hb hg hat)
  all_goals go_ret
  all_goals exact ⟨_, rfl, HO2.out, HB2.out, Kept.of_grown HG2.out (Kept.refl _ _) (fun k hk => .inl (.inl (HP.out k hk)))⟩
set_option maxHeartbeats 8000000 in
set_option maxRecDepth 100000 in
/-- In the midst, with room: in place. -/
theorem impl_Cross_70.shift (P0_ P2_ : Nat → Prop) (g cap : Nat) (t : List Value) (i : Nat) (l0 l2 : List (S37)) (vb vc : Nat) (t2 : List Value) (w0 w : World) (hB : Below w0.heap.size w0 w) (hP : P0_ g) (hbase : w0.heap.size ≤ g) (hg : w.heap[g]? = some (.cells (l0.flatMap (fun x : S37 => ([.string x.f0, .string x.f1, .string x.f2] : List Value)) ++ t).toArray 37 (0, 0))) (hcm : cap ≤ maxLen) (hs : (l0.flatMap (fun x : S37 => ([.string x.f0, .string x.f1, .string x.f2] : List Value)) ++ t).length = cap * 3) (hg2 : w.heap[vb]? = some (.cells (l2.flatMap (fun x : S37 => ([.string x.f0, .string x.f1, .string x.f2] : List Value)) ++ t2).toArray 37 (0, 0))) (hvb : vb ≠ g) (hi : i < l0.length) (hm : 0 < l2.length) (hroom : l0.length + l2.length ≤ cap) :
    Calls Try.prog 70 #[.slice (some ⟨g, 0, none⟩) l0.length cap, .int .i64 (i : Int), .slice (some ⟨vb, 0, none⟩) l2.length vc] w fun e w' => ∃ v0_ : Value, e = .returned (v0_) ∧ Kd.R k37 37 w' w0.heap.size (fun k_ => ((P0_ k_ ∨ P2_ k_) ∨ w.heap.size ≤ k_)) v0_ (l0.take i ++ l2 ++ l0.drop i) ∧ Below w0.heap.size w0 w' ∧ Kept w w' (fun k_ => P0_ k_ ∨ P2_ k_) := by
  have hu25 := Try.underlying25
  have hu37 := Try.underlying37
  obtain ⟨iz, hz0, hz1, hzs, _⟩ := info_parts info37
  have hsz : (Try.prog.info? 37).map (·.size) = some 3 := by rw [hz0]; simp [hzs]
  obtain ⟨n, hn⟩ : ∃ n, l0.length = n := ⟨_, rfl⟩
  obtain ⟨m, hmm⟩ : ∃ m, l2.length = m := ⟨_, rfl⟩
  rw [hn, hmm]
  rw [hn] at hi
  rw [hmm] at hm
  rw [hn, hmm] at hroom
  have hc63 : cap ≤ 9223372036854775807 := by unfold maxLen at hcm; omega
  have hfl0 : (l0.flatMap (fun x : S37 => ([.string x.f0, .string x.f1, .string x.f2] : List Value))).length = n * 3 := by rw [Go.Proofs.YtjffakoifpldeaaW.Row.flat_len impl_Cross_70.plain.l3, hn]
  have hfl2 : (l2.flatMap (fun x : S37 => ([.string x.f0, .string x.f1, .string x.f2] : List Value))).length = m * 3 := by rw [Go.Proofs.YtjffakoifpldeaaW.Row.flat_len impl_Cross_70.plain.l3, hmm]
  obtain ⟨CUR, hCUR⟩ : ∃ CUR, CUR = l0.flatMap (fun x : S37 => ([.string x.f0, .string x.f1, .string x.f2] : List Value)) ++ t := ⟨_, rfl⟩
  rw [← hCUR] at hg hs
  obtain ⟨CS, hCS⟩ : ∃ CS, CS = (l0.drop i).flatMap (fun x : S37 => ([.string x.f0, .string x.f1, .string x.f2] : List Value)) := ⟨_, rfl⟩
  obtain ⟨VS, hVS⟩ : ∃ VS, VS = l2.flatMap (fun x : S37 => ([.string x.f0, .string x.f1, .string x.f2] : List Value)) := ⟨_, rfl⟩
  have hCl : CS.length = (n - i) * 3 := by rw [hCS, Go.Proofs.YtjffakoifpldeaaW.Row.flat_len impl_Cross_70.plain.l3, List.length_drop, hn]
  have hVl : VS.length = m * 3 := by rw [hVS]; exact hfl2
  rw [← hVS] at hg2
  have hCd : CUR.drop (i * 3) = CS ++ t := by rw [hCUR, hCS]; exact Go.Proofs.YtjffakoifpldeaaW.Row.flat_drop impl_Cross_70.plain.l3 l0 t i (by omega)
  have hCt : CUR.take (i * 3) = (l0.take i).flatMap (fun x : S37 => ([.string x.f0, .string x.f1, .string x.f2] : List Value)) := by rw [hCUR]; exact Go.Proofs.YtjffakoifpldeaaW.Row.flat_take impl_Cross_70.plain.l3 l0 t i (by omega)
  have h1C : ∀ v ∈ CS, v.oneCell' = true := fun v hv => by
    rw [hCS, List.mem_flatMap] at hv
    obtain ⟨x, _, hx⟩ := hv
    exact impl_Cross_70.plain.one x v hx
  have h1V : ∀ v ∈ VS, v.oneCell' = true := fun v hv => by
    rw [hVS, List.mem_flatMap] at hv
    obtain ⟨x, _, hx⟩ := hv
    exact impl_Cross_70.plain.one x v hx
  obtain ⟨R1, hR1⟩ : ∃ R1 : Array Value, R1 = (CUR.take ((i + m) * 3) ++ CS ++ CUR.drop ((i + m) * 3 + CS.length)).toArray := ⟨_, rfl⟩
  have hR1l : R1.toList.length = cap * 3 := by
    rw [hR1, List.toList_toArray, List.length_append, List.length_append, List.length_take, List.length_drop, hs, hCl]
    omega
  obtain ⟨R2, hR2⟩ : ∃ R2 : Array Value, R2 = (R1.toList.take (i * 3) ++ VS ++ R1.toList.drop (i * 3 + VS.length)).toArray := ⟨_, rfl⟩
  have hadd : ∀ (b o j : Nat), (⟨b, o, none⟩ : Addr).add j = ⟨b, o + j, none⟩ := fun b o j => by unfold Addr.add; split <;> simp_all
  have hmn1 : Nat.min (n + m - i) (n + m - (i + m)) = n - i := by simp only [Nat.min_def]; split <;> omega
  have hmn2 : Nat.min m (n + m - i) = m := by simp only [Nat.min_def]; split <;> omega
  have hcp1 : ∀ (W : World), W.heap[g]? = some (.cells CUR.toArray 37 (0, 0)) → ∀ ty dc sc, (Builtin.copy_ #[25, 25] ty #[.slice (some ⟨g, (i + m) * 3, none⟩) (n + m - (i + m)) dc, .slice (some ⟨g, i * 3, none⟩) (n + m - i) sc]).run Try.prog W = .ok (goInt ((n - i : Nat) : Int)) (W.setRow g R1) := fun W hW ty dc sc => by
    rw [hR1, ← hmn1]
    exact Go.Proofs.YtjffakoifpldeaaW.Row.run_copy_rowk (P := Try.prog) 3 W 25 25 ty 37 g ((i + m) * 3) _ dc ⟨g, i * 3, none⟩ _ sc CUR.toArray 37 CS hu25 hsz hW (by rw [hmn1, hCl])
      (fun j v hj => by
        rw [hadd, blk_cell hW, List.getElem?_toArray, ← List.getElem?_drop, hCd]
        rw [List.getElem?_append_left (List.getElem?_eq_some_iff.1 hj).1]
        exact hj) (by rw [List.size_toArray, hs, hCl]; omega) h1C
  have hcp2 : ∀ (W : World), W.heap[g]? = some (.cells R1 37 (0, 0)) → W.heap[vb]? = some (.cells (VS ++ t2).toArray 37 (0, 0)) → ∀ ty dc sc, (Builtin.copy_ #[25, 25] ty #[.slice (some ⟨g, i * 3, none⟩) (n + m - i) dc, .slice (some ⟨vb, 0, none⟩) m sc]).run Try.prog W = .ok (goInt m) (W.setRow g R2) := fun W hW hW2 ty dc sc => by
    rw [hR2]
    have := Go.Proofs.YtjffakoifpldeaaW.Row.run_copy_rowk (P := Try.prog) 3 W 25 25 ty 37 g (i * 3) (n + m - i) dc ⟨vb, 0, none⟩ m sc R1 37 VS hu25 hsz hW (by rw [hmn2, hVl])
      (fun j v hj => by
        rw [hadd, blk_cell hW2, List.getElem?_toArray, Nat.zero_add, List.getElem?_append_left (List.getElem?_eq_some_iff.1 hj).1]
        exact hj) (by rw [← Array.length_toList, hR1l, hVl]; omega) h1V
    rwa [hmn2] at this
  have hov : ∀ lb cb, (callFunc 112 #[.slice (some ⟨vb, 0, none⟩) m vc, .slice (some ⟨g, (i + m) * 3, none⟩) lb cb]).run Try.prog w = .ok (.value (.bool false)) w := fun lb cb => by
    rw [run_callFunc_extern Try.func112 (by kernel_rfl) (by kernel_rfl) (by kernel_rfl) (e := Extern.SlicesOverlaps.overlaps #[25, 25] #[4]) (by kernel_rfl),
      Lib.run_overlaps_apart w 25 4 37 hu25 3 (fun _ => by simp [sizeOf, typeInfo, hz0, hzs]) ⟨vb, 0, none⟩ ⟨g, (i + m) * 3, none⟩ m vc lb cb hvb 37 37 _ _ (Go.Proofs.YtjffakoifpldeaaW.Row.shape_of hg2) (Go.Proofs.YtjffakoifpldeaaW.Row.shape_of hg) (by rw [List.size_toArray, hs]; omega) (blk_frozen hg2 _) (blk_frozen hg2 _)]
    rfl
  have hz1 : ¬ ((m : Int) = 0) := by omega
  have hz2 : ¬ ((i : Int) = (n : Int)) := by omega
  have hz3 : ¬ ((cap : Int) < (n : Int) + (m : Int)) := by omega
  have hw1 : IntKind.i64.wrap ((i : Int) + (m : Int)) = (i : Int) + (m : Int) := by rw [IntKind.wrap_i64]; omega
  have hw2 : IntKind.i64.wrap ((n : Int) + (m : Int)) = (n : Int) + (m : Int) := by rw [IntKind.wrap_i64]; omega
  have hb1 : (0 : Int) ≤ (i : Int) + (m : Int) := by omega
  have hin : i ≤ n := by omega
  have htn : ((i : Int) + (m : Int)).toNat = i + m := by omega
  have hb2 : ¬ (cap = i + m) := by omega
  have hb3 : (i : Int) ≤ (n : Int) + (m : Int) := by omega
  have hb4 : ¬ (cap = i) := by omega
  have hgd : w.drew.heap[g]? = some (.cells CUR.toArray 37 (0, 0)) := hg
  obtain ⟨W1, hW1⟩ : ∃ W1, W1 = w.drew.setRow g R1 := ⟨_, rfl⟩
  have hW1g : W1.heap[g]? = some (.cells R1 37 (0, 0)) := by rw [hW1]; exact setRow_heap _ _ _ _ _ _ hgd
  have hW1v : W1.heap[vb]? = some (.cells (VS ++ t2).toArray 37 (0, 0)) := by rw [hW1, setRow_other _ _ _ _ hvb]; exact hg2
  have hc1 := fun ty dc sc => hcp1 w.drew hgd ty dc sc
  rw [← hW1] at hc1
  have hc2 := fun ty dc sc => hcp2 W1 hW1g hW1v ty dc sc
  have HGG := Aside0.mk hgd
  have HW1 := Aside0.mk hW1
  have HW1g := Aside0.mk hW1g
  have HR1 := Aside0.mk hR1
  have HR2 := Aside0.mk hR2
  have HCt := Aside0.mk hCt
  have HCd := Aside0.mk hCd
  have HB := Aside0.mk hB
  have HCl := Aside0.mk hCl
  have HVl := Aside0.mk hVl
  have HS := Aside0.mk hs
  have HCS := Aside0.mk hCS
  have HVS := Aside0.mk hVS
  clear hcp1 hcp2 hgd hg hg2 hW1 hW1g hW1v hR1 hR2 hCt hCd hB h1C h1V hCl hVl hs hz0 hzs hCS hVS hCUR
  go_enter Try.func70, Try.ntmps70
  go_wp2_with (simp only [hov])
  go_region_law (refine Go.Proofs.YtjffakoifpldeaaW.Row.step_copy_ rfl _ _ 25 25 rfl _ _ (by simp [Act.eval, Act.put]) (by simp [Act.eval, Act.put]) (hc1 _ _ _) ?_)
  go_wp2_with (at_builtin; refine Go.Proofs.YtjffakoifpldeaaW.Row.list_copy_ _ rfl _ _ 25 25 rfl _ _ rfl rfl (hc2 _ _ _) ?_)
  go_ret
  have hl1 : (CUR.take ((i + m) * 3)).length = (i + m) * 3 := by rw [List.length_take, HS.out]; omega
  have e1 : R1.toList.take (i * 3) = CUR.take (i * 3) := by
    rw [HR1.out, List.append_assoc, List.take_append_of_le_length (by omega), List.take_take, Nat.min_eq_left (by omega)]
  have e2 : CUR.drop ((i + m) * 3 + CS.length) = t.drop (m * 3) := by
    rw [show (i + m) * 3 + CS.length = i * 3 + (CS.length + m * 3) by omega, ← List.drop_drop, HCd.out, ← List.drop_drop, List.drop_left]
  have e3 : R1.toList.drop (i * 3 + VS.length) = CS ++ t.drop (m * 3) := by
    rw [HR1.out, e2, HVl.out, show i * 3 + m * 3 = (CUR.take ((i + m) * 3)).length by rw [hl1]; omega, List.append_assoc, List.drop_left]
  have e4 : R2 = ((l0.take i ++ l2 ++ l0.drop i).flatMap (fun x : S37 => ([.string x.f0, .string x.f1, .string x.f2] : List Value)) ++ t.drop (m * 3)).toArray := by
    rw [HR2.out, e1, e3, HCt.out, HVS.out, HCS.out, List.flatMap_append, List.flatMap_append]
    simp only [List.append_assoc]
  have hrl : (l0.take i ++ l2 ++ l0.drop i).length = n + m := by
    rw [List.length_append, List.length_append, List.length_take, List.length_drop, hn, hmm]
    omega
  refine ⟨_, rfl, impl_Cross_70.plain.of_blk (g := g) (cap := cap) (t := t.drop (m * 3)) (by rw [hrl]; rfl) hbase (.inl (.inl hP)) (by rw [← e4]; exact setRow_heap _ _ _ _ _ _ HW1g.out) (by rw [hrl]; exact hroom) hcm ?_, ?_, ?_⟩
  · have e5 : R2.toList.length = cap * 3 := by
      rw [HR2.out]
      simp only [List.length_append, List.length_take, List.length_drop, hR1l, HVl.out]
      omega
    rw [e4] at e5
    exact e5
  · rw [HW1.out]
    exact Go.Proofs.YtjffakoifpldeaaW.Row.below_setRow (Go.Proofs.YtjffakoifpldeaaW.Row.below_setRow (below_drew1 HB.out) hbase _) hbase _
  · rw [HW1.out]
    exact Go.Proofs.YtjffakoifpldeaaW.Row.kept_setRow (Go.Proofs.YtjffakoifpldeaaW.Row.kept_setRow (Kept.drew (Kept.refl w _)) (.inl (.inl hP)) _) (.inl (.inl hP)) _
set_option maxHeartbeats 8000000 in
set_option maxRecDepth 100000 in
/-- In the midst, without room: a new row. -/
theorem impl_Cross_70.grow (P0_ P2_ : Nat → Prop) (g cap : Nat) (t : List Value) (i : Nat) (l0 l2 : List (S37)) (vb vc : Nat) (t2 : List Value) (w0 w : World) (hB : Below w0.heap.size w0 w) (hg : w.heap[g]? = some (.cells (l0.flatMap (fun x : S37 => ([.string x.f0, .string x.f1, .string x.f2] : List Value)) ++ t).toArray 37 (0, 0))) (hcm : cap ≤ maxLen) (hs : (l0.flatMap (fun x : S37 => ([.string x.f0, .string x.f1, .string x.f2] : List Value)) ++ t).length = cap * 3) (hg2 : w.heap[vb]? = some (.cells (l2.flatMap (fun x : S37 => ([.string x.f0, .string x.f1, .string x.f2] : List Value)) ++ t2).toArray 37 (0, 0))) (hi : i < l0.length) (hm : 0 < l2.length) (hnc : l0.length ≤ cap) (hroom : cap < l0.length + l2.length) (hlim : l0.length + l2.length < 2932031007402) :
    Calls Try.prog 70 #[.slice (some ⟨g, 0, none⟩) l0.length cap, .int .i64 (i : Int), .slice (some ⟨vb, 0, none⟩) l2.length vc] w fun e w' => ∃ v0_ : Value, e = .returned (v0_) ∧ Kd.R k37 37 w' w0.heap.size (fun k_ => ((P0_ k_ ∨ P2_ k_) ∨ w.heap.size ≤ k_)) v0_ (l0.take i ++ l2 ++ l0.drop i) ∧ Below w0.heap.size w0 w' ∧ Kept w w' (fun k_ => P0_ k_ ∨ P2_ k_) := by
  have hu25 := Try.underlying25
  have hu37 := Try.underlying37
  have hu3 := Try.underlying3
  obtain ⟨iz, hz0, hz1, hzs, hzb⟩ := info_parts info37
  have hsz : (Try.prog.info? 37).map (·.size) = some 3 := by rw [hz0]; simp [hzs]
  obtain ⟨n, hn⟩ : ∃ n, l0.length = n := ⟨_, rfl⟩
  obtain ⟨m, hmm⟩ : ∃ m, l2.length = m := ⟨_, rfl⟩
  rw [hn, hmm]
  rw [hn] at hi hnc
  rw [hmm] at hm
  rw [hn, hmm] at hroom hlim
  have hc63 : cap ≤ 9223372036854775807 := by unfold maxLen at hcm; omega
  have hfl2 : (l2.flatMap (fun x : S37 => ([.string x.f0, .string x.f1, .string x.f2] : List Value))).length = m * 3 := by rw [Go.Proofs.YtjffakoifpldeaaW.Row.flat_len impl_Cross_70.plain.l3, hmm]
  obtain ⟨CUR, hCUR⟩ : ∃ CUR, CUR = l0.flatMap (fun x : S37 => ([.string x.f0, .string x.f1, .string x.f2] : List Value)) ++ t := ⟨_, rfl⟩
  rw [← hCUR] at hg hs
  obtain ⟨CS, hCS⟩ : ∃ CS, CS = (l0.drop i).flatMap (fun x : S37 => ([.string x.f0, .string x.f1, .string x.f2] : List Value)) := ⟨_, rfl⟩
  obtain ⟨VS, hVS⟩ : ∃ VS, VS = l2.flatMap (fun x : S37 => ([.string x.f0, .string x.f1, .string x.f2] : List Value)) := ⟨_, rfl⟩
  have hCl : CS.length = (n - i) * 3 := by rw [hCS, Go.Proofs.YtjffakoifpldeaaW.Row.flat_len impl_Cross_70.plain.l3, List.length_drop, hn]
  have hVl : VS.length = m * 3 := by rw [hVS]; exact hfl2
  rw [← hVS] at hg2
  have hCd : CUR.drop (i * 3) = CS ++ t := by rw [hCUR, hCS]; exact Go.Proofs.YtjffakoifpldeaaW.Row.flat_drop impl_Cross_70.plain.l3 l0 t i (by omega)
  have hCt : CUR.take (i * 3) = (l0.take i).flatMap (fun x : S37 => ([.string x.f0, .string x.f1, .string x.f2] : List Value)) := by rw [hCUR]; exact Go.Proofs.YtjffakoifpldeaaW.Row.flat_take impl_Cross_70.plain.l3 l0 t i (by omega)
  have h1C : ∀ v ∈ CS, v.oneCell' = true := fun v hv => by
    rw [hCS, List.mem_flatMap] at hv
    obtain ⟨x, _, hx⟩ := hv
    exact impl_Cross_70.plain.one x v hx
  have h1V : ∀ v ∈ VS, v.oneCell' = true := fun v hv => by
    rw [hVS, List.mem_flatMap] at hv
    obtain ⟨x, _, hx⟩ := hv
    exact impl_Cross_70.plain.one x v hx
  have hadd : ∀ (b o j : Nat), (⟨b, o, none⟩ : Addr).add j = ⟨b, o + j, none⟩ := fun b o j => by unfold Addr.add; split <;> simp_all
  obtain ⟨A, hA⟩ : ∃ A, A = CUR.take (i * 3) := ⟨_, rfl⟩
  have hAl : A.length = i * 3 := by rw [hA, List.length_take, hs]; omega
  have hik : i + (n + m - i) = n + m := by omega
  have hkk : (n : Int) + (m : Int) - (i : Int) = ((n + m - i : Nat) : Int) := by omega
  obtain ⟨G, hG⟩ : ∃ G, G = grownCap w (n + m) cap 37 := ⟨_, rfl⟩
  have hGn : n + m ≤ G := by rw [hG]; exact grownCap_ge w _ _ _
  have hGm : G ≤ maxLen := by rw [hG]; exact grownCap_le_maxLen w (n + m) cap 37 (by unfold maxLen; omega)
  have hG63 : G ≤ 9223372036854775807 := by unfold maxLen at hGm; omega
  obtain ⟨Z1, hZ1⟩ : ∃ Z1, Z1 = Builtin.zeroCells ((.agg #[(.string ⟨#[]⟩), (.string ⟨#[]⟩), (.string ⟨#[]⟩)]) : Value).cells (n + m - i) := ⟨_, rfl⟩
  obtain ⟨Z2, hZ2⟩ : ∃ Z2, Z2 = Builtin.zeroCells ((.agg #[(.string ⟨#[]⟩), (.string ⟨#[]⟩), (.string ⟨#[]⟩)]) : Value).cells (G - (n + m)) := ⟨_, rfl⟩
  have hZ1l : Z1.toList.length = (n + m - i) * 3 := by rw [hZ1]; exact Go.Proofs.YtjffakoifpldeaaW.Row.zeros_len _ _ _ _
  have hZ2l : Z2.toList.length = (G - (n + m)) * 3 := by rw [hZ2]; exact Go.Proofs.YtjffakoifpldeaaW.Row.zeros_len _ _ _ _
  obtain ⟨ROW, hROW⟩ : ∃ ROW, ROW = A.toArray ++ Z1 ++ Z2 := ⟨_, rfl⟩
  have hRL : ROW.toList = A ++ Z1.toList ++ Z2.toList := by rw [hROW]; simp
  have hold : (Builtin.firstCells iz.size i (.slice (some ⟨g, 0, none⟩) i cap)).run Try.prog w.drew = .ok A.toArray w.drew := by
    rw [hzs]
    exact run_firstCells_some w.drew 3 i ⟨g, 0, none⟩ i cap A hAl (fun j v hj => by
      rw [hadd, Nat.zero_add, blk_cell (show w.drew.heap[g]? = _ from hg), List.getElem?_toArray]
      rw [hA, List.getElem?_take] at hj
      split at hj
      · exact hj
      · cases hj)
  have hrz : ∀ ty, (Builtin.append_ #[25, 3] ty #[.slice (some ⟨g, 0, none⟩) i cap, .int .i64 ((n : Int) + (m : Int) - (i : Int))]).run Try.prog w =
      .ok (.slice (some ⟨w.heap.size, 0, none⟩) (n + m) G) (w.drew.alloc (.cells ROW 37)) := fun ty => by
    have h := Lib.run_append_grow_zeros w 25 3 ty 37 iz _ .i64 .i64 hu25 hu3 hz0 hz1 (some ⟨g, 0, none⟩) i cap A hold (n + m - i) (by omega) (by omega) (by omega) (by omega) (by rw [hzb]; omega) (by rw [hzb, hik]; exact growslice_fits hroom (by omega))
    rw [hik, ← hG, ← hZ1, ← hZ2, ← hROW] at h
    rw [hkk]
    exact h
  obtain ⟨R1, hR1⟩ : ∃ R1 : Array Value, R1 = (ROW.toList.take (i * 3) ++ VS ++ ROW.toList.drop (i * 3 + VS.length)).toArray := ⟨_, rfl⟩
  obtain ⟨R2, hR2⟩ : ∃ R2 : Array Value, R2 = (R1.toList.take ((i + m) * 3) ++ CS ++ R1.toList.drop ((i + m) * 3 + CS.length)).toArray := ⟨_, rfl⟩
  have hRl : ROW.toList.length = G * 3 := by
    rw [hRL, List.length_append, List.length_append, hAl, hZ1l, hZ2l]
    omega
  have hR1l : R1.toList.length = G * 3 := by
    rw [hR1, List.length_append, List.length_append, List.length_take, List.length_drop, hRl, hVl]
    omega
  have hmn1 : Nat.min m (n + m - i) = m := by simp only [Nat.min_def]; split <;> omega
  have hmn2 : Nat.min (n - i) (n + m - (i + m)) = n - i := by simp only [Nat.min_def]; split <;> omega
  have hcpA : ∀ (W : World), W.heap[w.heap.size]? = some (.cells ROW 37 (0, 0)) → W.heap[vb]? = some (.cells (VS ++ t2).toArray 37 (0, 0)) → ∀ ty dc sc, (Builtin.copy_ #[25, 25] ty #[.slice (some ⟨w.heap.size, i * 3, none⟩) (n + m - i) dc, .slice (some ⟨vb, 0, none⟩) m sc]).run Try.prog W = .ok (goInt m) (W.setRow w.heap.size R1) := fun W hW hW2 ty dc sc => by
    rw [hR1]
    have := Go.Proofs.YtjffakoifpldeaaW.Row.run_copy_rowk (P := Try.prog) 3 W 25 25 ty 37 w.heap.size (i * 3) (n + m - i) dc ⟨vb, 0, none⟩ m sc ROW 37 VS hu25 hsz hW (by rw [hmn1, hVl])
      (fun j v hj => by
        rw [hadd, blk_cell hW2, List.getElem?_toArray, Nat.zero_add, List.getElem?_append_left (List.getElem?_eq_some_iff.1 hj).1]
        exact hj) (by rw [← Array.length_toList, hRl, hVl]; omega) h1V
    rwa [hmn1] at this
  have hcpB : ∀ (W : World), W.heap[w.heap.size]? = some (.cells R1 37 (0, 0)) → W.heap[g]? = some (.cells CUR.toArray 37 (0, 0)) → ∀ ty dc sc, (Builtin.copy_ #[25, 25] ty #[.slice (some ⟨w.heap.size, (i + m) * 3, none⟩) (n + m - (i + m)) dc, .slice (some ⟨g, i * 3, none⟩) (n - i) sc]).run Try.prog W = .ok (goInt ((n - i : Nat) : Int)) (W.setRow w.heap.size R2) := fun W hW hW2 ty dc sc => by
    rw [hR2]
    have := Go.Proofs.YtjffakoifpldeaaW.Row.run_copy_rowk (P := Try.prog) 3 W 25 25 ty 37 w.heap.size ((i + m) * 3) (n + m - (i + m)) dc ⟨g, i * 3, none⟩ (n - i) sc R1 37 CS hu25 hsz hW (by rw [hmn2, hCl])
      (fun j v hj => by
        rw [hadd, blk_cell hW2, List.getElem?_toArray, ← List.getElem?_drop, hCd]
        rw [List.getElem?_append_left (List.getElem?_eq_some_iff.1 hj).1]
        exact hj) (by rw [← Array.length_toList, hR1l, hCl]; omega) h1C
    rwa [hmn2] at this
  have hglt : g < w.heap.size := blk_lt hg
  have hvlt : vb < w.heap.size := blk_lt hg2
  have hAA : (w.drew.alloc (.cells ROW 37)).heap[w.heap.size]? = some (.cells ROW 37 (0, 0)) := blk_new w.drew _
  have hAv : (w.drew.alloc (.cells ROW 37)).heap[vb]? = some (.cells (VS ++ t2).toArray 37 (0, 0)) := blk_alloc (w := w.drew) hg2 _
  have hAg : (w.drew.alloc (.cells ROW 37)).heap[g]? = some (.cells CUR.toArray 37 (0, 0)) := blk_alloc (w := w.drew) hg _
  obtain ⟨W1, hW1⟩ : ∃ W1, W1 = w.drew.alloc (.cells ROW 37) := ⟨_, rfl⟩
  have hWW : (w.alloc (.cells ROW 37)).drew = W1 := by rw [hW1]; rfl
  rw [← hW1] at hAA hAv hAg hrz
  have hc1 := fun ty dc sc => hcpA W1 hAA hAv ty dc sc
  have hc1' := fun ty dc sc => hcpA W1.drew hAA hAv ty dc sc
  have hB1 : Below w0.heap.size w0 W1 := by rw [hW1]; exact below_alloc (below_drew1 hB) _
  have hK1 : Kept w W1 (fun k_ => P0_ k_ ∨ P2_ k_) := by rw [hW1]; exact Kept.alloc (Kept.drew (Kept.refl w _)) _
  obtain ⟨W2, hW2⟩ : ∃ W2, W2 = W1.setRow w.heap.size R1 := ⟨_, rfl⟩
  rw [← hW2] at hc1
  have h2A : W2.heap[w.heap.size]? = some (.cells R1 37 (0, 0)) := by rw [hW2]; exact setRow_heap _ _ _ _ _ _ hAA
  have h2g : W2.heap[g]? = some (.cells CUR.toArray 37 (0, 0)) := by rw [hW2, setRow_other _ _ _ _ (by omega)]; exact hAg
  have hB2 : Below w0.heap.size w0 W2 := by rw [hW2]; exact Go.Proofs.YtjffakoifpldeaaW.Row.below_setRow hB1 hB.size _
  have hK2 : Kept w W2 (fun k_ => P0_ k_ ∨ P2_ k_) := by rw [hW2]; exact Go.Proofs.YtjffakoifpldeaaW.Row.kept_setRow hK1 (.inr (Nat.le_refl _)) _
  have hc2 := fun ty dc sc => hcpB W2 h2A h2g ty dc sc
  have hc2' := fun ty dc sc => hcpB W2.drew h2A h2g ty dc sc
  have hz1' : ¬ ((m : Int) = 0) := by omega
  have hz2' : ¬ ((i : Int) = (n : Int)) := by omega
  have hz3 : (cap : Int) < (n : Int) + (m : Int) := by omega
  have hw1 : IntKind.i64.wrap ((i : Int) + (m : Int)) = (i : Int) + (m : Int) := by rw [IntKind.wrap_i64]; omega
  have hb1 : (0 : Int) ≤ (i : Int) + (m : Int) := by omega
  have hin : i ≤ n := by omega
  have htn : ((i : Int) + (m : Int)).toNat = i + m := by omega
  have hGi : ¬ (G = i) := by omega
  have hGim : ¬ (G = i + m) := by omega
  have hci : ¬ (cap = i) := by omega
  have hb3 : (i : Int) ≤ (n : Int) := by omega
  have hicap : (i : Int) ≤ (cap : Int) := by omega
  have H2A := Aside0.mk h2A
  have HB2 := Aside0.mk hB2
  have HK2 := Aside0.mk hK2
  have HSZ := Aside0.mk hB.size
  have HR1 := Aside0.mk hR1
  have HR2 := Aside0.mk hR2
  have HRL := Aside0.mk hRL
  have HCt := Aside0.mk hCt
  have HA := Aside0.mk hA
  have HAl := Aside0.mk hAl
  have HCl := Aside0.mk hCl
  have HVl := Aside0.mk hVl
  have HCS := Aside0.mk hCS
  have HVS := Aside0.mk hVS
  have HZ1l := Aside0.mk hZ1l
  have HR1l := Aside0.mk hR1l
  clear hcpA hcpB hold hR1 hR2 hRL hCt hCd hB h1C h1V hCl hVl hs hz0 hzs hCS hVS hCUR hA hAl hZ1 hZ2 hROW hZ1l hZ2l hRl hAA hAv hAg hB1 hK1 h2A h2g hB2 hK2 hg hg2 hG hkk hW1 hW2
  go_enter Try.func70, Try.ntmps70
  go_wp2_with (first
    | (at_builtin; refine Lib.wpList_append_run _ rfl _ _ _ _ rfl _ _ rfl rfl _ _ (hrz _) ?_)
    | (at_builtin; refine Go.Proofs.YtjffakoifpldeaaW.Row.list_copy_ _ rfl _ _ 25 25 rfl _ _ rfl rfl (hc1 _ _ _) ?_)
    | (at_builtin; refine Go.Proofs.YtjffakoifpldeaaW.Row.list_copy_ _ rfl _ _ 25 25 rfl _ _ rfl rfl (hc2 _ _ _) ?_))
  go_region_law (refine Go.Proofs.YtjffakoifpldeaaW.Row.step_copy_ rfl _ _ 25 25 rfl _ _ (by simp [Act.eval, Act.put]) (by simp [Act.eval, Act.put]) (hc2' _ _ _) ?_)
  go_wp2
  go_ret
  have hR1 : R1.toList = (A ++ VS) ++ ROW.toList.drop (i * 3 + VS.length) := by
    rw [HR1.out, HRL.out, List.append_assoc A, List.take_append_of_le_length (by rw [HAl.out]; omega), List.take_of_length_le (by rw [HAl.out]; omega)]
  have hAV : (A ++ VS).length = (i + m) * 3 := by rw [List.length_append, HAl.out, HVl.out]; omega
  have e1 : R1.toList.take ((i + m) * 3) = A ++ VS := by rw [hR1, ← hAV, List.take_left]
  have e2 : R1.toList.drop ((i + m) * 3 + CS.length) = Z2.toList := by
    rw [hR1, ← hAV, ← List.drop_drop, List.drop_left, List.drop_drop, HRL.out, show i * 3 + VS.length + CS.length = (A ++ Z1.toList).length by rw [List.length_append, HAl.out, HZ1l.out, HVl.out, HCl.out]; omega, List.drop_left]
  have e4 : R2 = ((l0.take i ++ l2 ++ l0.drop i).flatMap (fun x : S37 => ([.string x.f0, .string x.f1, .string x.f2] : List Value)) ++ Z2.toList).toArray := by
    rw [HR2.out, e1, e2, HA.out, HCt.out, HVS.out, HCS.out, List.flatMap_append, List.flatMap_append]
  have hrl : (l0.take i ++ l2 ++ l0.drop i).length = n + m := by
    rw [List.length_append, List.length_append, List.length_take, List.length_drop, hn, hmm]
    omega
  have hg3 : ((W2.drew).setRow w.heap.size R2).heap[w.heap.size]? = some (.cells R2 37 (0, 0)) := setRow_heap _ _ _ _ _ _ (show W2.drew.heap[w.heap.size]? = _ from H2A.out)
  refine ⟨_, rfl, impl_Cross_70.plain.of_blk (g := w.heap.size) (cap := G) (t := Z2.toList) (by rw [hrl]; rfl) HSZ.out (.inr (Nat.le_refl _)) (by rw [← e4]; exact hg3) (by rw [hrl]; exact hGn) hGm ?_, Go.Proofs.YtjffakoifpldeaaW.Row.below_setRow (below_drew1 HB2.out) HSZ.out _, Go.Proofs.YtjffakoifpldeaaW.Row.kept_setRow (Kept.drew HK2.out) (.inr (Nat.le_refl _)) _⟩
  have e5 : R2.toList.length = G * 3 := by
    rw [HR2.out]
    simp only [List.length_append, List.length_take, List.length_drop, HR1l.out, HCl.out]
    omega
  rw [e4] at e5
  exact e5
set_option maxHeartbeats 8000000 in
set_option maxRecDepth 100000 in
theorem impl_Cross_70.calls (P0_ : Nat → Prop) (u9000_ : Value) (l0 : List (S37)) (a1 : Int) (P2_ : Nat → Prop) (u9001_ : Value) (l2 : List (S37)) (r : List (S37)) (w0 w : World) (hB : Below w0.heap.size w0 w) (ho0 : Kd.R k37 37 w w0.heap.size P0_ u9000_ l0) (hp0_2 : ∀ k_, P0_ k_ → ¬ P2_ k_) (ho2 : Kd.R k37 37 w w0.heap.size P2_ u9001_ l2) (hp2_0 : ∀ k_, P2_ k_ → ¬ P0_ k_) (h : impl_Cross_70.f l0 a1 l2 = some r) :
    Calls Try.prog 70 #[u9000_, .int .i64 a1, u9001_] w fun e w' => ∃ v0_ : Value, e = .returned (v0_) ∧ Kd.R k37 37 w' w0.heap.size (fun k_ => ((P0_ k_ ∨ P2_ k_) ∨ w.heap.size ≤ k_)) v0_ r ∧ Below w0.heap.size w0 w' ∧ Kept w w' (fun k_ => P0_ k_ ∨ P2_ k_) := by
  unfold impl_Cross_70.f at h
  by_cases h1 : 0 ≤ a1
  · rw [if_pos h1] at h
    by_cases h2 : a1 ≤ (l0.length : Int)
    · rw [if_pos h2] at h
      by_cases h3 : 0 < l2.length
      · rw [if_pos h3] at h
        by_cases h4 : l0.length + l2.length < 2932031007402
        · rw [if_pos h4] at h
          have hr := Option.some.inj h
          obtain ⟨i, rfl⟩ : ∃ i : Nat, a1 = (i : Int) := ⟨a1.toNat, by omega⟩
          rw [Int.toNat_natCast] at hr
          subst hr
          obtain ⟨vb, vc, t2, rfl, _, hP2, hg2, _, _, _⟩ := impl_Cross_70.plain.blk ho2 (fun e => by rw [e] at h3; simp at h3)
          by_cases h5 : i = l0.length
          · subst h5
            rw [List.take_length, List.drop_length, List.append_nil]
            exact impl_Cross_70.ends P0_ P2_ u9000_ l0 l2 vb vc t2 w0 w hB ho0 hg2 h3 h4
          · have hi : i < l0.length := by omega
            obtain ⟨g, cap, t, rfl, hbase, hP, hg, hnc, hcm, hs⟩ := impl_Cross_70.plain.blk ho0 (fun e => by rw [e] at hi; simp at hi)
            by_cases h6 : l0.length + l2.length ≤ cap
            · exact impl_Cross_70.shift P0_ P2_ g cap t i l0 l2 vb vc t2 w0 w hB hP hbase hg hcm hs hg2 (fun e => hp0_2 g hP (by rw [← e]; exact hP2)) hi h3 h6
            · exact impl_Cross_70.grow P0_ P2_ g cap t i l0 l2 vb vc t2 w0 w hB hg hcm hs hg2 hi h3 hnc (by omega) h4
        · rw [if_neg h4] at h
          cases h
      · rw [if_neg h3] at h
        cases h
    · rw [if_neg h2] at h
      cases h
  · rw [if_neg h1] at h
    cases h

end Go.Proofs.Ytjffakoifpldeaa.PFnCross
