-- printed by a program of this session (wip/xp/xprint.py) out of the translation; Lean checks it
import Derived.Test.YtjffakoifpldeaaPFnTakeOncex0
namespace Go.Proofs.Ytjffakoifpldeaa.PFnTakeOnce
open Go.RowKit Go.Proofs.YtjffakoifpldeaaW.PrintWords Go.Proofs.YtjffakoifpldeaaW.PrintLast Go.Proofs.YtjffakoifpldeaaW.PrintMore
attribute [local go_sem] max2_int min2_int max_two min_two max_three min_three max_four min_four   -- for this text's walks alone
set_option linter.unusedVariables false
set_option linter.unusedSimpArgs false

theorem au8_0 {p : Prop} (h : p := by first | rfl | (simp [errW_none, errW_some] <;> rfl) | (simp [*, errW_none, errW_some] <;> rfl)) : p := h
theorem au8_1 {p : Prop} (h : p := by repeat (first | (with_reducible first | exact HB2.out | apply below_alloc | apply pw_below_drewN | apply below_drew1) | exact HB2.out)) : p := h

/-! ### impl_Seen_117: function 117 -/
def impl_Seen_117.f (l0 : List (S62)) : Option (List (S62)) := if l0.length < 5864062014805 then (some l0) else (none)
set_option maxHeartbeats 8000000 in
set_option maxRecDepth 100000 in
theorem impl_Seen_117.calls (A0 : Option Addr) (c0 : Nat) (l0 : List (S62)) (r : List (S62)) (w : World) (hr0 : Kd.C k62 w A0 l0.length l0) (hc0 : l0.length ≤ c0) (h : impl_Seen_117.f l0 = some r) :
    Calls Try.prog 117 #[.slice A0 l0.length c0] w fun e w' => ∃ v0_ : Value, e = .returned (v0_) ∧ Kd.R k62 62 w' w.heap.size (fun _ => True) v0_ r ∧ Below w.heap.size w w' := by
  have hu := Try.underlying49
  have HR := Aside0.mk hr0
  clear hr0
  have HB := Aside0.mk (Below.refl w.heap.size w)
  by_cases hl : l0.length < 5864062014805
  · have H := h
    unfold impl_Seen_117.f at H
    rw [if_pos hl] at H
    obtain rfl := Option.some.inj H
    clear H h
    have HL := Aside0.mk hl
    clear hl
    cases A0 with
    | none =>
      have h0 : l0 = [] := by
        rcases l0 with _ | ⟨x, xs⟩
        · rfl
        · obtain ⟨ad, h1, _⟩ := HR.out.2.2 (by simp)
          cases h1
      subst h0
      have hq := fun (w : World) => Go.Lib.run_eql_slice_nil (P := Try.prog) w 49 62 none 0 c0 0 0 hu
      go_enter Try.func117, Try.ntmps117
      go_wp2
      go_ret
      exact ⟨_, rfl, Kd.R_nil _ _ _ _ _, HB.out⟩
    | some ad =>
      have hq := fun (w : World) => Go.Lib.run_eql_slice_nil (P := Try.prog) w 49 62 (some ad) l0.length c0 0 0 hu
      go_enter Try.func117, Try.ntmps117
      go_wp2_with (first
        | ((with_reducible refine gate_dst (N := 5) rfl ?_); refine Kd.R_lit k62 _ 62 ?hg (N := 5) ?hd (xs := ([] : List (S62))) (inner := []) (ok := fun _ => True) (okp := fun _ => True) ?hr ?hp (fun _ hk => hk) trivial (Below.refl _ _) (Nat.le_refl _) (by simp) ?_; (case hd => rfl); (case hg => rfl); (case hr => exact hr_); (case hp => exact (Reps.none _ _)); intro v1 w1 ho hb hg_ hnew_; clear hg_ hnew_; have HO := Aside0.mk (Kd.R_lower ho (below_size HB.out)); have HB2 := Aside0.mk (below_step HB.out hb); clear ho hb)
        | ((with_reducible refine gate_builtin (b := .append) (xs := #[.tmp 5, .tmp 6]) rfl ?_); at_builtin; refine Kd.R_append_rows k62 (w0 := w) w.heap.size rfl (.tmp 5) (.tmp 6) 49 62 (.agg #[(.int .i64 0), (.int .i64 0), (.int .i64 0)]) 24 rfl Try.underlying49 info62 rfl (by decide) (by omega) v1 ([] : List (S62)) l0 _ _ _ (fun _ => True) (fun _ => False) rfl rfl ?aO ?aR (fun _ _ h => h) (fun _ h => h.elim) ?aF ?aB ?aS ?aL ?_; (case aR => repeat (first | exact (Kd.C_below HR.out HB2.out) | (with_reducible refine Kd.C_alloc ?_ _) | (with_reducible refine Kd.C_drewN ?_ _) | (with_reducible refine Kd.C_drew ?_))); (case aB => exact au8_1); (case aF => exact (fun _ _ => trivial)); (case aO => exact (by (with_reducible repeat (first | apply Kd.R_alloc | apply Kd.R_drewN | apply Kd.R_drew)); exact HO.out)); (case aS => exact (below_size au8_1)); (case aL => have := HL.out; simp only [List.length_nil]; omega); intro v2 w2 ho hb hg hat))
      go_ret
      exact ⟨_, rfl, by (with_reducible repeat (first | apply Kd.R_alloc | apply Kd.R_drewN | apply Kd.R_drew)); exact ho, by repeat (first | (with_reducible first | exact hb | apply below_alloc | apply pw_below_drewN | apply below_drew1) | exact hb)⟩
  · have H := h
    unfold impl_Seen_117.f at H
    rw [if_neg hl] at H
    cases H

/-! ### impl_ownPartner: function 92 -/
def impl_ownPartner.f (a0_0 : ByteArray) (a0_1 : Int) (a0_2 : Int) (l0_3 : List (S62)) : Option (ByteArray × Int × Int × (List (S62))) := (impl_Seen_117.f l0_3).bind fun t192 => (some (a0_0, a0_1, a0_2, t192))
set_option maxHeartbeats 8000000 in
set_option maxRecDepth 100000 in
theorem impl_ownPartner.calls (a0_0 : ByteArray) (a0_1 : Int) (a0_2 : Int) (A0_3 : Option Addr) (c0_3 : Nat) (l0_3 : List (S62)) (r1 : ByteArray) (r2 : Int) (r3 : Int) (r4 : List (S62)) (w : World) (hr0_3 : Kd.C k62 w A0_3 l0_3.length l0_3) (hc0_3 : l0_3.length ≤ c0_3) (h : impl_ownPartner.f a0_0 a0_1 a0_2 l0_3 = some (r1, r2, r3, r4)) :
    Calls Try.prog 92 #[.agg #[.string a0_0, .int .i64 a0_1, .int .i64 a0_2, .slice A0_3 l0_3.length c0_3]] w fun e w' => ∃ v3_ : Value, e = .returned (.agg #[.string r1, .int .i64 r2, .int .i64 r3, v3_]) ∧ Kd.R k62 62 w' w.heap.size (fun _ => True) v3_ r4 ∧ Below w.heap.size w w' := by
  have hu51 := Try.underlying51
  have HR0_3 := Aside0.mk hr0_3
  have HC0_3 := Aside0.mk hc0_3
  clear hr0_3 hc0_3
  have HB := Aside0.mk (Below.refl w.heap.size w)
  have H : ((impl_Seen_117.f l0_3).bind fun t192 => (some (a0_0, a0_1, a0_2, t192))) = some (r1, r2, r3, r4) := h
  clear h
  replace H := Option.bind_eq_some_iff.mp H
  obtain ⟨t192, A20, H⟩ := H
  replace H : (some (a0_0, a0_1, a0_2, t192)) = some (r1, r2, r3, r4) := H
  have A2 := Aside0.mk A20
  clear A20
  simp only [Option.some.injEq, Prod.mk.injEq] at H
  obtain ⟨rfl, rfl, rfl, rfl⟩ := H
  go_enter Try.func92, Try.ntmps92
  go_wp2_with (first | ((with_reducible refine gate_dst (N := 1) rfl ?_); refine box_event ?hg (N := 1) ?hd (cs := #[.string a0_0, .int .i64 a0_1, .int .i64 a0_2, .slice A0_3 l0_3.length c0_3]) (t := 51) ?hr ?_; (case hd => rfl); (case hg => rfl); (case hr => exact hr_); intro gb190 hg w3 hbox hb; have n0_ := Aside0.mk (below_step bl_ hb); have n1_ := Aside0.mk (hbox); have n2_ := Aside0.mk (gw_ hg bl_); have n3_ := Aside0.mk (gw_ hg bl_); clear HB; have HB := n0_; have BK190 := n1_; have GW190 := n2_; have GE190 := n3_; clear n0_ n1_ n2_ n3_; clear hb hbox hg) | ((with_reducible refine gate_dst (N := 2) rfl ?_); refine box_event ?hg (N := 2) ?hd (cs := #[.string (⟨#[]⟩ : ByteArray), .int .i64 0, .int .i64 0, .slice none 0 0]) (t := 51) ?hr ?_; (case hd => rfl); (case hg => rfl); (case hr => exact hr_); intro gb191 hg w4 hbox hb; have n0_ := Aside0.mk (blkb_ BK190 hb); have n1_ := Aside0.mk (below_step bl_ hb); have n2_ := Aside0.mk (hbox); have n3_ := Aside0.mk (gw_ hg bl_); have n4_ := Aside0.mk (gw_ hg bl_); have n5_ := Aside0.mk (gn_ hg (blkl_ BK190)); have n6_ := Aside0.mk (gm_ hg (blkl_ BK190)); clear BK190; clear HB; have BK190 := n0_; have HB := n1_; have BK191 := n2_; have GW191 := n3_; have GE191 := n4_; have NB190_191 := n5_; have NB191_190 := n6_; clear n0_ n1_ n2_ n3_ n4_ n5_ n6_; clear hb hbox hg; have hnb5 := NB190_191.out; have hnc5 := NB191_190.out; obtain ⟨hcz6_0, hcz6_1, hcz6_2, hcz6_3, hfz6_0, hfz6_1, hfz6_2, hfz6_3⟩ := cellsF4 BK190.out) | ((with_reducible refine gate_callee (f := 117) rfl ?_); refine gl_ 5 Try.func117 #[.slice A0_3 l0_3.length c0_3] ?_ rfl rfl rfl rfl; (with_reducible refine (impl_Seen_117.calls _ _ l0_3 t192 _ ?side1 ?side2 A2.out).mono ?_); (case side1 => repeat (first | exact (Kd.C_below HR0_3.out HB.out) | (with_reducible refine Kd.C_alloc ?_ _) | (with_reducible refine Kd.C_drewN ?_ _) | (with_reducible refine Kd.C_drew ?_))); (case side2 => exact HC0_3.out); rintro e w7 ⟨v193, rfl, ho0, hb⟩; refine ⟨_, rfl, ?_⟩; have n0_ := Aside0.mk (Kd.R_lower ho0 (below_size bl_)); have n1_ := Aside0.mk (blkb_ BK190 hb); have n2_ := Aside0.mk (blkb_ BK191 hb); have n3_ := Aside0.mk (below_step bl_ hb); clear BK190; clear BK191; clear HB; have HO194 := n0_; have BK190 := n1_; have BK191 := n2_; have HB := n3_; clear n0_ n1_ n2_ n3_; (try clear hb); (try clear hb2); (try clear hk); (try clear hi); (try clear ho0); obtain ⟨Ao8, co8, eo8⟩ := Kd.R_slice HO194.out; subst eo8; obtain ⟨hcz9_0, hcz9_1, hcz9_2, hcz9_3, hfz9_0, hfz9_1, hfz9_2, hfz9_3⟩ := cellsF4 BK190.out; obtain ⟨hcz10_0, hcz10_1, hcz10_2, hcz10_3, hfz10_0, hfz10_1, hfz10_2, hfz10_3⟩ := cellsF4 BK191.out))
  refine bodyPost_ret (results_cell_row rfl _ _ gb191 51 #[.string a0_0, .int .i64 a0_1, .int .i64 a0_2, .slice Ao8 t192.length co8] (0, 0) _ rfl (by (with_reducible repeat (first | refine blk_drewN ?_ _ | refine blk_drew ?_ | refine blk_alloc ?_ _)); refine blk_put (cs := #[.string a0_0, .int .i64 a0_1, .int .i64 a0_2, .slice none 0 0]) ?_ 3 _ rfl; (with_reducible repeat (first | refine blk_drewN ?_ _ | refine blk_drew ?_ | refine blk_alloc ?_ _)); refine blk_put (cs := #[.string a0_0, .int .i64 a0_1, .int .i64 0, .slice none 0 0]) ?_ 2 _ rfl; (with_reducible repeat (first | refine blk_drewN ?_ _ | refine blk_drew ?_ | refine blk_alloc ?_ _)); refine blk_put (cs := #[.string a0_0, .int .i64 0, .int .i64 0, .slice none 0 0]) ?_ 1 _ rfl; (with_reducible repeat (first | refine blk_drewN ?_ _ | refine blk_drew ?_ | refine blk_alloc ?_ _)); refine blk_put (cs := #[.string (⟨#[]⟩ : ByteArray), .int .i64 0, .int .i64 0, .slice none 0 0]) ?_ 0 _ rfl; (with_reducible repeat (first | refine blk_drewN ?_ _ | refine blk_drew ?_ | refine blk_alloc ?_ _)); refine blk_far ?_ NB191_190.out _; (with_reducible repeat (first | refine blk_drewN ?_ _ | refine blk_drew ?_ | refine blk_alloc ?_ _)); exact BK191.out) Try.underlying51 rfl (by kernel_rfl)) rfl ?_
  exact ⟨_, au8_0, by (with_reducible repeat (first | apply Kd.R_alloc | apply Kd.R_drewN | apply Kd.R_drew)); exact Kd.R_mono (Kd.R_far (p := ⟨gb191, 3, none⟩) (Kd.R_far (p := ⟨gb191, 2, none⟩) (Kd.R_far (p := ⟨gb191, 1, none⟩) (Kd.R_far (p := ⟨gb191, 0, none⟩) (Kd.R_far (p := ⟨gb190, 3, none⟩) (Kd.R_types (Kd.R_types HO194.out BK190.out (by decide)) BK191.out (by decide)) (fun _ hk => hk.1.2) (.slice Ao8 t192.length co8)) (fun _ hk => hk.2) (.string a0_0)) (fun _ hk => hk.2) (.int .i64 a0_1)) (fun _ hk => hk.2) (.int .i64 a0_2)) (fun _ hk => hk.2) (.slice Ao8 t192.length co8)) (fun _ hk => trivial), bl_⟩

/-! ### impl_PartnerTake_1: function 95 -/
def impl_PartnerTake_1.f (a0_0 : Int) (a0_1 : Int) (a0_2 : Int) (a1_0 : ByteArray) (a1_1 : Int) (a1_2 : Int) (l1_3 : List (S62)) : Option (Bool) := some (decide (a0_0 < a1_1))
set_option maxHeartbeats 8000000 in
set_option maxRecDepth 100000 in
theorem impl_PartnerTake_1.calls (a0_0 : Int) (a0_1 : Int) (a0_2 : Int) (gb1 : Nat) (a1_0 : ByteArray) (a1_1 : Int) (a1_2 : Int) (A1_3 : Option Addr) (c1_3 : Nat) (l1_3 : List (S62)) (r : Bool) (w : World) (hb1 : w.heap[gb1]? = some (.cells #[.string a1_0, .int .i64 a1_1, .int .i64 a1_2, .slice A1_3 l1_3.length c1_3] 51 (0, 0))) (h : impl_PartnerTake_1.f a0_0 a0_1 a0_2 a1_0 a1_1 a1_2 l1_3 = some r) :
    Calls Try.prog 95 #[.agg #[.int .i64 a0_0, .int .i64 a0_1, .int .i64 a0_2], .pointer (some ⟨gb1, 0, none⟩)] w fun e w' => e = .returned (.bool r) ∧ Below w.heap.size w w' := by
  have hu62 := Try.underlying62
  have BK1 := Aside0.mk hb1
  clear hb1
  have HB := Aside0.mk (Below.refl w.heap.size w)
  have H : (some (decide (a0_0 < a1_1))) = some r := h
  clear h
  obtain rfl := Option.some.inj H
  go_enter Try.func95, Try.ntmps95
  go_wp2_with (first | ((with_reducible refine gate_dst (N := 2) rfl ?_); refine box_event ?hg (N := 2) ?hd (cs := #[.int .i64 a0_0, .int .i64 a0_1, .int .i64 a0_2]) (t := 62) ?hr ?_; (case hd => rfl); (case hg => rfl); (case hr => exact hr_); intro gb195 hg w3 hbox hb; have n0_ := Aside0.mk (blkb_ BK1 hb); have n1_ := Aside0.mk (below_step bl_ hb); have n2_ := Aside0.mk (hbox); have n3_ := Aside0.mk (gw_ hg bl_); have n4_ := Aside0.mk (gw_ hg bl_); have n5_ := Aside0.mk (gn_ hg (blkl_ BK1)); have n6_ := Aside0.mk (gm_ hg (blkl_ BK1)); clear BK1; clear HB; have BK1 := n0_; have HB := n1_; have BK195 := n2_; have GW195 := n3_; have GE195 := n4_; have NB1_195 := n5_; have NB195_1 := n6_; clear n0_ n1_ n2_ n3_ n4_ n5_ n6_; clear hb hbox hg; have hnb4 := NB195_1.out; have hnc4 := NB1_195.out; obtain ⟨hcz5_0, hcz5_1, hcz5_2, hfz5_0, hfz5_1, hfz5_2⟩ := cellsF3 BK195.out; obtain ⟨hcz6_0, hcz6_1, hcz6_2, hcz6_3, hfz6_0, hfz6_1, hfz6_2, hfz6_3⟩ := cellsF4 BK1.out))
  go_ret
  exact ⟨au8_0, bl_⟩

/-! ### impl_Seen_96: function 96 -/
def impl_Seen_96.f (l0 : List (S62)) (a1 : Int) (l2 : List (S62)) : Option (List (S62)) := if 0 ≤ a1 then (if a1 ≤ (l0.length : Int) then (if 0 < l2.length then (if l0.length + l2.length < 5864062014805 then (some (l0.take a1.toNat ++ l2 ++ l0.drop a1.toNat)) else (none)) else (none)) else (none)) else (none)
theorem impl_Seen_96.plain : Go.Proofs.YtjffakoifpldeaaW.Row.Plain k62 (fun x : S62 => ([.int .i64 x.f0, .int .i64 x.f1, .int .i64 x.f2] : List Value)) where
  K := ⟨fun h => k62_open h, fun h => by rw [h]; exact k62_mk _ _⟩
  M := ⟨fun h => k62_openM h, fun h => by rw [h]; exact k62_mkM _ _ _ _⟩
  sz := rfl
  len := fun x => ⟨_, _, _, rfl⟩
  one := fun x v hv => by
    simp only [List.mem_cons, List.not_mem_nil, or_false] at hv
    rcases hv with rfl | rfl | rfl <;> rfl
set_option maxHeartbeats 8000000 in
set_option maxRecDepth 100000 in
/-- At the end: an append. -/
theorem impl_Seen_96.ends (P0_ P2_ : Nat → Prop) (u9000_ : Value) (l0 l2 : List (S62)) (vb vc : Nat) (t2 : List Value) (w0 w : World) (hB : Below w0.heap.size w0 w) (ho0 : Kd.R k62 62 w w0.heap.size P0_ u9000_ l0) (hg2 : w.heap[vb]? = some (.cells (l2.flatMap (fun x : S62 => ([.int .i64 x.f0, .int .i64 x.f1, .int .i64 x.f2] : List Value)) ++ t2).toArray 62 (0, 0))) (hm : 0 < l2.length) (hlim : l0.length + l2.length < 5864062014805) :
    Calls Try.prog 96 #[u9000_, .int .i64 (l0.length : Int), .slice (some ⟨vb, 0, none⟩) l2.length vc] w fun e w' => ∃ v0_ : Value, e = .returned (v0_) ∧ Kd.R k62 62 w' w0.heap.size (fun k_ => ((P0_ k_ ∨ P2_ k_) ∨ w.heap.size ≤ k_)) v0_ (l0 ++ l2) ∧ Below w0.heap.size w0 w' ∧ Kept w w' (fun k_ => P0_ k_ ∨ P2_ k_) := by
  have hu49 := Try.underlying49
  have hu62 := Try.underlying62
  obtain ⟨A, c, rfl, hc, hC⟩ := Kd.R_reads ho0
  have hz1 : ¬ ((l2.length : Int) = 0) := by omega
  have hz2 : ((l2.length : Int) == 0) = false := beq_eq_false_iff_ne.2 hz1
  have hR2 : Kd.C k62 w (some ⟨vb, 0, none⟩) l2.length l2 := impl_Seen_96.plain.read (by omega) hg2
  have HO := Aside0.mk (Kd.R_mono (ok' := fun k_ => (P0_ k_ ∨ P2_ k_) ∨ w.heap.size ≤ k_) ho0 (fun _ h => .inl (.inl h)))
  have HP := Aside0.mk ho0.1
  have HR2 := Aside0.mk hR2
  have HB := Aside0.mk hB
  clear ho0 hC hR2 hB hg2
  go_enter Try.func96, Try.ntmps96
  have HG : ∀ k_, w.heap.size ≤ k_ → (P0_ k_ ∨ P2_ k_) ∨ w.heap.size ≤ k_ := fun _ h => .inr h
  go_wp2_with ((with_reducible refine gate_builtin (b := .append) (xs := #[.tmp 23, .tmp 24]) rfl ?_); at_builtin; refine Kd.R_append_rows k62 (w0 := w0) w0.heap.size rfl (.tmp 23) (.tmp 24) 49 62 (.agg #[(.int .i64 0), (.int .i64 0), (.int .i64 0)]) 24 rfl Try.underlying49 info62 rfl (by decide) (by omega) (.slice _ l0.length c) l0 l2 _ _ _ (fun k_ => (P0_ k_ ∨ P2_ k_) ∨ w.heap.size ≤ k_) (fun _ => False) rfl rfl ?aO ?aR (fun _ _ h => h) (fun _ h => h.elim) ?aF ?aB ?aS ?aL ?_; (case aR => exact HR2.out); (case aB => exact HB.out); (case aF => exact HG); (case aO => exact HO.out); (case aS => exact HB.out.size); (case aL => omega); intro v2 w2 ho hb hg hat; have HO2 := Aside0.mk ho; have HB2 := Aside0.mk hb; have HG2 := Aside0.mk hg; clear ho hb hg hat)
  all_goals go_ret
  all_goals exact ⟨_, rfl, HO2.out, HB2.out, Kept.of_grown HG2.out (Kept.refl _ _) (fun k hk => .inl (.inl (HP.out k hk)))⟩
set_option maxHeartbeats 8000000 in
set_option maxRecDepth 100000 in
/-- In the midst, with room: in place. -/
theorem impl_Seen_96.shift (P0_ P2_ : Nat → Prop) (g cap : Nat) (t : List Value) (i : Nat) (l0 l2 : List (S62)) (vb vc : Nat) (t2 : List Value) (w0 w : World) (hB : Below w0.heap.size w0 w) (hP : P0_ g) (hbase : w0.heap.size ≤ g) (hg : w.heap[g]? = some (.cells (l0.flatMap (fun x : S62 => ([.int .i64 x.f0, .int .i64 x.f1, .int .i64 x.f2] : List Value)) ++ t).toArray 62 (0, 0))) (hcm : cap ≤ maxLen) (hs : (l0.flatMap (fun x : S62 => ([.int .i64 x.f0, .int .i64 x.f1, .int .i64 x.f2] : List Value)) ++ t).length = cap * 3) (hg2 : w.heap[vb]? = some (.cells (l2.flatMap (fun x : S62 => ([.int .i64 x.f0, .int .i64 x.f1, .int .i64 x.f2] : List Value)) ++ t2).toArray 62 (0, 0))) (hvb : vb ≠ g) (hi : i < l0.length) (hm : 0 < l2.length) (hroom : l0.length + l2.length ≤ cap) :
    Calls Try.prog 96 #[.slice (some ⟨g, 0, none⟩) l0.length cap, .int .i64 (i : Int), .slice (some ⟨vb, 0, none⟩) l2.length vc] w fun e w' => ∃ v0_ : Value, e = .returned (v0_) ∧ Kd.R k62 62 w' w0.heap.size (fun k_ => ((P0_ k_ ∨ P2_ k_) ∨ w.heap.size ≤ k_)) v0_ (l0.take i ++ l2 ++ l0.drop i) ∧ Below w0.heap.size w0 w' ∧ Kept w w' (fun k_ => P0_ k_ ∨ P2_ k_) := by
  have hu49 := Try.underlying49
  have hu62 := Try.underlying62
  obtain ⟨iz, hz0, hz1, hzs, _⟩ := info_parts info62
  have hsz : (Try.prog.info? 62).map (·.size) = some 3 := by rw [hz0]; simp [hzs]
  obtain ⟨n, hn⟩ : ∃ n, l0.length = n := ⟨_, rfl⟩
  obtain ⟨m, hmm⟩ : ∃ m, l2.length = m := ⟨_, rfl⟩
  rw [hn, hmm]
  rw [hn] at hi
  rw [hmm] at hm
  rw [hn, hmm] at hroom
  have hc63 : cap ≤ 9223372036854775807 := by unfold maxLen at hcm; omega
  have hfl0 : (l0.flatMap (fun x : S62 => ([.int .i64 x.f0, .int .i64 x.f1, .int .i64 x.f2] : List Value))).length = n * 3 := by rw [Go.Proofs.YtjffakoifpldeaaW.Row.flat_len impl_Seen_96.plain.l3, hn]
  have hfl2 : (l2.flatMap (fun x : S62 => ([.int .i64 x.f0, .int .i64 x.f1, .int .i64 x.f2] : List Value))).length = m * 3 := by rw [Go.Proofs.YtjffakoifpldeaaW.Row.flat_len impl_Seen_96.plain.l3, hmm]
  obtain ⟨CUR, hCUR⟩ : ∃ CUR, CUR = l0.flatMap (fun x : S62 => ([.int .i64 x.f0, .int .i64 x.f1, .int .i64 x.f2] : List Value)) ++ t := ⟨_, rfl⟩
  rw [← hCUR] at hg hs
  obtain ⟨CS, hCS⟩ : ∃ CS, CS = (l0.drop i).flatMap (fun x : S62 => ([.int .i64 x.f0, .int .i64 x.f1, .int .i64 x.f2] : List Value)) := ⟨_, rfl⟩
  obtain ⟨VS, hVS⟩ : ∃ VS, VS = l2.flatMap (fun x : S62 => ([.int .i64 x.f0, .int .i64 x.f1, .int .i64 x.f2] : List Value)) := ⟨_, rfl⟩
  have hCl : CS.length = (n - i) * 3 := by rw [hCS, Go.Proofs.YtjffakoifpldeaaW.Row.flat_len impl_Seen_96.plain.l3, List.length_drop, hn]
  have hVl : VS.length = m * 3 := by rw [hVS]; exact hfl2
  rw [← hVS] at hg2
  have hCd : CUR.drop (i * 3) = CS ++ t := by rw [hCUR, hCS]; exact Go.Proofs.YtjffakoifpldeaaW.Row.flat_drop impl_Seen_96.plain.l3 l0 t i (by omega)
  have hCt : CUR.take (i * 3) = (l0.take i).flatMap (fun x : S62 => ([.int .i64 x.f0, .int .i64 x.f1, .int .i64 x.f2] : List Value)) := by rw [hCUR]; exact Go.Proofs.YtjffakoifpldeaaW.Row.flat_take impl_Seen_96.plain.l3 l0 t i (by omega)
  have h1C : ∀ v ∈ CS, v.oneCell' = true := fun v hv => by
    rw [hCS, List.mem_flatMap] at hv
    obtain ⟨x, _, hx⟩ := hv
    exact impl_Seen_96.plain.one x v hx
  have h1V : ∀ v ∈ VS, v.oneCell' = true := fun v hv => by
    rw [hVS, List.mem_flatMap] at hv
    obtain ⟨x, _, hx⟩ := hv
    exact impl_Seen_96.plain.one x v hx
  obtain ⟨R1, hR1⟩ : ∃ R1 : Array Value, R1 = (CUR.take ((i + m) * 3) ++ CS ++ CUR.drop ((i + m) * 3 + CS.length)).toArray := ⟨_, rfl⟩
  have hR1l : R1.toList.length = cap * 3 := by
    rw [hR1, List.toList_toArray, List.length_append, List.length_append, List.length_take, List.length_drop, hs, hCl]
    omega
  obtain ⟨R2, hR2⟩ : ∃ R2 : Array Value, R2 = (R1.toList.take (i * 3) ++ VS ++ R1.toList.drop (i * 3 + VS.length)).toArray := ⟨_, rfl⟩
  have hadd : ∀ (b o j : Nat), (⟨b, o, none⟩ : Addr).add j = ⟨b, o + j, none⟩ := fun b o j => by unfold Addr.add; split <;> simp_all
  have hmn1 : Nat.min (n + m - i) (n + m - (i + m)) = n - i := by simp only [Nat.min_def]; split <;> omega
  have hmn2 : Nat.min m (n + m - i) = m := by simp only [Nat.min_def]; split <;> omega
  have hcp1 : ∀ (W : World), W.heap[g]? = some (.cells CUR.toArray 62 (0, 0)) → ∀ ty dc sc, (Builtin.copy_ #[49, 49] ty #[.slice (some ⟨g, (i + m) * 3, none⟩) (n + m - (i + m)) dc, .slice (some ⟨g, i * 3, none⟩) (n + m - i) sc]).run Try.prog W = .ok (goInt ((n - i : Nat) : Int)) (W.setRow g R1) := fun W hW ty dc sc => by
    rw [hR1, ← hmn1]
    exact Go.Proofs.YtjffakoifpldeaaW.Row.run_copy_rowk (P := Try.prog) 3 W 49 49 ty 62 g ((i + m) * 3) _ dc ⟨g, i * 3, none⟩ _ sc CUR.toArray 62 CS hu49 hsz hW (by rw [hmn1, hCl])
      (fun j v hj => by
        rw [hadd, blk_cell hW, List.getElem?_toArray, ← List.getElem?_drop, hCd]
        rw [List.getElem?_append_left (List.getElem?_eq_some_iff.1 hj).1]
        exact hj) (by rw [List.size_toArray, hs, hCl]; omega) h1C
  have hcp2 : ∀ (W : World), W.heap[g]? = some (.cells R1 62 (0, 0)) → W.heap[vb]? = some (.cells (VS ++ t2).toArray 62 (0, 0)) → ∀ ty dc sc, (Builtin.copy_ #[49, 49] ty #[.slice (some ⟨g, i * 3, none⟩) (n + m - i) dc, .slice (some ⟨vb, 0, none⟩) m sc]).run Try.prog W = .ok (goInt m) (W.setRow g R2) := fun W hW hW2 ty dc sc => by
    rw [hR2]
    have := Go.Proofs.YtjffakoifpldeaaW.Row.run_copy_rowk (P := Try.prog) 3 W 49 49 ty 62 g (i * 3) (n + m - i) dc ⟨vb, 0, none⟩ m sc R1 62 VS hu49 hsz hW (by rw [hmn2, hVl])
      (fun j v hj => by
        rw [hadd, blk_cell hW2, List.getElem?_toArray, Nat.zero_add, List.getElem?_append_left (List.getElem?_eq_some_iff.1 hj).1]
        exact hj) (by rw [← Array.length_toList, hR1l, hVl]; omega) h1V
    rwa [hmn2] at this
  have hov : ∀ lb cb, (callFunc 120 #[.slice (some ⟨vb, 0, none⟩) m vc, .slice (some ⟨g, (i + m) * 3, none⟩) lb cb]).run Try.prog w = .ok (.value (.bool false)) w := fun lb cb => by
    rw [run_callFunc_extern Try.func120 (by kernel_rfl) (by kernel_rfl) (by kernel_rfl) (e := Extern.SlicesOverlaps.overlaps #[49, 49] #[4]) (by kernel_rfl),
      Lib.run_overlaps_apart w 49 4 62 hu49 3 (fun _ => by simp [sizeOf, typeInfo, hz0, hzs]) ⟨vb, 0, none⟩ ⟨g, (i + m) * 3, none⟩ m vc lb cb hvb 62 62 _ _ (Go.Proofs.YtjffakoifpldeaaW.Row.shape_of hg2) (Go.Proofs.YtjffakoifpldeaaW.Row.shape_of hg) (by rw [List.size_toArray, hs]; omega) (blk_frozen hg2 _) (blk_frozen hg2 _)]
    rfl
  have hz1 : ¬ ((m : Int) = 0) := by omega
  have hz2 : ¬ ((i : Int) = (n : Int)) := by omega
  have hz3 : ¬ ((cap : Int) < (n : Int) + (m : Int)) := by omega
  have hw1 : IntKind.i64.wrap ((i : Int) + (m : Int)) = (i : Int) + (m : Int) := by rw [IntKind.wrap_i64]; omega
  have hw2 : IntKind.i64.wrap ((n : Int) + (m : Int)) = (n : Int) + (m : Int) := by rw [IntKind.wrap_i64]; omega
  have hb1 : (0 : Int) ≤ (i : Int) + (m : Int) := by omega
  have hin : i ≤ n := by omega
  have htn : ((i : Int) + (m : Int)).toNat = i + m := by omega
  have hb2 : ¬ (cap = i + m) := by omega
  have hb3 : (i : Int) ≤ (n : Int) + (m : Int) := by omega
  have hb4 : ¬ (cap = i) := by omega
  have hgd : w.drew.heap[g]? = some (.cells CUR.toArray 62 (0, 0)) := hg
  obtain ⟨W1, hW1⟩ : ∃ W1, W1 = w.drew.setRow g R1 := ⟨_, rfl⟩
  have hW1g : W1.heap[g]? = some (.cells R1 62 (0, 0)) := by rw [hW1]; exact setRow_heap _ _ _ _ _ _ hgd
  have hW1v : W1.heap[vb]? = some (.cells (VS ++ t2).toArray 62 (0, 0)) := by rw [hW1, setRow_other _ _ _ _ hvb]; exact hg2
  have hc1 := fun ty dc sc => hcp1 w.drew hgd ty dc sc
  rw [← hW1] at hc1
  have hc2 := fun ty dc sc => hcp2 W1 hW1g hW1v ty dc sc
  have HGG := Aside0.mk hgd
  have HW1 := Aside0.mk hW1
  have HW1g := Aside0.mk hW1g
  have HR1 := Aside0.mk hR1
  have HR2 := Aside0.mk hR2
  have HCt := Aside0.mk hCt
  have HCd := Aside0.mk hCd
  have HB := Aside0.mk hB
  have HCl := Aside0.mk hCl
  have HVl := Aside0.mk hVl
  have HS := Aside0.mk hs
  have HCS := Aside0.mk hCS
  have HVS := Aside0.mk hVS
  clear hcp1 hcp2 hgd hg hg2 hW1 hW1g hW1v hR1 hR2 hCt hCd hB h1C h1V hCl hVl hs hz0 hzs hCS hVS hCUR
  go_enter Try.func96, Try.ntmps96
  go_wp2_with (simp only [hov])
  go_region_law (refine Go.Proofs.YtjffakoifpldeaaW.Row.step_copy_ rfl _ _ 49 49 rfl _ _ (by simp [Act.eval, Act.put]) (by simp [Act.eval, Act.put]) (hc1 _ _ _) ?_)
  go_wp2_with (at_builtin; refine Go.Proofs.YtjffakoifpldeaaW.Row.list_copy_ _ rfl _ _ 49 49 rfl _ _ rfl rfl (hc2 _ _ _) ?_)
  go_ret
  have hl1 : (CUR.take ((i + m) * 3)).length = (i + m) * 3 := by rw [List.length_take, HS.out]; omega
  have e1 : R1.toList.take (i * 3) = CUR.take (i * 3) := by
    rw [HR1.out, List.append_assoc, List.take_append_of_le_length (by omega), List.take_take, Nat.min_eq_left (by omega)]
  have e2 : CUR.drop ((i + m) * 3 + CS.length) = t.drop (m * 3) := by
    rw [show (i + m) * 3 + CS.length = i * 3 + (CS.length + m * 3) by omega, ← List.drop_drop, HCd.out, ← List.drop_drop, List.drop_left]
  have e3 : R1.toList.drop (i * 3 + VS.length) = CS ++ t.drop (m * 3) := by
    rw [HR1.out, e2, HVl.out, show i * 3 + m * 3 = (CUR.take ((i + m) * 3)).length by rw [hl1]; omega, List.append_assoc, List.drop_left]
  have e4 : R2 = ((l0.take i ++ l2 ++ l0.drop i).flatMap (fun x : S62 => ([.int .i64 x.f0, .int .i64 x.f1, .int .i64 x.f2] : List Value)) ++ t.drop (m * 3)).toArray := by
    rw [HR2.out, e1, e3, HCt.out, HVS.out, HCS.out, List.flatMap_append, List.flatMap_append]
    simp only [List.append_assoc]
  have hrl : (l0.take i ++ l2 ++ l0.drop i).length = n + m := by
    rw [List.length_append, List.length_append, List.length_take, List.length_drop, hn, hmm]
    omega
  refine ⟨_, rfl, impl_Seen_96.plain.of_blk (g := g) (cap := cap) (t := t.drop (m * 3)) (by rw [hrl]; rfl) hbase (.inl (.inl hP)) (by rw [← e4]; exact setRow_heap _ _ _ _ _ _ HW1g.out) (by rw [hrl]; exact hroom) hcm ?_, ?_, ?_⟩
  · have e5 : R2.toList.length = cap * 3 := by
      rw [HR2.out]
      simp only [List.length_append, List.length_take, List.length_drop, hR1l, HVl.out]
      omega
    rw [e4] at e5
    exact e5
  · rw [HW1.out]
    exact Go.Proofs.YtjffakoifpldeaaW.Row.below_setRow (Go.Proofs.YtjffakoifpldeaaW.Row.below_setRow (below_drew1 HB.out) hbase _) hbase _
  · rw [HW1.out]
    exact Go.Proofs.YtjffakoifpldeaaW.Row.kept_setRow (Go.Proofs.YtjffakoifpldeaaW.Row.kept_setRow (Kept.drew (Kept.refl w _)) (.inl (.inl hP)) _) (.inl (.inl hP)) _
set_option maxHeartbeats 8000000 in
set_option maxRecDepth 100000 in
/-- In the midst, without room: a new row. -/
theorem impl_Seen_96.grow (P0_ P2_ : Nat → Prop) (g cap : Nat) (t : List Value) (i : Nat) (l0 l2 : List (S62)) (vb vc : Nat) (t2 : List Value) (w0 w : World) (hB : Below w0.heap.size w0 w) (hg : w.heap[g]? = some (.cells (l0.flatMap (fun x : S62 => ([.int .i64 x.f0, .int .i64 x.f1, .int .i64 x.f2] : List Value)) ++ t).toArray 62 (0, 0))) (hcm : cap ≤ maxLen) (hs : (l0.flatMap (fun x : S62 => ([.int .i64 x.f0, .int .i64 x.f1, .int .i64 x.f2] : List Value)) ++ t).length = cap * 3) (hg2 : w.heap[vb]? = some (.cells (l2.flatMap (fun x : S62 => ([.int .i64 x.f0, .int .i64 x.f1, .int .i64 x.f2] : List Value)) ++ t2).toArray 62 (0, 0))) (hi : i < l0.length) (hm : 0 < l2.length) (hnc : l0.length ≤ cap) (hroom : cap < l0.length + l2.length) (hlim : l0.length + l2.length < 5864062014805) :
    Calls Try.prog 96 #[.slice (some ⟨g, 0, none⟩) l0.length cap, .int .i64 (i : Int), .slice (some ⟨vb, 0, none⟩) l2.length vc] w fun e w' => ∃ v0_ : Value, e = .returned (v0_) ∧ Kd.R k62 62 w' w0.heap.size (fun k_ => ((P0_ k_ ∨ P2_ k_) ∨ w.heap.size ≤ k_)) v0_ (l0.take i ++ l2 ++ l0.drop i) ∧ Below w0.heap.size w0 w' ∧ Kept w w' (fun k_ => P0_ k_ ∨ P2_ k_) := by
  have hu49 := Try.underlying49
  have hu62 := Try.underlying62
  have hu3 := Try.underlying3
  obtain ⟨iz, hz0, hz1, hzs, hzb⟩ := info_parts info62
  have hsz : (Try.prog.info? 62).map (·.size) = some 3 := by rw [hz0]; simp [hzs]
  obtain ⟨n, hn⟩ : ∃ n, l0.length = n := ⟨_, rfl⟩
  obtain ⟨m, hmm⟩ : ∃ m, l2.length = m := ⟨_, rfl⟩
  rw [hn, hmm]
  rw [hn] at hi hnc
  rw [hmm] at hm
  rw [hn, hmm] at hroom hlim
  have hc63 : cap ≤ 9223372036854775807 := by unfold maxLen at hcm; omega
  have hfl2 : (l2.flatMap (fun x : S62 => ([.int .i64 x.f0, .int .i64 x.f1, .int .i64 x.f2] : List Value))).length = m * 3 := by rw [Go.Proofs.YtjffakoifpldeaaW.Row.flat_len impl_Seen_96.plain.l3, hmm]
  obtain ⟨CUR, hCUR⟩ : ∃ CUR, CUR = l0.flatMap (fun x : S62 => ([.int .i64 x.f0, .int .i64 x.f1, .int .i64 x.f2] : List Value)) ++ t := ⟨_, rfl⟩
  rw [← hCUR] at hg hs
  obtain ⟨CS, hCS⟩ : ∃ CS, CS = (l0.drop i).flatMap (fun x : S62 => ([.int .i64 x.f0, .int .i64 x.f1, .int .i64 x.f2] : List Value)) := ⟨_, rfl⟩
  obtain ⟨VS, hVS⟩ : ∃ VS, VS = l2.flatMap (fun x : S62 => ([.int .i64 x.f0, .int .i64 x.f1, .int .i64 x.f2] : List Value)) := ⟨_, rfl⟩
  have hCl : CS.length = (n - i) * 3 := by rw [hCS, Go.Proofs.YtjffakoifpldeaaW.Row.flat_len impl_Seen_96.plain.l3, List.length_drop, hn]
  have hVl : VS.length = m * 3 := by rw [hVS]; exact hfl2
  rw [← hVS] at hg2
  have hCd : CUR.drop (i * 3) = CS ++ t := by rw [hCUR, hCS]; exact Go.Proofs.YtjffakoifpldeaaW.Row.flat_drop impl_Seen_96.plain.l3 l0 t i (by omega)
  have hCt : CUR.take (i * 3) = (l0.take i).flatMap (fun x : S62 => ([.int .i64 x.f0, .int .i64 x.f1, .int .i64 x.f2] : List Value)) := by rw [hCUR]; exact Go.Proofs.YtjffakoifpldeaaW.Row.flat_take impl_Seen_96.plain.l3 l0 t i (by omega)
  have h1C : ∀ v ∈ CS, v.oneCell' = true := fun v hv => by
    rw [hCS, List.mem_flatMap] at hv
    obtain ⟨x, _, hx⟩ := hv
    exact impl_Seen_96.plain.one x v hx
  have h1V : ∀ v ∈ VS, v.oneCell' = true := fun v hv => by
    rw [hVS, List.mem_flatMap] at hv
    obtain ⟨x, _, hx⟩ := hv
    exact impl_Seen_96.plain.one x v hx
  have hadd : ∀ (b o j : Nat), (⟨b, o, none⟩ : Addr).add j = ⟨b, o + j, none⟩ := fun b o j => by unfold Addr.add; split <;> simp_all
  obtain ⟨A, hA⟩ : ∃ A, A = CUR.take (i * 3) := ⟨_, rfl⟩
  have hAl : A.length = i * 3 := by rw [hA, List.length_take, hs]; omega
  have hik : i + (n + m - i) = n + m := by omega
  have hkk : (n : Int) + (m : Int) - (i : Int) = ((n + m - i : Nat) : Int) := by omega
  obtain ⟨G, hG⟩ : ∃ G, G = grownCap w (n + m) cap 62 := ⟨_, rfl⟩
  have hGn : n + m ≤ G := by rw [hG]; exact grownCap_ge w _ _ _
  have hGm : G ≤ maxLen := by rw [hG]; exact grownCap_le_maxLen w (n + m) cap 62 (by unfold maxLen; omega)
  have hG63 : G ≤ 9223372036854775807 := by unfold maxLen at hGm; omega
  obtain ⟨Z1, hZ1⟩ : ∃ Z1, Z1 = Builtin.zeroCells ((.agg #[(.int .i64 0), (.int .i64 0), (.int .i64 0)]) : Value).cells (n + m - i) := ⟨_, rfl⟩
  obtain ⟨Z2, hZ2⟩ : ∃ Z2, Z2 = Builtin.zeroCells ((.agg #[(.int .i64 0), (.int .i64 0), (.int .i64 0)]) : Value).cells (G - (n + m)) := ⟨_, rfl⟩
  have hZ1l : Z1.toList.length = (n + m - i) * 3 := by rw [hZ1]; exact Go.Proofs.YtjffakoifpldeaaW.Row.zeros_len _ _ _ _
  have hZ2l : Z2.toList.length = (G - (n + m)) * 3 := by rw [hZ2]; exact Go.Proofs.YtjffakoifpldeaaW.Row.zeros_len _ _ _ _
  obtain ⟨ROW, hROW⟩ : ∃ ROW, ROW = A.toArray ++ Z1 ++ Z2 := ⟨_, rfl⟩
  have hRL : ROW.toList = A ++ Z1.toList ++ Z2.toList := by rw [hROW]; simp
  have hold : (Builtin.firstCells iz.size i (.slice (some ⟨g, 0, none⟩) i cap)).run Try.prog w.drew = .ok A.toArray w.drew := by
    rw [hzs]
    exact run_firstCells_some w.drew 3 i ⟨g, 0, none⟩ i cap A hAl (fun j v hj => by
      rw [hadd, Nat.zero_add, blk_cell (show w.drew.heap[g]? = _ from hg), List.getElem?_toArray]
      rw [hA, List.getElem?_take] at hj
      split at hj
      · exact hj
      · cases hj)
  have hrz : ∀ ty, (Builtin.append_ #[49, 3] ty #[.slice (some ⟨g, 0, none⟩) i cap, .int .i64 ((n : Int) + (m : Int) - (i : Int))]).run Try.prog w =
      .ok (.slice (some ⟨w.heap.size, 0, none⟩) (n + m) G) (w.drew.alloc (.cells ROW 62)) := fun ty => by
    have h := Lib.run_append_grow_zeros w 49 3 ty 62 iz _ .i64 .i64 hu49 hu3 hz0 hz1 (some ⟨g, 0, none⟩) i cap A hold (n + m - i) (by omega) (by omega) (by omega) (by omega) (by rw [hzb]; omega) (by rw [hzb, hik]; exact growslice_fits hroom (by omega))
    rw [hik, ← hG, ← hZ1, ← hZ2, ← hROW] at h
    rw [hkk]
    exact h
  obtain ⟨R1, hR1⟩ : ∃ R1 : Array Value, R1 = (ROW.toList.take (i * 3) ++ VS ++ ROW.toList.drop (i * 3 + VS.length)).toArray := ⟨_, rfl⟩
  obtain ⟨R2, hR2⟩ : ∃ R2 : Array Value, R2 = (R1.toList.take ((i + m) * 3) ++ CS ++ R1.toList.drop ((i + m) * 3 + CS.length)).toArray := ⟨_, rfl⟩
  have hRl : ROW.toList.length = G * 3 := by
    rw [hRL, List.length_append, List.length_append, hAl, hZ1l, hZ2l]
    omega
  have hR1l : R1.toList.length = G * 3 := by
    rw [hR1, List.length_append, List.length_append, List.length_take, List.length_drop, hRl, hVl]
    omega
  have hmn1 : Nat.min m (n + m - i) = m := by simp only [Nat.min_def]; split <;> omega
  have hmn2 : Nat.min (n - i) (n + m - (i + m)) = n - i := by simp only [Nat.min_def]; split <;> omega
  have hcpA : ∀ (W : World), W.heap[w.heap.size]? = some (.cells ROW 62 (0, 0)) → W.heap[vb]? = some (.cells (VS ++ t2).toArray 62 (0, 0)) → ∀ ty dc sc, (Builtin.copy_ #[49, 49] ty #[.slice (some ⟨w.heap.size, i * 3, none⟩) (n + m - i) dc, .slice (some ⟨vb, 0, none⟩) m sc]).run Try.prog W = .ok (goInt m) (W.setRow w.heap.size R1) := fun W hW hW2 ty dc sc => by
    rw [hR1]
    have := Go.Proofs.YtjffakoifpldeaaW.Row.run_copy_rowk (P := Try.prog) 3 W 49 49 ty 62 w.heap.size (i * 3) (n + m - i) dc ⟨vb, 0, none⟩ m sc ROW 62 VS hu49 hsz hW (by rw [hmn1, hVl])
      (fun j v hj => by
        rw [hadd, blk_cell hW2, List.getElem?_toArray, Nat.zero_add, List.getElem?_append_left (List.getElem?_eq_some_iff.1 hj).1]
        exact hj) (by rw [← Array.length_toList, hRl, hVl]; omega) h1V
    rwa [hmn1] at this
  have hcpB : ∀ (W : World), W.heap[w.heap.size]? = some (.cells R1 62 (0, 0)) → W.heap[g]? = some (.cells CUR.toArray 62 (0, 0)) → ∀ ty dc sc, (Builtin.copy_ #[49, 49] ty #[.slice (some ⟨w.heap.size, (i + m) * 3, none⟩) (n + m - (i + m)) dc, .slice (some ⟨g, i * 3, none⟩) (n - i) sc]).run Try.prog W = .ok (goInt ((n - i : Nat) : Int)) (W.setRow w.heap.size R2) := fun W hW hW2 ty dc sc => by
    rw [hR2]
    have := Go.Proofs.YtjffakoifpldeaaW.Row.run_copy_rowk (P := Try.prog) 3 W 49 49 ty 62 w.heap.size ((i + m) * 3) (n + m - (i + m)) dc ⟨g, i * 3, none⟩ (n - i) sc R1 62 CS hu49 hsz hW (by rw [hmn2, hCl])
      (fun j v hj => by
        rw [hadd, blk_cell hW2, List.getElem?_toArray, ← List.getElem?_drop, hCd]
        rw [List.getElem?_append_left (List.getElem?_eq_some_iff.1 hj).1]
        exact hj) (by rw [← Array.length_toList, hR1l, hCl]; omega) h1C
    rwa [hmn2] at this
  have hglt : g < w.heap.size := blk_lt hg
  have hvlt : vb < w.heap.size := blk_lt hg2
  have hAA : (w.drew.alloc (.cells ROW 62)).heap[w.heap.size]? = some (.cells ROW 62 (0, 0)) := blk_new w.drew _
  have hAv : (w.drew.alloc (.cells ROW 62)).heap[vb]? = some (.cells (VS ++ t2).toArray 62 (0, 0)) := blk_alloc (w := w.drew) hg2 _
  have hAg : (w.drew.alloc (.cells ROW 62)).heap[g]? = some (.cells CUR.toArray 62 (0, 0)) := blk_alloc (w := w.drew) hg _
  obtain ⟨W1, hW1⟩ : ∃ W1, W1 = w.drew.alloc (.cells ROW 62) := ⟨_, rfl⟩
  have hWW : (w.alloc (.cells ROW 62)).drew = W1 := by rw [hW1]; rfl
  rw [← hW1] at hAA hAv hAg hrz
  have hc1 := fun ty dc sc => hcpA W1 hAA hAv ty dc sc
  have hc1' := fun ty dc sc => hcpA W1.drew hAA hAv ty dc sc
  have hB1 : Below w0.heap.size w0 W1 := by rw [hW1]; exact below_alloc (below_drew1 hB) _
  have hK1 : Kept w W1 (fun k_ => P0_ k_ ∨ P2_ k_) := by rw [hW1]; exact Kept.alloc (Kept.drew (Kept.refl w _)) _
  obtain ⟨W2, hW2⟩ : ∃ W2, W2 = W1.setRow w.heap.size R1 := ⟨_, rfl⟩
  rw [← hW2] at hc1
  have h2A : W2.heap[w.heap.size]? = some (.cells R1 62 (0, 0)) := by rw [hW2]; exact setRow_heap _ _ _ _ _ _ hAA
  have h2g : W2.heap[g]? = some (.cells CUR.toArray 62 (0, 0)) := by rw [hW2, setRow_other _ _ _ _ (by omega)]; exact hAg
  have hB2 : Below w0.heap.size w0 W2 := by rw [hW2]; exact Go.Proofs.YtjffakoifpldeaaW.Row.below_setRow hB1 hB.size _
  have hK2 : Kept w W2 (fun k_ => P0_ k_ ∨ P2_ k_) := by rw [hW2]; exact Go.Proofs.YtjffakoifpldeaaW.Row.kept_setRow hK1 (.inr (Nat.le_refl _)) _
  have hc2 := fun ty dc sc => hcpB W2 h2A h2g ty dc sc
  have hc2' := fun ty dc sc => hcpB W2.drew h2A h2g ty dc sc
  have hz1' : ¬ ((m : Int) = 0) := by omega
  have hz2' : ¬ ((i : Int) = (n : Int)) := by omega
  have hz3 : (cap : Int) < (n : Int) + (m : Int) := by omega
  have hw1 : IntKind.i64.wrap ((i : Int) + (m : Int)) = (i : Int) + (m : Int) := by rw [IntKind.wrap_i64]; omega
  have hb1 : (0 : Int) ≤ (i : Int) + (m : Int) := by omega
  have hin : i ≤ n := by omega
  have htn : ((i : Int) + (m : Int)).toNat = i + m := by omega
  have hGi : ¬ (G = i) := by omega
  have hGim : ¬ (G = i + m) := by omega
  have hci : ¬ (cap = i) := by omega
  have hb3 : (i : Int) ≤ (n : Int) := by omega
  have hicap : (i : Int) ≤ (cap : Int) := by omega
  have H2A := Aside0.mk h2A
  have HB2 := Aside0.mk hB2
  have HK2 := Aside0.mk hK2
  have HSZ := Aside0.mk hB.size
  have HR1 := Aside0.mk hR1
  have HR2 := Aside0.mk hR2
  have HRL := Aside0.mk hRL
  have HCt := Aside0.mk hCt
  have HA := Aside0.mk hA
  have HAl := Aside0.mk hAl
  have HCl := Aside0.mk hCl
  have HVl := Aside0.mk hVl
  have HCS := Aside0.mk hCS
  have HVS := Aside0.mk hVS
  have HZ1l := Aside0.mk hZ1l
  have HR1l := Aside0.mk hR1l
  clear hcpA hcpB hold hR1 hR2 hRL hCt hCd hB h1C h1V hCl hVl hs hz0 hzs hCS hVS hCUR hA hAl hZ1 hZ2 hROW hZ1l hZ2l hRl hAA hAv hAg hB1 hK1 h2A h2g hB2 hK2 hg hg2 hG hkk hW1 hW2
  go_enter Try.func96, Try.ntmps96
  go_wp2_with (first
    | (at_builtin; refine Lib.wpList_append_run _ rfl _ _ _ _ rfl _ _ rfl rfl _ _ (hrz _) ?_)
    | (at_builtin; refine Go.Proofs.YtjffakoifpldeaaW.Row.list_copy_ _ rfl _ _ 49 49 rfl _ _ rfl rfl (hc1 _ _ _) ?_)
    | (at_builtin; refine Go.Proofs.YtjffakoifpldeaaW.Row.list_copy_ _ rfl _ _ 49 49 rfl _ _ rfl rfl (hc2 _ _ _) ?_))
  go_region_law (refine Go.Proofs.YtjffakoifpldeaaW.Row.step_copy_ rfl _ _ 49 49 rfl _ _ (by simp [Act.eval, Act.put]) (by simp [Act.eval, Act.put]) (hc2' _ _ _) ?_)
  go_wp2
  go_ret
  have hR1 : R1.toList = (A ++ VS) ++ ROW.toList.drop (i * 3 + VS.length) := by
    rw [HR1.out, HRL.out, List.append_assoc A, List.take_append_of_le_length (by rw [HAl.out]; omega), List.take_of_length_le (by rw [HAl.out]; omega)]
  have hAV : (A ++ VS).length = (i + m) * 3 := by rw [List.length_append, HAl.out, HVl.out]; omega
  have e1 : R1.toList.take ((i + m) * 3) = A ++ VS := by rw [hR1, ← hAV, List.take_left]
  have e2 : R1.toList.drop ((i + m) * 3 + CS.length) = Z2.toList := by
    rw [hR1, ← hAV, ← List.drop_drop, List.drop_left, List.drop_drop, HRL.out, show i * 3 + VS.length + CS.length = (A ++ Z1.toList).length by rw [List.length_append, HAl.out, HZ1l.out, HVl.out, HCl.out]; omega, List.drop_left]
  have e4 : R2 = ((l0.take i ++ l2 ++ l0.drop i).flatMap (fun x : S62 => ([.int .i64 x.f0, .int .i64 x.f1, .int .i64 x.f2] : List Value)) ++ Z2.toList).toArray := by
    rw [HR2.out, e1, e2, HA.out, HCt.out, HVS.out, HCS.out, List.flatMap_append, List.flatMap_append]
  have hrl : (l0.take i ++ l2 ++ l0.drop i).length = n + m := by
    rw [List.length_append, List.length_append, List.length_take, List.length_drop, hn, hmm]
    omega
  have hg3 : ((W2.drew).setRow w.heap.size R2).heap[w.heap.size]? = some (.cells R2 62 (0, 0)) := setRow_heap _ _ _ _ _ _ (show W2.drew.heap[w.heap.size]? = _ from H2A.out)
  refine ⟨_, rfl, impl_Seen_96.plain.of_blk (g := w.heap.size) (cap := G) (t := Z2.toList) (by rw [hrl]; rfl) HSZ.out (.inr (Nat.le_refl _)) (by rw [← e4]; exact hg3) (by rw [hrl]; exact hGn) hGm ?_, Go.Proofs.YtjffakoifpldeaaW.Row.below_setRow (below_drew1 HB2.out) HSZ.out _, Go.Proofs.YtjffakoifpldeaaW.Row.kept_setRow (Kept.drew HK2.out) (.inr (Nat.le_refl _)) _⟩
  have e5 : R2.toList.length = G * 3 := by
    rw [HR2.out]
    simp only [List.length_append, List.length_take, List.length_drop, HR1l.out, HCl.out]
    omega
  rw [e4] at e5
  exact e5
set_option maxHeartbeats 8000000 in
set_option maxRecDepth 100000 in
theorem impl_Seen_96.calls (P0_ : Nat → Prop) (u9000_ : Value) (l0 : List (S62)) (a1 : Int) (P2_ : Nat → Prop) (u9001_ : Value) (l2 : List (S62)) (r : List (S62)) (w0 w : World) (hB : Below w0.heap.size w0 w) (ho0 : Kd.R k62 62 w w0.heap.size P0_ u9000_ l0) (hp0_2 : ∀ k_, P0_ k_ → ¬ P2_ k_) (ho2 : Kd.R k62 62 w w0.heap.size P2_ u9001_ l2) (hp2_0 : ∀ k_, P2_ k_ → ¬ P0_ k_) (h : impl_Seen_96.f l0 a1 l2 = some r) :
    Calls Try.prog 96 #[u9000_, .int .i64 a1, u9001_] w fun e w' => ∃ v0_ : Value, e = .returned (v0_) ∧ Kd.R k62 62 w' w0.heap.size (fun k_ => ((P0_ k_ ∨ P2_ k_) ∨ w.heap.size ≤ k_)) v0_ r ∧ Below w0.heap.size w0 w' ∧ Kept w w' (fun k_ => P0_ k_ ∨ P2_ k_) := by
  unfold impl_Seen_96.f at h
  by_cases h1 : 0 ≤ a1
  · rw [if_pos h1] at h
    by_cases h2 : a1 ≤ (l0.length : Int)
    · rw [if_pos h2] at h
      by_cases h3 : 0 < l2.length
      · rw [if_pos h3] at h
        by_cases h4 : l0.length + l2.length < 5864062014805
        · rw [if_pos h4] at h
          have hr := Option.some.inj h
          obtain ⟨i, rfl⟩ : ∃ i : Nat, a1 = (i : Int) := ⟨a1.toNat, by omega⟩
          rw [Int.toNat_natCast] at hr
          subst hr
          obtain ⟨vb, vc, t2, rfl, _, hP2, hg2, _, _, _⟩ := impl_Seen_96.plain.blk ho2 (fun e => by rw [e] at h3; simp at h3)
          by_cases h5 : i = l0.length
          · subst h5
            rw [List.take_length, List.drop_length, List.append_nil]
            exact impl_Seen_96.ends P0_ P2_ u9000_ l0 l2 vb vc t2 w0 w hB ho0 hg2 h3 h4
          · have hi : i < l0.length := by omega
            obtain ⟨g, cap, t, rfl, hbase, hP, hg, hnc, hcm, hs⟩ := impl_Seen_96.plain.blk ho0 (fun e => by rw [e] at hi; simp at hi)
            by_cases h6 : l0.length + l2.length ≤ cap
            · exact impl_Seen_96.shift P0_ P2_ g cap t i l0 l2 vb vc t2 w0 w hB hP hbase hg hcm hs hg2 (fun e => hp0_2 g hP (by rw [← e]; exact hP2)) hi h3 h6
            · exact impl_Seen_96.grow P0_ P2_ g cap t i l0 l2 vb vc t2 w0 w hB hg hcm hs hg2 hi h3 hnc (by omega) h4
        · rw [if_neg h4] at h
          cases h
      · rw [if_neg h3] at h
        cases h
    · rw [if_neg h2] at h
      cases h
  · rw [if_neg h1] at h
    cases h

/-! ### impl_Seen_118__impl_PartnerTake_1: function 118 -/
def impl_Seen_118__impl_PartnerTake_1.l0 : Nat → List (S62) → Int → Int → ByteArray → Int → Int → List (S62) → Option (Int)
  | 0, _, _, _, _, _, _, _ => none
  | k + 1, x0, x7, x8, x2000, x2001, x2002, x2003 => if x8 < x7 then (if 0 ≤ x8 then (if x8 < (x0.length : Int) then ((impl_PartnerTake_1.f ((rd_T62 x0 x8).f0) ((rd_T62 x0 x8).f1) ((rd_T62 x0 x8).f2) x2000 x2001 x2002 x2003).bind fun t197 => (if t197 = true then (some x8) else (impl_Seen_118__impl_PartnerTake_1.l0 k x0 x7 (wrap64 (x8 + 1)) x2000 x2001 x2002 x2003))) else (none)) else (none)) else (some (-1))
def impl_Seen_118__impl_PartnerTake_1.f (k : Nat) (l0 : List (S62)) (a1_0 : ByteArray) (a1_1 : Int) (a1_2 : Int) (l1_3 : List (S62)) : Option (Int) := impl_Seen_118__impl_PartnerTake_1.l0 k l0 (l0.length : Int) 0 a1_0 a1_1 a1_2 l1_3
theorem impl_Seen_118__impl_PartnerTake_1.mono_l : ∀ k, (∀ y0 y1 y2 y3 y4 y5 y6, LeO (impl_Seen_118__impl_PartnerTake_1.l0 k y0 y1 y2 y3 y4 y5 y6) (impl_Seen_118__impl_PartnerTake_1.l0 (k + 1) y0 y1 y2 y3 y4 y5 y6))
  | 0 => fun _ _ _ _ _ _ _ r h => by simp [impl_Seen_118__impl_PartnerTake_1.l0] at h
  | k + 1 => by
    have ih0 := impl_Seen_118__impl_PartnerTake_1.mono_l k
    · intro y0 y1 y2 y3 y4 y5 y6
      unfold impl_Seen_118__impl_PartnerTake_1.l0
      repeat' first
      | (with_reducible exact ih0 _ _ _ _ _ _ _)
      | (with_reducible exact LeO.refl _)
      | (with_reducible exact LeO.none _)
      | (with_reducible refine LeO.ite ?_ ?_)
      | (with_reducible refine LeO.bind ?_ (fun _ => ?_))
      | exact ih0 _ _ _ _ _ _ _
      | exact LeO.none _
      | refine LeO.ite ?_ ?_
      | refine LeO.bind ?_ (fun _ => ?_)
theorem impl_Seen_118__impl_PartnerTake_1.mono : ∀ a0 a1 a2 a3 a4 k, LeO (impl_Seen_118__impl_PartnerTake_1.f k a0 a1 a2 a3 a4) (impl_Seen_118__impl_PartnerTake_1.f (k + 1) a0 a1 a2 a3 a4) := by
  intro a0 a1 a2 a3 a4 k
  have ih0 := impl_Seen_118__impl_PartnerTake_1.mono_l k
  unfold impl_Seen_118__impl_PartnerTake_1.f
  repeat' first
      | (with_reducible exact ih0 _ _ _ _ _ _ _)
      | (with_reducible exact LeO.refl _)
      | (with_reducible exact LeO.none _)
      | (with_reducible refine LeO.ite ?_ ?_)
      | (with_reducible refine LeO.bind ?_ (fun _ => ?_))
      | exact ih0 _ _ _ _ _ _ _
      | exact LeO.none _
      | refine LeO.ite ?_ ?_
      | refine LeO.bind ?_ (fun _ => ?_)
set_option maxHeartbeats 8000000 in
set_option maxRecDepth 100000 in
theorem impl_Seen_118__impl_PartnerTake_1.calls (k : Nat) (A0 : Option Addr) (c0 : Nat) (l0 : List (S62)) (gb1 : Nat) (a1_0 : ByteArray) (a1_1 : Int) (a1_2 : Int) (A1_3 : Option Addr) (c1_3 : Nat) (l1_3 : List (S62)) (r : Int) (w : World) (hr0 : Kd.C k62 w A0 l0.length l0) (hc0 : l0.length ≤ c0) (hb1 : w.heap[gb1]? = some (.cells #[.string a1_0, .int .i64 a1_1, .int .i64 a1_2, .slice A1_3 l1_3.length c1_3] 51 (0, 0))) (h : impl_Seen_118__impl_PartnerTake_1.f k l0 a1_0 a1_1 a1_2 l1_3 = some r) :
    Calls Try.prog 118 #[.slice A0 l0.length c0, .func (.func 95) #[] #[.pointer (some ⟨gb1, 0, none⟩)]] w fun e w' => e = .returned (.int .i64 r) ∧ Below w.heap.size w w' := by
  have hu62 := Try.underlying62
  have HR0 := Aside0.mk hr0
  have HC0 := Aside0.mk hc0
  clear hr0 hc0
  have BK1 := Aside0.mk hb1
  clear hb1
  have HB := Aside0.mk (Below.refl w.heap.size w)
  have H : (impl_Seen_118__impl_PartnerTake_1.l0 k l0 (l0.length : Int) 0 a1_0 a1_1 a1_2 l1_3) = some r := h
  clear h
  have H' := Aside0.mk H
  clear H
  go_enter Try.func118, Try.ntmps118
  go_wp2
  go_loopg [8] k (fun kq v8 w' => ∃ (x8_1 : Int), v8 = .int .i64 x8_1 ∧ Aside0 (impl_Seen_118__impl_PartnerTake_1.l0 kq l0 (l0.length : Int) x8_1 a1_0 a1_1 a1_2 l1_3 = some r) ∧ Aside0 (kq ≤ k) ∧ Aside0 (w'.heap[gb1]? = some (.cells #[.string a1_0, .int .i64 a1_1, .int .i64 a1_2, (.slice A1_3 l1_3.length c1_3)] 51 (0, 0))) ∧ Aside0 (Below w.heap.size w w'))
  case atStart => exact ⟨(0), er_, H', ⟨Nat.le_refl _⟩, ⟨bk_ BK1⟩, ⟨bl_⟩⟩
  case round =>
    clear H'
    try clear c1
    try clear p2
    obtain ⟨x8_1, rfl, HA, HK1, BK1, HB⟩ := hrel
    cases gk with
    | zero => exact absurd HA.out (by simp [impl_Seen_118__impl_PartnerTake_1.l0])
    | succ k1 =>
      have H := HA.out
      clear HA
      simp only [impl_Seen_118__impl_PartnerTake_1.l0] at H
      by_cases c3 : x8_1 < (l0.length : Int)
      · rw [if_pos c3] at H
        have c3b0 : decide (x8_1 < (l0.length : Int)) = true := decide_eq_true c3
        clear c3
        by_cases c4 : 0 ≤ x8_1
        · rw [if_pos c4] at H
          have c4b0 : decide (0 ≤ x8_1) = true := decide_eq_true c4
          clear c4
          by_cases c5 : x8_1 < (l0.length : Int)
          · rw [if_pos c5] at H
            have c5b0 : decide (x8_1 < (l0.length : Int)) = true := decide_eq_true c5
            clear c5
            replace H := Option.bind_eq_some_iff.mp H
            obtain ⟨t197, A60, H⟩ := H
            replace H : (if t197 = true then (some x8_1) else (impl_Seen_118__impl_PartnerTake_1.l0 k1 l0 (l0.length : Int) (wrap64 (x8_1 + 1)) a1_0 a1_1 a1_2 l1_3)) = some r := H
            have A6 := Aside0.mk A60
            clear A60
            by_cases c7 : t197 = true
            · subst c7
              have H1 : (some x8_1) = some r := by rw [if_pos rfl] at H; exact H
              clear H
              have H := H1
              clear H1
              obtain rfl := Option.some.inj H
              have p196 : 0 ≤ (x8_1 : Int) := of_decide_eq_true as_
              have q196 : x8_1 < (l0.length : Int) := of_decide_eq_true as_
              obtain ⟨ad196, e196, hx196_0, hx196_1, hx196_2⟩ := at_T62 HR0.out x8_1 p196 q196
              cases e196
              replace hx196_0 := (HB.out.cell (World.block_lt_of_cell? _ _ hx196_0)).trans hx196_0
              replace hx196_1 := (HB.out.cell (World.block_lt_of_cell? _ _ hx196_1)).trans hx196_1
              replace hx196_2 := (HB.out.cell (World.block_lt_of_cell? _ _ hx196_2)).trans hx196_2
              replace p196 := eq_true p196
              replace q196 := eq_true q196
              go_wp2_with (first | (go_at_call 95; (with_reducible refine (impl_PartnerTake_1.calls ((rd_T62 l0 x8_1).f0) ((rd_T62 l0 x8_1).f1) ((rd_T62 l0 x8_1).f2) gb1 a1_0 a1_1 a1_2 A1_3 c1_3 l1_3 true _ ?side1 A6.out).mono ?_); (case side1 => exact (bk_ BK1)); rintro e w8 ⟨rfl, hb⟩; have n0_ := Aside0.mk (blkb_ BK1 hb); have n1_ := Aside0.mk (below_step bl_ hb); clear BK1; clear HB; have BK1 := n0_; have HB := n1_; clear n0_ n1_; (try clear hb); (try clear hb2); (try clear hk); (try clear hi)))
              go_ret
              exact ⟨au8_0, bl_⟩
            · replace c7 := Bool.eq_false_iff.mpr c7
              subst c7
              have H1 : (impl_Seen_118__impl_PartnerTake_1.l0 k1 l0 (l0.length : Int) (wrap64 (x8_1 + 1)) a1_0 a1_1 a1_2 l1_3) = some r := by rw [if_neg (show ¬ (false = true) by decide)] at H; exact H
              clear H
              have H := H1
              clear H1
              have H' := Aside0.mk H
              clear H
              have p196 : 0 ≤ (x8_1 : Int) := of_decide_eq_true as_
              have q196 : x8_1 < (l0.length : Int) := of_decide_eq_true as_
              obtain ⟨ad196, e196, hx196_0, hx196_1, hx196_2⟩ := at_T62 HR0.out x8_1 p196 q196
              cases e196
              replace hx196_0 := (HB.out.cell (World.block_lt_of_cell? _ _ hx196_0)).trans hx196_0
              replace hx196_1 := (HB.out.cell (World.block_lt_of_cell? _ _ hx196_1)).trans hx196_1
              replace hx196_2 := (HB.out.cell (World.block_lt_of_cell? _ _ hx196_2)).trans hx196_2
              replace p196 := eq_true p196
              replace q196 := eq_true q196
              go_wp2_with (first | (go_at_call 95; (with_reducible refine (impl_PartnerTake_1.calls ((rd_T62 l0 x8_1).f0) ((rd_T62 l0 x8_1).f1) ((rd_T62 l0 x8_1).f2) gb1 a1_0 a1_1 a1_2 A1_3 c1_3 l1_3 false _ ?side1 A6.out).mono ?_); (case side1 => exact (bk_ BK1)); rintro e w9 ⟨rfl, hb⟩; have n0_ := Aside0.mk (blkb_ BK1 hb); have n1_ := Aside0.mk (below_step bl_ hb); clear BK1; clear HB; have BK1 := n0_; have HB := n1_; clear n0_ n1_; (try clear hb); (try clear hb2); (try clear hk); (try clear hi)))
              go_roundg k1
              case measure => have := HK1.out; omega
              case rel => exact ⟨(wrap64 (x8_1 + 1)), er_, H', ⟨by have := HK1.out; omega⟩, ⟨bk_ BK1⟩, ⟨bl_⟩⟩
          · rw [if_neg c5] at H
            exact absurd H (by simp)
        · rw [if_neg c4] at H
          exact absurd H (by simp)
      · rw [if_neg c3] at H
        have c3b0 : decide (x8_1 < (l0.length : Int)) = false := decide_eq_false c3
        clear c3
        obtain rfl := Option.some.inj H
        go_wp2
        go_ret
        exact ⟨au8_0, bl_⟩

/-! ### impl_Seen_94__impl_PartnerTake_1: function 94 -/
def impl_Seen_94__impl_PartnerTake_1.f (k : Nat) (l0 : List (S62)) (a1_0 : ByteArray) (a1_1 : Int) (a1_2 : Int) (l1_3 : List (S62)) : Option (List (S62)) := (impl_Seen_118__impl_PartnerTake_1.f k l0 a1_0 a1_1 a1_2 l1_3).bind fun i => if i = -1 then (some l0) else (if 0 ≤ i then (if i < (l0.length : Int) then (some (l0.take i.toNat ++ (l0.drop (i.toNat + 1)).filter (fun x => !((impl_PartnerTake_1.f x.f0 x.f1 x.f2 a1_0 a1_1 a1_2 l1_3).getD false)))) else (none)) else (none))
theorem impl_Seen_94__impl_PartnerTake_1.mono : ∀ l0 a1_0 a1_1 a1_2 l1_3 k, LeO (impl_Seen_94__impl_PartnerTake_1.f k l0 a1_0 a1_1 a1_2 l1_3) (impl_Seen_94__impl_PartnerTake_1.f (k + 1) l0 a1_0 a1_1 a1_2 l1_3) := by
  intro l0 a1_0 a1_1 a1_2 l1_3 k
  unfold impl_Seen_94__impl_PartnerTake_1.f
  exact LeO.bind (impl_Seen_118__impl_PartnerTake_1.mono _ _ _ _ _ _) (fun _ => LeO.refl _)
theorem impl_Seen_94__impl_PartnerTake_1.plain : Go.Proofs.YtjffakoifpldeaaW.Row.Plain k62 (fun x : S62 => ([.int .i64 x.f0, .int .i64 x.f1, .int .i64 x.f2] : List Value)) where
  K := ⟨fun h => k62_open h, fun h => by rw [h]; exact k62_mk _ _⟩
  M := ⟨fun h => k62_openM h, fun h => by rw [h]; exact k62_mkM _ _ _ _⟩
  sz := rfl
  len := fun x => ⟨_, _, _, rfl⟩
  one := fun x v hv => by
    simp only [List.mem_cons, List.not_mem_nil, or_false] at hv
    rcases hv with rfl | rfl | rfl <;> rfl
theorem impl_Seen_94__impl_PartnerTake_1.some_ (u : S62) (a1_0 : ByteArray) (a1_1 : Int) (a1_2 : Int) (l1_3 : List (S62)) : ∃ b, impl_PartnerTake_1.f u.f0 u.f1 u.f2 a1_0 a1_1 a1_2 l1_3 = some b := by
  unfold impl_PartnerTake_1.f
  repeat' split
  all_goals exact ⟨_, rfl⟩
set_option maxHeartbeats 8000000 in
set_option maxRecDepth 100000 in
theorem impl_Seen_94__impl_PartnerTake_1.calls (k : Nat) (P0_ : Nat → Prop) (u9000_ : Value) (l0 : List (S62)) (gb1 : Nat) (a1_0 : ByteArray) (a1_1 : Int) (a1_2 : Int) (A1_3 : Option Addr) (c1_3 : Nat) (l1_3 : List (S62)) (r : List (S62)) (w0 w : World) (hB : Below w0.heap.size w0 w) (ho0 : Kd.R k62 62 w w0.heap.size P0_ u9000_ l0) (hb1 : w.heap[gb1]? = some (.cells #[.string a1_0, .int .i64 a1_1, .int .i64 a1_2, .slice A1_3 l1_3.length c1_3] 51 (0, 0))) (hn1 : ¬ P0_ gb1) (h : impl_Seen_94__impl_PartnerTake_1.f k l0 a1_0 a1_1 a1_2 l1_3 = some r) :
    Calls Try.prog 94 #[u9000_, .func (.func 95) #[] #[.pointer (some ⟨gb1, 0, none⟩)]] w fun e w' => ∃ v0_ : Value, e = .returned (v0_) ∧ Kd.R k62 62 w' w0.heap.size (fun k_ => (P0_ k_ ∨ w.heap.size ≤ k_)) v0_ r ∧ Below w0.heap.size w0 w' ∧ Kept w w' (fun k_ => P0_ k_) := by
  have hu62 := Try.underlying62
  have hu49 := Try.underlying49
  unfold impl_Seen_94__impl_PartnerTake_1.f at h
  obtain ⟨i, hi, h⟩ := Option.bind_eq_some_iff.mp h
  have HI := Aside0.mk hi
  clear hi
  have HO := Aside0.mk ho0
  have BK := Aside0.mk hb1
  have HB0 := Aside0.mk hB
  have HN := Aside0.mk hn1
  clear ho0 hb1 hB hn1
  by_cases h1 : i = -1
  · rw [if_pos h1] at h
    obtain rfl := Option.some.inj h
    subst h1
    clear h
    obtain ⟨A, c, rfl, hc, hC⟩ := Kd.R_reads HO.out
    have HC := Aside0.mk hC
    have HL := Aside0.mk hc
    clear hC hc
    go_enter Try.func94, Try.ntmps94
    go_wp2_with (go_at_call 118; (with_reducible refine (impl_Seen_118__impl_PartnerTake_1.calls k _ _ l0 gb1 a1_0 a1_1 a1_2 A1_3 c1_3 l1_3 (-1) _ ?side1 ?side2 ?side3 HI.out).mono ?_); (case side1 => exact HC.out); (case side2 => exact HL.out); (case side3 => exact BK.out); rintro e w1 ⟨rfl, hb⟩; have HB := Aside0.mk hb; clear hb)
    go_ret
    exact ⟨_, rfl, Kd.R_mono (Kd.R_below HO.out HB.out) (fun _ h => .inl h), below_step HB0.out HB.out, Kept.of_below HB.out _⟩
  · rw [if_neg h1] at h
    by_cases h2 : 0 ≤ i
    · rw [if_pos h2] at h
      by_cases h3 : i < (l0.length : Int)
      · rw [if_pos h3] at h
        have hr := Option.some.inj h
        clear h
        obtain ⟨i0, rfl⟩ : ∃ i0 : Nat, i = (i0 : Int) := ⟨i.toNat, by omega⟩
        simp only [Int.toNat_natCast] at hr
        have hi0 : i0 < l0.length := by omega
        have hne : l0 ≠ [] := fun e => by rw [e] at hi0; simp at hi0
        obtain ⟨g, cap, t, rfl, hbase, hP, hg, hn, hm, hs⟩ := impl_Seen_94__impl_PartnerTake_1.plain.blk HO.out hne
        have hne1 : ((i0 : Int) == -1) = false := beq_eq_false_iff_ne.2 h1
        have hC : Kd.C k62 w (some ⟨g, 0, none⟩) l0.length l0 := impl_Seen_94__impl_PartnerTake_1.plain.read (by unfold maxLen at hm; omega) hg
        have HC := Aside0.mk hC
        have HG := Aside0.mk hg
        have HS := Aside0.mk hs
        have HR := Aside0.mk hr
        have HP := Aside0.mk hP
        have HBS := Aside0.mk hbase
        have HL := Aside0.mk hn
        have HM := Aside0.mk hm
        have hgb : g ≠ gb1 := fun e => HN.out (by rw [← e]; exact hP)
        have hcap : cap ≤ 9223372036854775807 := by unfold maxLen at hm; omega
        have hl63 : l0.length ≤ 9223372036854775807 := by omega
        clear hC hg hs hr hP hbase hn hm h1 h2 h3 hne
        go_enter Try.func94, Try.ntmps94
        go_wp2_with (go_at_call 118; (with_reducible refine (impl_Seen_118__impl_PartnerTake_1.calls k _ _ l0 gb1 a1_0 a1_1 a1_2 A1_3 c1_3 l1_3 (i0 : Int) _ ?side1 ?side2 ?side3 HI.out).mono ?_); (case side1 => exact HC.out); (case side2 => exact HL.out); (case side3 => exact BK.out); rintro e w1 ⟨rfl, hb⟩; have HB := Aside0.mk hb; clear hb)
        go_loopg [5, 6, 7] l0.length (fun gg s5 s6 _ wr => ∃ (i j : Nat) (dk : List (S62)), s5 = .int .i64 i ∧ s6 = .int .i64 j ∧ i < j ∧ j ≤ l0.length ∧ l0.length - j ≤ gg ∧ Aside0 (dk.length = l0.length) ∧ Aside0 (dk.drop j = l0.drop j) ∧ Aside0 (dk.take i ++ (l0.drop j).filter (fun x => !((impl_PartnerTake_1.f x.f0 x.f1 x.f2 a1_0 a1_1 a1_2 l1_3).getD false)) = r) ∧ Aside0 (wr.heap[g]? = some (.cells (dk.flatMap (fun x : S62 => ([.int .i64 x.f0, .int .i64 x.f1, .int .i64 x.f2] : List Value)) ++ t).toArray 62 (0, 0))) ∧ Aside0 (wr.heap[gb1]? = some (.cells #[.string a1_0, .int .i64 a1_1, .int .i64 a1_2, .slice A1_3 l1_3.length c1_3] 51 (0, 0))) ∧ Aside0 (Below w0.heap.size w0 wr) ∧ Aside0 (Kept w wr (fun k_ => P0_ k_)))
        case atStart => exact ⟨i0, i0 + 1, l0, rfl, by go_num, Nat.lt_succ_self _, by omega, by omega, ⟨rfl⟩, ⟨rfl⟩, HR, ⟨blk_below HG.out HB.out⟩, ⟨blk_below BK.out HB.out⟩, ⟨below_step HB0.out HB.out⟩, ⟨Kept.of_below HB.out _⟩⟩
        case round =>
          clear HI HC HG HR BK HB HB0 HO
          obtain ⟨i, j, dk, rfl, rfl, hij, hjn, hgg, HDL, HDJ, HR, HG, BK, HB, HK⟩ := hrel
          by_cases hlt : j < l0.length
          · have hltz : (j : Int) < (l0.length : Int) := by omega
            have hjd : j < dk.length := by rw [HDL.out]; exact hlt
            have hid : i < dk.length := by omega
            obtain ⟨u, hu⟩ : ∃ u, dk[j] = u := ⟨_, rfl⟩
            have hu2 : l0[j] = u := by
              have e1 : (dk.drop j)[0]? = (l0.drop j)[0]? := by rw [HDJ.out]
              rw [List.getElem?_drop, List.getElem?_drop, Nat.add_zero, List.getElem?_eq_getElem hjd, List.getElem?_eq_getElem hlt, hu] at e1
              exact (Option.some.inj e1).symm
            have hdrop : l0.drop j = u :: l0.drop (j + 1) := by rw [List.drop_eq_getElem_cons hlt, hu2]
            obtain ⟨cj0, cj1, cj2⟩ := impl_Seen_94__impl_PartnerTake_1.plain.cell HG.out j hjd (by rw [hu])
            obtain ⟨ci0, ci1, ci2⟩ := impl_Seen_94__impl_PartnerTake_1.plain.cell HG.out i hid rfl
            have fz := fun q => blk_frozen HG.out q
            obtain ⟨b, hb⟩ := impl_Seen_94__impl_PartnerTake_1.some_ u a1_0 a1_1 a1_2 l1_3
            have HU := Aside0.mk hb
            have HD := Aside0.mk hdrop
            have HDD : Aside0 (dk.drop (j + 1) = l0.drop (j + 1)) := ⟨by
              have e := congrArg (fun l : List (S62) => l.drop 1) HDJ.out
              simpa [List.drop_drop] using e⟩
            clear hu hu2 hdrop hb
            cases b with
            | false =>
              go_wp2_with (go_at_call 95; (with_reducible refine (impl_PartnerTake_1.calls u.f0 u.f1 u.f2 gb1 a1_0 a1_1 a1_2 A1_3 c1_3 l1_3 false _ ?side1 HU.out).mono ?_); (case side1 => exact blk_alloc BK.out _); rintro e w2 ⟨rfl, hb⟩; have HG2 := Aside0.mk (blk_below (blk_alloc HG.out _) hb); have BK2 := Aside0.mk (blk_below (blk_alloc BK.out _) hb); have hnb := blk_below (blk_new wr _) hb; obtain ⟨di0, di1, di2⟩ := impl_Seen_94__impl_PartnerTake_1.plain.cell HG2.out i hid rfl; have fz2 := fun q => blk_frozen HG2.out q; have bx0 := (blk_cell hnb 0).trans rfl; have bx1 := (blk_cell hnb 1).trans rfl; have bx2 := (blk_cell hnb 2).trans rfl; have HB2 := Aside0.mk (below_step (below_alloc HB.out _) hb); have HK2 := Aside0.mk (Kept.below (Kept.alloc HK.out _) hb); clear hnb hb)
              go_roundg (l0.length - (j + 1))
              case measure => omega
              case rel =>
                refine ⟨i + 1, j + 1, dk.set i u, by go_num, by go_num, by omega, by omega, Nat.le_refl _, ⟨by rw [List.length_set]; exact HDL.out⟩, ⟨by rw [List.drop_set_of_lt (by omega)]; exact HDD.out⟩, ⟨?_⟩, ⟨impl_Seen_94__impl_PartnerTake_1.plain.put HG2.out i hid u rfl⟩, ⟨?_⟩, ⟨?_⟩, ⟨?_⟩⟩
                · rw [← HR.out, HD.out, List.filter_cons_of_pos (by rw [HU.out]; rfl), List.take_set, List.take_succ_eq_append_getElem hid, List.set_append, if_neg (by rw [List.length_take]; omega)]
                  simp [List.length_take, Nat.min_eq_left (Nat.le_of_lt hid)]
                · exact blk_far (blk_far (blk_far BK2.out (Ne.symm hgb) _) (Ne.symm hgb) _) (Ne.symm hgb) _
                · exact below_set (below_set (below_set HB2.out HBS.out) HBS.out) HBS.out
                · exact Kept.setCell (Kept.setCell (Kept.setCell HK2.out (.inl HP.out) _) (.inl HP.out) _) (.inl HP.out) _
            | true =>
              go_wp2_with (go_at_call 95; (with_reducible refine (impl_PartnerTake_1.calls u.f0 u.f1 u.f2 gb1 a1_0 a1_1 a1_2 A1_3 c1_3 l1_3 true _ ?side1 HU.out).mono ?_); (case side1 => exact blk_alloc BK.out _); rintro e w2 ⟨rfl, hb⟩; have HG2 := Aside0.mk (blk_below (blk_alloc HG.out _) hb); have BK2 := Aside0.mk (blk_below (blk_alloc BK.out _) hb); have hnb := blk_below (blk_new wr _) hb; obtain ⟨di0, di1, di2⟩ := impl_Seen_94__impl_PartnerTake_1.plain.cell HG2.out i hid rfl; have fz2 := fun q => blk_frozen HG2.out q; have bx0 := (blk_cell hnb 0).trans rfl; have bx1 := (blk_cell hnb 1).trans rfl; have bx2 := (blk_cell hnb 2).trans rfl; have HB2 := Aside0.mk (below_step (below_alloc HB.out _) hb); have HK2 := Aside0.mk (Kept.below (Kept.alloc HK.out _) hb); clear hnb hb)
              go_roundg (l0.length - (j + 1))
              case measure => omega
              case rel =>
                refine ⟨i, j + 1, dk, rfl, by go_num, by omega, by omega, Nat.le_refl _, HDL, HDD, ⟨?_⟩, HG2, BK2, HB2, HK2⟩
                rw [← HR.out, HD.out, List.filter_cons_of_neg (by rw [HU.out]; decide)]
          · obtain rfl : j = l0.length := by omega
            have hltz : ¬ (l0.length : Int) < (l0.length : Int) := by omega
            have hic : i ≤ cap := by have := HL.out; omega
            have hicz : (i : Int) ≤ (cap : Int) := by omega
            have hcne : ¬ (cap = i) := by have := HL.out; omega
            obtain ⟨iz, hz0, hz1, _, _⟩ := info_parts info62
            have hfl : (dk.flatMap (fun x : S62 => ([.int .i64 x.f0, .int .i64 x.f1, .int .i64 x.f2] : List Value))).length = l0.length * 3 := by rw [Go.Proofs.YtjffakoifpldeaaW.Row.flat_len impl_Seen_94__impl_PartnerTake_1.plain.l3, HDL.out]
            obtain ⟨zs, hzs⟩ : ∃ zs, zs = (Builtin.zeroCells ((.agg #[(.int .i64 0), (.int .i64 0), (.int .i64 0)]) : Value).cells (l0.length - i)).toList := ⟨_, rfl⟩
            have hzl : zs.length = (l0.length - i) * 3 := by rw [hzs]; exact Go.Proofs.YtjffakoifpldeaaW.Row.zeros_len _ _ _ _
            obtain ⟨ROW, hROW⟩ : ∃ ROW : Array Value, ROW = ((dk.flatMap (fun x : S62 => ([.int .i64 x.f0, .int .i64 x.f1, .int .i64 x.f2] : List Value)) ++ t).take (i * 3) ++ zs ++ (dk.flatMap (fun x : S62 => ([.int .i64 x.f0, .int .i64 x.f1, .int .i64 x.f2] : List Value)) ++ t).drop (i * 3 + zs.length)).toArray := ⟨_, rfl⟩
            have hcl : ∀ ty, (Builtin.clear_ #[49] ty #[.slice (some ⟨g, i * 3, none⟩) (l0.length - i) (cap - i)]).run Try.prog wr = .ok (.tuple #[]) (wr.setRow g ROW) := fun ty => by
              rw [hROW]
              exact Go.Proofs.YtjffakoifpldeaaW.Row.run_clear_rowk (P := Try.prog) wr 49 62 ty (.agg #[(.int .i64 0), (.int .i64 0), (.int .i64 0)]) hu49 (fun _ => by simp [zeroValue, typeInfo, hz0, hz1]) g (i * 3) (l0.length - i) (cap - i) (by omega) _ 62 HG.out zs hzs.symm (by rw [List.size_toArray, List.length_append, hfl, hzl]; omega) (fun v hv => by rw [hzs] at hv; rcases Go.Proofs.YtjffakoifpldeaaW.Row.zeros_mem _ _ _ _ v hv with rfl | rfl | rfl <;> rfl)
            have HROW := Aside0.mk hROW
            have HZL := Aside0.mk hzl
            have HFL := Aside0.mk hfl
            clear hROW hzl hfl hzs hz0 hz1
            go_wp2
            go_ret
            have hr2 : dk.take i = r := by
              have := HR.out
              rwa [List.drop_length, List.filter_nil, List.append_nil] at this
            have hrl : r.length = i := by rw [← hr2, List.length_take, HDL.out]; omega
            have hrow : ROW = (r.flatMap (fun x : S62 => ([.int .i64 x.f0, .int .i64 x.f1, .int .i64 x.f2] : List Value)) ++ (zs ++ t)).toArray := by
              rw [HROW.out, Go.Proofs.YtjffakoifpldeaaW.Row.flat_take impl_Seen_94__impl_PartnerTake_1.plain.l3 dk t i (by rw [HDL.out]; omega), hr2, HZL.out, show i * 3 + (l0.length - i) * 3 = dk.length * 3 by rw [HDL.out]; omega, Go.Proofs.YtjffakoifpldeaaW.Row.flat_drop_all impl_Seen_94__impl_PartnerTake_1.plain.l3, List.append_assoc]
            refine ⟨_, rfl, ?_, Go.Proofs.YtjffakoifpldeaaW.Row.below_setRow HB.out HBS.out _, Go.Proofs.YtjffakoifpldeaaW.Row.kept_setRow HK.out (.inl HP.out) _⟩
            refine impl_Seen_94__impl_PartnerTake_1.plain.of_blk (g := g) (cap := cap) (t := zs ++ t) (by rw [hrl]; rfl) HBS.out (.inl HP.out) (by rw [← hrow]; exact setRow_heap _ _ _ _ _ _ HG.out) (by rw [hrl]; exact hic) HM.out ?_
            have e1 := HS.out
            rw [List.length_append, Go.Proofs.YtjffakoifpldeaaW.Row.flat_len impl_Seen_94__impl_PartnerTake_1.plain.l3] at e1
            have e2 := HZL.out
            rw [List.length_append, Go.Proofs.YtjffakoifpldeaaW.Row.flat_len impl_Seen_94__impl_PartnerTake_1.plain.l3, hrl, List.length_append, e2]
            omega
      · rw [if_neg h3] at h
        cases h
    · rw [if_neg h2] at h
      cases h

end Go.Proofs.Ytjffakoifpldeaa.PFnTakeOnce
