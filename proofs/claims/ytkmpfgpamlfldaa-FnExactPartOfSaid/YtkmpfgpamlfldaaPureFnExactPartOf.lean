/- The law FnExactPartOf as a statement over numbers and lists alone: the two PartOfs tell the same.
Conditions: none. -/
import Derived.Test.YtkmpfgpamlfldaaPFnExactPartOfx
import Derived.Test.YtkmpfgpamlfldaaPl
namespace Go.Proofs.Ytkmpfgpamlfldaa.Pure
open Go.RowKit Go.Proofs.Ytkmpfgpamlfldaa.PFnExactPartOf Go.Proofs.YtkmpfgpamlfldaaW.PrintWords Go.Proofs.YtkmpfgpamlfldaaW.PrintLast Go.Proofs.YtkmpfgpamlfldaaW.PrintMore Go.Proofs.YtkmpfgpamlfldaaW.Pl
set_option linter.unusedVariables false
set_option linter.unusedSimpArgs false

theorem within_eq (a b c : Int) : impl_within.f a b c = some (withinP a b c) := by
  unfold impl_within.f withinP
  split
  · congr 1; simp only [decide_eq_decide]; omega
  · congr 1; symm; simp only [decide_eq_false_iff_not]; omega

theorem wi_ {i : Nat} (h : (i : Int) ≤ 4611686018427387904) : wrap64 ((i : Int) + 1) = ((i + 1 : Nat) : Int) := by rw [wrap_id (by omega) (by omega)]; omega
/-- A list that is copied into a new one, place by place. -/
theorem tos_list {α β : Type} (z : α) (g : α → β) (T : Nat → List α → List β → Int → Option (List β)) (L : List α)
    (hT : ∀ (D : List β) (i : Nat) (r : List β), i < L.length → D.length = L.length → Ev (fun k => T k L (D.set i (g (L.getD i z))) ((i + 1 : Nat) : Int)) r → Ev (fun k => T k L D (i : Int)) r)
    (hT0 : ∀ (D : List β) (i : Nat), L.length ≤ i → Ev (fun k => T k L D (i : Int)) D) :
    ∀ (d : Nat) (D : List β) (i : Nat), L.length - i = d → D.length = L.length → (∀ j, j < i → D[j]? = (L.map g)[j]?) → Ev (fun k => T k L D (i : Int)) (L.map g)
  | 0, D, i, hd, hl, hp => by
    have e : D = L.map g := by
      apply List.ext_getElem?
      intro j
      by_cases h : j < i
      · exact hp j h
      · rw [List.getElem?_eq_none (by omega), List.getElem?_eq_none (by rw [List.length_map]; omega)]
    subst e
    exact hT0 _ i (by omega)
  | d + 1, D, i, hd, hl, hp => by
    refine hT D i _ (by omega) hl (tos_list z g T L hT hT0 d _ (i + 1) (by omega) (by rw [List.length_set]; exact hl) (fun j hj => ?_))
    by_cases h : j = i
    · subst h
      rw [List.getElem?_set_self (by omega), List.getElem?_map, List.getD_eq_getElem?_getD, List.getElem?_eq_getElem (by omega : j < L.length)]
      rfl
    · rw [List.getElem?_set_ne (by omega)]
      exact hp j (by omega)
/-- A list is measured, place by place: it is too great, or each element is bounded. -/
theorem sz_list {α : Type} (z : α) (P : α → Prop) (Z : Nat → List α → Int → Int → Option Int) (L : List α)
    (hs : ∀ (i : Nat) (x : Int), i < L.length → 0 ≤ x → x ≤ 1048576 → Ev (fun k => Z k L x (i : Int)) (-1) ∨ ∃ x', 0 ≤ x' ∧ x' ≤ x ∧ P (L.getD i z) ∧ ∀ r, Ev (fun k => Z k L x' ((i + 1 : Nat) : Int)) r → Ev (fun k => Z k L x (i : Int)) r)
    (h0 : ∀ (i : Nat) (x : Int), L.length ≤ i → Ev (fun k => Z k L x (i : Int)) x) :
    ∀ (d i : Nat) (x : Int), L.length - i = d → 0 ≤ x → x ≤ 1048576 → ∃ w, Ev (fun k => Z k L x (i : Int)) w ∧ (w = -1 ∨ (0 ≤ w ∧ w ≤ x ∧ ∀ j, i ≤ j → j < L.length → P (L.getD j z)))
  | 0, i, x, hd, h1, h2 => ⟨x, h0 i x (by omega), .inr ⟨h1, by omega, fun j _ _ => by omega⟩⟩
  | d + 1, i, x, hd, h1, h2 => by
    rcases hs i x (by omega) h1 h2 with h | ⟨x', g1, g2, g3, g4⟩
    · exact ⟨-1, h, .inl rfl⟩
    · obtain ⟨w, e1, e2⟩ := sz_list z P Z L hs h0 d (i + 1) x' (by omega) g1 (by omega)
      refine ⟨w, g4 w e1, ?_⟩
      rcases e2 with e2 | ⟨e2, e3, e4⟩
      · exact .inl e2
      · refine .inr ⟨e2, by omega, fun j hj hl => ?_⟩
        by_cases h : j = i
        · subst h; exact g3
        · exact e4 j (by omega) hl
theorem sz_all {α : Type} (z : α) (P : α → Prop) (L : List α) (h : ∀ j, 0 ≤ j → j < L.length → P (L.getD j z)) : ∀ x ∈ L, P x := by
  intro x hx
  obtain ⟨j, hj, rfl⟩ := List.getElem_of_mem hx
  have := h j (by omega) hj
  rwa [List.getD_eq_getElem?_getD, List.getElem?_eq_getElem hj] at this
theorem getD_mem {α : Type} {L : List α} {i : Nat} (z : α) (h : i < L.length) : L.getD i z ∈ L := by
  rw [List.getD_eq_getElem?_getD, List.getElem?_eq_getElem h]
  exact List.getElem_mem h
/-- A text that is bounded; a list of them. -/
def bT (s : ByteArray) : Prop := s.size ≤ 1048576
def bTs (l : List ByteArray) : Prop := l.length ≤ 1048576 ∧ ∀ s ∈ l, bT s

/-- A comparison of lists, place by place: of one list with itself. -/
theorem eqs_refl {α : Type} (Q : Nat → List α → List α → Int → Option Bool) (L : List α) (hs : ∀ i : Nat, i < L.length → Ev (fun k => Q k L L ((i + 1 : Nat) : Int)) true → Ev (fun k => Q k L L (i : Int)) true) (h0 : ∀ i : Nat, L.length ≤ i → Ev (fun k => Q k L L (i : Int)) true) : ∀ (d i : Nat), L.length - i = d → Ev (fun k => Q k L L (i : Int)) true
  | 0, i, h => h0 i (by omega)
  | d + 1, i, h => hs i (by omega) (eqs_refl Q L hs h0 d (i + 1) (by omega))

theorem szStringS_ev (l : List ByteArray) (x : Int) (h0 : 0 ≤ x) (h1 : x ≤ 1048576) (hl : l.length ≤ maxLen) (hs : ∀ s ∈ l, s.size ≤ maxLen) : ∃ w, Ev (fun k => laws_szStringS.f k l x) w ∧ (w = -1 ∨ (0 ≤ w ∧ w ≤ x ∧ bTs l)) := by
  simp only [maxLen] at hl hs
  unfold laws_szStringS.f
  have hw : wrap64 (x - (l.length : Int)) = x - (l.length : Int) := wrap_id (by omega) (by omega)
  rw [hw]
  by_cases hn : x - (l.length : Int) < 0
  · exact ⟨-1, Ev.pos hn (Ev.now _), .inl rfl⟩
  · have hstep : ∀ (i : Nat) (y : Int), i < l.length → 0 ≤ y → y ≤ 1048576 → Ev (fun k => laws_szStringS.l0 k l y (i : Int)) (-1) ∨ ∃ x', 0 ≤ x' ∧ x' ≤ y ∧ bT (l.getD i ByteArray.empty) ∧ ∀ r, Ev (fun k => laws_szStringS.l0 k l x' ((i + 1 : Nat) : Int)) r → Ev (fun k => laws_szStringS.l0 k l y (i : Int)) r := by
      intro i y hi g0 g1
      have hsz : (l.getD i ByteArray.empty).size ≤ 9223372036854775807 := hs _ (getD_mem _ hi)
      have hr : rdOf ByteArray.empty l (i : Int) = l.getD i ByteArray.empty := by unfold rdOf; rw [Int.toNat_natCast]
      have hw2 : wrap64 (y - ((l.getD i ByteArray.empty).size : Int)) = y - ((l.getD i ByteArray.empty).size : Int) := wrap_id (by omega) (by omega)
      by_cases hz : y - ((l.getD i ByteArray.empty).size : Int) < 0
      · refine .inl (Ev.step (fun k => laws_szStringS.l0.eq_2 ..) (Ev.pos (by omega) (Ev.pos (by omega) ?_)))
        rw [hr, hw2]
        exact Ev.pos hz (Ev.now _)
      · refine .inr ⟨y - ((l.getD i ByteArray.empty).size : Int), by omega, by omega, by unfold bT; omega, fun r hr' => Ev.step (fun k => laws_szStringS.l0.eq_2 ..) (Ev.pos (by omega) (Ev.pos (by omega) ?_))⟩
        rw [hr, hw2, wi_ (by omega)]
        exact Ev.neg hz hr'
    obtain ⟨w, e1, e2⟩ := sz_list ByteArray.empty bT laws_szStringS.l0 l hstep (fun i y hi => Ev.step (fun k => laws_szStringS.l0.eq_2 ..) (Ev.neg (by omega) (Ev.now _))) l.length 0 (x - (l.length : Int)) (by omega) (by omega) (by omega)
    refine ⟨w, Ev.neg hn e1, ?_⟩
    rcases e2 with e2 | ⟨e2, e3, e4⟩
    · exact .inl e2
    · exact .inr ⟨e2, by omega, by omega, sz_all _ _ _ e4⟩
theorem toStringS_ev (l : List ByteArray) (hl : l.length ≤ 1048576) : Ev (fun k => laws_toStringS.f k l) l := by
  unfold laws_toStringS.f
  refine Ev.pos (by omega) (Ev.pos (by omega) ?_)
  refine (tos_list ByteArray.empty id laws_toStringS.l0 l (fun D i r hi hd h => ?_) (fun D i hi => ?_) l.length _ 0 (by omega) (by simp) (fun j hj => by omega)).to (by simp)
  · refine Ev.step (fun k => laws_toStringS.l0.eq_2 ..) (Ev.pos (by omega) (Ev.pos (by omega) (Ev.pos (by omega) ?_)))
    rw [wi_ (by omega)]
    exact h
  · exact Ev.step (fun k => laws_toStringS.l0.eq_2 ..) (Ev.neg (by omega) (Ev.now _))
theorem eqStringS_refl (l : List ByteArray) (hl : (l.length : Int) ≤ 4611686018427387904) : Ev (fun k => laws_eqStringS.f k l l) true := by
  unfold laws_eqStringS.f
  refine Ev.pos rfl (eqs_refl laws_eqStringS.l0 l (fun i hi h => ?_) (fun i hi => ?_) l.length 0 (by omega))
  · refine Ev.step (fun k => laws_eqStringS.l0.eq_2 ..) (Ev.pos (by omega) (Ev.pos (by omega) (Ev.pos (by omega) (Ev.pos rfl ?_))))
    rw [wi_ (by omega)]
    exact h
  · exact Ev.step (fun k => laws_eqStringS.l0.eq_2 ..) (Ev.neg (by omega) (Ev.now _))

/-- A Element that is bounded; a Element of the laws as the program has it. -/
def bElement (x : S106) : Prop := bTs x.f0
def cElement (x : S106) : S91 := ⟨x.f0⟩

theorem szElement_ev (a0 : List ByteArray) (x : Int) (g0 : 0 ≤ x) (g1 : x ≤ 1048576) (h0 : (a0.length ≤ maxLen ∧ ∀ s ∈ a0, s.size ≤ maxLen)) : ∃ w, Ev (fun k => laws_szElement.f k a0 x) w ∧ (w = -1 ∨ (0 ≤ w ∧ w ≤ x ∧ bTs a0)) := by
  unfold laws_szElement.f
  obtain ⟨w0, u0, t0⟩ := szStringS_ev a0 x (by omega) (by omega) h0.1 h0.2
  rcases t0 with t0 | ⟨t0, s0, b0⟩
  · exact ⟨-1, Ev.bind u0 (Ev.pos (by omega) (Ev.now _)), .inl rfl⟩
  exact ⟨w0, Ev.bind u0 (Ev.neg (by omega) (Ev.now _)), .inr ⟨by omega, by omega, (b0)⟩⟩

theorem szElementS_ev (l : List S106) (x : Int) (h0 : 0 ≤ x) (h1 : x ≤ 1048576) (hl : l.length ≤ maxLen) (hs : ∀ y ∈ l, q106 y) : ∃ w, Ev (fun k => laws_szElementS.f k l x) w ∧ (w = -1 ∨ (0 ≤ w ∧ w ≤ x ∧ l.length ≤ 1048576 ∧ ∀ y ∈ l, bElement y)) := by
  simp only [maxLen] at hl
  have hq : ∀ i, i < l.length → q106 (l.getD i z106) := fun i hi => hs _ (getD_mem _ hi)
  unfold laws_szElementS.f
  have hw : wrap64 (x - (l.length : Int)) = x - (l.length : Int) := wrap_id (by omega) (by omega)
  rw [hw]
  by_cases hn : x - (l.length : Int) < 0
  · exact ⟨-1, Ev.pos hn (Ev.now _), .inl rfl⟩
  · have hstep : ∀ (i : Nat) (y : Int), i < l.length → 0 ≤ y → y ≤ 1048576 → Ev (fun k => laws_szElementS.l0 k l y (i : Int)) (-1) ∨ ∃ x', 0 ≤ x' ∧ x' ≤ y ∧ bElement (l.getD i z106) ∧ ∀ r, Ev (fun k => laws_szElementS.l0 k l x' ((i + 1 : Nat) : Int)) r → Ev (fun k => laws_szElementS.l0 k l y (i : Int)) r := by
      intro i y hi g0 g1
      have hr : rd_T106 l (i : Int) = l.getD i z106 := by unfold rd_T106; rw [Int.toNat_natCast]
      obtain ⟨w, e1, e2⟩ := szElement_ev (l.getD i z106).f0 y g0 g1 (hq i hi)
      rcases e2 with e2 | ⟨e2, e3, e4⟩
      · refine .inl (Ev.step (fun k => laws_szElementS.l0.eq_2 ..) (Ev.pos (by omega) (Ev.pos (by omega) ?_)))
        rw [hr]
        exact Ev.bind e1 (Ev.pos (by omega) (Ev.now _))
      · refine .inr ⟨w, by omega, by omega, e4, fun r hr' => Ev.step (fun k => laws_szElementS.l0.eq_2 ..) (Ev.pos (by omega) (Ev.pos (by omega) ?_))⟩
        rw [hr, wi_ (by omega)]
        exact Ev.bind e1 (Ev.neg (by omega) hr')
    obtain ⟨w, e1, e2⟩ := sz_list z106 bElement laws_szElementS.l0 l hstep (fun i y hi => Ev.step (fun k => laws_szElementS.l0.eq_2 ..) (Ev.neg (by omega) (Ev.now _))) l.length 0 (x - (l.length : Int)) (by omega) (by omega) (by omega)
    refine ⟨w, Ev.neg hn e1, ?_⟩
    rcases e2 with e2 | ⟨e2, e3, e4⟩
    · exact .inl e2
    · exact .inr ⟨e2, by omega, by omega, sz_all _ _ _ e4⟩

theorem toElement_ev (a0 : List ByteArray) (h0 : bTs a0) : Ev (fun k => laws_toElement.f k a0) a0 := by
  unfold laws_toElement.f
  exact Ev.bind (toStringS_ev a0 h0.1) (Ev.now _)

theorem toElementS_ev (l : List S106) (hl : l.length ≤ 1048576) (hb : ∀ y ∈ l, bElement y) : Ev (fun k => laws_toElementS.f k l) (l.map cElement) := by
  unfold laws_toElementS.f
  refine Ev.pos (by omega) (Ev.pos (by omega) ?_)
  refine tos_list z106 cElement laws_toElementS.l0 l (fun D i r hi hd h => ?_) (fun D i hi => ?_) l.length _ 0 (by omega) (by simp) (fun j hj => by omega)
  · have hr : rd_T106 l (i : Int) = l.getD i z106 := by unfold rd_T106; rw [Int.toNat_natCast]
    refine Ev.step (fun k => laws_toElementS.l0.eq_2 ..) (Ev.pos (by omega) (Ev.pos (by omega) ?_))
    rw [hr, wi_ (by omega)]
    refine Ev.bind (toElement_ev (l.getD i z106).f0 (hb _ (getD_mem z106 hi))) (Ev.pos (by omega) ?_)
    exact h
  · exact Ev.step (fun k => laws_toElementS.l0.eq_2 ..) (Ev.neg (by omega) (Ev.now _))

theorem eqElement_refl (a0 : List ByteArray) (h0 : (a0.length : Int) ≤ 4611686018427387904) : Ev (fun k => laws_eqElement.f k a0 a0) true := by
  unfold laws_eqElement.f
  exact Ev.bind (eqStringS_refl a0 h0) (Ev.pos rfl (Ev.now _))

/-- Of a Element: its lists are bounded. -/
def eElement (x : S91) : Prop := (x.f0.length : Int) ≤ 4611686018427387904
theorem eqElementS_refl (l : List S91) (hl : (l.length : Int) ≤ 4611686018427387904) (hb : ∀ y ∈ l, eElement y) : Ev (fun k => laws_eqElementS.f k l l) true := by
  unfold laws_eqElementS.f
  refine Ev.pos rfl (eqs_refl laws_eqElementS.l0 l (fun i hi h => ?_) (fun i hi => ?_) l.length 0 (by omega))
  · have hr : rd_T91 l (i : Int) = l.getD i z91 := by unfold rd_T91; rw [Int.toNat_natCast]
    refine Ev.step (fun k => laws_eqElementS.l0.eq_2 ..) (Ev.pos (by omega) (Ev.pos (by omega) (Ev.pos (by omega) ?_)))
    rw [hr, wi_ (by omega)]
    exact Ev.bind (eqElement_refl (l.getD i z91).f0 (hb _ (getD_mem z91 hi))) (Ev.pos rfl h)
  · exact Ev.step (fun k => laws_eqElementS.l0.eq_2 ..) (Ev.neg (by omega) (Ev.now _))

theorem szSegment_ev (a0 : ByteArray) (a1 : List S106) (x : Int) (g0 : 0 ≤ x) (g1 : x ≤ 1048576) (h0 : a0.size ≤ maxLen) (h1 : (a1.length ≤ maxLen ∧ ∀ y ∈ a1, q106 y)) : ∃ w, Ev (fun k => laws_szSegment.f k a0 a1 x) w ∧ (w = -1 ∨ (0 ≤ w ∧ w ≤ x ∧ bT a0 ∧ (a1.length ≤ 1048576 ∧ ∀ y ∈ a1, bElement y))) := by
  unfold laws_szSegment.f
  have m0 : a0.size ≤ 9223372036854775807 := h0
  have e0 : wrap64 (x - (a0.size : Int)) = x - (a0.size : Int) := wrap_id (by omega) (by omega)
  rw [e0]
  by_cases n0 : x - (a0.size : Int) < 0
  · exact ⟨-1, Ev.pos n0 (Ev.now _), .inl rfl⟩
  obtain ⟨w1, u1, t1⟩ := szElementS_ev a1 (x - (a0.size : Int)) (by omega) (by omega) h1.1 h1.2
  rcases t1 with t1 | ⟨t1, s1, b1⟩
  · exact ⟨-1, Ev.neg n0 (Ev.bind u1 (Ev.pos (by omega) (Ev.now _))), .inl rfl⟩
  exact ⟨w1, Ev.neg n0 (Ev.bind u1 (Ev.neg (by omega) (Ev.now _))), .inr ⟨by omega, by omega, (by unfold bT; omega), (b1)⟩⟩

theorem toSegment_ev (a0 : ByteArray) (a1 : List S106) (h1 : (a1.length ≤ 1048576 ∧ ∀ y ∈ a1, bElement y)) : Ev (fun k => laws_toSegment.f k a0 a1) (a0, (a1.map cElement)) := by
  unfold laws_toSegment.f
  exact Ev.bind (toElementS_ev a1 h1.1 h1.2) (Ev.now _)

theorem eqSegment_refl (a0 : ByteArray) (a1 : List S91) (h1 : ((a1.length : Int) ≤ 4611686018427387904 ∧ ∀ y ∈ a1, eElement y)) : Ev (fun k => laws_eqSegment.f k a0 a1 a0 a1) true := by
  unfold laws_eqSegment.f
  exact Ev.pos rfl (Ev.bind (eqElementS_refl a1 h1.1 h1.2) (Ev.pos rfl (Ev.now _)))

theorem partOf_both (a : ByteArray) (l : List S91) (i j : Int) (hl : l.length ≤ 1048576) (hb : ∀ y ∈ l, y.f0.length ≤ 1048576) : ∃ r, spec_PartOf.f a l i j = some r ∧ impl_PartOf.f a l i j = some r := by
  have hw : wrap64 ((l.length : Int) - 1) = (l.length : Int) - 1 := wrap_id (by omega) (by omega)
  unfold spec_PartOf.f impl_PartOf.f
  rw [hw, within_eq]
  by_cases h1 : 0 ≤ i ∧ i < (l.length : Int)
  · have h2 : withinP i 0 ((l.length : Int) - 1) = true := by simp [withinP]; omega
    have hm : (rd_T91 l i).f0.length ≤ 1048576 := by
      refine hb _ ?_
      unfold rd_T91
      exact getD_mem _ (by omega)
    have hw2 : wrap64 (((rd_T91 l i).f0.length : Int) - 1) = ((rd_T91 l i).f0.length : Int) - 1 := wrap_id (by omega) (by omega)
    rw [h2]
    simp only [Option.bind_some, if_true]
    rw [if_neg (by omega), if_neg (by omega), if_pos h1.1, if_pos h1.2, hw2, within_eq]
    by_cases h3 : 0 ≤ j ∧ j < ((rd_T91 l i).f0.length : Int)
    · have h4 : withinP j 0 (((rd_T91 l i).f0.length : Int) - 1) = true := by simp [withinP]; omega
      rw [h4]
      simp only [Option.bind_some, if_true]
      rw [if_neg (by omega), if_pos h1.1, if_pos h1.2, if_neg (by omega), if_pos h3.1, if_pos h3.2]
      exact ⟨_, rfl, rfl⟩
    · have h4 : withinP j 0 (((rd_T91 l i).f0.length : Int) - 1) = false := by simp [withinP]; omega
      rw [h4]
      by_cases h5 : j < 0
      · rw [if_pos h5, if_pos h1.1, if_pos h1.2]; exact ⟨_, rfl, rfl⟩
      · rw [if_neg h5, if_pos h1.1, if_pos h1.2, if_pos (by omega)]; exact ⟨_, rfl, rfl⟩
  · have h2 : withinP i 0 ((l.length : Int) - 1) = false := by simp [withinP]; omega
    rw [h2]
    by_cases h5 : i < 0
    · rw [if_pos h5]; exact ⟨_, rfl, rfl⟩
    · rw [if_neg h5, if_pos (by omega)]; exact ⟨_, rfl, rfl⟩
theorem bound_cElement {l : List S106} (hb : ∀ y ∈ l, bElement y) : ∀ y ∈ l.map cElement, y.f0.length ≤ 1048576 := by
  intro y hy
  obtain ⟨x, hx, rfl⟩ := List.mem_map.1 hy
  exact (hb x hx).1
theorem FnExactPartOf : laws_FnExactPartOf.Pure := by
  intro a l i j ha hl hi hj
  refine Ev.rounds (g := fun k => laws_FnExactPartOf.f k a l i j) ?_
  unfold laws_FnExactPartOf.f
  obtain ⟨w, u, t⟩ := szSegment_ev a l 1048576 (by omega) (by omega) ha hl
  rcases t with t | ⟨t, _, hba, hbl⟩
  · exact Ev.bind u (Ev.pos (by omega) (Ev.now _))
  · have ht := toSegment_ev a l hbl
    have hbe := bound_cElement hbl.2
    obtain ⟨r, r1, r2⟩ := partOf_both a (l.map cElement) i j (by rw [List.length_map]; exact hbl.1) hbe
    have he : Ev (fun k => laws_eqSegment.f k a (l.map cElement) a (l.map cElement)) true := eqSegment_refl a (l.map cElement) ⟨by rw [List.length_map]; omega, fun y hy => by have := hbe y hy; show (y.f0.length : Int) ≤ _; omega⟩
    exact Ev.bind u (Ev.neg (by omega) (Ev.bind ht (Ev.bindc r1 (Ev.bind ht (Ev.bindc r2 (Ev.pos rfl (Ev.bind ht (Ev.bind he (Ev.pos rfl (Ev.now _))))))))))

end Go.Proofs.Ytkmpfgpamlfldaa.Pure
