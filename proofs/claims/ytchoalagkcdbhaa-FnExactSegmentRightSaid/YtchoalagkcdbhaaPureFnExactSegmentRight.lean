/- SegmentRight: the two answers are one
Conditions: none. -/
import Derived.Test.YtchoalagkcdbhaaPFnExactSegmentRightx
import Derived.Test.YtchoalagkcdbhaaPl
namespace Go.Proofs.Ytchoalagkcdbhaa.Pure
open Go.RowKit Go.Proofs.Ytchoalagkcdbhaa.PFnExactSegmentRight Go.Proofs.YtchoalagkcdbhaaW.PrintWords Go.Proofs.YtchoalagkcdbhaaW.PrintLast Go.Proofs.YtchoalagkcdbhaaW.PrintMore Go.Proofs.YtchoalagkcdbhaaW.Pl
set_option linter.unusedVariables false
set_option linter.unusedSimpArgs false

theorem within_eq (a b c : Int) : impl_within.f a b c = some (withinP a b c) := by
  unfold impl_within.f withinP
  split
  · congr 1; simp only [decide_eq_decide]; omega
  · congr 1; symm; simp only [decide_eq_false_iff_not]; omega

theorem wi_ {i : Nat} (h : (i : Int) ≤ 4611686018427387904) : wrap64 ((i : Int) + 1) = ((i + 1 : Nat) : Int) := by rw [wrap_id (by omega) (by omega)]; omega
/-- A list that is copied into a new one, place by place. -/
theorem tos_list {α β : Type} (z : α) (g : α → β) (T : Nat → List α → List β → Int → Option (List β)) (L : List α)
    (hT : ∀ (D : List β) (i : Nat) (r : List β), i < L.length → D.length = L.length → Ev (fun k => T k L (D.set i (g (L.getD i z))) ((i + 1 : Nat) : Int)) r → Ev (fun k => T k L D (i : Int)) r)
    (hT0 : ∀ (D : List β) (i : Nat), L.length ≤ i → Ev (fun k => T k L D (i : Int)) D) :
    ∀ (d : Nat) (D : List β) (i : Nat), L.length - i = d → D.length = L.length → (∀ j, j < i → D[j]? = (L.map g)[j]?) → Ev (fun k => T k L D (i : Int)) (L.map g)
  | 0, D, i, hd, hl, hp => by
    have e : D = L.map g := by
      apply List.ext_getElem?
      intro j
      by_cases h : j < i
      · exact hp j h
      · rw [List.getElem?_eq_none (by omega), List.getElem?_eq_none (by rw [List.length_map]; omega)]
    subst e
    exact hT0 _ i (by omega)
  | d + 1, D, i, hd, hl, hp => by
    refine hT D i _ (by omega) hl (tos_list z g T L hT hT0 d _ (i + 1) (by omega) (by rw [List.length_set]; exact hl) (fun j hj => ?_))
    by_cases h : j = i
    · subst h
      rw [List.getElem?_set_self (by omega), List.getElem?_map, List.getD_eq_getElem?_getD, List.getElem?_eq_getElem (by omega : j < L.length)]
      rfl
    · rw [List.getElem?_set_ne (by omega)]
      exact hp j (by omega)
/-- A list is measured, place by place: it is too great, or each element is bounded. -/
theorem sz_list {α : Type} (z : α) (P : α → Prop) (Z : Nat → List α → Int → Int → Option Int) (L : List α)
    (hs : ∀ (i : Nat) (x : Int), i < L.length → 0 ≤ x → x ≤ 1048576 → Ev (fun k => Z k L x (i : Int)) (-1) ∨ ∃ x', 0 ≤ x' ∧ x' ≤ x ∧ P (L.getD i z) ∧ ∀ r, Ev (fun k => Z k L x' ((i + 1 : Nat) : Int)) r → Ev (fun k => Z k L x (i : Int)) r)
    (h0 : ∀ (i : Nat) (x : Int), L.length ≤ i → Ev (fun k => Z k L x (i : Int)) x) :
    ∀ (d i : Nat) (x : Int), L.length - i = d → 0 ≤ x → x ≤ 1048576 → ∃ w, Ev (fun k => Z k L x (i : Int)) w ∧ (w = -1 ∨ (0 ≤ w ∧ w ≤ x ∧ ∀ j, i ≤ j → j < L.length → P (L.getD j z)))
  | 0, i, x, hd, h1, h2 => ⟨x, h0 i x (by omega), .inr ⟨h1, by omega, fun j _ _ => by omega⟩⟩
  | d + 1, i, x, hd, h1, h2 => by
    rcases hs i x (by omega) h1 h2 with h | ⟨x', g1, g2, g3, g4⟩
    · exact ⟨-1, h, .inl rfl⟩
    · obtain ⟨w, e1, e2⟩ := sz_list z P Z L hs h0 d (i + 1) x' (by omega) g1 (by omega)
      refine ⟨w, g4 w e1, ?_⟩
      rcases e2 with e2 | ⟨e2, e3, e4⟩
      · exact .inl e2
      · refine .inr ⟨e2, by omega, fun j hj hl => ?_⟩
        by_cases h : j = i
        · subst h; exact g3
        · exact e4 j (by omega) hl
theorem sz_all {α : Type} (z : α) (P : α → Prop) (L : List α) (h : ∀ j, 0 ≤ j → j < L.length → P (L.getD j z)) : ∀ x ∈ L, P x := by
  intro x hx
  obtain ⟨j, hj, rfl⟩ := List.getElem_of_mem hx
  have := h j (by omega) hj
  rwa [List.getD_eq_getElem?_getD, List.getElem?_eq_getElem hj] at this
theorem getD_mem {α : Type} {L : List α} {i : Nat} (z : α) (h : i < L.length) : L.getD i z ∈ L := by
  rw [List.getD_eq_getElem?_getD, List.getElem?_eq_getElem h]
  exact List.getElem_mem h
/-- A text that is bounded; a list of them. -/
def bT (s : ByteArray) : Prop := s.size ≤ 1048576
def bTs (l : List ByteArray) : Prop := l.length ≤ 1048576 ∧ ∀ s ∈ l, bT s

/-- A comparison of lists, place by place: of one list with itself. -/
theorem eqs_refl {α : Type} (Q : Nat → List α → List α → Int → Option Bool) (L : List α) (hs : ∀ i : Nat, i < L.length → Ev (fun k => Q k L L ((i + 1 : Nat) : Int)) true → Ev (fun k => Q k L L (i : Int)) true) (h0 : ∀ i : Nat, L.length ≤ i → Ev (fun k => Q k L L (i : Int)) true) : ∀ (d i : Nat), L.length - i = d → Ev (fun k => Q k L L (i : Int)) true
  | 0, i, h => h0 i (by omega)
  | d + 1, i, h => hs i (by omega) (eqs_refl Q L hs h0 d (i + 1) (by omega))

theorem szStringS_ev (l : List ByteArray) (x : Int) (h0 : 0 ≤ x) (h1 : x ≤ 1048576) (hl : l.length ≤ maxLen) (hs : ∀ s ∈ l, s.size ≤ maxLen) : ∃ w, Ev (fun k => laws_szStringS.f k l x) w ∧ (w = -1 ∨ (0 ≤ w ∧ w ≤ x ∧ bTs l)) := by
  simp only [maxLen] at hl hs
  unfold laws_szStringS.f
  have hw : wrap64 (x - (l.length : Int)) = x - (l.length : Int) := wrap_id (by omega) (by omega)
  rw [hw]
  by_cases hn : x - (l.length : Int) < 0
  · exact ⟨-1, Ev.pos hn (Ev.now _), .inl rfl⟩
  · have hstep : ∀ (i : Nat) (y : Int), i < l.length → 0 ≤ y → y ≤ 1048576 → Ev (fun k => laws_szStringS.l0 k l y (i : Int)) (-1) ∨ ∃ x', 0 ≤ x' ∧ x' ≤ y ∧ bT (l.getD i ByteArray.empty) ∧ ∀ r, Ev (fun k => laws_szStringS.l0 k l x' ((i + 1 : Nat) : Int)) r → Ev (fun k => laws_szStringS.l0 k l y (i : Int)) r := by
      intro i y hi g0 g1
      have hsz : (l.getD i ByteArray.empty).size ≤ 9223372036854775807 := hs _ (getD_mem _ hi)
      have hr : rdOf ByteArray.empty l (i : Int) = l.getD i ByteArray.empty := by unfold rdOf; rw [Int.toNat_natCast]
      have hw2 : wrap64 (y - ((l.getD i ByteArray.empty).size : Int)) = y - ((l.getD i ByteArray.empty).size : Int) := wrap_id (by omega) (by omega)
      by_cases hz : y - ((l.getD i ByteArray.empty).size : Int) < 0
      · refine .inl (Ev.step (fun k => laws_szStringS.l0.eq_2 ..) (Ev.pos (by omega) (Ev.pos (by omega) ?_)))
        rw [hr, hw2]
        exact Ev.pos hz (Ev.now _)
      · refine .inr ⟨y - ((l.getD i ByteArray.empty).size : Int), by omega, by omega, by unfold bT; omega, fun r hr' => Ev.step (fun k => laws_szStringS.l0.eq_2 ..) (Ev.pos (by omega) (Ev.pos (by omega) ?_))⟩
        rw [hr, hw2, wi_ (by omega)]
        exact Ev.neg hz hr'
    obtain ⟨w, e1, e2⟩ := sz_list ByteArray.empty bT laws_szStringS.l0 l hstep (fun i y hi => Ev.step (fun k => laws_szStringS.l0.eq_2 ..) (Ev.neg (by omega) (Ev.now _))) l.length 0 (x - (l.length : Int)) (by omega) (by omega) (by omega)
    refine ⟨w, Ev.neg hn e1, ?_⟩
    rcases e2 with e2 | ⟨e2, e3, e4⟩
    · exact .inl e2
    · exact .inr ⟨e2, by omega, by omega, sz_all _ _ _ e4⟩

theorem toStringS_ev (l : List ByteArray) (hl : l.length ≤ 1048576) : Ev (fun k => laws_toStringS.f k l) l := by
  unfold laws_toStringS.f
  refine Ev.pos (by omega) (Ev.pos (by omega) ?_)
  refine (tos_list ByteArray.empty id laws_toStringS.l0 l (fun D i r hi hd h => ?_) (fun D i hi => ?_) l.length _ 0 (by omega) (by simp) (fun j hj => by omega)).to (by simp)
  · refine Ev.step (fun k => laws_toStringS.l0.eq_2 ..) (Ev.pos (by omega) (Ev.pos (by omega) (Ev.pos (by omega) ?_)))
    rw [wi_ (by omega)]
    exact h
  · exact Ev.step (fun k => laws_toStringS.l0.eq_2 ..) (Ev.neg (by omega) (Ev.now _))

theorem eqStringS_refl (l : List ByteArray) (hl : (l.length : Int) ≤ 4611686018427387904) : Ev (fun k => laws_eqStringS.f k l l) true := by
  unfold laws_eqStringS.f
  refine Ev.pos rfl (eqs_refl laws_eqStringS.l0 l (fun i hi h => ?_) (fun i hi => ?_) l.length 0 (by omega))
  · refine Ev.step (fun k => laws_eqStringS.l0.eq_2 ..) (Ev.pos (by omega) (Ev.pos (by omega) (Ev.pos (by omega) (Ev.pos rfl ?_))))
    rw [wi_ (by omega)]
    exact h
  · exact Ev.step (fun k => laws_eqStringS.l0.eq_2 ..) (Ev.neg (by omega) (Ev.now _))

/-- A Element that is bounded; a Element of the laws as the program has it. -/
def bElement (x : S125) : Prop := bTs x.f0
def cElement (x : S125) : S102 := ⟨x.f0⟩

theorem szElement_ev (a0 : List ByteArray) (x : Int) (g0 : 0 ≤ x) (g1 : x ≤ 1048576) (h0 : (a0.length ≤ maxLen ∧ ∀ s ∈ a0, s.size ≤ maxLen)) : ∃ w, Ev (fun k => laws_szElement.f k a0 x) w ∧ (w = -1 ∨ (0 ≤ w ∧ w ≤ x ∧ bTs a0)) := by
  unfold laws_szElement.f
  obtain ⟨w0, u0, t0⟩ := szStringS_ev a0 x (by omega) (by omega) h0.1 h0.2
  rcases t0 with t0 | ⟨t0, s0, b0⟩
  · exact ⟨-1, Ev.bind u0 (Ev.pos (by omega) (Ev.now _)), .inl rfl⟩
  exact ⟨w0, Ev.bind u0 (Ev.neg (by omega) (Ev.now _)), .inr ⟨by omega, by omega, (b0)⟩⟩

theorem szElementS_ev (l : List S125) (x : Int) (h0 : 0 ≤ x) (h1 : x ≤ 1048576) (hl : l.length ≤ maxLen) (hs : ∀ y ∈ l, q125 y) : ∃ w, Ev (fun k => laws_szElementS.f k l x) w ∧ (w = -1 ∨ (0 ≤ w ∧ w ≤ x ∧ l.length ≤ 1048576 ∧ ∀ y ∈ l, bElement y)) := by
  simp only [maxLen] at hl
  have hq : ∀ i, i < l.length → q125 (l.getD i z125) := fun i hi => hs _ (getD_mem _ hi)
  unfold laws_szElementS.f
  have hw : wrap64 (x - (l.length : Int)) = x - (l.length : Int) := wrap_id (by omega) (by omega)
  rw [hw]
  by_cases hn : x - (l.length : Int) < 0
  · exact ⟨-1, Ev.pos hn (Ev.now _), .inl rfl⟩
  · have hstep : ∀ (i : Nat) (y : Int), i < l.length → 0 ≤ y → y ≤ 1048576 → Ev (fun k => laws_szElementS.l0 k l y (i : Int)) (-1) ∨ ∃ x', 0 ≤ x' ∧ x' ≤ y ∧ bElement (l.getD i z125) ∧ ∀ r, Ev (fun k => laws_szElementS.l0 k l x' ((i + 1 : Nat) : Int)) r → Ev (fun k => laws_szElementS.l0 k l y (i : Int)) r := by
      intro i y hi g0 g1
      have hr : rd_T125 l (i : Int) = l.getD i z125 := by unfold rd_T125; rw [Int.toNat_natCast]
      obtain ⟨w, e1, e2⟩ := szElement_ev (l.getD i z125).f0 y g0 g1 (hq i hi)
      rcases e2 with e2 | ⟨e2, e3, e4⟩
      · refine .inl (Ev.step (fun k => laws_szElementS.l0.eq_2 ..) (Ev.pos (by omega) (Ev.pos (by omega) ?_)))
        rw [hr]
        exact Ev.bind e1 (Ev.pos (by omega) (Ev.now _))
      · refine .inr ⟨w, by omega, by omega, e4, fun r hr' => Ev.step (fun k => laws_szElementS.l0.eq_2 ..) (Ev.pos (by omega) (Ev.pos (by omega) ?_))⟩
        rw [hr, wi_ (by omega)]
        exact Ev.bind e1 (Ev.neg (by omega) hr')
    obtain ⟨w, e1, e2⟩ := sz_list z125 bElement laws_szElementS.l0 l hstep (fun i y hi => Ev.step (fun k => laws_szElementS.l0.eq_2 ..) (Ev.neg (by omega) (Ev.now _))) l.length 0 (x - (l.length : Int)) (by omega) (by omega) (by omega)
    refine ⟨w, Ev.neg hn e1, ?_⟩
    rcases e2 with e2 | ⟨e2, e3, e4⟩
    · exact .inl e2
    · exact .inr ⟨e2, by omega, by omega, sz_all _ _ _ e4⟩

theorem toElement_ev (a0 : List ByteArray) (h0 : bTs a0) : Ev (fun k => laws_toElement.f k a0) a0 := by
  unfold laws_toElement.f
  exact Ev.bind (toStringS_ev a0 h0.1) (Ev.now _)

theorem toElementS_ev (l : List S125) (hl : l.length ≤ 1048576) (hb : ∀ y ∈ l, bElement y) : Ev (fun k => laws_toElementS.f k l) (l.map cElement) := by
  unfold laws_toElementS.f
  refine Ev.pos (by omega) (Ev.pos (by omega) ?_)
  refine tos_list z125 cElement laws_toElementS.l0 l (fun D i r hi hd h => ?_) (fun D i hi => ?_) l.length _ 0 (by omega) (by simp) (fun j hj => by omega)
  · have hr : rd_T125 l (i : Int) = l.getD i z125 := by unfold rd_T125; rw [Int.toNat_natCast]
    refine Ev.step (fun k => laws_toElementS.l0.eq_2 ..) (Ev.pos (by omega) (Ev.pos (by omega) ?_))
    rw [hr, wi_ (by omega)]
    refine Ev.bind (toElement_ev (l.getD i z125).f0 (hb _ (getD_mem z125 hi))) (Ev.pos (by omega) ?_)
    exact h
  · exact Ev.step (fun k => laws_toElementS.l0.eq_2 ..) (Ev.neg (by omega) (Ev.now _))

theorem eqElement_refl (a0 : List ByteArray) (h0 : (a0.length : Int) ≤ 4611686018427387904) : Ev (fun k => laws_eqElement.f k a0 a0) true := by
  unfold laws_eqElement.f
  exact Ev.bind (eqStringS_refl a0 h0) (Ev.pos rfl (Ev.now _))

/-- Of a Element: its lists are bounded. -/
def eElement (x : S102) : Prop := (x.f0.length : Int) ≤ 4611686018427387904
theorem eqElementS_refl (l : List S102) (hl : (l.length : Int) ≤ 4611686018427387904) (hb : ∀ y ∈ l, eElement y) : Ev (fun k => laws_eqElementS.f k l l) true := by
  unfold laws_eqElementS.f
  refine Ev.pos rfl (eqs_refl laws_eqElementS.l0 l (fun i hi h => ?_) (fun i hi => ?_) l.length 0 (by omega))
  · have hr : rd_T102 l (i : Int) = l.getD i z102 := by unfold rd_T102; rw [Int.toNat_natCast]
    refine Ev.step (fun k => laws_eqElementS.l0.eq_2 ..) (Ev.pos (by omega) (Ev.pos (by omega) (Ev.pos (by omega) ?_)))
    rw [hr, wi_ (by omega)]
    exact Ev.bind (eqElement_refl (l.getD i z102).f0 (hb _ (getD_mem z102 hi))) (Ev.pos rfl h)
  · exact Ev.step (fun k => laws_eqElementS.l0.eq_2 ..) (Ev.neg (by omega) (Ev.now _))

theorem szSegment_ev (a0 : ByteArray) (a1 : List S125) (x : Int) (g0 : 0 ≤ x) (g1 : x ≤ 1048576) (h0 : a0.size ≤ maxLen) (h1 : (a1.length ≤ maxLen ∧ ∀ y ∈ a1, q125 y)) : ∃ w, Ev (fun k => laws_szSegment.f k a0 a1 x) w ∧ (w = -1 ∨ (0 ≤ w ∧ w ≤ x ∧ bT a0 ∧ (a1.length ≤ 1048576 ∧ ∀ y ∈ a1, bElement y))) := by
  unfold laws_szSegment.f
  have m0 : a0.size ≤ 9223372036854775807 := h0
  have e0 : wrap64 (x - (a0.size : Int)) = x - (a0.size : Int) := wrap_id (by omega) (by omega)
  rw [e0]
  by_cases n0 : x - (a0.size : Int) < 0
  · exact ⟨-1, Ev.pos n0 (Ev.now _), .inl rfl⟩
  obtain ⟨w1, u1, t1⟩ := szElementS_ev a1 (x - (a0.size : Int)) (by omega) (by omega) h1.1 h1.2
  rcases t1 with t1 | ⟨t1, s1, b1⟩
  · exact ⟨-1, Ev.neg n0 (Ev.bind u1 (Ev.pos (by omega) (Ev.now _))), .inl rfl⟩
  exact ⟨w1, Ev.neg n0 (Ev.bind u1 (Ev.neg (by omega) (Ev.now _))), .inr ⟨by omega, by omega, (by unfold bT; omega), (b1)⟩⟩

theorem toSegment_ev (a0 : ByteArray) (a1 : List S125) (h1 : (a1.length ≤ 1048576 ∧ ∀ y ∈ a1, bElement y)) : Ev (fun k => laws_toSegment.f k a0 a1) (a0, (a1.map cElement)) := by
  unfold laws_toSegment.f
  exact Ev.bind (toElementS_ev a1 h1.1 h1.2) (Ev.now _)

theorem eqSegment_refl (a0 : ByteArray) (a1 : List S102) (h1 : ((a1.length : Int) ≤ 4611686018427387904 ∧ ∀ y ∈ a1, eElement y)) : Ev (fun k => laws_eqSegment.f k a0 a1 a0 a1) true := by
  unfold laws_eqSegment.f
  exact Ev.pos rfl (Ev.bind (eqElementS_refl a1 h1.1 h1.2) (Ev.pos rfl (Ev.now _)))

/-! parts of a segment: printed, at most forty; a tag: three great letters -/
def printB (c : Int) : Bool := decide (32 ≤ c ∧ c ≤ 126)
def partB (s : ByteArray) : Bool := decide (s.size ≤ 40) && (bytesOf s).all printB
def tagB (s : ByteArray) : Bool := decide (s.size = 3) && (bytesOf s).all great
theorem isGreat_eq (c : Int) : impl_isGreat.f c = some (great c) := by
  unfold impl_isGreat.f great
  split
  · congr 1; simp only [decide_eq_decide]; omega
  · congr 1; symm; simp only [decide_eq_false_iff_not]; omega
theorem specPart_loop (s : ByteArray) (hs : s.size ≤ 1048576) : ∀ (l : List Int) (i : Nat), (bytesOf s).drop i = l → Ev (fun k => spec_l02Part.l0 k s (i : Int)) (l.all printB) := by
  intro l
  induction l with
  | nil =>
    intro i h
    have h0 := drop_nil h
    exact Ev.step (fun k => spec_l02Part.l0.eq_2 ..) (Ev.neg (by omega) (Ev.now _))
  | cons c r ih =>
    intro i h
    obtain ⟨h1, h2, h3, h4, h5⟩ := drop_cons h
    refine Ev.step (fun k => spec_l02Part.l0.eq_2 ..) (Ev.pos h1 (Ev.pos (by omega) ?_))
    rw [h2, wrap_id (x := (i : Int) + 1) (by omega) (by omega), show (i : Int) + 1 = ((i + 1 : Nat) : Int) by omega]
    refine Ev.ite (fun g => Ev.ret ?_) (fun g => Ev.ite (fun g2 => Ev.ret ?_) (fun g2 => (ih (i + 1) h3).to ?_))
    · have : printB c = false := by simp [printB]; omega
      simp [this]
    · have : printB c = false := by simp [printB]; omega
      simp [this]
    · have : printB c = true := by simp [printB]; omega
      simp [this]
theorem specPart_ev (s : ByteArray) (hs : s.size ≤ 1048576) : Ev (fun k => spec_l02Part.f k s) (partB s) := by
  unfold spec_l02Part.f
  refine Ev.ite (fun g => Ev.ret ?_) (fun g => (specPart_loop s hs _ 0 rfl).to ?_)
  · have : decide (s.size ≤ 40) = false := by simp; omega
    simp [partB, this]
  · have : decide (s.size ≤ 40) = true := by simp; omega
    simp [partB, this]
theorem implPrinted_loop (s : ByteArray) (hs : s.size ≤ 1048576) : ∀ (l : List Int) (i : Nat), (bytesOf s).drop i = l → Ev (fun k => impl_isPrinted.l0 k s (s.size : Int) (i : Int)) (l.all printB) := by
  intro l
  induction l with
  | nil =>
    intro i h
    have h0 := drop_nil h
    exact Ev.step (fun k => impl_isPrinted.l0.eq_2 ..) (Ev.neg (by omega) (Ev.now _))
  | cons c r ih =>
    intro i h
    obtain ⟨h1, h2, h3, h4, h5⟩ := drop_cons h
    refine Ev.step (fun k => impl_isPrinted.l0.eq_2 ..) (Ev.pos h1 (Ev.pos (by omega) (Ev.pos h1 ?_)))
    rw [h2, wrap_id (x := (i : Int) + 1) (by omega) (by omega), show (i : Int) + 1 = ((i + 1 : Nat) : Int) by omega]
    refine Ev.ite (fun g => Ev.ret ?_) (fun g => Ev.ite (fun g2 => Ev.ret ?_) (fun g2 => (ih (i + 1) h3).to ?_))
    · have : printB c = false := by simp [printB]; omega
      simp [this]
    · have : printB c = false := by simp [printB]; omega
      simp [this]
    · have : printB c = true := by simp [printB]; omega
      simp [this]
theorem implPart_ev (s : ByteArray) (hs : s.size ≤ 1048576) : Ev (fun k => impl_isPart.f k s) (partB s) := by
  unfold impl_isPart.f
  refine Ev.ite (fun g => ?_) (fun g => Ev.ret ?_)
  · have h2 : decide (s.size ≤ 40) = true := by simp; omega
    refine Ev.bind (show Ev (fun k => impl_isPrinted.f k s) ((bytesOf s).all printB) from implPrinted_loop s hs _ 0 rfl) (Ev.ret ?_)
    simp [partB, h2]
  · have : decide (s.size ≤ 40) = false := by simp; omega
    simp [partB, this]
theorem specTag_loop (s : ByteArray) (hs : s.size = 3) : ∀ (l : List Int) (i : Nat), (bytesOf s).drop i = l → Ev (fun k => spec_l02Tag.l0 k s (i : Int)) (l.all great) := by
  intro l
  induction l with
  | nil =>
    intro i h
    have h0 := drop_nil h
    exact Ev.step (fun k => spec_l02Tag.l0.eq_2 ..) (Ev.neg (by omega) (Ev.now _))
  | cons c r ih =>
    intro i h
    obtain ⟨h1, h2, h3, h4, h5⟩ := drop_cons h
    refine Ev.step (fun k => spec_l02Tag.l0.eq_2 ..) (Ev.pos (by omega) (Ev.pos (by omega) (Ev.pos h1 ?_)))
    rw [h2, wrap_id (x := (i : Int) + 1) (by omega) (by omega), show (i : Int) + 1 = ((i + 1 : Nat) : Int) by omega]
    refine Ev.ite (fun g => Ev.ret ?_) (fun g => Ev.ite (fun g2 => Ev.ret ?_) (fun g2 => (ih (i + 1) h3).to ?_))
    · have : great c = false := by simp [great]; omega
      simp [this]
    · have : great c = false := by simp [great]; omega
      simp [this]
    · have : great c = true := by simp [great]; omega
      simp [this]
theorem specTag_ev (s : ByteArray) : Ev (fun k => spec_l02Tag.f k s) (tagB s) := by
  unfold spec_l02Tag.f
  refine Ev.ite (fun g => (specTag_loop s (by omega) _ 0 rfl).to ?_) (fun g => Ev.ret ?_)
  · have : decide (s.size = 3) = true := by simp; omega
    simp [tagB, this]
  · have : decide (s.size = 3) = false := by simp; omega
    simp [tagB, this]
theorem isTag_eq (s : ByteArray) : impl_isTag.f s = some (tagB s) := by
  unfold impl_isTag.f
  by_cases h : s.size = 3
  · obtain ⟨a, b, c, hb⟩ : ∃ a b c, bytesOf s = [a, b, c] := by
      have := length_bytesOf s
      rw [h] at this
      match bytesOf s, this with
      | [a, b, c], _ => exact ⟨a, b, c, rfl⟩
    obtain ⟨h0, e0, d0, _⟩ := drop_cons (i := 0) (s := s) (c := a) (r := [b, c]) (by simpa using hb)
    obtain ⟨h1, e1, d1, _⟩ := drop_cons (i := 1) (s := s) d0
    obtain ⟨h2, e2, d2, _⟩ := drop_cons (i := 2) (s := s) d1
    have e0 : bt s 0 = a := e0
    have e1 : bt s 1 = b := e1
    have e2 : bt s 2 = c := e2
    rw [if_pos (by omega), if_pos (by omega), if_pos (by omega), if_pos (by omega), e0, e1, e2, isGreat_eq, isGreat_eq, isGreat_eq]
    have : decide (s.size = 3) = true := by simpa using h
    cases ha : great a <;> cases hb2 : great b <;> simp [tagB, this, hb, ha, hb2]
  · rw [if_neg (by omega)]
    have : decide (s.size = 3) = false := by simpa using h
    simp [tagB, this]

/-! a right segment -/
def lastE (p : List ByteArray) : Bool := ((rdOf ByteArray.empty p (wrap64 ((p.length : Int) - 1))).toList == ([] : List UInt8))
def emptyE (p : List ByteArray) : Bool := decide (p.length = 1) && lastE p
def elP (p : List ByteArray) : Bool := decide (1 ≤ p.length ∧ p.length ≤ 4) && !(decide (p.length > 1) && lastE p) && p.all partB
def lastEl (L : List S102) : Bool := match L.getLast? with | none => false | some e => emptyE e.f0
/-- A list's elements, the last one apart. -/
def segL : List S102 → Bool
  | [] => true
  | [e] => elP e.f0 && !emptyE e.f0
  | e :: e' :: r => elP e.f0 && segL (e' :: r)
theorem segL_eq : ∀ L : List S102, segL L = (L.all (fun e => elP e.f0) && !lastEl L)
  | [] => rfl
  | [e] => by simp [segL, lastEl]
  | e :: e' :: r => by
    have := segL_eq (e' :: r)
    have h2 : lastEl (e :: e' :: r) = lastEl (e' :: r) := by simp [lastEl]
    rw [segL, this, h2]
    simp [Bool.and_assoc]
def segB (s : ByteArray) (L : List S102) : Bool := tagB s && decide (L.length ≤ 10) && segL L
def bEl (p : List ByteArray) : Prop := p.length ≤ 1048576 ∧ ∀ s ∈ p, s.size ≤ 1048576
theorem rdlast (L : List S102) (h : 0 < L.length) (h1 : L.length ≤ 1048576) : 0 ≤ wrap64 ((L.length : Int) - 1) ∧ wrap64 ((L.length : Int) - 1) < (L.length : Int) ∧ lastEl L = emptyE (rd_T102 L (wrap64 ((L.length : Int) - 1))).f0 := by
  rw [wrap_id (by omega) (by omega)]
  refine ⟨by omega, by omega, ?_⟩
  unfold rd_T102 lastEl
  rw [List.getLast?_eq_getElem?, List.getD_eq_getElem?_getD, show ((L.length : Int) - 1).toNat = L.length - 1 by omega, List.getElem?_eq_getElem (by omega)]
  rfl
theorem l02Empty_eq (p : List ByteArray) : spec_l02Empty.f p = some (emptyE p) := by
  unfold spec_l02Empty.f emptyE
  by_cases h : p.length = 1
  · rw [if_pos (by omega), if_pos (by omega)]
    have hw : wrap64 ((p.length : Int) - 1) = 0 := by rw [wrap_id (by omega) (by omega)]; omega
    unfold lastE
    rw [hw]
    simp [h]
  · rw [if_neg (by omega)]
    simp [h]
theorem spec1_loop (s : ByteArray) (L : List S102) (p : List ByteArray) (hp : bEl p) (x : Int) (R : Bool) (hR : Ev (fun k => spec_SegmentRight.l0 k (wrap64 (x + 1)) s L) R) : ∀ (r : List ByteArray) (j : Nat), p.drop j = r → Ev (fun k => spec_SegmentRight.l1 k x p (j : Int) s L) (r.all partB && R) := by
  have hl := hp.1
  intro r
  induction r with
  | nil =>
    intro j h
    have h0 := ldrop_nil h
    exact Ev.step (fun k => spec_SegmentRight.l1.eq_2 ..) (Ev.neg (by omega) (hR.to (by simp)))
  | cons c r ih =>
    intro j h
    obtain ⟨h1, h2, h3⟩ := rdOf_cons ByteArray.empty h
    have hm : c ∈ p := List.mem_of_mem_drop (by rw [h]; exact List.mem_cons_self)
    have hw := wi_ (i := j) (by omega)
    refine Ev.step (fun k => spec_SegmentRight.l1.eq_2 ..) (Ev.pos h1 (Ev.pos (by omega) ?_))
    rw [h2, hw]
    refine Ev.bind (specPart_ev c (hp.2 c hm)) (Ev.ite (fun g => (ih (j + 1) h3).to (by simp [g])) (fun g => Ev.ret (by simp [g])))
theorem specSeg_loop (s : ByteArray) (L : List S102) (hL : L.length ≤ 1048576) (hE : ∀ e ∈ L, bEl e.f0) : ∀ (r : List S102) (i : Nat), L.drop i = r → Ev (fun k => spec_SegmentRight.l0 k (i : Int) s L) (r.all (fun e => elP e.f0) && !lastEl L) := by
  intro r
  induction r with
  | nil =>
    intro i h
    have h0 := ldrop_nil h
    refine Ev.step (fun k => spec_SegmentRight.l0.eq_2 ..) (Ev.neg (by omega) (Ev.ite (fun g => Ev.ret ?_) (fun g => ?_)))
    · have : L = [] := List.length_eq_zero_iff.1 (by omega)
      rw [this]; rfl
    · obtain ⟨h1, h2, h3⟩ := rdlast L (by omega) hL
      exact Ev.pos h1 (Ev.pos h2 (Ev.bindc (l02Empty_eq _) (Ev.ret (by rw [h3]; simp))))
  | cons e r ih =>
    intro i h
    obtain ⟨h1, h2, h3⟩ := ldrop_cons z102 h
    have hr : rd_T102 L (i : Int) = e := h2
    have hb := hE e (List.mem_of_mem_drop (by rw [h]; exact List.mem_cons_self))
    have hbl := hb.1
    have hw := wi_ (i := i) (by omega)
    have hi := ih (i + 1) h3
    rw [← hw] at hi
    have inner : Ev (fun k => spec_SegmentRight.l1 k (i : Int) e.f0 0 s L) (e.f0.all partB && (r.all (fun e => elP e.f0) && !lastEl L)) := spec1_loop s L e.f0 hb (i : Int) _ hi _ 0 rfl
    have hw2 : wrap64 ((e.f0.length : Int) - 1) = (e.f0.length : Int) - 1 := wrap_id (by omega) (by omega)
    refine Ev.step (fun k => spec_SegmentRight.l0.eq_2 ..) (Ev.pos h1 (Ev.pos (by omega) ?_))
    rw [hr]
    refine Ev.ite (fun g => ?_) (fun g => Ev.ite (fun g2 => ?_) (fun g2 => Ev.ite (fun g3 => Ev.pos (by rw [hw2]; omega) (Ev.pos (by rw [hw2]; omega) ?_)) (fun g3 => ?_)))
    · have : elP e.f0 = false := by simp [elP]; omega
      exact Ev.step (fun k => spec_SegmentRight.j2.eq_2 ..) (Ev.pos rfl (Ev.ret (by simp [this])))
    · have : elP e.f0 = false := by simp [elP]; omega
      exact Ev.step (fun k => spec_SegmentRight.j2.eq_2 ..) (Ev.pos rfl (Ev.ret (by simp [this])))
    · refine Ev.step (fun k => spec_SegmentRight.j2.eq_2 ..) (Ev.ite (fun g4 => Ev.ret ?_) (fun g4 => inner.to ?_))
      · have : elP e.f0 = false := by
          have h4 : lastE e.f0 = true := g4
          have h5 : decide (e.f0.length > 1) = true := by simp; omega
          simp [elP, h4, h5]
        simp [this]
      · have : elP e.f0 = e.f0.all partB := by
          have h4 : lastE e.f0 = false := by simpa [lastE] using g4
          have h5 : decide (1 ≤ e.f0.length ∧ e.f0.length ≤ 4) = true := by simp; omega
          simp only [elP, h4, h5]; simp
        simp [this, Bool.and_assoc]
    · refine Ev.step (fun k => spec_SegmentRight.j2.eq_2 ..) (Ev.neg (by simp) (inner.to ?_))
      have : elP e.f0 = e.f0.all partB := by
        have h4 : decide (e.f0.length > 1) = false := by simp; omega
        have h5 : decide (1 ≤ e.f0.length ∧ e.f0.length ≤ 4) = true := by simp; omega
        simp only [elP, h4, h5]; simp
      simp [this, Bool.and_assoc]
theorem specSeg_ev (s : ByteArray) (L : List S102) (hL : L.length ≤ 1048576) (hE : ∀ e ∈ L, bEl e.f0) : Ev (fun k => spec_SegmentRight.f k s L) (segB s L) := by
  unfold spec_SegmentRight.f
  have h0 : Ev (fun k => spec_SegmentRight.l0 k 0 s L) (segL L) := (specSeg_loop s L hL hE L 0 rfl).to (segL_eq L).symm
  refine Ev.bind (specTag_ev s) (Ev.ite (fun g => Ev.step (fun k => spec_SegmentRight.j0.eq_2 ..) (Ev.ite (fun g2 => Ev.ret ?_) (fun g2 => h0.to ?_))) (fun g => Ev.step (fun k => spec_SegmentRight.j0.eq_2 ..) (Ev.pos rfl (Ev.ret ?_))))
  · have : decide (L.length ≤ 10) = false := by have := of_decide_eq_true g2; simp; omega
    simp [segB, this]
  · have : decide (L.length ≤ 10) = true := by simp at g2; simp; omega
    simp only [segB, g, this]; simp
  · simp [segB, g]
theorem partsIdx_loop (p : List ByteArray) (hp : bEl p) : ∀ (r : List ByteArray) (i : Nat), p.drop i = r → ∃ x : Int, Ev (fun k => slices_IndexFunc_string_string__impl_SegmentRight_1.l0 k p (p.length : Int) (i : Int)) x ∧ decide (x ≥ 0) = !(r.all partB) := by
  have hl := hp.1
  intro r
  induction r with
  | nil =>
    intro i h
    have h0 := ldrop_nil h
    exact ⟨-1, Ev.step (fun k => slices_IndexFunc_string_string__impl_SegmentRight_1.l0.eq_2 ..) (Ev.neg (by omega) (Ev.now _)), by simp⟩
  | cons c r ih =>
    intro i h
    obtain ⟨h1, h2, h3⟩ := rdOf_cons ByteArray.empty h
    have hm : c ∈ p := List.mem_of_mem_drop (by rw [h]; exact List.mem_cons_self)
    have hw := wi_ (i := i) (by omega)
    obtain ⟨x, hx, he⟩ := ih (i + 1) h3
    have h1c : Ev (fun k => impl_SegmentRight_1.f k c) (!partB c) := by
      unfold impl_SegmentRight_1.f
      exact Ev.bind (implPart_ev c (hp.2 c hm)) (Ev.now _)
    cases hc : partB c with
    | false =>
      refine ⟨i, Ev.step (fun k => slices_IndexFunc_string_string__impl_SegmentRight_1.l0.eq_2 ..) (Ev.pos h1 (Ev.pos (by omega) (Ev.pos h1 ?_))), by simp [hc]⟩
      rw [h2]
      exact Ev.bind h1c (Ev.pos (by simp [hc]) (Ev.now _))
    | true =>
      refine ⟨x, Ev.step (fun k => slices_IndexFunc_string_string__impl_SegmentRight_1.l0.eq_2 ..) (Ev.pos h1 (Ev.pos (by omega) (Ev.pos h1 ?_))), by rw [he]; simp [hc]⟩
      rw [h2, hw]
      exact Ev.bind h1c (Ev.neg (by simp [hc]) hx)
theorem partsAny_ev (p : List ByteArray) (hp : bEl p) : Ev (fun k => slices_ContainsFunc_string_string__impl_SegmentRight_1.f k p) (!(p.all partB)) := by
  obtain ⟨x, hx, he⟩ := partsIdx_loop p hp p 0 rfl
  unfold slices_ContainsFunc_string_string__impl_SegmentRight_1.f
  refine Ev.bind (show Ev (fun k => slices_IndexFunc_string_string__impl_SegmentRight_1.f k p) x from hx) ?_
  exact Ev.ret he
theorem implSeg_loop (s : ByteArray) (L : List S102) (hL : L.length ≤ 1048576) (hE : ∀ e ∈ L, bEl e.f0) : ∀ (r : List S102) (i : Nat), L.drop i = r → Ev (fun k => impl_SegmentRight.l0 k L (L.length : Int) (i : Int) s L) (segL r && (tagB s && decide (L.length ≤ 10))) := by
  intro r
  induction r with
  | nil =>
    intro i h
    have h0 := ldrop_nil h
    refine Ev.step (fun k => impl_SegmentRight.l0.eq_2 ..) (Ev.neg (by omega) (Ev.bindc (isTag_eq s) (Ev.ite (fun g => Ev.ret ?_) (fun g => Ev.ret ?_))))
    · simp only [segL, g, Bool.true_and]
      simp only [decide_eq_decide]; omega
    · simp [g]
  | cons e r ih =>
    intro i h
    obtain ⟨h1, h2, h3⟩ := ldrop_cons z102 h
    have hr : rd_T102 L (i : Int) = e := h2
    have hb := hE e (List.mem_of_mem_drop (by rw [h]; exact List.mem_cons_self))
    have hbl := hb.1
    have hw := wi_ (i := i) (by omega)
    have hi := ih (i + 1) h3
    have hrl : r.length + (i + 1) = L.length := by
      have := congrArg List.length h3
      rw [List.length_drop] at this
      omega
    have hw2 : wrap64 ((e.f0.length : Int) - 1) = (e.f0.length : Int) - 1 := wrap_id (by omega) (by omega)
    have hw3 : wrap64 ((L.length : Int) - 1) = (L.length : Int) - 1 := wrap_id (by omega) (by omega)
    have hno : elP e.f0 = false → (segL (e :: r) && (tagB s && decide (L.length ≤ 10))) = false := by
      intro h0
      cases r <;> simp [segL, h0]
    refine Ev.step (fun k => impl_SegmentRight.l0.eq_2 ..) (Ev.pos h1 (Ev.pos (by omega) (Ev.pos h1 (Ev.bindc (within_eq _ _ _) ?_))))
    rw [hr]
    refine Ev.ite (fun g => Ev.bind (partsAny_ev e.f0 hb) (Ev.step (fun k => impl_SegmentRight.j1.eq_2 ..) (Ev.ite (fun g2 => Ev.ret ?_) (fun g2 => ?_)))) (fun g => Ev.step (fun k => impl_SegmentRight.j1.eq_2 ..) (Ev.pos rfl (Ev.ret ?_)))
    · refine (hno ?_).symm
      have g3 : e.f0.all partB = false := by simpa using g2
      unfold elP; rw [g3]; simp
    · have g3 : e.f0.all partB = true := by simpa using g2
      have gw : 1 ≤ e.f0.length ∧ e.f0.length ≤ 4 := by simp [withinP] at g; omega
      refine Ev.pos (by rw [hw2]; omega) (Ev.pos (by rw [hw2]; omega) (Ev.ite (fun g4 => Ev.ite (fun g5 => Ev.ret ?_) (fun g5 => Ev.ite (fun g6 => Ev.ret ?_) (fun g6 => ?_))) (fun g4 => ?_)))
      · refine (hno ?_).symm
        have h4 : lastE e.f0 = true := by simpa [lastE] using g4
        have h5 : decide (e.f0.length > 1) = true := by simp; omega
        simp [elP, h4, h5]
      · have h4 : lastE e.f0 = true := by simpa [lastE] using g4
        have : r = [] := List.length_eq_zero_iff.1 (by rw [hw3] at g6; omega)
        subst this
        have h5 : emptyE e.f0 = true := by
          unfold emptyE
          rw [h4]
          simp; omega
        simp [segL, h5]
      · rw [hw]
        refine hi.to ?_
        have h4 : elP e.f0 = true := by
          have h5 : decide (e.f0.length > 1) = false := by simp; omega
          have h6 : decide (1 ≤ e.f0.length ∧ e.f0.length ≤ 4) = true := by simpa using gw
          simp only [elP, h5, h6, g3]; simp
        match r, hrl with
        | [], hrl => exact absurd (show (i : Int) = wrap64 ((L.length : Int) - 1) by rw [hw3]; simp at hrl; omega) g6
        | e' :: r', _ => simp [segL, h4]
      · rw [hw]
        refine hi.to ?_
        have h7 : lastE e.f0 = false := by simpa [lastE] using g4
        have h4 : elP e.f0 = true := by
          have h6 : decide (1 ≤ e.f0.length ∧ e.f0.length ≤ 4) = true := by simpa using gw
          simp only [elP, h7, h6, g3]; simp
        have h8 : emptyE e.f0 = false := by simp [emptyE, h7]
        match r with
        | [] => simp [segL, h4, h8]
        | e' :: r' => simp [segL, h4]
    · refine (hno ?_).symm
      have : decide (1 ≤ e.f0.length ∧ e.f0.length ≤ 4) = false := by simp [withinP] at g; simp; omega
      unfold elP; rw [this]; simp
theorem implSeg_ev (s : ByteArray) (L : List S102) (hL : L.length ≤ 1048576) (hE : ∀ e ∈ L, bEl e.f0) : Ev (fun k => impl_SegmentRight.f k s L) (segB s L) := by
  unfold impl_SegmentRight.f
  refine (implSeg_loop s L hL hE L 0 rfl).to ?_
  unfold segB
  rw [Bool.and_comm]

theorem bound_cEl {l : List S125} (hb : ∀ y ∈ l, bElement y) : ∀ y ∈ l.map cElement, bEl y.f0 := by
  intro y hy
  obtain ⟨x, hx, rfl⟩ := List.mem_map.1 hy
  exact hb x hx
theorem FnExactSegmentRight : laws_FnExactSegmentRight.Pure := by
  intro a l ha hl
  refine Ev.rounds (g := fun k => laws_FnExactSegmentRight.f k a l) ?_
  unfold laws_FnExactSegmentRight.f
  obtain ⟨w, u, t⟩ := szSegment_ev a l 1048576 (by omega) (by omega) ha hl
  rcases t with t | ⟨t, _, hba, hbl⟩
  · exact Ev.bind u (Ev.pos (by omega) (Ev.now _))
  · have ht := toSegment_ev a l hbl
    have hbe := bound_cEl hbl.2
    have r1 := specSeg_ev a (l.map cElement) (by rw [List.length_map]; exact hbl.1) hbe
    have r2 := implSeg_ev a (l.map cElement) (by rw [List.length_map]; exact hbl.1) hbe
    have he : Ev (fun k => laws_eqSegment.f k a (l.map cElement) a (l.map cElement)) true := eqSegment_refl a (l.map cElement) ⟨by rw [List.length_map]; omega, fun y hy => by have := (hbe y hy).1; show (y.f0.length : Int) ≤ _; omega⟩
    exact Ev.bind u (Ev.neg (by omega) (Ev.bind ht (Ev.bind r1 (Ev.bind ht (Ev.bind r2 (Ev.neg (by simp) (Ev.bind ht (Ev.bind he (Ev.pos rfl (Ev.now _))))))))))

end Go.Proofs.Ytchoalagkcdbhaa.Pure
