/- The program's ParcelSame answers as the reference's: the law, over numbers and lists.
Conditions: none. -/
import Derived.Test.YtlghcbmkhdibdaaPFnExactParcelSamex
import Derived.Test.YtlghcbmkhdibdaaVFnExactParcelSame
namespace Go.Proofs.Ytlghcbmkhdibdaa.Pure
open Go.RowKit Go.Proofs.Ytlghcbmkhdibdaa.PFnExactParcelSame Go.Proofs.YtlghcbmkhdibdaaW.PrintWords Go.Proofs.YtlghcbmkhdibdaaW.PrintLast Go.Proofs.YtlghcbmkhdibdaaW.PrintMore Go.Proofs.YtlghcbmkhdibdaaW.Pl
set_option linter.unusedVariables false
set_option linter.unusedSimpArgs false

theorem wi_ {i : Nat} (h : (i : Int) ≤ 4611686018427387904) : wrap64 ((i : Int) + 1) = ((i + 1 : Nat) : Int) := by rw [wrap_id (by omega) (by omega)]; omega
/-- A list that is copied into a new one, place by place. -/
theorem tos_list {α β : Type} (z : α) (g : α → β) (T : Nat → List α → List β → Int → Option (List β)) (L : List α)
    (hT : ∀ (D : List β) (i : Nat) (r : List β), i < L.length → D.length = L.length → Ev (fun k => T k L (D.set i (g (L.getD i z))) ((i + 1 : Nat) : Int)) r → Ev (fun k => T k L D (i : Int)) r)
    (hT0 : ∀ (D : List β) (i : Nat), L.length ≤ i → Ev (fun k => T k L D (i : Int)) D) :
    ∀ (d : Nat) (D : List β) (i : Nat), L.length - i = d → D.length = L.length → (∀ j, j < i → D[j]? = (L.map g)[j]?) → Ev (fun k => T k L D (i : Int)) (L.map g)
  | 0, D, i, hd, hl, hp => by
    have e : D = L.map g := by
      apply List.ext_getElem?
      intro j
      by_cases h : j < i
      · exact hp j h
      · rw [List.getElem?_eq_none (by omega), List.getElem?_eq_none (by rw [List.length_map]; omega)]
    subst e
    exact hT0 _ i (by omega)
  | d + 1, D, i, hd, hl, hp => by
    refine hT D i _ (by omega) hl (tos_list z g T L hT hT0 d _ (i + 1) (by omega) (by rw [List.length_set]; exact hl) (fun j hj => ?_))
    by_cases h : j = i
    · subst h
      rw [List.getElem?_set_self (by omega), List.getElem?_map, List.getD_eq_getElem?_getD, List.getElem?_eq_getElem (by omega : j < L.length)]
      rfl
    · rw [List.getElem?_set_ne (by omega)]
      exact hp j (by omega)
/-- A list is measured, place by place: it is too great, or each element is bounded. -/
theorem sz_list {α : Type} (z : α) (P : α → Prop) (Z : Nat → List α → Int → Int → Option Int) (L : List α)
    (hs : ∀ (i : Nat) (x : Int), i < L.length → 0 ≤ x → x ≤ 1048576 → Ev (fun k => Z k L x (i : Int)) (-1) ∨ ∃ x', 0 ≤ x' ∧ x' ≤ x ∧ P (L.getD i z) ∧ ∀ r, Ev (fun k => Z k L x' ((i + 1 : Nat) : Int)) r → Ev (fun k => Z k L x (i : Int)) r)
    (h0 : ∀ (i : Nat) (x : Int), L.length ≤ i → Ev (fun k => Z k L x (i : Int)) x) :
    ∀ (d i : Nat) (x : Int), L.length - i = d → 0 ≤ x → x ≤ 1048576 → ∃ w, Ev (fun k => Z k L x (i : Int)) w ∧ (w = -1 ∨ (0 ≤ w ∧ w ≤ x ∧ ∀ j, i ≤ j → j < L.length → P (L.getD j z)))
  | 0, i, x, hd, h1, h2 => ⟨x, h0 i x (by omega), .inr ⟨h1, by omega, fun j _ _ => by omega⟩⟩
  | d + 1, i, x, hd, h1, h2 => by
    rcases hs i x (by omega) h1 h2 with h | ⟨x', g1, g2, g3, g4⟩
    · exact ⟨-1, h, .inl rfl⟩
    · obtain ⟨w, e1, e2⟩ := sz_list z P Z L hs h0 d (i + 1) x' (by omega) g1 (by omega)
      refine ⟨w, g4 w e1, ?_⟩
      rcases e2 with e2 | ⟨e2, e3, e4⟩
      · exact .inl e2
      · refine .inr ⟨e2, by omega, fun j hj hl => ?_⟩
        by_cases h : j = i
        · subst h; exact g3
        · exact e4 j (by omega) hl
theorem sz_all {α : Type} (z : α) (P : α → Prop) (L : List α) (h : ∀ j, 0 ≤ j → j < L.length → P (L.getD j z)) : ∀ x ∈ L, P x := by
  intro x hx
  obtain ⟨j, hj, rfl⟩ := List.getElem_of_mem hx
  have := h j (by omega) hj
  rwa [List.getD_eq_getElem?_getD, List.getElem?_eq_getElem hj] at this
theorem getD_mem {α : Type} {L : List α} {i : Nat} (z : α) (h : i < L.length) : L.getD i z ∈ L := by
  rw [List.getD_eq_getElem?_getD, List.getElem?_eq_getElem h]
  exact List.getElem_mem h
/-- A text that is bounded; a list of them. -/
def bT (s : ByteArray) : Prop := s.size ≤ 1048576
def bTs (l : List ByteArray) : Prop := l.length ≤ 1048576 ∧ ∀ s ∈ l, bT s

/-- A comparison of lists, place by place: of one list with itself. -/
theorem eqs_refl {α : Type} (Q : Nat → List α → List α → Int → Option Bool) (L : List α) (hs : ∀ i : Nat, i < L.length → Ev (fun k => Q k L L ((i + 1 : Nat) : Int)) true → Ev (fun k => Q k L L (i : Int)) true) (h0 : ∀ i : Nat, L.length ≤ i → Ev (fun k => Q k L L (i : Int)) true) : ∀ (d i : Nat), L.length - i = d → Ev (fun k => Q k L L (i : Int)) true
  | 0, i, h => h0 i (by omega)
  | d + 1, i, h => hs i (by omega) (eqs_refl Q L hs h0 d (i + 1) (by omega))

theorem szStringS_ev (l : List ByteArray) (x : Int) (h0 : 0 ≤ x) (h1 : x ≤ 1048576) (hl : l.length ≤ maxLen) (hs : ∀ s ∈ l, s.size ≤ maxLen) : ∃ w, Ev (fun k => laws_szStringS.f k l x) w ∧ (w = -1 ∨ (0 ≤ w ∧ w ≤ x ∧ bTs l)) := by
  simp only [maxLen] at hl hs
  unfold laws_szStringS.f
  have hw : wrap64 (x - (l.length : Int)) = x - (l.length : Int) := wrap_id (by omega) (by omega)
  rw [hw]
  by_cases hn : x - (l.length : Int) < 0
  · exact ⟨-1, Ev.pos hn (Ev.now _), .inl rfl⟩
  · have hstep : ∀ (i : Nat) (y : Int), i < l.length → 0 ≤ y → y ≤ 1048576 → Ev (fun k => laws_szStringS.l0 k l y (i : Int)) (-1) ∨ ∃ x', 0 ≤ x' ∧ x' ≤ y ∧ bT (l.getD i ByteArray.empty) ∧ ∀ r, Ev (fun k => laws_szStringS.l0 k l x' ((i + 1 : Nat) : Int)) r → Ev (fun k => laws_szStringS.l0 k l y (i : Int)) r := by
      intro i y hi g0 g1
      have hsz : (l.getD i ByteArray.empty).size ≤ 9223372036854775807 := hs _ (getD_mem _ hi)
      have hr : rdOf ByteArray.empty l (i : Int) = l.getD i ByteArray.empty := by unfold rdOf; rw [Int.toNat_natCast]
      have hw2 : wrap64 (y - ((l.getD i ByteArray.empty).size : Int)) = y - ((l.getD i ByteArray.empty).size : Int) := wrap_id (by omega) (by omega)
      by_cases hz : y - ((l.getD i ByteArray.empty).size : Int) < 0
      · refine .inl (Ev.step (fun k => laws_szStringS.l0.eq_2 ..) (Ev.pos (by omega) (Ev.pos (by omega) ?_)))
        rw [hr, hw2]
        exact Ev.pos hz (Ev.now _)
      · refine .inr ⟨y - ((l.getD i ByteArray.empty).size : Int), by omega, by omega, by unfold bT; omega, fun r hr' => Ev.step (fun k => laws_szStringS.l0.eq_2 ..) (Ev.pos (by omega) (Ev.pos (by omega) ?_))⟩
        rw [hr, hw2, wi_ (by omega)]
        exact Ev.neg hz hr'
    obtain ⟨w, e1, e2⟩ := sz_list ByteArray.empty bT laws_szStringS.l0 l hstep (fun i y hi => Ev.step (fun k => laws_szStringS.l0.eq_2 ..) (Ev.neg (by omega) (Ev.now _))) l.length 0 (x - (l.length : Int)) (by omega) (by omega) (by omega)
    refine ⟨w, Ev.neg hn e1, ?_⟩
    rcases e2 with e2 | ⟨e2, e3, e4⟩
    · exact .inl e2
    · exact .inr ⟨e2, by omega, by omega, sz_all _ _ _ e4⟩

theorem toStringS_ev (l : List ByteArray) (hl : l.length ≤ 1048576) : Ev (fun k => laws_toStringS.f k l) l := by
  unfold laws_toStringS.f
  refine Ev.pos (by omega) (Ev.pos (by omega) ?_)
  refine (tos_list ByteArray.empty id laws_toStringS.l0 l (fun D i r hi hd h => ?_) (fun D i hi => ?_) l.length _ 0 (by omega) (by simp) (fun j hj => by omega)).to (by simp)
  · refine Ev.step (fun k => laws_toStringS.l0.eq_2 ..) (Ev.pos (by omega) (Ev.pos (by omega) (Ev.pos (by omega) ?_)))
    rw [wi_ (by omega)]
    exact h
  · exact Ev.step (fun k => laws_toStringS.l0.eq_2 ..) (Ev.neg (by omega) (Ev.now _))

theorem eqStringS_refl (l : List ByteArray) (hl : (l.length : Int) ≤ 4611686018427387904) : Ev (fun k => laws_eqStringS.f k l l) true := by
  unfold laws_eqStringS.f
  refine Ev.pos rfl (eqs_refl laws_eqStringS.l0 l (fun i hi h => ?_) (fun i hi => ?_) l.length 0 (by omega))
  · refine Ev.step (fun k => laws_eqStringS.l0.eq_2 ..) (Ev.pos (by omega) (Ev.pos (by omega) (Ev.pos (by omega) (Ev.pos rfl ?_))))
    rw [wi_ (by omega)]
    exact h
  · exact Ev.step (fun k => laws_eqStringS.l0.eq_2 ..) (Ev.neg (by omega) (Ev.now _))

/-- A Line that is bounded; a Line of the laws as the program has it. -/
def bLine (x : S111) : Prop := bT x.f1 ∧ bT x.f4
def cLine (x : S111) : S71 := ⟨x.f0, x.f1, x.f2, x.f3, x.f4⟩

theorem szLine_ev (a0 : Int) (a1 : ByteArray) (a2 : Int) (a3 : Int) (a4 : ByteArray) (x : Int) (g0 : 0 ≤ x) (g1 : x ≤ 1048576) (h1 : a1.size ≤ maxLen) (h4 : a4.size ≤ maxLen) : ∃ w, Ev (fun k => laws_szLine.f a0 a1 a2 a3 a4 x) w ∧ (w = -1 ∨ (0 ≤ w ∧ w ≤ x ∧ bT a1 ∧ bT a4)) := by
  unfold laws_szLine.f
  have m1 : a1.size ≤ 9223372036854775807 := h1
  have e1 : wrap64 (x - (a1.size : Int)) = x - (a1.size : Int) := wrap_id (by omega) (by omega)
  rw [e1]
  by_cases n1 : x - (a1.size : Int) < 0
  · exact ⟨-1, Ev.pos n1 (Ev.now _), .inl rfl⟩
  have m4 : a4.size ≤ 9223372036854775807 := h4
  have e4 : wrap64 ((x - (a1.size : Int)) - (a4.size : Int)) = (x - (a1.size : Int)) - (a4.size : Int) := wrap_id (by omega) (by omega)
  rw [e4]
  by_cases n4 : (x - (a1.size : Int)) - (a4.size : Int) < 0
  · exact ⟨-1, Ev.neg n1 (Ev.pos n4 (Ev.now _)), .inl rfl⟩
  exact ⟨((x - (a1.size : Int)) - (a4.size : Int)), Ev.neg n1 (Ev.neg n4 (Ev.now _)), .inr ⟨by omega, by omega, (by unfold bT; omega), (by unfold bT; omega)⟩⟩

theorem szLineS_ev (l : List S111) (x : Int) (h0 : 0 ≤ x) (h1 : x ≤ 1048576) (hl : l.length ≤ maxLen) (hs : ∀ y ∈ l, q111 y) : ∃ w, Ev (fun k => laws_szLineS.f k l x) w ∧ (w = -1 ∨ (0 ≤ w ∧ w ≤ x ∧ l.length ≤ 1048576 ∧ ∀ y ∈ l, bLine y)) := by
  simp only [maxLen] at hl
  have hq : ∀ i, i < l.length → q111 (l.getD i z111) := fun i hi => hs _ (getD_mem _ hi)
  unfold laws_szLineS.f
  have hw : wrap64 (x - (l.length : Int)) = x - (l.length : Int) := wrap_id (by omega) (by omega)
  rw [hw]
  by_cases hn : x - (l.length : Int) < 0
  · exact ⟨-1, Ev.pos hn (Ev.now _), .inl rfl⟩
  · have hstep : ∀ (i : Nat) (y : Int), i < l.length → 0 ≤ y → y ≤ 1048576 → Ev (fun k => laws_szLineS.l0 k l y (i : Int)) (-1) ∨ ∃ x', 0 ≤ x' ∧ x' ≤ y ∧ bLine (l.getD i z111) ∧ ∀ r, Ev (fun k => laws_szLineS.l0 k l x' ((i + 1 : Nat) : Int)) r → Ev (fun k => laws_szLineS.l0 k l y (i : Int)) r := by
      intro i y hi g0 g1
      have hr : rd_T111 l (i : Int) = l.getD i z111 := by unfold rd_T111; rw [Int.toNat_natCast]
      obtain ⟨w, e1, e2⟩ := szLine_ev (l.getD i z111).f0 (l.getD i z111).f1 (l.getD i z111).f2 (l.getD i z111).f3 (l.getD i z111).f4 y g0 g1 (hq i hi).2.1 (hq i hi).2.2.2.2
      rcases e2 with e2 | ⟨e2, e3, e4⟩
      · refine .inl (Ev.step (fun k => laws_szLineS.l0.eq_2 ..) (Ev.pos (by omega) (Ev.pos (by omega) ?_)))
        rw [hr]
        exact Ev.bind e1 (Ev.pos (by omega) (Ev.now _))
      · refine .inr ⟨w, by omega, by omega, e4, fun r hr' => Ev.step (fun k => laws_szLineS.l0.eq_2 ..) (Ev.pos (by omega) (Ev.pos (by omega) ?_))⟩
        rw [hr, wi_ (by omega)]
        exact Ev.bind e1 (Ev.neg (by omega) hr')
    obtain ⟨w, e1, e2⟩ := sz_list z111 bLine laws_szLineS.l0 l hstep (fun i y hi => Ev.step (fun k => laws_szLineS.l0.eq_2 ..) (Ev.neg (by omega) (Ev.now _))) l.length 0 (x - (l.length : Int)) (by omega) (by omega) (by omega)
    refine ⟨w, Ev.neg hn e1, ?_⟩
    rcases e2 with e2 | ⟨e2, e3, e4⟩
    · exact .inl e2
    · exact .inr ⟨e2, by omega, by omega, sz_all _ _ _ e4⟩

theorem toLine_ev (a0 : Int) (a1 : ByteArray) (a2 : Int) (a3 : Int) (a4 : ByteArray)  : Ev (fun k => laws_toLine.f a0 a1 a2 a3 a4) (a0, a1, a2, a3, a4) := by
  unfold laws_toLine.f
  exact Ev.now _

theorem toLineS_ev (l : List S111) (hl : l.length ≤ 1048576) (hb : ∀ y ∈ l, bLine y) : Ev (fun k => laws_toLineS.f k l) (l.map cLine) := by
  unfold laws_toLineS.f
  refine Ev.pos (by omega) (Ev.pos (by omega) ?_)
  refine tos_list z111 cLine laws_toLineS.l0 l (fun D i r hi hd h => ?_) (fun D i hi => ?_) l.length _ 0 (by omega) (by simp) (fun j hj => by omega)
  · have hr : rd_T111 l (i : Int) = l.getD i z111 := by unfold rd_T111; rw [Int.toNat_natCast]
    refine Ev.step (fun k => laws_toLineS.l0.eq_2 ..) (Ev.pos (by omega) (Ev.pos (by omega) ?_))
    rw [hr, wi_ (by omega)]
    refine Ev.bind (toLine_ev (l.getD i z111).f0 (l.getD i z111).f1 (l.getD i z111).f2 (l.getD i z111).f3 (l.getD i z111).f4 ) (Ev.pos (by omega) ?_)
    exact h
  · exact Ev.step (fun k => laws_toLineS.l0.eq_2 ..) (Ev.neg (by omega) (Ev.now _))

theorem eqLine_refl (a0 : Int) (a1 : ByteArray) (a2 : Int) (a3 : Int) (a4 : ByteArray)  : Ev (fun k => laws_eqLine.f a0 a1 a2 a3 a4 a0 a1 a2 a3 a4) true := by
  unfold laws_eqLine.f
  exact Ev.pos rfl (Ev.pos rfl (Ev.pos rfl (Ev.pos rfl (Ev.pos rfl (Ev.now _)))))

/-- Of a Line: its lists are bounded. -/
def eLine (x : S71) : Prop := True
theorem eqLineS_refl (l : List S71) (hl : (l.length : Int) ≤ 4611686018427387904) (hb : ∀ y ∈ l, eLine y) : Ev (fun k => laws_eqLineS.f k l l) true := by
  unfold laws_eqLineS.f
  refine Ev.pos rfl (eqs_refl laws_eqLineS.l0 l (fun i hi h => ?_) (fun i hi => ?_) l.length 0 (by omega))
  · have hr : rd_T71 l (i : Int) = l.getD i z71 := by unfold rd_T71; rw [Int.toNat_natCast]
    refine Ev.step (fun k => laws_eqLineS.l0.eq_2 ..) (Ev.pos (by omega) (Ev.pos (by omega) (Ev.pos (by omega) ?_)))
    rw [hr, wi_ (by omega)]
    exact Ev.bind (eqLine_refl (l.getD i z71).f0 (l.getD i z71).f1 (l.getD i z71).f2 (l.getD i z71).f3 (l.getD i z71).f4 ) (Ev.pos rfl h)
  · exact Ev.step (fun k => laws_eqLineS.l0.eq_2 ..) (Ev.neg (by omega) (Ev.now _))

/-- A Paper that is bounded; a Paper of the laws as the program has it. -/
def bPaper (x : S25) : Prop := bT x.f1 ∧ bT x.f2 ∧ bTs x.f4 ∧ (x.f5.length ≤ 1048576 ∧ ∀ y ∈ x.f5, bLine y)
def cPaper (x : S25) : S30 := ⟨x.f0, x.f1, x.f2, x.f3, x.f4, (x.f5.map cLine)⟩

theorem szPaper_ev (a0 : Int) (a1 : ByteArray) (a2 : ByteArray) (a3 : Int) (a4 : List ByteArray) (a5 : List S111) (x : Int) (g0 : 0 ≤ x) (g1 : x ≤ 1048576) (h1 : a1.size ≤ maxLen) (h2 : a2.size ≤ maxLen) (h4 : (a4.length ≤ maxLen ∧ ∀ s ∈ a4, s.size ≤ maxLen)) (h5 : (a5.length ≤ maxLen ∧ ∀ y ∈ a5, q111 y)) : ∃ w, Ev (fun k => laws_szPaper.f k a0 a1 a2 a3 a4 a5 x) w ∧ (w = -1 ∨ (0 ≤ w ∧ w ≤ x ∧ bT a1 ∧ bT a2 ∧ bTs a4 ∧ (a5.length ≤ 1048576 ∧ ∀ y ∈ a5, bLine y))) := by
  unfold laws_szPaper.f
  have m1 : a1.size ≤ 9223372036854775807 := h1
  have e1 : wrap64 (x - (a1.size : Int)) = x - (a1.size : Int) := wrap_id (by omega) (by omega)
  rw [e1]
  by_cases n1 : x - (a1.size : Int) < 0
  · exact ⟨-1, Ev.pos n1 (Ev.now _), .inl rfl⟩
  have m2 : a2.size ≤ 9223372036854775807 := h2
  have e2 : wrap64 ((x - (a1.size : Int)) - (a2.size : Int)) = (x - (a1.size : Int)) - (a2.size : Int) := wrap_id (by omega) (by omega)
  rw [e2]
  by_cases n2 : (x - (a1.size : Int)) - (a2.size : Int) < 0
  · exact ⟨-1, Ev.neg n1 (Ev.pos n2 (Ev.now _)), .inl rfl⟩
  obtain ⟨w4, u4, t4⟩ := szStringS_ev a4 ((x - (a1.size : Int)) - (a2.size : Int)) (by omega) (by omega) h4.1 h4.2
  rcases t4 with t4 | ⟨t4, s4, b4⟩
  · exact ⟨-1, Ev.neg n1 (Ev.neg n2 (Ev.bind u4 (Ev.pos (by omega) (Ev.now _)))), .inl rfl⟩
  obtain ⟨w5, u5, t5⟩ := szLineS_ev a5 w4 (by omega) (by omega) h5.1 h5.2
  rcases t5 with t5 | ⟨t5, s5, b5⟩
  · exact ⟨-1, Ev.neg n1 (Ev.neg n2 (Ev.bind u4 (Ev.neg (by omega) (Ev.bind u5 (Ev.pos (by omega) (Ev.now _)))))), .inl rfl⟩
  exact ⟨w5, Ev.neg n1 (Ev.neg n2 (Ev.bind u4 (Ev.neg (by omega) (Ev.bind u5 (Ev.neg (by omega) (Ev.now _)))))), .inr ⟨by omega, by omega, (by unfold bT; omega), (by unfold bT; omega), (b4), (b5)⟩⟩

theorem szPaperS_ev (l : List S25) (x : Int) (h0 : 0 ≤ x) (h1 : x ≤ 1048576) (hl : l.length ≤ maxLen) (hs : ∀ y ∈ l, q25 y) : ∃ w, Ev (fun k => laws_szPaperS.f k l x) w ∧ (w = -1 ∨ (0 ≤ w ∧ w ≤ x ∧ l.length ≤ 1048576 ∧ ∀ y ∈ l, bPaper y)) := by
  simp only [maxLen] at hl
  have hq : ∀ i, i < l.length → q25 (l.getD i z25) := fun i hi => hs _ (getD_mem _ hi)
  unfold laws_szPaperS.f
  have hw : wrap64 (x - (l.length : Int)) = x - (l.length : Int) := wrap_id (by omega) (by omega)
  rw [hw]
  by_cases hn : x - (l.length : Int) < 0
  · exact ⟨-1, Ev.pos hn (Ev.now _), .inl rfl⟩
  · have hstep : ∀ (i : Nat) (y : Int), i < l.length → 0 ≤ y → y ≤ 1048576 → Ev (fun k => laws_szPaperS.l0 k l y (i : Int)) (-1) ∨ ∃ x', 0 ≤ x' ∧ x' ≤ y ∧ bPaper (l.getD i z25) ∧ ∀ r, Ev (fun k => laws_szPaperS.l0 k l x' ((i + 1 : Nat) : Int)) r → Ev (fun k => laws_szPaperS.l0 k l y (i : Int)) r := by
      intro i y hi g0 g1
      have hr : rd_T25 l (i : Int) = l.getD i z25 := by unfold rd_T25; rw [Int.toNat_natCast]
      obtain ⟨w, e1, e2⟩ := szPaper_ev (l.getD i z25).f0 (l.getD i z25).f1 (l.getD i z25).f2 (l.getD i z25).f3 (l.getD i z25).f4 (l.getD i z25).f5 y g0 g1 (hq i hi).2.1 (hq i hi).2.2.1 (hq i hi).2.2.2.2.1 (hq i hi).2.2.2.2.2
      rcases e2 with e2 | ⟨e2, e3, e4⟩
      · refine .inl (Ev.step (fun k => laws_szPaperS.l0.eq_2 ..) (Ev.pos (by omega) (Ev.pos (by omega) ?_)))
        rw [hr]
        exact Ev.bind e1 (Ev.pos (by omega) (Ev.now _))
      · refine .inr ⟨w, by omega, by omega, e4, fun r hr' => Ev.step (fun k => laws_szPaperS.l0.eq_2 ..) (Ev.pos (by omega) (Ev.pos (by omega) ?_))⟩
        rw [hr, wi_ (by omega)]
        exact Ev.bind e1 (Ev.neg (by omega) hr')
    obtain ⟨w, e1, e2⟩ := sz_list z25 bPaper laws_szPaperS.l0 l hstep (fun i y hi => Ev.step (fun k => laws_szPaperS.l0.eq_2 ..) (Ev.neg (by omega) (Ev.now _))) l.length 0 (x - (l.length : Int)) (by omega) (by omega) (by omega)
    refine ⟨w, Ev.neg hn e1, ?_⟩
    rcases e2 with e2 | ⟨e2, e3, e4⟩
    · exact .inl e2
    · exact .inr ⟨e2, by omega, by omega, sz_all _ _ _ e4⟩

theorem toPaper_ev (a0 : Int) (a1 : ByteArray) (a2 : ByteArray) (a3 : Int) (a4 : List ByteArray) (a5 : List S111) (h4 : bTs a4) (h5 : (a5.length ≤ 1048576 ∧ ∀ y ∈ a5, bLine y)) : Ev (fun k => laws_toPaper.f k a0 a1 a2 a3 a4 a5) (a0, a1, a2, a3, a4, (a5.map cLine)) := by
  unfold laws_toPaper.f
  exact Ev.bind (toStringS_ev a4 h4.1) (Ev.bind (toLineS_ev a5 h5.1 h5.2) (Ev.now _))

theorem toPaperS_ev (l : List S25) (hl : l.length ≤ 1048576) (hb : ∀ y ∈ l, bPaper y) : Ev (fun k => laws_toPaperS.f k l) (l.map cPaper) := by
  unfold laws_toPaperS.f
  refine Ev.pos (by omega) (Ev.pos (by omega) ?_)
  refine tos_list z25 cPaper laws_toPaperS.l0 l (fun D i r hi hd h => ?_) (fun D i hi => ?_) l.length _ 0 (by omega) (by simp) (fun j hj => by omega)
  · have hr : rd_T25 l (i : Int) = l.getD i z25 := by unfold rd_T25; rw [Int.toNat_natCast]
    refine Ev.step (fun k => laws_toPaperS.l0.eq_2 ..) (Ev.pos (by omega) (Ev.pos (by omega) ?_))
    rw [hr, wi_ (by omega)]
    refine Ev.bind (toPaper_ev (l.getD i z25).f0 (l.getD i z25).f1 (l.getD i z25).f2 (l.getD i z25).f3 (l.getD i z25).f4 (l.getD i z25).f5 (hb _ (getD_mem z25 hi)).2.2.1 (hb _ (getD_mem z25 hi)).2.2.2) (Ev.pos (by omega) ?_)
    exact h
  · exact Ev.step (fun k => laws_toPaperS.l0.eq_2 ..) (Ev.neg (by omega) (Ev.now _))

theorem eqPaper_refl (a0 : Int) (a1 : ByteArray) (a2 : ByteArray) (a3 : Int) (a4 : List ByteArray) (a5 : List S71) (h4 : (a4.length : Int) ≤ 4611686018427387904) (h5 : ((a5.length : Int) ≤ 4611686018427387904 ∧ ∀ y ∈ a5, eLine y)) : Ev (fun k => laws_eqPaper.f k a0 a1 a2 a3 a4 a5 a0 a1 a2 a3 a4 a5) true := by
  unfold laws_eqPaper.f
  exact Ev.pos rfl (Ev.pos rfl (Ev.pos rfl (Ev.pos rfl (Ev.bind (eqStringS_refl a4 h4) (Ev.pos rfl (Ev.bind (eqLineS_refl a5 h5.1 h5.2) (Ev.pos rfl (Ev.now _))))))))

/-- Of a Paper: its lists are bounded. -/
def ePaper (x : S30) : Prop := (x.f4.length : Int) ≤ 4611686018427387904 ∧ ((x.f5.length : Int) ≤ 4611686018427387904 ∧ ∀ y ∈ x.f5, eLine y)
theorem eqPaperS_refl (l : List S30) (hl : (l.length : Int) ≤ 4611686018427387904) (hb : ∀ y ∈ l, ePaper y) : Ev (fun k => laws_eqPaperS.f k l l) true := by
  unfold laws_eqPaperS.f
  refine Ev.pos rfl (eqs_refl laws_eqPaperS.l0 l (fun i hi h => ?_) (fun i hi => ?_) l.length 0 (by omega))
  · have hr : rd_T30 l (i : Int) = l.getD i z30 := by unfold rd_T30; rw [Int.toNat_natCast]
    refine Ev.step (fun k => laws_eqPaperS.l0.eq_2 ..) (Ev.pos (by omega) (Ev.pos (by omega) (Ev.pos (by omega) ?_)))
    rw [hr, wi_ (by omega)]
    exact Ev.bind (eqPaper_refl (l.getD i z30).f0 (l.getD i z30).f1 (l.getD i z30).f2 (l.getD i z30).f3 (l.getD i z30).f4 (l.getD i z30).f5 (hb _ (getD_mem z30 hi)).1 (hb _ (getD_mem z30 hi)).2) (Ev.pos rfl h)
  · exact Ev.step (fun k => laws_eqPaperS.l0.eq_2 ..) (Ev.neg (by omega) (Ev.now _))

theorem szParcel_ev (a0 : ByteArray) (a1 : ByteArray) (a2 : Int) (a3 : List S25) (x : Int) (g0 : 0 ≤ x) (g1 : x ≤ 1048576) (h0 : a0.size ≤ maxLen) (h1 : a1.size ≤ maxLen) (h3 : (a3.length ≤ maxLen ∧ ∀ y ∈ a3, q25 y)) : ∃ w, Ev (fun k => laws_szParcel.f k a0 a1 a2 a3 x) w ∧ (w = -1 ∨ (0 ≤ w ∧ w ≤ x ∧ bT a0 ∧ bT a1 ∧ (a3.length ≤ 1048576 ∧ ∀ y ∈ a3, bPaper y))) := by
  unfold laws_szParcel.f
  have m0 : a0.size ≤ 9223372036854775807 := h0
  have e0 : wrap64 (x - (a0.size : Int)) = x - (a0.size : Int) := wrap_id (by omega) (by omega)
  rw [e0]
  by_cases n0 : x - (a0.size : Int) < 0
  · exact ⟨-1, Ev.pos n0 (Ev.now _), .inl rfl⟩
  have m1 : a1.size ≤ 9223372036854775807 := h1
  have e1 : wrap64 ((x - (a0.size : Int)) - (a1.size : Int)) = (x - (a0.size : Int)) - (a1.size : Int) := wrap_id (by omega) (by omega)
  rw [e1]
  by_cases n1 : (x - (a0.size : Int)) - (a1.size : Int) < 0
  · exact ⟨-1, Ev.neg n0 (Ev.pos n1 (Ev.now _)), .inl rfl⟩
  obtain ⟨w3, u3, t3⟩ := szPaperS_ev a3 ((x - (a0.size : Int)) - (a1.size : Int)) (by omega) (by omega) h3.1 h3.2
  rcases t3 with t3 | ⟨t3, s3, b3⟩
  · exact ⟨-1, Ev.neg n0 (Ev.neg n1 (Ev.bind u3 (Ev.pos (by omega) (Ev.now _)))), .inl rfl⟩
  exact ⟨w3, Ev.neg n0 (Ev.neg n1 (Ev.bind u3 (Ev.neg (by omega) (Ev.now _)))), .inr ⟨by omega, by omega, (by unfold bT; omega), (by unfold bT; omega), (b3)⟩⟩

theorem toParcel_ev (a0 : ByteArray) (a1 : ByteArray) (a2 : Int) (a3 : List S25) (h3 : (a3.length ≤ 1048576 ∧ ∀ y ∈ a3, bPaper y)) : Ev (fun k => laws_toParcel.f k a0 a1 a2 a3) (a0, a1, a2, (a3.map cPaper)) := by
  unfold laws_toParcel.f
  exact Ev.bind (toPaperS_ev a3 h3.1 h3.2) (Ev.now _)

theorem eqParcel_refl (a0 : ByteArray) (a1 : ByteArray) (a2 : Int) (a3 : List S30) (h3 : ((a3.length : Int) ≤ 4611686018427387904 ∧ ∀ y ∈ a3, ePaper y)) : Ev (fun k => laws_eqParcel.f k a0 a1 a2 a3 a0 a1 a2 a3) true := by
  unfold laws_eqParcel.f
  exact Ev.pos rfl (Ev.pos rfl (Ev.pos rfl (Ev.bind (eqPaperS_refl a3 h3.1 h3.2) (Ev.pos rfl (Ev.now _)))))

/-! two lists compared place by place -/
def pwB {α : Type} (p : α → α → Bool) : List α → List α → Bool
  | a :: l, b :: m => p a b && pwB p l m
  | _, _ => true
theorem cmp_loop {α : Type} (z : α) (p : α → α → Bool) (Q : Nat → Int → Option Bool) (L M : List α) (R : Bool) (hlen : L.length = M.length)
    (hs : ∀ i : Nat, i < L.length → ∀ v, Ev (fun k => Q k ((i + 1 : Nat) : Int)) v → Ev (fun k => Q k (i : Int)) (p (L.getD i z) (M.getD i z) && v))
    (h0 : ∀ i : Nat, L.length ≤ i → Ev (fun k => Q k (i : Int)) R) :
    ∀ (d i : Nat), L.length - i = d → Ev (fun k => Q k (i : Int)) (pwB p (L.drop i) (M.drop i) && R)
  | 0, i, hd => by
    rw [List.drop_eq_nil_of_le (by omega : L.length ≤ i)]
    exact (h0 i (by omega)).to (by simp [pwB])
  | d + 1, i, hd => by
    have hi : i < L.length := by omega
    refine (hs i hi _ (cmp_loop z p Q L M R hlen hs h0 d (i + 1) (by omega))).to ?_
    rw [List.drop_eq_getElem_cons hi, List.drop_eq_getElem_cons (by omega : i < M.length), List.getD_eq_getElem?_getD, List.getD_eq_getElem?_getD, List.getElem?_eq_getElem hi, List.getElem?_eq_getElem (by omega : i < M.length)]
    simp [pwB, Bool.and_assoc]
def txB (a b : ByteArray) : Bool := a.toList == b.toList

def lineB (x y : S71) : Bool := !(!((x.f0) == (y.f0)) || (!((x.f1.toList) == (y.f1.toList)) || (!(x.f2 == y.f2) || (!(x.f3 == y.f3) || (!(x.f4.toList == y.f4.toList))))))
def sameStrs (l m : List ByteArray) : Bool := decide ((l.length : Int) = (m.length : Int)) && pwB txB l m
def sameLines (l m : List S71) : Bool := decide ((l.length : Int) = (m.length : Int)) && pwB lineB l m
theorem equalS_ev (l m : List ByteArray) (hl : l.length ≤ 1048576) : Ev (fun k => slices_Equal_string_string.f k l m) (sameStrs l m) := by
  unfold slices_Equal_string_string.f
  refine Ev.ite (fun h => ?_) (fun h => Ev.ret (by simp [sameStrs]; omega))
  refine (cmp_loop ByteArray.empty txB (fun k i => slices_Equal_string_string.l0 k l m (l.length : Int) i) l m true (by omega) (fun i hi v hv => ?_) (fun i hi => ?_) l.length 0 (by omega)).to (by simp [sameStrs]; omega)
  · refine Ev.step (fun k => slices_Equal_string_string.l0.eq_2 ..) (Ev.pos (by omega) (Ev.pos (by omega) (Ev.pos (by omega) (Ev.pos (by omega) ?_))))
    rw [wi_ (by omega)]
    refine Ev.ite (fun g => hv.to ?_) (fun g => Ev.ret ?_)
    · have : txB (l.getD i ByteArray.empty) (m.getD i ByteArray.empty) = true := by simpa [txB, rdOf] using g
      rw [this]; rfl
    · have : txB (l.getD i ByteArray.empty) (m.getD i ByteArray.empty) = false := by simpa [txB, rdOf] using g
      rw [this]; rfl
  · exact Ev.step (fun k => slices_Equal_string_string.l0.eq_2 ..) (Ev.neg (by omega) (Ev.now _))
theorem equalL_ev (l m : List S71) (hl : l.length ≤ 1048576) : Ev (fun k => impl_Line.f k l m) (sameLines l m) := by
  unfold impl_Line.f
  refine Ev.ite (fun h => ?_) (fun h => Ev.ret (by simp [sameLines]; omega))
  refine (cmp_loop z71 lineB (fun k i => impl_Line.l0 k l m (l.length : Int) i) l m true (by omega) (fun i hi v hv => ?_) (fun i hi => ?_) l.length 0 (by omega)).to (by simp [sameLines]; omega)
  · refine Ev.step (fun k => impl_Line.l0.eq_2 ..) (Ev.pos (by omega) (Ev.pos (by omega) (Ev.pos (by omega) (Ev.pos (by omega) ?_))))
    rw [wi_ (by omega)]
    refine Ev.ite (fun g => Ev.ret ?_) (fun g => hv.to ?_)
    · have : lineB (l.getD i z71) (m.getD i z71) = false := by unfold lineB; exact congrArg Bool.not g
      rw [this]; rfl
    · have : lineB (l.getD i z71) (m.getD i z71) = true := by unfold lineB; exact congrArg Bool.not (Bool.not_eq_true _ ▸ g)
      rw [this]; rfl
  · exact Ev.step (fun k => impl_Line.l0.eq_2 ..) (Ev.neg (by omega) (Ev.now _))
def sameB (a0 : Int) (a1 a2 : ByteArray) (a3 : Int) (a4 : List ByteArray) (a5 : List S71) (b0 : Int) (b1 b2 : ByteArray) (b3 : Int) (b4 : List ByteArray) (b5 : List S71) : Bool :=
  decide (a0 = b0) && (decide (a1.toList = b1.toList) && (decide (a2.toList = b2.toList) && (decide (a3 = b3) && (sameStrs a4 b4 && sameLines a5 b5))))
theorem same_ev (a0 : Int) (a1 a2 : ByteArray) (a3 : Int) (a4 : List ByteArray) (a5 : List S71) (b0 : Int) (b1 b2 : ByteArray) (b3 : Int) (b4 : List ByteArray) (b5 : List S71) (h4 : a4.length ≤ 1048576) (h5 : a5.length ≤ 1048576) : Ev (fun k => impl_same.f k a0 a1 a2 a3 a4 a5 b0 b1 b2 b3 b4 b5) (sameB a0 a1 a2 a3 a4 a5 b0 b1 b2 b3 b4 b5) := by
  unfold impl_same.f
  refine Ev.ite (fun g0 => Ev.ite (fun g1 => Ev.ite (fun g2 => Ev.ite (fun g3 => Ev.bind (equalS_ev a4 b4 h4) (Ev.ite (fun g4 => Ev.bind (equalL_ev a5 b5 h5) (Ev.ret ?_)) (fun g4 => Ev.ret ?_))) (fun g3 => Ev.ret ?_)) (fun g2 => Ev.ret ?_)) (fun g1 => Ev.ret ?_)) (fun g0 => Ev.ret ?_)
  · simp [sameB, g0, g1, g2, g3, g4]
  · simp [sameB, g4]
  · simp [sameB, g3]
  · simp [sameB, g2]
  · simp [sameB, g1]
  · simp [sameB, g0]
theorem specSame_ev (a0 : Int) (a1 a2 : ByteArray) (a3 : Int) (a4 : List ByteArray) (a5 : List S71) (b0 : Int) (b1 b2 : ByteArray) (b3 : Int) (b4 : List ByteArray) (b5 : List S71) (h4 : a4.length ≤ 1048576) (h5 : a5.length ≤ 1048576) : Ev (fun k => spec_PaperSame.f k a0 a1 a2 a3 a4 a5 b0 b1 b2 b3 b4 b5) (sameB a0 a1 a2 a3 a4 a5 b0 b1 b2 b3 b4 b5) := by
  have hF : Ev (fun k => spec_PaperSame.j0 k true a0 a1 a2 a3 a4 a5 b0 b1 b2 b3 b4 b5) false := Ev.step (fun k => spec_PaperSame.j0.eq_2 ..) (Ev.pos rfl (Ev.now _))
  unfold spec_PaperSame.f
  refine Ev.ite (fun g0 => Ev.ite (fun g1 => Ev.ite (fun g2 => Ev.ite (fun g3 => Ev.ite (fun g4 => Ev.step (fun k => spec_PaperSame.j0.eq_2 ..) (Ev.ite (fun g5 => Ev.ret ?_) (fun g5 => ?_))) (fun g4 => hF.to ?_)) (fun g3 => hF.to ?_)) (fun g2 => hF.to ?_)) (fun g1 => hF.to ?_)) (fun g0 => hF.to ?_)
  · have : decide ((a5.length : Int) = (b5.length : Int)) = false := by simpa using g5
    simp only [sameB, sameLines, this]; simp
  · have e5 : (a5.length : Int) = (b5.length : Int) := by simpa using g5
    have l1 : Ev (fun k => spec_PaperSame.l1 k 0 a0 a1 a2 a3 a4 a5 b0 b1 b2 b3 b4 b5) (pwB lineB a5 b5) := by
      refine (cmp_loop z71 lineB (fun k i => spec_PaperSame.l1 k i a0 a1 a2 a3 a4 a5 b0 b1 b2 b3 b4 b5) a5 b5 true (by omega) (fun i hi v hv => ?_) (fun i hi => ?_) a5.length 0 (by omega)).to (by simp)
      · refine Ev.step (fun k => spec_PaperSame.l1.eq_2 ..) (Ev.pos (by omega) (Ev.pos (by omega) (Ev.pos (by omega) ?_)))
        rw [wi_ (by omega)]
        refine Ev.ite (fun g => Ev.ret ?_) (fun g => hv.to ?_)
        · have : lineB (a5.getD i z71) (b5.getD i z71) = false := by unfold lineB; exact congrArg Bool.not g
          rw [this]; rfl
        · have : lineB (a5.getD i z71) (b5.getD i z71) = true := by unfold lineB; exact congrArg Bool.not (Bool.not_eq_true _ ▸ g)
          rw [this]; rfl
      · exact Ev.step (fun k => spec_PaperSame.l1.eq_2 ..) (Ev.neg (by omega) (Ev.now _))
    refine (cmp_loop ByteArray.empty txB (fun k i => spec_PaperSame.l0 k i a0 a1 a2 a3 a4 a5 b0 b1 b2 b3 b4 b5) a4 b4 (pwB lineB a5 b5) (by omega) (fun i hi v hv => ?_) (fun i hi => ?_) a4.length 0 (by omega)).to ?_
    · refine Ev.step (fun k => spec_PaperSame.l0.eq_2 ..) (Ev.pos (by omega) (Ev.pos (by omega) (Ev.pos (by omega) ?_)))
      rw [wi_ (by omega)]
      refine Ev.ite (fun g => hv.to ?_) (fun g => Ev.ret ?_)
      · have : txB (a4.getD i ByteArray.empty) (b4.getD i ByteArray.empty) = true := by simpa [txB, rdOf] using g
        rw [this]; rfl
      · have : txB (a4.getD i ByteArray.empty) (b4.getD i ByteArray.empty) = false := by simpa [txB, rdOf] using g
        rw [this]; rfl
    · exact Ev.step (fun k => spec_PaperSame.l0.eq_2 ..) (Ev.neg (by omega) l1)
    · simp [sameB, sameStrs, sameLines, g0, g1, g2, g3, g4, e5]
  · have : decide ((a4.length : Int) = (b4.length : Int)) = false := by simpa using g4
    simp only [sameB, sameStrs, this]; simp
  · simp [sameB, g3]
  · simp [sameB, g2]
  · simp [sameB, g1]
  · simp [sameB, g0]
theorem eLine_all (l : List S111) : ∀ y ∈ l.map cLine, eLine y := fun _ _ => trivial

def papB (x y : S30) : Bool := sameB x.f0 x.f1 x.f2 x.f3 x.f4 x.f5 y.f0 y.f1 y.f2 y.f3 y.f4 y.f5
def bPp (x : S30) : Prop := x.f4.length ≤ 1048576 ∧ x.f5.length ≤ 1048576
def samePapers (l m : List S30) : Bool := decide ((l.length : Int) = (m.length : Int)) && pwB papB l m
def parB (a0 a1 : ByteArray) (a2 : Int) (a3 : List S30) (b0 b1 : ByteArray) (b2 : Int) (b3 : List S30) : Bool :=
  decide (a0.toList = b0.toList) && (decide (a1.toList = b1.toList) && (decide (a2 = b2) && samePapers a3 b3))
theorem equalP_ev (l m : List S30) (hl : l.length ≤ 1048576) (hb : ∀ x ∈ l, bPp x) : Ev (fun k => impl_Paper__impl_same.f k l m) (samePapers l m) := by
  unfold impl_Paper__impl_same.f
  refine Ev.ite (fun h => ?_) (fun h => Ev.ret (by simp [samePapers]; omega))
  refine (cmp_loop z30 papB (fun k i => impl_Paper__impl_same.l0 k m l (l.length : Int) i) l m true (by omega) (fun i hi v hv => ?_) (fun i hi => ?_) l.length 0 (by omega)).to (by simp [samePapers]; omega)
  · have hp := hb _ (getD_mem z30 hi)
    refine Ev.step (fun k => impl_Paper__impl_same.l0.eq_2 ..) (Ev.pos (by omega) (Ev.pos (by omega) (Ev.pos (by omega) (Ev.pos (by omega) ?_))))
    rw [wi_ (by omega)]
    refine Ev.bind (show Ev (fun k => impl_same.f k _ _ _ _ _ _ _ _ _ _ _ _) (papB (l.getD i z30) (m.getD i z30)) from same_ev _ _ _ _ _ _ _ _ _ _ _ _ hp.1 hp.2) ?_
    refine Ev.ite (fun g => hv.to ?_) (fun g => Ev.ret ?_)
    · rw [g]; rfl
    · rw [Bool.not_eq_true] at g; rw [g]; rfl
  · exact Ev.step (fun k => impl_Paper__impl_same.l0.eq_2 ..) (Ev.neg (by omega) (Ev.now _))
theorem implPar_ev (a0 a1 : ByteArray) (a2 : Int) (a3 : List S30) (b0 b1 : ByteArray) (b2 : Int) (b3 : List S30) (hl : a3.length ≤ 1048576) (hb : ∀ x ∈ a3, bPp x) : Ev (fun k => impl_ParcelSame.f k a0 a1 a2 a3 b0 b1 b2 b3) (parB a0 a1 a2 a3 b0 b1 b2 b3) := by
  unfold impl_ParcelSame.f
  refine Ev.ite (fun g0 => Ev.ite (fun g1 => Ev.ite (fun g2 => Ev.bind (equalP_ev a3 b3 hl hb) (Ev.ret ?_)) (fun g2 => Ev.ret ?_)) (fun g1 => Ev.ret ?_)) (fun g0 => Ev.ret ?_)
  · simp [parB, g0, g1, g2]
  · simp [parB, g2]
  · simp [parB, g1]
  · simp [parB, g0]
theorem specPar_ev (a0 a1 : ByteArray) (a2 : Int) (a3 : List S30) (b0 b1 : ByteArray) (b2 : Int) (b3 : List S30) (hl : a3.length ≤ 1048576) (hb : ∀ x ∈ a3, bPp x) : Ev (fun k => spec_ParcelSame.f k a0 a1 a2 a3 b0 b1 b2 b3) (parB a0 a1 a2 a3 b0 b1 b2 b3) := by
  have hF : Ev (fun k => spec_ParcelSame.j0 k true a0 a1 a2 a3 b0 b1 b2 b3) false := Ev.step (fun k => spec_ParcelSame.j0.eq_2 ..) (Ev.pos rfl (Ev.now _))
  unfold spec_ParcelSame.f
  refine Ev.ite (fun g0 => Ev.ite (fun g1 => Ev.ite (fun g2 => Ev.step (fun k => spec_ParcelSame.j0.eq_2 ..) (Ev.ite (fun g5 => Ev.ret ?_) (fun g5 => ?_))) (fun g2 => hF.to ?_)) (fun g1 => hF.to ?_)) (fun g0 => hF.to ?_)
  · have : decide ((a3.length : Int) = (b3.length : Int)) = false := by simpa using g5
    simp only [parB, samePapers, this]; simp
  · have e5 : (a3.length : Int) = (b3.length : Int) := by simpa using g5
    refine (cmp_loop z30 papB (fun k i => spec_ParcelSame.l0 k i a0 a1 a2 a3 b0 b1 b2 b3) a3 b3 true (by omega) (fun i hi v hv => ?_) (fun i hi => ?_) a3.length 0 (by omega)).to ?_
    · have hp := hb _ (getD_mem z30 hi)
      refine Ev.step (fun k => spec_ParcelSame.l0.eq_2 ..) (Ev.pos (by omega) (Ev.pos (by omega) (Ev.pos (by omega) ?_)))
      rw [wi_ (by omega)]
      refine Ev.bind (show Ev (fun k => spec_PaperSame.f k _ _ _ _ _ _ _ _ _ _ _ _) (papB (a3.getD i z30) (b3.getD i z30)) from specSame_ev _ _ _ _ _ _ _ _ _ _ _ _ hp.1 hp.2) ?_
      refine Ev.ite (fun g => hv.to ?_) (fun g => Ev.ret ?_)
      · rw [g]; rfl
      · rw [Bool.not_eq_true] at g; rw [g]; rfl
    · exact Ev.step (fun k => spec_ParcelSame.l0.eq_2 ..) (Ev.neg (by omega) (Ev.now _))
    · have : a3.length = b3.length := by omega
      simp [parB, samePapers, g0, g1, g2, this]
  · simp [parB, g2]
  · simp [parB, g1]
  · simp [parB, g0]

theorem bPp_of {l : List S25} (hb : ∀ y ∈ l, bPaper y) : ∀ y ∈ l.map cPaper, bPp y := by
  intro y hy
  obtain ⟨x, hx, rfl⟩ := List.mem_map.1 hy
  have h := hb x hx
  exact ⟨h.2.2.1.1, by show (x.f5.map cLine).length ≤ _; rw [List.length_map]; exact h.2.2.2.1⟩
theorem ePp_of {l : List S25} (hb : ∀ y ∈ l, bPaper y) : ∀ y ∈ l.map cPaper, ePaper y := by
  intro y hy
  obtain ⟨x, hx, rfl⟩ := List.mem_map.1 hy
  have h := hb x hx
  have h1 := h.2.2.1.1
  have h2 : (x.f5.map cLine).length ≤ 1048576 := by rw [List.length_map]; exact h.2.2.2.1
  exact ⟨by show (x.f4.length : Int) ≤ _; omega, by show ((x.f5.map cLine).length : Int) ≤ _; omega, eLine_all x.f5⟩
theorem FnExactParcelSame : laws_FnExactParcelSame.Pure := by
  intro a0 a1 a2 a3 b0 b1 b2 b3 ha0 ha1 ha2 ha3 hb0 hb1 hb2 hb3
  refine Ev.rounds (g := fun k => laws_FnExactParcelSame.f k a0 a1 a2 a3 b0 b1 b2 b3) ?_
  unfold laws_FnExactParcelSame.f
  obtain ⟨w, u, t⟩ := szParcel_ev a0 a1 a2 a3 1048576 (by omega) (by omega) ha0 ha1 ha3
  rcases t with t | ⟨t, t', _, _, ta⟩
  · exact Ev.bind u (Ev.pos (by omega) (Ev.now _))
  obtain ⟨w2, u2, t2⟩ := szParcel_ev b0 b1 b2 b3 w (by omega) (by omega) hb0 hb1 hb3
  rcases t2 with t2 | ⟨t2, t2', _, _, tc⟩
  · exact Ev.bind u (Ev.neg (by omega) (Ev.bind u2 (Ev.pos (by omega) (Ev.now _))))
  have e1 := toParcel_ev a0 a1 a2 a3 ta
  have e2 := toParcel_ev b0 b1 b2 b3 tc
  have la : (a3.map cPaper).length ≤ 1048576 := by rw [List.length_map]; exact ta.1
  have lb : (b3.map cPaper).length ≤ 1048576 := by rw [List.length_map]; exact tc.1
  have s1 := specPar_ev a0 a1 a2 (a3.map cPaper) b0 b1 b2 (b3.map cPaper) la (bPp_of ta.2)
  have s2 := implPar_ev a0 a1 a2 (a3.map cPaper) b0 b1 b2 (b3.map cPaper) la (bPp_of ta.2)
  have q1 := eqParcel_refl a0 a1 a2 (a3.map cPaper) ⟨by omega, ePp_of ta.2⟩
  have q2 := eqParcel_refl b0 b1 b2 (b3.map cPaper) ⟨by omega, ePp_of tc.2⟩
  exact Ev.bind u (Ev.neg (by omega) (Ev.bind u2 (Ev.neg (by omega) (Ev.bind e1 (Ev.bind e2 (Ev.bind s1 (Ev.bind e1 (Ev.bind e2 (Ev.bind s2 (Ev.neg (by simp) (Ev.bind e1 (Ev.bind q1 (Ev.pos rfl (Ev.bind e2 (Ev.bind q2 (Ev.pos rfl (Ev.now _)))))))))))))))))

end Go.Proofs.Ytlghcbmkhdibdaa.Pure
