/- The program's HeadOf answers as the reference's: the law, over numbers and lists.
Conditions: none. -/
import Derived.Test.YtlghcbmkhdibdaaDoorPFnExactHeadOfx
import Derived.Test.YtlghcbmkhdibdaaDoorVFnExactHeadOf
namespace Go.Proofs.YtlghcbmkhdibdaaDoor.Pure
open Go.RowKit Go.Proofs.YtlghcbmkhdibdaaDoor.PFnExactHeadOf Go.Proofs.YtlghcbmkhdibdaaDoorW.PrintWords Go.Proofs.YtlghcbmkhdibdaaDoorW.PrintLast Go.Proofs.YtlghcbmkhdibdaaDoorW.PrintMore Go.Proofs.YtlghcbmkhdibdaaDoorW.Pl
set_option linter.unusedVariables false
set_option linter.unusedSimpArgs false

theorem within_eq (a b c : Int) : F83.f a b c = some (withinP a b c) := by
  unfold F83.f withinP
  split
  · congr 1; simp only [decide_eq_decide]; omega
  · congr 1; symm; simp only [decide_eq_false_iff_not]; omega

theorem isGreat_eq (c : Int) : F93.f c = some (great c) := by
  unfold F93.f great
  split
  · congr 1; simp only [decide_eq_decide]; omega
  · congr 1; symm; simp only [decide_eq_false_iff_not]; omega
theorem isDigit_eq (c : Int) : F94.f c = some (digit c) := by
  unfold F94.f digit
  split
  · congr 1; simp only [decide_eq_decide]; omega
  · congr 1; symm; simp only [decide_eq_false_iff_not]; omega

theorem great_t {c : Int} (h : 65 ≤ c) (h' : c ≤ 90) : great c = true := by simp [great, h, h']
theorem great_f {c : Int} (h : ¬ (65 ≤ c ∧ c ≤ 90)) : great c = false := by simp [great]; omega
theorem digit_t {c : Int} (h : 48 ≤ c) (h' : c ≤ 57) : digit c = true := by simp [digit, h, h']
theorem digit_f {c : Int} (h : ¬ (48 ≤ c ∧ c ≤ 57)) : digit c = false := by simp [digit]; omega

theorem isName_loop (s : ByteArray) (hs : (s.size : Int) ≤ 9223372036854775807) : ∀ (l : List Int) (i : Nat), 1 ≤ i → (bytesOf s).drop i = l → Ev (fun k => F61.l0 k s (s.size : Int) (i : Int)) (l.all nameCh && withinP (s.size : Int) 1 12) := by
  intro l
  induction l with
  | nil =>
    intro i hi h
    have h0 := drop_nil h
    refine Ev.step (fun k => F61.l0.eq_2 ..) ?_
    refine Ev.neg (by omega) ?_
    refine Ev.bindc (within_eq _ _ _) ?_
    exact Ev.ret (by simp)
  | cons c r ih =>
    intro i hi h
    obtain ⟨h1, h2, h3, _, _⟩ := drop_cons h
    have hw : wrap64 ((i : Int) + 1) = ((i + 1 : Nat) : Int) := by rw [wrap_id (by omega) (by omega)]; omega
    have hn := ih (i + 1) (by omega) h3
    refine Ev.step (fun k => F61.l0.eq_2 ..) ?_
    refine Ev.pos h1 (Ev.pos (by omega) (Ev.pos h1 ?_))
    rw [h2]
    refine Ev.bindc (isGreat_eq _) ?_
    by_cases hg : great c = true
    · refine Ev.pos hg ?_
      rw [hw]
      exact hn.to (by simp [nameCh, hg])
    · refine Ev.neg hg (Ev.neg (by omega) ?_)
      refine Ev.bindc (isDigit_eq _) ?_
      by_cases hd : digit c = true
      · refine Ev.pos hd ?_
        rw [hw]
        exact hn.to (by simp [nameCh, hd])
      · refine Ev.neg hd ?_
        by_cases he : c = 45
        · refine Ev.pos he ?_
          rw [hw]
          exact hn.to (by simp [nameCh, he])
        · refine Ev.neg he ?_
          exact Ev.ret (by simp [nameCh, hg, hd, he])
theorem isName_ev (s : ByteArray) (hs : (s.size : Int) ≤ 9223372036854775807) : Ev (fun k => F61.f k s) (nameP (bytesOf s)) := by
  have hl := length_bytesOf s
  show Ev (fun k => F61.l0 k s (s.size : Int) ((0 : Nat) : Int)) _
  match hb : bytesOf s with
  | [] =>
    have h0 := drop_nil (s := s) (i := 0) (by simp [hb])
    refine Ev.step (fun k => F61.l0.eq_2 ..) ?_
    refine Ev.neg (by omega) ?_
    refine Ev.bindc (within_eq _ _ _) ?_
    exact Ev.ret (by simp [withinP, nameP]; omega)
  | c :: r =>
    obtain ⟨h1, h2, h3, _, _⟩ := drop_cons (s := s) (i := 0) (c := c) (r := r) (by simp [hb])
    have hn := isName_loop s hs r 1 (by omega) h3
    rw [hb] at hl
    simp only [List.length_cons] at hl
    refine Ev.step (fun k => F61.l0.eq_2 ..) ?_
    refine Ev.pos h1 (Ev.pos (by omega) (Ev.pos h1 ?_))
    rw [h2]
    refine Ev.bindc (isGreat_eq _) ?_
    by_cases hg : great c = true
    · refine Ev.pos hg ?_
      rw [show wrap64 (((0 : Nat) : Int) + 1) = ((1 : Nat) : Int) from by rw [wrap_id (by omega) (by omega)]; rfl]
      refine hn.to ?_
      have : withinP (s.size : Int) 1 12 = decide (r.length ≤ 11) := by
        simp only [withinP, decide_eq_decide]; omega
      simp [nameP, hg, this]
    · refine Ev.neg hg (Ev.pos rfl ?_)
      exact Ev.ret (by simp [nameP, hg])

theorem l01Name_loop (s : ByteArray) (hs : (s.size : Int) ≤ 9223372036854775807) : ∀ (l : List Int) (i : Nat), (bytesOf s).drop i = l → Ev (fun k => F32.l0 k s (i : Int)) (l.all nameCh) := by
  intro l
  induction l with
  | nil =>
    intro i h
    have h0 := drop_nil h
    refine Ev.step (fun k => F32.l0.eq_2 ..) ?_
    exact Ev.neg (by omega) (Ev.ret (by simp))
  | cons c r ih =>
    intro i h
    obtain ⟨h1, h2, h3, _, _⟩ := drop_cons h
    have hw : wrap64 ((i : Int) + 1) = ((i + 1 : Nat) : Int) := by rw [wrap_id (by omega) (by omega)]; omega
    have hn := ih (i + 1) h3
    refine Ev.step (fun k => F32.l0.eq_2 ..) ?_
    refine Ev.pos h1 (Ev.pos (by omega) ?_)
    rw [h2, hw]
    by_cases hk : nameCh c = true
    · have hn' : Ev (fun k => F32.l0 k s ((i + 1 : Nat) : Int)) ((c :: r).all nameCh) := hn.to (by simp [hk])
      have hk' : (65 ≤ c ∧ c ≤ 90) ∨ (48 ≤ c ∧ c ≤ 57) ∨ c = 45 := by simp [nameCh, great, digit, or_assoc] at hk; exact hk
      refine Ev.ite (fun g1 => Ev.ite (fun g2 => hn') (fun g2 => Ev.ite (fun g3 => Ev.ite (fun g4 => hn') (fun g4 => Ev.ite (fun g5 => hn') (fun g5 => ?_))) (fun g3 => Ev.ite (fun g5 => hn') (fun g5 => ?_)))) (fun g1 => Ev.ite (fun g3 => Ev.ite (fun g4 => hn') (fun g4 => Ev.ite (fun g5 => hn') (fun g5 => ?_))) (fun g3 => Ev.ite (fun g5 => hn') (fun g5 => ?_)))
      all_goals exact absurd hk' (by omega)
    · have hf : Ev (fun _ : Nat => some false) ((c :: r).all nameCh) := Ev.ret (by simp [hk])
      have hk' : ¬ ((65 ≤ c ∧ c ≤ 90) ∨ (48 ≤ c ∧ c ≤ 57) ∨ c = 45) := by simp [nameCh, great, digit] at hk; omega
      refine Ev.ite (fun g1 => Ev.ite (fun g2 => ?_) (fun g2 => Ev.ite (fun g3 => Ev.ite (fun g4 => ?_) (fun g4 => Ev.ite (fun g5 => ?_) (fun g5 => hf))) (fun g3 => Ev.ite (fun g5 => ?_) (fun g5 => hf)))) (fun g1 => Ev.ite (fun g3 => Ev.ite (fun g4 => ?_) (fun g4 => Ev.ite (fun g5 => ?_) (fun g5 => hf))) (fun g3 => Ev.ite (fun g5 => ?_) (fun g5 => hf)))
      all_goals exact absurd (show (65 ≤ c ∧ c ≤ 90) ∨ (48 ≤ c ∧ c ≤ 57) ∨ c = 45 by omega) hk'
theorem l01Name_ev (s : ByteArray) (hs : (s.size : Int) ≤ 9223372036854775807) : Ev (fun k => F32.f k s) (nameP (bytesOf s)) := by
  have hl := length_bytesOf s
  have hj : ∀ b, b = false → Ev (fun k => F32.j0 k s true) b := fun b hb => Ev.step (fun k => F32.j0.eq_2 ..) (Ev.pos rfl (Ev.ret hb.symm))
  unfold F32.f
  match hb : bytesOf s with
  | [] =>
    have h0 := drop_nil (s := s) (i := 0) (by simp [hb])
    refine Ev.pos (by omega) (hj _ rfl)
  | c :: r =>
    obtain ⟨h1, h2, h3, _, _⟩ := drop_cons (s := s) (i := 0) (c := c) (r := r) (by simp [hb])
    have hn := l01Name_loop s hs (c :: r) 0 (by simp [hb])
    rw [hb] at hl
    simp only [List.length_cons] at hl
    have h2' : bt s 0 = c := h2
    refine Ev.neg (by omega) (Ev.ite (fun g => hj _ (by simp [nameP]; intros; omega)) (fun g => Ev.pos (by omega) ?_))
    rw [h2']
    refine Ev.ite (fun g1 => hj _ (by simp [nameP, great]; intros; omega)) (fun g1 => ?_)
    by_cases g2 : c > 90
    · rw [show decide (c > 90) = true from by simp [g2]]
      exact hj _ (by simp [nameP, great]; intros; omega)
    · rw [show decide (c > 90) = false from by simp [g2]]
      refine Ev.step (fun k => F32.j0.eq_2 ..) (Ev.neg (by simp) ?_)
      have hg : great c = true := by simp [great]; omega
      refine hn.to ?_
      have : r.length ≤ 11 := by omega
      simp [nameP, hg, nameCh, this]

theorem wi_ {i : Nat} (h : (i : Int) ≤ 4611686018427387904) : wrap64 ((i : Int) + 1) = ((i + 1 : Nat) : Int) := by rw [wrap_id (by omega) (by omega)]; omega
/-- A list that is copied into a new one, place by place. -/
theorem tos_list {α β : Type} (z : α) (g : α → β) (T : Nat → List α → List β → Int → Option (List β)) (L : List α)
    (hT : ∀ (D : List β) (i : Nat) (r : List β), i < L.length → D.length = L.length → Ev (fun k => T k L (D.set i (g (L.getD i z))) ((i + 1 : Nat) : Int)) r → Ev (fun k => T k L D (i : Int)) r)
    (hT0 : ∀ (D : List β) (i : Nat), L.length ≤ i → Ev (fun k => T k L D (i : Int)) D) :
    ∀ (d : Nat) (D : List β) (i : Nat), L.length - i = d → D.length = L.length → (∀ j, j < i → D[j]? = (L.map g)[j]?) → Ev (fun k => T k L D (i : Int)) (L.map g)
  | 0, D, i, hd, hl, hp => by
    have e : D = L.map g := by
      apply List.ext_getElem?
      intro j
      by_cases h : j < i
      · exact hp j h
      · rw [List.getElem?_eq_none (by omega), List.getElem?_eq_none (by rw [List.length_map]; omega)]
    subst e
    exact hT0 _ i (by omega)
  | d + 1, D, i, hd, hl, hp => by
    refine hT D i _ (by omega) hl (tos_list z g T L hT hT0 d _ (i + 1) (by omega) (by rw [List.length_set]; exact hl) (fun j hj => ?_))
    by_cases h : j = i
    · subst h
      rw [List.getElem?_set_self (by omega), List.getElem?_map, List.getD_eq_getElem?_getD, List.getElem?_eq_getElem (by omega : j < L.length)]
      rfl
    · rw [List.getElem?_set_ne (by omega)]
      exact hp j (by omega)
/-- A list is measured, place by place: it is too great, or each element is bounded. -/
theorem sz_list {α : Type} (z : α) (P : α → Prop) (Z : Nat → List α → Int → Int → Option Int) (L : List α)
    (hs : ∀ (i : Nat) (x : Int), i < L.length → 0 ≤ x → x ≤ 1048576 → Ev (fun k => Z k L x (i : Int)) (-1) ∨ ∃ x', 0 ≤ x' ∧ x' ≤ x ∧ P (L.getD i z) ∧ ∀ r, Ev (fun k => Z k L x' ((i + 1 : Nat) : Int)) r → Ev (fun k => Z k L x (i : Int)) r)
    (h0 : ∀ (i : Nat) (x : Int), L.length ≤ i → Ev (fun k => Z k L x (i : Int)) x) :
    ∀ (d i : Nat) (x : Int), L.length - i = d → 0 ≤ x → x ≤ 1048576 → ∃ w, Ev (fun k => Z k L x (i : Int)) w ∧ (w = -1 ∨ (0 ≤ w ∧ w ≤ x ∧ ∀ j, i ≤ j → j < L.length → P (L.getD j z)))
  | 0, i, x, hd, h1, h2 => ⟨x, h0 i x (by omega), .inr ⟨h1, by omega, fun j _ _ => by omega⟩⟩
  | d + 1, i, x, hd, h1, h2 => by
    rcases hs i x (by omega) h1 h2 with h | ⟨x', g1, g2, g3, g4⟩
    · exact ⟨-1, h, .inl rfl⟩
    · obtain ⟨w, e1, e2⟩ := sz_list z P Z L hs h0 d (i + 1) x' (by omega) g1 (by omega)
      refine ⟨w, g4 w e1, ?_⟩
      rcases e2 with e2 | ⟨e2, e3, e4⟩
      · exact .inl e2
      · refine .inr ⟨e2, by omega, fun j hj hl => ?_⟩
        by_cases h : j = i
        · subst h; exact g3
        · exact e4 j (by omega) hl
theorem sz_all {α : Type} (z : α) (P : α → Prop) (L : List α) (h : ∀ j, 0 ≤ j → j < L.length → P (L.getD j z)) : ∀ x ∈ L, P x := by
  intro x hx
  obtain ⟨j, hj, rfl⟩ := List.getElem_of_mem hx
  have := h j (by omega) hj
  rwa [List.getD_eq_getElem?_getD, List.getElem?_eq_getElem hj] at this
theorem getD_mem {α : Type} {L : List α} {i : Nat} (z : α) (h : i < L.length) : L.getD i z ∈ L := by
  rw [List.getD_eq_getElem?_getD, List.getElem?_eq_getElem h]
  exact List.getElem_mem h
/-- A text that is bounded; a list of them. -/
def bT (s : ByteArray) : Prop := s.size ≤ 1048576
def bTs (l : List ByteArray) : Prop := l.length ≤ 1048576 ∧ ∀ s ∈ l, bT s

/-- A comparison of lists, place by place: of one list with itself. -/
theorem eqs_refl {α : Type} (Q : Nat → List α → List α → Int → Option Bool) (L : List α) (hs : ∀ i : Nat, i < L.length → Ev (fun k => Q k L L ((i + 1 : Nat) : Int)) true → Ev (fun k => Q k L L (i : Int)) true) (h0 : ∀ i : Nat, L.length ≤ i → Ev (fun k => Q k L L (i : Int)) true) : ∀ (d i : Nat), L.length - i = d → Ev (fun k => Q k L L (i : Int)) true
  | 0, i, h => h0 i (by omega)
  | d + 1, i, h => hs i (by omega) (eqs_refl Q L hs h0 d (i + 1) (by omega))

theorem szStringS_ev (l : List ByteArray) (x : Int) (h0 : 0 ≤ x) (h1 : x ≤ 1048576) (hl : l.length ≤ maxLen) (hs : ∀ s ∈ l, s.size ≤ maxLen) : ∃ w, Ev (fun k => F115.f k l x) w ∧ (w = -1 ∨ (0 ≤ w ∧ w ≤ x ∧ bTs l)) := by
  simp only [maxLen] at hl hs
  unfold F115.f
  have hw : wrap64 (x - (l.length : Int)) = x - (l.length : Int) := wrap_id (by omega) (by omega)
  rw [hw]
  by_cases hn : x - (l.length : Int) < 0
  · exact ⟨-1, Ev.pos hn (Ev.now _), .inl rfl⟩
  · have hstep : ∀ (i : Nat) (y : Int), i < l.length → 0 ≤ y → y ≤ 1048576 → Ev (fun k => F115.l0 k l y (i : Int)) (-1) ∨ ∃ x', 0 ≤ x' ∧ x' ≤ y ∧ bT (l.getD i ByteArray.empty) ∧ ∀ r, Ev (fun k => F115.l0 k l x' ((i + 1 : Nat) : Int)) r → Ev (fun k => F115.l0 k l y (i : Int)) r := by
      intro i y hi g0 g1
      have hsz : (l.getD i ByteArray.empty).size ≤ 9223372036854775807 := hs _ (getD_mem _ hi)
      have hr : rdOf ByteArray.empty l (i : Int) = l.getD i ByteArray.empty := by unfold rdOf; rw [Int.toNat_natCast]
      have hw2 : wrap64 (y - ((l.getD i ByteArray.empty).size : Int)) = y - ((l.getD i ByteArray.empty).size : Int) := wrap_id (by omega) (by omega)
      by_cases hz : y - ((l.getD i ByteArray.empty).size : Int) < 0
      · refine .inl (Ev.step (fun k => F115.l0.eq_2 ..) (Ev.pos (by omega) (Ev.pos (by omega) ?_)))
        rw [hr, hw2]
        exact Ev.pos hz (Ev.now _)
      · refine .inr ⟨y - ((l.getD i ByteArray.empty).size : Int), by omega, by omega, by unfold bT; omega, fun r hr' => Ev.step (fun k => F115.l0.eq_2 ..) (Ev.pos (by omega) (Ev.pos (by omega) ?_))⟩
        rw [hr, hw2, wi_ (by omega)]
        exact Ev.neg hz hr'
    obtain ⟨w, e1, e2⟩ := sz_list ByteArray.empty bT F115.l0 l hstep (fun i y hi => Ev.step (fun k => F115.l0.eq_2 ..) (Ev.neg (by omega) (Ev.now _))) l.length 0 (x - (l.length : Int)) (by omega) (by omega) (by omega)
    refine ⟨w, Ev.neg hn e1, ?_⟩
    rcases e2 with e2 | ⟨e2, e3, e4⟩
    · exact .inl e2
    · exact .inr ⟨e2, by omega, by omega, sz_all _ _ _ e4⟩

theorem toStringS_ev (l : List ByteArray) (hl : l.length ≤ 1048576) : Ev (fun k => F116.f k l) l := by
  unfold F116.f
  refine Ev.pos (by omega) (Ev.pos (by omega) ?_)
  refine (tos_list ByteArray.empty id F116.l0 l (fun D i r hi hd h => ?_) (fun D i hi => ?_) l.length _ 0 (by omega) (by simp) (fun j hj => by omega)).to (by simp)
  · refine Ev.step (fun k => F116.l0.eq_2 ..) (Ev.pos (by omega) (Ev.pos (by omega) (Ev.pos (by omega) ?_)))
    rw [wi_ (by omega)]
    exact h
  · exact Ev.step (fun k => F116.l0.eq_2 ..) (Ev.neg (by omega) (Ev.now _))

theorem eqStringS_refl (l : List ByteArray) (hl : (l.length : Int) ≤ 4611686018427387904) : Ev (fun k => F119.f k l l) true := by
  unfold F119.f
  refine Ev.pos rfl (eqs_refl F119.l0 l (fun i hi h => ?_) (fun i hi => ?_) l.length 0 (by omega))
  · refine Ev.step (fun k => F119.l0.eq_2 ..) (Ev.pos (by omega) (Ev.pos (by omega) (Ev.pos (by omega) (Ev.pos rfl ?_))))
    rw [wi_ (by omega)]
    exact h
  · exact Ev.step (fun k => F119.l0.eq_2 ..) (Ev.neg (by omega) (Ev.now _))

/-- A Element that is bounded; a Element of the laws as the program has it. -/
def bElement (x : S129) : Prop := bTs x.f0
def cElement (x : S129) : S55 := ⟨x.f0⟩

theorem szElement_ev (a0 : List ByteArray) (x : Int) (g0 : 0 ≤ x) (g1 : x ≤ 1048576) (h0 : (a0.length ≤ maxLen ∧ ∀ s ∈ a0, s.size ≤ maxLen)) : ∃ w, Ev (fun k => F91.f k a0 x) w ∧ (w = -1 ∨ (0 ≤ w ∧ w ≤ x ∧ bTs a0)) := by
  unfold F91.f
  obtain ⟨w0, u0, t0⟩ := szStringS_ev a0 x (by omega) (by omega) h0.1 h0.2
  rcases t0 with t0 | ⟨t0, s0, b0⟩
  · exact ⟨-1, Ev.bind u0 (Ev.pos (by omega) (Ev.now _)), .inl rfl⟩
  exact ⟨w0, Ev.bind u0 (Ev.neg (by omega) (Ev.now _)), .inr ⟨by omega, by omega, (b0)⟩⟩

theorem szElementS_ev (l : List S129) (x : Int) (h0 : 0 ≤ x) (h1 : x ≤ 1048576) (hl : l.length ≤ maxLen) (hs : ∀ y ∈ l, q129 y) : ∃ w, Ev (fun k => F58.f k l x) w ∧ (w = -1 ∨ (0 ≤ w ∧ w ≤ x ∧ l.length ≤ 1048576 ∧ ∀ y ∈ l, bElement y)) := by
  simp only [maxLen] at hl
  have hq : ∀ i, i < l.length → q129 (l.getD i z129) := fun i hi => hs _ (getD_mem _ hi)
  unfold F58.f
  have hw : wrap64 (x - (l.length : Int)) = x - (l.length : Int) := wrap_id (by omega) (by omega)
  rw [hw]
  by_cases hn : x - (l.length : Int) < 0
  · exact ⟨-1, Ev.pos hn (Ev.now _), .inl rfl⟩
  · have hstep : ∀ (i : Nat) (y : Int), i < l.length → 0 ≤ y → y ≤ 1048576 → Ev (fun k => F58.l0 k l y (i : Int)) (-1) ∨ ∃ x', 0 ≤ x' ∧ x' ≤ y ∧ bElement (l.getD i z129) ∧ ∀ r, Ev (fun k => F58.l0 k l x' ((i + 1 : Nat) : Int)) r → Ev (fun k => F58.l0 k l y (i : Int)) r := by
      intro i y hi g0 g1
      have hr : rd_T129 l (i : Int) = l.getD i z129 := by unfold rd_T129; rw [Int.toNat_natCast]
      obtain ⟨w, e1, e2⟩ := szElement_ev (l.getD i z129).f0 y g0 g1 (hq i hi)
      rcases e2 with e2 | ⟨e2, e3, e4⟩
      · refine .inl (Ev.step (fun k => F58.l0.eq_2 ..) (Ev.pos (by omega) (Ev.pos (by omega) ?_)))
        rw [hr]
        exact Ev.bind e1 (Ev.pos (by omega) (Ev.now _))
      · refine .inr ⟨w, by omega, by omega, e4, fun r hr' => Ev.step (fun k => F58.l0.eq_2 ..) (Ev.pos (by omega) (Ev.pos (by omega) ?_))⟩
        rw [hr, wi_ (by omega)]
        exact Ev.bind e1 (Ev.neg (by omega) hr')
    obtain ⟨w, e1, e2⟩ := sz_list z129 bElement F58.l0 l hstep (fun i y hi => Ev.step (fun k => F58.l0.eq_2 ..) (Ev.neg (by omega) (Ev.now _))) l.length 0 (x - (l.length : Int)) (by omega) (by omega) (by omega)
    refine ⟨w, Ev.neg hn e1, ?_⟩
    rcases e2 with e2 | ⟨e2, e3, e4⟩
    · exact .inl e2
    · exact .inr ⟨e2, by omega, by omega, sz_all _ _ _ e4⟩

theorem toElement_ev (a0 : List ByteArray) (h0 : bTs a0) : Ev (fun k => F92.f k a0) a0 := by
  unfold F92.f
  exact Ev.bind (toStringS_ev a0 h0.1) (Ev.now _)

theorem toElementS_ev (l : List S129) (hl : l.length ≤ 1048576) (hb : ∀ y ∈ l, bElement y) : Ev (fun k => F59.f k l) (l.map cElement) := by
  unfold F59.f
  refine Ev.pos (by omega) (Ev.pos (by omega) ?_)
  refine tos_list z129 cElement F59.l0 l (fun D i r hi hd h => ?_) (fun D i hi => ?_) l.length _ 0 (by omega) (by simp) (fun j hj => by omega)
  · have hr : rd_T129 l (i : Int) = l.getD i z129 := by unfold rd_T129; rw [Int.toNat_natCast]
    refine Ev.step (fun k => F59.l0.eq_2 ..) (Ev.pos (by omega) (Ev.pos (by omega) ?_))
    rw [hr, wi_ (by omega)]
    refine Ev.bind (toElement_ev (l.getD i z129).f0 (hb _ (getD_mem z129 hi))) (Ev.pos (by omega) ?_)
    exact h
  · exact Ev.step (fun k => F59.l0.eq_2 ..) (Ev.neg (by omega) (Ev.now _))

theorem eqElement_refl (a0 : List ByteArray) (h0 : (a0.length : Int) ≤ 4611686018427387904) : Ev (fun k => F97.f k a0 a0) true := by
  unfold F97.f
  exact Ev.bind (eqStringS_refl a0 h0) (Ev.pos rfl (Ev.now _))

/-- Of a Element: its lists are bounded. -/
def eElement (x : S55) : Prop := (x.f0.length : Int) ≤ 4611686018427387904
theorem eqElementS_refl (l : List S55) (hl : (l.length : Int) ≤ 4611686018427387904) (hb : ∀ y ∈ l, eElement y) : Ev (fun k => F63.f k l l) true := by
  unfold F63.f
  refine Ev.pos rfl (eqs_refl F63.l0 l (fun i hi h => ?_) (fun i hi => ?_) l.length 0 (by omega))
  · have hr : rd_T55 l (i : Int) = l.getD i z55 := by unfold rd_T55; rw [Int.toNat_natCast]
    refine Ev.step (fun k => F63.l0.eq_2 ..) (Ev.pos (by omega) (Ev.pos (by omega) (Ev.pos (by omega) ?_)))
    rw [hr, wi_ (by omega)]
    exact Ev.bind (eqElement_refl (l.getD i z55).f0 (hb _ (getD_mem z55 hi))) (Ev.pos rfl h)
  · exact Ev.step (fun k => F63.l0.eq_2 ..) (Ev.neg (by omega) (Ev.now _))

/-- A Segment that is bounded; a Segment of the laws as the program has it. -/
def bSegment (x : S63) : Prop := bT x.f0 ∧ (x.f1.length ≤ 1048576 ∧ ∀ y ∈ x.f1, bElement y)
def cSegment (x : S63) : S52 := ⟨x.f0, (x.f1.map cElement)⟩

theorem szSegment_ev (a0 : ByteArray) (a1 : List S129) (x : Int) (g0 : 0 ≤ x) (g1 : x ≤ 1048576) (h0 : a0.size ≤ maxLen) (h1 : (a1.length ≤ maxLen ∧ ∀ y ∈ a1, q129 y)) : ∃ w, Ev (fun k => F29.f k a0 a1 x) w ∧ (w = -1 ∨ (0 ≤ w ∧ w ≤ x ∧ bT a0 ∧ (a1.length ≤ 1048576 ∧ ∀ y ∈ a1, bElement y))) := by
  unfold F29.f
  have m0 : a0.size ≤ 9223372036854775807 := h0
  have e0 : wrap64 (x - (a0.size : Int)) = x - (a0.size : Int) := wrap_id (by omega) (by omega)
  rw [e0]
  by_cases n0 : x - (a0.size : Int) < 0
  · exact ⟨-1, Ev.pos n0 (Ev.now _), .inl rfl⟩
  obtain ⟨w1, u1, t1⟩ := szElementS_ev a1 (x - (a0.size : Int)) (by omega) (by omega) h1.1 h1.2
  rcases t1 with t1 | ⟨t1, s1, b1⟩
  · exact ⟨-1, Ev.neg n0 (Ev.bind u1 (Ev.pos (by omega) (Ev.now _))), .inl rfl⟩
  exact ⟨w1, Ev.neg n0 (Ev.bind u1 (Ev.neg (by omega) (Ev.now _))), .inr ⟨by omega, by omega, (by unfold bT; omega), (b1)⟩⟩

theorem szSegmentS_ev (l : List S63) (x : Int) (h0 : 0 ≤ x) (h1 : x ≤ 1048576) (hl : l.length ≤ maxLen) (hs : ∀ y ∈ l, q63 y) : ∃ w, Ev (fun k => F11.f k l x) w ∧ (w = -1 ∨ (0 ≤ w ∧ w ≤ x ∧ l.length ≤ 1048576 ∧ ∀ y ∈ l, bSegment y)) := by
  simp only [maxLen] at hl
  have hq : ∀ i, i < l.length → q63 (l.getD i z63) := fun i hi => hs _ (getD_mem _ hi)
  unfold F11.f
  have hw : wrap64 (x - (l.length : Int)) = x - (l.length : Int) := wrap_id (by omega) (by omega)
  rw [hw]
  by_cases hn : x - (l.length : Int) < 0
  · exact ⟨-1, Ev.pos hn (Ev.now _), .inl rfl⟩
  · have hstep : ∀ (i : Nat) (y : Int), i < l.length → 0 ≤ y → y ≤ 1048576 → Ev (fun k => F11.l0 k l y (i : Int)) (-1) ∨ ∃ x', 0 ≤ x' ∧ x' ≤ y ∧ bSegment (l.getD i z63) ∧ ∀ r, Ev (fun k => F11.l0 k l x' ((i + 1 : Nat) : Int)) r → Ev (fun k => F11.l0 k l y (i : Int)) r := by
      intro i y hi g0 g1
      have hr : rd_T63 l (i : Int) = l.getD i z63 := by unfold rd_T63; rw [Int.toNat_natCast]
      obtain ⟨w, e1, e2⟩ := szSegment_ev (l.getD i z63).f0 (l.getD i z63).f1 y g0 g1 (hq i hi).1 (hq i hi).2
      rcases e2 with e2 | ⟨e2, e3, e4⟩
      · refine .inl (Ev.step (fun k => F11.l0.eq_2 ..) (Ev.pos (by omega) (Ev.pos (by omega) ?_)))
        rw [hr]
        exact Ev.bind e1 (Ev.pos (by omega) (Ev.now _))
      · refine .inr ⟨w, by omega, by omega, e4, fun r hr' => Ev.step (fun k => F11.l0.eq_2 ..) (Ev.pos (by omega) (Ev.pos (by omega) ?_))⟩
        rw [hr, wi_ (by omega)]
        exact Ev.bind e1 (Ev.neg (by omega) hr')
    obtain ⟨w, e1, e2⟩ := sz_list z63 bSegment F11.l0 l hstep (fun i y hi => Ev.step (fun k => F11.l0.eq_2 ..) (Ev.neg (by omega) (Ev.now _))) l.length 0 (x - (l.length : Int)) (by omega) (by omega) (by omega)
    refine ⟨w, Ev.neg hn e1, ?_⟩
    rcases e2 with e2 | ⟨e2, e3, e4⟩
    · exact .inl e2
    · exact .inr ⟨e2, by omega, by omega, sz_all _ _ _ e4⟩

theorem toSegment_ev (a0 : ByteArray) (a1 : List S129) (h1 : (a1.length ≤ 1048576 ∧ ∀ y ∈ a1, bElement y)) : Ev (fun k => F36.f k a0 a1) (a0, (a1.map cElement)) := by
  unfold F36.f
  exact Ev.bind (toElementS_ev a1 h1.1 h1.2) (Ev.now _)

theorem toSegmentS_ev (l : List S63) (hl : l.length ≤ 1048576) (hb : ∀ y ∈ l, bSegment y) : Ev (fun k => F13.f k l) (l.map cSegment) := by
  unfold F13.f
  refine Ev.pos (by omega) (Ev.pos (by omega) ?_)
  refine tos_list z63 cSegment F13.l0 l (fun D i r hi hd h => ?_) (fun D i hi => ?_) l.length _ 0 (by omega) (by simp) (fun j hj => by omega)
  · have hr : rd_T63 l (i : Int) = l.getD i z63 := by unfold rd_T63; rw [Int.toNat_natCast]
    refine Ev.step (fun k => F13.l0.eq_2 ..) (Ev.pos (by omega) (Ev.pos (by omega) ?_))
    rw [hr, wi_ (by omega)]
    refine Ev.bind (toSegment_ev (l.getD i z63).f0 (l.getD i z63).f1 (hb _ (getD_mem z63 hi)).2) (Ev.pos (by omega) ?_)
    exact h
  · exact Ev.step (fun k => F13.l0.eq_2 ..) (Ev.neg (by omega) (Ev.now _))

theorem eqSegment_refl (a0 : ByteArray) (a1 : List S55) (h1 : ((a1.length : Int) ≤ 4611686018427387904 ∧ ∀ y ∈ a1, eElement y)) : Ev (fun k => F39.f k a0 a1 a0 a1) true := by
  unfold F39.f
  exact Ev.pos rfl (Ev.bind (eqElementS_refl a1 h1.1 h1.2) (Ev.pos rfl (Ev.now _)))

/-- Of a Segment: its lists are bounded. -/
def eSegment (x : S52) : Prop := ((x.f1.length : Int) ≤ 4611686018427387904 ∧ ∀ y ∈ x.f1, eElement y)
theorem eqSegmentS_refl (l : List S52) (hl : (l.length : Int) ≤ 4611686018427387904) (hb : ∀ y ∈ l, eSegment y) : Ev (fun k => F16.f k l l) true := by
  unfold F16.f
  refine Ev.pos rfl (eqs_refl F16.l0 l (fun i hi h => ?_) (fun i hi => ?_) l.length 0 (by omega))
  · have hr : rd_T52 l (i : Int) = l.getD i z52 := by unfold rd_T52; rw [Int.toNat_natCast]
    refine Ev.step (fun k => F16.l0.eq_2 ..) (Ev.pos (by omega) (Ev.pos (by omega) (Ev.pos (by omega) ?_)))
    rw [hr, wi_ (by omega)]
    exact Ev.bind (eqSegment_refl (l.getD i z52).f0 (l.getD i z52).f1 (hb _ (getD_mem z52 hi))) (Ev.pos rfl h)
  · exact Ev.step (fun k => F16.l0.eq_2 ..) (Ev.neg (by omega) (Ev.now _))

theorem eqMessage_refl (a0 : Int) (a1 : List S52) (h1 : ((a1.length : Int) ≤ 4611686018427387904 ∧ ∀ y ∈ a1, eSegment y)) : Ev (fun k => F114.f k a0 a1 a0 a1) true := by
  unfold F114.f
  exact Ev.pos rfl (Ev.bind (eqSegmentS_refl a1 h1.1 h1.2) (Ev.pos rfl (Ev.now _)))

/-- Of a Message: its lists are bounded. -/
def eMessage (x : S85) : Prop := ((x.f1.length : Int) ≤ 4611686018427387904 ∧ ∀ y ∈ x.f1, eSegment y)
theorem eqMessageS_refl (l : List S85) (hl : (l.length : Int) ≤ 4611686018427387904) (hb : ∀ y ∈ l, eMessage y) : Ev (fun k => F90.f k l l) true := by
  unfold F90.f
  refine Ev.pos rfl (eqs_refl F90.l0 l (fun i hi h => ?_) (fun i hi => ?_) l.length 0 (by omega))
  · have hr : rd_T85 l (i : Int) = l.getD i z85 := by unfold rd_T85; rw [Int.toNat_natCast]
    refine Ev.step (fun k => F90.l0.eq_2 ..) (Ev.pos (by omega) (Ev.pos (by omega) (Ev.pos (by omega) ?_)))
    rw [hr, wi_ (by omega)]
    exact Ev.bind (eqMessage_refl (l.getD i z85).f0 (l.getD i z85).f1 (hb _ (getD_mem z85 hi))) (Ev.pos rfl h)
  · exact Ev.step (fun k => F90.l0.eq_2 ..) (Ev.neg (by omega) (Ev.now _))

theorem eqBundle_refl (a0 : Int) (a1 : Int) (a2 : List S85) (h2 : ((a2.length : Int) ≤ 4611686018427387904 ∧ ∀ y ∈ a2, eMessage y)) : Ev (fun k => F57.f k a0 a1 a2 a0 a1 a2) true := by
  unfold F57.f
  exact Ev.pos rfl (Ev.pos rfl (Ev.bind (eqMessageS_refl a2 h2.1 h2.2) (Ev.pos rfl (Ev.now _))))

/-- Of a Bundle: its lists are bounded. -/
def eBundle (x : S83) : Prop := ((x.f2.length : Int) ≤ 4611686018427387904 ∧ ∀ y ∈ x.f2, eMessage y)
theorem eqBundleS_refl (l : List S83) (hl : (l.length : Int) ≤ 4611686018427387904) (hb : ∀ y ∈ l, eBundle y) : Ev (fun k => F28.f k l l) true := by
  unfold F28.f
  refine Ev.pos rfl (eqs_refl F28.l0 l (fun i hi h => ?_) (fun i hi => ?_) l.length 0 (by omega))
  · have hr : rd_T83 l (i : Int) = l.getD i z83 := by unfold rd_T83; rw [Int.toNat_natCast]
    refine Ev.step (fun k => F28.l0.eq_2 ..) (Ev.pos (by omega) (Ev.pos (by omega) (Ev.pos (by omega) ?_)))
    rw [hr, wi_ (by omega)]
    exact Ev.bind (eqBundle_refl (l.getD i z83).f0 (l.getD i z83).f1 (l.getD i z83).f2 (hb _ (getD_mem z83 hi))) (Ev.pos rfl h)
  · exact Ev.step (fun k => F28.l0.eq_2 ..) (Ev.neg (by omega) (Ev.now _))

theorem eqInterchange_refl (a0 : ByteArray) (a1 : ByteArray) (a2 : Int) (a3 : List S83) (h3 : ((a3.length : Int) ≤ 4611686018427387904 ∧ ∀ y ∈ a3, eBundle y)) : Ev (fun k => F10.f k a0 a1 a2 a3 a0 a1 a2 a3) true := by
  unfold F10.f
  exact Ev.pos rfl (Ev.pos rfl (Ev.pos rfl (Ev.bind (eqBundleS_refl a3 h3.1 h3.2) (Ev.pos rfl (Ev.now _)))))

/-! numbers in digits -/
theorem ba_app (a b : List UInt8) : (⟨a.toArray⟩ : ByteArray) ++ (⟨b.toArray⟩ : ByteArray) = ⟨(a ++ b).toArray⟩ := by
  apply ByteArray.ext
  rw [ByteArray.data_append]
  simp
def decS (n : Int) : ByteArray := ⟨(Lib.itoa n).toArray⟩
theorem dec_loop (m : Nat) : ∀ (neg : Bool) (acc : List UInt8), acc.length + m ≤ 1000000000000000 →
    Ev (fun k => F50.l0 k (if neg then -(m : Int) else (m : Int)) neg ⟨acc.toArray⟩) ⟨((if neg then [45] else []) ++ ((if m = 0 then [] else Lib.decDigits m) ++ acc)).toArray⟩ := by
  induction m using Nat.strongRecOn with
  | _ m ih =>
  intro neg acc h
  refine Ev.step (fun k => F50.l0.eq_2 ..) ?_
  have hsz : ∀ l : List UInt8, (⟨l.toArray⟩ : ByteArray).size = l.length := fun l => by simp [ByteArray.size]
  by_cases h0 : m = 0
  · subst h0
    refine Ev.pos (by cases neg <;> simp) ?_
    cases neg
    · exact Ev.neg (by simp) (Ev.ret (by simp))
    · refine Ev.pos rfl (Ev.pos (by rw [hsz]; omega) (Ev.ret ?_))
      exact (ba_app [45] acc).trans (by simp)
  · refine Ev.neg (by cases neg <;> simp <;> omega) ?_
    have hd : m / 10 < m := by omega
    have hdg : ∀ c : Nat, c < 10 → UInt8.ofNat ((48 + c) % 256) = UInt8.ofNat (48 + c) := fun c hc => by rw [Nat.mod_eq_of_lt (by omega)]
    have key : ∀ c : Nat, c = m % 10 → (if m / 10 = 0 then ([] : List UInt8) else Lib.decDigits (m / 10)) ++ (UInt8.ofNat (48 + c) :: acc) = Lib.decDigits m ++ acc := by
      intro c hc
      subst hc
      rw [Lib.decDigits.eq_1 m]
      by_cases h1 : m < 10
      · rw [dif_pos h1, if_pos (by omega), Nat.mod_eq_of_lt h1]
        rfl
      · rw [dif_neg h1, if_neg (by omega), List.append_assoc]
        rfl
    have hone : ∀ c : Int, 0 ≤ c → c < 10 → strOfNums [wrap64 (48 + c) % 256] = (⟨[UInt8.ofNat (48 + c.toNat)].toArray⟩ : ByteArray) := by
      intro c g0 g1
      have e : wrap64 (48 + c) % 256 = 48 + c := by rw [wrap_id (by omega) (by omega)]; omega
      rw [e]
      unfold strOfNums
      have e2 : (48 + c).toNat = 48 + c.toNat := by omega
      simp only [List.map_cons, List.map_nil, e2]
    cases neg with
    | false =>
      simp only [Bool.false_eq_true, if_false]
      have e1 : Int.tmod (m : Int) 10 = ((m % 10 : Nat) : Int) := by rw [Int.tmod_eq_emod_of_nonneg (by omega)]; omega
      have e2 : Int.tdiv (m : Int) 10 = ((m / 10 : Nat) : Int) := by rw [Int.tdiv_eq_ediv_of_nonneg (by omega)]; omega
      refine Ev.neg (by rw [e1]; omega) (Ev.bindc rfl ?_)
      rw [e1, hone _ (by omega) (by omega)]
      refine Ev.pos (by rw [hsz, hsz]; simp only [List.length_cons, List.length_nil]; omega) ?_
      rw [e2, wrap_id (by omega) (by omega), ba_app]
      have := ih (m / 10) hd false (UInt8.ofNat (48 + m % 10) :: acc) (by simp only [List.length_cons]; omega)
      simp only [Bool.false_eq_true, if_false] at this
      refine this.to ?_
      rw [key _ rfl, if_neg h0]
    | true =>
      simp only [if_true]
      have e1 : Int.tmod (-(m : Int)) 10 = -((m % 10 : Nat) : Int) := by rw [Int.neg_tmod, Int.tmod_eq_emod_of_nonneg (by omega)]; omega
      have e2 : Int.tdiv (-(m : Int)) 10 = -((m / 10 : Nat) : Int) := by rw [Int.neg_tdiv, Int.tdiv_eq_ediv_of_nonneg (by omega)]; omega
      have fin : Ev (fun k => F50.l0 k (wrap64 (Int.tdiv (-(m : Int)) 10)) true ((⟨[UInt8.ofNat (48 + m % 10)].toArray⟩ : ByteArray) ++ ⟨acc.toArray⟩)) ⟨([45] ++ ((if m = 0 then [] else Lib.decDigits m) ++ acc)).toArray⟩ := by
        rw [e2, wrap_id (by omega) (by omega), ba_app]
        have := ih (m / 10) hd true (UInt8.ofNat (48 + m % 10) :: acc) (by simp only [List.length_cons]; omega)
        simp only [if_true] at this
        refine this.to ?_
        rw [key _ rfl, if_neg h0]
      refine Ev.ite (fun g => Ev.bindc rfl ?_) (fun g => Ev.bindc rfl ?_)
      · rw [show wrap64 (-(Int.tmod (-(m : Int)) 10)) = ((m % 10 : Nat) : Int) from by rw [e1, wrap_id (by omega) (by omega)]; omega, hone _ (by omega) (by omega)]
        refine Ev.pos (by rw [hsz, hsz]; simp only [List.length_cons, List.length_nil]; omega) ?_
        exact fin
      · rw [show Int.tmod (-(m : Int)) 10 = ((m % 10 : Nat) : Int) from by rw [e1] at g ⊢; omega, hone _ (by omega) (by omega)]
        refine Ev.pos (by rw [hsz, hsz]; simp only [List.length_cons, List.length_nil]; omega) ?_
        exact fin
theorem l01Dec_ev (n : Int) (h0 : -100000000000000 ≤ n) (h1 : n ≤ 100000000000000) : Ev (fun k => F50.f k n) (decS n) := by
  unfold F50.f
  by_cases h : n = 0
  · subst h
    refine Ev.pos rfl (Ev.ret ?_)
    unfold decS Lib.itoa
    rw [if_neg (by omega), Lib.decDigits.eq_1, dif_pos (by simp)]
    rfl
  · refine Ev.neg h ?_
    have := dec_loop n.natAbs (decide (n < 0)) [] (by simp only [List.length_nil]; omega)
    have e : (if decide (n < 0) = true then -(n.natAbs : Int) else (n.natAbs : Int)) = n := by split <;> rename_i g <;> simp at g <;> omega
    rw [e] at this
    refine this.to ?_
    unfold decS Lib.itoa
    by_cases g : n < 0
    · have hz : n.natAbs ≠ 0 := by omega
      simp [g, hz]
    · have hz : n.natAbs ≠ 0 := by omega
      have hy : n.natAbs = n.toNat := by omega
      have hx : n.toNat ≠ 0 := by omega
      simp [g, hy, hx]

/-! numbers read out of digits -/
def dgt (m : Nat) : List Int := (Lib.decDigits m).map fun b => (b.toNat : Int)
def dvl : Nat → List Int → Nat
  | a, [] => a
  | a, c :: r => dvl (a * 10 + (c - 48).toNat) r
theorem dgt_eq (m : Nat) : dgt m = if m < 10 then [(48 + m : Int)] else dgt (m / 10) ++ [((48 + m % 10 : Nat) : Int)] := by
  unfold dgt
  rw [Lib.decDigits.eq_1 m]
  by_cases h : m < 10
  · rw [dif_pos h, if_pos h]
    have : (UInt8.ofNat (48 + m)).toNat = 48 + m := by rw [UInt8.toNat_ofNat']; omega
    show [(((UInt8.ofNat (48 + m)).toNat : Nat) : Int)] = _
    rw [this, Int.natCast_add]; rfl
  · rw [dif_neg h, if_neg h, List.map_append]
    have : (UInt8.ofNat (48 + m % 10)).toNat = 48 + m % 10 := by rw [UInt8.toNat_ofNat']; omega
    simp only [List.map_cons, List.map_nil, this]
theorem dvl_app (l : List Int) (c : Int) : ∀ a, dvl a (l ++ [c]) = dvl a l * 10 + (c - 48).toNat := by
  induction l with
  | nil => intro a; rfl
  | cons x l ih => intro a; exact ih _
theorem dvl_ge : ∀ (l : List Int) (a : Nat), a ≤ dvl a l
  | [], _ => Nat.le_refl _
  | c :: r, a => Nat.le_trans (by omega) (dvl_ge r (a * 10 + (c - 48).toNat))
theorem dgt_all (m : Nat) : (dgt m).all digit = true ∧ dgt m ≠ [] ∧ dvl 0 (dgt m) = m ∧ (1 ≤ m → (dgt m).head? ≠ some 48) := by
  induction m using Nat.strongRecOn with
  | _ m ih =>
  rw [dgt_eq]
  by_cases h : m < 10
  · rw [if_pos h]
    refine ⟨?_, by simp, ?_, fun h1 => ?_⟩
    · simp only [List.all_cons, List.all_nil, Bool.and_true]
      exact digit_t (by omega) (by omega)
    · show 0 * 10 + ((48 + m : Int) - 48).toNat = m
      omega
    · simp only [List.head?_cons, ne_eq, Option.some.injEq]
      omega
  · rw [if_neg h]
    obtain ⟨h1, h2, h3, h4⟩ := ih (m / 10) (by omega)
    refine ⟨?_, by simp, ?_, fun _ => ?_⟩
    · rw [List.all_append, h1]
      simp only [List.all_cons, List.all_nil, Bool.and_true, Bool.true_and]
      exact digit_t (by omega) (by omega)
    · rw [dvl_app, h3]
      omega
    · have := h4 (by omega)
      cases hd : dgt (m / 10) with
      | nil => exact absurd hd h2
      | cons x r => rw [hd] at this; simpa using this
theorem rev_ind {α : Type} {P : List α → Prop} (h0 : P []) (h1 : ∀ l a, P l → P (l ++ [a])) (l : List α) : P l := by
  have : ∀ r : List α, P r.reverse := by
    intro r
    induction r with
    | nil => exact h0
    | cons a r ih => rw [List.reverse_cons]; exact h1 _ _ ih
  have h2 := this l.reverse
  rwa [List.reverse_reverse] at h2
theorem dgt_of (l : List Int) : l.all digit = true → l ≠ [] → l.head? ≠ some 48 → dgt (dvl 0 l) = l := by
  refine rev_ind (P := fun l => l.all digit = true → l ≠ [] → l.head? ≠ some 48 → dgt (dvl 0 l) = l) (fun _ h => absurd rfl h) (fun r c ih h1 h2 h3 => ?_) l
  rw [List.all_append, Bool.and_eq_true] at h1
  have hc : 48 ≤ c ∧ c ≤ 57 := by simpa [digit] using h1.2
  rw [dvl_app]
  cases r with
  | nil =>
    have : c ≠ 48 := fun e => h3 (by simp [e])
    show dgt (0 * 10 + (c - 48).toNat) = [c]
    rw [dgt_eq, if_pos (by omega)]
    congr 1
    omega
  | cons x r =>
    have h5 : (x :: r).head? ≠ some 48 := fun e => h3 (by simpa using e)
    have h4 := ih h1.1 (by simp) h5
    have hv : 1 ≤ dvl 0 (x :: r) := by
      rcases Nat.eq_zero_or_pos (dvl 0 (x :: r)) with e | e
      · rw [e] at h4
        have e0 : dgt 0 = [48] := by rw [dgt_eq]; rfl
        rw [e0] at h4
        exact absurd (by rw [← h4]; rfl) h5
      · exact e
    rw [dgt_eq, if_neg (by omega)]
    have e1 : (dvl 0 (x :: r) * 10 + (c - 48).toNat) / 10 = dvl 0 (x :: r) := by omega
    have e2 : ((48 + (dvl 0 (x :: r) * 10 + (c - 48).toNat) % 10 : Nat) : Int) = c := by omega
    rw [e1, e2, h4]
theorem dgt_len : ∀ (n m : Nat), 1 ≤ n → m < 10 ^ n → (dgt m).length ≤ n
  | 0, _, h, _ => by omega
  | n + 1, m, _, h => by
    rw [dgt_eq]
    by_cases h1 : m < 10
    · rw [if_pos h1]; simp
    · rw [if_neg h1, List.length_append, List.length_singleton]
      have hn : 1 ≤ n := by
        rcases Nat.eq_zero_or_pos n with e | e
        · subst e; simp at h; omega
        · exact e
      have := dgt_len n (m / 10) hn (by rw [Nat.pow_succ] at h; omega)
      omega
theorem bytes_decS (m : Nat) : bytesOf (decS (m : Int)) = dgt m := by
  unfold decS
  rw [Lib.itoa_nonneg]
  rfl
theorem puM_ok (M : Nat) : ∀ (l : List UInt8) (a u : Nat), Lib.parseUintM M a l = .ok u → (l.map fun b => (b.toNat : Int)).all digit = true ∧ u = dvl a (l.map fun b => (b.toNat : Int))
  | [], a, u, h => by
    simp only [Lib.parseUintM] at h
    cases h
    exact ⟨rfl, rfl⟩
  | c :: r, a, u, h => by
    rw [Lib.parseUintM] at h
    by_cases h1 : 48 ≤ c.toNat ∧ c.toNat ≤ 57
    · rw [if_pos h1] at h
      by_cases h2 : 1844674407370955162 ≤ a
      · rw [if_pos h2] at h; cases h
      · rw [if_neg h2] at h
        by_cases h3 : M < a * 10 + (c.toNat - 48)
        · rw [if_pos h3] at h; cases h
        · rw [if_neg h3] at h
          obtain ⟨e1, e2⟩ := puM_ok M r _ u h
          refine ⟨?_, ?_⟩
          · rw [List.map_cons, List.all_cons, e1, Bool.and_true]
            exact digit_t (by omega) (by omega)
          · rw [e2, List.map_cons]
            show _ = dvl (a * 10 + ((c.toNat : Int) - 48).toNat) _
            congr 1
            omega
    · rw [if_neg h1] at h; cases h
theorem puM_of (M : Nat) (hM : 1000000000000000 ≤ M) : ∀ (l : List UInt8) (a : Nat), (l.map fun b => (b.toNat : Int)).all digit = true → dvl a (l.map fun b => (b.toNat : Int)) ≤ 1000000000000000 → Lib.parseUintM M a l = .ok (dvl a (l.map fun b => (b.toNat : Int)))
  | [], a, _, _ => rfl
  | c :: r, a, h, hb => by
    rw [List.map_cons, List.all_cons, Bool.and_eq_true] at h
    have hc : 48 ≤ (c.toNat : Int) ∧ (c.toNat : Int) ≤ 57 := by simpa [digit] using h.1
    have e : dvl a ((c :: r).map fun b => (b.toNat : Int)) = dvl (a * 10 + (c.toNat - 48)) (r.map fun b => (b.toNat : Int)) := by
      rw [List.map_cons]
      show dvl (a * 10 + ((c.toNat : Int) - 48).toNat) _ = _
      congr 1
      omega
    rw [e] at hb ⊢
    have hg := dvl_ge (r.map fun b => (b.toNat : Int)) (a * 10 + (c.toNat - 48))
    rw [Lib.parseUintM, if_pos (by omega), if_neg (by omega), if_neg (by omega)]
    exact puM_of M hM r _ h.2 hb
theorem piB_pos (c : UInt8) (r : List UInt8) (h : ¬ c.toNat = 43 ∧ ¬ c.toNat = 45) : Lib.parseIntB 64 (c :: r) = match Lib.parseUintM (2 ^ 64 - 1) 0 (c :: r) with
    | Lib.NumEnd.syntax => Lib.NumEnd.syntax
    | .range => .range
    | .ok u => if 2 ^ 63 ≤ u then .range else .ok (u : Int) := by
  dsimp only [Lib.parseIntB, Lib.parseUintB]
  rw [if_neg (not_or.2 h), if_neg (show ¬ c :: r = [] by simp)]
  cases Lib.parseUintM (2 ^ 64 - 1) 0 (c :: r) with
  | ok u => simp [h.2]
  | range => rfl
  | _ => rfl
theorem piB_neg (c : UInt8) (r : List UInt8) (h : c.toNat = 45) : Lib.parseIntB 64 (c :: r) = match Lib.parseUintB 64 r with
    | Lib.NumEnd.syntax => Lib.NumEnd.syntax
    | .range => .range
    | .ok u => if 2 ^ 63 < u then .range else .ok (-(u : Int)) := by
  dsimp only [Lib.parseIntB]
  rw [if_pos (.inr h)]
  cases Lib.parseUintB 64 r with
  | ok u => simp [h]
  | range => rfl
  | _ => rfl
/-- What strconv makes of digits alone. -/
theorem pi_of (s : ByteArray) (m : Nat) (hm : m ≤ 1000000000000000) (h : bytesOf s = dgt m) : Lib.parseIntB 64 s.data.toList = .ok (m : Int) := by
  obtain ⟨g1, g2, g3, _⟩ := dgt_all m
  have hl : (s.data.toList.map fun b => (b.toNat : Int)) = dgt m := h
  cases hs : s.data.toList with
  | nil => rw [hs] at hl; exact absurd hl.symm g2
  | cons c r =>
    rw [hs] at hl
    rw [← hl] at g1 g3
    have hc : 48 ≤ (c.toNat : Int) ∧ (c.toNat : Int) ≤ 57 := by
      rw [List.map_cons, List.all_cons, Bool.and_eq_true] at g1
      simpa [digit] using g1.1
    rw [piB_pos c r ⟨by omega, by omega⟩, puM_of (2 ^ 64 - 1) (by decide) (c :: r) 0 g1 (by rw [g3]; exact hm), g3]
    show (if 2 ^ 63 ≤ m then Lib.NumEnd.range else Lib.NumEnd.ok (m : Int)) = _
    rw [if_neg (by have : (2 : Nat) ^ 63 = 9223372036854775808 := by decide
                   omega)]
theorem pi_ok (s : ByteArray) (v : Int) (h : Lib.parseIntB 64 s.data.toList = .ok v) (hp : (bytesOf s).all digit = true) : v = (dvl 0 (bytesOf s) : Nat) := by
  have hl : (s.data.toList.map fun b => (b.toNat : Int)) = bytesOf s := rfl
  cases hs : s.data.toList with
  | nil => rw [hs] at h; simp [Lib.parseIntB] at h
  | cons c r =>
    rw [hs] at hl h
    rw [← hl] at hp ⊢
    have hc : 48 ≤ (c.toNat : Int) ∧ (c.toNat : Int) ≤ 57 := by
      rw [List.map_cons, List.all_cons, Bool.and_eq_true] at hp
      simpa [digit] using hp.1
    rw [piB_pos c r ⟨by omega, by omega⟩] at h
    cases hu : Lib.parseUintM (2 ^ 64 - 1) 0 (c :: r) with
    | ok u =>
      rw [hu] at h
      obtain ⟨_, e⟩ := puM_ok _ _ _ _ hu
      simp only at h
      split at h
      · cases h
      · cases h
        rw [← e]
    | range => rw [hu] at h; cases h
    | _ => rw [hu] at h; cases h

/-! the two readers of numbers -/
theorem nil_iff (s : ByteArray) : s.toList = ([] : List UInt8) ↔ bytesOf s = [] := by
  rw [ByteArray.toList_eq]
  simp [bytesOf]
theorem one_iff (s : ByteArray) : (s.toList == ([48] : List UInt8)) = (bytesOf s == [48]) := by
  rw [ByteArray.toList_eq]
  have : s.toList = ([48] : List UInt8) ↔ s = (⟨#[48]⟩ : ByteArray) := by
    have e : (⟨#[48]⟩ : ByteArray).toList = [48] := by rw [ByteArray.toList_eq]
    exact ⟨fun h => toList_inj.1 (h.trans e.symm), fun h => h ▸ e⟩
  have h2 : bytesOf s = [48] ↔ s = (⟨#[48]⟩ : ByteArray) := by
    rw [← show bytesOf (⟨#[48]⟩ : ByteArray) = [48] from rfl]
    exact ⟨bytesOf_inj, fun h => h ▸ rfl⟩
  rw [← ByteArray.toList_eq]
  by_cases h : s = (⟨#[48]⟩ : ByteArray)
  · rw [beq_iff_eq.2 (this.2 h), beq_iff_eq.2 (h2.2 h)]
  · rw [beq_eq_false_iff_ne.2 (fun e => h (this.1 e)), beq_eq_false_iff_ne.2 (fun e => h (h2.1 e))]
theorem bt_head {s : ByteArray} {c : Int} {r : List Int} (h : bytesOf s = c :: r) : (0 : Int) < (s.size : Int) ∧ bt s 0 = c ∧ bytesOf (s.extract 1 s.size) = r := by
  obtain ⟨h1, h2, h3, _⟩ := drop_cons (s := s) (i := 0) (c := c) (r := r) (by simpa using h)
  refine ⟨h1, h2, ?_⟩
  rw [bytesOf_extract, List.take_of_length_le (Nat.le_of_eq (length_bytesOf s)), h]
  rfl
def isNumB (l d : List Int) : Bool := d.all digit && (decide (d ≠ []) && (decide (d.head? ≠ some 48) || (l == [48])))
theorem isNum_loop (s d : ByteArray) (hd : (d.size : Int) ≤ 1048576) : ∀ (l : List Int) (i : Nat), (bytesOf d).drop i = l → Ev (fun k => F96.l0 k s d (d.size : Int) (i : Int)) (l.all digit && (decide (bytesOf d ≠ []) && (decide ((bytesOf d).head? ≠ some 48) || (bytesOf s == [48])))) := by
  intro l
  induction l with
  | nil =>
    intro i h
    have h0 := drop_nil h
    refine Ev.step (fun k => F96.l0.eq_2 ..) (Ev.neg (by omega) ?_)
    by_cases hz : bytesOf d = []
    · exact Ev.pos ((nil_iff d).2 hz) (Ev.ret (by simp [hz]))
    · refine Ev.neg (fun e => hz ((nil_iff d).1 e)) ?_
      cases hb : bytesOf d with
      | nil => exact absurd hb hz
      | cons c r =>
        obtain ⟨g1, g2, _⟩ := bt_head hb
        refine Ev.pos g1 ?_
        rw [g2]
        by_cases hc : c = 48
        · exact Ev.pos hc (Ev.ret (by rw [one_iff]; simp [hc]))
        · exact Ev.neg hc (Ev.ret (by simp [hc]))
  | cons c r ih =>
    intro i h
    obtain ⟨h1, h2, h3, _, _⟩ := drop_cons h
    refine Ev.step (fun k => F96.l0.eq_2 ..) (Ev.pos h1 (Ev.pos (by omega) (Ev.pos h1 ?_)))
    rw [h2]
    refine Ev.bindc (isDigit_eq _) ?_
    by_cases hg : digit c = true
    · refine Ev.pos hg ?_
      rw [wi_ (by omega)]
      exact (ih (i + 1) h3).to (by simp [hg])
    · exact Ev.neg hg (Ev.ret (by simp [hg]))
def digs (l : List Int) : List Int := if l.head? = some 45 then l.drop 1 else l
theorem isNumber_ev (s : ByteArray) (hs : s.size ≤ 1048576) : Ev (fun k => F96.f k s) (isNumB (bytesOf s) (digs (bytesOf s))) := by
  unfold F96.f
  cases hb : bytesOf s with
  | nil =>
    have hz := (nil_iff s).2 hb
    refine Ev.pos hz (Ev.step (fun k => F96.j0.eq_2 ..) (Ev.neg (by simp) (Ev.step (fun k => F96.j1.eq_2 ..) ?_)))
    have := isNum_loop s s (by omega) [] 0 (by simp [hb])
    rw [hb] at this
    exact this.to rfl
  | cons c r =>
    obtain ⟨g1, g2, g3⟩ := bt_head hb
    refine Ev.neg (fun e => by rw [(nil_iff s).1 e] at hb; cases hb) (Ev.pos g1 (Ev.step (fun k => F96.j0.eq_2 ..) ?_))
    rw [g2]
    by_cases hc : c = 45
    · refine Ev.pos (by simp [hc]) (Ev.pos (by omega) (Ev.step (fun k => F96.j1.eq_2 ..) ?_))
      have := isNum_loop s (s.extract 1 s.size) (by rw [← length_bytesOf, g3]; have := length_bytesOf s; rw [hb] at this; simp only [List.length_cons] at this; omega) r 0 (by simp [g3])
      rw [g3, hb] at this
      exact this.to (by simp [isNumB, digs, hc])
    · refine Ev.neg (by simp [hc]) (Ev.step (fun k => F96.j1.eq_2 ..) ?_)
      have := isNum_loop s s (by omega) (c :: r) 0 (by simp [hb])
      rw [hb] at this
      exact this.to (by simp [isNumB, digs, hc])
theorem decS_of_bytes {s : ByteArray} {m : Nat} (h : bytesOf s = dgt m) : s = decS (m : Int) := bytesOf_inj (by rw [h, bytes_decS])
theorem isNumB_dgt (m : Nat) : isNumB (dgt m) (digs (dgt m)) = true := by
  obtain ⟨g1, g2, g3, g4⟩ := dgt_all m
  have hh : (dgt m).head? ≠ some 45 := by
    cases hd : dgt m with
    | nil => simp
    | cons c r =>
      rw [hd, List.all_cons, Bool.and_eq_true] at g1
      have : 48 ≤ c ∧ c ≤ 57 := by simpa [digit] using g1.1
      simp only [List.head?_cons, ne_eq, Option.some.injEq]
      omega
  unfold isNumB digs
  rw [if_neg hh, g1]
  rcases Nat.eq_zero_or_pos m with e | e
  · subst e
    have : dgt 0 = [48] := by rw [dgt_eq]; rfl
    rw [this]; rfl
  · simp [g2, g4 e]
theorem isNumB_ok {l : List Int} (h : isNumB l (digs l) = true) (h0 : l.head? ≠ some 45) : l.all digit = true ∧ dgt (dvl 0 l) = l := by
  unfold isNumB digs at h
  rw [if_neg h0] at h
  simp only [Bool.and_eq_true, decide_eq_true_eq, Bool.or_eq_true, beq_iff_eq] at h
  refine ⟨h.1, ?_⟩
  rcases h.2.2 with e | e
  · exact dgt_of l h.1 h.2.1 e
  · rw [e]
    show dgt 0 = [48]
    rw [dgt_eq]; rfl
/-- Where the sign stands, what strconv answers is not above nought. -/
theorem pi_neg (s : ByteArray) (v : Int) (h : Lib.parseIntB 64 s.data.toList = .ok v) (hd : (bytesOf s).head? = some 45) : v ≤ 0 := by
  have hl : (s.data.toList.map fun b => (b.toNat : Int)) = bytesOf s := rfl
  cases hs : s.data.toList with
  | nil => rw [hs] at h; simp [Lib.parseIntB] at h
  | cons c r =>
    rw [hs] at hl h
    rw [← hl] at hd
    have hc : c.toNat = 45 := by simp at hd; omega
    rw [piB_neg c r hc] at h
    cases hu : Lib.parseUintB 64 r with
    | ok u =>
      rw [hu] at h
      simp only at h
      split at h
      · cases h
      · cases h
        omega
    | range => rw [hu] at h; cases h
    | _ => rw [hu] at h; cases h
theorem numberIn_ev (s : ByteArray) (hs : s.size ≤ 1048576) (lo hi : Int) (h0 : 0 ≤ lo) (h1 : hi ≤ 1000000000000) : ∃ p : Int × Bool, Ev (fun k => F62.f k s lo hi) p ∧ (∀ m : Nat, s = decS (m : Int) → lo ≤ (m : Int) → (m : Int) ≤ hi → p = ((m : Int), true)) ∧ (p.2 = true → ∃ m : Nat, s = decS (m : Int) ∧ lo ≤ (m : Int) ∧ (m : Int) ≤ hi ∧ p.1 = (m : Int)) := by
  unfold F62.f
  have key : ∃ p : Int × Bool, Ev (fun k => F62.g k s lo hi (Lib.parseIntB 64 s.data.toList)) p ∧ (∀ m : Nat, s = decS (m : Int) → lo ≤ (m : Int) → (m : Int) ≤ hi → p = ((m : Int), true)) ∧ (p.2 = true → ∃ m : Nat, s = decS (m : Int) ∧ lo ≤ (m : Int) ∧ (m : Int) ≤ hi ∧ p.1 = (m : Int)) := by
    cases hp : Lib.parseIntB 64 s.data.toList with
    | ok v =>
      unfold F62.g
      have hn := isNumber_ev s hs
      by_cases hb : isNumB (bytesOf s) (digs (bytesOf s)) = true
      · rw [hb] at hn
        refine ⟨(v, withinP v lo hi), Ev.bind hn (Ev.pos rfl (Ev.bindc (within_eq _ _ _) (Ev.now _))), fun m hm l1 l2 => ?_, fun hq => ?_⟩
        · have hbm : bytesOf s = dgt m := by rw [hm, bytes_decS]
          rw [pi_of s m (by omega) hbm] at hp
          cases hp
          rw [show withinP (m : Int) lo hi = true from by simp [withinP, l1, l2]]
        · have hq : lo ≤ v ∧ v ≤ hi := by simpa [withinP] using hq
          by_cases hd : (bytesOf s).head? = some 45
          · have := pi_neg s v hp hd
            have e0 : v = 0 := by omega
            exfalso
            -- '-0' is no number, and '-d' with d over 0 is under 0
            have hl : (s.data.toList.map fun b => (b.toNat : Int)) = bytesOf s := rfl
            cases hs' : s.data.toList with
            | nil => rw [hs'] at hp; simp [Lib.parseIntB] at hp
            | cons c r =>
              rw [hs'] at hl hp
              rw [← hl] at hb hd
              have hc : c.toNat = 45 := by simp at hd; omega
              rw [piB_neg c r hc] at hp
              unfold Lib.parseUintB at hp
              have hdg : digs ((c :: r).map fun b => (b.toNat : Int)) = r.map fun b => (b.toNat : Int) := by
                unfold digs
                rw [if_pos hd]; rfl
              rw [hdg] at hb
              unfold isNumB at hb
              simp only [Bool.and_eq_true, decide_eq_true_eq, Bool.or_eq_true, beq_iff_eq] at hb
              have hr : r ≠ [] := fun e => hb.2.1 (by rw [e]; rfl)
              rw [if_neg hr] at hp
              have hh : (r.map fun b => (b.toNat : Int)).head? ≠ some 48 := by
                rcases hb.2.2 with e | e
                · exact e
                · rw [List.map_cons, hc] at e
                  simp at e
              have hg := dgt_of _ hb.1 hb.2.1 hh
              cases hu : Lib.parseUintM (2 ^ 64 - 1) 0 r with
              | ok u =>
                obtain ⟨_, e⟩ := puM_ok _ _ _ _ hu
                rw [hu] at hp
                simp only at hp
                split at hp
                · cases hp
                · cases hp
                  have hz : u = 0 := by omega
                  rw [← e, hz] at hg
                  have e0 : dgt 0 = [48] := by rw [dgt_eq]; rfl
                  rw [e0] at hg
                  exact hh (by rw [← hg]; rfl)
              | range => rw [hu] at hp; cases hp
              | _ => rw [hu] at hp; cases hp
          · obtain ⟨g1, g2⟩ := isNumB_ok hb hd
            have hv := pi_ok s v hp g1
            exact ⟨dvl 0 (bytesOf s), decS_of_bytes g2.symm, by omega, by omega, hv⟩
      · rw [Bool.not_eq_true] at hb
        rw [hb] at hn
        refine ⟨(v, false), Ev.bind hn (Ev.neg (by simp) (Ev.now _)), fun m hm l1 l2 => ?_, fun hq => (by cases hq)⟩
        have hbm : bytesOf s = dgt m := by rw [hm, bytes_decS]
        rw [hbm, isNumB_dgt] at hb
        cases hb
    | range =>
      refine ⟨(Lib.intSat 64 s.data.toList, false), Ev.now _, fun m hm l1 l2 => ?_, fun hq => (by cases hq)⟩
      have hbm : bytesOf s = dgt m := by rw [hm, bytes_decS]
      rw [pi_of s m (by omega) hbm] at hp
      cases hp
    | _ =>
      refine ⟨(0, false), Ev.now _, fun m hm l1 l2 => ?_, fun hq => (by cases hq)⟩
      have hbm : bytesOf s = dgt m := by rw [hm, bytes_decS]
      rw [pi_of s m (by omega) hbm] at hp
      cases hp
  obtain ⟨p, e1, e2⟩ := key
  exact ⟨p, Ev.pos (by omega) e1, e2⟩
theorem dvl_lt : ∀ (l : List Int) (a n : Nat), l.all digit = true → a < 10 ^ n → dvl a l < 10 ^ (n + l.length)
  | [], a, n, _, h => h
  | c :: r, a, n, h, hb => by
    rw [List.all_cons, Bool.and_eq_true] at h
    have hc : 48 ≤ c ∧ c ≤ 57 := by simpa [digit] using h.1
    have := dvl_lt r (a * 10 + (c - 48).toNat) (n + 1) h.2 (by rw [Nat.pow_succ]; omega)
    rw [List.length_cons, show n + (r.length + 1) = n + 1 + r.length by omega]
    exact this
theorem beq_str (a b : ByteArray) : (a.toList == b.toList) = decide (a = b) := by
  by_cases h : a = b
  · rw [h]; simp
  · rw [decide_eq_false h, beq_eq_false_iff_ne]
    exact fun e => h (toList_inj.1 e)
theorem pow12 {i a : Nat} (hi : i ≤ 12) (ha : a < 10 ^ i) : a < 1000000000000 := Nat.lt_of_lt_of_le ha (Nat.pow_le_pow_right (by omega) hi)
theorem num_loop (s d : ByteArray) (ng : Bool) : ∀ (l : List Int) (i a : Nat), (bytesOf d).drop i = l → i + l.length ≤ 12 → a < 10 ^ i → ∃ p : Int × Bool, Ev (fun k => F30.l0 k s ng d (a : Int) (i : Int)) p ∧ (l.all digit = true → p = (if ng = true then -(dvl a l : Int) else (dvl a l : Int), decide (decS (if ng = true then -(dvl a l : Int) else (dvl a l : Int)) = s))) ∧ (¬ l.all digit = true → p = (0, false)) := by
  intro l
  induction l with
  | nil =>
    intro i a h hi ha
    have h0 := drop_nil h
    have hb := pow12 (by simpa using hi) ha
    refine ⟨_, Ev.step (fun k => F30.l0.eq_2 ..) (Ev.neg (by omega) (r := (if ng = true then -(a : Int) else (a : Int), decide (decS (if ng = true then -(a : Int) else (a : Int)) = s))) ?_), fun _ => rfl, fun h => absurd rfl h⟩
    rw [wrap_id (x := -(a : Int)) (by omega) (by omega)]
    cases ng with
    | true => exact Ev.pos rfl (Ev.bind (l01Dec_ev _ (by omega) (by omega)) (Ev.ret (by rw [beq_str]; rfl)))
    | false => exact Ev.neg (by simp) (Ev.bind (l01Dec_ev _ (by omega) (by omega)) (Ev.ret (by rw [beq_str]; rfl)))
  | cons c r ih =>
    intro i a h hi ha
    obtain ⟨h1, h2, h3, h4, h5⟩ := drop_cons h
    simp only [List.length_cons] at hi
    have hb := pow12 (by omega) ha
    by_cases hg : digit c = true
    · have hc : 48 ≤ c ∧ c ≤ 57 := by simpa [digit] using hg
      obtain ⟨p, e1, e2, e3⟩ := ih (i + 1) (a * 10 + (c - 48).toNat) h3 (by omega) (by rw [Nat.pow_succ]; omega)
      refine ⟨p, Ev.step (fun k => F30.l0.eq_2 ..) (Ev.pos h1 (Ev.pos (by omega) ?_)), fun g => e2 ?_, fun g => e3 ?_⟩
      · rw [h2, wi_ (by omega), wrap_id (x := 10 * (a : Int)) (by omega) (by omega), wrap_id (by omega) (by omega), show 10 * (a : Int) + (c - 48) % 256 = ((a * 10 + (c - 48).toNat : Nat) : Int) by omega]
        exact Ev.neg (by omega) (Ev.neg (by omega) e1)
      · rw [List.all_cons, hg, Bool.true_and] at g; exact g
      · rw [List.all_cons, hg, Bool.true_and] at g; exact g
    · have hc : ¬ (48 ≤ c ∧ c ≤ 57) := by simpa [digit] using hg
      refine ⟨(0, false), Ev.step (fun k => F30.l0.eq_2 ..) (Ev.pos h1 (Ev.pos (by omega) ?_)), fun g => ?_, fun _ => rfl⟩
      · rw [h2]
        by_cases hl : c < 48
        · exact Ev.pos hl (Ev.now _)
        · exact Ev.neg hl (Ev.pos (by omega) (Ev.now _))
      · rw [List.all_cons, Bool.and_eq_true] at g
        exact absurd g.1 hg
theorem l01Num_ev (s : ByteArray) (hs : s.size ≤ 1048576) : ∃ p : Int × Bool, Ev (fun k => F30.f k s) p ∧ (∀ m : Nat, m < 1000000000000 → s = decS (m : Int) → p = ((m : Int), true)) ∧ (p.2 = true → s = decS p.1) ∧ -1000000000000 < p.1 ∧ p.1 < 1000000000000 := by
  have body : ∀ (ng : Bool) (d : ByteArray), (∃ c, bytesOf s = c ++ bytesOf d) → ∃ p : Int × Bool, Ev (fun k => F30.j1 k s ng d) p ∧ (ng = false → d = s → ∀ m : Nat, m < 1000000000000 → s = decS (m : Int) → p = ((m : Int), true)) ∧ (p.2 = true → s = decS p.1) ∧ -1000000000000 < p.1 ∧ p.1 < 1000000000000 := by
    intro ng d _
    have hln := length_bytesOf d
    by_cases h0 : (d.size : Int) < 1
    · refine ⟨(0, false), Ev.step (fun k => F30.j1.eq_2 ..) (Ev.pos h0 (Ev.step (fun k => F30.j2.eq_2 ..) (Ev.pos rfl (Ev.now _)))), fun _ hd m hm e => ?_, fun h => (by cases h), by simp, by simp⟩
      exfalso
      have := (dgt_all m).2.1
      rw [← bytes_decS, ← e, ← hd] at this
      exact this (List.length_eq_zero_iff.1 (by omega))
    · by_cases h1 : (d.size : Int) > 12
      · refine ⟨(0, false), Ev.step (fun k => F30.j1.eq_2 ..) (Ev.neg h0 (Ev.step (fun k => F30.j2.eq_2 ..) (Ev.pos (by simpa using h1) (Ev.now _)))), fun _ hd m hm e => ?_, fun h => (by cases h), by simp, by simp⟩
        exfalso
        have := dgt_len 12 m (by omega) hm
        rw [← bytes_decS, ← e, ← hd] at this
        omega
      · obtain ⟨p, e1, e2, e3⟩ := num_loop s d ng (bytesOf d) 0 0 rfl (by omega) (by simp)
        refine ⟨p, Ev.step (fun k => F30.j1.eq_2 ..) (Ev.neg h0 (Ev.step (fun k => F30.j2.eq_2 ..) (Ev.neg (by simpa using h1) e1))), fun hn hd m hm e => ?_, fun hp => ?_, ?_⟩
        · obtain ⟨g1, _, g3, _⟩ := dgt_all m
          rw [← bytes_decS, ← e, ← hd] at g1 g3
          rw [e2 g1, hn]
          simp only [Bool.false_eq_true, if_false, g3]
          rw [decide_eq_true e.symm]
        · by_cases g : (bytesOf d).all digit = true
          · rw [e2 g] at hp ⊢
            exact (of_decide_eq_true hp).symm
          · rw [e3 g] at hp; cases hp
        · by_cases g : (bytesOf d).all digit = true
          · rw [e2 g]
            have := pow12 (i := (bytesOf d).length) (by omega) (by have := dvl_lt (bytesOf d) 0 0 g (by simp); rwa [Nat.zero_add] at this)
            cases ng <;> simp <;> omega
          · rw [e3 g]; simp
  unfold F30.f
  cases hb : bytesOf s with
  | nil =>
    have hln := length_bytesOf s
    rw [hb] at hln
    simp only [List.length_nil] at hln
    obtain ⟨p, e1, e2, e3⟩ := body false s ⟨[], rfl⟩
    exact ⟨p, Ev.neg (by omega) (Ev.step (fun k => F30.j0.eq_2 ..) (Ev.neg (by simp) e1)), e2 rfl rfl, e3⟩
  | cons c r =>
    obtain ⟨g1, g2, g3⟩ := bt_head hb
    by_cases hc : c = 45
    · obtain ⟨p, e1, e2, e3⟩ := body true (s.extract 1 s.size) ⟨[c], by rw [g3, hb]; rfl⟩
      refine ⟨p, Ev.pos g1 (Ev.pos g1 ?_), fun m hm e => ?_, e3⟩
      · rw [g2]
        rw [show (c == 45) = true by simp [hc]]
        exact Ev.step (fun k => F30.j0.eq_2 ..) (Ev.pos rfl (Ev.pos (by omega) e1))
      · exfalso
        have := (dgt_all m).1
        rw [← bytes_decS, ← e, hb, hc] at this
        simp [digit] at this
    · obtain ⟨p, e1, e2, e3⟩ := body false s ⟨[], rfl⟩
      refine ⟨p, Ev.pos g1 (Ev.pos g1 ?_), e2 rfl rfl, e3⟩
      rw [g2, show (c == 45) = false by simp [hc]]
      exact Ev.step (fun k => F30.j0.eq_2 ..) (Ev.neg (by simp) e1)

/-! a plain segment -/
def plainS (tag : ByteArray) (ps : List ByteArray) : S52 := ⟨tag, ps.map fun p => (⟨[p]⟩ : S55)⟩
theorem l03Seg_loop (tag : ByteArray) (ps : List ByteArray) : ∀ (r : List ByteArray) (j : Nat) (acc : List S55), ps.drop j = r → acc.length + r.length ≤ 1000 → j + r.length ≤ 1000 → Ev (fun k => F49.l0 k ps (j : Int) tag acc) (tag, acc ++ r.map fun p => (⟨[p]⟩ : S55)) := by
  intro r
  induction r with
  | nil =>
    intro j acc h _ _
    have h0 := ldrop_nil h
    exact Ev.step (fun k => F49.l0.eq_2 ..) (Ev.neg (by omega) (Ev.ret (by simp)))
  | cons c r ih =>
    intro j acc h hb hj
    obtain ⟨h1, h2, h3⟩ := ldrop_cons ByteArray.empty h
    have hr : rdOf ByteArray.empty ps (j : Int) = c := h2
    simp only [List.length_cons] at hb hj
    refine Ev.step (fun k => F49.l0.eq_2 ..) (Ev.pos h1 (Ev.pos (by omega) (Ev.pos (by omega) ?_)))
    rw [hr, wi_ (by omega)]
    exact (ih (j + 1) _ h3 (by rw [List.length_append]; simp only [List.length_cons, List.length_nil]; omega) (by omega)).to (by simp)
theorem l03Seg_ev (tag : ByteArray) (ps : List ByteArray) (h : ps.length ≤ 1000) : Ev (fun k => F49.f k tag ps) ((plainS tag ps).f0, (plainS tag ps).f1) :=
  (l03Seg_loop tag ps ps 0 [] rfl (by simpa using h) (by omega)).to rfl

/-! equal segments; parts -/
theorem same_inner (a b : S52) (j : Nat) (hj : j < a.f1.length) (hl : a.f1.length = b.f1.length) (hp : (a.f1.getD j z55).f0.length = (b.f1.getD j z55).f0.length) (hb : a.f1.length ≤ 1048576) (hpb : (a.f1.getD j z55).f0.length ≤ 1048576) {R : Bool} (hR : (a.f1.getD j z55).f0 = (b.f1.getD j z55).f0 → Ev (fun k => F34.l0 k ((j + 1 : Nat) : Int) a.f0 a.f1 b.f0 b.f1) R) (hF : (a.f1.getD j z55).f0 ≠ (b.f1.getD j z55).f0 → R = false) : ∀ (r r' : List ByteArray) (i : Nat), (a.f1.getD j z55).f0.drop i = r → (b.f1.getD j z55).f0.drop i = r' → (∀ m, m < i → (a.f1.getD j z55).f0.getD m ByteArray.empty = (b.f1.getD j z55).f0.getD m ByteArray.empty) → Ev (fun k => F34.l1 k (j : Int) (i : Int) a.f0 a.f1 b.f0 b.f1) R := by
  have ra : rd_T55 a.f1 (j : Int) = a.f1.getD j z55 := by unfold rd_T55; rw [Int.toNat_natCast]
  have rb : rd_T55 b.f1 (j : Int) = b.f1.getD j z55 := by unfold rd_T55; rw [Int.toNat_natCast]
  generalize a.f1.getD j z55 = p at *
  generalize b.f1.getD j z55 = q at *
  intro r
  induction r with
  | nil =>
    intro r' i h h' hm
    have h0 := ldrop_nil h
    refine Ev.step (fun k => F34.l1.eq_2 ..) (Ev.pos (by omega) (Ev.pos (by omega) ?_))
    rw [ra]
    refine Ev.neg (by omega) ?_
    rw [wi_ (by omega)]
    refine hR (List.ext_getElem hp fun m m1 m2 => ?_)
    have := hm m (by omega)
    rw [List.getD_eq_getElem?_getD, List.getD_eq_getElem?_getD, List.getElem?_eq_getElem m1, List.getElem?_eq_getElem m2] at this
    exact this
  | cons c r ih =>
    intro r' i h h' hm
    obtain ⟨h1, h2, h3⟩ := ldrop_cons ByteArray.empty h
    have e1 : rdOf ByteArray.empty p.f0 (i : Int) = c := h2
    cases r' with
    | nil => have := ldrop_nil h'; omega
    | cons c' r' =>
      obtain ⟨g1, g2, g3⟩ := ldrop_cons ByteArray.empty h'
      have e2 : rdOf ByteArray.empty q.f0 (i : Int) = c' := g2
      refine Ev.step (fun k => F34.l1.eq_2 ..) (Ev.pos (by omega) (Ev.pos (by omega) ?_))
      rw [ra]
      refine Ev.pos h1 (Ev.pos (by omega) (Ev.pos (by omega) ?_))
      rw [rb]
      refine Ev.pos g1 ?_
      rw [e1, e2]
      rw [Int.toNat_natCast] at h2 g2
      by_cases hc : c = c'
      · refine Ev.pos (by rw [hc]) ?_
        rw [wi_ (by omega)]
        refine ih r' (i + 1) h3 g3 fun m hm' => ?_
        rcases Nat.lt_or_ge m i with g | g
        · exact hm m g
        · have : m = i := by omega
          rw [this, h2, g2, hc]
      · refine Ev.neg (fun e => hc (toList_inj.1 e)) (Ev.ret (hF fun e => hc ?_).symm)
        rw [← h2, ← g2, e]
theorem sameSeg_ev (a b : S52) (hb : a.f1.length ≤ 1048576) (hpb : ∀ e ∈ a.f1, e.f0.length ≤ 1048576) : ∃ R : Bool, Ev (fun k => F34.f k a.f0 a.f1 b.f0 b.f1) R ∧ (R = true ↔ a = b) := by
  unfold F34.f
  by_cases ht : a.f0 = b.f0
  · by_cases hl : a.f1.length = b.f1.length
    · have loop : ∀ (r : List S55) (j : Nat), a.f1.drop j = r → ∃ R : Bool, Ev (fun k => F34.l0 k (j : Int) a.f0 a.f1 b.f0 b.f1) R ∧ (R = true ↔ ∀ m, j ≤ m → m < a.f1.length → a.f1.getD m z55 = b.f1.getD m z55) := by
        intro r
        induction r with
        | nil =>
          intro j h
          have h0 := ldrop_nil h
          exact ⟨true, Ev.step (fun k => F34.l0.eq_2 ..) (Ev.neg (by omega) (Ev.now _)), iff_of_true rfl fun m m1 m2 => by omega⟩
        | cons c r ih =>
          intro j h
          obtain ⟨h1, h2, h3⟩ := ldrop_cons z55 h
          have hj : j < a.f1.length := by omega
          have ra : rd_T55 a.f1 (j : Int) = a.f1.getD j z55 := by unfold rd_T55; rw [Int.toNat_natCast]
          have rb : rd_T55 b.f1 (j : Int) = b.f1.getD j z55 := by unfold rd_T55; rw [Int.toNat_natCast]
          obtain ⟨R, e1, e2⟩ := ih (j + 1) h3
          by_cases hp : (a.f1.getD j z55).f0.length = (b.f1.getD j z55).f0.length
          · by_cases hq : (a.f1.getD j z55).f0 = (b.f1.getD j z55).f0
            · refine ⟨R, Ev.step (fun k => F34.l0.eq_2 ..) (Ev.pos h1 (Ev.pos (by omega) (Ev.pos (by omega) ?_))), ?_⟩
              · rw [ra, rb]
                exact Ev.pos (by omega) (same_inner a b j hj hl hp hb (hpb _ (getD_mem _ hj)) (fun _ => e1) (fun g => absurd hq g) _ _ 0 rfl rfl (fun m hm => by omega))
              · rw [e2]
                refine ⟨fun g m m1 m2 => ?_, fun g m m1 m2 => g m (by omega) m2⟩
                rcases Nat.lt_or_ge j m with k | k
                · exact g m (by omega) m2
                · have : m = j := by omega
                  rw [this]
                  generalize a.f1.getD j z55 = p at hq
                  generalize b.f1.getD j z55 = q at hq
                  cases p; cases q
                  exact congrArg _ hq
            · refine ⟨false, Ev.step (fun k => F34.l0.eq_2 ..) (Ev.pos h1 (Ev.pos (by omega) (Ev.pos (by omega) ?_))), ?_⟩
              · rw [ra, rb]
                exact Ev.pos (by omega) (same_inner a b j hj hl hp hb (hpb _ (getD_mem _ hj)) (fun g => absurd g hq) (fun _ => rfl) _ _ 0 rfl rfl (fun m hm => by omega))
              · exact iff_of_false (by simp) fun g => hq (by rw [g j (Nat.le_refl _) hj])
          · refine ⟨false, Ev.step (fun k => F34.l0.eq_2 ..) (Ev.pos h1 (Ev.pos (by omega) (Ev.pos (by omega) ?_))), iff_of_false (by simp) fun g => hp (by rw [g j (Nat.le_refl _) hj])⟩
            rw [ra, rb]
            exact Ev.neg (by omega) (Ev.now _)
      obtain ⟨R, e1, e2⟩ := loop a.f1 0 rfl
      refine ⟨R, Ev.pos (by rw [ht]) (Ev.step (fun k => F34.j0.eq_2 ..) (Ev.neg (by simp [hl]) e1)), ?_⟩
      rw [e2]
      refine ⟨fun g => ?_, fun g => by rw [g]; exact fun _ _ _ => rfl⟩
      have : a.f1 = b.f1 := List.ext_getElem hl fun m m1 m2 => by
        have := g m (by omega) m1
        rw [List.getD_eq_getElem?_getD, List.getD_eq_getElem?_getD, List.getElem?_eq_getElem m1, List.getElem?_eq_getElem m2] at this
        exact this
      cases a; cases b
      simp only at ht this
      rw [ht, this]
    · exact ⟨false, Ev.pos (by rw [ht]) (Ev.step (fun k => F34.j0.eq_2 ..) (Ev.pos (by simp; omega) (Ev.now _))), iff_of_false (by simp) fun e => hl (by rw [e])⟩
  · exact ⟨false, Ev.neg (fun e => ht (toList_inj.1 e)) (Ev.step (fun k => F34.j0.eq_2 ..) (Ev.pos rfl (Ev.now _))), iff_of_false (by simp) fun e => ht (by rw [e])⟩
theorem parts_loop (T : ByteArray) (E : List S55) (tag : ByteArray) (many : Int) (hE : E.length ≤ 1048576) : ∀ (r : List S55) (j : Nat) (acc : List ByteArray), E.drop j = r → acc.length = j → ∃ R : List ByteArray × Bool, Ev (fun k => F60.l0 k tag many acc E (E.length : Int) (j : Int) T E) R ∧ (R.2 = true → ∃ ps, r = ps.map (fun p => (⟨[p]⟩ : S55)) ∧ R.1 = acc ++ ps ∧ T = tag ∧ ((acc ++ ps).length : Int) = many) ∧ (∀ ps, r = ps.map (fun p => (⟨[p]⟩ : S55)) → T = tag → ((acc ++ ps).length : Int) = many → R = (acc ++ ps, true)) := by
  intro r
  induction r with
  | nil =>
    intro j acc h hj
    have h0 := ldrop_nil h
    by_cases ht : T = tag
    · refine ⟨(acc, ((acc.length : Int) == many)), Ev.step (fun k => F60.l0.eq_2 ..) (Ev.neg (by omega) (Ev.pos (by rw [ht]) (Ev.now _))), fun g => ⟨[], rfl, by simp, ht, by simpa using g⟩, fun ps hps _ hm => ?_⟩
      have : ps = [] := by simpa using hps.symm
      subst this
      simp at hm ⊢
      exact hm
    · exact ⟨(acc, false), Ev.step (fun k => F60.l0.eq_2 ..) (Ev.neg (by omega) (Ev.neg (fun e => ht (toList_inj.1 e)) (Ev.now _))), fun g => (by cases g), fun ps _ g => absurd g ht⟩
  | cons c r ih =>
    intro j acc h hj
    obtain ⟨h1, h2, h3⟩ := ldrop_cons z55 h
    have hr : rd_T55 E (j : Int) = c := h2
    by_cases hc : c.f0.length = 1
    · obtain ⟨p, hp⟩ := List.length_eq_one_iff.1 hc
      have hcp : c = ⟨[p]⟩ := by cases c; exact congrArg _ hp
      obtain ⟨R, e1, e2, e3⟩ := ih (j + 1) (acc ++ [p]) h3 (by simp [hj])
      refine ⟨R, Ev.step (fun k => F60.l0.eq_2 ..) (Ev.pos h1 (Ev.pos (by omega) (Ev.pos h1 ?_))), fun g => ?_, fun ps hps ht hm => ?_⟩
      · rw [hr]
        refine Ev.pos (by omega) (Ev.pos (by omega) (Ev.pos (by omega) ?_))
        rw [hp, wi_ (by omega)]
        exact e1
      · obtain ⟨ps, g1, g2, g3, g4⟩ := e2 g
        exact ⟨p :: ps, by rw [g1, hcp]; rfl, by rw [g2]; simp, g3, by simpa using g4⟩
      · cases ps with
        | nil => simp at hps
        | cons q ps =>
          rw [List.map_cons, List.cons.injEq] at hps
          have hq : p = q := by
            have := hps.1
            rw [hcp] at this
            simpa using this
          rw [e3 ps hps.2 ht (by simpa using hm), hq]
          simp
    · refine ⟨([], false), Ev.step (fun k => F60.l0.eq_2 ..) (Ev.pos h1 (Ev.pos (by omega) (Ev.pos h1 ?_))), fun g => (by cases g), fun ps hps ht hm => ?_⟩
      · rw [hr]
        exact Ev.neg (by omega) (Ev.now _)
      · cases ps with
        | nil => simp at hps
        | cons q ps =>
          rw [List.map_cons, List.cons.injEq] at hps
          exact absurd (by rw [hps.1]; rfl) hc
theorem parts_ev (g : S52) (tag : ByteArray) (many : Int) (hE : g.f1.length ≤ 1048576) : ∃ R : List ByteArray × Bool, Ev (fun k => F60.f k g.f0 g.f1 tag many) R ∧ (R.2 = true → g = plainS tag R.1 ∧ (R.1.length : Int) = many) ∧ (∀ ps, g = plainS tag ps → (ps.length : Int) = many → R = (ps, true)) := by
  obtain ⟨R, e1, e2, e3⟩ := parts_loop g.f0 g.f1 tag many hE g.f1 0 [] rfl rfl
  refine ⟨R, e1, fun h => ?_, fun ps h hm => ?_⟩
  · obtain ⟨ps, g1, g2, g3, g4⟩ := e2 h
    rw [List.nil_append] at g2 g4
    rw [g2]
    refine ⟨?_, g4⟩
    cases g
    simp only at g1 g3
    rw [g1, g3]; rfl
  · have := e3 ps (by rw [h]; rfl) (by rw [h]; rfl) (by simpa using hm)
    simpa using this
/-- A part that is asked for. -/
def partOf (g : S52) (i : Nat) : ByteArray := ((g.f1.getD i z55).f0).getD 0 ByteArray.empty
theorem partOf_ev (g : S52) (i : Nat) (h : g.f1.length ≤ 1048576) : F31.f g.f0 g.f1 (i : Int) 0 = some (if i < g.f1.length ∧ 0 < (g.f1.getD i z55).f0.length then partOf g i else ⟨#[]⟩) := by
  have ra : rd_T55 g.f1 (i : Int) = g.f1.getD i z55 := by unfold rd_T55; rw [Int.toNat_natCast]
  unfold F31.f
  rw [if_neg (by omega)]
  by_cases h1 : i < g.f1.length
  · rw [if_neg (by omega), if_neg (by omega), if_pos (by omega), if_pos (by omega), ra]
    by_cases h2 : 0 < (g.f1.getD i z55).f0.length
    · rw [if_neg (by omega), if_pos (by omega), if_pos (by omega), if_pos ⟨h1, h2⟩]
      rfl
    · rw [if_pos (by omega), if_neg (fun e => h2 e.2)]
  · rw [if_pos (by omega), if_neg (fun e => h1 e.1)]

def bEl (p : List ByteArray) : Prop := p.length ≤ 1048576 ∧ ∀ s ∈ p, s.size ≤ 1048576
def bSg (x : S52) : Prop := x.f1.length ≤ 1048576 ∧ ∀ e ∈ x.f1, bEl e.f0
theorem bSg_of {x : S63} (h : bSegment x) : bSg (cSegment x) := by
  refine ⟨by show (x.f1.map cElement).length ≤ _; rw [List.length_map]; exact h.2.1, fun y hy => ?_⟩
  obtain ⟨e, he, rfl⟩ := List.mem_map.1 (show y ∈ x.f1.map cElement from hy)
  exact h.2.2 e he
theorem eSg_of {x : S52} (h : bSg x) : eSegment x := ⟨by have := h.1; omega, fun e he => by have := (h.2 e he).1; show (e.f0.length : Int) ≤ _; omega⟩

/-- A list is marked, place by place, and then held. -/
theorem mark_held {α : Type} (z : α) (M : Nat → List α → Int → Int → Option (Int × List α)) (H : Nat → List α → Int → Int → Option Int) (E : Int → α → α) (st : Int) (hst : 0 ≤ st)
    (hM : ∀ (L : List α) (i : Nat) (x : Int) (r : Int × List α), (L.length : Int) ≤ 4611686018427387904 → i < L.length → 0 ≤ x → x + st ≤ 4611686018427387904 → Ev (fun k => M k (L.set i (E x (L.getD i z))) (x + st) ((i + 1 : Nat) : Int)) r → Ev (fun k => M k L x (i : Int)) r)
    (hM0 : ∀ (L : List α) (i : Nat) (x : Int), L.length ≤ i → Ev (fun k => M k L x (i : Int)) (x, L))
    (hH : ∀ (F : List α) (i : Nat) (x : Int) (y : α) (r : Int), (F.length : Int) ≤ 4611686018427387904 → i < F.length → 0 ≤ x → x + st ≤ 4611686018427387904 → F.getD i z = E x y → Ev (fun k => H k F (x + st) ((i + 1 : Nat) : Int)) r → Ev (fun k => H k F x (i : Int)) r)
    (hH0 : ∀ (F : List α) (i : Nat) (x : Int), F.length ≤ i → Ev (fun k => H k F x (i : Int)) x) :
    ∀ (d : Nat) (L : List α) (i : Nat) (x : Int), (L.length : Int) ≤ 4611686018427387904 → L.length - i = d → 0 ≤ x → x + st * (d : Int) ≤ 4611686018427387904 →
      ∃ F m, Ev (fun k => M k L x (i : Int)) (m, F) ∧ F.length = L.length ∧ (∀ j, j < i → F.getD j z = L.getD j z) ∧ Ev (fun k => H k F x (i : Int)) m ∧ x ≤ m ∧ m = x + st * (d : Int) := by
  intro d
  induction d with
  | zero =>
    intro L i x hl hd h0 h1
    exact ⟨L, x, hM0 L i x (by omega), rfl, fun _ _ => rfl, hH0 L i x (by omega), by omega, by simp⟩
  | succ d ih =>
    intro L i x hl hd h0 h1
    have hm : st * ((d + 1 : Nat) : Int) = st * (d : Int) + st := by
      have : ((d + 1 : Nat) : Int) = (d : Int) + 1 := by omega
      rw [this, Int.mul_add, Int.mul_one]
    rw [hm] at h1
    have hp : 0 ≤ st * (d : Int) := Int.mul_nonneg hst (by omega)
    obtain ⟨F, m, e1, e2, e3, e4, e5, e6⟩ := ih (L.set i (E x (L.getD i z))) (i + 1) (x + st) (by rw [List.length_set]; omega) (by rw [List.length_set]; omega) (by omega) (by omega)
    rw [List.length_set] at e2
    refine ⟨F, m, hM L i x _ hl (by omega) h0 (by omega) e1, e2, fun j hj => ?_, ?_, by omega, by rw [hm]; omega⟩
    · rw [e3 j (by omega)]
      simp only [List.getD_eq_getElem?_getD]
      rw [List.getElem?_set_ne (by omega)]
    · refine hH F i x (L.getD i z) m (by omega) (by omega) h0 (by omega) ?_ e4
      rw [e3 i (by omega)]
      simp only [List.getD_eq_getElem?_getD]
      rw [List.getElem?_set_self (by omega)]
      rfl
theorem mark_held0 {α : Type} (z : α) (M : Nat → List α → Int → Int → Option (Int × List α)) (H : Nat → List α → Int → Int → Option Int) (E : Int → α → α) (st : Int) (hst : 0 ≤ st)
    (hM : ∀ (L : List α) (i : Nat) (x : Int) (r : Int × List α), (L.length : Int) ≤ 4611686018427387904 → i < L.length → 0 ≤ x → x + st ≤ 4611686018427387904 → Ev (fun k => M k (L.set i (E x (L.getD i z))) (x + st) ((i + 1 : Nat) : Int)) r → Ev (fun k => M k L x (i : Int)) r)
    (hM0 : ∀ (L : List α) (i : Nat) (x : Int), L.length ≤ i → Ev (fun k => M k L x (i : Int)) (x, L))
    (hH : ∀ (F : List α) (i : Nat) (x : Int) (y : α) (r : Int), (F.length : Int) ≤ 4611686018427387904 → i < F.length → 0 ≤ x → x + st ≤ 4611686018427387904 → F.getD i z = E x y → Ev (fun k => H k F (x + st) ((i + 1 : Nat) : Int)) r → Ev (fun k => H k F x (i : Int)) r)
    (hH0 : ∀ (F : List α) (i : Nat) (x : Int), F.length ≤ i → Ev (fun k => H k F x (i : Int)) x) (L : List α) (x : Int) (hl : (L.length : Int) ≤ 4611686018427387904) (h0 : 0 ≤ x) (hb : x + st * (L.length : Int) ≤ 4611686018427387904) :
    ∃ F m, Ev (fun k => M k L x 0) (m, F) ∧ Ev (fun k => H k F x 0) m ∧ x ≤ m ∧ m = x + st * (L.length : Int) := by
  obtain ⟨F, m, e1, _, _, e4, e5, e6⟩ := mark_held z M H E st hst hM hM0 hH hH0 L.length L 0 x hl (by omega) h0 hb
  exact ⟨F, m, e1, e4, e5, e6⟩

theorem markText_loop : ∀ (d : Nat) (n : Int) (s : ByteArray), 0 ≤ n → n.toNat ≤ d → (s.size : Int) + n ≤ 4611686018427387904 → ∃ t, Ev (fun k => F40.l0 k n s) t := by
  intro d
  induction d with
  | zero =>
    intro n s h0 hd hs
    refine ⟨_, Ev.step (fun k => F40.l0.eq_2 ..) (Ev.neg (by omega) (Ev.pos (by omega) (Ev.now _)))⟩
  | succ d ih =>
    intro n s h0 hd hs
    by_cases h : n > 0
    · have e : Int.tdiv n 10 = n / 10 := Int.tdiv_eq_ediv_of_nonneg h0
      have hw : wrap64 (Int.tdiv n 10) = n / 10 := by rw [e, wrap_id (by omega) (by omega)]
      obtain ⟨t, ht⟩ := ih (n / 10) (strOfNums [(wrap64 (48 + Int.tmod n 10)) % 256] ++ s) (by omega) (by omega) (by rw [size_append, size_strOf]; simp; omega)
      refine ⟨t, Ev.step (fun k => F40.l0.eq_2 ..) (Ev.pos h (Ev.bindc rfl (Ev.pos (by rw [size_strOf]; simp; omega) ?_)))⟩
      rw [hw]
      exact ht
    · exact ⟨_, Ev.step (fun k => F40.l0.eq_2 ..) (Ev.neg h (Ev.pos (by omega) (Ev.now _)))⟩
theorem markText_some (n : Int) (h1 : n ≤ 4611686018427387904) : ∃ t, Ev (fun k => F40.f k n) t := by
  by_cases h : n ≤ 0
  · exact ⟨_, Ev.pos h (Ev.now _)⟩
  · obtain ⟨t, ht⟩ := markText_loop n.toNat n ⟨#[]⟩ (by omega) (by omega) (by have : (⟨#[]⟩ : ByteArray).size = 0 := rfl; rw [this]; omega)
    exact ⟨t, Ev.neg h ht⟩
/-- The text of a mark. -/
noncomputable def mt (n : Int) : ByteArray := @Classical.epsilon ByteArray ⟨⟨#[]⟩⟩ (fun t => Ev (fun k => F40.f k n) t)
theorem mt_ev (n : Int) (h1 : n ≤ 4611686018427387904) : Ev (fun k => F40.f k n) (mt n) := by
  exact Classical.epsilon_spec (p := fun t => Ev (fun k => F40.f k n) t) (markText_some n h1)

theorem markStringS_held (L : List ByteArray) (x : Int) (h0 : 0 ≤ x) (h1 : x ≤ 2305843009213693952) (hl : (L.length : Int) ≤ 1152921504606846976) : ∃ F m, Ev (fun k => F64.f k L x) (m, F) ∧ Ev (fun k => F148.f k F x) m ∧ x ≤ m ∧ m = x + 1 * (L.length : Int) := by
  refine mark_held0 ByteArray.empty F64.l0 F148.l0 (fun x y => mt x) 1 (by omega) (fun L i x r hl' hi h0 h1 h => ?_) (fun L i x hi => ?_) (fun F i x y r hl' hi h0 h1 he h => ?_) (fun F i x hi => ?_) L x (by omega) (by omega) (by omega)
  · have w1 : wrap64 (x + 1) = x + 1 := wrap_id (by omega) (by omega)
    have wi : wrap64 ((i : Int) + 1) = ((i + 1 : Nat) : Int) := by rw [wrap_id (by omega) (by omega)]; omega
    refine Ev.step (fun k => F64.l0.eq_2 ..) (Ev.pos (by omega) (Ev.bind (mt_ev x (by omega)) (Ev.pos (by omega) ?_)))
    rw [w1, wi, Int.toNat_natCast]
    exact h
  · exact Ev.step (fun k => F64.l0.eq_2 ..) (Ev.neg (by omega) (Ev.now _))
  · have w1 : wrap64 (x + 1) = x + 1 := wrap_id (by omega) (by omega)
    have wi : wrap64 ((i : Int) + 1) = ((i + 1 : Nat) : Int) := by rw [wrap_id (by omega) (by omega)]; omega
    have hr : rdOf ByteArray.empty F (i : Int) = mt x := by unfold rdOf; rw [Int.toNat_natCast, he]
    refine Ev.step (fun k => F148.l0.eq_2 ..) (Ev.pos (by omega) (Ev.pos (by omega) (Ev.bind (mt_ev x (by omega)) ?_)))
    rw [hr, w1, wi]
    exact Ev.pos rfl h
  · exact Ev.step (fun k => F148.l0.eq_2 ..) (Ev.neg (by omega) (Ev.now _))

/-! how many places a law's argument has: what is measured is counted -/
theorem sz_cnt {α : Type} (z : α) (c : α → Nat) (Z : Nat → List α → Int → Int → Option Int) (L : List α)
    (hs : ∀ (i : Nat) (x : Int), i < L.length → 0 ≤ x → x ≤ 1048576 → Ev (fun k => Z k L x (i : Int)) (-1) ∨ ∃ x', 0 ≤ x' ∧ x' + (c (L.getD i z) : Int) ≤ x ∧ ∀ r, Ev (fun k => Z k L x' ((i + 1 : Nat) : Int)) r → Ev (fun k => Z k L x (i : Int)) r)
    (h0 : ∀ (i : Nat) (x : Int), L.length ≤ i → Ev (fun k => Z k L x (i : Int)) x) :
    ∀ (r : List α) (i : Nat) (x : Int), L.drop i = r → 0 ≤ x → x ≤ 1048576 → ∃ w, Ev (fun k => Z k L x (i : Int)) w ∧ (w = -1 ∨ (0 ≤ w ∧ w + ((r.map c).sum : Nat) ≤ x)) := by
  intro r
  induction r with
  | nil =>
    intro i x h h1 h2
    have := ldrop_nil h
    exact ⟨x, h0 i x (by omega), .inr ⟨h1, by simp⟩⟩
  | cons a r ih =>
    intro i x h h1 h2
    obtain ⟨g1, g2, g3⟩ := ldrop_cons z h
    have g2' : L.getD i z = a := by rw [Int.toNat_natCast] at g2; exact g2
    rcases hs i x (by omega) h1 h2 with e | ⟨x', e1, e2, e3⟩
    · exact ⟨-1, e, .inl rfl⟩
    · rw [g2'] at e2
      obtain ⟨w, u1, u2⟩ := ih (i + 1) x' g3 e1 (by omega)
      refine ⟨w, e3 w u1, ?_⟩
      rcases u2 with u2 | ⟨u2, u3⟩
      · exact .inl u2
      · refine .inr ⟨u2, ?_⟩
        rw [List.map_cons, List.sum_cons]
        omega
theorem sum_one {α : Type} (f : α → Nat) (l : List α) : (l.map fun a => 1 + f a).sum = l.length + (l.map f).sum := by
  induction l with
  | nil => rfl
  | cons a l ih => simp only [List.map_cons, List.sum_cons, List.length_cons, ih]; omega
def kE (L : List S55) : Nat := (L.map fun e => e.f0.length).sum
def kG (L : List S52) : Nat := (L.map fun g => 1 + kE g.f1).sum
theorem szStringS_c (l : List ByteArray) (x : Int) (h0 : 0 ≤ x) (h1 : x ≤ 1048576) (hl : l.length ≤ maxLen) (hs : ∀ s ∈ l, s.size ≤ maxLen) : ∃ w, Ev (fun k => F115.f k l x) w ∧ (w = -1 ∨ (0 ≤ w ∧ w + (l.length : Int) ≤ x)) := by
  simp only [maxLen] at hl hs
  unfold F115.f
  have hw : wrap64 (x - (l.length : Int)) = x - (l.length : Int) := wrap_id (by omega) (by omega)
  rw [hw]
  by_cases hn : x - (l.length : Int) < 0
  · exact ⟨-1, Ev.pos hn (Ev.now _), .inl rfl⟩
  · obtain ⟨w, e1, e2⟩ := sz_cnt ByteArray.empty (fun _ => 0) F115.l0 l (fun i y hi g0 g1 => by
      have hsz : (l.getD i ByteArray.empty).size ≤ 9223372036854775807 := hs _ (getD_mem _ hi)
      have hr : rdOf ByteArray.empty l (i : Int) = l.getD i ByteArray.empty := by unfold rdOf; rw [Int.toNat_natCast]
      have hw2 : wrap64 (y - ((l.getD i ByteArray.empty).size : Int)) = y - ((l.getD i ByteArray.empty).size : Int) := wrap_id (by omega) (by omega)
      by_cases hz : y - ((l.getD i ByteArray.empty).size : Int) < 0
      · refine .inl (Ev.step (fun k => F115.l0.eq_2 ..) (Ev.pos (by omega) (Ev.pos (by omega) ?_)))
        rw [hr, hw2]
        exact Ev.pos hz (Ev.now _)
      · refine .inr ⟨y - ((l.getD i ByteArray.empty).size : Int), by omega, by first | omega | (dsimp only; omega), fun r hr' => Ev.step (fun k => F115.l0.eq_2 ..) (Ev.pos (by omega) (Ev.pos (by omega) ?_))⟩
        rw [hr, hw2, wi_ (by omega)]
        exact Ev.neg hz hr') (fun i y hi => Ev.step (fun k => F115.l0.eq_2 ..) (Ev.neg (by omega) (Ev.now _))) l 0 (x - (l.length : Int)) rfl (by omega) (by omega)
    refine ⟨w, Ev.neg hn e1, ?_⟩
    rcases e2 with e2 | ⟨e2, e3⟩
    · exact .inl e2
    · exact .inr ⟨e2, by omega⟩
theorem szElementS_c (l : List S129) (x : Int) (h0 : 0 ≤ x) (h1 : x ≤ 1048576) (hl : l.length ≤ maxLen) (hs : ∀ y ∈ l, q129 y) : ∃ w, Ev (fun k => F58.f k l x) w ∧ (w = -1 ∨ (0 ≤ w ∧ w + ((l.length + kE (l.map cElement) : Nat) : Int) ≤ x)) := by
  simp only [maxLen] at hl
  unfold F58.f
  have hw : wrap64 (x - (l.length : Int)) = x - (l.length : Int) := wrap_id (by omega) (by omega)
  rw [hw]
  by_cases hn : x - (l.length : Int) < 0
  · exact ⟨-1, Ev.pos hn (Ev.now _), .inl rfl⟩
  · obtain ⟨w, e1, e2⟩ := sz_cnt z129 (fun e => e.f0.length) F58.l0 l (fun i y hi g0 g1 => by
      have hr : rd_T129 l (i : Int) = l.getD i z129 := by unfold rd_T129; rw [Int.toNat_natCast]
      have hq := hs _ (getD_mem z129 hi)
      obtain ⟨w, e1, e2⟩ := szStringS_c (l.getD i z129).f0 y g0 g1 hq.1 hq.2
      rcases e2 with e2 | ⟨e2, e3⟩
      · refine .inl (Ev.step (fun k => F58.l0.eq_2 ..) (Ev.pos (by omega) (Ev.pos (by omega) ?_)))
        rw [hr]
        exact Ev.bind (Ev.bind e1 (Ev.pos (by omega) (Ev.now _))) (Ev.pos (by omega) (Ev.now _))
      · refine .inr ⟨w, by omega, by omega, fun r hr' => Ev.step (fun k => F58.l0.eq_2 ..) (Ev.pos (by omega) (Ev.pos (by omega) ?_))⟩
        rw [hr, wi_ (by omega)]
        exact Ev.bind (Ev.bind e1 (Ev.neg (by omega) (Ev.now _))) (Ev.neg (by omega) hr')) (fun i y hi => Ev.step (fun k => F58.l0.eq_2 ..) (Ev.neg (by omega) (Ev.now _))) l 0 (x - (l.length : Int)) rfl (by omega) (by omega)
    refine ⟨w, Ev.neg hn e1, ?_⟩
    rcases e2 with e2 | ⟨e2, e3⟩
    · exact .inl e2
    · refine .inr ⟨e2, ?_⟩
      have : kE (l.map cElement) = (l.map fun e => e.f0.length).sum := by unfold kE; rw [List.map_map]; rfl
      omega
theorem szSegmentS_c (l : List S63) (x : Int) (h0 : 0 ≤ x) (h1 : x ≤ 1048576) (hl : l.length ≤ maxLen) (hs : ∀ y ∈ l, q63 y) : ∃ w, Ev (fun k => F11.f k l x) w ∧ (w = -1 ∨ (0 ≤ w ∧ w + ((kG (l.map cSegment) : Nat) : Int) ≤ x)) := by
  simp only [maxLen] at hl
  unfold F11.f
  have hw : wrap64 (x - (l.length : Int)) = x - (l.length : Int) := wrap_id (by omega) (by omega)
  rw [hw]
  by_cases hn : x - (l.length : Int) < 0
  · exact ⟨-1, Ev.pos hn (Ev.now _), .inl rfl⟩
  · obtain ⟨w, e1, e2⟩ := sz_cnt z63 (fun g => kE (g.f1.map cElement)) F11.l0 l (fun i y hi g0 g1 => by
      have hr : rd_T63 l (i : Int) = l.getD i z63 := by unfold rd_T63; rw [Int.toNat_natCast]
      have hq := hs _ (getD_mem z63 hi)
      have hm : (l.getD i z63).f0.size ≤ 9223372036854775807 := hq.1
      have e0 : wrap64 (y - ((l.getD i z63).f0.size : Int)) = y - ((l.getD i z63).f0.size : Int) := wrap_id (by omega) (by omega)
      by_cases n0 : y - ((l.getD i z63).f0.size : Int) < 0
      · refine .inl (Ev.step (fun k => F11.l0.eq_2 ..) (Ev.pos (by omega) (Ev.pos (by omega) ?_)))
        rw [hr]
        unfold F29.f
        rw [e0]
        exact Ev.bind (Ev.pos n0 (Ev.now _)) (Ev.pos (by omega) (Ev.now _))
      · obtain ⟨w, e1, e2⟩ := szElementS_c (l.getD i z63).f1 (y - ((l.getD i z63).f0.size : Int)) (by omega) (by omega) hq.2.1 hq.2.2
        rcases e2 with e2 | ⟨e2, e3⟩
        · refine .inl (Ev.step (fun k => F11.l0.eq_2 ..) (Ev.pos (by omega) (Ev.pos (by omega) ?_)))
          rw [hr]
          unfold F29.f
          rw [e0]
          exact Ev.bind (Ev.neg n0 (Ev.bind e1 (Ev.pos (by omega) (Ev.now _)))) (Ev.pos (by omega) (Ev.now _))
        · refine .inr ⟨w, by omega, by omega, fun r hr' => Ev.step (fun k => F11.l0.eq_2 ..) (Ev.pos (by omega) (Ev.pos (by omega) ?_))⟩
          rw [hr, wi_ (by omega)]
          unfold F29.f
          rw [e0]
          exact Ev.bind (Ev.neg n0 (Ev.bind e1 (Ev.neg (by omega) (Ev.now _)))) (Ev.neg (by omega) hr')) (fun i y hi => Ev.step (fun k => F11.l0.eq_2 ..) (Ev.neg (by omega) (Ev.now _))) l 0 (x - (l.length : Int)) rfl (by omega) (by omega)
    refine ⟨w, Ev.neg hn e1, ?_⟩
    rcases e2 with e2 | ⟨e2, e3⟩
    · exact .inl e2
    · refine .inr ⟨e2, ?_⟩
      have : kG (l.map cSegment) = l.length + (l.map fun g => kE (g.f1.map cElement)).sum := by unfold kG; rw [List.map_map, ← sum_one]; rfl
      omega
/-! marks on whatever list: they end, and the count does not pass the places -/
theorem mark_any {α : Type} (z : α) (c : α → Nat) (P : α → Prop) (M : Nat → List α → Int → Int → Option (Int × List α))
    (hM : ∀ (L : List α) (i : Nat) (x : Int), L.length ≤ 1048576 → i < L.length → 0 ≤ x → x + (c (L.getD i z) : Int) ≤ 1000000000 → P (L.getD i z) → ∃ y e, x ≤ y ∧ y ≤ x + (c (L.getD i z) : Int) ∧ ∀ r, Ev (fun k => M k (L.set i e) y ((i + 1 : Nat) : Int)) r → Ev (fun k => M k L x (i : Int)) r)
    (hM0 : ∀ (L : List α) (i : Nat) (x : Int), L.length ≤ i → Ev (fun k => M k L x (i : Int)) (x, L)) :
    ∀ (r L : List α) (i : Nat) (x : Int), L.length ≤ 1048576 → L.drop i = r → (∀ a ∈ r, P a) → 0 ≤ x → x + ((r.map c).sum : Nat) ≤ 1000000000 → ∃ F m, Ev (fun k => M k L x (i : Int)) (m, F) ∧ x ≤ m ∧ m ≤ x + ((r.map c).sum : Nat) := by
  intro r
  induction r with
  | nil =>
    intro L i x hl h hP h0 hb
    have := ldrop_nil h
    exact ⟨L, x, hM0 L i x (by omega), by omega, by simp⟩
  | cons a r ih =>
    intro L i x hl h hP h0 hb
    obtain ⟨g1, g2, g3⟩ := ldrop_cons z h
    have g2' : L.getD i z = a := by rw [Int.toNat_natCast] at g2; exact g2
    rw [List.map_cons, List.sum_cons] at hb ⊢
    obtain ⟨y, e, y1, y2, y3⟩ := hM L i x hl (by omega) h0 (by rw [g2']; omega) (by rw [g2']; exact hP a List.mem_cons_self)
    rw [g2'] at y2
    obtain ⟨F, m, u1, u2, u3⟩ := ih (L.set i e) (i + 1) y (by rw [List.length_set]; exact hl) (by rw [List.drop_set_of_lt (by omega)]; exact g3) (fun b hb' => hP b (List.mem_cons_of_mem _ hb')) (by omega) (by omega)
    exact ⟨F, m, y3 _ u1, by omega, by omega⟩
theorem markE_any (L : List S55) (x : Int) (hl : L.length ≤ 1048576) (h0 : 0 ≤ x) (hb : x + (kE L : Int) ≤ 1000000000) : ∃ F m, Ev (fun k => F41.f k L x) (m, F) ∧ x ≤ m ∧ m ≤ x + (kE L : Int) := by
  refine mark_any z55 (fun e => e.f0.length) (fun _ => True) F41.l0 (fun L i x hl hi h0 hb _ => ?_) (fun L i x hi => Ev.step (fun k => F41.l0.eq_2 ..) (Ev.neg (by omega) (Ev.now _))) L L 0 x hl rfl (fun _ _ => trivial) h0 hb
  have hr : rd_T55 L (i : Int) = L.getD i z55 := by unfold rd_T55; rw [Int.toNat_natCast]
  obtain ⟨G, y, g1, g2, g3, g4⟩ := markStringS_held (L.getD i z55).f0 x (by omega) (by omega) (by omega)
  refine ⟨y, ⟨G⟩, by omega, by omega, fun r hr' => Ev.step (fun k => F41.l0.eq_2 ..) (Ev.pos (by omega) (Ev.pos (by omega) ?_))⟩
  rw [hr, wi_ (by omega), Int.toNat_natCast]
  exact Ev.bind g1 hr'
def kGp (g : S52) : Prop := g.f1.length ≤ 1048576
theorem markG_any (L : List S52) (x : Int) (hl : L.length ≤ 1048576) (hP : ∀ g ∈ L, kGp g) (h0 : 0 ≤ x) (hb : x + (kG L : Int) ≤ 1000000000) : ∃ F m, Ev (fun k => F17.f k L x) (m, F) ∧ x ≤ m ∧ m ≤ x + (kG L : Int) := by
  refine mark_any z52 (fun g => 1 + kE g.f1) kGp F17.l0 (fun L i x hl hi h0 hb hp => ?_) (fun L i x hi => Ev.step (fun k => F17.l0.eq_2 ..) (Ev.neg (by omega) (Ev.now _))) L L 0 x hl rfl hP h0 hb
  have hr : rd_T52 L (i : Int) = L.getD i z52 := by unfold rd_T52; rw [Int.toNat_natCast]
  have hw1 : wrap64 (x + 1) = x + 1 := wrap_id (by omega) (by omega)
  obtain ⟨G, y, g1, g2, g3⟩ := markE_any (L.getD i z52).f1 (x + 1) hp (by omega) (by omega)
  refine ⟨y, ⟨mt x, G⟩, by omega, by omega, fun r hr' => Ev.step (fun k => F17.l0.eq_2 ..) (Ev.pos (by omega) (Ev.pos (by omega) (Ev.bind (mt_ev x (by omega)) ?_)))⟩
  rw [hr, hw1, wi_ (by omega), Int.toNat_natCast]
  exact Ev.bind g1 hr'

/-! the head of an interchange -/
def isHead (g : S52) (A B : ByteArray) (m : Nat) : Prop := g = plainS ⟨#[73, 88, 72]⟩ [A, B, decS (m : Int)] ∧ nameP (bytesOf A) = true ∧ nameP (bytesOf B) = true ∧ 1 ≤ m ∧ m ≤ 999999
abbrev IxO := ByteArray × ByteArray × Int × (List (S83)) × Bool × Int × Int
def badO (c : Int) : IxO := (⟨#[]⟩, ⟨#[]⟩, 0, [], false, 0, c)
def goodO (A B : ByteArray) (m : Nat) : IxO := (A, B, (m : Int), [], true, 0, 0)
def pOf (g : S52) (i : Nat) : ByteArray := if i < g.f1.length ∧ 0 < (g.f1.getD i z55).f0.length then partOf g i else ⟨#[]⟩
theorem pOf_size (g : S52) (i : Nat) (hg : bSg g) : (pOf g i).size ≤ 1048576 := by
  unfold pOf
  by_cases h : i < g.f1.length ∧ 0 < (g.f1.getD i z55).f0.length
  · rw [if_pos h]
    exact (hg.2 _ (getD_mem _ h.1)).2 _ (getD_mem _ h.2)
  · rw [if_neg h]
    show 0 ≤ 1048576
    omega
/-- The reference's head. -/
theorem specHead_ev (g : S52) (hg : bSg g) : ∃ p : Int × Bool, ∃ n1 n2 : Bool,
    Ev (fun k => F30.f k (pOf g 2)) p ∧ Ev (fun k => F32.f k (pOf g 0)) n1 ∧ Ev (fun k => F32.f k (pOf g 1)) n2 ∧ -1000000000000 < p.1 ∧ p.1 < 1000000000000 ∧ n1 = nameP (bytesOf (pOf g 0)) ∧ n2 = nameP (bytesOf (pOf g 1)) ∧ (∀ m : Nat, m < 1000000000000 → pOf g 2 = decS (m : Int) → p = ((m : Int), true)) := by
  obtain ⟨p, e1, e2, e3, e4, e5⟩ := l01Num_ev (pOf g 2) (pOf_size g 2 hg)
  have s0 := pOf_size g 0 hg
  have s1 := pOf_size g 1 hg
  exact ⟨p, _, _, e1, l01Name_ev _ (by omega), l01Name_ev _ (by omega), e4, e5, rfl, rfl, e2⟩
theorem head_parts {g : S52} {A B : ByteArray} {m : Nat} (h : isHead g A B m) : pOf g 0 = A ∧ pOf g 1 = B ∧ pOf g 2 = decS (m : Int) := by
  obtain ⟨rfl, _⟩ := h
  exact ⟨rfl, rfl, rfl⟩
theorem l03Head_ev (A B : ByteArray) (v : Int) (h0 : -1000000000000 < v) (h1 : v < 1000000000000) : Ev (fun k => F35.f k A B v []) ((plainS ⟨#[73, 88, 72]⟩ [A, B, decS v]).f0, (plainS ⟨#[73, 88, 72]⟩ [A, B, decS v]).f1) := by
  unfold F35.f
  exact Ev.bind (l01Dec_ev v (by omega) (by omega)) (Ev.bind (l03Seg_ev ⟨#[73, 88, 72]⟩ [A, B, decS v] (by simp)) (Ev.now _))
theorem control_eq (v : Int) : F33.f v = some (decide (1 ≤ v ∧ v ≤ 999999)) := by
  unfold F33.f
  by_cases h : v ≥ 1
  · rw [if_pos h]
    congr 1
    rw [decide_eq_decide]
    omega
  · rw [if_neg h, decide_eq_false (by omega)]
theorem implHead_ev (g : S52) (hg : bSg g) : ∃ r : ByteArray × ByteArray × Int × (List (S83)) × Bool, Ev (fun k => F38.f k g.f0 g.f1) r ∧ (r.2.2.2.2 = true → ∃ A B m, isHead g A B m) ∧ (∀ A B m, isHead g A B m → r = (A, B, (m : Int), [], true)) := by
  unfold F38.f
  obtain ⟨R, e1, e2, e3⟩ := parts_ev g ⟨#[73, 88, 72]⟩ 3 hg.1
  by_cases hR : R.2 = true
  · obtain ⟨hgs, hlen⟩ := e2 hR
    have hl3 : R.1.length = 3 := by omega
    match hps : R.1, hl3 with
    | [A, B, C], _ =>
      rw [hps] at hgs
      have hsz : A.size ≤ 1048576 ∧ B.size ≤ 1048576 ∧ C.size ≤ 1048576 := by
        have h := hg.2
        rw [hgs] at h
        refine ⟨(h ⟨[A]⟩ ?_).2 A ?_, (h ⟨[B]⟩ ?_).2 B ?_, (h ⟨[C]⟩ ?_).2 C ?_⟩ <;> simp [plainS]
      have nA := isName_ev A (by omega)
      have nB := isName_ev B (by omega)
      obtain ⟨q, f1, f2, f3⟩ := numberIn_ev C hsz.2.2 1 999999 (by omega) (by omega)
      have hb : ∀ {f : List ByteArray × Bool → Nat → Option (ByteArray × ByteArray × Int × (List (S83)) × Bool)} {r}, Ev (fun k => f R k) r → Ev (fun k => (F60.f k g.f0 g.f1 (⟨#[73, 88, 72]⟩ : ByteArray) 3).bind fun x => f x k) r := fun h => Ev.bind e1 h
      by_cases gA : nameP (bytesOf A) = true
      · by_cases gB : nameP (bytesOf B) = true
        · refine ⟨(A, B, q.1, [], q.2), Ev.bind e1 (Ev.pos hR ?_), fun h => ?_, fun A' B' m h => ?_⟩
          · rw [hps]
            rw [gA] at nA
            rw [gB] at nB
            exact Ev.pos (by simp) (Ev.bind (show Ev (fun k => F61.f k (rdOf ByteArray.empty [A, B, C] 0)) true from nA) (Ev.pos rfl (Ev.pos (by simp) (Ev.bind (show Ev (fun k => F61.f k (rdOf ByteArray.empty [A, B, C] 1)) true from nB) (Ev.pos rfl (Ev.pos (by simp) (Ev.bind (show Ev (fun k => F62.f k (rdOf ByteArray.empty [A, B, C] 2) 1 999999) q from f1) (Ev.now _))))))))
          · obtain ⟨m, h1, h2, h3, h4⟩ := f3 h
            exact ⟨A, B, m, by rw [hgs, h1], gA, gB, by omega, by omega⟩
          · obtain ⟨h1, h2, h3, h4, h5⟩ := h
            rw [hgs] at h1
            simp only [plainS, List.map_cons, List.map_nil, S52.mk.injEq, List.cons.injEq, S55.mk.injEq, and_true, true_and] at h1
            obtain ⟨rfl, rfl, h6⟩ := h1
            rw [f2 m h6 (by omega) (by omega)]
        · refine ⟨(⟨#[]⟩, ⟨#[]⟩, 0, [], false), Ev.bind e1 (Ev.pos hR ?_), fun h => (by cases h), fun A' B' m h => ?_⟩
          · rw [hps]
            rw [gA] at nA
            exact Ev.pos (by simp) (Ev.bind (show Ev (fun k => F61.f k (rdOf ByteArray.empty [A, B, C] 0)) true from nA) (Ev.pos rfl (Ev.pos (by simp) (Ev.bind (show Ev (fun k => F61.f k (rdOf ByteArray.empty [A, B, C] 1)) _ from nB) (Ev.neg gB (Ev.now _))))))
          · obtain ⟨h1, h2, h3, h4, h5⟩ := h
            rw [hgs] at h1
            simp only [plainS, List.map_cons, List.map_nil, S52.mk.injEq, List.cons.injEq, S55.mk.injEq, and_true, true_and] at h1
            obtain ⟨rfl, rfl, h6⟩ := h1
            exact absurd h3 gB
      · refine ⟨(⟨#[]⟩, ⟨#[]⟩, 0, [], false), Ev.bind e1 (Ev.pos hR ?_), fun h => (by cases h), fun A' B' m h => ?_⟩
        · rw [hps]
          exact Ev.pos (by simp) (Ev.bind (show Ev (fun k => F61.f k (rdOf ByteArray.empty [A, B, C] 0)) _ from nA) (Ev.neg gA (Ev.now _)))
        · obtain ⟨h1, h2, h3, h4, h5⟩ := h
          rw [hgs] at h1
          simp only [plainS, List.map_cons, List.map_nil, S52.mk.injEq, List.cons.injEq, S55.mk.injEq, and_true, true_and] at h1
          obtain ⟨rfl, rfl, h6⟩ := h1
          exact absurd h2 gA
  · refine ⟨(⟨#[]⟩, ⟨#[]⟩, 0, [], false), Ev.bind e1 (Ev.neg hR (Ev.now _)), fun h => (by cases h), fun A B m h => ?_⟩
    have := e3 [A, B, decS (m : Int)] h.1 (by simp)
    rw [this] at hR
    exact absurd rfl hR

theorem heads_ev (L : List S52) (hL : L.length ≤ 1048576) (hb : ∀ g ∈ L, bSg g) : ∃ R : IxO, Ev (fun k => F12.f k L) R ∧ Ev (fun k => F14.f k L) R ∧ R.2.2.2.1 = [] := by
  unfold F12.f F14.f
  by_cases h1 : (L.length : Int) > 400
  · exact ⟨badO 2, Ev.pos h1 (Ev.now _), Ev.bindc rfl (Ev.pos (decide_eq_true h1) (Ev.now _)), rfl⟩
  by_cases h2 : (L.length : Int) = 0
  · exact ⟨badO 6, Ev.neg h1 (Ev.pos h2 (Ev.now _)), Ev.bindc rfl (Ev.neg (by simpa using h1) (Ev.pos h2 (Ev.now _))), rfl⟩
  have h3 : 0 < (L.length : Int) := by omega
  have hr : rd_T52 L 0 = L.getD 0 z52 := rfl
  have hg : bSg (L.getD 0 z52) := hb _ (getD_mem _ (by omega))
  generalize L.getD 0 z52 = g at hr hg
  obtain ⟨p, n1, n2, s1, s2, s3, s4, s5, s6, s7, s8⟩ := specHead_ev g hg
  obtain ⟨r, i1, i2, i3⟩ := implHead_ev g hg
  have pp : ∀ i : Nat, F31.f g.f0 g.f1 (i : Int) 0 = some (pOf g i) := fun i => partOf_ev g i hg.1
  by_cases hh : ∃ A B m, isHead g A B m
  · obtain ⟨A, B, m, hh⟩ := hh
    obtain ⟨p0, p1, p2⟩ := head_parts hh
    have hm := hh.2.2.2
    have hp := s8 m (by omega) p2
    rw [p0] at s2 s6
    rw [p1] at s3 s7
    rw [hh.2.1] at s6
    rw [hh.2.2.1] at s7
    subst s6 s7
    refine ⟨goodO A B m, Ev.neg h1 (Ev.neg h2 (Ev.pos h3 ?_)), Ev.bindc rfl (Ev.neg (by simpa using h1) (Ev.neg h2 (Ev.pos h3 ?_))), rfl⟩
    · rw [hr]
      refine Ev.bindc (pp 2) (Ev.bind s1 (Ev.bindc ((pp 0).trans (by rw [p0])) (Ev.bindc ((pp 1).trans (by rw [p1])) (Ev.bind s2 (Ev.pos rfl (Ev.bind s3 (Ev.pos rfl (Ev.bindc (control_eq _) (Ev.pos ?_ ?_)))))))))
      · rw [hp]; exact decide_eq_true (by constructor <;> simp <;> omega)
      · obtain ⟨R, f1, f2⟩ := sameSeg_ev g (plainS ⟨#[73, 88, 72]⟩ [A, B, decS (m : Int)]) hg.1 (fun e he => (hg.2 e he).1)
        have hR := f2.2 hh.1
        subst hR
        rw [hp]
        exact Ev.bind (l03Head_ev A B (m : Int) (by omega) (by omega)) (Ev.bind f1 (Ev.pos rfl (Ev.now _)))
    · rw [hr]
      have hi := i3 A B m hh
      subst hi
      exact Ev.bind i1 (Ev.pos rfl (Ev.now _))
  · have hrf : ¬ r.2.2.2.2 = true := fun h => hh (i2 h)
    refine ⟨badO 3, Ev.neg h1 (Ev.neg h2 (Ev.pos h3 ?_)), Ev.bindc rfl (Ev.neg (by simpa using h1) (Ev.neg h2 (Ev.pos h3 ?_))), rfl⟩
    · rw [hr]
      refine Ev.bindc (pp 2) (Ev.bind s1 (Ev.bindc (pp 0) (Ev.bindc (pp 1) (Ev.bind s2 (Ev.ite (fun g1 => ?_) (fun _ => Ev.now _))))))
      refine Ev.bind s3 (Ev.ite (fun g2 => ?_) (fun _ => Ev.now _))
      refine Ev.bindc (control_eq _) (Ev.ite (fun g3 => ?_) (fun _ => Ev.now _))
      obtain ⟨R, f1, f2⟩ := sameSeg_ev g (plainS ⟨#[73, 88, 72]⟩ [pOf g 0, pOf g 1, decS p.1]) hg.1 (fun e he => (hg.2 e he).1)
      refine Ev.bind (l03Head_ev _ _ p.1 s4 s5) (Ev.bind f1 (Ev.ite (fun g4 => ?_) (fun _ => Ev.now _)))
      exfalso
      have g3 := of_decide_eq_true g3
      refine hh ⟨pOf g 0, pOf g 1, p.1.toNat, ?_, s6 ▸ g1, s7 ▸ g2, by omega, by omega⟩
      rw [Int.toNat_of_nonneg (by omega)]
      exact f2.1 g4
    · rw [hr]
      exact Ev.bind i1 (Ev.neg hrf (Ev.now _))
theorem eqO_refl (R : IxO) (h : R.2.2.2.1 = []) : Ev (fun k => F15.f k R.1 R.2.1 R.2.2.1 R.2.2.2.1 R.2.2.2.2.1 R.2.2.2.2.2.1 R.2.2.2.2.2.2 R.1 R.2.1 R.2.2.1 R.2.2.2.1 R.2.2.2.2.1 R.2.2.2.2.2.1 R.2.2.2.2.2.2) true := by
  unfold F15.f
  rw [h]
  exact Ev.bind (eqInterchange_refl _ _ _ [] ⟨by simp, fun y hy => by simp at hy⟩) (Ev.pos rfl (Ev.neg (by simp) (Ev.pos rfl (Ev.pos rfl (Ev.now _)))))
theorem markO (R : IxO) (h : R.2.2.2.1 = []) : Ev (fun k => F18.f k R.1 R.2.1 R.2.2.1 R.2.2.2.1 R.2.2.2.2.1 R.2.2.2.2.2.1 R.2.2.2.2.2.2 1) (1, []) := by
  unfold F18.f F42.f F65.f
  rw [h]
  exact Ev.step (fun k => F65.l0.eq_2 ..) (Ev.neg (by simp) (Ev.now _))
theorem heldO (R : IxO) : Ev (fun k => F19.f k R.1 R.2.1 R.2.2.1 [] R.2.2.2.2.1 R.2.2.2.2.2.1 R.2.2.2.2.2.2 1) 1 := by
  unfold F19.f F43.f F66.f
  exact Ev.bind (Ev.bind (Ev.step (fun k => F66.l0.eq_2 ..) (Ev.neg (by simp) (Ev.now _))) (Ev.neg (by omega) (Ev.now _))) (Ev.neg (by omega) (Ev.now _))
theorem FnExactHeadOf : F4.Pure := by
  intro l hl
  refine Ev.rounds (g := fun k => F4.f k l) ?_
  unfold F4.f
  obtain ⟨w, u, t⟩ := szSegmentS_ev l 1048576 (by omega) (by omega) hl.1 hl.2
  rcases t with t | ⟨t, _, hbl⟩
  · exact Ev.bind u (Ev.pos (by omega) (Ev.now _))
  obtain ⟨w', u', t'⟩ := szSegmentS_c l 1048576 (by omega) (by omega) hl.1 hl.2
  have ew := Ev.unique u u'
  subst ew
  have hcnt : ((kG (l.map cSegment) : Nat) : Int) ≤ 1048576 := by omega
  have ht := toSegmentS_ev l hbl.1 hbl.2
  have hbe : ∀ g ∈ l.map cSegment, bSg g := by
    intro y hy
    obtain ⟨e, he, rfl⟩ := List.mem_map.1 hy
    exact bSg_of (hbl.2 e he)
  have hll : (l.map cSegment).length ≤ 1048576 := by rw [List.length_map]; exact hbl.1
  obtain ⟨R, r1, r2, r3⟩ := heads_ev (l.map cSegment) hll hbe
  have hq := eqO_refl R r3
  have he := eqSegmentS_refl (l.map cSegment) (by omega) (fun y hy => eSg_of (hbe y hy))
  obtain ⟨F, m, e1, e2, e3⟩ := markG_any (l.map cSegment) 1 hll (fun g hg => (hbe g hg).1) (by omega) (by omega)
  have hm := markO R r3
  have hh := heldO R
  refine Ev.bind u (Ev.neg (by omega) (Ev.bind ht (Ev.bind r1 (Ev.bind ht (Ev.bind r2 (Ev.bind hq (Ev.pos rfl (Ev.bind ht (Ev.bind he (Ev.pos rfl (Ev.bind e1 (Ev.neg (by omega) (Ev.bind hq ?_)))))))))))))
  refine Ev.step (fun k => F4.j0.eq_2 ..) (Ev.neg (by simp) ?_)
  exact Ev.bind hm (Ev.bind hh (Ev.neg (by omega) (Ev.pos rfl (Ev.bind ht (Ev.bind r2 (Ev.bind hq (Ev.pos rfl (Ev.bind hh (Ev.neg (by omega) (Ev.pos rfl (Ev.now _)))))))))))

end Go.Proofs.YtlghcbmkhdibdaaDoor.Pure
