/- The program's IxSegments answers as the reference's: the law, over numbers and lists.
Conditions: none. -/
import Derived.Test.YtlghcbmkhdibdaaGreatDoorPFnExactIxSegmentsx
import Derived.Test.YtlghcbmkhdibdaaGreatDoorVFnExactIxSegments
namespace Go.Proofs.YtlghcbmkhdibdaaGreatDoor.Pure
open Go.RowKit Go.Proofs.YtlghcbmkhdibdaaGreatDoor.PFnExactIxSegments Go.Proofs.YtlghcbmkhdibdaaGreatDoorW.PrintWords Go.Proofs.YtlghcbmkhdibdaaGreatDoorW.PrintLast Go.Proofs.YtlghcbmkhdibdaaGreatDoorW.PrintMore Go.Proofs.YtlghcbmkhdibdaaGreatDoorW.Pl
set_option linter.unusedVariables false
set_option linter.unusedSimpArgs false

theorem within_eq (a b c : Int) : F56.f a b c = some (withinP a b c) := by
  unfold F56.f withinP
  split
  · congr 1; simp only [decide_eq_decide]; omega
  · congr 1; symm; simp only [decide_eq_false_iff_not]; omega

theorem isGreat_eq (c : Int) : F90.f c = some (great c) := by
  unfold F90.f great
  split
  · congr 1; simp only [decide_eq_decide]; omega
  · congr 1; symm; simp only [decide_eq_false_iff_not]; omega
theorem isDigit_eq (c : Int) : F91.f c = some (digit c) := by
  unfold F91.f digit
  split
  · congr 1; simp only [decide_eq_decide]; omega
  · congr 1; symm; simp only [decide_eq_false_iff_not]; omega

theorem great_t {c : Int} (h : 65 ≤ c) (h' : c ≤ 90) : great c = true := by simp [great, h, h']
theorem great_f {c : Int} (h : ¬ (65 ≤ c ∧ c ≤ 90)) : great c = false := by simp [great]; omega
theorem digit_t {c : Int} (h : 48 ≤ c) (h' : c ≤ 57) : digit c = true := by simp [digit, h, h']
theorem digit_f {c : Int} (h : ¬ (48 ≤ c ∧ c ≤ 57)) : digit c = false := by simp [digit]; omega

theorem isName_loop (s : ByteArray) (hs : (s.size : Int) ≤ 9223372036854775807) : ∀ (l : List Int) (i : Nat), 1 ≤ i → (bytesOf s).drop i = l → Ev (fun k => F54.l0 k s (s.size : Int) (i : Int)) (l.all nameCh && withinP (s.size : Int) 1 12) := by
  intro l
  induction l with
  | nil =>
    intro i hi h
    have h0 := drop_nil h
    refine Ev.step (fun k => F54.l0.eq_2 ..) ?_
    refine Ev.neg (by omega) ?_
    refine Ev.bindc (within_eq _ _ _) ?_
    exact Ev.ret (by simp)
  | cons c r ih =>
    intro i hi h
    obtain ⟨h1, h2, h3, _, _⟩ := drop_cons h
    have hw : wrap64 ((i : Int) + 1) = ((i + 1 : Nat) : Int) := by rw [wrap_id (by omega) (by omega)]; omega
    have hn := ih (i + 1) (by omega) h3
    refine Ev.step (fun k => F54.l0.eq_2 ..) ?_
    refine Ev.pos h1 (Ev.pos (by omega) (Ev.pos h1 ?_))
    rw [h2]
    refine Ev.bindc (isGreat_eq _) ?_
    by_cases hg : great c = true
    · refine Ev.pos hg ?_
      rw [hw]
      exact hn.to (by simp [nameCh, hg])
    · refine Ev.neg hg (Ev.neg (by omega) ?_)
      refine Ev.bindc (isDigit_eq _) ?_
      by_cases hd : digit c = true
      · refine Ev.pos hd ?_
        rw [hw]
        exact hn.to (by simp [nameCh, hd])
      · refine Ev.neg hd ?_
        by_cases he : c = 45
        · refine Ev.pos he ?_
          rw [hw]
          exact hn.to (by simp [nameCh, he])
        · refine Ev.neg he ?_
          exact Ev.ret (by simp [nameCh, hg, hd, he])
theorem isName_ev (s : ByteArray) (hs : (s.size : Int) ≤ 9223372036854775807) : Ev (fun k => F54.f k s) (nameP (bytesOf s)) := by
  have hl := length_bytesOf s
  show Ev (fun k => F54.l0 k s (s.size : Int) ((0 : Nat) : Int)) _
  match hb : bytesOf s with
  | [] =>
    have h0 := drop_nil (s := s) (i := 0) (by simp [hb])
    refine Ev.step (fun k => F54.l0.eq_2 ..) ?_
    refine Ev.neg (by omega) ?_
    refine Ev.bindc (within_eq _ _ _) ?_
    exact Ev.ret (by simp [withinP, nameP]; omega)
  | c :: r =>
    obtain ⟨h1, h2, h3, _, _⟩ := drop_cons (s := s) (i := 0) (c := c) (r := r) (by simp [hb])
    have hn := isName_loop s hs r 1 (by omega) h3
    rw [hb] at hl
    simp only [List.length_cons] at hl
    refine Ev.step (fun k => F54.l0.eq_2 ..) ?_
    refine Ev.pos h1 (Ev.pos (by omega) (Ev.pos h1 ?_))
    rw [h2]
    refine Ev.bindc (isGreat_eq _) ?_
    by_cases hg : great c = true
    · refine Ev.pos hg ?_
      rw [show wrap64 (((0 : Nat) : Int) + 1) = ((1 : Nat) : Int) from by rw [wrap_id (by omega) (by omega)]; rfl]
      refine hn.to ?_
      have : withinP (s.size : Int) 1 12 = decide (r.length ≤ 11) := by
        simp only [withinP, decide_eq_decide]; omega
      simp [nameP, hg, this]
    · refine Ev.neg hg (Ev.pos rfl ?_)
      exact Ev.ret (by simp [nameP, hg])

theorem l01Name_loop (s : ByteArray) (hs : (s.size : Int) ≤ 9223372036854775807) : ∀ (l : List Int) (i : Nat), (bytesOf s).drop i = l → Ev (fun k => F39.l0 k s (i : Int)) (l.all nameCh) := by
  intro l
  induction l with
  | nil =>
    intro i h
    have h0 := drop_nil h
    refine Ev.step (fun k => F39.l0.eq_2 ..) ?_
    exact Ev.neg (by omega) (Ev.ret (by simp))
  | cons c r ih =>
    intro i h
    obtain ⟨h1, h2, h3, _, _⟩ := drop_cons h
    have hw : wrap64 ((i : Int) + 1) = ((i + 1 : Nat) : Int) := by rw [wrap_id (by omega) (by omega)]; omega
    have hn := ih (i + 1) h3
    refine Ev.step (fun k => F39.l0.eq_2 ..) ?_
    refine Ev.pos h1 (Ev.pos (by omega) ?_)
    rw [h2, hw]
    by_cases hk : nameCh c = true
    · have hn' : Ev (fun k => F39.l0 k s ((i + 1 : Nat) : Int)) ((c :: r).all nameCh) := hn.to (by simp [hk])
      have hk' : (65 ≤ c ∧ c ≤ 90) ∨ (48 ≤ c ∧ c ≤ 57) ∨ c = 45 := by simp [nameCh, great, digit, or_assoc] at hk; exact hk
      refine Ev.ite (fun g1 => Ev.ite (fun g2 => hn') (fun g2 => Ev.ite (fun g3 => Ev.ite (fun g4 => hn') (fun g4 => Ev.ite (fun g5 => hn') (fun g5 => ?_))) (fun g3 => Ev.ite (fun g5 => hn') (fun g5 => ?_)))) (fun g1 => Ev.ite (fun g3 => Ev.ite (fun g4 => hn') (fun g4 => Ev.ite (fun g5 => hn') (fun g5 => ?_))) (fun g3 => Ev.ite (fun g5 => hn') (fun g5 => ?_)))
      all_goals exact absurd hk' (by omega)
    · have hf : Ev (fun _ : Nat => some false) ((c :: r).all nameCh) := Ev.ret (by simp [hk])
      have hk' : ¬ ((65 ≤ c ∧ c ≤ 90) ∨ (48 ≤ c ∧ c ≤ 57) ∨ c = 45) := by simp [nameCh, great, digit] at hk; omega
      refine Ev.ite (fun g1 => Ev.ite (fun g2 => ?_) (fun g2 => Ev.ite (fun g3 => Ev.ite (fun g4 => ?_) (fun g4 => Ev.ite (fun g5 => ?_) (fun g5 => hf))) (fun g3 => Ev.ite (fun g5 => ?_) (fun g5 => hf)))) (fun g1 => Ev.ite (fun g3 => Ev.ite (fun g4 => ?_) (fun g4 => Ev.ite (fun g5 => ?_) (fun g5 => hf))) (fun g3 => Ev.ite (fun g5 => ?_) (fun g5 => hf)))
      all_goals exact absurd (show (65 ≤ c ∧ c ≤ 90) ∨ (48 ≤ c ∧ c ≤ 57) ∨ c = 45 by omega) hk'
theorem l01Name_ev (s : ByteArray) (hs : (s.size : Int) ≤ 9223372036854775807) : Ev (fun k => F39.f k s) (nameP (bytesOf s)) := by
  have hl := length_bytesOf s
  have hj : ∀ b, b = false → Ev (fun k => F39.j0 k s true) b := fun b hb => Ev.step (fun k => F39.j0.eq_2 ..) (Ev.pos rfl (Ev.ret hb.symm))
  unfold F39.f
  match hb : bytesOf s with
  | [] =>
    have h0 := drop_nil (s := s) (i := 0) (by simp [hb])
    refine Ev.pos (by omega) (hj _ rfl)
  | c :: r =>
    obtain ⟨h1, h2, h3, _, _⟩ := drop_cons (s := s) (i := 0) (c := c) (r := r) (by simp [hb])
    have hn := l01Name_loop s hs (c :: r) 0 (by simp [hb])
    rw [hb] at hl
    simp only [List.length_cons] at hl
    have h2' : bt s 0 = c := h2
    refine Ev.neg (by omega) (Ev.ite (fun g => hj _ (by simp [nameP]; intros; omega)) (fun g => Ev.pos (by omega) ?_))
    rw [h2']
    refine Ev.ite (fun g1 => hj _ (by simp [nameP, great]; intros; omega)) (fun g1 => ?_)
    by_cases g2 : c > 90
    · rw [show decide (c > 90) = true from by simp [g2]]
      exact hj _ (by simp [nameP, great]; intros; omega)
    · rw [show decide (c > 90) = false from by simp [g2]]
      refine Ev.step (fun k => F39.j0.eq_2 ..) (Ev.neg (by simp) ?_)
      have hg : great c = true := by simp [great]; omega
      refine hn.to ?_
      have : r.length ≤ 11 := by omega
      simp [nameP, hg, nameCh, this]

theorem wi_ {i : Nat} (h : (i : Int) ≤ 4611686018427387904) : wrap64 ((i : Int) + 1) = ((i + 1 : Nat) : Int) := by rw [wrap_id (by omega) (by omega)]; omega
/-- A list that is copied into a new one, place by place. -/
theorem tos_list {α β : Type} (z : α) (g : α → β) (T : Nat → List α → List β → Int → Option (List β)) (L : List α)
    (hT : ∀ (D : List β) (i : Nat) (r : List β), i < L.length → D.length = L.length → Ev (fun k => T k L (D.set i (g (L.getD i z))) ((i + 1 : Nat) : Int)) r → Ev (fun k => T k L D (i : Int)) r)
    (hT0 : ∀ (D : List β) (i : Nat), L.length ≤ i → Ev (fun k => T k L D (i : Int)) D) :
    ∀ (d : Nat) (D : List β) (i : Nat), L.length - i = d → D.length = L.length → (∀ j, j < i → D[j]? = (L.map g)[j]?) → Ev (fun k => T k L D (i : Int)) (L.map g)
  | 0, D, i, hd, hl, hp => by
    have e : D = L.map g := by
      apply List.ext_getElem?
      intro j
      by_cases h : j < i
      · exact hp j h
      · rw [List.getElem?_eq_none (by omega), List.getElem?_eq_none (by rw [List.length_map]; omega)]
    subst e
    exact hT0 _ i (by omega)
  | d + 1, D, i, hd, hl, hp => by
    refine hT D i _ (by omega) hl (tos_list z g T L hT hT0 d _ (i + 1) (by omega) (by rw [List.length_set]; exact hl) (fun j hj => ?_))
    by_cases h : j = i
    · subst h
      rw [List.getElem?_set_self (by omega), List.getElem?_map, List.getD_eq_getElem?_getD, List.getElem?_eq_getElem (by omega : j < L.length)]
      rfl
    · rw [List.getElem?_set_ne (by omega)]
      exact hp j (by omega)
/-- A list is measured, place by place: it is too great, or each element is bounded. -/
theorem sz_list {α : Type} (z : α) (P : α → Prop) (Z : Nat → List α → Int → Int → Option Int) (L : List α)
    (hs : ∀ (i : Nat) (x : Int), i < L.length → 0 ≤ x → x ≤ 1048576 → Ev (fun k => Z k L x (i : Int)) (-1) ∨ ∃ x', 0 ≤ x' ∧ x' ≤ x ∧ P (L.getD i z) ∧ ∀ r, Ev (fun k => Z k L x' ((i + 1 : Nat) : Int)) r → Ev (fun k => Z k L x (i : Int)) r)
    (h0 : ∀ (i : Nat) (x : Int), L.length ≤ i → Ev (fun k => Z k L x (i : Int)) x) :
    ∀ (d i : Nat) (x : Int), L.length - i = d → 0 ≤ x → x ≤ 1048576 → ∃ w, Ev (fun k => Z k L x (i : Int)) w ∧ (w = -1 ∨ (0 ≤ w ∧ w ≤ x ∧ ∀ j, i ≤ j → j < L.length → P (L.getD j z)))
  | 0, i, x, hd, h1, h2 => ⟨x, h0 i x (by omega), .inr ⟨h1, by omega, fun j _ _ => by omega⟩⟩
  | d + 1, i, x, hd, h1, h2 => by
    rcases hs i x (by omega) h1 h2 with h | ⟨x', g1, g2, g3, g4⟩
    · exact ⟨-1, h, .inl rfl⟩
    · obtain ⟨w, e1, e2⟩ := sz_list z P Z L hs h0 d (i + 1) x' (by omega) g1 (by omega)
      refine ⟨w, g4 w e1, ?_⟩
      rcases e2 with e2 | ⟨e2, e3, e4⟩
      · exact .inl e2
      · refine .inr ⟨e2, by omega, fun j hj hl => ?_⟩
        by_cases h : j = i
        · subst h; exact g3
        · exact e4 j (by omega) hl
theorem sz_all {α : Type} (z : α) (P : α → Prop) (L : List α) (h : ∀ j, 0 ≤ j → j < L.length → P (L.getD j z)) : ∀ x ∈ L, P x := by
  intro x hx
  obtain ⟨j, hj, rfl⟩ := List.getElem_of_mem hx
  have := h j (by omega) hj
  rwa [List.getD_eq_getElem?_getD, List.getElem?_eq_getElem hj] at this
theorem getD_mem {α : Type} {L : List α} {i : Nat} (z : α) (h : i < L.length) : L.getD i z ∈ L := by
  rw [List.getD_eq_getElem?_getD, List.getElem?_eq_getElem h]
  exact List.getElem_mem h
/-- A text that is bounded; a list of them. -/
def bT (s : ByteArray) : Prop := s.size ≤ 1048576
def bTs (l : List ByteArray) : Prop := l.length ≤ 1048576 ∧ ∀ s ∈ l, bT s

/-- A comparison of lists, place by place: of one list with itself. -/
theorem eqs_refl {α : Type} (Q : Nat → List α → List α → Int → Option Bool) (L : List α) (hs : ∀ i : Nat, i < L.length → Ev (fun k => Q k L L ((i + 1 : Nat) : Int)) true → Ev (fun k => Q k L L (i : Int)) true) (h0 : ∀ i : Nat, L.length ≤ i → Ev (fun k => Q k L L (i : Int)) true) : ∀ (d i : Nat), L.length - i = d → Ev (fun k => Q k L L (i : Int)) true
  | 0, i, h => h0 i (by omega)
  | d + 1, i, h => hs i (by omega) (eqs_refl Q L hs h0 d (i + 1) (by omega))

theorem szStringS_ev (l : List ByteArray) (x : Int) (h0 : 0 ≤ x) (h1 : x ≤ 1048576) (hl : l.length ≤ maxLen) (hs : ∀ s ∈ l, s.size ≤ maxLen) : ∃ w, Ev (fun k => F158.f k l x) w ∧ (w = -1 ∨ (0 ≤ w ∧ w ≤ x ∧ bTs l)) := by
  simp only [maxLen] at hl hs
  unfold F158.f
  have hw : wrap64 (x - (l.length : Int)) = x - (l.length : Int) := wrap_id (by omega) (by omega)
  rw [hw]
  by_cases hn : x - (l.length : Int) < 0
  · exact ⟨-1, Ev.pos hn (Ev.now _), .inl rfl⟩
  · have hstep : ∀ (i : Nat) (y : Int), i < l.length → 0 ≤ y → y ≤ 1048576 → Ev (fun k => F158.l0 k l y (i : Int)) (-1) ∨ ∃ x', 0 ≤ x' ∧ x' ≤ y ∧ bT (l.getD i ByteArray.empty) ∧ ∀ r, Ev (fun k => F158.l0 k l x' ((i + 1 : Nat) : Int)) r → Ev (fun k => F158.l0 k l y (i : Int)) r := by
      intro i y hi g0 g1
      have hsz : (l.getD i ByteArray.empty).size ≤ 9223372036854775807 := hs _ (getD_mem _ hi)
      have hr : rdOf ByteArray.empty l (i : Int) = l.getD i ByteArray.empty := by unfold rdOf; rw [Int.toNat_natCast]
      have hw2 : wrap64 (y - ((l.getD i ByteArray.empty).size : Int)) = y - ((l.getD i ByteArray.empty).size : Int) := wrap_id (by omega) (by omega)
      by_cases hz : y - ((l.getD i ByteArray.empty).size : Int) < 0
      · refine .inl (Ev.step (fun k => F158.l0.eq_2 ..) (Ev.pos (by omega) (Ev.pos (by omega) ?_)))
        rw [hr, hw2]
        exact Ev.pos hz (Ev.now _)
      · refine .inr ⟨y - ((l.getD i ByteArray.empty).size : Int), by omega, by omega, by unfold bT; omega, fun r hr' => Ev.step (fun k => F158.l0.eq_2 ..) (Ev.pos (by omega) (Ev.pos (by omega) ?_))⟩
        rw [hr, hw2, wi_ (by omega)]
        exact Ev.neg hz hr'
    obtain ⟨w, e1, e2⟩ := sz_list ByteArray.empty bT F158.l0 l hstep (fun i y hi => Ev.step (fun k => F158.l0.eq_2 ..) (Ev.neg (by omega) (Ev.now _))) l.length 0 (x - (l.length : Int)) (by omega) (by omega) (by omega)
    refine ⟨w, Ev.neg hn e1, ?_⟩
    rcases e2 with e2 | ⟨e2, e3, e4⟩
    · exact .inl e2
    · exact .inr ⟨e2, by omega, by omega, sz_all _ _ _ e4⟩

theorem toStringS_ev (l : List ByteArray) (hl : l.length ≤ 1048576) : Ev (fun k => F159.f k l) l := by
  unfold F159.f
  refine Ev.pos (by omega) (Ev.pos (by omega) ?_)
  refine (tos_list ByteArray.empty id F159.l0 l (fun D i r hi hd h => ?_) (fun D i hi => ?_) l.length _ 0 (by omega) (by simp) (fun j hj => by omega)).to (by simp)
  · refine Ev.step (fun k => F159.l0.eq_2 ..) (Ev.pos (by omega) (Ev.pos (by omega) (Ev.pos (by omega) ?_)))
    rw [wi_ (by omega)]
    exact h
  · exact Ev.step (fun k => F159.l0.eq_2 ..) (Ev.neg (by omega) (Ev.now _))

theorem eqStringS_refl (l : List ByteArray) (hl : (l.length : Int) ≤ 4611686018427387904) : Ev (fun k => F115.f k l l) true := by
  unfold F115.f
  refine Ev.pos rfl (eqs_refl F115.l0 l (fun i hi h => ?_) (fun i hi => ?_) l.length 0 (by omega))
  · refine Ev.step (fun k => F115.l0.eq_2 ..) (Ev.pos (by omega) (Ev.pos (by omega) (Ev.pos (by omega) (Ev.pos rfl ?_))))
    rw [wi_ (by omega)]
    exact h
  · exact Ev.step (fun k => F115.l0.eq_2 ..) (Ev.neg (by omega) (Ev.now _))

/-- A Element that is bounded; a Element of the laws as the program has it. -/
def bElement (x : S197) : Prop := bTs x.f0
def cElement (x : S197) : S91 := ⟨x.f0⟩

theorem szElement_ev (a0 : List ByteArray) (x : Int) (g0 : 0 ≤ x) (g1 : x ≤ 1048576) (h0 : (a0.length ≤ maxLen ∧ ∀ s ∈ a0, s.size ≤ maxLen)) : ∃ w, Ev (fun k => F155.f k a0 x) w ∧ (w = -1 ∨ (0 ≤ w ∧ w ≤ x ∧ bTs a0)) := by
  unfold F155.f
  obtain ⟨w0, u0, t0⟩ := szStringS_ev a0 x (by omega) (by omega) h0.1 h0.2
  rcases t0 with t0 | ⟨t0, s0, b0⟩
  · exact ⟨-1, Ev.bind u0 (Ev.pos (by omega) (Ev.now _)), .inl rfl⟩
  exact ⟨w0, Ev.bind u0 (Ev.neg (by omega) (Ev.now _)), .inr ⟨by omega, by omega, (b0)⟩⟩

theorem szElementS_ev (l : List S197) (x : Int) (h0 : 0 ≤ x) (h1 : x ≤ 1048576) (hl : l.length ≤ maxLen) (hs : ∀ y ∈ l, q197 y) : ∃ w, Ev (fun k => F146.f k l x) w ∧ (w = -1 ∨ (0 ≤ w ∧ w ≤ x ∧ l.length ≤ 1048576 ∧ ∀ y ∈ l, bElement y)) := by
  simp only [maxLen] at hl
  have hq : ∀ i, i < l.length → q197 (l.getD i z197) := fun i hi => hs _ (getD_mem _ hi)
  unfold F146.f
  have hw : wrap64 (x - (l.length : Int)) = x - (l.length : Int) := wrap_id (by omega) (by omega)
  rw [hw]
  by_cases hn : x - (l.length : Int) < 0
  · exact ⟨-1, Ev.pos hn (Ev.now _), .inl rfl⟩
  · have hstep : ∀ (i : Nat) (y : Int), i < l.length → 0 ≤ y → y ≤ 1048576 → Ev (fun k => F146.l0 k l y (i : Int)) (-1) ∨ ∃ x', 0 ≤ x' ∧ x' ≤ y ∧ bElement (l.getD i z197) ∧ ∀ r, Ev (fun k => F146.l0 k l x' ((i + 1 : Nat) : Int)) r → Ev (fun k => F146.l0 k l y (i : Int)) r := by
      intro i y hi g0 g1
      have hr : rd_T197 l (i : Int) = l.getD i z197 := by unfold rd_T197; rw [Int.toNat_natCast]
      obtain ⟨w, e1, e2⟩ := szElement_ev (l.getD i z197).f0 y g0 g1 (hq i hi)
      rcases e2 with e2 | ⟨e2, e3, e4⟩
      · refine .inl (Ev.step (fun k => F146.l0.eq_2 ..) (Ev.pos (by omega) (Ev.pos (by omega) ?_)))
        rw [hr]
        exact Ev.bind e1 (Ev.pos (by omega) (Ev.now _))
      · refine .inr ⟨w, by omega, by omega, e4, fun r hr' => Ev.step (fun k => F146.l0.eq_2 ..) (Ev.pos (by omega) (Ev.pos (by omega) ?_))⟩
        rw [hr, wi_ (by omega)]
        exact Ev.bind e1 (Ev.neg (by omega) hr')
    obtain ⟨w, e1, e2⟩ := sz_list z197 bElement F146.l0 l hstep (fun i y hi => Ev.step (fun k => F146.l0.eq_2 ..) (Ev.neg (by omega) (Ev.now _))) l.length 0 (x - (l.length : Int)) (by omega) (by omega) (by omega)
    refine ⟨w, Ev.neg hn e1, ?_⟩
    rcases e2 with e2 | ⟨e2, e3, e4⟩
    · exact .inl e2
    · exact .inr ⟨e2, by omega, by omega, sz_all _ _ _ e4⟩

theorem toElement_ev (a0 : List ByteArray) (h0 : bTs a0) : Ev (fun k => F156.f k a0) a0 := by
  unfold F156.f
  exact Ev.bind (toStringS_ev a0 h0.1) (Ev.now _)

theorem toElementS_ev (l : List S197) (hl : l.length ≤ 1048576) (hb : ∀ y ∈ l, bElement y) : Ev (fun k => F147.f k l) (l.map cElement) := by
  unfold F147.f
  refine Ev.pos (by omega) (Ev.pos (by omega) ?_)
  refine tos_list z197 cElement F147.l0 l (fun D i r hi hd h => ?_) (fun D i hi => ?_) l.length _ 0 (by omega) (by simp) (fun j hj => by omega)
  · have hr : rd_T197 l (i : Int) = l.getD i z197 := by unfold rd_T197; rw [Int.toNat_natCast]
    refine Ev.step (fun k => F147.l0.eq_2 ..) (Ev.pos (by omega) (Ev.pos (by omega) ?_))
    rw [hr, wi_ (by omega)]
    refine Ev.bind (toElement_ev (l.getD i z197).f0 (hb _ (getD_mem z197 hi))) (Ev.pos (by omega) ?_)
    exact h
  · exact Ev.step (fun k => F147.l0.eq_2 ..) (Ev.neg (by omega) (Ev.now _))

theorem eqElement_refl (a0 : List ByteArray) (h0 : (a0.length : Int) ≤ 4611686018427387904) : Ev (fun k => F97.f k a0 a0) true := by
  unfold F97.f
  exact Ev.bind (eqStringS_refl a0 h0) (Ev.pos rfl (Ev.now _))

/-- Of a Element: its lists are bounded. -/
def eElement (x : S91) : Prop := (x.f0.length : Int) ≤ 4611686018427387904
theorem eqElementS_refl (l : List S91) (hl : (l.length : Int) ≤ 4611686018427387904) (hb : ∀ y ∈ l, eElement y) : Ev (fun k => F63.f k l l) true := by
  unfold F63.f
  refine Ev.pos rfl (eqs_refl F63.l0 l (fun i hi h => ?_) (fun i hi => ?_) l.length 0 (by omega))
  · have hr : rd_T91 l (i : Int) = l.getD i z91 := by unfold rd_T91; rw [Int.toNat_natCast]
    refine Ev.step (fun k => F63.l0.eq_2 ..) (Ev.pos (by omega) (Ev.pos (by omega) (Ev.pos (by omega) ?_)))
    rw [hr, wi_ (by omega)]
    exact Ev.bind (eqElement_refl (l.getD i z91).f0 (hb _ (getD_mem z91 hi))) (Ev.pos rfl h)
  · exact Ev.step (fun k => F63.l0.eq_2 ..) (Ev.neg (by omega) (Ev.now _))

/-- A Segment that is bounded; a Segment of the laws as the program has it. -/
def bSegment (x : S173) : Prop := bT x.f0 ∧ (x.f1.length ≤ 1048576 ∧ ∀ y ∈ x.f1, bElement y)
def cSegment (x : S173) : S49 := ⟨x.f0, (x.f1.map cElement)⟩

theorem szSegment_ev (a0 : ByteArray) (a1 : List S197) (x : Int) (g0 : 0 ≤ x) (g1 : x ≤ 1048576) (h0 : a0.size ≤ maxLen) (h1 : (a1.length ≤ maxLen ∧ ∀ y ∈ a1, q197 y)) : ∃ w, Ev (fun k => F134.f k a0 a1 x) w ∧ (w = -1 ∨ (0 ≤ w ∧ w ≤ x ∧ bT a0 ∧ (a1.length ≤ 1048576 ∧ ∀ y ∈ a1, bElement y))) := by
  unfold F134.f
  have m0 : a0.size ≤ 9223372036854775807 := h0
  have e0 : wrap64 (x - (a0.size : Int)) = x - (a0.size : Int) := wrap_id (by omega) (by omega)
  rw [e0]
  by_cases n0 : x - (a0.size : Int) < 0
  · exact ⟨-1, Ev.pos n0 (Ev.now _), .inl rfl⟩
  obtain ⟨w1, u1, t1⟩ := szElementS_ev a1 (x - (a0.size : Int)) (by omega) (by omega) h1.1 h1.2
  rcases t1 with t1 | ⟨t1, s1, b1⟩
  · exact ⟨-1, Ev.neg n0 (Ev.bind u1 (Ev.pos (by omega) (Ev.now _))), .inl rfl⟩
  exact ⟨w1, Ev.neg n0 (Ev.bind u1 (Ev.neg (by omega) (Ev.now _))), .inr ⟨by omega, by omega, (by unfold bT; omega), (b1)⟩⟩

theorem szSegmentS_ev (l : List S173) (x : Int) (h0 : 0 ≤ x) (h1 : x ≤ 1048576) (hl : l.length ≤ maxLen) (hs : ∀ y ∈ l, q173 y) : ∃ w, Ev (fun k => F123.f k l x) w ∧ (w = -1 ∨ (0 ≤ w ∧ w ≤ x ∧ l.length ≤ 1048576 ∧ ∀ y ∈ l, bSegment y)) := by
  simp only [maxLen] at hl
  have hq : ∀ i, i < l.length → q173 (l.getD i z173) := fun i hi => hs _ (getD_mem _ hi)
  unfold F123.f
  have hw : wrap64 (x - (l.length : Int)) = x - (l.length : Int) := wrap_id (by omega) (by omega)
  rw [hw]
  by_cases hn : x - (l.length : Int) < 0
  · exact ⟨-1, Ev.pos hn (Ev.now _), .inl rfl⟩
  · have hstep : ∀ (i : Nat) (y : Int), i < l.length → 0 ≤ y → y ≤ 1048576 → Ev (fun k => F123.l0 k l y (i : Int)) (-1) ∨ ∃ x', 0 ≤ x' ∧ x' ≤ y ∧ bSegment (l.getD i z173) ∧ ∀ r, Ev (fun k => F123.l0 k l x' ((i + 1 : Nat) : Int)) r → Ev (fun k => F123.l0 k l y (i : Int)) r := by
      intro i y hi g0 g1
      have hr : rd_T173 l (i : Int) = l.getD i z173 := by unfold rd_T173; rw [Int.toNat_natCast]
      obtain ⟨w, e1, e2⟩ := szSegment_ev (l.getD i z173).f0 (l.getD i z173).f1 y g0 g1 (hq i hi).1 (hq i hi).2
      rcases e2 with e2 | ⟨e2, e3, e4⟩
      · refine .inl (Ev.step (fun k => F123.l0.eq_2 ..) (Ev.pos (by omega) (Ev.pos (by omega) ?_)))
        rw [hr]
        exact Ev.bind e1 (Ev.pos (by omega) (Ev.now _))
      · refine .inr ⟨w, by omega, by omega, e4, fun r hr' => Ev.step (fun k => F123.l0.eq_2 ..) (Ev.pos (by omega) (Ev.pos (by omega) ?_))⟩
        rw [hr, wi_ (by omega)]
        exact Ev.bind e1 (Ev.neg (by omega) hr')
    obtain ⟨w, e1, e2⟩ := sz_list z173 bSegment F123.l0 l hstep (fun i y hi => Ev.step (fun k => F123.l0.eq_2 ..) (Ev.neg (by omega) (Ev.now _))) l.length 0 (x - (l.length : Int)) (by omega) (by omega) (by omega)
    refine ⟨w, Ev.neg hn e1, ?_⟩
    rcases e2 with e2 | ⟨e2, e3, e4⟩
    · exact .inl e2
    · exact .inr ⟨e2, by omega, by omega, sz_all _ _ _ e4⟩

theorem toSegment_ev (a0 : ByteArray) (a1 : List S197) (h1 : (a1.length ≤ 1048576 ∧ ∀ y ∈ a1, bElement y)) : Ev (fun k => F135.f k a0 a1) (a0, (a1.map cElement)) := by
  unfold F135.f
  exact Ev.bind (toElementS_ev a1 h1.1 h1.2) (Ev.now _)

theorem toSegmentS_ev (l : List S173) (hl : l.length ≤ 1048576) (hb : ∀ y ∈ l, bSegment y) : Ev (fun k => F124.f k l) (l.map cSegment) := by
  unfold F124.f
  refine Ev.pos (by omega) (Ev.pos (by omega) ?_)
  refine tos_list z173 cSegment F124.l0 l (fun D i r hi hd h => ?_) (fun D i hi => ?_) l.length _ 0 (by omega) (by simp) (fun j hj => by omega)
  · have hr : rd_T173 l (i : Int) = l.getD i z173 := by unfold rd_T173; rw [Int.toNat_natCast]
    refine Ev.step (fun k => F124.l0.eq_2 ..) (Ev.pos (by omega) (Ev.pos (by omega) ?_))
    rw [hr, wi_ (by omega)]
    refine Ev.bind (toSegment_ev (l.getD i z173).f0 (l.getD i z173).f1 (hb _ (getD_mem z173 hi)).2) (Ev.pos (by omega) ?_)
    exact h
  · exact Ev.step (fun k => F124.l0.eq_2 ..) (Ev.neg (by omega) (Ev.now _))

theorem eqSegment_refl (a0 : ByteArray) (a1 : List S91) (h1 : ((a1.length : Int) ≤ 4611686018427387904 ∧ ∀ y ∈ a1, eElement y)) : Ev (fun k => F31.f k a0 a1 a0 a1) true := by
  unfold F31.f
  exact Ev.pos rfl (Ev.bind (eqElementS_refl a1 h1.1 h1.2) (Ev.pos rfl (Ev.now _)))

/-- Of a Segment: its lists are bounded. -/
def eSegment (x : S49) : Prop := ((x.f1.length : Int) ≤ 4611686018427387904 ∧ ∀ y ∈ x.f1, eElement y)
theorem eqSegmentS_refl (l : List S49) (hl : (l.length : Int) ≤ 4611686018427387904) (hb : ∀ y ∈ l, eSegment y) : Ev (fun k => F9.f k l l) true := by
  unfold F9.f
  refine Ev.pos rfl (eqs_refl F9.l0 l (fun i hi h => ?_) (fun i hi => ?_) l.length 0 (by omega))
  · have hr : rd_T49 l (i : Int) = l.getD i z49 := by unfold rd_T49; rw [Int.toNat_natCast]
    refine Ev.step (fun k => F9.l0.eq_2 ..) (Ev.pos (by omega) (Ev.pos (by omega) (Ev.pos (by omega) ?_)))
    rw [hr, wi_ (by omega)]
    exact Ev.bind (eqSegment_refl (l.getD i z49).f0 (l.getD i z49).f1 (hb _ (getD_mem z49 hi))) (Ev.pos rfl h)
  · exact Ev.step (fun k => F9.l0.eq_2 ..) (Ev.neg (by omega) (Ev.now _))

/-- A Message that is bounded; a Message of the laws as the program has it. -/
def bMessage (x : S148) : Prop := (x.f1.length ≤ 1048576 ∧ ∀ y ∈ x.f1, bSegment y)
def cMessage (x : S148) : S56 := ⟨x.f0, (x.f1.map cSegment)⟩

theorem szMessage_ev (a0 : Int) (a1 : List S173) (x : Int) (g0 : 0 ≤ x) (g1 : x ≤ 1048576) (h1 : (a1.length ≤ maxLen ∧ ∀ y ∈ a1, q173 y)) : ∃ w, Ev (fun k => F109.f k a0 a1 x) w ∧ (w = -1 ∨ (0 ≤ w ∧ w ≤ x ∧ (a1.length ≤ 1048576 ∧ ∀ y ∈ a1, bSegment y))) := by
  unfold F109.f
  obtain ⟨w1, u1, t1⟩ := szSegmentS_ev a1 x (by omega) (by omega) h1.1 h1.2
  rcases t1 with t1 | ⟨t1, s1, b1⟩
  · exact ⟨-1, Ev.bind u1 (Ev.pos (by omega) (Ev.now _)), .inl rfl⟩
  exact ⟨w1, Ev.bind u1 (Ev.neg (by omega) (Ev.now _)), .inr ⟨by omega, by omega, (b1)⟩⟩

theorem szMessageS_ev (l : List S148) (x : Int) (h0 : 0 ≤ x) (h1 : x ≤ 1048576) (hl : l.length ≤ maxLen) (hs : ∀ y ∈ l, q148 y) : ∃ w, Ev (fun k => F88.f k l x) w ∧ (w = -1 ∨ (0 ≤ w ∧ w ≤ x ∧ l.length ≤ 1048576 ∧ ∀ y ∈ l, bMessage y)) := by
  simp only [maxLen] at hl
  have hq : ∀ i, i < l.length → q148 (l.getD i z148) := fun i hi => hs _ (getD_mem _ hi)
  unfold F88.f
  have hw : wrap64 (x - (l.length : Int)) = x - (l.length : Int) := wrap_id (by omega) (by omega)
  rw [hw]
  by_cases hn : x - (l.length : Int) < 0
  · exact ⟨-1, Ev.pos hn (Ev.now _), .inl rfl⟩
  · have hstep : ∀ (i : Nat) (y : Int), i < l.length → 0 ≤ y → y ≤ 1048576 → Ev (fun k => F88.l0 k l y (i : Int)) (-1) ∨ ∃ x', 0 ≤ x' ∧ x' ≤ y ∧ bMessage (l.getD i z148) ∧ ∀ r, Ev (fun k => F88.l0 k l x' ((i + 1 : Nat) : Int)) r → Ev (fun k => F88.l0 k l y (i : Int)) r := by
      intro i y hi g0 g1
      have hr : rd_T148 l (i : Int) = l.getD i z148 := by unfold rd_T148; rw [Int.toNat_natCast]
      obtain ⟨w, e1, e2⟩ := szMessage_ev (l.getD i z148).f0 (l.getD i z148).f1 y g0 g1 (hq i hi).2
      rcases e2 with e2 | ⟨e2, e3, e4⟩
      · refine .inl (Ev.step (fun k => F88.l0.eq_2 ..) (Ev.pos (by omega) (Ev.pos (by omega) ?_)))
        rw [hr]
        exact Ev.bind e1 (Ev.pos (by omega) (Ev.now _))
      · refine .inr ⟨w, by omega, by omega, e4, fun r hr' => Ev.step (fun k => F88.l0.eq_2 ..) (Ev.pos (by omega) (Ev.pos (by omega) ?_))⟩
        rw [hr, wi_ (by omega)]
        exact Ev.bind e1 (Ev.neg (by omega) hr')
    obtain ⟨w, e1, e2⟩ := sz_list z148 bMessage F88.l0 l hstep (fun i y hi => Ev.step (fun k => F88.l0.eq_2 ..) (Ev.neg (by omega) (Ev.now _))) l.length 0 (x - (l.length : Int)) (by omega) (by omega) (by omega)
    refine ⟨w, Ev.neg hn e1, ?_⟩
    rcases e2 with e2 | ⟨e2, e3, e4⟩
    · exact .inl e2
    · exact .inr ⟨e2, by omega, by omega, sz_all _ _ _ e4⟩

theorem toMessage_ev (a0 : Int) (a1 : List S173) (h1 : (a1.length ≤ 1048576 ∧ ∀ y ∈ a1, bSegment y)) : Ev (fun k => F110.f k a0 a1) (a0, (a1.map cSegment)) := by
  unfold F110.f
  exact Ev.bind (toSegmentS_ev a1 h1.1 h1.2) (Ev.now _)

theorem toMessageS_ev (l : List S148) (hl : l.length ≤ 1048576) (hb : ∀ y ∈ l, bMessage y) : Ev (fun k => F89.f k l) (l.map cMessage) := by
  unfold F89.f
  refine Ev.pos (by omega) (Ev.pos (by omega) ?_)
  refine tos_list z148 cMessage F89.l0 l (fun D i r hi hd h => ?_) (fun D i hi => ?_) l.length _ 0 (by omega) (by simp) (fun j hj => by omega)
  · have hr : rd_T148 l (i : Int) = l.getD i z148 := by unfold rd_T148; rw [Int.toNat_natCast]
    refine Ev.step (fun k => F89.l0.eq_2 ..) (Ev.pos (by omega) (Ev.pos (by omega) ?_))
    rw [hr, wi_ (by omega)]
    refine Ev.bind (toMessage_ev (l.getD i z148).f0 (l.getD i z148).f1 (hb _ (getD_mem z148 hi))) (Ev.pos (by omega) ?_)
    exact h
  · exact Ev.step (fun k => F89.l0.eq_2 ..) (Ev.neg (by omega) (Ev.now _))

theorem eqMessage_refl (a0 : Int) (a1 : List S49) (h1 : ((a1.length : Int) ≤ 4611686018427387904 ∧ ∀ y ∈ a1, eSegment y)) : Ev (fun k => F116.f k a0 a1 a0 a1) true := by
  unfold F116.f
  exact Ev.pos rfl (Ev.bind (eqSegmentS_refl a1 h1.1 h1.2) (Ev.pos rfl (Ev.now _)))

/-- Of a Message: its lists are bounded. -/
def eMessage (x : S56) : Prop := ((x.f1.length : Int) ≤ 4611686018427387904 ∧ ∀ y ∈ x.f1, eSegment y)
theorem eqMessageS_refl (l : List S56) (hl : (l.length : Int) ≤ 4611686018427387904) (hb : ∀ y ∈ l, eMessage y) : Ev (fun k => F98.f k l l) true := by
  unfold F98.f
  refine Ev.pos rfl (eqs_refl F98.l0 l (fun i hi h => ?_) (fun i hi => ?_) l.length 0 (by omega))
  · have hr : rd_T56 l (i : Int) = l.getD i z56 := by unfold rd_T56; rw [Int.toNat_natCast]
    refine Ev.step (fun k => F98.l0.eq_2 ..) (Ev.pos (by omega) (Ev.pos (by omega) (Ev.pos (by omega) ?_)))
    rw [hr, wi_ (by omega)]
    exact Ev.bind (eqMessage_refl (l.getD i z56).f0 (l.getD i z56).f1 (hb _ (getD_mem z56 hi))) (Ev.pos rfl h)
  · exact Ev.step (fun k => F98.l0.eq_2 ..) (Ev.neg (by omega) (Ev.now _))

/-- A Bundle that is bounded; a Bundle of the laws as the program has it. -/
def bBundle (x : S89) : Prop := (x.f2.length ≤ 1048576 ∧ ∀ y ∈ x.f2, bMessage y)
def cBundle (x : S89) : S53 := ⟨x.f0, x.f1, (x.f2.map cMessage)⟩

theorem szBundle_ev (a0 : Int) (a1 : Int) (a2 : List S148) (x : Int) (g0 : 0 ≤ x) (g1 : x ≤ 1048576) (h2 : (a2.length ≤ maxLen ∧ ∀ y ∈ a2, q148 y)) : ∃ w, Ev (fun k => F52.f k a0 a1 a2 x) w ∧ (w = -1 ∨ (0 ≤ w ∧ w ≤ x ∧ (a2.length ≤ 1048576 ∧ ∀ y ∈ a2, bMessage y))) := by
  unfold F52.f
  obtain ⟨w2, u2, t2⟩ := szMessageS_ev a2 x (by omega) (by omega) h2.1 h2.2
  rcases t2 with t2 | ⟨t2, s2, b2⟩
  · exact ⟨-1, Ev.bind u2 (Ev.pos (by omega) (Ev.now _)), .inl rfl⟩
  exact ⟨w2, Ev.bind u2 (Ev.neg (by omega) (Ev.now _)), .inr ⟨by omega, by omega, (b2)⟩⟩

theorem szBundleS_ev (l : List S89) (x : Int) (h0 : 0 ≤ x) (h1 : x ≤ 1048576) (hl : l.length ≤ maxLen) (hs : ∀ y ∈ l, q89 y) : ∃ w, Ev (fun k => F22.f k l x) w ∧ (w = -1 ∨ (0 ≤ w ∧ w ≤ x ∧ l.length ≤ 1048576 ∧ ∀ y ∈ l, bBundle y)) := by
  simp only [maxLen] at hl
  have hq : ∀ i, i < l.length → q89 (l.getD i z89) := fun i hi => hs _ (getD_mem _ hi)
  unfold F22.f
  have hw : wrap64 (x - (l.length : Int)) = x - (l.length : Int) := wrap_id (by omega) (by omega)
  rw [hw]
  by_cases hn : x - (l.length : Int) < 0
  · exact ⟨-1, Ev.pos hn (Ev.now _), .inl rfl⟩
  · have hstep : ∀ (i : Nat) (y : Int), i < l.length → 0 ≤ y → y ≤ 1048576 → Ev (fun k => F22.l0 k l y (i : Int)) (-1) ∨ ∃ x', 0 ≤ x' ∧ x' ≤ y ∧ bBundle (l.getD i z89) ∧ ∀ r, Ev (fun k => F22.l0 k l x' ((i + 1 : Nat) : Int)) r → Ev (fun k => F22.l0 k l y (i : Int)) r := by
      intro i y hi g0 g1
      have hr : rd_T89 l (i : Int) = l.getD i z89 := by unfold rd_T89; rw [Int.toNat_natCast]
      obtain ⟨w, e1, e2⟩ := szBundle_ev (l.getD i z89).f0 (l.getD i z89).f1 (l.getD i z89).f2 y g0 g1 (hq i hi).2.2
      rcases e2 with e2 | ⟨e2, e3, e4⟩
      · refine .inl (Ev.step (fun k => F22.l0.eq_2 ..) (Ev.pos (by omega) (Ev.pos (by omega) ?_)))
        rw [hr]
        exact Ev.bind e1 (Ev.pos (by omega) (Ev.now _))
      · refine .inr ⟨w, by omega, by omega, e4, fun r hr' => Ev.step (fun k => F22.l0.eq_2 ..) (Ev.pos (by omega) (Ev.pos (by omega) ?_))⟩
        rw [hr, wi_ (by omega)]
        exact Ev.bind e1 (Ev.neg (by omega) hr')
    obtain ⟨w, e1, e2⟩ := sz_list z89 bBundle F22.l0 l hstep (fun i y hi => Ev.step (fun k => F22.l0.eq_2 ..) (Ev.neg (by omega) (Ev.now _))) l.length 0 (x - (l.length : Int)) (by omega) (by omega) (by omega)
    refine ⟨w, Ev.neg hn e1, ?_⟩
    rcases e2 with e2 | ⟨e2, e3, e4⟩
    · exact .inl e2
    · exact .inr ⟨e2, by omega, by omega, sz_all _ _ _ e4⟩

theorem toBundle_ev (a0 : Int) (a1 : Int) (a2 : List S148) (h2 : (a2.length ≤ 1048576 ∧ ∀ y ∈ a2, bMessage y)) : Ev (fun k => F53.f k a0 a1 a2) (a0, a1, (a2.map cMessage)) := by
  unfold F53.f
  exact Ev.bind (toMessageS_ev a2 h2.1 h2.2) (Ev.now _)

theorem toBundleS_ev (l : List S89) (hl : l.length ≤ 1048576) (hb : ∀ y ∈ l, bBundle y) : Ev (fun k => F28.f k l) (l.map cBundle) := by
  unfold F28.f
  refine Ev.pos (by omega) (Ev.pos (by omega) ?_)
  refine tos_list z89 cBundle F28.l0 l (fun D i r hi hd h => ?_) (fun D i hi => ?_) l.length _ 0 (by omega) (by simp) (fun j hj => by omega)
  · have hr : rd_T89 l (i : Int) = l.getD i z89 := by unfold rd_T89; rw [Int.toNat_natCast]
    refine Ev.step (fun k => F28.l0.eq_2 ..) (Ev.pos (by omega) (Ev.pos (by omega) ?_))
    rw [hr, wi_ (by omega)]
    refine Ev.bind (toBundle_ev (l.getD i z89).f0 (l.getD i z89).f1 (l.getD i z89).f2 (hb _ (getD_mem z89 hi))) (Ev.pos (by omega) ?_)
    exact h
  · exact Ev.step (fun k => F28.l0.eq_2 ..) (Ev.neg (by omega) (Ev.now _))

theorem eqBundle_refl (a0 : Int) (a1 : Int) (a2 : List S56) (h2 : ((a2.length : Int) ≤ 4611686018427387904 ∧ ∀ y ∈ a2, eMessage y)) : Ev (fun k => F64.f k a0 a1 a2 a0 a1 a2) true := by
  unfold F64.f
  exact Ev.pos rfl (Ev.pos rfl (Ev.bind (eqMessageS_refl a2 h2.1 h2.2) (Ev.pos rfl (Ev.now _))))

/-- Of a Bundle: its lists are bounded. -/
def eBundle (x : S53) : Prop := ((x.f2.length : Int) ≤ 4611686018427387904 ∧ ∀ y ∈ x.f2, eMessage y)
theorem eqBundleS_refl (l : List S53) (hl : (l.length : Int) ≤ 4611686018427387904) (hb : ∀ y ∈ l, eBundle y) : Ev (fun k => F32.f k l l) true := by
  unfold F32.f
  refine Ev.pos rfl (eqs_refl F32.l0 l (fun i hi h => ?_) (fun i hi => ?_) l.length 0 (by omega))
  · have hr : rd_T53 l (i : Int) = l.getD i z53 := by unfold rd_T53; rw [Int.toNat_natCast]
    refine Ev.step (fun k => F32.l0.eq_2 ..) (Ev.pos (by omega) (Ev.pos (by omega) (Ev.pos (by omega) ?_)))
    rw [hr, wi_ (by omega)]
    exact Ev.bind (eqBundle_refl (l.getD i z53).f0 (l.getD i z53).f1 (l.getD i z53).f2 (hb _ (getD_mem z53 hi))) (Ev.pos rfl h)
  · exact Ev.step (fun k => F32.l0.eq_2 ..) (Ev.neg (by omega) (Ev.now _))

theorem szInterchange_ev (a0 : ByteArray) (a1 : ByteArray) (a2 : Int) (a3 : List S89) (x : Int) (g0 : 0 ≤ x) (g1 : x ≤ 1048576) (h0 : a0.size ≤ maxLen) (h1 : a1.size ≤ maxLen) (h3 : (a3.length ≤ maxLen ∧ ∀ y ∈ a3, q89 y)) : ∃ w, Ev (fun k => F5.f k a0 a1 a2 a3 x) w ∧ (w = -1 ∨ (0 ≤ w ∧ w ≤ x ∧ bT a0 ∧ bT a1 ∧ (a3.length ≤ 1048576 ∧ ∀ y ∈ a3, bBundle y))) := by
  unfold F5.f
  have m0 : a0.size ≤ 9223372036854775807 := h0
  have e0 : wrap64 (x - (a0.size : Int)) = x - (a0.size : Int) := wrap_id (by omega) (by omega)
  rw [e0]
  by_cases n0 : x - (a0.size : Int) < 0
  · exact ⟨-1, Ev.pos n0 (Ev.now _), .inl rfl⟩
  have m1 : a1.size ≤ 9223372036854775807 := h1
  have e1 : wrap64 ((x - (a0.size : Int)) - (a1.size : Int)) = (x - (a0.size : Int)) - (a1.size : Int) := wrap_id (by omega) (by omega)
  rw [e1]
  by_cases n1 : (x - (a0.size : Int)) - (a1.size : Int) < 0
  · exact ⟨-1, Ev.neg n0 (Ev.pos n1 (Ev.now _)), .inl rfl⟩
  obtain ⟨w3, u3, t3⟩ := szBundleS_ev a3 ((x - (a0.size : Int)) - (a1.size : Int)) (by omega) (by omega) h3.1 h3.2
  rcases t3 with t3 | ⟨t3, s3, b3⟩
  · exact ⟨-1, Ev.neg n0 (Ev.neg n1 (Ev.bind u3 (Ev.pos (by omega) (Ev.now _)))), .inl rfl⟩
  exact ⟨w3, Ev.neg n0 (Ev.neg n1 (Ev.bind u3 (Ev.neg (by omega) (Ev.now _)))), .inr ⟨by omega, by omega, (by unfold bT; omega), (by unfold bT; omega), (b3)⟩⟩

theorem toInterchange_ev (a0 : ByteArray) (a1 : ByteArray) (a2 : Int) (a3 : List S89) (h3 : (a3.length ≤ 1048576 ∧ ∀ y ∈ a3, bBundle y)) : Ev (fun k => F7.f k a0 a1 a2 a3) (a0, a1, a2, (a3.map cBundle)) := by
  unfold F7.f
  exact Ev.bind (toBundleS_ev a3 h3.1 h3.2) (Ev.now _)

theorem eqInterchange_refl (a0 : ByteArray) (a1 : ByteArray) (a2 : Int) (a3 : List S53) (h3 : ((a3.length : Int) ≤ 4611686018427387904 ∧ ∀ y ∈ a3, eBundle y)) : Ev (fun k => F10.f k a0 a1 a2 a3 a0 a1 a2 a3) true := by
  unfold F10.f
  exact Ev.pos rfl (Ev.pos rfl (Ev.pos rfl (Ev.bind (eqBundleS_refl a3 h3.1 h3.2) (Ev.pos rfl (Ev.now _)))))

/-! parts of a segment: printed, at most forty; a tag: three great letters -/
def printB (c : Int) : Bool := decide (32 ≤ c ∧ c ≤ 126)
def partB (s : ByteArray) : Bool := decide (s.size ≤ 40) && (bytesOf s).all printB
def tagB (s : ByteArray) : Bool := decide (s.size = 3) && (bytesOf s).all great
theorem specPart_loop (s : ByteArray) (hs : s.size ≤ 1048576) : ∀ (l : List Int) (i : Nat), (bytesOf s).drop i = l → Ev (fun k => F73.l0 k s (i : Int)) (l.all printB) := by
  intro l
  induction l with
  | nil =>
    intro i h
    have h0 := drop_nil h
    exact Ev.step (fun k => F73.l0.eq_2 ..) (Ev.neg (by omega) (Ev.now _))
  | cons c r ih =>
    intro i h
    obtain ⟨h1, h2, h3, h4, h5⟩ := drop_cons h
    refine Ev.step (fun k => F73.l0.eq_2 ..) (Ev.pos h1 (Ev.pos (by omega) ?_))
    rw [h2, wrap_id (x := (i : Int) + 1) (by omega) (by omega), show (i : Int) + 1 = ((i + 1 : Nat) : Int) by omega]
    refine Ev.ite (fun g => Ev.ret ?_) (fun g => Ev.ite (fun g2 => Ev.ret ?_) (fun g2 => (ih (i + 1) h3).to ?_))
    · have : printB c = false := by simp [printB]; omega
      simp [this]
    · have : printB c = false := by simp [printB]; omega
      simp [this]
    · have : printB c = true := by simp [printB]; omega
      simp [this]
theorem specPart_ev (s : ByteArray) (hs : s.size ≤ 1048576) : Ev (fun k => F73.f k s) (partB s) := by
  unfold F73.f
  refine Ev.ite (fun g => Ev.ret ?_) (fun g => (specPart_loop s hs _ 0 rfl).to ?_)
  · have : decide (s.size ≤ 40) = false := by simp; omega
    simp [partB, this]
  · have : decide (s.size ≤ 40) = true := by simp; omega
    simp [partB, this]
theorem implPrinted_loop (s : ByteArray) (hs : s.size ≤ 1048576) : ∀ (l : List Int) (i : Nat), (bytesOf s).drop i = l → Ev (fun k => F133.l0 k s (s.size : Int) (i : Int)) (l.all printB) := by
  intro l
  induction l with
  | nil =>
    intro i h
    have h0 := drop_nil h
    exact Ev.step (fun k => F133.l0.eq_2 ..) (Ev.neg (by omega) (Ev.now _))
  | cons c r ih =>
    intro i h
    obtain ⟨h1, h2, h3, h4, h5⟩ := drop_cons h
    refine Ev.step (fun k => F133.l0.eq_2 ..) (Ev.pos h1 (Ev.pos (by omega) (Ev.pos h1 ?_)))
    rw [h2, wrap_id (x := (i : Int) + 1) (by omega) (by omega), show (i : Int) + 1 = ((i + 1 : Nat) : Int) by omega]
    refine Ev.ite (fun g => Ev.ret ?_) (fun g => Ev.ite (fun g2 => Ev.ret ?_) (fun g2 => (ih (i + 1) h3).to ?_))
    · have : printB c = false := by simp [printB]; omega
      simp [this]
    · have : printB c = false := by simp [printB]; omega
      simp [this]
    · have : printB c = true := by simp [printB]; omega
      simp [this]
theorem implPart_ev (s : ByteArray) (hs : s.size ≤ 1048576) : Ev (fun k => F120.f k s) (partB s) := by
  unfold F120.f
  refine Ev.ite (fun g => ?_) (fun g => Ev.ret ?_)
  · have h2 : decide (s.size ≤ 40) = true := by simp; omega
    refine Ev.bind (show Ev (fun k => F133.f k s) ((bytesOf s).all printB) from implPrinted_loop s hs _ 0 rfl) (Ev.ret ?_)
    simp [partB, h2]
  · have : decide (s.size ≤ 40) = false := by simp; omega
    simp [partB, this]
theorem specTag_loop (s : ByteArray) (hs : s.size = 3) : ∀ (l : List Int) (i : Nat), (bytesOf s).drop i = l → Ev (fun k => F72.l0 k s (i : Int)) (l.all great) := by
  intro l
  induction l with
  | nil =>
    intro i h
    have h0 := drop_nil h
    exact Ev.step (fun k => F72.l0.eq_2 ..) (Ev.neg (by omega) (Ev.now _))
  | cons c r ih =>
    intro i h
    obtain ⟨h1, h2, h3, h4, h5⟩ := drop_cons h
    refine Ev.step (fun k => F72.l0.eq_2 ..) (Ev.pos (by omega) (Ev.pos (by omega) (Ev.pos h1 ?_)))
    rw [h2, wrap_id (x := (i : Int) + 1) (by omega) (by omega), show (i : Int) + 1 = ((i + 1 : Nat) : Int) by omega]
    refine Ev.ite (fun g => Ev.ret ?_) (fun g => Ev.ite (fun g2 => Ev.ret ?_) (fun g2 => (ih (i + 1) h3).to ?_))
    · have : great c = false := by simp [great]; omega
      simp [this]
    · have : great c = false := by simp [great]; omega
      simp [this]
    · have : great c = true := by simp [great]; omega
      simp [this]
theorem specTag_ev (s : ByteArray) : Ev (fun k => F72.f k s) (tagB s) := by
  unfold F72.f
  refine Ev.ite (fun g => (specTag_loop s (by omega) _ 0 rfl).to ?_) (fun g => Ev.ret ?_)
  · have : decide (s.size = 3) = true := by simp; omega
    simp [tagB, this]
  · have : decide (s.size = 3) = false := by simp; omega
    simp [tagB, this]
theorem isTag_eq (s : ByteArray) : F121.f s = some (tagB s) := by
  unfold F121.f
  by_cases h : s.size = 3
  · obtain ⟨a, b, c, hb⟩ : ∃ a b c, bytesOf s = [a, b, c] := by
      have := length_bytesOf s
      rw [h] at this
      match bytesOf s, this with
      | [a, b, c], _ => exact ⟨a, b, c, rfl⟩
    obtain ⟨h0, e0, d0, _⟩ := drop_cons (i := 0) (s := s) (c := a) (r := [b, c]) (by simpa using hb)
    obtain ⟨h1, e1, d1, _⟩ := drop_cons (i := 1) (s := s) d0
    obtain ⟨h2, e2, d2, _⟩ := drop_cons (i := 2) (s := s) d1
    have e0 : bt s 0 = a := e0
    have e1 : bt s 1 = b := e1
    have e2 : bt s 2 = c := e2
    rw [if_pos (by omega), if_pos (by omega), if_pos (by omega), if_pos (by omega), e0, e1, e2, isGreat_eq, isGreat_eq, isGreat_eq]
    have : decide (s.size = 3) = true := by simpa using h
    cases ha : great a <;> cases hb2 : great b <;> simp [tagB, this, hb, ha, hb2]
  · rw [if_neg (by omega)]
    have : decide (s.size = 3) = false := by simpa using h
    simp [tagB, this]

/-! a right segment -/
def lastE (p : List ByteArray) : Bool := ((rdOf ByteArray.empty p (wrap64 ((p.length : Int) - 1))).toList == ([] : List UInt8))
def emptyE (p : List ByteArray) : Bool := decide (p.length = 1) && lastE p
def elP (p : List ByteArray) : Bool := decide (1 ≤ p.length ∧ p.length ≤ 4) && !(decide (p.length > 1) && lastE p) && p.all partB
def lastEl (L : List S91) : Bool := match L.getLast? with | none => false | some e => emptyE e.f0
/-- A list's elements, the last one apart. -/
def segL : List S91 → Bool
  | [] => true
  | [e] => elP e.f0 && !emptyE e.f0
  | e :: e' :: r => elP e.f0 && segL (e' :: r)
theorem segL_eq : ∀ L : List S91, segL L = (L.all (fun e => elP e.f0) && !lastEl L)
  | [] => rfl
  | [e] => by simp [segL, lastEl]
  | e :: e' :: r => by
    have := segL_eq (e' :: r)
    have h2 : lastEl (e :: e' :: r) = lastEl (e' :: r) := by simp [lastEl]
    rw [segL, this, h2]
    simp [Bool.and_assoc]
def segB (s : ByteArray) (L : List S91) : Bool := tagB s && decide (L.length ≤ 10) && segL L
def bEl (p : List ByteArray) : Prop := p.length ≤ 1048576 ∧ ∀ s ∈ p, s.size ≤ 1048576
theorem rdlast (L : List S91) (h : 0 < L.length) (h1 : L.length ≤ 1048576) : 0 ≤ wrap64 ((L.length : Int) - 1) ∧ wrap64 ((L.length : Int) - 1) < (L.length : Int) ∧ lastEl L = emptyE (rd_T91 L (wrap64 ((L.length : Int) - 1))).f0 := by
  rw [wrap_id (by omega) (by omega)]
  refine ⟨by omega, by omega, ?_⟩
  unfold rd_T91 lastEl
  rw [List.getLast?_eq_getElem?, List.getD_eq_getElem?_getD, show ((L.length : Int) - 1).toNat = L.length - 1 by omega, List.getElem?_eq_getElem (by omega)]
  rfl
theorem l02Empty_eq (p : List ByteArray) : F74.f p = some (emptyE p) := by
  unfold F74.f emptyE
  by_cases h : p.length = 1
  · rw [if_pos (by omega), if_pos (by omega)]
    have hw : wrap64 ((p.length : Int) - 1) = 0 := by rw [wrap_id (by omega) (by omega)]; omega
    unfold lastE
    rw [hw]
    simp [h]
  · rw [if_neg (by omega)]
    simp [h]
theorem spec1_loop (s : ByteArray) (L : List S91) (p : List ByteArray) (hp : bEl p) (x : Int) (R : Bool) (hR : Ev (fun k => F41.l0 k (wrap64 (x + 1)) s L) R) : ∀ (r : List ByteArray) (j : Nat), p.drop j = r → Ev (fun k => F41.l1 k x p (j : Int) s L) (r.all partB && R) := by
  have hl := hp.1
  intro r
  induction r with
  | nil =>
    intro j h
    have h0 := ldrop_nil h
    exact Ev.step (fun k => F41.l1.eq_2 ..) (Ev.neg (by omega) (hR.to (by simp)))
  | cons c r ih =>
    intro j h
    obtain ⟨h1, h2, h3⟩ := rdOf_cons ByteArray.empty h
    have hm : c ∈ p := List.mem_of_mem_drop (by rw [h]; exact List.mem_cons_self)
    have hw := wi_ (i := j) (by omega)
    refine Ev.step (fun k => F41.l1.eq_2 ..) (Ev.pos h1 (Ev.pos (by omega) ?_))
    rw [h2, hw]
    refine Ev.bind (specPart_ev c (hp.2 c hm)) (Ev.ite (fun g => (ih (j + 1) h3).to (by simp [g])) (fun g => Ev.ret (by simp [g])))
theorem specSeg_loop (s : ByteArray) (L : List S91) (hL : L.length ≤ 1048576) (hE : ∀ e ∈ L, bEl e.f0) : ∀ (r : List S91) (i : Nat), L.drop i = r → Ev (fun k => F41.l0 k (i : Int) s L) (r.all (fun e => elP e.f0) && !lastEl L) := by
  intro r
  induction r with
  | nil =>
    intro i h
    have h0 := ldrop_nil h
    refine Ev.step (fun k => F41.l0.eq_2 ..) (Ev.neg (by omega) (Ev.ite (fun g => Ev.ret ?_) (fun g => ?_)))
    · have : L = [] := List.length_eq_zero_iff.1 (by omega)
      rw [this]; rfl
    · obtain ⟨h1, h2, h3⟩ := rdlast L (by omega) hL
      exact Ev.pos h1 (Ev.pos h2 (Ev.bindc (l02Empty_eq _) (Ev.ret (by rw [h3]; simp))))
  | cons e r ih =>
    intro i h
    obtain ⟨h1, h2, h3⟩ := ldrop_cons z91 h
    have hr : rd_T91 L (i : Int) = e := h2
    have hb := hE e (List.mem_of_mem_drop (by rw [h]; exact List.mem_cons_self))
    have hbl := hb.1
    have hw := wi_ (i := i) (by omega)
    have hi := ih (i + 1) h3
    rw [← hw] at hi
    have inner : Ev (fun k => F41.l1 k (i : Int) e.f0 0 s L) (e.f0.all partB && (r.all (fun e => elP e.f0) && !lastEl L)) := spec1_loop s L e.f0 hb (i : Int) _ hi _ 0 rfl
    have hw2 : wrap64 ((e.f0.length : Int) - 1) = (e.f0.length : Int) - 1 := wrap_id (by omega) (by omega)
    refine Ev.step (fun k => F41.l0.eq_2 ..) (Ev.pos h1 (Ev.pos (by omega) ?_))
    rw [hr]
    refine Ev.ite (fun g => ?_) (fun g => Ev.ite (fun g2 => ?_) (fun g2 => Ev.ite (fun g3 => Ev.pos (by rw [hw2]; omega) (Ev.pos (by rw [hw2]; omega) ?_)) (fun g3 => ?_)))
    · have : elP e.f0 = false := by simp [elP]; omega
      exact Ev.step (fun k => F41.j2.eq_2 ..) (Ev.pos rfl (Ev.ret (by simp [this])))
    · have : elP e.f0 = false := by simp [elP]; omega
      exact Ev.step (fun k => F41.j2.eq_2 ..) (Ev.pos rfl (Ev.ret (by simp [this])))
    · refine Ev.step (fun k => F41.j2.eq_2 ..) (Ev.ite (fun g4 => Ev.ret ?_) (fun g4 => inner.to ?_))
      · have : elP e.f0 = false := by
          have h4 : lastE e.f0 = true := g4
          have h5 : decide (e.f0.length > 1) = true := by simp; omega
          simp [elP, h4, h5]
        simp [this]
      · have : elP e.f0 = e.f0.all partB := by
          have h4 : lastE e.f0 = false := by simpa [lastE] using g4
          have h5 : decide (1 ≤ e.f0.length ∧ e.f0.length ≤ 4) = true := by simp; omega
          simp only [elP, h4, h5]; simp
        simp [this, Bool.and_assoc]
    · refine Ev.step (fun k => F41.j2.eq_2 ..) (Ev.neg (by simp) (inner.to ?_))
      have : elP e.f0 = e.f0.all partB := by
        have h4 : decide (e.f0.length > 1) = false := by simp; omega
        have h5 : decide (1 ≤ e.f0.length ∧ e.f0.length ≤ 4) = true := by simp; omega
        simp only [elP, h4, h5]; simp
      simp [this, Bool.and_assoc]
theorem specSeg_ev (s : ByteArray) (L : List S91) (hL : L.length ≤ 1048576) (hE : ∀ e ∈ L, bEl e.f0) : Ev (fun k => F41.f k s L) (segB s L) := by
  unfold F41.f
  have h0 : Ev (fun k => F41.l0 k 0 s L) (segL L) := (specSeg_loop s L hL hE L 0 rfl).to (segL_eq L).symm
  refine Ev.bind (specTag_ev s) (Ev.ite (fun g => Ev.step (fun k => F41.j0.eq_2 ..) (Ev.ite (fun g2 => Ev.ret ?_) (fun g2 => h0.to ?_))) (fun g => Ev.step (fun k => F41.j0.eq_2 ..) (Ev.pos rfl (Ev.ret ?_))))
  · have : decide (L.length ≤ 10) = false := by have := of_decide_eq_true g2; simp; omega
    simp [segB, this]
  · have : decide (L.length ≤ 10) = true := by simp at g2; simp; omega
    simp only [segB, g, this]; simp
  · simp [segB, g]
theorem partsIdx_loop (p : List ByteArray) (hp : bEl p) : ∀ (r : List ByteArray) (i : Nat), p.drop i = r → ∃ x : Int, Ev (fun k => F132.l0 k p (p.length : Int) (i : Int)) x ∧ decide (x ≥ 0) = !(r.all partB) := by
  have hl := hp.1
  intro r
  induction r with
  | nil =>
    intro i h
    have h0 := ldrop_nil h
    exact ⟨-1, Ev.step (fun k => F132.l0.eq_2 ..) (Ev.neg (by omega) (Ev.now _)), by simp⟩
  | cons c r ih =>
    intro i h
    obtain ⟨h1, h2, h3⟩ := rdOf_cons ByteArray.empty h
    have hm : c ∈ p := List.mem_of_mem_drop (by rw [h]; exact List.mem_cons_self)
    have hw := wi_ (i := i) (by omega)
    obtain ⟨x, hx, he⟩ := ih (i + 1) h3
    have h1c : Ev (fun k => F119.f k c) (!partB c) := by
      unfold F119.f
      exact Ev.bind (implPart_ev c (hp.2 c hm)) (Ev.now _)
    cases hc : partB c with
    | false =>
      refine ⟨i, Ev.step (fun k => F132.l0.eq_2 ..) (Ev.pos h1 (Ev.pos (by omega) (Ev.pos h1 ?_))), by simp [hc]⟩
      rw [h2]
      exact Ev.bind h1c (Ev.pos (by simp [hc]) (Ev.now _))
    | true =>
      refine ⟨x, Ev.step (fun k => F132.l0.eq_2 ..) (Ev.pos h1 (Ev.pos (by omega) (Ev.pos h1 ?_))), by rw [he]; simp [hc]⟩
      rw [h2, hw]
      exact Ev.bind h1c (Ev.neg (by simp [hc]) hx)
theorem partsAny_ev (p : List ByteArray) (hp : bEl p) : Ev (fun k => F118.f k p) (!(p.all partB)) := by
  obtain ⟨x, hx, he⟩ := partsIdx_loop p hp p 0 rfl
  unfold F118.f
  refine Ev.bind (show Ev (fun k => F132.f k p) x from hx) ?_
  exact Ev.ret he
theorem implSeg_loop (s : ByteArray) (L : List S91) (hL : L.length ≤ 1048576) (hE : ∀ e ∈ L, bEl e.f0) : ∀ (r : List S91) (i : Nat), L.drop i = r → Ev (fun k => F105.l0 k L (L.length : Int) (i : Int) s L) (segL r && (tagB s && decide (L.length ≤ 10))) := by
  intro r
  induction r with
  | nil =>
    intro i h
    have h0 := ldrop_nil h
    refine Ev.step (fun k => F105.l0.eq_2 ..) (Ev.neg (by omega) (Ev.bindc (isTag_eq s) (Ev.ite (fun g => Ev.ret ?_) (fun g => Ev.ret ?_))))
    · simp only [segL, g, Bool.true_and]
      simp only [decide_eq_decide]; omega
    · simp [g]
  | cons e r ih =>
    intro i h
    obtain ⟨h1, h2, h3⟩ := ldrop_cons z91 h
    have hr : rd_T91 L (i : Int) = e := h2
    have hb := hE e (List.mem_of_mem_drop (by rw [h]; exact List.mem_cons_self))
    have hbl := hb.1
    have hw := wi_ (i := i) (by omega)
    have hi := ih (i + 1) h3
    have hrl : r.length + (i + 1) = L.length := by
      have := congrArg List.length h3
      rw [List.length_drop] at this
      omega
    have hw2 : wrap64 ((e.f0.length : Int) - 1) = (e.f0.length : Int) - 1 := wrap_id (by omega) (by omega)
    have hw3 : wrap64 ((L.length : Int) - 1) = (L.length : Int) - 1 := wrap_id (by omega) (by omega)
    have hno : elP e.f0 = false → (segL (e :: r) && (tagB s && decide (L.length ≤ 10))) = false := by
      intro h0
      cases r <;> simp [segL, h0]
    refine Ev.step (fun k => F105.l0.eq_2 ..) (Ev.pos h1 (Ev.pos (by omega) (Ev.pos h1 (Ev.bindc (within_eq _ _ _) ?_))))
    rw [hr]
    refine Ev.ite (fun g => Ev.bind (partsAny_ev e.f0 hb) (Ev.step (fun k => F105.j1.eq_2 ..) (Ev.ite (fun g2 => Ev.ret ?_) (fun g2 => ?_)))) (fun g => Ev.step (fun k => F105.j1.eq_2 ..) (Ev.pos rfl (Ev.ret ?_)))
    · refine (hno ?_).symm
      have g3 : e.f0.all partB = false := by simpa using g2
      unfold elP; rw [g3]; simp
    · have g3 : e.f0.all partB = true := by simpa using g2
      have gw : 1 ≤ e.f0.length ∧ e.f0.length ≤ 4 := by simp [withinP] at g; omega
      refine Ev.pos (by rw [hw2]; omega) (Ev.pos (by rw [hw2]; omega) (Ev.ite (fun g4 => Ev.ite (fun g5 => Ev.ret ?_) (fun g5 => Ev.ite (fun g6 => Ev.ret ?_) (fun g6 => ?_))) (fun g4 => ?_)))
      · refine (hno ?_).symm
        have h4 : lastE e.f0 = true := by simpa [lastE] using g4
        have h5 : decide (e.f0.length > 1) = true := by simp; omega
        simp [elP, h4, h5]
      · have h4 : lastE e.f0 = true := by simpa [lastE] using g4
        have : r = [] := List.length_eq_zero_iff.1 (by rw [hw3] at g6; omega)
        subst this
        have h5 : emptyE e.f0 = true := by
          unfold emptyE
          rw [h4]
          simp; omega
        simp [segL, h5]
      · rw [hw]
        refine hi.to ?_
        have h4 : elP e.f0 = true := by
          have h5 : decide (e.f0.length > 1) = false := by simp; omega
          have h6 : decide (1 ≤ e.f0.length ∧ e.f0.length ≤ 4) = true := by simpa using gw
          simp only [elP, h5, h6, g3]; simp
        match r, hrl with
        | [], hrl => exact absurd (show (i : Int) = wrap64 ((L.length : Int) - 1) by rw [hw3]; simp at hrl; omega) g6
        | e' :: r', _ => simp [segL, h4]
      · rw [hw]
        refine hi.to ?_
        have h7 : lastE e.f0 = false := by simpa [lastE] using g4
        have h4 : elP e.f0 = true := by
          have h6 : decide (1 ≤ e.f0.length ∧ e.f0.length ≤ 4) = true := by simpa using gw
          simp only [elP, h7, h6, g3]; simp
        have h8 : emptyE e.f0 = false := by simp [emptyE, h7]
        match r with
        | [] => simp [segL, h4, h8]
        | e' :: r' => simp [segL, h4]
    · refine (hno ?_).symm
      have : decide (1 ≤ e.f0.length ∧ e.f0.length ≤ 4) = false := by simp [withinP] at g; simp; omega
      unfold elP; rw [this]; simp
theorem implSeg_ev (s : ByteArray) (L : List S91) (hL : L.length ≤ 1048576) (hE : ∀ e ∈ L, bEl e.f0) : Ev (fun k => F105.f k s L) (segB s L) := by
  unfold F105.f
  refine (implSeg_loop s L hL hE L 0 rfl).to ?_
  unfold segB
  rw [Bool.and_comm]

theorem idx_loop {α : Type} (z : α) (g : α → Bool) (Q : Nat → Int → Option Int) (L : List α)
    (ht : ∀ i : Nat, i < L.length → g (L.getD i z) = true → Ev (fun k => Q k (i : Int)) (i : Int))
    (hf : ∀ i : Nat, i < L.length → g (L.getD i z) = false → ∀ v, Ev (fun k => Q k ((i + 1 : Nat) : Int)) v → Ev (fun k => Q k (i : Int)) v)
    (h0 : ∀ i : Nat, L.length ≤ i → Ev (fun k => Q k (i : Int)) (-1)) :
    ∀ (d i : Nat), L.length - i = d → ∃ x : Int, Ev (fun k => Q k (i : Int)) x ∧ decide (x ≥ 0) = (L.drop i).any g
  | 0, i, hd => by
    rw [List.drop_eq_nil_of_le (by omega : L.length ≤ i)]
    exact ⟨-1, h0 i (by omega), by simp⟩
  | d + 1, i, hd => by
    have hi : i < L.length := by omega
    have hg : L.getD i z = L[i] := by rw [List.getD_eq_getElem?_getD, List.getElem?_eq_getElem hi]; rfl
    rw [List.drop_eq_getElem_cons hi]
    by_cases h : g (L.getD i z) = true
    · exact ⟨i, ht i hi h, by rw [hg] at h; rw [List.any_cons, h, Bool.true_or]; simp⟩
    · obtain ⟨x, hx, he⟩ := idx_loop z g Q L ht hf h0 d (i + 1) (by omega)
      rw [Bool.not_eq_true] at h
      exact ⟨x, hf i hi h x hx, by rw [he]; rw [hg] at h; rw [List.any_cons, h, Bool.false_or]⟩

/-! a right interchange -/
def ctlB (n : Int) : Bool := decide (1 ≤ n ∧ n ≤ 999999)
theorem l01Control_eq (n : Int) : F40.f n = some (ctlB n) := by
  unfold F40.f ctlB
  split
  · congr 1; simp only [decide_eq_decide]; omega
  · congr 1; symm; simp only [decide_eq_false_iff_not]; omega
theorem isControl_eq (n : Int) : F55.f n = some (ctlB n) := by
  unfold F55.f
  rw [within_eq]
  rfl
def tagsL : List ByteArray := [(⟨#[73, 88, 72]⟩ : ByteArray), (⟨#[71, 82, 72]⟩ : ByteArray), (⟨#[77, 83, 72]⟩ : ByteArray), (⟨#[77, 83, 84]⟩ : ByteArray), (⟨#[71, 82, 84]⟩ : ByteArray), (⟨#[73, 88, 84]⟩ : ByteArray)]
def ownTag (s : ByteArray) : Bool := tagsL.any (fun t => decide (s.toList = t.toList))
theorem l03Own_eq (s : ByteArray) : F42.f s = some (ownTag s) := by
  have e : ∀ l : List UInt8, (⟨l.toArray⟩ : ByteArray).toList = l := fun l => by rw [ByteArray.toList_eq]
  have e1 : (⟨#[73, 88, 72]⟩ : ByteArray).toList = [73, 88, 72] := e [73, 88, 72]
  have e2 : (⟨#[71, 82, 72]⟩ : ByteArray).toList = [71, 82, 72] := e [71, 82, 72]
  have e3 : (⟨#[77, 83, 72]⟩ : ByteArray).toList = [77, 83, 72] := e [77, 83, 72]
  have e4 : (⟨#[77, 83, 84]⟩ : ByteArray).toList = [77, 83, 84] := e [77, 83, 84]
  have e5 : (⟨#[71, 82, 84]⟩ : ByteArray).toList = [71, 82, 84] := e [71, 82, 84]
  have e6 : (⟨#[73, 88, 84]⟩ : ByteArray).toList = [73, 88, 84] := e [73, 88, 84]
  unfold F42.f ownTag tagsL
  simp only [List.any_cons, List.any_nil, e1, e2, e3, e4, e5, e6, Bool.or_false]
  generalize s.toList = l
  by_cases h1 : l = [73, 88, 72]
  · simp [h1]
  by_cases h2 : l = [71, 82, 72]
  · simp [h2]
  by_cases h3 : l = [77, 83, 72]
  · simp [h3]
  by_cases h4 : l = [77, 83, 84]
  · simp [h4]
  by_cases h5 : l = [71, 82, 84]
  · simp [h5]
  simp only [h1, h2, h3, h4, h5, if_false, decide_false, Bool.false_or]
  congr 1
  rw [Bool.eq_iff_iff]
  simp
theorem tagIn_ev (s : ByteArray) : Ev (fun k => F106.f k tagsL s) (ownTag s) := by
  have hl : tagsL.length = 6 := rfl
  obtain ⟨x, hx, he⟩ := idx_loop ByteArray.empty (fun t => decide (s.toList = t.toList)) (fun k i => F122.l0 k tagsL s (tagsL.length : Int) i) tagsL
    (fun i hi g => Ev.step (fun k => F122.l0.eq_2 ..) (Ev.pos (by omega) (Ev.pos (by omega) (Ev.pos (by omega) (Ev.pos (by simpa [rdOf] using g) (Ev.now _))))))
    (fun i hi g v hv => Ev.step (fun k => F122.l0.eq_2 ..) (Ev.pos (by omega) (Ev.pos (by omega) (Ev.pos (by omega) (Ev.neg (by simpa [rdOf] using g) (by rw [wi_ (by omega)]; exact hv))))))
    (fun i hi => Ev.step (fun k => F122.l0.eq_2 ..) (Ev.neg (by omega) (Ev.now _))) _ 0 rfl
  unfold F106.f
  refine Ev.bind (show Ev (fun k => F122.f k tagsL s) x from hx) ?_
  exact Ev.ret he
def bodyB (s : ByteArray) (L : List S91) : Bool := segB s L && !ownTag s
def msgB (n : Int) (G : List S49) : Bool := ctlB n && (decide (G.length ≤ 40) && G.all (fun s => bodyB s.f0 s.f1))
def bunB (kd ct : Int) (M : List S56) : Bool := decide (1 ≤ kd ∧ kd ≤ 7) && (ctlB ct && (decide (1 ≤ M.length ∧ M.length ≤ 10) && M.all (fun m => msgB m.f0 m.f1)))
def ixB (A B : ByteArray) (n : Int) (L : List S53) : Bool := nameP (bytesOf A) && (nameP (bytesOf B) && (ctlB n && (decide (1 ≤ L.length ∧ L.length ≤ 5) && L.all (fun b => bunB b.f0 b.f1 b.f2))))
def bSg (x : S49) : Prop := x.f1.length ≤ 1048576 ∧ ∀ e ∈ x.f1, bEl e.f0
def bMs (x : S56) : Prop := x.f1.length ≤ 1048576 ∧ ∀ s ∈ x.f1, bSg s
def bBn (x : S53) : Prop := x.f2.length ≤ 1048576 ∧ ∀ m ∈ x.f2, bMs m
theorem ix2_loop (x3 x5 : Int) (A B : ByteArray) (n : Int) (L : List S53) (kd ct : Int) (M : List S56) (mc : Int) (G : List S49) (hl : G.length ≤ 1048576) (hG : ∀ s ∈ G, bSg s) (R : Bool) (hR : Ev (fun k => F15.l1 k x3 (wrap64 (x5 + 1)) A B n L kd ct M) R) : ∀ (r : List S49) (j : Nat), G.drop j = r → Ev (fun k => F15.l2 k x3 x5 (j : Int) A B n L kd ct M mc G) (r.all (fun s => bodyB s.f0 s.f1) && R) := by
  intro r
  induction r with
  | nil =>
    intro j h
    have h0 := ldrop_nil h
    exact Ev.step (fun k => F15.l2.eq_2 ..) (Ev.neg (by omega) (hR.to (by simp)))
  | cons c r ih =>
    intro j h
    obtain ⟨h1, h2, h3⟩ := ldrop_cons z49 h
    have hr : rd_T49 G (j : Int) = c := h2
    have hm := hG c (List.mem_of_mem_drop (by rw [h]; exact List.mem_cons_self))
    have hw := wi_ (i := j) (by omega)
    refine Ev.step (fun k => F15.l2.eq_2 ..) (Ev.pos h1 (Ev.pos (by omega) ?_))
    rw [hr, hw]
    refine Ev.bind (specSeg_ev c.f0 c.f1 hm.1 hm.2) (Ev.ite (fun g => Ev.bindc (l03Own_eq c.f0) (Ev.ite (fun g2 => Ev.ret ?_) (fun g2 => (ih (j + 1) h3).to ?_))) (fun g => Ev.ret ?_))
    · simp [bodyB, g2]
    · simp [bodyB, g, g2]
    · simp [bodyB, g]
theorem ix1_loop (x3 : Int) (A B : ByteArray) (n : Int) (L : List S53) (kd ct : Int) (M : List S56) (hl : M.length ≤ 1048576) (hM : ∀ m ∈ M, bMs m) (R : Bool) (hR : Ev (fun k => F15.l0 k (wrap64 (x3 + 1)) A B n L) R) : ∀ (r : List S56) (j : Nat), M.drop j = r → Ev (fun k => F15.l1 k x3 (j : Int) A B n L kd ct M) (r.all (fun m => msgB m.f0 m.f1) && R) := by
  intro r
  induction r with
  | nil =>
    intro j h
    have h0 := ldrop_nil h
    exact Ev.step (fun k => F15.l1.eq_2 ..) (Ev.neg (by omega) (hR.to (by simp)))
  | cons c r ih =>
    intro j h
    obtain ⟨h1, h2, h3⟩ := ldrop_cons z56 h
    have hr : rd_T56 M (j : Int) = c := h2
    have hm := hM c (List.mem_of_mem_drop (by rw [h]; exact List.mem_cons_self))
    have hw := wi_ (i := j) (by omega)
    have hi := ih (j + 1) h3
    rw [← hw] at hi
    have hin := ix2_loop x3 (j : Int) A B n L kd ct M c.f0 c.f1 hm.1 hm.2 _ hi _ 0 rfl
    refine Ev.step (fun k => F15.l1.eq_2 ..) (Ev.pos h1 (Ev.pos (by omega) ?_))
    rw [hr]
    refine Ev.bindc (l01Control_eq c.f0) (Ev.ite (fun g => Ev.step (fun k => F15.j4.eq_2 ..) (Ev.ite (fun g2 => Ev.ret ?_) (fun g2 => hin.to ?_))) (fun g => Ev.step (fun k => F15.j4.eq_2 ..) (Ev.pos rfl (Ev.ret ?_))))
    · have : decide (c.f1.length ≤ 40) = false := by have := of_decide_eq_true g2; simp; omega
      simp [msgB, this]
    · have : decide (c.f1.length ≤ 40) = true := by simp at g2; simp; omega
      rw [List.drop_zero]
      simp only [List.all_cons, msgB, g, this, Bool.true_and, Bool.and_assoc]
    · simp [msgB, g]
theorem ix0_loop (A B : ByteArray) (n : Int) (L : List S53) (hl : L.length ≤ 1048576) (hL : ∀ b ∈ L, bBn b) : ∀ (r : List S53) (j : Nat), L.drop j = r → Ev (fun k => F15.l0 k (j : Int) A B n L) (r.all (fun b => bunB b.f0 b.f1 b.f2)) := by
  intro r
  induction r with
  | nil =>
    intro j h
    have h0 := ldrop_nil h
    exact Ev.step (fun k => F15.l0.eq_2 ..) (Ev.neg (by omega) (Ev.now _))
  | cons c r ih =>
    intro j h
    obtain ⟨h1, h2, h3⟩ := ldrop_cons z53 h
    have hr : rd_T53 L (j : Int) = c := h2
    have hm := hL c (List.mem_of_mem_drop (by rw [h]; exact List.mem_cons_self))
    have hw := wi_ (i := j) (by omega)
    have hi := ih (j + 1) h3
    rw [← hw] at hi
    have hin := ix1_loop (j : Int) A B n L c.f0 c.f1 c.f2 hm.1 hm.2 _ hi _ 0 rfl
    have hF : Ev (fun k => F15.j2 k (j : Int) true A B n L c.f0 c.f1 c.f2) false := Ev.step (fun k => F15.j2.eq_2 ..) (Ev.pos rfl (Ev.now _))
    refine Ev.step (fun k => F15.l0.eq_2 ..) (Ev.pos h1 (Ev.pos (by omega) ?_))
    rw [hr]
    refine Ev.ite (fun g => hF.to ?_) (fun g => Ev.ite (fun g2 => hF.to ?_) (fun g2 => Ev.bindc (l01Control_eq c.f1) (Ev.ite (fun g3 => Ev.ite (fun g4 => hF.to ?_) (fun g4 => Ev.step (fun k => F15.j2.eq_2 ..) (Ev.ite (fun g5 => Ev.ret ?_) (fun g5 => hin.to ?_)))) (fun g3 => hF.to ?_))))
    · have : decide (1 ≤ c.f0 ∧ c.f0 ≤ 7) = false := by simp; omega
      simp only [List.all_cons, bunB, this]; simp
    · have : decide (1 ≤ c.f0 ∧ c.f0 ≤ 7) = false := by simp; omega
      simp only [List.all_cons, bunB, this]; simp
    · have : decide (1 ≤ c.f2.length ∧ c.f2.length ≤ 10) = false := by simp; omega
      simp only [List.all_cons, bunB, this]; simp
    · have : decide (1 ≤ c.f2.length ∧ c.f2.length ≤ 10) = false := by have := of_decide_eq_true g5; simp; omega
      simp only [List.all_cons, bunB, this]; simp
    · have e1 : decide (1 ≤ c.f2.length ∧ c.f2.length ≤ 10) = true := by simp at g5; simp; omega
      have e2 : decide (1 ≤ c.f0 ∧ c.f0 ≤ 7) = true := by simp; omega
      rw [List.drop_zero]
      simp only [List.all_cons, bunB, e1, e2, g3, Bool.true_and, Bool.and_assoc]
    · simp [bunB, g3]
theorem specIx_ev (A B : ByteArray) (n : Int) (L : List S53) (hA : (A.size : Int) ≤ 9223372036854775807) (hB : (B.size : Int) ≤ 9223372036854775807) (hl : L.length ≤ 1048576) (hL : ∀ b ∈ L, bBn b) : Ev (fun k => F15.f k A B n L) (ixB A B n L) := by
  have hF : Ev (fun k => F15.j0 k true A B n L) false := Ev.step (fun k => F15.j0.eq_2 ..) (Ev.pos rfl (Ev.now _))
  have hin := ix0_loop A B n L hl hL L 0 rfl
  unfold F15.f
  refine Ev.bind (l01Name_ev A hA) (Ev.ite (fun g => Ev.bind (l01Name_ev B hB) (Ev.ite (fun g2 => Ev.bindc (l01Control_eq n) (Ev.ite (fun g3 => Ev.ite (fun g4 => hF.to ?_) (fun g4 => Ev.step (fun k => F15.j0.eq_2 ..) (Ev.ite (fun g5 => Ev.ret ?_) (fun g5 => hin.to ?_)))) (fun g3 => hF.to ?_))) (fun g2 => hF.to ?_))) (fun g => hF.to ?_))
  · have : decide (1 ≤ L.length ∧ L.length ≤ 5) = false := by simp; omega
    simp only [ixB, this]; simp
  · have : decide (1 ≤ L.length ∧ L.length ≤ 5) = false := by have := of_decide_eq_true g5; simp; omega
    simp only [ixB, this]; simp
  · have e1 : decide (1 ≤ L.length ∧ L.length ≤ 5) = true := by simp at g5; simp; omega
    simp only [ixB, e1, g, g2, g3, Bool.true_and]
  · simp [ixB, g3]
  · simp [ixB, g2]
  · simp [ixB, g]
theorem body_ev (s : ByteArray) (L : List S91) (hl : L.length ≤ 1048576) (hE : ∀ e ∈ L, bEl e.f0) : Ev (fun k => F81.f k s L) (bodyB s L) := by
  unfold F81.f
  refine Ev.bind (implSeg_ev s L hl hE) (Ev.ite (fun g => Ev.bindc (show F107.f = some tagsL from rfl) (Ev.bind (tagIn_ev s) (Ev.ret ?_))) (fun g => Ev.ret ?_))
  · simp [bodyB, g]
  · simp [bodyB, g]
theorem not_any_not {α : Type} (g : α → Bool) (l : List α) : (!(l.any (fun x => !g x))) = l.all g := by
  induction l with
  | nil => rfl
  | cons a l ih => rw [List.any_cons, List.all_cons, ← ih]; cases g a <;> simp
theorem msg_ev (n : Int) (G : List S49) (hl : G.length ≤ 1048576) (hG : ∀ s ∈ G, bSg s) : Ev (fun k => F95.f k n G) (msgB n G) := by
  have h1 : ∀ i : Nat, i < G.length → Ev (fun k => F113.f k (rd_T49 G (i : Int)).f0 (rd_T49 G (i : Int)).f1) (!bodyB (G.getD i z49).f0 (G.getD i z49).f1) := by
    intro i hi
    have hm := hG _ (getD_mem z49 hi)
    unfold F113.f
    exact Ev.bind (body_ev _ _ hm.1 hm.2) (Ev.now _)
  obtain ⟨x, hx, he⟩ := idx_loop z49 (fun s => !bodyB s.f0 s.f1) (fun k i => F125.l0 k G (G.length : Int) i) G
    (fun i hi g => Ev.step (fun k => F125.l0.eq_2 ..) (Ev.pos (by omega) (Ev.pos (by omega) (Ev.pos (by omega) (Ev.bind (h1 i hi) (Ev.pos g (Ev.now _)))))))
    (fun i hi g v hv => Ev.step (fun k => F125.l0.eq_2 ..) (Ev.pos (by omega) (Ev.pos (by omega) (Ev.pos (by omega) (Ev.bind (h1 i hi) (Ev.neg (by rw [g]; simp) (by rw [wi_ (by omega)]; exact hv)))))))
    (fun i hi => Ev.step (fun k => F125.l0.eq_2 ..) (Ev.neg (by omega) (Ev.now _))) _ 0 rfl
  unfold F95.f
  refine Ev.bindc (isControl_eq n) (Ev.ite (fun g => Ev.ite (fun g2 => ?_) (fun g2 => Ev.ret ?_)) (fun g => Ev.ret ?_))
  · unfold F112.f
    refine Ev.bind (Ev.bind (show Ev (fun k => F125.f k G) x from hx) (Ev.ret he)) (Ev.ret ?_)
    have e1 : decide (G.length ≤ 40) = true := by simp; omega
    rw [List.drop_zero, not_any_not]
    simp only [msgB, g, e1, Bool.true_and]
  · have e1 : decide (G.length ≤ 40) = false := by simp; omega
    simp [msgB, e1]
  · simp [msgB, g]
theorem bun_ev (kd ct : Int) (G : List S56) (hl : G.length ≤ 1048576) (hG : ∀ s ∈ G, bMs s) : Ev (fun k => F59.f k kd ct G) (bunB kd ct G) := by
  have h1 : ∀ i : Nat, i < G.length → Ev (fun k => F94.f k (rd_T56 G (i : Int)).f0 (rd_T56 G (i : Int)).f1) (!msgB (G.getD i z56).f0 (G.getD i z56).f1) := by
    intro i hi
    have hm := hG _ (getD_mem z56 hi)
    unfold F94.f
    exact Ev.bind (msg_ev _ _ hm.1 hm.2) (Ev.now _)
  obtain ⟨x, hx, he⟩ := idx_loop z56 (fun s => !msgB s.f0 s.f1) (fun k i => F111.l0 k G (G.length : Int) i) G
    (fun i hi g => Ev.step (fun k => F111.l0.eq_2 ..) (Ev.pos (by omega) (Ev.pos (by omega) (Ev.pos (by omega) (Ev.bind (h1 i hi) (Ev.pos g (Ev.now _)))))))
    (fun i hi g v hv => Ev.step (fun k => F111.l0.eq_2 ..) (Ev.pos (by omega) (Ev.pos (by omega) (Ev.pos (by omega) (Ev.bind (h1 i hi) (Ev.neg (by rw [g]; simp) (by rw [wi_ (by omega)]; exact hv)))))))
    (fun i hi => Ev.step (fun k => F111.l0.eq_2 ..) (Ev.neg (by omega) (Ev.now _))) _ 0 rfl
  unfold F59.f
  refine Ev.bindc (within_eq _ _ _) (Ev.ite (fun g => Ev.bindc (isControl_eq ct) (Ev.ite (fun g2 => Ev.bindc (within_eq _ _ _) (Ev.ite (fun g3 => ?_) (fun g3 => Ev.ret ?_))) (fun g2 => Ev.ret ?_))) (fun g => Ev.ret ?_))
  · unfold F93.f
    refine Ev.bind (Ev.bind (show Ev (fun k => F111.f k G) x from hx) (Ev.ret he)) (Ev.ret ?_)
    have e1 : decide (1 ≤ G.length ∧ G.length ≤ 10) = true := by simp [withinP] at g3; simp; omega
    have e2 : decide (1 ≤ kd ∧ kd ≤ 7) = true := by simp [withinP] at g; simp; omega
    rw [List.drop_zero, not_any_not]
    simp only [bunB, e2, g2, e1, Bool.true_and]
  · have e1 : decide (1 ≤ G.length ∧ G.length ≤ 10) = false := by simp [withinP] at g3; simp; omega
    simp only [bunB, e1]; simp
  · simp [bunB, g2]
  · have e2 : decide (1 ≤ kd ∧ kd ≤ 7) = false := by simp [withinP] at g; simp; omega
    simp only [bunB, e2]; simp
theorem implIx_ev (A B : ByteArray) (n : Int) (G : List S53) (hA : (A.size : Int) ≤ 9223372036854775807) (hB : (B.size : Int) ≤ 9223372036854775807) (hl : G.length ≤ 1048576) (hG : ∀ b ∈ G, bBn b) : Ev (fun k => F29.f k A B n G) (ixB A B n G) := by
  have h1 : ∀ i : Nat, i < G.length → Ev (fun k => F58.f k (rd_T53 G (i : Int)).f0 (rd_T53 G (i : Int)).f1 (rd_T53 G (i : Int)).f2) (!bunB (G.getD i z53).f0 (G.getD i z53).f1 (G.getD i z53).f2) := by
    intro i hi
    have hm := hG _ (getD_mem z53 hi)
    unfold F58.f
    exact Ev.bind (bun_ev _ _ _ hm.1 hm.2) (Ev.now _)
  obtain ⟨x, hx, he⟩ := idx_loop z53 (fun s => !bunB s.f0 s.f1 s.f2) (fun k i => F92.l0 k G (G.length : Int) i) G
    (fun i hi g => Ev.step (fun k => F92.l0.eq_2 ..) (Ev.pos (by omega) (Ev.pos (by omega) (Ev.pos (by omega) (Ev.bind (h1 i hi) (Ev.pos g (Ev.now _)))))))
    (fun i hi g v hv => Ev.step (fun k => F92.l0.eq_2 ..) (Ev.pos (by omega) (Ev.pos (by omega) (Ev.pos (by omega) (Ev.bind (h1 i hi) (Ev.neg (by rw [g]; simp) (by rw [wi_ (by omega)]; exact hv)))))))
    (fun i hi => Ev.step (fun k => F92.l0.eq_2 ..) (Ev.neg (by omega) (Ev.now _))) _ 0 rfl
  unfold F29.f
  refine Ev.bind (isName_ev A hA) (Ev.ite (fun g => Ev.bind (isName_ev B hB) (Ev.ite (fun g2 => Ev.bindc (isControl_eq n) (Ev.ite (fun g3 => Ev.bindc (within_eq _ _ _) (Ev.ite (fun g4 => ?_) (fun g4 => Ev.ret ?_))) (fun g3 => Ev.ret ?_))) (fun g2 => Ev.ret ?_))) (fun g => Ev.ret ?_))
  · unfold F57.f
    refine Ev.bind (Ev.bind (show Ev (fun k => F92.f k G) x from hx) (Ev.ret he)) (Ev.ret ?_)
    have e1 : decide (1 ≤ G.length ∧ G.length ≤ 5) = true := by simp [withinP] at g4; simp; omega
    rw [List.drop_zero, not_any_not]
    simp only [ixB, e1, g, g2, g3, Bool.true_and]
  · have e1 : decide (1 ≤ G.length ∧ G.length ≤ 5) = false := by simp [withinP] at g4; simp; omega
    simp only [ixB, e1]; simp
  · simp [ixB, g3]
  · simp [ixB, g2]
  · simp [ixB, g]

theorem bSg_of {x : S173} (h : bSegment x) : bSg (cSegment x) := by
  refine ⟨by show (x.f1.map cElement).length ≤ _; rw [List.length_map]; exact h.2.1, fun y hy => ?_⟩
  obtain ⟨e, he, rfl⟩ := List.mem_map.1 (show y ∈ x.f1.map cElement from hy)
  exact h.2.2 e he
theorem bMs_of {x : S148} (h : bMessage x) : bMs (cMessage x) := by
  refine ⟨by show (x.f1.map cSegment).length ≤ _; rw [List.length_map]; exact h.1, fun y hy => ?_⟩
  obtain ⟨e, he, rfl⟩ := List.mem_map.1 (show y ∈ x.f1.map cSegment from hy)
  exact bSg_of (h.2 e he)
theorem bBn_of {x : S89} (h : bBundle x) : bBn (cBundle x) := by
  refine ⟨by show (x.f2.map cMessage).length ≤ _; rw [List.length_map]; exact h.1, fun y hy => ?_⟩
  obtain ⟨e, he, rfl⟩ := List.mem_map.1 (show y ∈ x.f2.map cMessage from hy)
  exact bMs_of (h.2 e he)
theorem eSg_of {x : S49} (h : bSg x) : eSegment x := ⟨by have := h.1; omega, fun e he => by have := (h.2 e he).1; show (e.f0.length : Int) ≤ _; omega⟩
theorem eMs_of {x : S56} (h : bMs x) : eMessage x := ⟨by have := h.1; omega, fun e he => eSg_of (h.2 e he)⟩
theorem eBn_of {x : S53} (h : bBn x) : eBundle x := ⟨by have := h.1; omega, fun e he => eMs_of (h.2 e he)⟩

/-! numbers in digits -/
theorem ba_app (a b : List UInt8) : (⟨a.toArray⟩ : ByteArray) ++ (⟨b.toArray⟩ : ByteArray) = ⟨(a ++ b).toArray⟩ := by
  apply ByteArray.ext
  rw [ByteArray.data_append]
  simp
def decS (n : Int) : ByteArray := ⟨(Lib.itoa n).toArray⟩
theorem dec_loop (m : Nat) : ∀ (neg : Bool) (acc : List UInt8), acc.length + m ≤ 1000000000000000 →
    Ev (fun k => F26.l0 k (if neg then -(m : Int) else (m : Int)) neg ⟨acc.toArray⟩) ⟨((if neg then [45] else []) ++ ((if m = 0 then [] else Lib.decDigits m) ++ acc)).toArray⟩ := by
  induction m using Nat.strongRecOn with
  | _ m ih =>
  intro neg acc h
  refine Ev.step (fun k => F26.l0.eq_2 ..) ?_
  have hsz : ∀ l : List UInt8, (⟨l.toArray⟩ : ByteArray).size = l.length := fun l => by simp [ByteArray.size]
  by_cases h0 : m = 0
  · subst h0
    refine Ev.pos (by cases neg <;> simp) ?_
    cases neg
    · exact Ev.neg (by simp) (Ev.ret (by simp))
    · refine Ev.pos rfl (Ev.pos (by rw [hsz]; omega) (Ev.ret ?_))
      exact (ba_app [45] acc).trans (by simp)
  · refine Ev.neg (by cases neg <;> simp <;> omega) ?_
    have hd : m / 10 < m := by omega
    have hdg : ∀ c : Nat, c < 10 → UInt8.ofNat ((48 + c) % 256) = UInt8.ofNat (48 + c) := fun c hc => by rw [Nat.mod_eq_of_lt (by omega)]
    have key : ∀ c : Nat, c = m % 10 → (if m / 10 = 0 then ([] : List UInt8) else Lib.decDigits (m / 10)) ++ (UInt8.ofNat (48 + c) :: acc) = Lib.decDigits m ++ acc := by
      intro c hc
      subst hc
      rw [Lib.decDigits.eq_1 m]
      by_cases h1 : m < 10
      · rw [dif_pos h1, if_pos (by omega), Nat.mod_eq_of_lt h1]
        rfl
      · rw [dif_neg h1, if_neg (by omega), List.append_assoc]
        rfl
    have hone : ∀ c : Int, 0 ≤ c → c < 10 → strOfNums [wrap64 (48 + c) % 256] = (⟨[UInt8.ofNat (48 + c.toNat)].toArray⟩ : ByteArray) := by
      intro c g0 g1
      have e : wrap64 (48 + c) % 256 = 48 + c := by rw [wrap_id (by omega) (by omega)]; omega
      rw [e]
      unfold strOfNums
      have e2 : (48 + c).toNat = 48 + c.toNat := by omega
      simp only [List.map_cons, List.map_nil, e2]
    cases neg with
    | false =>
      simp only [Bool.false_eq_true, if_false]
      have e1 : Int.tmod (m : Int) 10 = ((m % 10 : Nat) : Int) := by rw [Int.tmod_eq_emod_of_nonneg (by omega)]; omega
      have e2 : Int.tdiv (m : Int) 10 = ((m / 10 : Nat) : Int) := by rw [Int.tdiv_eq_ediv_of_nonneg (by omega)]; omega
      refine Ev.neg (by rw [e1]; omega) (Ev.bindc rfl ?_)
      rw [e1, hone _ (by omega) (by omega)]
      refine Ev.pos (by rw [hsz, hsz]; simp only [List.length_cons, List.length_nil]; omega) ?_
      rw [e2, wrap_id (by omega) (by omega), ba_app]
      have := ih (m / 10) hd false (UInt8.ofNat (48 + m % 10) :: acc) (by simp only [List.length_cons]; omega)
      simp only [Bool.false_eq_true, if_false] at this
      refine this.to ?_
      rw [key _ rfl, if_neg h0]
    | true =>
      simp only [if_true]
      have e1 : Int.tmod (-(m : Int)) 10 = -((m % 10 : Nat) : Int) := by rw [Int.neg_tmod, Int.tmod_eq_emod_of_nonneg (by omega)]; omega
      have e2 : Int.tdiv (-(m : Int)) 10 = -((m / 10 : Nat) : Int) := by rw [Int.neg_tdiv, Int.tdiv_eq_ediv_of_nonneg (by omega)]; omega
      have fin : Ev (fun k => F26.l0 k (wrap64 (Int.tdiv (-(m : Int)) 10)) true ((⟨[UInt8.ofNat (48 + m % 10)].toArray⟩ : ByteArray) ++ ⟨acc.toArray⟩)) ⟨([45] ++ ((if m = 0 then [] else Lib.decDigits m) ++ acc)).toArray⟩ := by
        rw [e2, wrap_id (by omega) (by omega), ba_app]
        have := ih (m / 10) hd true (UInt8.ofNat (48 + m % 10) :: acc) (by simp only [List.length_cons]; omega)
        simp only [if_true] at this
        refine this.to ?_
        rw [key _ rfl, if_neg h0]
      refine Ev.ite (fun g => Ev.bindc rfl ?_) (fun g => Ev.bindc rfl ?_)
      · rw [show wrap64 (-(Int.tmod (-(m : Int)) 10)) = ((m % 10 : Nat) : Int) from by rw [e1, wrap_id (by omega) (by omega)]; omega, hone _ (by omega) (by omega)]
        refine Ev.pos (by rw [hsz, hsz]; simp only [List.length_cons, List.length_nil]; omega) ?_
        exact fin
      · rw [show Int.tmod (-(m : Int)) 10 = ((m % 10 : Nat) : Int) from by rw [e1] at g ⊢; omega, hone _ (by omega) (by omega)]
        refine Ev.pos (by rw [hsz, hsz]; simp only [List.length_cons, List.length_nil]; omega) ?_
        exact fin
theorem l01Dec_ev (n : Int) (h0 : -100000000000000 ≤ n) (h1 : n ≤ 100000000000000) : Ev (fun k => F26.f k n) (decS n) := by
  unfold F26.f
  by_cases h : n = 0
  · subst h
    refine Ev.pos rfl (Ev.ret ?_)
    unfold decS Lib.itoa
    rw [if_neg (by omega), Lib.decDigits.eq_1, dif_pos (by simp)]
    rfl
  · refine Ev.neg h ?_
    have := dec_loop n.natAbs (decide (n < 0)) [] (by simp only [List.length_nil]; omega)
    have e : (if decide (n < 0) = true then -(n.natAbs : Int) else (n.natAbs : Int)) = n := by split <;> rename_i g <;> simp at g <;> omega
    rw [e] at this
    refine this.to ?_
    unfold decS Lib.itoa
    by_cases g : n < 0
    · have hz : n.natAbs ≠ 0 := by omega
      simp [g, hz]
    · have hz : n.natAbs ≠ 0 := by omega
      have hy : n.natAbs = n.toNat := by omega
      have hx : n.toNat ≠ 0 := by omega
      simp [g, hy, hx]

theorem decimal_eq (n : Int) (h0 : -9223372036854775808 ≤ n) (h1 : n ≤ 9223372036854775807) : F61.f n = some (decS n) := by
  unfold F61.f F96.f
  rw [if_pos rfl, if_pos ⟨h0, h1⟩]
  rfl

/-! a plain segment -/
def plainS (tag : ByteArray) (ps : List ByteArray) : S49 := ⟨tag, ps.map fun p => (⟨[p]⟩ : S91)⟩
theorem l03Seg_loop (tag : ByteArray) (ps : List ByteArray) : ∀ (r : List ByteArray) (j : Nat) (acc : List S91), ps.drop j = r → acc.length + r.length ≤ 1000 → j + r.length ≤ 1000 → Ev (fun k => F25.l0 k ps (j : Int) tag acc) (tag, acc ++ r.map fun p => (⟨[p]⟩ : S91)) := by
  intro r
  induction r with
  | nil =>
    intro j acc h _ _
    have h0 := ldrop_nil h
    exact Ev.step (fun k => F25.l0.eq_2 ..) (Ev.neg (by omega) (Ev.ret (by simp)))
  | cons c r ih =>
    intro j acc h hb hj
    obtain ⟨h1, h2, h3⟩ := ldrop_cons ByteArray.empty h
    have hr : rdOf ByteArray.empty ps (j : Int) = c := h2
    simp only [List.length_cons] at hb hj
    refine Ev.step (fun k => F25.l0.eq_2 ..) (Ev.pos h1 (Ev.pos (by omega) (Ev.pos (by omega) ?_)))
    rw [hr, wi_ (by omega)]
    exact (ih (j + 1) _ h3 (by rw [List.length_append]; simp only [List.length_cons, List.length_nil]; omega) (by omega)).to (by simp)
theorem l03Seg_ev (tag : ByteArray) (ps : List ByteArray) (h : ps.length ≤ 1000) : Ev (fun k => F25.f k tag ps) ((plainS tag ps).f0, (plainS tag ps).f1) :=
  (l03Seg_loop tag ps ps 0 [] rfl (by simpa using h) (by omega)).to rfl

/-! the segments of an interchange -/
theorem plain_loop (tag : ByteArray) (ps : List ByteArray) : ∀ (r : List ByteArray) (j : Nat) (acc : List S91), ps.drop j = r → acc.length + r.length ≤ 1000 → j + r.length ≤ 1000 → Ev (fun k => F60.l0 k ps (ps.length : Int) (j : Int) tag acc) (tag, acc ++ r.map fun p => (⟨[p]⟩ : S91)) := by
  intro r
  induction r with
  | nil =>
    intro j acc h _ _
    have h0 := ldrop_nil h
    exact Ev.step (fun k => F60.l0.eq_2 ..) (Ev.neg (by omega) (Ev.ret (by simp)))
  | cons c r ih =>
    intro j acc h hb hj
    obtain ⟨h1, h2, h3⟩ := ldrop_cons ByteArray.empty h
    have hr : rdOf ByteArray.empty ps (j : Int) = c := h2
    simp only [List.length_cons] at hb hj
    refine Ev.step (fun k => F60.l0.eq_2 ..) (Ev.pos h1 (Ev.pos (by omega) (Ev.pos h1 (Ev.pos (by omega) ?_))))
    rw [hr, wi_ (by omega)]
    exact (ih (j + 1) _ h3 (by rw [List.length_append]; simp only [List.length_cons, List.length_nil]; omega) (by omega)).to (by simp)
theorem plain_ev (tag : ByteArray) (ps : List ByteArray) (h : ps.length ≤ 1000) : Ev (fun k => F60.f k tag ps) ((plainS tag ps).f0, (plainS tag ps).f1) :=
  (plain_loop tag ps ps 0 [] rfl (by simpa using h) (by omega)).to rfl
theorem copySeg_loop (tag : ByteArray) (L : List S91) (tg : ByteArray) (hE : ∀ e ∈ L, e.f0.length ≤ 1048576) (hl : L.length ≤ 1048576) : ∀ (r : List S91) (j : Nat) (acc : List S91), L.drop j = r → acc.length = j → Ev (fun k => F27.l0 k (j : Int) tg L tag acc) (tag, acc ++ r) := by
  intro r
  induction r with
  | nil =>
    intro j acc h _
    have h0 := ldrop_nil h
    exact Ev.step (fun k => F27.l0.eq_2 ..) (Ev.neg (by omega) (Ev.ret (by simp)))
  | cons c r ih =>
    intro j acc h hj
    obtain ⟨h1, h2, h3⟩ := ldrop_cons z91 h
    have hr : rd_T91 L (j : Int) = c := h2
    have hm := hE c (List.mem_of_mem_drop (by rw [h]; exact List.mem_cons_self))
    refine Ev.step (fun k => F27.l0.eq_2 ..) (Ev.pos h1 (Ev.bindc rfl (Ev.pos (by omega) ?_)))
    rw [hr, wi_ (by omega)]
    refine Ev.pos (by simp only [List.length_nil]; omega) (Ev.pos (by omega) ?_)
    exact (ih (j + 1) _ h3 (by rw [List.length_append]; simp only [List.length_cons, List.length_nil]; omega)).to (by simp)
theorem copySeg_ev (s : S49) (hl : s.f1.length ≤ 1048576) (hE : ∀ e ∈ s.f1, e.f0.length ≤ 1048576) : Ev (fun k => F27.f k s.f0 s.f1) (s.f0, s.f1) :=
  (copySeg_loop s.f0 s.f1 s.f0 hE hl s.f1 0 [] rfl rfl).to rfl
theorem ownSeg_loop (tag : ByteArray) (L : List S91) (hE : ∀ e ∈ L, e.f0.length ≤ 1048576) (hl : L.length ≤ 1048576) : ∀ (r : List S91) (j : Nat) (acc : List S91), L.drop j = r → acc.length = j → Ev (fun k => F82.l0 k L (L.length : Int) (j : Int) tag acc) (tag, acc ++ r) := by
  intro r
  induction r with
  | nil =>
    intro j acc h _
    have h0 := ldrop_nil h
    exact Ev.step (fun k => F82.l0.eq_2 ..) (Ev.neg (by omega) (Ev.ret (by simp)))
  | cons c r ih =>
    intro j acc h hj
    obtain ⟨h1, h2, h3⟩ := ldrop_cons z91 h
    have hr : rd_T91 L (j : Int) = c := h2
    have hm := hE c (List.mem_of_mem_drop (by rw [h]; exact List.mem_cons_self))
    refine Ev.step (fun k => F82.l0.eq_2 ..) (Ev.pos h1 (Ev.pos (by omega) (Ev.pos h1 ?_)))
    rw [hr, wi_ (by omega)]
    refine Ev.bindc (a := c.f0) (by unfold F108.f; rw [if_pos (by omega)]) (Ev.pos (by omega) ?_)
    exact (ih (j + 1) _ h3 (by rw [List.length_append]; simp only [List.length_cons, List.length_nil]; omega)).to (by simp)
theorem ownSeg_ev (s : S49) (hl : s.f1.length ≤ 1048576) (hE : ∀ e ∈ s.f1, e.f0.length ≤ 1048576) : Ev (fun k => F82.f k s.f0 s.f1) (s.f0, s.f1) :=
  (ownSeg_loop s.f0 s.f1 hE hl s.f1 0 [] rfl rfl).to rfl
def cpS (s : S49) : Prop := s.f1.length ≤ 1048576 ∧ ∀ e ∈ s.f1, e.f0.length ≤ 1048576
theorem ownSegs_loop (G : List S49) (hG : ∀ s ∈ G, cpS s) (hl : G.length ≤ 1048576) : ∀ (r : List S49) (j : Nat) (acc : List S49), G.drop j = r → acc.length = j → Ev (fun k => F62.l0 k acc G (G.length : Int) (j : Int)) (acc ++ r) := by
  intro r
  induction r with
  | nil =>
    intro j acc h _
    have h0 := ldrop_nil h
    exact Ev.step (fun k => F62.l0.eq_2 ..) (Ev.neg (by omega) (Ev.ret (by simp)))
  | cons c r ih =>
    intro j acc h hj
    obtain ⟨h1, h2, h3⟩ := ldrop_cons z49 h
    have hr : rd_T49 G (j : Int) = c := h2
    have hm := hG c (List.mem_of_mem_drop (by rw [h]; exact List.mem_cons_self))
    refine Ev.step (fun k => F62.l0.eq_2 ..) (Ev.pos h1 (Ev.pos (by omega) (Ev.pos h1 ?_)))
    rw [hr, wi_ (by omega)]
    refine Ev.bind (ownSeg_ev c hm.1 hm.2) (Ev.pos (by omega) ?_)
    exact (ih (j + 1) _ h3 (by rw [List.length_append]; simp only [List.length_cons, List.length_nil]; omega)).to (by simp)
theorem ownSegs_ev (G : List S49) (hG : ∀ s ∈ G, cpS s) (hl : G.length ≤ 1048576) : Ev (fun k => F62.f k G) G :=
  (ownSegs_loop G hG hl G 0 [] rfl rfl).to rfl
abbrev tIXH : ByteArray := ⟨#[73, 88, 72]⟩
abbrev tGRH : ByteArray := ⟨#[71, 82, 72]⟩
abbrev tMSH : ByteArray := ⟨#[77, 83, 72]⟩
abbrev tMST : ByteArray := ⟨#[77, 83, 84]⟩
abbrev tGRT : ByteArray := ⟨#[71, 82, 84]⟩
abbrev tIXT : ByteArray := ⟨#[73, 88, 84]⟩
def segsM (m : S56) : List S49 := plainS tMSH [decS m.f0] :: (m.f1 ++ [plainS tMST [decS (m.f1.length : Int), decS m.f0]])
def segsB (b : S53) : List S49 := plainS tGRH [decS b.f0, decS b.f1] :: (b.f2.flatMap segsM ++ [plainS tGRT [decS (b.f2.length : Int), decS b.f1]])
def segsX (A B : ByteArray) (n : Int) (L : List S53) : List S49 := plainS tIXH [A, B, decS n] :: (L.flatMap segsB ++ [plainS tIXT [decS (L.length : Int), decS n]])
def okM (m : S56) : Prop := (0 ≤ m.f0 ∧ m.f0 ≤ 999999) ∧ m.f1.length ≤ 40 ∧ ∀ s ∈ m.f1, cpS s
def okB (b : S53) : Prop := (1 ≤ b.f0 ∧ b.f0 ≤ 7) ∧ (0 ≤ b.f1 ∧ b.f1 ≤ 999999) ∧ b.f2.length ≤ 10 ∧ ∀ m ∈ b.f2, okM m
theorem flat_le {α β : Type} (f : α → List β) (c : Nat) (l : List α) (h : ∀ x ∈ l, (f x).length ≤ c) : (l.flatMap f).length ≤ c * l.length := by
  induction l with
  | nil => simp
  | cons x l ih =>
    have h1 := h x List.mem_cons_self
    have h2 := ih fun y hy => h y (List.mem_cons_of_mem _ hy)
    rw [List.flatMap_cons, List.length_append, List.length_cons, Nat.mul_succ]
    omega
theorem segsM_len {m : S56} (h : okM m) : (segsM m).length ≤ 42 := by
  have := h.2.1
  unfold segsM
  simp only [List.length_cons, List.length_append, List.length_nil]
  omega
theorem segsB_len {b : S53} (h : okB b) : (segsB b).length ≤ 422 := by
  have := flat_le segsM 42 b.f2 fun m hm => segsM_len (h.2.2.2 m hm)
  have := h.2.2.1
  unfold segsB
  simp only [List.length_cons, List.length_append, List.length_nil]
  omega
theorem two_ev (tag : ByteArray) (a b : Int) (h0 : 0 ≤ a) (h1 : a ≤ 1000000000) (h2 : 0 ≤ b) (h3 : b ≤ 1000000000) : Ev (fun k => F24.f k tag a b) ((plainS tag [decS a, decS b]).f0, (plainS tag [decS a, decS b]).f1) := by
  unfold F24.f
  exact Ev.bind (l01Dec_ev a (by omega) (by omega)) (Ev.bind (l01Dec_ev b (by omega) (by omega)) (Ev.bind (l03Seg_ev tag [decS a, decS b] (by simp)) (Ev.now _)))
theorem sx2_loop (x4 x6 : Int) (A B : ByteArray) (n : Int) (L : List S53) (kd ct : Int) (M : List S56) (mc : Int) (G : List S49) (hG : ∀ s ∈ G, cpS s) (hl : G.length ≤ 40) (hm : 0 ≤ mc ∧ mc ≤ 999999) {R : List S49} : ∀ (r : List S49) (j : Nat) (acc : List S49), G.drop j = r → acc.length + r.length ≤ 1000000 →
    Ev (fun k => F6.l1 k (acc ++ r ++ [plainS tMST [decS (G.length : Int), decS mc]]) x4 (wrap64 (x6 + 1)) A B n L kd ct M) R → Ev (fun k => F6.l2 k acc x4 x6 (j : Int) A B n L kd ct M mc G) R := by
  intro r
  induction r with
  | nil =>
    intro j acc h hb hR
    have h0 := ldrop_nil h
    simp only [List.length_nil, List.append_nil] at hb hR
    exact Ev.step (fun k => F6.l2.eq_2 ..) (Ev.neg (by omega) (Ev.bind (two_ev tMST _ _ (by omega) (by omega) hm.1 (by omega)) (Ev.pos (by omega) hR)))
  | cons c r ih =>
    intro j acc h hb hR
    obtain ⟨h1, h2, h3⟩ := ldrop_cons z49 h
    have hr : rd_T49 G (j : Int) = c := h2
    have hm := hG c (List.mem_of_mem_drop (by rw [h]; exact List.mem_cons_self))
    simp only [List.length_cons] at hb
    refine Ev.step (fun k => F6.l2.eq_2 ..) (Ev.pos h1 (Ev.pos (by omega) ?_))
    rw [hr, wi_ (by omega)]
    refine Ev.bind (copySeg_ev c hm.1 hm.2) (Ev.pos (by omega) ?_)
    exact ih (j + 1) _ h3 (by rw [List.length_append]; simp only [List.length_cons, List.length_nil]; omega) (by simpa using hR)
theorem sx1_loop (x4 : Int) (A B : ByteArray) (n : Int) (L : List S53) (kd ct : Int) (M : List S56) (hM : ∀ m ∈ M, okM m) (hl : M.length ≤ 10) (hc : 0 ≤ ct ∧ ct ≤ 999999) {R : List S49} : ∀ (r : List S56) (j : Nat) (acc : List S49), M.drop j = r → acc.length + 42 * r.length ≤ 900000 →
    Ev (fun k => F6.l0 k (acc ++ r.flatMap segsM ++ [plainS tGRT [decS (M.length : Int), decS ct]]) (wrap64 (x4 + 1)) A B n L) R → Ev (fun k => F6.l1 k acc x4 (j : Int) A B n L kd ct M) R := by
  intro r
  induction r with
  | nil =>
    intro j acc h hb hR
    have h0 := ldrop_nil h
    simp only [List.length_nil, List.flatMap_nil, List.append_nil] at hb hR
    exact Ev.step (fun k => F6.l1.eq_2 ..) (Ev.neg (by omega) (Ev.bind (two_ev tGRT _ _ (by omega) (by omega) hc.1 (by omega)) (Ev.pos (by omega) hR)))
  | cons c r ih =>
    intro j acc h hb hR
    obtain ⟨h1, h2, h3⟩ := ldrop_cons z56 h
    have hr : rd_T56 M (j : Int) = c := h2
    have hm := hM c (List.mem_of_mem_drop (by rw [h]; exact List.mem_cons_self))
    simp only [List.length_cons] at hb
    refine Ev.step (fun k => F6.l1.eq_2 ..) (Ev.pos h1 (Ev.pos (by omega) ?_))
    rw [hr]
    refine Ev.bind (l01Dec_ev c.f0 (by have := hm.1; omega) (by have := hm.1; omega)) (Ev.bind (l03Seg_ev tMSH [decS c.f0] (by simp)) (Ev.pos (by omega) ?_))
    have hl2 := hm.2.1
    refine sx2_loop x4 (j : Int) A B n L kd ct M c.f0 c.f1 hm.2.2 hm.2.1 hm.1 c.f1 0 _ rfl (by rw [List.length_append]; simp only [List.length_cons, List.length_nil]; omega) ?_
    rw [wi_ (by omega)]
    refine ih (j + 1) _ h3 (by simp only [List.length_append, List.length_cons, List.length_nil]; omega) ?_
    refine cast (congrArg (fun z => Ev (fun k => F6.l0 k z (wrap64 (x4 + 1)) A B n L) R) ?_) hR
    simp [segsM, plainS]
theorem sx0_loop (A B : ByteArray) (n : Int) (L : List S53) (hL : ∀ b ∈ L, okB b) (hl : L.length ≤ 5) (hn : 0 ≤ n ∧ n ≤ 999999) : ∀ (r : List S53) (j : Nat) (acc : List S49), L.drop j = r → acc.length + 1000 * r.length ≤ 800000 →
    Ev (fun k => F6.l0 k acc (j : Int) A B n L) (acc ++ r.flatMap segsB ++ [plainS tIXT [decS (L.length : Int), decS n]]) := by
  intro r
  induction r with
  | nil =>
    intro j acc h hb
    have h0 := ldrop_nil h
    simp only [List.length_nil] at hb
    exact Ev.step (fun k => F6.l0.eq_2 ..) (Ev.neg (by omega) (Ev.bind (two_ev tIXT _ _ (by omega) (by omega) hn.1 (by omega)) (Ev.pos (by omega) (Ev.ret (by simp [plainS])))))
  | cons c r ih =>
    intro j acc h hb
    obtain ⟨h1, h2, h3⟩ := ldrop_cons z53 h
    have hr : rd_T53 L (j : Int) = c := h2
    have hm := hL c (List.mem_of_mem_drop (by rw [h]; exact List.mem_cons_self))
    simp only [List.length_cons] at hb
    refine Ev.step (fun k => F6.l0.eq_2 ..) (Ev.pos h1 (Ev.pos (by omega) ?_))
    rw [hr]
    refine Ev.bind (two_ev tGRH c.f0 c.f1 (by have := hm.1; omega) (by have := hm.1; omega) hm.2.1.1 (by have := hm.2.1; omega)) (Ev.pos (by omega) ?_)
    have h4 := hm.2.2.1
    have h5 := flat_le segsM 42 c.f2 fun m hm' => segsM_len (hm.2.2.2 m hm')
    refine sx1_loop (j : Int) A B n L c.f0 c.f1 c.f2 hm.2.2.2 h4 hm.2.1 c.f2 0 _ rfl (by rw [List.length_append]; simp only [List.length_cons, List.length_nil]; omega) ?_
    rw [wi_ (by omega)]
    refine (ih (j + 1) _ h3 (by simp only [List.length_append, List.length_cons, List.length_nil]; omega)).to ?_
    simp [segsB, plainS]
theorem ixB_ok {A B : ByteArray} {n : Int} {L : List S53} (h : ixB A B n L = true) (hb : ∀ b ∈ L, bBn b) : (1 ≤ n ∧ n ≤ 999999) ∧ (1 ≤ L.length ∧ L.length ≤ 5) ∧ ∀ b ∈ L, okB b := by
  simp only [ixB, Bool.and_eq_true, ctlB, decide_eq_true_eq, List.all_eq_true, bunB, msgB] at h
  refine ⟨h.2.2.1, h.2.2.2.1, fun b hB => ?_⟩
  have h1 := h.2.2.2.2 b hB
  refine ⟨h1.1, by have := h1.2.1; omega, by have := h1.2.2.1; omega, fun m hm => ?_⟩
  have h2 := h1.2.2.2 m hm
  exact ⟨by have := h2.1; omega, h2.2.1, fun s hs => ⟨(((hb b hB).2 m hm).2 s hs).1, fun e he => ((((hb b hB).2 m hm).2 s hs).2 e he).1⟩⟩
theorem specSegs_ev (A B : ByteArray) (n : Int) (L : List S53) (hA : (A.size : Int) ≤ 9223372036854775807) (hB : (B.size : Int) ≤ 9223372036854775807) (hl : L.length ≤ 1048576) (hL : ∀ b ∈ L, bBn b) : Ev (fun k => F6.f k A B n L) (if ixB A B n L = true then segsX A B n L else []) := by
  unfold F6.f
  refine Ev.bindc rfl (Ev.bind (specIx_ev A B n L hA hB hl hL) (Ev.ite (fun g => ?_) (fun g => Ev.ret (by rw [if_neg g]))))
  obtain ⟨h1, h2, h3⟩ := ixB_ok g hL
  rw [if_pos g]
  unfold F23.f
  refine Ev.bind (Ev.bind (l01Dec_ev n (by omega) (by omega)) (Ev.bind (l03Seg_ev tIXH [A, B, decS n] (by simp)) (Ev.now _))) (Ev.pos (by simp) ?_)
  refine (sx0_loop A B n L h3 h2.2 (by omega) L 0 _ rfl (by simp only [List.length_append, List.length_cons, List.length_nil]; omega)).to ?_
  simp [segsX, plainS]
theorem ix1s_loop (x21 : Int) (A B : ByteArray) (n : Int) (L : List S53) (kd ct : Int) (M : List S56) (hM : ∀ m ∈ M, okM m) (hl : M.length ≤ 10) (hc : 0 ≤ ct ∧ ct ≤ 999999) {R : List S49} : ∀ (r : List S56) (j : Nat) (acc : List S49), M.drop j = r → acc.length + 42 * r.length ≤ 900000 →
    Ev (fun k => F30.l0 k (acc ++ r.flatMap segsM ++ [plainS tGRT [decS (M.length : Int), decS ct]]) L (L.length : Int) (wrap64 (x21 + 1)) A B n L) R → Ev (fun k => F30.l1 k acc L (L.length : Int) x21 M (M.length : Int) (j : Int) A B n L kd ct M) R := by
  intro r
  induction r with
  | nil =>
    intro j acc h hb hR
    have h0 := ldrop_nil h
    simp only [List.length_nil, List.flatMap_nil, List.append_nil] at hb hR
    exact Ev.step (fun k => F30.l1.eq_2 ..) (Ev.neg (by omega) (Ev.bindc (decimal_eq _ (by omega) (by omega)) (Ev.bindc (decimal_eq _ (by omega) (by omega)) (Ev.bind (plain_ev tGRT [decS (M.length : Int), decS ct] (by simp)) (Ev.pos (by omega) hR)))))
  | cons c r ih =>
    intro j acc h hb hR
    obtain ⟨h1, h2, h3⟩ := ldrop_cons z56 h
    have hr : rd_T56 M (j : Int) = c := h2
    have hm := hM c (List.mem_of_mem_drop (by rw [h]; exact List.mem_cons_self))
    simp only [List.length_cons] at hb
    have hl2 := hm.2.1
    have hq := hm.1
    refine Ev.step (fun k => F30.l1.eq_2 ..) (Ev.pos h1 (Ev.pos (by omega) (Ev.pos h1 ?_)))
    rw [hr]
    refine Ev.bindc (decimal_eq c.f0 (by omega) (by omega)) (Ev.bind (plain_ev tMSH [decS c.f0] (by simp)) (Ev.pos (by omega) (Ev.bindc rfl (Ev.bind (ownSegs_ev c.f1 hm.2.2 (by omega)) (Ev.pos (by simp only [List.length_append, List.length_cons, List.length_nil]; omega) (Ev.bindc rfl ?_))))))
    refine Ev.bindc (decimal_eq (c.f1.length : Int) (by omega) (by omega)) (Ev.bindc (decimal_eq c.f0 (by omega) (by omega)) (Ev.bind (plain_ev tMST [decS (c.f1.length : Int), decS c.f0] (by simp)) (Ev.pos (by simp only [List.length_append, List.length_cons, List.length_nil]; omega) ?_)))
    rw [wi_ (by omega)]
    refine ih (j + 1) _ h3 (by simp only [List.length_append, List.length_cons, List.length_nil]; omega) ?_
    refine cast (congrArg (fun z => Ev (fun k => F30.l0 k z L (L.length : Int) (wrap64 (x21 + 1)) A B n L) R) ?_) hR
    simp [segsM, plainS]
theorem ix0s_loop (A B : ByteArray) (n : Int) (L : List S53) (hL : ∀ b ∈ L, okB b) (hl : L.length ≤ 5) (hn : 0 ≤ n ∧ n ≤ 999999) : ∀ (r : List S53) (j : Nat) (acc : List S49), L.drop j = r → acc.length + 1000 * r.length ≤ 800000 →
    Ev (fun k => F30.l0 k acc L (L.length : Int) (j : Int) A B n L) (acc ++ r.flatMap segsB ++ [plainS tIXT [decS (L.length : Int), decS n]]) := by
  intro r
  induction r with
  | nil =>
    intro j acc h hb
    have h0 := ldrop_nil h
    simp only [List.length_nil] at hb
    exact Ev.step (fun k => F30.l0.eq_2 ..) (Ev.neg (by omega) (Ev.bindc (decimal_eq _ (by omega) (by omega)) (Ev.bindc (decimal_eq _ (by omega) (by omega)) (Ev.bind (plain_ev tIXT [decS (L.length : Int), decS n] (by simp)) (Ev.pos (by omega) (Ev.ret (by simp [plainS])))))))
  | cons c r ih =>
    intro j acc h hb
    obtain ⟨h1, h2, h3⟩ := ldrop_cons z53 h
    have hr : rd_T53 L (j : Int) = c := h2
    have hm := hL c (List.mem_of_mem_drop (by rw [h]; exact List.mem_cons_self))
    simp only [List.length_cons] at hb
    have hk := hm.1
    have hq := hm.2.1
    refine Ev.step (fun k => F30.l0.eq_2 ..) (Ev.pos h1 (Ev.pos (by omega) (Ev.pos h1 ?_)))
    rw [hr]
    refine Ev.bindc (decimal_eq c.f0 (by omega) (by omega)) (Ev.bindc (decimal_eq c.f1 (by omega) (by omega)) (Ev.bind (plain_ev tGRH [decS c.f0, decS c.f1] (by simp)) (Ev.pos (by omega) ?_)))
    have h4 := hm.2.2.1
    have h5 := flat_le segsM 42 c.f2 fun m hm' => segsM_len (hm.2.2.2 m hm')
    refine ix1s_loop (j : Int) A B n L c.f0 c.f1 c.f2 hm.2.2.2 h4 hm.2.1 c.f2 0 _ rfl (by rw [List.length_append]; simp only [List.length_cons, List.length_nil]; omega) ?_
    rw [wi_ (by omega)]
    refine (ih (j + 1) _ h3 (by simp only [List.length_append, List.length_cons, List.length_nil]; omega)).to ?_
    simp [segsB, plainS]
theorem implSegs_ev (A B : ByteArray) (n : Int) (L : List S53) (hA : (A.size : Int) ≤ 9223372036854775807) (hB : (B.size : Int) ≤ 9223372036854775807) (hl : L.length ≤ 1048576) (hL : ∀ b ∈ L, bBn b) : Ev (fun k => F8.f k A B n L) (if ixB A B n L = true then segsX A B n L else []) := by
  unfold F8.f
  refine Ev.bind (implIx_ev A B n L hA hB hl hL) (Ev.ite (fun g => ?_) (fun g => Ev.ret (by rw [if_neg g])))
  obtain ⟨h1, h2, h3⟩ := ixB_ok g hL
  rw [if_pos g]
  unfold F30.f
  refine Ev.bind (Ev.bindc (decimal_eq n (by omega) (by omega)) (Ev.bind (plain_ev tIXH [A, B, decS n] (by simp)) ?_)) (Ev.now _)
  refine (ix0s_loop A B n L h3 h2.2 (by omega) L 0 _ rfl (by simp only [List.length_append, List.length_cons, List.length_nil]; omega)).to ?_
  simp [segsX, plainS]

/-- A list is marked, place by place, and then held. -/
theorem mark_held {α : Type} (z : α) (M : Nat → List α → Int → Int → Option (Int × List α)) (H : Nat → List α → Int → Int → Option Int) (E : Int → α → α) (st : Int) (hst : 0 ≤ st)
    (hM : ∀ (L : List α) (i : Nat) (x : Int) (r : Int × List α), (L.length : Int) ≤ 4611686018427387904 → i < L.length → 0 ≤ x → x + st ≤ 4611686018427387904 → Ev (fun k => M k (L.set i (E x (L.getD i z))) (x + st) ((i + 1 : Nat) : Int)) r → Ev (fun k => M k L x (i : Int)) r)
    (hM0 : ∀ (L : List α) (i : Nat) (x : Int), L.length ≤ i → Ev (fun k => M k L x (i : Int)) (x, L))
    (hH : ∀ (F : List α) (i : Nat) (x : Int) (y : α) (r : Int), (F.length : Int) ≤ 4611686018427387904 → i < F.length → 0 ≤ x → x + st ≤ 4611686018427387904 → F.getD i z = E x y → Ev (fun k => H k F (x + st) ((i + 1 : Nat) : Int)) r → Ev (fun k => H k F x (i : Int)) r)
    (hH0 : ∀ (F : List α) (i : Nat) (x : Int), F.length ≤ i → Ev (fun k => H k F x (i : Int)) x) :
    ∀ (d : Nat) (L : List α) (i : Nat) (x : Int), (L.length : Int) ≤ 4611686018427387904 → L.length - i = d → 0 ≤ x → x + st * (d : Int) ≤ 4611686018427387904 →
      ∃ F m, Ev (fun k => M k L x (i : Int)) (m, F) ∧ F.length = L.length ∧ (∀ j, j < i → F.getD j z = L.getD j z) ∧ Ev (fun k => H k F x (i : Int)) m ∧ x ≤ m ∧ m = x + st * (d : Int) := by
  intro d
  induction d with
  | zero =>
    intro L i x hl hd h0 h1
    exact ⟨L, x, hM0 L i x (by omega), rfl, fun _ _ => rfl, hH0 L i x (by omega), by omega, by simp⟩
  | succ d ih =>
    intro L i x hl hd h0 h1
    have hm : st * ((d + 1 : Nat) : Int) = st * (d : Int) + st := by
      have : ((d + 1 : Nat) : Int) = (d : Int) + 1 := by omega
      rw [this, Int.mul_add, Int.mul_one]
    rw [hm] at h1
    have hp : 0 ≤ st * (d : Int) := Int.mul_nonneg hst (by omega)
    obtain ⟨F, m, e1, e2, e3, e4, e5, e6⟩ := ih (L.set i (E x (L.getD i z))) (i + 1) (x + st) (by rw [List.length_set]; omega) (by rw [List.length_set]; omega) (by omega) (by omega)
    rw [List.length_set] at e2
    refine ⟨F, m, hM L i x _ hl (by omega) h0 (by omega) e1, e2, fun j hj => ?_, ?_, by omega, by rw [hm]; omega⟩
    · rw [e3 j (by omega)]
      simp only [List.getD_eq_getElem?_getD]
      rw [List.getElem?_set_ne (by omega)]
    · refine hH F i x (L.getD i z) m (by omega) (by omega) h0 (by omega) ?_ e4
      rw [e3 i (by omega)]
      simp only [List.getD_eq_getElem?_getD]
      rw [List.getElem?_set_self (by omega)]
      rfl
theorem mark_held0 {α : Type} (z : α) (M : Nat → List α → Int → Int → Option (Int × List α)) (H : Nat → List α → Int → Int → Option Int) (E : Int → α → α) (st : Int) (hst : 0 ≤ st)
    (hM : ∀ (L : List α) (i : Nat) (x : Int) (r : Int × List α), (L.length : Int) ≤ 4611686018427387904 → i < L.length → 0 ≤ x → x + st ≤ 4611686018427387904 → Ev (fun k => M k (L.set i (E x (L.getD i z))) (x + st) ((i + 1 : Nat) : Int)) r → Ev (fun k => M k L x (i : Int)) r)
    (hM0 : ∀ (L : List α) (i : Nat) (x : Int), L.length ≤ i → Ev (fun k => M k L x (i : Int)) (x, L))
    (hH : ∀ (F : List α) (i : Nat) (x : Int) (y : α) (r : Int), (F.length : Int) ≤ 4611686018427387904 → i < F.length → 0 ≤ x → x + st ≤ 4611686018427387904 → F.getD i z = E x y → Ev (fun k => H k F (x + st) ((i + 1 : Nat) : Int)) r → Ev (fun k => H k F x (i : Int)) r)
    (hH0 : ∀ (F : List α) (i : Nat) (x : Int), F.length ≤ i → Ev (fun k => H k F x (i : Int)) x) (L : List α) (x : Int) (hl : (L.length : Int) ≤ 4611686018427387904) (h0 : 0 ≤ x) (hb : x + st * (L.length : Int) ≤ 4611686018427387904) :
    ∃ F m, Ev (fun k => M k L x 0) (m, F) ∧ Ev (fun k => H k F x 0) m ∧ x ≤ m ∧ m = x + st * (L.length : Int) := by
  obtain ⟨F, m, e1, _, _, e4, e5, e6⟩ := mark_held z M H E st hst hM hM0 hH hH0 L.length L 0 x hl (by omega) h0 hb
  exact ⟨F, m, e1, e4, e5, e6⟩

theorem markText_loop : ∀ (d : Nat) (n : Int) (s : ByteArray), 0 ≤ n → n.toNat ≤ d → (s.size : Int) + n ≤ 4611686018427387904 → ∃ t, Ev (fun k => F34.l0 k n s) t := by
  intro d
  induction d with
  | zero =>
    intro n s h0 hd hs
    refine ⟨_, Ev.step (fun k => F34.l0.eq_2 ..) (Ev.neg (by omega) (Ev.pos (by omega) (Ev.now _)))⟩
  | succ d ih =>
    intro n s h0 hd hs
    by_cases h : n > 0
    · have e : Int.tdiv n 10 = n / 10 := Int.tdiv_eq_ediv_of_nonneg h0
      have hw : wrap64 (Int.tdiv n 10) = n / 10 := by rw [e, wrap_id (by omega) (by omega)]
      obtain ⟨t, ht⟩ := ih (n / 10) (strOfNums [(wrap64 (48 + Int.tmod n 10)) % 256] ++ s) (by omega) (by omega) (by rw [size_append, size_strOf]; simp; omega)
      refine ⟨t, Ev.step (fun k => F34.l0.eq_2 ..) (Ev.pos h (Ev.bindc rfl (Ev.pos (by rw [size_strOf]; simp; omega) ?_)))⟩
      rw [hw]
      exact ht
    · exact ⟨_, Ev.step (fun k => F34.l0.eq_2 ..) (Ev.neg h (Ev.pos (by omega) (Ev.now _)))⟩
theorem markText_some (n : Int) (h1 : n ≤ 4611686018427387904) : ∃ t, Ev (fun k => F34.f k n) t := by
  by_cases h : n ≤ 0
  · exact ⟨_, Ev.pos h (Ev.now _)⟩
  · obtain ⟨t, ht⟩ := markText_loop n.toNat n ⟨#[]⟩ (by omega) (by omega) (by have : (⟨#[]⟩ : ByteArray).size = 0 := rfl; rw [this]; omega)
    exact ⟨t, Ev.neg h ht⟩
/-- The text of a mark. -/
noncomputable def mt (n : Int) : ByteArray := @Classical.epsilon ByteArray ⟨⟨#[]⟩⟩ (fun t => Ev (fun k => F34.f k n) t)
theorem mt_ev (n : Int) (h1 : n ≤ 4611686018427387904) : Ev (fun k => F34.f k n) (mt n) := by
  exact Classical.epsilon_spec (p := fun t => Ev (fun k => F34.f k n) t) (markText_some n h1)

theorem markStringS_held (L : List ByteArray) (x : Int) (h0 : 0 ≤ x) (h1 : x ≤ 2305843009213693952) (hl : (L.length : Int) ≤ 1152921504606846976) : ∃ F m, Ev (fun k => F66.f k L x) (m, F) ∧ Ev (fun k => F67.f k F x) m ∧ x ≤ m ∧ m = x + 1 * (L.length : Int) := by
  refine mark_held0 ByteArray.empty F66.l0 F67.l0 (fun x y => mt x) 1 (by omega) (fun L i x r hl' hi h0 h1 h => ?_) (fun L i x hi => ?_) (fun F i x y r hl' hi h0 h1 he h => ?_) (fun F i x hi => ?_) L x (by omega) (by omega) (by omega)
  · have w1 : wrap64 (x + 1) = x + 1 := wrap_id (by omega) (by omega)
    have wi : wrap64 ((i : Int) + 1) = ((i + 1 : Nat) : Int) := by rw [wrap_id (by omega) (by omega)]; omega
    refine Ev.step (fun k => F66.l0.eq_2 ..) (Ev.pos (by omega) (Ev.bind (mt_ev x (by omega)) (Ev.pos (by omega) ?_)))
    rw [w1, wi, Int.toNat_natCast]
    exact h
  · exact Ev.step (fun k => F66.l0.eq_2 ..) (Ev.neg (by omega) (Ev.now _))
  · have w1 : wrap64 (x + 1) = x + 1 := wrap_id (by omega) (by omega)
    have wi : wrap64 ((i : Int) + 1) = ((i + 1 : Nat) : Int) := by rw [wrap_id (by omega) (by omega)]; omega
    have hr : rdOf ByteArray.empty F (i : Int) = mt x := by unfold rdOf; rw [Int.toNat_natCast, he]
    refine Ev.step (fun k => F67.l0.eq_2 ..) (Ev.pos (by omega) (Ev.pos (by omega) (Ev.bind (mt_ev x (by omega)) ?_)))
    rw [hr, w1, wi]
    exact Ev.pos rfl h
  · exact Ev.step (fun k => F67.l0.eq_2 ..) (Ev.neg (by omega) (Ev.now _))

/-! elements, marked and held -/
theorem markEls_held : ∀ (n : Nat) (L : List S91) (i : Nat) (x : Int), L.length - i = n → L.length ≤ 1000 → (∀ j, i ≤ j → j < L.length → (L.getD j z91).f0.length ≤ 4) → 0 ≤ x → x + 4 * (n : Int) ≤ 100000 →
    ∃ F m, Ev (fun k => F35.l0 k L x (i : Int)) (m, F) ∧ F.length = L.length ∧ (∀ j, j < i → F.getD j z91 = L.getD j z91) ∧ Ev (fun k => F36.l0 k F x (i : Int)) m ∧ x ≤ m ∧ m ≤ x + 4 * (n : Int) := by
  intro n
  induction n with
  | zero =>
    intro L i x hn hl _ h0 _
    exact ⟨L, x, Ev.step (fun k => F35.l0.eq_2 ..) (Ev.neg (by omega) (Ev.now _)), rfl, fun _ _ => rfl, Ev.step (fun k => F36.l0.eq_2 ..) (Ev.neg (by omega) (Ev.now _)), by omega, by omega⟩
  | succ n ih =>
    intro L i x hn hl hb h0 h1
    have hi : i < L.length := by omega
    have hr : rd_T91 L (i : Int) = L.getD i z91 := by unfold rd_T91; rw [Int.toNat_natCast]
    have h4 := hb i (by omega) hi
    obtain ⟨G, y, g1, g2, g3, g4⟩ := markStringS_held (L.getD i z91).f0 x (by omega) (by omega) (by omega)
    have hwi : wrap64 ((i : Int) + 1) = ((i + 1 : Nat) : Int) := by rw [wrap_id (by omega) (by omega)]; omega
    obtain ⟨F, m, e1, e2, e3, e4, e5, e6⟩ := ih (L.set i ⟨G⟩) (i + 1) y (by rw [List.length_set]; omega) (by rw [List.length_set]; omega) (fun j hj hj2 => by
      rw [List.length_set] at hj2
      have := hb j (by omega) hj2
      simp only [List.getD_eq_getElem?_getD] at this ⊢
      rw [List.getElem?_set_ne (by omega)]
      exact this) (by omega) (by omega)
    rw [List.length_set] at e2
    have hF : rd_T91 F (i : Int) = ⟨G⟩ := by
      unfold rd_T91
      rw [Int.toNat_natCast, e3 i (by omega)]
      simp only [List.getD_eq_getElem?_getD]
      rw [List.getElem?_set_self (by omega)]
      rfl
    refine ⟨F, m, Ev.step (fun k => F35.l0.eq_2 ..) (Ev.pos (by omega) (Ev.pos (by omega) ?_)), e2, fun j hj => ?_, Ev.step (fun k => F36.l0.eq_2 ..) (Ev.pos (by omega) (Ev.pos (by omega) ?_)), by omega, by omega⟩
    · rw [hr, hwi, Int.toNat_natCast]
      exact Ev.bind g1 e1
    · rw [e3 j (by omega)]
      simp only [List.getD_eq_getElem?_getD]
      rw [List.getElem?_set_ne (by omega)]
    · rw [hF, hwi]
      exact Ev.bind g2 (Ev.neg (by omega) e4)

/-! segments, marked and held -/
theorem markSegs_held : ∀ (n : Nat) (L : List S49) (i : Nat) (x : Int), L.length - i = n → L.length ≤ 100000 → (∀ j, i ≤ j → j < L.length → (L.getD j z49).f1.length ≤ 10 ∧ ∀ e ∈ (L.getD j z49).f1, e.f0.length ≤ 4) → 0 ≤ x → x + 41 * (n : Int) ≤ 100000 →
    ∃ F m, Ev (fun k => F12.l0 k L x (i : Int)) (m, F) ∧ F.length = L.length ∧ (∀ j, j < i → F.getD j z49 = L.getD j z49) ∧ Ev (fun k => F13.l0 k F x (i : Int)) m ∧ x ≤ m := by
  intro n
  induction n with
  | zero =>
    intro L i x hn hl _ h0 _
    exact ⟨L, x, Ev.step (fun k => F12.l0.eq_2 ..) (Ev.neg (by omega) (Ev.now _)), rfl, fun _ _ => rfl, Ev.step (fun k => F13.l0.eq_2 ..) (Ev.neg (by omega) (Ev.now _)), by omega⟩
  | succ n ih =>
    intro L i x hn hl hb h0 h1
    have hi : i < L.length := by omega
    have hr : rd_T49 L (i : Int) = L.getD i z49 := by unfold rd_T49; rw [Int.toNat_natCast]
    obtain ⟨h4, h5⟩ := hb i (by omega) hi
    have hw1 : wrap64 (x + 1) = x + 1 := wrap_id (by omega) (by omega)
    obtain ⟨G, y, g1, _, _, g2, g3, g4⟩ := markEls_held (L.getD i z49).f1.length (L.getD i z49).f1 0 (x + 1) rfl (by omega) (fun j _ hj => h5 _ (getD_mem z91 hj)) (by omega) (by omega)
    have hwi : wrap64 ((i : Int) + 1) = ((i + 1 : Nat) : Int) := by rw [wrap_id (by omega) (by omega)]; omega
    obtain ⟨F, m, e1, e2, e3, e4, e5⟩ := ih (L.set i ⟨mt x, G⟩) (i + 1) y (by rw [List.length_set]; omega) (by rw [List.length_set]; omega) (fun j hj hj2 => by
      rw [List.length_set] at hj2
      have := hb j (by omega) hj2
      simp only [List.getD_eq_getElem?_getD] at this ⊢
      rw [List.getElem?_set_ne (by omega)]
      exact this) (by omega) (by omega)
    rw [List.length_set] at e2
    have hF : rd_T49 F (i : Int) = ⟨mt x, G⟩ := by
      unfold rd_T49
      rw [Int.toNat_natCast, e3 i (by omega)]
      simp only [List.getD_eq_getElem?_getD]
      rw [List.getElem?_set_self (by omega)]
      rfl
    refine ⟨F, m, Ev.step (fun k => F12.l0.eq_2 ..) (Ev.pos (by omega) (Ev.pos (by omega) (Ev.bind (mt_ev x (by omega)) ?_))), e2, fun j hj => ?_, Ev.step (fun k => F13.l0.eq_2 ..) (Ev.pos (by omega) (Ev.pos (by omega) (Ev.bind (mt_ev x (by omega)) ?_))), by omega⟩
    · rw [hr, hw1, hwi, Int.toNat_natCast]
      exact Ev.bind g1 e1
    · rw [e3 j (by omega)]
      simp only [List.getD_eq_getElem?_getD]
      rw [List.getElem?_set_ne (by omega)]
    · rw [hF, hw1, hwi]
      exact Ev.pos rfl (Ev.bind g2 (Ev.neg (by omega) e4))

/-! how many places a law's argument has: what is measured is counted -/
theorem sz_cnt {α : Type} (z : α) (c : α → Nat) (Z : Nat → List α → Int → Int → Option Int) (L : List α)
    (hs : ∀ (i : Nat) (x : Int), i < L.length → 0 ≤ x → x ≤ 1048576 → Ev (fun k => Z k L x (i : Int)) (-1) ∨ ∃ x', 0 ≤ x' ∧ x' + (c (L.getD i z) : Int) ≤ x ∧ ∀ r, Ev (fun k => Z k L x' ((i + 1 : Nat) : Int)) r → Ev (fun k => Z k L x (i : Int)) r)
    (h0 : ∀ (i : Nat) (x : Int), L.length ≤ i → Ev (fun k => Z k L x (i : Int)) x) :
    ∀ (r : List α) (i : Nat) (x : Int), L.drop i = r → 0 ≤ x → x ≤ 1048576 → ∃ w, Ev (fun k => Z k L x (i : Int)) w ∧ (w = -1 ∨ (0 ≤ w ∧ w + ((r.map c).sum : Nat) ≤ x)) := by
  intro r
  induction r with
  | nil =>
    intro i x h h1 h2
    have := ldrop_nil h
    exact ⟨x, h0 i x (by omega), .inr ⟨h1, by simp⟩⟩
  | cons a r ih =>
    intro i x h h1 h2
    obtain ⟨g1, g2, g3⟩ := ldrop_cons z h
    have g2' : L.getD i z = a := by rw [Int.toNat_natCast] at g2; exact g2
    rcases hs i x (by omega) h1 h2 with e | ⟨x', e1, e2, e3⟩
    · exact ⟨-1, e, .inl rfl⟩
    · rw [g2'] at e2
      obtain ⟨w, u1, u2⟩ := ih (i + 1) x' g3 e1 (by omega)
      refine ⟨w, e3 w u1, ?_⟩
      rcases u2 with u2 | ⟨u2, u3⟩
      · exact .inl u2
      · refine .inr ⟨u2, ?_⟩
        rw [List.map_cons, List.sum_cons]
        omega
theorem sum_one {α : Type} (f : α → Nat) (l : List α) : (l.map fun a => 1 + f a).sum = l.length + (l.map f).sum := by
  induction l with
  | nil => rfl
  | cons a l ih => simp only [List.map_cons, List.sum_cons, List.length_cons, ih]; omega
def kE (L : List S91) : Nat := (L.map fun e => e.f0.length).sum
def kG (L : List S49) : Nat := (L.map fun g => 1 + kE g.f1).sum
theorem szStringS_c (l : List ByteArray) (x : Int) (h0 : 0 ≤ x) (h1 : x ≤ 1048576) (hl : l.length ≤ maxLen) (hs : ∀ s ∈ l, s.size ≤ maxLen) : ∃ w, Ev (fun k => F158.f k l x) w ∧ (w = -1 ∨ (0 ≤ w ∧ w + (l.length : Int) ≤ x)) := by
  simp only [maxLen] at hl hs
  unfold F158.f
  have hw : wrap64 (x - (l.length : Int)) = x - (l.length : Int) := wrap_id (by omega) (by omega)
  rw [hw]
  by_cases hn : x - (l.length : Int) < 0
  · exact ⟨-1, Ev.pos hn (Ev.now _), .inl rfl⟩
  · obtain ⟨w, e1, e2⟩ := sz_cnt ByteArray.empty (fun _ => 0) F158.l0 l (fun i y hi g0 g1 => by
      have hsz : (l.getD i ByteArray.empty).size ≤ 9223372036854775807 := hs _ (getD_mem _ hi)
      have hr : rdOf ByteArray.empty l (i : Int) = l.getD i ByteArray.empty := by unfold rdOf; rw [Int.toNat_natCast]
      have hw2 : wrap64 (y - ((l.getD i ByteArray.empty).size : Int)) = y - ((l.getD i ByteArray.empty).size : Int) := wrap_id (by omega) (by omega)
      by_cases hz : y - ((l.getD i ByteArray.empty).size : Int) < 0
      · refine .inl (Ev.step (fun k => F158.l0.eq_2 ..) (Ev.pos (by omega) (Ev.pos (by omega) ?_)))
        rw [hr, hw2]
        exact Ev.pos hz (Ev.now _)
      · refine .inr ⟨y - ((l.getD i ByteArray.empty).size : Int), by omega, by first | omega | (dsimp only; omega), fun r hr' => Ev.step (fun k => F158.l0.eq_2 ..) (Ev.pos (by omega) (Ev.pos (by omega) ?_))⟩
        rw [hr, hw2, wi_ (by omega)]
        exact Ev.neg hz hr') (fun i y hi => Ev.step (fun k => F158.l0.eq_2 ..) (Ev.neg (by omega) (Ev.now _))) l 0 (x - (l.length : Int)) rfl (by omega) (by omega)
    refine ⟨w, Ev.neg hn e1, ?_⟩
    rcases e2 with e2 | ⟨e2, e3⟩
    · exact .inl e2
    · exact .inr ⟨e2, by omega⟩
theorem szElementS_c (l : List S197) (x : Int) (h0 : 0 ≤ x) (h1 : x ≤ 1048576) (hl : l.length ≤ maxLen) (hs : ∀ y ∈ l, q197 y) : ∃ w, Ev (fun k => F146.f k l x) w ∧ (w = -1 ∨ (0 ≤ w ∧ w + ((l.length + kE (l.map cElement) : Nat) : Int) ≤ x)) := by
  simp only [maxLen] at hl
  unfold F146.f
  have hw : wrap64 (x - (l.length : Int)) = x - (l.length : Int) := wrap_id (by omega) (by omega)
  rw [hw]
  by_cases hn : x - (l.length : Int) < 0
  · exact ⟨-1, Ev.pos hn (Ev.now _), .inl rfl⟩
  · obtain ⟨w, e1, e2⟩ := sz_cnt z197 (fun e => e.f0.length) F146.l0 l (fun i y hi g0 g1 => by
      have hr : rd_T197 l (i : Int) = l.getD i z197 := by unfold rd_T197; rw [Int.toNat_natCast]
      have hq := hs _ (getD_mem z197 hi)
      obtain ⟨w, e1, e2⟩ := szStringS_c (l.getD i z197).f0 y g0 g1 hq.1 hq.2
      rcases e2 with e2 | ⟨e2, e3⟩
      · refine .inl (Ev.step (fun k => F146.l0.eq_2 ..) (Ev.pos (by omega) (Ev.pos (by omega) ?_)))
        rw [hr]
        exact Ev.bind (Ev.bind e1 (Ev.pos (by omega) (Ev.now _))) (Ev.pos (by omega) (Ev.now _))
      · refine .inr ⟨w, by omega, by omega, fun r hr' => Ev.step (fun k => F146.l0.eq_2 ..) (Ev.pos (by omega) (Ev.pos (by omega) ?_))⟩
        rw [hr, wi_ (by omega)]
        exact Ev.bind (Ev.bind e1 (Ev.neg (by omega) (Ev.now _))) (Ev.neg (by omega) hr')) (fun i y hi => Ev.step (fun k => F146.l0.eq_2 ..) (Ev.neg (by omega) (Ev.now _))) l 0 (x - (l.length : Int)) rfl (by omega) (by omega)
    refine ⟨w, Ev.neg hn e1, ?_⟩
    rcases e2 with e2 | ⟨e2, e3⟩
    · exact .inl e2
    · refine .inr ⟨e2, ?_⟩
      have : kE (l.map cElement) = (l.map fun e => e.f0.length).sum := by unfold kE; rw [List.map_map]; rfl
      omega
theorem szSegmentS_c (l : List S173) (x : Int) (h0 : 0 ≤ x) (h1 : x ≤ 1048576) (hl : l.length ≤ maxLen) (hs : ∀ y ∈ l, q173 y) : ∃ w, Ev (fun k => F123.f k l x) w ∧ (w = -1 ∨ (0 ≤ w ∧ w + ((kG (l.map cSegment) : Nat) : Int) ≤ x)) := by
  simp only [maxLen] at hl
  unfold F123.f
  have hw : wrap64 (x - (l.length : Int)) = x - (l.length : Int) := wrap_id (by omega) (by omega)
  rw [hw]
  by_cases hn : x - (l.length : Int) < 0
  · exact ⟨-1, Ev.pos hn (Ev.now _), .inl rfl⟩
  · obtain ⟨w, e1, e2⟩ := sz_cnt z173 (fun g => kE (g.f1.map cElement)) F123.l0 l (fun i y hi g0 g1 => by
      have hr : rd_T173 l (i : Int) = l.getD i z173 := by unfold rd_T173; rw [Int.toNat_natCast]
      have hq := hs _ (getD_mem z173 hi)
      have hm : (l.getD i z173).f0.size ≤ 9223372036854775807 := hq.1
      have e0 : wrap64 (y - ((l.getD i z173).f0.size : Int)) = y - ((l.getD i z173).f0.size : Int) := wrap_id (by omega) (by omega)
      by_cases n0 : y - ((l.getD i z173).f0.size : Int) < 0
      · refine .inl (Ev.step (fun k => F123.l0.eq_2 ..) (Ev.pos (by omega) (Ev.pos (by omega) ?_)))
        rw [hr]
        unfold F134.f
        rw [e0]
        exact Ev.bind (Ev.pos n0 (Ev.now _)) (Ev.pos (by omega) (Ev.now _))
      · obtain ⟨w, e1, e2⟩ := szElementS_c (l.getD i z173).f1 (y - ((l.getD i z173).f0.size : Int)) (by omega) (by omega) hq.2.1 hq.2.2
        rcases e2 with e2 | ⟨e2, e3⟩
        · refine .inl (Ev.step (fun k => F123.l0.eq_2 ..) (Ev.pos (by omega) (Ev.pos (by omega) ?_)))
          rw [hr]
          unfold F134.f
          rw [e0]
          exact Ev.bind (Ev.neg n0 (Ev.bind e1 (Ev.pos (by omega) (Ev.now _)))) (Ev.pos (by omega) (Ev.now _))
        · refine .inr ⟨w, by omega, by omega, fun r hr' => Ev.step (fun k => F123.l0.eq_2 ..) (Ev.pos (by omega) (Ev.pos (by omega) ?_))⟩
          rw [hr, wi_ (by omega)]
          unfold F134.f
          rw [e0]
          exact Ev.bind (Ev.neg n0 (Ev.bind e1 (Ev.neg (by omega) (Ev.now _)))) (Ev.neg (by omega) hr')) (fun i y hi => Ev.step (fun k => F123.l0.eq_2 ..) (Ev.neg (by omega) (Ev.now _))) l 0 (x - (l.length : Int)) rfl (by omega) (by omega)
    refine ⟨w, Ev.neg hn e1, ?_⟩
    rcases e2 with e2 | ⟨e2, e3⟩
    · exact .inl e2
    · refine .inr ⟨e2, ?_⟩
      have : kG (l.map cSegment) = l.length + (l.map fun g => kE (g.f1.map cElement)).sum := by unfold kG; rw [List.map_map, ← sum_one]; rfl
      omega
/-! marks on whatever list: they end, and the count does not pass the places -/
theorem mark_any {α : Type} (z : α) (c : α → Nat) (P : α → Prop) (M : Nat → List α → Int → Int → Option (Int × List α))
    (hM : ∀ (L : List α) (i : Nat) (x : Int), L.length ≤ 1048576 → i < L.length → 0 ≤ x → x + (c (L.getD i z) : Int) ≤ 1000000000 → P (L.getD i z) → ∃ y e, x ≤ y ∧ y ≤ x + (c (L.getD i z) : Int) ∧ ∀ r, Ev (fun k => M k (L.set i e) y ((i + 1 : Nat) : Int)) r → Ev (fun k => M k L x (i : Int)) r)
    (hM0 : ∀ (L : List α) (i : Nat) (x : Int), L.length ≤ i → Ev (fun k => M k L x (i : Int)) (x, L)) :
    ∀ (r L : List α) (i : Nat) (x : Int), L.length ≤ 1048576 → L.drop i = r → (∀ a ∈ r, P a) → 0 ≤ x → x + ((r.map c).sum : Nat) ≤ 1000000000 → ∃ F m, Ev (fun k => M k L x (i : Int)) (m, F) ∧ x ≤ m ∧ m ≤ x + ((r.map c).sum : Nat) := by
  intro r
  induction r with
  | nil =>
    intro L i x hl h hP h0 hb
    have := ldrop_nil h
    exact ⟨L, x, hM0 L i x (by omega), by omega, by simp⟩
  | cons a r ih =>
    intro L i x hl h hP h0 hb
    obtain ⟨g1, g2, g3⟩ := ldrop_cons z h
    have g2' : L.getD i z = a := by rw [Int.toNat_natCast] at g2; exact g2
    rw [List.map_cons, List.sum_cons] at hb ⊢
    obtain ⟨y, e, y1, y2, y3⟩ := hM L i x hl (by omega) h0 (by rw [g2']; omega) (by rw [g2']; exact hP a List.mem_cons_self)
    rw [g2'] at y2
    obtain ⟨F, m, u1, u2, u3⟩ := ih (L.set i e) (i + 1) y (by rw [List.length_set]; exact hl) (by rw [List.drop_set_of_lt (by omega)]; exact g3) (fun b hb' => hP b (List.mem_cons_of_mem _ hb')) (by omega) (by omega)
    exact ⟨F, m, y3 _ u1, by omega, by omega⟩
theorem markE_any (L : List S91) (x : Int) (hl : L.length ≤ 1048576) (h0 : 0 ≤ x) (hb : x + (kE L : Int) ≤ 1000000000) : ∃ F m, Ev (fun k => F35.f k L x) (m, F) ∧ x ≤ m ∧ m ≤ x + (kE L : Int) := by
  refine mark_any z91 (fun e => e.f0.length) (fun _ => True) F35.l0 (fun L i x hl hi h0 hb _ => ?_) (fun L i x hi => Ev.step (fun k => F35.l0.eq_2 ..) (Ev.neg (by omega) (Ev.now _))) L L 0 x hl rfl (fun _ _ => trivial) h0 hb
  have hr : rd_T91 L (i : Int) = L.getD i z91 := by unfold rd_T91; rw [Int.toNat_natCast]
  obtain ⟨G, y, g1, g2, g3, g4⟩ := markStringS_held (L.getD i z91).f0 x (by omega) (by omega) (by omega)
  refine ⟨y, ⟨G⟩, by omega, by omega, fun r hr' => Ev.step (fun k => F35.l0.eq_2 ..) (Ev.pos (by omega) (Ev.pos (by omega) ?_))⟩
  rw [hr, wi_ (by omega), Int.toNat_natCast]
  exact Ev.bind g1 hr'
def kGp (g : S49) : Prop := g.f1.length ≤ 1048576
theorem markG_any (L : List S49) (x : Int) (hl : L.length ≤ 1048576) (hP : ∀ g ∈ L, kGp g) (h0 : 0 ≤ x) (hb : x + (kG L : Int) ≤ 1000000000) : ∃ F m, Ev (fun k => F12.f k L x) (m, F) ∧ x ≤ m ∧ m ≤ x + (kG L : Int) := by
  refine mark_any z49 (fun g => 1 + kE g.f1) kGp F12.l0 (fun L i x hl hi h0 hb hp => ?_) (fun L i x hi => Ev.step (fun k => F12.l0.eq_2 ..) (Ev.neg (by omega) (Ev.now _))) L L 0 x hl rfl hP h0 hb
  have hr : rd_T49 L (i : Int) = L.getD i z49 := by unfold rd_T49; rw [Int.toNat_natCast]
  have hw1 : wrap64 (x + 1) = x + 1 := wrap_id (by omega) (by omega)
  obtain ⟨G, y, g1, g2, g3⟩ := markE_any (L.getD i z49).f1 (x + 1) hp (by omega) (by omega)
  refine ⟨y, ⟨mt x, G⟩, by omega, by omega, fun r hr' => Ev.step (fun k => F12.l0.eq_2 ..) (Ev.pos (by omega) (Ev.pos (by omega) (Ev.bind (mt_ev x (by omega)) ?_)))⟩
  rw [hr, hw1, wi_ (by omega), Int.toNat_natCast]
  exact Ev.bind g1 hr'

def kM (L : List S56) : Nat := (L.map fun m => 1 + kG m.f1).sum
def kB (L : List S53) : Nat := (L.map fun b => 2 + kM b.f2).sum
theorem szMessageS_c (l : List S148) (x : Int) (h0 : 0 ≤ x) (h1 : x ≤ 1048576) (hl : l.length ≤ maxLen) (hs : ∀ y ∈ l, q148 y) : ∃ w, Ev (fun k => F88.f k l x) w ∧ (w = -1 ∨ (0 ≤ w ∧ w + ((kM (l.map cMessage) : Nat) : Int) ≤ x)) := by
  simp only [maxLen] at hl
  unfold F88.f
  have hw : wrap64 (x - (l.length : Int)) = x - (l.length : Int) := wrap_id (by omega) (by omega)
  rw [hw]
  by_cases hn : x - (l.length : Int) < 0
  · exact ⟨-1, Ev.pos hn (Ev.now _), .inl rfl⟩
  · obtain ⟨w, e1, e2⟩ := sz_cnt z148 (fun g => kG (g.f1.map cSegment)) F88.l0 l (fun i y hi g0 g1 => by
      have hr : rd_T148 l (i : Int) = l.getD i z148 := by unfold rd_T148; rw [Int.toNat_natCast]
      have hq := hs _ (getD_mem z148 hi)
      obtain ⟨w, e1, e2⟩ := szSegmentS_c (l.getD i z148).f1 y g0 g1 hq.2.1 hq.2.2
      rcases e2 with e2 | ⟨e2, e3⟩
      · refine .inl (Ev.step (fun k => F88.l0.eq_2 ..) (Ev.pos (by omega) (Ev.pos (by omega) ?_)))
        rw [hr]
        exact Ev.bind (Ev.bind e1 (Ev.pos (by omega) (Ev.now _))) (Ev.pos (by omega) (Ev.now _))
      · refine .inr ⟨w, by omega, by omega, fun r hr' => Ev.step (fun k => F88.l0.eq_2 ..) (Ev.pos (by omega) (Ev.pos (by omega) ?_))⟩
        rw [hr, wi_ (by omega)]
        exact Ev.bind (Ev.bind e1 (Ev.neg (by omega) (Ev.now _))) (Ev.neg (by omega) hr')) (fun i y hi => Ev.step (fun k => F88.l0.eq_2 ..) (Ev.neg (by omega) (Ev.now _))) l 0 (x - (l.length : Int)) rfl (by omega) (by omega)
    refine ⟨w, Ev.neg hn e1, ?_⟩
    rcases e2 with e2 | ⟨e2, e3⟩
    · exact .inl e2
    · refine .inr ⟨e2, ?_⟩
      have : kM (l.map cMessage) = l.length + (l.map fun g => kG (g.f1.map cSegment)).sum := by unfold kM; rw [List.map_map, ← sum_one]; rfl
      omega
theorem szBundleS_c (l : List S89) (x : Int) (h0 : 0 ≤ x) (h1 : x ≤ 1048576) (hl : l.length ≤ maxLen) (hs : ∀ y ∈ l, q89 y) : ∃ w, Ev (fun k => F22.f k l x) w ∧ (w = -1 ∨ (0 ≤ w ∧ w + ((kB (l.map cBundle) : Nat) : Int) ≤ x + (l.length : Int) ∧ (l.length : Int) ≤ x)) := by
  simp only [maxLen] at hl
  unfold F22.f
  have hw : wrap64 (x - (l.length : Int)) = x - (l.length : Int) := wrap_id (by omega) (by omega)
  rw [hw]
  by_cases hn : x - (l.length : Int) < 0
  · exact ⟨-1, Ev.pos hn (Ev.now _), .inl rfl⟩
  · obtain ⟨w, e1, e2⟩ := sz_cnt z89 (fun g => kM (g.f2.map cMessage)) F22.l0 l (fun i y hi g0 g1 => by
      have hr : rd_T89 l (i : Int) = l.getD i z89 := by unfold rd_T89; rw [Int.toNat_natCast]
      have hq := hs _ (getD_mem z89 hi)
      obtain ⟨w, e1, e2⟩ := szMessageS_c (l.getD i z89).f2 y g0 g1 hq.2.2.1 hq.2.2.2
      rcases e2 with e2 | ⟨e2, e3⟩
      · refine .inl (Ev.step (fun k => F22.l0.eq_2 ..) (Ev.pos (by omega) (Ev.pos (by omega) ?_)))
        rw [hr]
        exact Ev.bind (Ev.bind e1 (Ev.pos (by omega) (Ev.now _))) (Ev.pos (by omega) (Ev.now _))
      · refine .inr ⟨w, by omega, by omega, fun r hr' => Ev.step (fun k => F22.l0.eq_2 ..) (Ev.pos (by omega) (Ev.pos (by omega) ?_))⟩
        rw [hr, wi_ (by omega)]
        exact Ev.bind (Ev.bind e1 (Ev.neg (by omega) (Ev.now _))) (Ev.neg (by omega) hr')) (fun i y hi => Ev.step (fun k => F22.l0.eq_2 ..) (Ev.neg (by omega) (Ev.now _))) l 0 (x - (l.length : Int)) rfl (by omega) (by omega)
    refine ⟨w, Ev.neg hn e1, ?_⟩
    rcases e2 with e2 | ⟨e2, e3⟩
    · exact .inl e2
    · refine .inr ⟨e2, ?_, by omega⟩
      have : kB (l.map cBundle) = l.length + (l.length + (l.map fun g => kM (g.f2.map cMessage)).sum) := by
        unfold kB
        rw [List.map_map, ← sum_one, ← sum_one]
        congr 1
        refine List.map_congr_left fun a _ => ?_
        show 2 + kM (a.f2.map cMessage) = 1 + (1 + kM (a.f2.map cMessage))
        omega
      omega
theorem szInterchange_c (a0 a1 : ByteArray) (a2 : Int) (l : List S89) (h0 : a0.size ≤ maxLen) (h1 : a1.size ≤ maxLen) (hl : l.length ≤ maxLen) (hs : ∀ y ∈ l, q89 y) : ∃ w, Ev (fun k => F5.f k a0 a1 a2 l 1048576) w ∧ (w = -1 ∨ (0 ≤ w ∧ ((kB (l.map cBundle) : Nat) : Int) ≤ 2097152)) := by
  have m0 : a0.size ≤ 9223372036854775807 := h0
  have m1 : a1.size ≤ 9223372036854775807 := h1
  unfold F5.f
  have e0 : wrap64 (1048576 - (a0.size : Int)) = 1048576 - (a0.size : Int) := wrap_id (by omega) (by omega)
  rw [e0]
  by_cases n0 : (1048576 : Int) - (a0.size : Int) < 0
  · exact ⟨-1, Ev.pos n0 (Ev.now _), .inl rfl⟩
  have e1 : wrap64 (1048576 - (a0.size : Int) - (a1.size : Int)) = 1048576 - (a0.size : Int) - (a1.size : Int) := wrap_id (by omega) (by omega)
  rw [e1]
  by_cases n1 : (1048576 : Int) - (a0.size : Int) - (a1.size : Int) < 0
  · exact ⟨-1, Ev.neg n0 (Ev.pos n1 (Ev.now _)), .inl rfl⟩
  obtain ⟨w1, u1, t1⟩ := szBundleS_c l (1048576 - (a0.size : Int) - (a1.size : Int)) (by omega) (by omega) hl hs
  rcases t1 with t1 | ⟨t1, s1, b1⟩
  · exact ⟨-1, Ev.neg n0 (Ev.neg n1 (Ev.bind u1 (Ev.pos (by omega) (Ev.now _)))), .inl rfl⟩
  exact ⟨w1, Ev.neg n0 (Ev.neg n1 (Ev.bind u1 (Ev.neg (by omega) (Ev.now _)))), .inr ⟨by omega, by omega⟩⟩
def kMp (m : S56) : Prop := m.f1.length ≤ 1048576 ∧ ∀ g ∈ m.f1, kGp g
def kBp (b : S53) : Prop := b.f2.length ≤ 1048576 ∧ ∀ m ∈ b.f2, kMp m
theorem markM_any (L : List S56) (x : Int) (hl : L.length ≤ 1048576) (hP : ∀ g ∈ L, kMp g) (h0 : 0 ≤ x) (hb : x + (kM L : Int) ≤ 1000000000) : ∃ F m, Ev (fun k => F65.f k L x) (m, F) ∧ x ≤ m ∧ m ≤ x + (kM L : Int) := by
  refine mark_any z56 (fun g => 1 + kG g.f1) kMp F65.l0 (fun L i x hl hi h0 hb hp => ?_) (fun L i x hi => Ev.step (fun k => F65.l0.eq_2 ..) (Ev.neg (by omega) (Ev.now _))) L L 0 x hl rfl hP h0 hb
  have hr : rd_T56 L (i : Int) = L.getD i z56 := by unfold rd_T56; rw [Int.toNat_natCast]
  have hw1 : wrap64 (x + 1) = x + 1 := wrap_id (by omega) (by omega)
  obtain ⟨G, y, g1, g2, g3⟩ := markG_any (L.getD i z56).f1 (x + 1) hp.1 hp.2 (by omega) (by omega)
  refine ⟨y, ⟨x, G⟩, by omega, by omega, fun r hr' => Ev.step (fun k => F65.l0.eq_2 ..) (Ev.pos (by omega) (Ev.pos (by omega) ?_))⟩
  rw [hr, hw1, wi_ (by omega), Int.toNat_natCast]
  exact Ev.bind g1 hr'
theorem markB_any (L : List S53) (x : Int) (hl : L.length ≤ 1048576) (hP : ∀ g ∈ L, kBp g) (h0 : 0 ≤ x) (hb : x + (kB L : Int) ≤ 1000000000) : ∃ F m, Ev (fun k => F33.f k L x) (m, F) ∧ x ≤ m ∧ m ≤ x + (kB L : Int) := by
  refine mark_any z53 (fun g => 2 + kM g.f2) kBp F33.l0 (fun L i x hl hi h0 hb hp => ?_) (fun L i x hi => Ev.step (fun k => F33.l0.eq_2 ..) (Ev.neg (by omega) (Ev.now _))) L L 0 x hl rfl hP h0 hb
  have hr : rd_T53 L (i : Int) = L.getD i z53 := by unfold rd_T53; rw [Int.toNat_natCast]
  have hw1 : wrap64 (x + 1) = x + 1 := wrap_id (by omega) (by omega)
  have hw2 : wrap64 (x + 1 + 1) = x + 1 + 1 := wrap_id (by omega) (by omega)
  obtain ⟨G, y, g1, g2, g3⟩ := markM_any (L.getD i z53).f2 (x + 1 + 1) hp.1 hp.2 (by omega) (by omega)
  refine ⟨y, ⟨x, x + 1, G⟩, by omega, by omega, fun r hr' => Ev.step (fun k => F33.l0.eq_2 ..) (Ev.pos (by omega) (Ev.pos (by omega) ?_))⟩
  rw [hr, hw1, hw2, wi_ (by omega), Int.toNat_natCast]
  exact Ev.bind g1 hr'

/-! the segments' own bounds, and the law -/
def gBnd (g : S49) : Prop := g.f1.length ≤ 10 ∧ ∀ e ∈ g.f1, e.f0.length ≤ 4
theorem segL_parts : ∀ (L : List S91), segL L = true → ∀ e ∈ L, e.f0.length ≤ 4 := by
  intro L
  induction L with
  | nil => intro _ e he; simp at he
  | cons x L ih =>
    intro h e he
    have h' : elP x.f0 = true ∧ segL L = true := by
      cases L with
      | nil => simp only [segL, Bool.and_eq_true] at h; exact ⟨h.1, rfl⟩
      | cons y L => rw [segL, Bool.and_eq_true] at h; exact h
    rcases List.mem_cons.1 he with rfl | he
    · have := h'.1
      simp only [elP, Bool.and_eq_true, decide_eq_true_eq] at this
      exact this.1.1.2
    · exact ih h'.2 e he
theorem plain_bnd (tag : ByteArray) (ps : List ByteArray) (h : ps.length ≤ 10) : gBnd (plainS tag ps) := by
  refine ⟨by show (ps.map _).length ≤ 10; rw [List.length_map]; exact h, fun e he => ?_⟩
  obtain ⟨p, _, rfl⟩ := List.mem_map.1 he
  simp
theorem body_bnd {g : S49} (h : bodyB g.f0 g.f1 = true) : gBnd g := by
  simp only [bodyB, segB, Bool.and_eq_true, decide_eq_true_eq] at h
  exact ⟨h.1.1.2, segL_parts _ h.1.2⟩
theorem segsM_bnd {m : S56} (h : msgB m.f0 m.f1 = true) : ∀ g ∈ segsM m, gBnd g := by
  simp only [msgB, Bool.and_eq_true, List.all_eq_true] at h
  intro g hg
  simp only [segsM, List.mem_cons, List.mem_append, List.not_mem_nil, or_false] at hg
  rcases hg with rfl | hg | rfl
  · exact plain_bnd _ _ (by simp)
  · exact body_bnd (h.2.2 g hg)
  · exact plain_bnd _ _ (by simp)
theorem segsB_bnd {b : S53} (h : bunB b.f0 b.f1 b.f2 = true) : ∀ g ∈ segsB b, gBnd g := by
  simp only [bunB, Bool.and_eq_true, List.all_eq_true] at h
  intro g hg
  simp only [segsB, List.mem_cons, List.mem_append, List.not_mem_nil, or_false, List.mem_flatMap] at hg
  rcases hg with rfl | ⟨m, hm, hg⟩ | rfl
  · exact plain_bnd _ _ (by simp)
  · exact segsM_bnd (h.2.2.2 m hm) g hg
  · exact plain_bnd _ _ (by simp)
theorem segsX_bnd {A B : ByteArray} {n : Int} {L : List S53} (h : ixB A B n L = true) : ∀ g ∈ segsX A B n L, gBnd g := by
  simp only [ixB, Bool.and_eq_true, List.all_eq_true] at h
  intro g hg
  simp only [segsX, List.mem_cons, List.mem_append, List.not_mem_nil, or_false, List.mem_flatMap] at hg
  rcases hg with rfl | ⟨b, hb, hg⟩ | rfl
  · exact plain_bnd _ _ (by simp)
  · exact segsB_bnd (h.2.2.2.2 b hb) g hg
  · exact plain_bnd _ _ (by simp)
theorem segsX_len {A B : ByteArray} {n : Int} {L : List S53} (h : ixB A B n L = true) (hb : ∀ b ∈ L, bBn b) : (segsX A B n L).length ≤ 2112 := by
  obtain ⟨_, h2, h3⟩ := ixB_ok h hb
  have := flat_le segsB 422 L fun b hB => segsB_len (h3 b hB)
  unfold segsX
  simp only [List.length_cons, List.length_append, List.length_nil]
  omega
theorem kGp_of {x : S49} (h : bSg x) : kGp x := h.1
theorem kMp_of {x : S56} (h : bMs x) : kMp x := ⟨h.1, fun g hg => kGp_of (h.2 g hg)⟩
theorem kBp_of {x : S53} (h : bBn x) : kBp x := ⟨h.1, fun m hm => kMp_of (h.2 m hm)⟩
theorem FnExactIxSegments : F3.Pure := by
  intro A B n l hA hB hn hl
  refine Ev.rounds (g := fun k => F3.f k A B n l) ?_
  unfold F3.f
  have mA : (A.size : Int) ≤ 9223372036854775807 := by simp only [maxLen] at hA; omega
  have mB : (B.size : Int) ≤ 9223372036854775807 := by simp only [maxLen] at hB; omega
  obtain ⟨w, u, t⟩ := szInterchange_ev A B n l 1048576 (by omega) (by omega) hA hB hl
  rcases t with t | ⟨t, _, _, _, hbl⟩
  · exact Ev.bind u (Ev.pos (by omega) (Ev.now _))
  obtain ⟨w', u', t'⟩ := szInterchange_c A B n l hA hB hl.1 hl.2
  have ew := Ev.unique u u'
  subst ew
  have hcnt : ((kB (l.map cBundle) : Nat) : Int) ≤ 2097152 := by omega
  have ht := toInterchange_ev A B n l hbl
  have hbe : ∀ b ∈ l.map cBundle, bBn b := by
    intro y hy
    obtain ⟨e, he, rfl⟩ := List.mem_map.1 hy
    exact bBn_of (hbl.2 e he)
  have hll : (l.map cBundle).length ≤ 1048576 := by rw [List.length_map]; exact hbl.1
  have r1 := specSegs_ev A B n (l.map cBundle) mA mB hll hbe
  have r2 := implSegs_ev A B n (l.map cBundle) mA mB hll hbe
  have he := eqInterchange_refl A B n (l.map cBundle) ⟨by omega, fun y hy => eBn_of (hbe y hy)⟩
  obtain ⟨F, m, e1, e2, e3⟩ := markB_any (l.map cBundle) 1 hll (fun b hb => kBp_of (hbe b hb)) (by omega) (by omega)
  have e1' : Ev (fun k => F11.f k A B n (l.map cBundle) 1) (m, F) := e1
  generalize hG : (if ixB A B n (l.map cBundle) = true then segsX A B n (l.map cBundle) else []) = G at r1 r2
  have g1 : G.length ≤ 2112 ∧ ∀ g ∈ G, gBnd g := by
    rw [← hG]
    by_cases h : ixB A B n (l.map cBundle) = true
    · rw [if_pos h]
      exact ⟨segsX_len h hbe, segsX_bnd h⟩
    · rw [if_neg h]
      exact ⟨by simp, fun g hg => by simp at hg⟩
  have hs : Ev (fun k => F9.f k G G) true := eqSegmentS_refl G (by have := g1.1; omega) (fun g hg => ⟨by have := (g1.2 g hg).1; omega, fun y hy => by have := (g1.2 g hg).2 y hy; show (y.f0.length : Int) ≤ _; omega⟩)
  obtain ⟨H, q, m1, _, _, m2, m3⟩ := markSegs_held G.length G 0 1 rfl (by have := g1.1; omega) (fun j _ hj => g1.2 _ (getD_mem z49 hj)) (by omega) (by have := g1.1; omega)
  have m1' : Ev (fun k => F12.f k G 1) (q, H) := m1
  have m2' : Ev (fun k => F13.f k H 1) q := m2
  refine Ev.bind u (Ev.neg (by omega) (Ev.bind ht (Ev.bind r1 (Ev.bind ht (Ev.bind r2 (Ev.bind hs (Ev.pos rfl (Ev.bind ht (Ev.bind he (Ev.pos rfl (Ev.bind e1' (Ev.neg (by omega) (Ev.bind hs ?_)))))))))))))
  refine Ev.step (fun k => F3.j0.eq_2 ..) (Ev.neg (by simp) ?_)
  exact Ev.bind m1' (Ev.bind m2' (Ev.neg (by omega) (Ev.pos rfl (Ev.bind ht (Ev.bind r2 (Ev.bind hs (Ev.pos rfl (Ev.bind m2' (Ev.neg (by omega) (Ev.pos rfl (Ev.now _)))))))))))

end Go.Proofs.YtlghcbmkhdibdaaGreatDoor.Pure
