/- The program's CrossDrop answers as the reference's: the law, over numbers and lists.
Conditions: none. -/
import Derived.Test.YtjffakoifpldeaaPFnExactCrossDropx
import Derived.Test.YtjffakoifpldeaaVFnExactCrossDrop
namespace Go.Proofs.Ytjffakoifpldeaa.Pure
open Go.RowKit Go.Proofs.Ytjffakoifpldeaa.PFnExactCrossDrop Go.Proofs.YtjffakoifpldeaaW.PrintWords Go.Proofs.YtjffakoifpldeaaW.PrintLast Go.Proofs.YtjffakoifpldeaaW.PrintMore Go.Proofs.YtjffakoifpldeaaW.Pl
set_option linter.unusedVariables false
set_option linter.unusedSimpArgs false

theorem within_eq (a b c : Int) : impl_within.f a b c = some (withinP a b c) := by
  unfold impl_within.f withinP
  split
  · congr 1; simp only [decide_eq_decide]; omega
  · congr 1; symm; simp only [decide_eq_false_iff_not]; omega

theorem isGreat_eq (c : Int) : impl_isGreat.f c = some (great c) := by
  unfold impl_isGreat.f great
  split
  · congr 1; simp only [decide_eq_decide]; omega
  · congr 1; symm; simp only [decide_eq_false_iff_not]; omega
theorem isDigit_eq (c : Int) : impl_isDigit.f c = some (digit c) := by
  unfold impl_isDigit.f digit
  split
  · congr 1; simp only [decide_eq_decide]; omega
  · congr 1; symm; simp only [decide_eq_false_iff_not]; omega

theorem great_t {c : Int} (h : 65 ≤ c) (h' : c ≤ 90) : great c = true := by simp [great, h, h']
theorem great_f {c : Int} (h : ¬ (65 ≤ c ∧ c ≤ 90)) : great c = false := by simp [great]; omega
theorem digit_t {c : Int} (h : 48 ≤ c) (h' : c ≤ 57) : digit c = true := by simp [digit, h, h']
theorem digit_f {c : Int} (h : ¬ (48 ≤ c ∧ c ≤ 57)) : digit c = false := by simp [digit]; omega

theorem isName_loop (s : ByteArray) (hs : (s.size : Int) ≤ 9223372036854775807) : ∀ (l : List Int) (i : Nat), 1 ≤ i → (bytesOf s).drop i = l → Ev (fun k => impl_isName.l0 k s (s.size : Int) (i : Int)) (l.all nameCh && withinP (s.size : Int) 1 12) := by
  intro l
  induction l with
  | nil =>
    intro i hi h
    have h0 := drop_nil h
    refine Ev.step (fun k => impl_isName.l0.eq_2 ..) ?_
    refine Ev.neg (by omega) ?_
    refine Ev.bindc (within_eq _ _ _) ?_
    exact Ev.ret (by simp)
  | cons c r ih =>
    intro i hi h
    obtain ⟨h1, h2, h3, _, _⟩ := drop_cons h
    have hw : wrap64 ((i : Int) + 1) = ((i + 1 : Nat) : Int) := by rw [wrap_id (by omega) (by omega)]; omega
    have hn := ih (i + 1) (by omega) h3
    refine Ev.step (fun k => impl_isName.l0.eq_2 ..) ?_
    refine Ev.pos h1 (Ev.pos (by omega) (Ev.pos h1 ?_))
    rw [h2]
    refine Ev.bindc (isGreat_eq _) ?_
    by_cases hg : great c = true
    · refine Ev.pos hg ?_
      rw [hw]
      exact hn.to (by simp [nameCh, hg])
    · refine Ev.neg hg (Ev.neg (by omega) ?_)
      refine Ev.bindc (isDigit_eq _) ?_
      by_cases hd : digit c = true
      · refine Ev.pos hd ?_
        rw [hw]
        exact hn.to (by simp [nameCh, hd])
      · refine Ev.neg hd ?_
        by_cases he : c = 45
        · refine Ev.pos he ?_
          rw [hw]
          exact hn.to (by simp [nameCh, he])
        · refine Ev.neg he ?_
          exact Ev.ret (by simp [nameCh, hg, hd, he])
theorem isName_ev (s : ByteArray) (hs : (s.size : Int) ≤ 9223372036854775807) : Ev (fun k => impl_isName.f k s) (nameP (bytesOf s)) := by
  have hl := length_bytesOf s
  show Ev (fun k => impl_isName.l0 k s (s.size : Int) ((0 : Nat) : Int)) _
  match hb : bytesOf s with
  | [] =>
    have h0 := drop_nil (s := s) (i := 0) (by simp [hb])
    refine Ev.step (fun k => impl_isName.l0.eq_2 ..) ?_
    refine Ev.neg (by omega) ?_
    refine Ev.bindc (within_eq _ _ _) ?_
    exact Ev.ret (by simp [withinP, nameP]; omega)
  | c :: r =>
    obtain ⟨h1, h2, h3, _, _⟩ := drop_cons (s := s) (i := 0) (c := c) (r := r) (by simp [hb])
    have hn := isName_loop s hs r 1 (by omega) h3
    rw [hb] at hl
    simp only [List.length_cons] at hl
    refine Ev.step (fun k => impl_isName.l0.eq_2 ..) ?_
    refine Ev.pos h1 (Ev.pos (by omega) (Ev.pos h1 ?_))
    rw [h2]
    refine Ev.bindc (isGreat_eq _) ?_
    by_cases hg : great c = true
    · refine Ev.pos hg ?_
      rw [show wrap64 (((0 : Nat) : Int) + 1) = ((1 : Nat) : Int) from by rw [wrap_id (by omega) (by omega)]; rfl]
      refine hn.to ?_
      have : withinP (s.size : Int) 1 12 = decide (r.length ≤ 11) := by
        simp only [withinP, decide_eq_decide]; omega
      simp [nameP, hg, this]
    · refine Ev.neg hg (Ev.pos rfl ?_)
      exact Ev.ret (by simp [nameP, hg])

theorem l01Name_loop (s : ByteArray) (hs : (s.size : Int) ≤ 9223372036854775807) : ∀ (l : List Int) (i : Nat), (bytesOf s).drop i = l → Ev (fun k => spec_l01Name.l0 k s (i : Int)) (l.all nameCh) := by
  intro l
  induction l with
  | nil =>
    intro i h
    have h0 := drop_nil h
    refine Ev.step (fun k => spec_l01Name.l0.eq_2 ..) ?_
    exact Ev.neg (by omega) (Ev.ret (by simp))
  | cons c r ih =>
    intro i h
    obtain ⟨h1, h2, h3, _, _⟩ := drop_cons h
    have hw : wrap64 ((i : Int) + 1) = ((i + 1 : Nat) : Int) := by rw [wrap_id (by omega) (by omega)]; omega
    have hn := ih (i + 1) h3
    refine Ev.step (fun k => spec_l01Name.l0.eq_2 ..) ?_
    refine Ev.pos h1 (Ev.pos (by omega) ?_)
    rw [h2, hw]
    by_cases hk : nameCh c = true
    · have hn' : Ev (fun k => spec_l01Name.l0 k s ((i + 1 : Nat) : Int)) ((c :: r).all nameCh) := hn.to (by simp [hk])
      have hk' : (65 ≤ c ∧ c ≤ 90) ∨ (48 ≤ c ∧ c ≤ 57) ∨ c = 45 := by simp [nameCh, great, digit, or_assoc] at hk; exact hk
      refine Ev.ite (fun g1 => Ev.ite (fun g2 => hn') (fun g2 => Ev.ite (fun g3 => Ev.ite (fun g4 => hn') (fun g4 => Ev.ite (fun g5 => hn') (fun g5 => ?_))) (fun g3 => Ev.ite (fun g5 => hn') (fun g5 => ?_)))) (fun g1 => Ev.ite (fun g3 => Ev.ite (fun g4 => hn') (fun g4 => Ev.ite (fun g5 => hn') (fun g5 => ?_))) (fun g3 => Ev.ite (fun g5 => hn') (fun g5 => ?_)))
      all_goals exact absurd hk' (by omega)
    · have hf : Ev (fun _ : Nat => some false) ((c :: r).all nameCh) := Ev.ret (by simp [hk])
      have hk' : ¬ ((65 ≤ c ∧ c ≤ 90) ∨ (48 ≤ c ∧ c ≤ 57) ∨ c = 45) := by simp [nameCh, great, digit] at hk; omega
      refine Ev.ite (fun g1 => Ev.ite (fun g2 => ?_) (fun g2 => Ev.ite (fun g3 => Ev.ite (fun g4 => ?_) (fun g4 => Ev.ite (fun g5 => ?_) (fun g5 => hf))) (fun g3 => Ev.ite (fun g5 => ?_) (fun g5 => hf)))) (fun g1 => Ev.ite (fun g3 => Ev.ite (fun g4 => ?_) (fun g4 => Ev.ite (fun g5 => ?_) (fun g5 => hf))) (fun g3 => Ev.ite (fun g5 => ?_) (fun g5 => hf)))
      all_goals exact absurd (show (65 ≤ c ∧ c ≤ 90) ∨ (48 ≤ c ∧ c ≤ 57) ∨ c = 45 by omega) hk'
theorem l01Name_ev (s : ByteArray) (hs : (s.size : Int) ≤ 9223372036854775807) : Ev (fun k => spec_l01Name.f k s) (nameP (bytesOf s)) := by
  have hl := length_bytesOf s
  have hj : ∀ b, b = false → Ev (fun k => spec_l01Name.j0 k s true) b := fun b hb => Ev.step (fun k => spec_l01Name.j0.eq_2 ..) (Ev.pos rfl (Ev.ret hb.symm))
  unfold spec_l01Name.f
  match hb : bytesOf s with
  | [] =>
    have h0 := drop_nil (s := s) (i := 0) (by simp [hb])
    refine Ev.pos (by omega) (hj _ rfl)
  | c :: r =>
    obtain ⟨h1, h2, h3, _, _⟩ := drop_cons (s := s) (i := 0) (c := c) (r := r) (by simp [hb])
    have hn := l01Name_loop s hs (c :: r) 0 (by simp [hb])
    rw [hb] at hl
    simp only [List.length_cons] at hl
    have h2' : bt s 0 = c := h2
    refine Ev.neg (by omega) (Ev.ite (fun g => hj _ (by simp [nameP]; intros; omega)) (fun g => Ev.pos (by omega) ?_))
    rw [h2']
    refine Ev.ite (fun g1 => hj _ (by simp [nameP, great]; intros; omega)) (fun g1 => ?_)
    by_cases g2 : c > 90
    · rw [show decide (c > 90) = true from by simp [g2]]
      exact hj _ (by simp [nameP, great]; intros; omega)
    · rw [show decide (c > 90) = false from by simp [g2]]
      refine Ev.step (fun k => spec_l01Name.j0.eq_2 ..) (Ev.neg (by simp) ?_)
      have hg : great c = true := by simp [great]; omega
      refine hn.to ?_
      have : r.length ≤ 11 := by omega
      simp [nameP, hg, nameCh, this]

theorem longText_loop (l : List ByteArray) (hl : (l.length : Int) ≤ 4611686018427387904) : ∀ (r : List ByteArray) (i : Nat), l.drop i = r → ∃ x : Int, Ev (fun k => slices_IndexFunc_string_string__impl_longText_1.l0 k l (l.length : Int) (i : Int)) x ∧ decide (x ≥ 0) = r.any (fun s => decide ((s.size : Int) > 20000)) := by
  intro r
  induction r with
  | nil =>
    intro i h
    have h0 := ldrop_nil h
    exact ⟨-1, Ev.step (fun k => slices_IndexFunc_string_string__impl_longText_1.l0.eq_2 ..) (Ev.neg (by omega) (Ev.now _)), by simp⟩
  | cons c r ih =>
    intro i h
    obtain ⟨h1, h2, h3⟩ := rdOf_cons ByteArray.empty h
    have hw : wrap64 ((i : Int) + 1) = ((i + 1 : Nat) : Int) := by rw [wrap_id (by omega) (by omega)]; omega
    obtain ⟨x, hx, he⟩ := ih (i + 1) h3
    by_cases hv : (c.size : Int) > 20000
    · refine ⟨i, Ev.step (fun k => slices_IndexFunc_string_string__impl_longText_1.l0.eq_2 ..) (Ev.pos h1 (Ev.pos (by omega) (Ev.pos h1 ?_))), by simp [hv]⟩
      rw [h2]
      exact Ev.bindc (show impl_longText_1.f c = some true from by simp [impl_longText_1.f, hv]) (Ev.pos rfl (Ev.now _))
    · refine ⟨x, Ev.step (fun k => slices_IndexFunc_string_string__impl_longText_1.l0.eq_2 ..) (Ev.pos h1 (Ev.pos (by omega) (Ev.pos h1 ?_))), by rw [he]; simp [hv]⟩
      rw [h2, hw]
      exact Ev.bindc (show impl_longText_1.f c = some false from by simp only [impl_longText_1.f, decide_eq_false hv]) (Ev.neg (by simp) hx)
theorem longText_any (l : List ByteArray) (hl : (l.length : Int) ≤ 4611686018427387904) : Ev (fun k => impl_longText.f k l) (l.any (fun s => decide ((s.size : Int) > 20000))) := by
  obtain ⟨x, h1, h2⟩ := longText_loop l hl l 0 rfl
  unfold impl_longText.f slices_ContainsFunc_string_string__impl_longText_1.f
  exact Ev.bind (Ev.bind (show Ev (fun k => slices_IndexFunc_string_string__impl_longText_1.f k l) x from h1) (Ev.now _)) (Ev.ret h2)
theorem longText_ev (s : ByteArray) : Ev (fun k => impl_longText.f k [s]) (decide ((s.size : Int) > 20000)) := (longText_any [s] (by simp)).to (by simp)

theorem wi_ {i : Nat} (h : (i : Int) ≤ 4611686018427387904) : wrap64 ((i : Int) + 1) = ((i + 1 : Nat) : Int) := by rw [wrap_id (by omega) (by omega)]; omega
/-- A list that is copied into a new one, place by place. -/
theorem tos_list {α β : Type} (z : α) (g : α → β) (T : Nat → List α → List β → Int → Option (List β)) (L : List α)
    (hT : ∀ (D : List β) (i : Nat) (r : List β), i < L.length → D.length = L.length → Ev (fun k => T k L (D.set i (g (L.getD i z))) ((i + 1 : Nat) : Int)) r → Ev (fun k => T k L D (i : Int)) r)
    (hT0 : ∀ (D : List β) (i : Nat), L.length ≤ i → Ev (fun k => T k L D (i : Int)) D) :
    ∀ (d : Nat) (D : List β) (i : Nat), L.length - i = d → D.length = L.length → (∀ j, j < i → D[j]? = (L.map g)[j]?) → Ev (fun k => T k L D (i : Int)) (L.map g)
  | 0, D, i, hd, hl, hp => by
    have e : D = L.map g := by
      apply List.ext_getElem?
      intro j
      by_cases h : j < i
      · exact hp j h
      · rw [List.getElem?_eq_none (by omega), List.getElem?_eq_none (by rw [List.length_map]; omega)]
    subst e
    exact hT0 _ i (by omega)
  | d + 1, D, i, hd, hl, hp => by
    refine hT D i _ (by omega) hl (tos_list z g T L hT hT0 d _ (i + 1) (by omega) (by rw [List.length_set]; exact hl) (fun j hj => ?_))
    by_cases h : j = i
    · subst h
      rw [List.getElem?_set_self (by omega), List.getElem?_map, List.getD_eq_getElem?_getD, List.getElem?_eq_getElem (by omega : j < L.length)]
      rfl
    · rw [List.getElem?_set_ne (by omega)]
      exact hp j (by omega)
/-- A list is measured, place by place: it is too great, or each element is bounded. -/
theorem sz_list {α : Type} (z : α) (P : α → Prop) (Z : Nat → List α → Int → Int → Option Int) (L : List α)
    (hs : ∀ (i : Nat) (x : Int), i < L.length → 0 ≤ x → x ≤ 1048576 → Ev (fun k => Z k L x (i : Int)) (-1) ∨ ∃ x', 0 ≤ x' ∧ x' ≤ x ∧ P (L.getD i z) ∧ ∀ r, Ev (fun k => Z k L x' ((i + 1 : Nat) : Int)) r → Ev (fun k => Z k L x (i : Int)) r)
    (h0 : ∀ (i : Nat) (x : Int), L.length ≤ i → Ev (fun k => Z k L x (i : Int)) x) :
    ∀ (d i : Nat) (x : Int), L.length - i = d → 0 ≤ x → x ≤ 1048576 → ∃ w, Ev (fun k => Z k L x (i : Int)) w ∧ (w = -1 ∨ (0 ≤ w ∧ w ≤ x ∧ ∀ j, i ≤ j → j < L.length → P (L.getD j z)))
  | 0, i, x, hd, h1, h2 => ⟨x, h0 i x (by omega), .inr ⟨h1, by omega, fun j _ _ => by omega⟩⟩
  | d + 1, i, x, hd, h1, h2 => by
    rcases hs i x (by omega) h1 h2 with h | ⟨x', g1, g2, g3, g4⟩
    · exact ⟨-1, h, .inl rfl⟩
    · obtain ⟨w, e1, e2⟩ := sz_list z P Z L hs h0 d (i + 1) x' (by omega) g1 (by omega)
      refine ⟨w, g4 w e1, ?_⟩
      rcases e2 with e2 | ⟨e2, e3, e4⟩
      · exact .inl e2
      · refine .inr ⟨e2, by omega, fun j hj hl => ?_⟩
        by_cases h : j = i
        · subst h; exact g3
        · exact e4 j (by omega) hl
theorem sz_all {α : Type} (z : α) (P : α → Prop) (L : List α) (h : ∀ j, 0 ≤ j → j < L.length → P (L.getD j z)) : ∀ x ∈ L, P x := by
  intro x hx
  obtain ⟨j, hj, rfl⟩ := List.getElem_of_mem hx
  have := h j (by omega) hj
  rwa [List.getD_eq_getElem?_getD, List.getElem?_eq_getElem hj] at this
theorem getD_mem {α : Type} {L : List α} {i : Nat} (z : α) (h : i < L.length) : L.getD i z ∈ L := by
  rw [List.getD_eq_getElem?_getD, List.getElem?_eq_getElem h]
  exact List.getElem_mem h
/-- A text that is bounded; a list of them. -/
def bT (s : ByteArray) : Prop := s.size ≤ 1048576
def bTs (l : List ByteArray) : Prop := l.length ≤ 1048576 ∧ ∀ s ∈ l, bT s

/-- A comparison of lists, place by place: of one list with itself. -/
theorem eqs_refl {α : Type} (Q : Nat → List α → List α → Int → Option Bool) (L : List α) (hs : ∀ i : Nat, i < L.length → Ev (fun k => Q k L L ((i + 1 : Nat) : Int)) true → Ev (fun k => Q k L L (i : Int)) true) (h0 : ∀ i : Nat, L.length ≤ i → Ev (fun k => Q k L L (i : Int)) true) : ∀ (d i : Nat), L.length - i = d → Ev (fun k => Q k L L (i : Int)) true
  | 0, i, h => h0 i (by omega)
  | d + 1, i, h => hs i (by omega) (eqs_refl Q L hs h0 d (i + 1) (by omega))

/-- A Cross that is bounded; a Cross of the laws as the program has it. -/
def bCross (x : S34) : Prop := bT x.f0 ∧ bT x.f1 ∧ bT x.f2
def cCross (x : S34) : S37 := ⟨x.f0, x.f1, x.f2⟩

theorem szCross_ev (a0 : ByteArray) (a1 : ByteArray) (a2 : ByteArray) (x : Int) (g0 : 0 ≤ x) (g1 : x ≤ 1048576) (h0 : a0.size ≤ maxLen) (h1 : a1.size ≤ maxLen) (h2 : a2.size ≤ maxLen) : ∃ w, Ev (fun k => laws_szCross.f a0 a1 a2 x) w ∧ (w = -1 ∨ (0 ≤ w ∧ w ≤ x ∧ bT a0 ∧ bT a1 ∧ bT a2)) := by
  unfold laws_szCross.f
  have m0 : a0.size ≤ 9223372036854775807 := h0
  have e0 : wrap64 (x - (a0.size : Int)) = x - (a0.size : Int) := wrap_id (by omega) (by omega)
  rw [e0]
  by_cases n0 : x - (a0.size : Int) < 0
  · exact ⟨-1, Ev.pos n0 (Ev.now _), .inl rfl⟩
  have m1 : a1.size ≤ 9223372036854775807 := h1
  have e1 : wrap64 ((x - (a0.size : Int)) - (a1.size : Int)) = (x - (a0.size : Int)) - (a1.size : Int) := wrap_id (by omega) (by omega)
  rw [e1]
  by_cases n1 : (x - (a0.size : Int)) - (a1.size : Int) < 0
  · exact ⟨-1, Ev.neg n0 (Ev.pos n1 (Ev.now _)), .inl rfl⟩
  have m2 : a2.size ≤ 9223372036854775807 := h2
  have e2 : wrap64 (((x - (a0.size : Int)) - (a1.size : Int)) - (a2.size : Int)) = ((x - (a0.size : Int)) - (a1.size : Int)) - (a2.size : Int) := wrap_id (by omega) (by omega)
  rw [e2]
  by_cases n2 : ((x - (a0.size : Int)) - (a1.size : Int)) - (a2.size : Int) < 0
  · exact ⟨-1, Ev.neg n0 (Ev.neg n1 (Ev.pos n2 (Ev.now _))), .inl rfl⟩
  exact ⟨(((x - (a0.size : Int)) - (a1.size : Int)) - (a2.size : Int)), Ev.neg n0 (Ev.neg n1 (Ev.neg n2 (Ev.now _))), .inr ⟨by omega, by omega, (by unfold bT; omega), (by unfold bT; omega), (by unfold bT; omega)⟩⟩

theorem szCrossS_ev (l : List S34) (x : Int) (h0 : 0 ≤ x) (h1 : x ≤ 1048576) (hl : l.length ≤ maxLen) (hs : ∀ y ∈ l, q34 y) : ∃ w, Ev (fun k => laws_szCrossS.f k l x) w ∧ (w = -1 ∨ (0 ≤ w ∧ w ≤ x ∧ l.length ≤ 1048576 ∧ ∀ y ∈ l, bCross y)) := by
  simp only [maxLen] at hl
  have hq : ∀ i, i < l.length → q34 (l.getD i z34) := fun i hi => hs _ (getD_mem _ hi)
  unfold laws_szCrossS.f
  have hw : wrap64 (x - (l.length : Int)) = x - (l.length : Int) := wrap_id (by omega) (by omega)
  rw [hw]
  by_cases hn : x - (l.length : Int) < 0
  · exact ⟨-1, Ev.pos hn (Ev.now _), .inl rfl⟩
  · have hstep : ∀ (i : Nat) (y : Int), i < l.length → 0 ≤ y → y ≤ 1048576 → Ev (fun k => laws_szCrossS.l0 k l y (i : Int)) (-1) ∨ ∃ x', 0 ≤ x' ∧ x' ≤ y ∧ bCross (l.getD i z34) ∧ ∀ r, Ev (fun k => laws_szCrossS.l0 k l x' ((i + 1 : Nat) : Int)) r → Ev (fun k => laws_szCrossS.l0 k l y (i : Int)) r := by
      intro i y hi g0 g1
      have hr : rd_T34 l (i : Int) = l.getD i z34 := by unfold rd_T34; rw [Int.toNat_natCast]
      obtain ⟨w, e1, e2⟩ := szCross_ev (l.getD i z34).f0 (l.getD i z34).f1 (l.getD i z34).f2 y g0 g1 (hq i hi).1 (hq i hi).2.1 (hq i hi).2.2
      rcases e2 with e2 | ⟨e2, e3, e4⟩
      · refine .inl (Ev.step (fun k => laws_szCrossS.l0.eq_2 ..) (Ev.pos (by omega) (Ev.pos (by omega) ?_)))
        rw [hr]
        exact Ev.bind e1 (Ev.pos (by omega) (Ev.now _))
      · refine .inr ⟨w, by omega, by omega, e4, fun r hr' => Ev.step (fun k => laws_szCrossS.l0.eq_2 ..) (Ev.pos (by omega) (Ev.pos (by omega) ?_))⟩
        rw [hr, wi_ (by omega)]
        exact Ev.bind e1 (Ev.neg (by omega) hr')
    obtain ⟨w, e1, e2⟩ := sz_list z34 bCross laws_szCrossS.l0 l hstep (fun i y hi => Ev.step (fun k => laws_szCrossS.l0.eq_2 ..) (Ev.neg (by omega) (Ev.now _))) l.length 0 (x - (l.length : Int)) (by omega) (by omega) (by omega)
    refine ⟨w, Ev.neg hn e1, ?_⟩
    rcases e2 with e2 | ⟨e2, e3, e4⟩
    · exact .inl e2
    · exact .inr ⟨e2, by omega, by omega, sz_all _ _ _ e4⟩

theorem toCross_ev (a0 : ByteArray) (a1 : ByteArray) (a2 : ByteArray)  : Ev (fun k => laws_toCross.f a0 a1 a2) (a0, a1, a2) := by
  unfold laws_toCross.f
  exact Ev.now _

theorem toCrossS_ev (l : List S34) (hl : l.length ≤ 1048576) (hb : ∀ y ∈ l, bCross y) : Ev (fun k => laws_toCrossS.f k l) (l.map cCross) := by
  unfold laws_toCrossS.f
  refine Ev.pos (by omega) (Ev.pos (by omega) ?_)
  refine tos_list z34 cCross laws_toCrossS.l0 l (fun D i r hi hd h => ?_) (fun D i hi => ?_) l.length _ 0 (by omega) (by simp) (fun j hj => by omega)
  · have hr : rd_T34 l (i : Int) = l.getD i z34 := by unfold rd_T34; rw [Int.toNat_natCast]
    refine Ev.step (fun k => laws_toCrossS.l0.eq_2 ..) (Ev.pos (by omega) (Ev.pos (by omega) ?_))
    rw [hr, wi_ (by omega)]
    refine Ev.bind (toCross_ev (l.getD i z34).f0 (l.getD i z34).f1 (l.getD i z34).f2 ) (Ev.pos (by omega) ?_)
    exact h
  · exact Ev.step (fun k => laws_toCrossS.l0.eq_2 ..) (Ev.neg (by omega) (Ev.now _))

theorem eqCross_refl (a0 : ByteArray) (a1 : ByteArray) (a2 : ByteArray)  : Ev (fun k => laws_eqCross.f a0 a1 a2 a0 a1 a2) true := by
  unfold laws_eqCross.f
  exact Ev.pos rfl (Ev.pos rfl (Ev.pos rfl (Ev.now _)))

/-- Of a Cross: its lists are bounded. -/
def eCross (x : S37) : Prop := True
theorem eqCrossS_refl (l : List S37) (hl : (l.length : Int) ≤ 4611686018427387904) (hb : ∀ y ∈ l, eCross y) : Ev (fun k => laws_eqCrossS.f k l l) true := by
  unfold laws_eqCrossS.f
  refine Ev.pos rfl (eqs_refl laws_eqCrossS.l0 l (fun i hi h => ?_) (fun i hi => ?_) l.length 0 (by omega))
  · have hr : rd_T37 l (i : Int) = l.getD i z37 := by unfold rd_T37; rw [Int.toNat_natCast]
    refine Ev.step (fun k => laws_eqCrossS.l0.eq_2 ..) (Ev.pos (by omega) (Ev.pos (by omega) (Ev.pos (by omega) ?_)))
    rw [hr, wi_ (by omega)]
    exact Ev.bind (eqCross_refl (l.getD i z37).f0 (l.getD i z37).f1 (l.getD i z37).f2 ) (Ev.pos rfl h)
  · exact Ev.step (fun k => laws_eqCrossS.l0.eq_2 ..) (Ev.neg (by omega) (Ev.now _))

theorem idx_loop {α : Type} (z : α) (g : α → Bool) (Q : Nat → Int → Option Int) (L : List α)
    (ht : ∀ i : Nat, i < L.length → g (L.getD i z) = true → Ev (fun k => Q k (i : Int)) (i : Int))
    (hf : ∀ i : Nat, i < L.length → g (L.getD i z) = false → ∀ v, Ev (fun k => Q k ((i + 1 : Nat) : Int)) v → Ev (fun k => Q k (i : Int)) v)
    (h0 : ∀ i : Nat, L.length ≤ i → Ev (fun k => Q k (i : Int)) (-1)) :
    ∀ (d i : Nat), L.length - i = d → ∃ x : Int, Ev (fun k => Q k (i : Int)) x ∧ decide (x ≥ 0) = (L.drop i).any g
  | 0, i, hd => by
    rw [List.drop_eq_nil_of_le (by omega : L.length ≤ i)]
    exact ⟨-1, h0 i (by omega), by simp⟩
  | d + 1, i, hd => by
    have hi : i < L.length := by omega
    have hg : L.getD i z = L[i] := by rw [List.getD_eq_getElem?_getD, List.getElem?_eq_getElem hi]; rfl
    rw [List.drop_eq_getElem_cons hi]
    by_cases h : g (L.getD i z) = true
    · exact ⟨i, ht i hi h, by rw [hg] at h; rw [List.any_cons, h, Bool.true_or]; simp⟩
    · obtain ⟨x, hx, he⟩ := idx_loop z g Q L ht hf h0 d (i + 1) (by omega)
      rw [Bool.not_eq_true] at h
      exact ⟨x, hf i hi h x hx, by rw [he]; rw [hg] at h; rw [List.any_cons, h, Bool.false_or]⟩

/-- A way through a list that ends where something holds. -/
theorem any_loop {α β : Type} (z : α) (g : α → Bool) (Q : Nat → Int → Option β) (L : List α) (vt vf : β)
    (ht : ∀ i : Nat, i < L.length → g (L.getD i z) = true → Ev (fun k => Q k (i : Int)) vt)
    (hf : ∀ i : Nat, i < L.length → g (L.getD i z) = false → ∀ v, Ev (fun k => Q k ((i + 1 : Nat) : Int)) v → Ev (fun k => Q k (i : Int)) v)
    (h0 : ∀ i : Nat, L.length ≤ i → Ev (fun k => Q k (i : Int)) vf) :
    ∀ (d i : Nat), L.length - i = d → Ev (fun k => Q k (i : Int)) (if (L.drop i).any g = true then vt else vf)
  | 0, i, hd => by
    rw [List.drop_eq_nil_of_le (by omega : L.length ≤ i)]
    exact h0 i (by omega)
  | d + 1, i, hd => by
    have hi : i < L.length := by omega
    have hg : L.getD i z = L[i] := by rw [List.getD_eq_getElem?_getD, List.getElem?_eq_getElem hi]; rfl
    rw [List.drop_eq_getElem_cons hi, List.any_cons]
    by_cases h : g (L.getD i z) = true
    · refine (ht i hi h).to ?_
      rw [hg] at h; rw [h]; rfl
    · rw [Bool.not_eq_true] at h
      refine (hf i hi h _ (any_loop z g Q L vt vf ht hf h0 d (i + 1) (by omega))).to ?_
      rw [hg] at h; rw [h, Bool.false_or]
theorem take_getD {α : Type} (z : α) (L : List α) {i j : Nat} (h : j < i) : (L.take i).getD j z = L.getD j z := by
  rw [List.getD_eq_getElem?_getD, List.getD_eq_getElem?_getD, List.getElem?_take, if_pos h]

theorem markText_loop : ∀ (d : Nat) (n : Int) (s : ByteArray), 0 ≤ n → n.toNat ≤ d → (s.size : Int) + n ≤ 4611686018427387904 → ∃ t, Ev (fun k => laws_markText.l0 k n s) t := by
  intro d
  induction d with
  | zero =>
    intro n s h0 hd hs
    refine ⟨_, Ev.step (fun k => laws_markText.l0.eq_2 ..) (Ev.neg (by omega) (Ev.pos (by omega) (Ev.now _)))⟩
  | succ d ih =>
    intro n s h0 hd hs
    by_cases h : n > 0
    · have e : Int.tdiv n 10 = n / 10 := Int.tdiv_eq_ediv_of_nonneg h0
      have hw : wrap64 (Int.tdiv n 10) = n / 10 := by rw [e, wrap_id (by omega) (by omega)]
      obtain ⟨t, ht⟩ := ih (n / 10) (strOfNums [(wrap64 (48 + Int.tmod n 10)) % 256] ++ s) (by omega) (by omega) (by rw [size_append, size_strOf]; simp; omega)
      refine ⟨t, Ev.step (fun k => laws_markText.l0.eq_2 ..) (Ev.pos h (Ev.bindc rfl (Ev.pos (by rw [size_strOf]; simp; omega) ?_)))⟩
      rw [hw]
      exact ht
    · exact ⟨_, Ev.step (fun k => laws_markText.l0.eq_2 ..) (Ev.neg h (Ev.pos (by omega) (Ev.now _)))⟩
theorem markText_some (n : Int) (h1 : n ≤ 4611686018427387904) : ∃ t, Ev (fun k => laws_markText.f k n) t := by
  by_cases h : n ≤ 0
  · exact ⟨_, Ev.pos h (Ev.now _)⟩
  · obtain ⟨t, ht⟩ := markText_loop n.toNat n ⟨#[]⟩ (by omega) (by omega) (by have : (⟨#[]⟩ : ByteArray).size = 0 := rfl; rw [this]; omega)
    exact ⟨t, Ev.neg h ht⟩
/-- The text of a mark. -/
noncomputable def mt (n : Int) : ByteArray := @Classical.epsilon ByteArray ⟨⟨#[]⟩⟩ (fun t => Ev (fun k => laws_markText.f k n) t)
theorem mt_ev (n : Int) (h1 : n ≤ 4611686018427387904) : Ev (fun k => laws_markText.f k n) (mt n) := by
  exact Classical.epsilon_spec (p := fun t => Ev (fun k => laws_markText.f k n) t) (markText_some n h1)

/-- A list is marked, place by place, and then held. -/
theorem mark_held {α : Type} (z : α) (M : Nat → List α → Int → Int → Option (Int × List α)) (H : Nat → List α → Int → Int → Option Int) (E : Int → α → α) (st : Int) (hst : 0 ≤ st)
    (hM : ∀ (L : List α) (i : Nat) (x : Int) (r : Int × List α), (L.length : Int) ≤ 4611686018427387904 → i < L.length → 0 ≤ x → x + st ≤ 4611686018427387904 → Ev (fun k => M k (L.set i (E x (L.getD i z))) (x + st) ((i + 1 : Nat) : Int)) r → Ev (fun k => M k L x (i : Int)) r)
    (hM0 : ∀ (L : List α) (i : Nat) (x : Int), L.length ≤ i → Ev (fun k => M k L x (i : Int)) (x, L))
    (hH : ∀ (F : List α) (i : Nat) (x : Int) (y : α) (r : Int), (F.length : Int) ≤ 4611686018427387904 → i < F.length → 0 ≤ x → x + st ≤ 4611686018427387904 → F.getD i z = E x y → Ev (fun k => H k F (x + st) ((i + 1 : Nat) : Int)) r → Ev (fun k => H k F x (i : Int)) r)
    (hH0 : ∀ (F : List α) (i : Nat) (x : Int), F.length ≤ i → Ev (fun k => H k F x (i : Int)) x) :
    ∀ (d : Nat) (L : List α) (i : Nat) (x : Int), (L.length : Int) ≤ 4611686018427387904 → L.length - i = d → 0 ≤ x → x + st * (d : Int) ≤ 4611686018427387904 →
      ∃ F m, Ev (fun k => M k L x (i : Int)) (m, F) ∧ F.length = L.length ∧ (∀ j, j < i → F.getD j z = L.getD j z) ∧ Ev (fun k => H k F x (i : Int)) m ∧ x ≤ m ∧ m = x + st * (d : Int) := by
  intro d
  induction d with
  | zero =>
    intro L i x hl hd h0 h1
    exact ⟨L, x, hM0 L i x (by omega), rfl, fun _ _ => rfl, hH0 L i x (by omega), by omega, by simp⟩
  | succ d ih =>
    intro L i x hl hd h0 h1
    have hm : st * ((d + 1 : Nat) : Int) = st * (d : Int) + st := by
      have : ((d + 1 : Nat) : Int) = (d : Int) + 1 := by omega
      rw [this, Int.mul_add, Int.mul_one]
    rw [hm] at h1
    have hp : 0 ≤ st * (d : Int) := Int.mul_nonneg hst (by omega)
    obtain ⟨F, m, e1, e2, e3, e4, e5, e6⟩ := ih (L.set i (E x (L.getD i z))) (i + 1) (x + st) (by rw [List.length_set]; omega) (by rw [List.length_set]; omega) (by omega) (by omega)
    rw [List.length_set] at e2
    refine ⟨F, m, hM L i x _ hl (by omega) h0 (by omega) e1, e2, fun j hj => ?_, ?_, by omega, by rw [hm]; omega⟩
    · rw [e3 j (by omega)]
      simp only [List.getD_eq_getElem?_getD]
      rw [List.getElem?_set_ne (by omega)]
    · refine hH F i x (L.getD i z) m (by omega) (by omega) h0 (by omega) ?_ e4
      rw [e3 i (by omega)]
      simp only [List.getD_eq_getElem?_getD]
      rw [List.getElem?_set_self (by omega)]
      rfl
theorem mark_held0 {α : Type} (z : α) (M : Nat → List α → Int → Int → Option (Int × List α)) (H : Nat → List α → Int → Int → Option Int) (E : Int → α → α) (st : Int) (hst : 0 ≤ st)
    (hM : ∀ (L : List α) (i : Nat) (x : Int) (r : Int × List α), (L.length : Int) ≤ 4611686018427387904 → i < L.length → 0 ≤ x → x + st ≤ 4611686018427387904 → Ev (fun k => M k (L.set i (E x (L.getD i z))) (x + st) ((i + 1 : Nat) : Int)) r → Ev (fun k => M k L x (i : Int)) r)
    (hM0 : ∀ (L : List α) (i : Nat) (x : Int), L.length ≤ i → Ev (fun k => M k L x (i : Int)) (x, L))
    (hH : ∀ (F : List α) (i : Nat) (x : Int) (y : α) (r : Int), (F.length : Int) ≤ 4611686018427387904 → i < F.length → 0 ≤ x → x + st ≤ 4611686018427387904 → F.getD i z = E x y → Ev (fun k => H k F (x + st) ((i + 1 : Nat) : Int)) r → Ev (fun k => H k F x (i : Int)) r)
    (hH0 : ∀ (F : List α) (i : Nat) (x : Int), F.length ≤ i → Ev (fun k => H k F x (i : Int)) x) (L : List α) (x : Int) (hl : (L.length : Int) ≤ 4611686018427387904) (h0 : 0 ≤ x) (hb : x + st * (L.length : Int) ≤ 4611686018427387904) :
    ∃ F m, Ev (fun k => M k L x 0) (m, F) ∧ Ev (fun k => H k F x 0) m ∧ x ≤ m ∧ m = x + st * (L.length : Int) := by
  obtain ⟨F, m, e1, _, _, e4, e5, e6⟩ := mark_held z M H E st hst hM hM0 hH hH0 L.length L 0 x hl (by omega) h0 hb
  exact ⟨F, m, e1, e4, e5, e6⟩

/-! the order of texts -/
theorem bl_irr : ∀ x : List UInt8, Op.bytesLess x x = false
  | [] => by simp [Op.bytesLess]
  | a :: x => by simp [Op.bytesLess, bl_irr x]
theorem bl_tri : ∀ x y : List UInt8, Op.bytesLess x y = false → Op.bytesLess y x = false → x = y
  | [], [], _, _ => rfl
  | _ :: _, [], _, h => by simp [Op.bytesLess] at h
  | [], _ :: _, h, _ => by simp [Op.bytesLess] at h
  | a :: x, b :: y, h1, h2 => by
    simp only [Op.bytesLess, Bool.or_eq_false_iff, Bool.and_eq_false_imp, decide_eq_false_iff_not, beq_iff_eq] at h1 h2
    have hab : a = b := UInt8.le_antisymm (UInt8.not_lt.1 h2.1) (UInt8.not_lt.1 h1.1)
    rw [hab, bl_tri x y (h1.2 hab) (h2.2 hab.symm)]
def ordI (a b : List UInt8) : Int := if Op.bytesLess a b = true then -1 else if Op.bytesLess b a = true then 1 else 0
theorem compare_eq (a b : ByteArray) : cmp_Compare_string.f a b = some (ordI a.toList b.toList) := by
  unfold cmp_Compare_string.f cmp_isNaN_string.f ordI
  simp only [bne_self_eq_false, Option.bind_some]
  by_cases h : Op.bytesLess a.toList b.toList = true
  · simp [h]
  · by_cases h2 : Op.bytesLess b.toList a.toList = true <;> simp [h, h2]
theorem cmpOr_ev (a b : Int) : Ev (fun k => cmp_Or_int.f k [a, b]) (if a = 0 then b else a) := by
  unfold cmp_Or_int.f
  have h1 : rd [a, b] 0 = a := rfl
  have h2 : rd [a, b] 1 = b := rfl
  have w1 : wrap64 (0 + 1) = 1 := by rw [wrap_id (by omega) (by omega)]; rfl
  have w2 : wrap64 (1 + 1) = 2 := by rw [wrap_id (by omega) (by omega)]; rfl
  have hl : (([a, b] : List Int).length : Int) = 2 := rfl
  rw [hl]
  refine Ev.step (fun k => cmp_Or_int.l0.eq_2 ..) (Ev.pos (by omega) (Ev.pos (by omega) (Ev.pos (by omega) ?_)))
  rw [h1, w1]
  refine Ev.ite (fun g => ?_) (fun g => Ev.ret (by rw [if_neg g]))
  rw [if_pos g]
  refine Ev.step (fun k => cmp_Or_int.l0.eq_2 ..) (Ev.pos (by omega) (Ev.pos (by omega) (Ev.pos (by omega) ?_)))
  rw [h2, w2]
  refine Ev.ite (fun g2 => ?_) (fun g2 => Ev.now _)
  exact Ev.step (fun k => cmp_Or_int.l0.eq_2 ..) (Ev.neg (by omega) (Ev.ret g2.symm))
def befB (x y : S37) : Bool := Op.bytesLess x.f0.toList y.f0.toList || (decide (x.f0.toList = y.f0.toList) && Op.bytesLess x.f1.toList y.f1.toList)
theorem before_eq (x y : S37) : spec_l08Before.f x.f0 x.f1 x.f2 y.f0 y.f1 y.f2 = some (befB x y) := by
  unfold spec_l08Before.f befB
  by_cases h : Op.bytesLess x.f0.toList y.f0.toList = true
  · simp [h]
  · rw [Bool.not_eq_true] at h
    by_cases h2 : x.f0.toList = y.f0.toList
    · rw [if_neg (by rw [h]; simp), if_pos h2, h, decide_eq_true h2]; simp
    · rw [if_neg (by rw [h]; simp), if_neg h2, h, decide_eq_false h2]; rfl
theorem order_ev (x y : S37) : ∃ v : Int, Ev (fun k => impl_crossOrder.f k x.f0 x.f1 x.f2 y.f0 y.f1 y.f2) v ∧ decide (v ≥ 0) = !befB x y := by
  unfold impl_crossOrder.f
  refine ⟨_, Ev.bindc (compare_eq _ _) (Ev.bindc (compare_eq _ _) (Ev.bind (cmpOr_ev _ _) (Ev.now _))), ?_⟩
  unfold befB ordI
  by_cases h : Op.bytesLess x.f0.toList y.f0.toList = true
  · simp [h]
  · rw [Bool.not_eq_true] at h
    by_cases h2 : Op.bytesLess y.f0.toList x.f0.toList = true
    · have hne : ¬ x.f0.toList = y.f0.toList := fun e => by rw [e, bl_irr] at h2; cases h2
      simp [h, h2, hne]
    · rw [Bool.not_eq_true] at h2
      have he := bl_tri _ _ h h2
      by_cases h3 : Op.bytesLess x.f1.toList y.f1.toList = true
      · simp [he, bl_irr, h3]
      · rw [Bool.not_eq_true] at h3
        by_cases h4 : Op.bytesLess y.f1.toList x.f1.toList = true <;> simp [he, bl_irr, h3, h4]
def pairB (e x : S37) : Bool := decide (x.f0.toList = e.f0.toList) && decide (x.f2.toList = e.f2.toList)
theorem crossIdx_ev (L : List S37) (e : S37) (hl : L.length ≤ 1048576) : Ev (fun k => impl_Cross_58__impl_CrossRight_1.f k L e.f0 e.f1 e.f2) (L.any (pairB e)) := by
  have h1 : ∀ x : S37, impl_CrossRight_1.f x.f0 x.f1 x.f2 e.f0 e.f1 e.f2 = some (pairB e x) := by
    intro x
    unfold impl_CrossRight_1.f pairB
    by_cases h : x.f0.toList = e.f0.toList
    · simp only [h, if_true, decide_true, Bool.true_and]
      congr 1
      rw [Bool.eq_iff_iff]
      simp
    · simp [h]
  obtain ⟨x, hx, he⟩ := idx_loop z37 (pairB e) (fun k i => impl_Cross_109__impl_CrossRight_1.l0 k L (L.length : Int) i e.f0 e.f1 e.f2) L
    (fun i hi g => Ev.step (fun k => impl_Cross_109__impl_CrossRight_1.l0.eq_2 ..) (Ev.pos (by omega) (Ev.pos (by omega) (Ev.pos (by omega) (Ev.bindc (h1 _) (Ev.pos g (Ev.now _)))))))
    (fun i hi g v hv => Ev.step (fun k => impl_Cross_109__impl_CrossRight_1.l0.eq_2 ..) (Ev.pos (by omega) (Ev.pos (by omega) (Ev.pos (by omega) (Ev.bindc (h1 _) (Ev.neg (by show ¬ pairB e (L.getD i z37) = true; rw [g]; simp) (by rw [wi_ (by omega)]; exact hv)))))))
    (fun i hi => Ev.step (fun k => impl_Cross_109__impl_CrossRight_1.l0.eq_2 ..) (Ev.neg (by omega) (Ev.now _))) _ 0 rfl
  unfold impl_Cross_58__impl_CrossRight_1.f
  refine Ev.bind (show Ev (fun k => impl_Cross_109__impl_CrossRight_1.f k L e.f0 e.f1 e.f2) x from hx) ?_
  exact Ev.ret he
def bCr (x : S37) : Prop := x.f0.size ≤ 1048576 ∧ x.f1.size ≤ 1048576 ∧ x.f2.size ≤ 1048576
/-- The place j of a right list. -/
def goodC (L : List S37) (j : Nat) : Prop := (nameP (bytesOf (L.getD j z37).f0) = true ∧ nameP (bytesOf (L.getD j z37).f1) = true ∧ nameP (bytesOf (L.getD j z37).f2) = true ∧ ((j : Int) > 0 → befB (L.getD (j - 1) z37) (L.getD j z37) = true) ∧ (L.take j).any (pairB (L.getD j z37)) = false)
theorem crossRight_loop (L : List S37) (hl : L.length ≤ 1048576) (hb : ∀ x ∈ L, bCr x) : ∀ (r : List S37) (i : Nat), L.drop i = r → ∃ v, Ev (fun k => spec_CrossRight.l0 k L (i : Int)) v ∧ Ev (fun k => impl_CrossRight.l0 k L L (L.length : Int) (i : Int)) v ∧ (v = true ↔ ∀ j : Nat, i ≤ j → j < L.length → goodC L j) := by
  intro r
  induction r with
  | nil =>
    intro i h
    have h0 := ldrop_nil h
    exact ⟨true, Ev.step (fun k => spec_CrossRight.l0.eq_2 ..) (Ev.neg (by omega) (Ev.now _)), Ev.step (fun k => impl_CrossRight.l0.eq_2 ..) (Ev.neg (by omega) (Ev.now _)), ⟨fun _ j _ _ => by omega, fun _ => rfl⟩⟩
  | cons e r ih =>
    intro i h
    obtain ⟨h1, h2, h3⟩ := ldrop_cons z37 h
    have hr : rd_T37 L (i : Int) = e := h2
    obtain ⟨hb0, hb1, hb2⟩ := hb e (List.mem_of_mem_drop (by rw [h]; exact List.mem_cons_self))
    obtain ⟨v, hv1, hv2, hv3⟩ := ih (i + 1) h3
    have hw := wi_ (i := i) (by omega)
    rw [← hw] at hv1 hv2
    have htl : (L.take i).length = i := by rw [List.length_take]; omega
    have sF : Ev (fun k => spec_CrossRight.j1 k L (i : Int) true e.f0 e.f1 e.f2) false := Ev.step (fun k => spec_CrossRight.j1.eq_2 ..) (Ev.pos rfl (Ev.now _))
    have iF : Ev (fun k => impl_CrossRight.j1 k L (i : Int) L (L.length : Int) (i : Int) true e.f0 e.f1 e.f2) false := Ev.step (fun k => impl_CrossRight.j1.eq_2 ..) (Ev.pos rfl (Ev.now _))
    have sT : Ev (fun k => spec_CrossRight.j1 k L (i : Int) false e.f0 e.f1 e.f2) (if (L.take i).any (pairB e) = true then false else v) := by
      refine Ev.step (fun k => spec_CrossRight.j1.eq_2 ..) (Ev.neg (by simp) ?_)
      refine (any_loop z37 (pairB e) (fun k j => spec_CrossRight.l1 k L (i : Int) j e.f0 e.f1 e.f2) (L.take i) false v (fun j hj g => ?_) (fun j hj g u hu => ?_) (fun j hj => ?_) _ 0 rfl)
      · rw [htl] at hj
        rw [take_getD _ _ hj] at g
        have g' : pairB e (rd_T37 L (j : Int)) = true := g
        simp only [pairB, Bool.and_eq_true, decide_eq_true_eq] at g'
        exact Ev.step (fun k => spec_CrossRight.l1.eq_2 ..) (Ev.pos (by omega) (Ev.pos (by omega) (Ev.pos (by omega) (Ev.pos g'.1 (Ev.pos g'.2 (Ev.now _))))))
      · rw [htl] at hj
        rw [take_getD _ _ hj] at g
        have g' : pairB e (rd_T37 L (j : Int)) = false := g
        refine Ev.step (fun k => spec_CrossRight.l1.eq_2 ..) (Ev.pos (by omega) (Ev.pos (by omega) (Ev.pos (by omega) ?_)))
        rw [wi_ (by omega)]
        exact Ev.ite (fun a => Ev.ite (fun b => by simp [pairB, a, b] at g') (fun b => hu)) (fun a => hu)
      · rw [htl] at hj
        exact Ev.step (fun k => spec_CrossRight.l1.eq_2 ..) (Ev.neg (by omega) hv1)
    have iT : Ev (fun k => impl_CrossRight.j1 k L (i : Int) L (L.length : Int) (i : Int) false e.f0 e.f1 e.f2) (if (L.take i).any (pairB e) = true then false else v) := by
      refine Ev.step (fun k => impl_CrossRight.j1.eq_2 ..) (Ev.neg (by simp) (Ev.pos (by omega) (Ev.pos (by omega) ?_)))
      rw [Int.toNat_natCast]
      exact Ev.bind (crossIdx_ev (L.take i) e (by omega)) (Ev.ite (fun g => Ev.ret (by rw [if_pos g])) (fun g => hv2.to (by rw [if_neg g])))
    have both : ∀ b : Bool, ∃ u, Ev (fun k => spec_CrossRight.j1 k L (i : Int) b e.f0 e.f1 e.f2) u ∧ Ev (fun k => impl_CrossRight.j1 k L (i : Int) L (L.length : Int) (i : Int) b e.f0 e.f1 e.f2) u ∧ (u = true ↔ b = false ∧ (L.take i).any (pairB e) = false ∧ v = true) := by
      intro b
      cases b with
      | true => exact ⟨_, sF, iF, by simp⟩
      | false => exact ⟨_, sT, iT, by cases (L.take i).any (pairB e) <;> simp⟩
    have e0 := l01Name_ev e.f0 (by omega)
    have e1 := l01Name_ev e.f1 (by omega)
    have e2 := l01Name_ev e.f2 (by omega)
    have f0 := isName_ev e.f0 (by omega)
    have f1 := isName_ev e.f1 (by omega)
    have f2 := isName_ev e.f2 (by omega)
    have key : ∃ u, Ev (fun k => (spec_l01Name.f k e.f0).bind fun t108 => (if t108 = true then ((spec_l01Name.f k e.f1).bind fun t109 => (if t109 = true then ((spec_l01Name.f k e.f2).bind fun t110 => (if t110 = true then (if (i : Int) > 0 then (if 0 ≤ (wrap64 ((i : Int) - 1)) then (if (wrap64 ((i : Int) - 1)) < (L.length : Int) then ((spec_l08Before.f ((rd_T37 L (wrap64 ((i : Int) - 1))).f0) ((rd_T37 L (wrap64 ((i : Int) - 1))).f1) ((rd_T37 L (wrap64 ((i : Int) - 1))).f2) e.f0 e.f1 e.f2).bind fun t112 => (spec_CrossRight.j1 k L (i : Int) (!t112) e.f0 e.f1 e.f2)) else (none)) else (none)) else (spec_CrossRight.j1 k L (i : Int) false e.f0 e.f1 e.f2)) else (spec_CrossRight.j1 k L (i : Int) true e.f0 e.f1 e.f2))) else (spec_CrossRight.j1 k L (i : Int) true e.f0 e.f1 e.f2))) else (spec_CrossRight.j1 k L (i : Int) true e.f0 e.f1 e.f2))) u
        ∧ Ev (fun k => (impl_isName.f k e.f0).bind fun t146 => (if t146 = true then ((impl_isName.f k e.f1).bind fun t147 => (if t147 = true then ((impl_isName.f k e.f2).bind fun t148 => (if t148 = true then (if (i : Int) > 0 then (if 0 ≤ (wrap64 ((i : Int) - 1)) then (if (wrap64 ((i : Int) - 1)) < (L.length : Int) then ((impl_crossOrder.f k ((rd_T37 L (wrap64 ((i : Int) - 1))).f0) ((rd_T37 L (wrap64 ((i : Int) - 1))).f1) ((rd_T37 L (wrap64 ((i : Int) - 1))).f2) e.f0 e.f1 e.f2).bind fun t150 => (impl_CrossRight.j1 k L (i : Int) L (L.length : Int) (i : Int) (decide (t150 ≥ 0)) e.f0 e.f1 e.f2)) else (none)) else (none)) else (impl_CrossRight.j1 k L (i : Int) L (L.length : Int) (i : Int) false e.f0 e.f1 e.f2)) else (impl_CrossRight.j1 k L (i : Int) L (L.length : Int) (i : Int) true e.f0 e.f1 e.f2))) else (impl_CrossRight.j1 k L (i : Int) L (L.length : Int) (i : Int) true e.f0 e.f1 e.f2))) else (impl_CrossRight.j1 k L (i : Int) L (L.length : Int) (i : Int) true e.f0 e.f1 e.f2))) u ∧ (u = true ↔ (nameP (bytesOf e.f0) = true ∧ nameP (bytesOf e.f1) = true ∧ nameP (bytesOf e.f2) = true ∧ ((i : Int) > 0 → befB (L.getD (i - 1) z37) e = true) ∧ (L.take i).any (pairB e) = false) ∧ v = true) := by
      by_cases n0 : nameP (bytesOf e.f0) = true
      · by_cases n1 : nameP (bytesOf e.f1) = true
        · by_cases n2 : nameP (bytesOf e.f2) = true
          · by_cases hi : (i : Int) > 0
            · have hwp : wrap64 ((i : Int) - 1) = (i : Int) - 1 := wrap_id (by omega) (by omega)
              obtain ⟨o, ho1, ho2⟩ := order_ev (rd_T37 L (wrap64 ((i : Int) - 1))) e
              have hpr : rd_T37 L (wrap64 ((i : Int) - 1)) = L.getD (i - 1) z37 := by unfold rd_T37; rw [hwp]; congr 1; omega
              obtain ⟨u, hu1, hu2, hu3⟩ := both (!befB (rd_T37 L (wrap64 ((i : Int) - 1))) e)
              refine ⟨u, Ev.bind e0 (Ev.pos n0 (Ev.bind e1 (Ev.pos n1 (Ev.bind e2 (Ev.pos n2 (Ev.pos hi (Ev.pos (by omega) (Ev.pos (by omega) (Ev.bindc (before_eq _ _) hu1))))))))), Ev.bind f0 (Ev.pos n0 (Ev.bind f1 (Ev.pos n1 (Ev.bind f2 (Ev.pos n2 (Ev.pos hi (Ev.pos (by omega) (Ev.pos (by omega) (Ev.bind ho1 ?_))))))))), ⟨fun a => ⟨⟨n0, n1, n2, fun _ => by have := (hu3.1 a).1; rw [hpr] at this; simpa using this, (hu3.1 a).2.1⟩, (hu3.1 a).2.2⟩, fun a => hu3.2 ⟨by rw [hpr, a.1.2.2.2.1 hi]; rfl, a.1.2.2.2.2, a.2⟩⟩⟩
              rw [ho2]
              exact hu2
            · obtain ⟨u, hu1, hu2, hu3⟩ := both false
              exact ⟨u, Ev.bind e0 (Ev.pos n0 (Ev.bind e1 (Ev.pos n1 (Ev.bind e2 (Ev.pos n2 (Ev.neg hi hu1)))))), Ev.bind f0 (Ev.pos n0 (Ev.bind f1 (Ev.pos n1 (Ev.bind f2 (Ev.pos n2 (Ev.neg hi hu2)))))), ⟨fun a => ⟨⟨n0, n1, n2, fun b => absurd b hi, (hu3.1 a).2.1⟩, (hu3.1 a).2.2⟩, fun a => hu3.2 ⟨rfl, a.1.2.2.2.2, a.2⟩⟩⟩
          · exact ⟨false, Ev.bind e0 (Ev.pos n0 (Ev.bind e1 (Ev.pos n1 (Ev.bind e2 (Ev.neg n2 sF))))), Ev.bind f0 (Ev.pos n0 (Ev.bind f1 (Ev.pos n1 (Ev.bind f2 (Ev.neg n2 iF))))), ⟨fun a => (by cases a), fun a => absurd a.1.2.2.1 n2⟩⟩
        · exact ⟨false, Ev.bind e0 (Ev.pos n0 (Ev.bind e1 (Ev.neg n1 sF))), Ev.bind f0 (Ev.pos n0 (Ev.bind f1 (Ev.neg n1 iF))), ⟨fun a => (by cases a), fun a => absurd a.1.2.1 n1⟩⟩
      · exact ⟨false, Ev.bind e0 (Ev.neg n0 sF), Ev.bind f0 (Ev.neg n0 iF), ⟨fun a => (by cases a), fun a => absurd a.1.1 n0⟩⟩
    obtain ⟨u, hu1, hu2, hu3⟩ := key
    refine ⟨u, Ev.step (fun k => spec_CrossRight.l0.eq_2 ..) (Ev.pos h1 (Ev.pos (by omega) ?_)), Ev.step (fun k => impl_CrossRight.l0.eq_2 ..) (Ev.pos h1 (Ev.pos (by omega) (Ev.pos h1 ?_))), ?_⟩
    · rw [hr]; exact hu1
    · rw [hr]; exact hu2
    · have h2' : L.getD i z37 = e := h2
      have hg : goodC L i ↔ (nameP (bytesOf e.f0) = true ∧ nameP (bytesOf e.f1) = true ∧ nameP (bytesOf e.f2) = true ∧ ((i : Int) > 0 → befB (L.getD (i - 1) z37) e = true) ∧ (L.take i).any (pairB e) = false) := by unfold goodC; rw [h2']
      rw [hu3, ← hg, hv3]
      constructor
      · rintro ⟨a, b⟩ j hj hjl
        by_cases g : j = i
        · rw [g]; exact a
        · exact b j (by omega) hjl
      · intro a
        exact ⟨a i (by omega) (by omega), fun j hj hjl => a j (by omega) hjl⟩
/-- Both say alike whether a list is right. -/
theorem crossRight_iff (L : List S37) (hl : L.length ≤ 1048576) (hb : ∀ x ∈ L, bCr x) : ∃ v, Ev (fun k => spec_CrossRight.f k L) v ∧ Ev (fun k => impl_CrossRight.f k L) v ∧ (v = true ↔ L.length ≤ 200 ∧ ∀ j : Nat, j < L.length → goodC L j) := by
  unfold spec_CrossRight.f impl_CrossRight.f
  by_cases h : (L.length : Int) > 200
  · exact ⟨false, Ev.pos h (Ev.now _), Ev.pos h (Ev.now _), ⟨fun a => (by cases a), fun a => by omega⟩⟩
  · obtain ⟨v, h1, h2, h3⟩ := crossRight_loop L hl hb L 0 rfl
    exact ⟨v, Ev.neg h h1, Ev.neg h h2, by rw [h3]; exact ⟨fun a => ⟨by omega, fun j => a j (by omega)⟩, fun a j _ => a.2 j⟩⟩
/-- .. and a right list is short and rises. -/
theorem crossRight_sorted (L : List S37) (hl : L.length ≤ 1048576) (hb : ∀ x ∈ L, bCr x) : ∃ v, Ev (fun k => spec_CrossRight.f k L) v ∧ Ev (fun k => impl_CrossRight.f k L) v ∧ (v = true → L.length ≤ 200 ∧ ∀ j : Nat, 0 < j → j < L.length → befB (L.getD (j - 1) z37) (L.getD j z37) = true) := by
  obtain ⟨v, h1, h2, h3⟩ := crossRight_iff L hl hb
  exact ⟨v, h1, h2, fun a => ⟨(h3.1 a).1, fun j h0 hj => ((h3.1 a).2 j hj).2.2.2.1 (by omega)⟩⟩
theorem crossRight_both (L : List S37) (hl : L.length ≤ 1048576) (hb : ∀ x ∈ L, bCr x) : ∃ v, Ev (fun k => spec_CrossRight.f k L) v ∧ Ev (fun k => impl_CrossRight.f k L) v := by
  obtain ⟨v, h1, h2, _⟩ := crossRight_sorted L hl hb
  exact ⟨v, h1, h2⟩
theorem bCr_of {l : List S34} (hb : ∀ y ∈ l, bCross y) : ∀ y ∈ l.map cCross, bCr y := by
  intro y hy
  obtain ⟨x, hx, rfl⟩ := List.mem_map.1 hy
  exact hb x hx

theorem rd_set_cross (L : List S37) (i : Nat) (e : S37) (h : i < L.length) : rd_T37 (L.set (i : Int).toNat e) (i : Int) = e := by
  unfold rd_T37
  simp [List.getD_eq_getElem?_getD, h]
theorem markCrossS_held (L : List S37) (hl : (L.length : Int) ≤ 1048577) : ∃ F m, Ev (fun k => laws_markCrossS.f k L 1) (m, F) ∧ Ev (fun k => laws_heldCrossS.f k F 1) m ∧ 1 ≤ m ∧ m = 1 + 3 * (L.length : Int) := by
  refine mark_held0 z37 laws_markCrossS.l0 laws_heldCrossS.l0 (fun x y => (⟨mt x, mt (x + 1), mt (x + 2)⟩ : S37)) 3 (by omega) (fun L i x r hl' hi h0 h1 h => ?_) (fun L i x hi => ?_) (fun F i x y r hl' hi h0 h1 he h => ?_) (fun F i x hi => ?_) L 1 (by omega) (by omega) (by omega)
  · have w1 : wrap64 (x + 1) = x + 1 := wrap_id (by omega) (by omega)
    have w2 : wrap64 (x + 1 + 1) = x + 2 := by rw [wrap_id (by omega) (by omega)]; omega
    have w3 : wrap64 (x + 2 + 1) = x + 3 := by rw [wrap_id (by omega) (by omega)]; omega
    have wi : wrap64 ((i : Int) + 1) = ((i + 1 : Nat) : Int) := by rw [wrap_id (by omega) (by omega)]; omega
    refine Ev.step (fun k => laws_markCrossS.l0.eq_2 ..) (Ev.pos (by omega) (Ev.bind (mt_ev x (by omega)) (Ev.pos (by omega) (Ev.bindc rfl ?_))))
    rw [w1, w2, w3, wi]
    refine Ev.bind (mt_ev (x + 1) (by omega)) (Ev.bindc rfl (Ev.bind (mt_ev (x + 2) (by omega)) ?_))
    rw [rd_set_cross _ _ _ (by simpa using hi), rd_set_cross _ _ _ (by simpa using hi)]
    simp only [List.set_set, Int.toNat_natCast]
    exact h
  · exact Ev.step (fun k => laws_markCrossS.l0.eq_2 ..) (Ev.neg (by omega) (Ev.now _))
  · have w1 : wrap64 (x + 1) = x + 1 := wrap_id (by omega) (by omega)
    have w2 : wrap64 (x + 1 + 1) = x + 2 := by rw [wrap_id (by omega) (by omega)]; omega
    have w3 : wrap64 (x + 2 + 1) = x + 3 := by rw [wrap_id (by omega) (by omega)]; omega
    have wi : wrap64 ((i : Int) + 1) = ((i + 1 : Nat) : Int) := by rw [wrap_id (by omega) (by omega)]; omega
    have hr : rd_T37 F (i : Int) = (⟨mt x, mt (x + 1), mt (x + 2)⟩ : S37) := by unfold rd_T37; rw [Int.toNat_natCast, he]
    refine Ev.step (fun k => laws_heldCrossS.l0.eq_2 ..) (Ev.pos (by omega) (Ev.pos (by omega) ?_))
    rw [hr, w1, w2, w3, wi]
    exact Ev.bind (mt_ev x (by omega)) (Ev.pos rfl (Ev.bind (mt_ev (x + 1) (by omega)) (Ev.pos rfl (Ev.bind (mt_ev (x + 2) (by omega)) (Ev.pos rfl h)))))
  · exact Ev.step (fun k => laws_heldCrossS.l0.eq_2 ..) (Ev.neg (by omega) (Ev.now _))

def keyB (x c : S37) : Bool := decide (x.f0.toList = c.f0.toList) && decide (x.f1.toList = c.f1.toList)
theorem keyB_iff (x c : S37) : keyB x c = true ↔ x.f0.toList = c.f0.toList ∧ x.f1.toList = c.f1.toList := by simp [keyB]

/-! a cross that is dropped -/
theorem specDrop_loop (L : List S37) (c : S37) (v : Bool) (hL : L.length ≤ 1048576) : ∀ (R : List S37) (i : Nat) (o : List S37), L.drop i = R → o.length ≤ i → Ev (fun k => spec_CrossDrop.l0 k L c.f0 c.f1 o v (i : Int)) (o ++ (if v = true then R.filter (fun x => !keyB x c) else R)) := by
  intro R
  induction R with
  | nil =>
    intro i o h ho
    have h0 := ldrop_nil h
    exact Ev.step (fun k => spec_CrossDrop.l0.eq_2 ..) (Ev.neg (by omega) (Ev.ret (by split <;> simp)))
  | cons e R ih =>
    intro i o h ho
    obtain ⟨h1, h2, h3⟩ := ldrop_cons z37 h
    have hr : rd_T37 L (i : Int) = e := h2
    have hw := wi_ (i := i) (by omega)
    refine Ev.step (fun k => spec_CrossDrop.l0.eq_2 ..) (Ev.pos h1 ?_)
    rw [hr, hw]
    have kp := ih (i + 1) (o ++ [e]) h3 (by simp; omega)
    rw [List.append_assoc] at kp
    cases v with
    | false => exact Ev.neg (by simp) (Ev.pos (by omega) (Ev.pos (by omega) kp))
    | true =>
      have kf : keyB e c = false → Ev (fun k => if o.length < 2932031007402 then spec_CrossDrop.l0 k L c.f0 c.f1 (o ++ [(⟨e.f0, e.f1, e.f2⟩ : S37)]) true ((i + 1 : Nat) : Int) else none) (o ++ (if true = true then (e :: R).filter (fun x => !keyB x c) else e :: R)) := fun g => by
        refine Ev.pos (by omega) (kp.to ?_)
        rw [if_pos rfl, if_pos rfl, List.filter_cons_of_pos (by rw [g]; rfl)]
        rfl
      refine Ev.pos rfl (Ev.pos (by omega) (Ev.ite (fun g0 => Ev.ite (fun g1 => ?_) (fun g1 => ?_)) (fun g0 => ?_)))
      · refine (ih (i + 1) o h3 (by omega)).to ?_
        rw [if_pos rfl, if_pos rfl, List.filter_cons_of_neg (by rw [(keyB_iff e c).2 ⟨g0, g1⟩]; simp)]
      · exact kf (by unfold keyB; rw [decide_eq_false g1, Bool.and_false])
      · exact kf (by unfold keyB; rw [decide_eq_false g0, Bool.false_and])
theorem dropkey_eq (x c : S37) : impl_CrossDrop_1.f x.f0 x.f1 x.f2 c.f0 c.f1 = some (keyB x c) := by
  unfold impl_CrossDrop_1.f keyB
  by_cases h : x.f0.toList = c.f0.toList
  · simp only [h, if_true, decide_true, Bool.true_and]
    congr 1
    rw [Bool.eq_iff_iff]
    simp
  · simp [h]
theorem dropIdx_loop (L : List S37) (c : S37) (hL : L.length ≤ 1048576) : ∀ (r : List S37) (i : Nat), L.drop i = r → (Ev (fun k => impl_Cross_109__impl_CrossDrop_1.l0 k L (L.length : Int) (i : Int) c.f0 c.f1) (-1) ∧ (∀ s ∈ r, keyB s c = false)) ∨ ∃ j : Nat, i ≤ j ∧ j < L.length ∧ Ev (fun k => impl_Cross_109__impl_CrossDrop_1.l0 k L (L.length : Int) (i : Int) c.f0 c.f1) (j : Int) ∧ keyB (rd_T37 L (j : Int)) c = true ∧ (∀ s ∈ r.take (j - i), keyB s c = false) := by
  intro r
  induction r with
  | nil =>
    intro i h
    have h0 := ldrop_nil h
    exact .inl ⟨Ev.step (fun k => impl_Cross_109__impl_CrossDrop_1.l0.eq_2 ..) (Ev.neg (by omega) (Ev.now _)), fun s hs => by simp at hs⟩
  | cons s r ih =>
    intro i h
    obtain ⟨h1, h2, h3⟩ := ldrop_cons z37 h
    have hr : rd_T37 L (i : Int) = s := h2
    have hw := wi_ (i := i) (by omega)
    by_cases g : keyB s c = true
    · refine .inr ⟨i, by omega, by omega, Ev.step (fun k => impl_Cross_109__impl_CrossDrop_1.l0.eq_2 ..) (Ev.pos h1 (Ev.pos (by omega) (Ev.pos h1 ?_))), by rw [hr]; exact g, fun x hx => by simp at hx⟩
      rw [hr]
      exact Ev.bindc (dropkey_eq s c) (Ev.pos g (Ev.now _))
    · have g' : keyB s c = false := by simpa using g
      have hstep : ∀ x, Ev (fun k => impl_Cross_109__impl_CrossDrop_1.l0 k L (L.length : Int) ((i + 1 : Nat) : Int) c.f0 c.f1) x → Ev (fun k => impl_Cross_109__impl_CrossDrop_1.l0 k L (L.length : Int) (i : Int) c.f0 c.f1) x := fun x hx => by
        refine Ev.step (fun k => impl_Cross_109__impl_CrossDrop_1.l0.eq_2 ..) (Ev.pos h1 (Ev.pos (by omega) (Ev.pos h1 ?_)))
        rw [hr, hw]
        exact Ev.bindc (dropkey_eq s c) (Ev.neg g hx)
      rcases ih (i + 1) h3 with ⟨e1, e2⟩ | ⟨j, j1, j2, j3, j4, j5⟩
      · exact .inl ⟨hstep _ e1, fun x hx => (List.mem_cons.1 hx).elim (fun e => by rw [e]; exact g') (fun hx => e2 x hx)⟩
      · refine .inr ⟨j, by omega, j2, hstep _ j3, j4, fun x hx => ?_⟩
        rw [show j - i = (j - (i + 1)) + 1 by omega, List.take_succ_cons] at hx
        rcases List.mem_cons.1 hx with rfl | hx
        · exact g'
        · exact j5 x hx
theorem dropFunc_ev (L : List S37) (c : S37) (hL : L.length ≤ 1048576) : Ev (fun k => impl_Cross_66__impl_CrossDrop_1.f k L c.f0 c.f1) (L.filter (fun x => !keyB x c)) := by
  unfold impl_Cross_66__impl_CrossDrop_1.f
  have hf : (fun x : S37 => !((impl_CrossDrop_1.f x.f0 x.f1 x.f2 c.f0 c.f1).getD false)) = (fun x => !keyB x c) := by
    funext x
    rw [dropkey_eq]; rfl
  rw [hf]
  rcases dropIdx_loop L c hL L 0 rfl with ⟨e1, e2⟩ | ⟨j, j1, j2, j3, j4, j5⟩
  · refine Ev.bind e1 (Ev.pos rfl (Ev.ret ?_))
    symm
    rw [List.filter_eq_self]
    intro s hs
    rw [e2 s hs]; rfl
  · refine Ev.bind j3 (Ev.neg (by omega) (Ev.pos (by omega) (Ev.pos (by omega) (Ev.ret ?_))))
    rw [Int.toNat_natCast]
    have hj : rd_T37 L (j : Int) = L[j] := by
      unfold rd_T37
      rw [Int.toNat_natCast, List.getD_eq_getElem?_getD, List.getElem?_eq_getElem j2]
      rfl
    rw [hj] at j4
    rw [Nat.sub_zero] at j5
    conv => rhs; rw [← List.take_append_drop j L, List.filter_append, List.drop_eq_getElem_cons j2, List.filter_cons_of_neg (by simp [j4])]
    congr 1
    symm
    rw [List.filter_eq_self]
    intro s hs
    rw [j5 s hs]; rfl
/-- What both answer. -/
theorem drop_both (L : List S37) (c : S37) (hL : L.length ≤ 1048576) (hb : ∀ x ∈ L, bCr x) : ∃ r, Ev (fun k => spec_CrossDrop.f k L c.f0 c.f1) r ∧ Ev (fun k => impl_CrossDrop.f k L c.f0 c.f1) r ∧ r.length ≤ L.length ∧ (∀ x ∈ r, x ∈ L) ∧ (L.length ≤ 200 → (c.f0.size : Int) ≤ 20000 → (c.f1.size : Int) ≤ 20000 → Ev (fun k => spec_CrossRight.f k L) true → r = L.filter (fun x => !keyB x c)) := by
  have hlt : Ev (fun k => impl_longText.f k [c.f0, c.f1]) (decide ((c.f0.size : Int) > 20000) || decide ((c.f1.size : Int) > 20000)) := (longText_any [c.f0, c.f1] (by simp)).to (by simp)
  have sT : Ev (fun k => spec_CrossDrop.j0 k L c.f0 c.f1 [] true) [] := Ev.step (fun k => spec_CrossDrop.j0.eq_2 ..) (Ev.pos rfl (Ev.now _))
  have iT : Ev (fun k => impl_CrossDrop.j0 k L true c.f0 c.f1) [] := Ev.step (fun k => impl_CrossDrop.j0.eq_2 ..) (Ev.pos rfl (Ev.now _))
  unfold spec_CrossDrop.f impl_CrossDrop.f impl_Cross_64.f
  by_cases h : (L.length : Int) > 400
  · exact ⟨[], Ev.bindc rfl (Ev.pos h sT), Ev.bindc rfl (Ev.pos (decide_eq_true h) iT), by simp, fun x hx => by simp at hx, fun a => by omega⟩
  by_cases h0 : (c.f0.size : Int) > 20000
  · refine ⟨[], Ev.bindc rfl (Ev.neg h (Ev.pos h0 sT)), Ev.bindc rfl (Ev.neg (by simpa using h) (Ev.bind hlt ?_)), by simp, fun x hx => by simp at hx, fun _ a => absurd a (by omega)⟩
    rw [decide_eq_true h0, Bool.true_or]
    exact iT
  by_cases h1 : (c.f1.size : Int) > 20000
  · refine ⟨[], Ev.bindc rfl (Ev.neg h (Ev.neg h0 (by rw [decide_eq_true h1]; exact sT))), Ev.bindc rfl (Ev.neg (by simpa using h) (Ev.bind hlt ?_)), by simp, fun x hx => by simp at hx, fun _ _ a => absurd a (by omega)⟩
    rw [decide_eq_true h1, Bool.or_true]
    exact iT
  obtain ⟨v, g1, g2, _⟩ := crossRight_sorted L hL hb
  have sp := specDrop_loop L c v hL L 0 [] rfl (by simp)
  have hc : impl_Cross_65.f L = some L := by unfold impl_Cross_65.f; exact if_pos (by omega)
  refine ⟨if v = true then L.filter (fun x => !keyB x c) else L, Ev.bindc rfl (Ev.neg h (Ev.neg h0 ?_)), Ev.bindc rfl (Ev.neg (by simpa using h) (Ev.bind hlt ?_)), ?_, ?_, ?_⟩
  · rw [decide_eq_false h1]
    exact Ev.step (fun k => spec_CrossDrop.j0.eq_2 ..) (Ev.neg (by simp) (Ev.bind g1 sp))
  · rw [decide_eq_false h0, decide_eq_false h1]
    refine Ev.step (fun k => impl_CrossDrop.j0.eq_2 ..) (Ev.neg (by simp) (Ev.bindc hc (Ev.bind g2 (Ev.ite (fun g => ?_) (fun g => Ev.ret (by rw [if_neg g]))))))
    rw [if_pos g]
    exact Ev.bind (dropFunc_ev L c hL) (Ev.now _)
  · split
    · exact List.length_filter_le _ _
    · omega
  · intro x
    split
    · intro hx; exact (List.mem_filter.1 hx).1
    · exact id
  · intro _ _ _ hv
    have : v = true := Ev.unique g1 hv
    rw [if_pos this]

theorem FnExactCrossDrop : laws_FnExactCrossDrop.Pure := by
  intro l a b hl ha hb
  refine Ev.rounds (g := fun k => laws_FnExactCrossDrop.f k l a b) ?_
  unfold laws_FnExactCrossDrop.f
  refine Ev.ite (fun _ => Ev.now _) (fun ha2 => Ev.ite (fun _ => Ev.now _) (fun hb2 => ?_))
  obtain ⟨w, u, t⟩ := szCrossS_ev l 1048576 (by omega) (by omega) hl.1 hl.2
  rcases t with t | ⟨t, tw, tl, tb⟩
  · exact Ev.bind u (Ev.pos (by omega) (Ev.now _))
  · have ht := toCrossS_ev l tl tb
    have hll : (l.map cCross).length ≤ 1048576 := by rw [List.length_map]; exact tl
    obtain ⟨r, h1, h2, h3, _⟩ := drop_both (l.map cCross) ⟨a, b, a⟩ hll (bCr_of tb)
    have he := eqCrossS_refl (l.map cCross) (by omega) (fun _ _ => trivial)
    have hr := eqCrossS_refl r (by omega) (fun _ _ => trivial)
    obtain ⟨X, y, m1, _, m2, m3⟩ := markCrossS_held (l.map cCross) (by omega)
    obtain ⟨F, m, f1, f2, f3, f4⟩ := markCrossS_held r (by omega)
    refine Ev.bind u (Ev.neg (by omega) (Ev.bind ht (Ev.bind h1 (Ev.bind ht (Ev.bind h2 (Ev.bind hr (Ev.pos rfl (Ev.bind ht (Ev.bind he (Ev.pos rfl (Ev.bind m1 (Ev.neg (by omega) (Ev.bind hr ?_)))))))))))))
    exact Ev.step (fun k => laws_FnExactCrossDrop.j0.eq_2 ..) (Ev.neg (by simp) (Ev.bind f1 (Ev.bind f2 (Ev.neg (by omega) (Ev.pos rfl (Ev.bind ht (Ev.bind h2 (Ev.bind hr (Ev.pos rfl (Ev.bind f2 (Ev.neg (by omega) (Ev.pos rfl (Ev.now _)))))))))))))

end Go.Proofs.Ytjffakoifpldeaa.Pure
