/- The law Cross of the program, over numbers and lists.
Conditions: none. -/
import Derived.Test.YtjffakoifpldeaaPFnCrossx
import Derived.Test.YtjffakoifpldeaaVFnCross
namespace Go.Proofs.Ytjffakoifpldeaa.Pure
open Go.RowKit Go.Proofs.Ytjffakoifpldeaa.PFnCross Go.Proofs.YtjffakoifpldeaaW.PrintWords Go.Proofs.YtjffakoifpldeaaW.PrintLast Go.Proofs.YtjffakoifpldeaaW.PrintMore Go.Proofs.YtjffakoifpldeaaW.Pl
set_option linter.unusedVariables false
set_option linter.unusedSimpArgs false

theorem within_eq (a b c : Int) : impl_within.f a b c = some (withinP a b c) := by
  unfold impl_within.f withinP
  split
  · congr 1; simp only [decide_eq_decide]; omega
  · congr 1; symm; simp only [decide_eq_false_iff_not]; omega

theorem isGreat_eq (c : Int) : impl_isGreat.f c = some (great c) := by
  unfold impl_isGreat.f great
  split
  · congr 1; simp only [decide_eq_decide]; omega
  · congr 1; symm; simp only [decide_eq_false_iff_not]; omega
theorem isDigit_eq (c : Int) : impl_isDigit.f c = some (digit c) := by
  unfold impl_isDigit.f digit
  split
  · congr 1; simp only [decide_eq_decide]; omega
  · congr 1; symm; simp only [decide_eq_false_iff_not]; omega

theorem great_t {c : Int} (h : 65 ≤ c) (h' : c ≤ 90) : great c = true := by simp [great, h, h']
theorem great_f {c : Int} (h : ¬ (65 ≤ c ∧ c ≤ 90)) : great c = false := by simp [great]; omega
theorem digit_t {c : Int} (h : 48 ≤ c) (h' : c ≤ 57) : digit c = true := by simp [digit, h, h']
theorem digit_f {c : Int} (h : ¬ (48 ≤ c ∧ c ≤ 57)) : digit c = false := by simp [digit]; omega

theorem isName_loop (s : ByteArray) (hs : (s.size : Int) ≤ 9223372036854775807) : ∀ (l : List Int) (i : Nat), 1 ≤ i → (bytesOf s).drop i = l → Ev (fun k => impl_isName.l0 k s (s.size : Int) (i : Int)) (l.all nameCh && withinP (s.size : Int) 1 12) := by
  intro l
  induction l with
  | nil =>
    intro i hi h
    have h0 := drop_nil h
    refine Ev.step (fun k => impl_isName.l0.eq_2 ..) ?_
    refine Ev.neg (by omega) ?_
    refine Ev.bindc (within_eq _ _ _) ?_
    exact Ev.ret (by simp)
  | cons c r ih =>
    intro i hi h
    obtain ⟨h1, h2, h3, _, _⟩ := drop_cons h
    have hw : wrap64 ((i : Int) + 1) = ((i + 1 : Nat) : Int) := by rw [wrap_id (by omega) (by omega)]; omega
    have hn := ih (i + 1) (by omega) h3
    refine Ev.step (fun k => impl_isName.l0.eq_2 ..) ?_
    refine Ev.pos h1 (Ev.pos (by omega) (Ev.pos h1 ?_))
    rw [h2]
    refine Ev.bindc (isGreat_eq _) ?_
    by_cases hg : great c = true
    · refine Ev.pos hg ?_
      rw [hw]
      exact hn.to (by simp [nameCh, hg])
    · refine Ev.neg hg (Ev.neg (by omega) ?_)
      refine Ev.bindc (isDigit_eq _) ?_
      by_cases hd : digit c = true
      · refine Ev.pos hd ?_
        rw [hw]
        exact hn.to (by simp [nameCh, hd])
      · refine Ev.neg hd ?_
        by_cases he : c = 45
        · refine Ev.pos he ?_
          rw [hw]
          exact hn.to (by simp [nameCh, he])
        · refine Ev.neg he ?_
          exact Ev.ret (by simp [nameCh, hg, hd, he])
theorem isName_ev (s : ByteArray) (hs : (s.size : Int) ≤ 9223372036854775807) : Ev (fun k => impl_isName.f k s) (nameP (bytesOf s)) := by
  have hl := length_bytesOf s
  show Ev (fun k => impl_isName.l0 k s (s.size : Int) ((0 : Nat) : Int)) _
  match hb : bytesOf s with
  | [] =>
    have h0 := drop_nil (s := s) (i := 0) (by simp [hb])
    refine Ev.step (fun k => impl_isName.l0.eq_2 ..) ?_
    refine Ev.neg (by omega) ?_
    refine Ev.bindc (within_eq _ _ _) ?_
    exact Ev.ret (by simp [withinP, nameP]; omega)
  | c :: r =>
    obtain ⟨h1, h2, h3, _, _⟩ := drop_cons (s := s) (i := 0) (c := c) (r := r) (by simp [hb])
    have hn := isName_loop s hs r 1 (by omega) h3
    rw [hb] at hl
    simp only [List.length_cons] at hl
    refine Ev.step (fun k => impl_isName.l0.eq_2 ..) ?_
    refine Ev.pos h1 (Ev.pos (by omega) (Ev.pos h1 ?_))
    rw [h2]
    refine Ev.bindc (isGreat_eq _) ?_
    by_cases hg : great c = true
    · refine Ev.pos hg ?_
      rw [show wrap64 (((0 : Nat) : Int) + 1) = ((1 : Nat) : Int) from by rw [wrap_id (by omega) (by omega)]; rfl]
      refine hn.to ?_
      have : withinP (s.size : Int) 1 12 = decide (r.length ≤ 11) := by
        simp only [withinP, decide_eq_decide]; omega
      simp [nameP, hg, this]
    · refine Ev.neg hg (Ev.pos rfl ?_)
      exact Ev.ret (by simp [nameP, hg])

theorem l01Name_loop (s : ByteArray) (hs : (s.size : Int) ≤ 9223372036854775807) : ∀ (l : List Int) (i : Nat), (bytesOf s).drop i = l → Ev (fun k => spec_l01Name.l0 k s (i : Int)) (l.all nameCh) := by
  intro l
  induction l with
  | nil =>
    intro i h
    have h0 := drop_nil h
    refine Ev.step (fun k => spec_l01Name.l0.eq_2 ..) ?_
    exact Ev.neg (by omega) (Ev.ret (by simp))
  | cons c r ih =>
    intro i h
    obtain ⟨h1, h2, h3, _, _⟩ := drop_cons h
    have hw : wrap64 ((i : Int) + 1) = ((i + 1 : Nat) : Int) := by rw [wrap_id (by omega) (by omega)]; omega
    have hn := ih (i + 1) h3
    refine Ev.step (fun k => spec_l01Name.l0.eq_2 ..) ?_
    refine Ev.pos h1 (Ev.pos (by omega) ?_)
    rw [h2, hw]
    by_cases hk : nameCh c = true
    · have hn' : Ev (fun k => spec_l01Name.l0 k s ((i + 1 : Nat) : Int)) ((c :: r).all nameCh) := hn.to (by simp [hk])
      have hk' : (65 ≤ c ∧ c ≤ 90) ∨ (48 ≤ c ∧ c ≤ 57) ∨ c = 45 := by simp [nameCh, great, digit, or_assoc] at hk; exact hk
      refine Ev.ite (fun g1 => Ev.ite (fun g2 => hn') (fun g2 => Ev.ite (fun g3 => Ev.ite (fun g4 => hn') (fun g4 => Ev.ite (fun g5 => hn') (fun g5 => ?_))) (fun g3 => Ev.ite (fun g5 => hn') (fun g5 => ?_)))) (fun g1 => Ev.ite (fun g3 => Ev.ite (fun g4 => hn') (fun g4 => Ev.ite (fun g5 => hn') (fun g5 => ?_))) (fun g3 => Ev.ite (fun g5 => hn') (fun g5 => ?_)))
      all_goals exact absurd hk' (by omega)
    · have hf : Ev (fun _ : Nat => some false) ((c :: r).all nameCh) := Ev.ret (by simp [hk])
      have hk' : ¬ ((65 ≤ c ∧ c ≤ 90) ∨ (48 ≤ c ∧ c ≤ 57) ∨ c = 45) := by simp [nameCh, great, digit] at hk; omega
      refine Ev.ite (fun g1 => Ev.ite (fun g2 => ?_) (fun g2 => Ev.ite (fun g3 => Ev.ite (fun g4 => ?_) (fun g4 => Ev.ite (fun g5 => ?_) (fun g5 => hf))) (fun g3 => Ev.ite (fun g5 => ?_) (fun g5 => hf)))) (fun g1 => Ev.ite (fun g3 => Ev.ite (fun g4 => ?_) (fun g4 => Ev.ite (fun g5 => ?_) (fun g5 => hf))) (fun g3 => Ev.ite (fun g5 => ?_) (fun g5 => hf)))
      all_goals exact absurd (show (65 ≤ c ∧ c ≤ 90) ∨ (48 ≤ c ∧ c ≤ 57) ∨ c = 45 by omega) hk'
theorem l01Name_ev (s : ByteArray) (hs : (s.size : Int) ≤ 9223372036854775807) : Ev (fun k => spec_l01Name.f k s) (nameP (bytesOf s)) := by
  have hl := length_bytesOf s
  have hj : ∀ b, b = false → Ev (fun k => spec_l01Name.j0 k s true) b := fun b hb => Ev.step (fun k => spec_l01Name.j0.eq_2 ..) (Ev.pos rfl (Ev.ret hb.symm))
  unfold spec_l01Name.f
  match hb : bytesOf s with
  | [] =>
    have h0 := drop_nil (s := s) (i := 0) (by simp [hb])
    refine Ev.pos (by omega) (hj _ rfl)
  | c :: r =>
    obtain ⟨h1, h2, h3, _, _⟩ := drop_cons (s := s) (i := 0) (c := c) (r := r) (by simp [hb])
    have hn := l01Name_loop s hs (c :: r) 0 (by simp [hb])
    rw [hb] at hl
    simp only [List.length_cons] at hl
    have h2' : bt s 0 = c := h2
    refine Ev.neg (by omega) (Ev.ite (fun g => hj _ (by simp [nameP]; intros; omega)) (fun g => Ev.pos (by omega) ?_))
    rw [h2']
    refine Ev.ite (fun g1 => hj _ (by simp [nameP, great]; intros; omega)) (fun g1 => ?_)
    by_cases g2 : c > 90
    · rw [show decide (c > 90) = true from by simp [g2]]
      exact hj _ (by simp [nameP, great]; intros; omega)
    · rw [show decide (c > 90) = false from by simp [g2]]
      refine Ev.step (fun k => spec_l01Name.j0.eq_2 ..) (Ev.neg (by simp) ?_)
      have hg : great c = true := by simp [great]; omega
      refine hn.to ?_
      have : r.length ≤ 11 := by omega
      simp [nameP, hg, nameCh, this]

theorem longText_loop (l : List ByteArray) (hl : (l.length : Int) ≤ 4611686018427387904) : ∀ (r : List ByteArray) (i : Nat), l.drop i = r → ∃ x : Int, Ev (fun k => slices_IndexFunc_string_string__impl_longText_1.l0 k l (l.length : Int) (i : Int)) x ∧ decide (x ≥ 0) = r.any (fun s => decide ((s.size : Int) > 20000)) := by
  intro r
  induction r with
  | nil =>
    intro i h
    have h0 := ldrop_nil h
    exact ⟨-1, Ev.step (fun k => slices_IndexFunc_string_string__impl_longText_1.l0.eq_2 ..) (Ev.neg (by omega) (Ev.now _)), by simp⟩
  | cons c r ih =>
    intro i h
    obtain ⟨h1, h2, h3⟩ := rdOf_cons ByteArray.empty h
    have hw : wrap64 ((i : Int) + 1) = ((i + 1 : Nat) : Int) := by rw [wrap_id (by omega) (by omega)]; omega
    obtain ⟨x, hx, he⟩ := ih (i + 1) h3
    by_cases hv : (c.size : Int) > 20000
    · refine ⟨i, Ev.step (fun k => slices_IndexFunc_string_string__impl_longText_1.l0.eq_2 ..) (Ev.pos h1 (Ev.pos (by omega) (Ev.pos h1 ?_))), by simp [hv]⟩
      rw [h2]
      exact Ev.bindc (show impl_longText_1.f c = some true from by simp [impl_longText_1.f, hv]) (Ev.pos rfl (Ev.now _))
    · refine ⟨x, Ev.step (fun k => slices_IndexFunc_string_string__impl_longText_1.l0.eq_2 ..) (Ev.pos h1 (Ev.pos (by omega) (Ev.pos h1 ?_))), by rw [he]; simp [hv]⟩
      rw [h2, hw]
      exact Ev.bindc (show impl_longText_1.f c = some false from by simp only [impl_longText_1.f, decide_eq_false hv]) (Ev.neg (by simp) hx)
theorem longText_any (l : List ByteArray) (hl : (l.length : Int) ≤ 4611686018427387904) : Ev (fun k => impl_longText.f k l) (l.any (fun s => decide ((s.size : Int) > 20000))) := by
  obtain ⟨x, h1, h2⟩ := longText_loop l hl l 0 rfl
  unfold impl_longText.f slices_ContainsFunc_string_string__impl_longText_1.f
  exact Ev.bind (Ev.bind (show Ev (fun k => slices_IndexFunc_string_string__impl_longText_1.f k l) x from h1) (Ev.now _)) (Ev.ret h2)
theorem longText_ev (s : ByteArray) : Ev (fun k => impl_longText.f k [s]) (decide ((s.size : Int) > 20000)) := (longText_any [s] (by simp)).to (by simp)

theorem wi_ {i : Nat} (h : (i : Int) ≤ 4611686018427387904) : wrap64 ((i : Int) + 1) = ((i + 1 : Nat) : Int) := by rw [wrap_id (by omega) (by omega)]; omega
/-- A list that is copied into a new one, place by place. -/
theorem tos_list {α β : Type} (z : α) (g : α → β) (T : Nat → List α → List β → Int → Option (List β)) (L : List α)
    (hT : ∀ (D : List β) (i : Nat) (r : List β), i < L.length → D.length = L.length → Ev (fun k => T k L (D.set i (g (L.getD i z))) ((i + 1 : Nat) : Int)) r → Ev (fun k => T k L D (i : Int)) r)
    (hT0 : ∀ (D : List β) (i : Nat), L.length ≤ i → Ev (fun k => T k L D (i : Int)) D) :
    ∀ (d : Nat) (D : List β) (i : Nat), L.length - i = d → D.length = L.length → (∀ j, j < i → D[j]? = (L.map g)[j]?) → Ev (fun k => T k L D (i : Int)) (L.map g)
  | 0, D, i, hd, hl, hp => by
    have e : D = L.map g := by
      apply List.ext_getElem?
      intro j
      by_cases h : j < i
      · exact hp j h
      · rw [List.getElem?_eq_none (by omega), List.getElem?_eq_none (by rw [List.length_map]; omega)]
    subst e
    exact hT0 _ i (by omega)
  | d + 1, D, i, hd, hl, hp => by
    refine hT D i _ (by omega) hl (tos_list z g T L hT hT0 d _ (i + 1) (by omega) (by rw [List.length_set]; exact hl) (fun j hj => ?_))
    by_cases h : j = i
    · subst h
      rw [List.getElem?_set_self (by omega), List.getElem?_map, List.getD_eq_getElem?_getD, List.getElem?_eq_getElem (by omega : j < L.length)]
      rfl
    · rw [List.getElem?_set_ne (by omega)]
      exact hp j (by omega)
/-- A list is measured, place by place: it is too great, or each element is bounded. -/
theorem sz_list {α : Type} (z : α) (P : α → Prop) (Z : Nat → List α → Int → Int → Option Int) (L : List α)
    (hs : ∀ (i : Nat) (x : Int), i < L.length → 0 ≤ x → x ≤ 1048576 → Ev (fun k => Z k L x (i : Int)) (-1) ∨ ∃ x', 0 ≤ x' ∧ x' ≤ x ∧ P (L.getD i z) ∧ ∀ r, Ev (fun k => Z k L x' ((i + 1 : Nat) : Int)) r → Ev (fun k => Z k L x (i : Int)) r)
    (h0 : ∀ (i : Nat) (x : Int), L.length ≤ i → Ev (fun k => Z k L x (i : Int)) x) :
    ∀ (d i : Nat) (x : Int), L.length - i = d → 0 ≤ x → x ≤ 1048576 → ∃ w, Ev (fun k => Z k L x (i : Int)) w ∧ (w = -1 ∨ (0 ≤ w ∧ w ≤ x ∧ ∀ j, i ≤ j → j < L.length → P (L.getD j z)))
  | 0, i, x, hd, h1, h2 => ⟨x, h0 i x (by omega), .inr ⟨h1, by omega, fun j _ _ => by omega⟩⟩
  | d + 1, i, x, hd, h1, h2 => by
    rcases hs i x (by omega) h1 h2 with h | ⟨x', g1, g2, g3, g4⟩
    · exact ⟨-1, h, .inl rfl⟩
    · obtain ⟨w, e1, e2⟩ := sz_list z P Z L hs h0 d (i + 1) x' (by omega) g1 (by omega)
      refine ⟨w, g4 w e1, ?_⟩
      rcases e2 with e2 | ⟨e2, e3, e4⟩
      · exact .inl e2
      · refine .inr ⟨e2, by omega, fun j hj hl => ?_⟩
        by_cases h : j = i
        · subst h; exact g3
        · exact e4 j (by omega) hl
theorem sz_all {α : Type} (z : α) (P : α → Prop) (L : List α) (h : ∀ j, 0 ≤ j → j < L.length → P (L.getD j z)) : ∀ x ∈ L, P x := by
  intro x hx
  obtain ⟨j, hj, rfl⟩ := List.getElem_of_mem hx
  have := h j (by omega) hj
  rwa [List.getD_eq_getElem?_getD, List.getElem?_eq_getElem hj] at this
theorem getD_mem {α : Type} {L : List α} {i : Nat} (z : α) (h : i < L.length) : L.getD i z ∈ L := by
  rw [List.getD_eq_getElem?_getD, List.getElem?_eq_getElem h]
  exact List.getElem_mem h
/-- A text that is bounded; a list of them. -/
def bT (s : ByteArray) : Prop := s.size ≤ 1048576
def bTs (l : List ByteArray) : Prop := l.length ≤ 1048576 ∧ ∀ s ∈ l, bT s

theorem idx_loop {α : Type} (z : α) (g : α → Bool) (Q : Nat → Int → Option Int) (L : List α)
    (ht : ∀ i : Nat, i < L.length → g (L.getD i z) = true → Ev (fun k => Q k (i : Int)) (i : Int))
    (hf : ∀ i : Nat, i < L.length → g (L.getD i z) = false → ∀ v, Ev (fun k => Q k ((i + 1 : Nat) : Int)) v → Ev (fun k => Q k (i : Int)) v)
    (h0 : ∀ i : Nat, L.length ≤ i → Ev (fun k => Q k (i : Int)) (-1)) :
    ∀ (d i : Nat), L.length - i = d → ∃ x : Int, Ev (fun k => Q k (i : Int)) x ∧ decide (x ≥ 0) = (L.drop i).any g
  | 0, i, hd => by
    rw [List.drop_eq_nil_of_le (by omega : L.length ≤ i)]
    exact ⟨-1, h0 i (by omega), by simp⟩
  | d + 1, i, hd => by
    have hi : i < L.length := by omega
    have hg : L.getD i z = L[i] := by rw [List.getD_eq_getElem?_getD, List.getElem?_eq_getElem hi]; rfl
    rw [List.drop_eq_getElem_cons hi]
    by_cases h : g (L.getD i z) = true
    · exact ⟨i, ht i hi h, by rw [hg] at h; rw [List.any_cons, h, Bool.true_or]; simp⟩
    · obtain ⟨x, hx, he⟩ := idx_loop z g Q L ht hf h0 d (i + 1) (by omega)
      rw [Bool.not_eq_true] at h
      exact ⟨x, hf i hi h x hx, by rw [he]; rw [hg] at h; rw [List.any_cons, h, Bool.false_or]⟩

/-- A way through a list that ends where something holds. -/
theorem any_loop {α β : Type} (z : α) (g : α → Bool) (Q : Nat → Int → Option β) (L : List α) (vt vf : β)
    (ht : ∀ i : Nat, i < L.length → g (L.getD i z) = true → Ev (fun k => Q k (i : Int)) vt)
    (hf : ∀ i : Nat, i < L.length → g (L.getD i z) = false → ∀ v, Ev (fun k => Q k ((i + 1 : Nat) : Int)) v → Ev (fun k => Q k (i : Int)) v)
    (h0 : ∀ i : Nat, L.length ≤ i → Ev (fun k => Q k (i : Int)) vf) :
    ∀ (d i : Nat), L.length - i = d → Ev (fun k => Q k (i : Int)) (if (L.drop i).any g = true then vt else vf)
  | 0, i, hd => by
    rw [List.drop_eq_nil_of_le (by omega : L.length ≤ i)]
    exact h0 i (by omega)
  | d + 1, i, hd => by
    have hi : i < L.length := by omega
    have hg : L.getD i z = L[i] := by rw [List.getD_eq_getElem?_getD, List.getElem?_eq_getElem hi]; rfl
    rw [List.drop_eq_getElem_cons hi, List.any_cons]
    by_cases h : g (L.getD i z) = true
    · refine (ht i hi h).to ?_
      rw [hg] at h; rw [h]; rfl
    · rw [Bool.not_eq_true] at h
      refine (hf i hi h _ (any_loop z g Q L vt vf ht hf h0 d (i + 1) (by omega))).to ?_
      rw [hg] at h; rw [h, Bool.false_or]
theorem take_getD {α : Type} (z : α) (L : List α) {i j : Nat} (h : j < i) : (L.take i).getD j z = L.getD j z := by
  rw [List.getD_eq_getElem?_getD, List.getD_eq_getElem?_getD, List.getElem?_take, if_pos h]

/-! the order of texts -/
theorem bl_irr : ∀ x : List UInt8, Op.bytesLess x x = false
  | [] => by simp [Op.bytesLess]
  | a :: x => by simp [Op.bytesLess, bl_irr x]
theorem bl_tri : ∀ x y : List UInt8, Op.bytesLess x y = false → Op.bytesLess y x = false → x = y
  | [], [], _, _ => rfl
  | _ :: _, [], _, h => by simp [Op.bytesLess] at h
  | [], _ :: _, h, _ => by simp [Op.bytesLess] at h
  | a :: x, b :: y, h1, h2 => by
    simp only [Op.bytesLess, Bool.or_eq_false_iff, Bool.and_eq_false_imp, decide_eq_false_iff_not, beq_iff_eq] at h1 h2
    have hab : a = b := UInt8.le_antisymm (UInt8.not_lt.1 h2.1) (UInt8.not_lt.1 h1.1)
    rw [hab, bl_tri x y (h1.2 hab) (h2.2 hab.symm)]
def ordI (a b : List UInt8) : Int := if Op.bytesLess a b = true then -1 else if Op.bytesLess b a = true then 1 else 0
theorem compare_eq (a b : ByteArray) : cmp_Compare_string.f a b = some (ordI a.toList b.toList) := by
  unfold cmp_Compare_string.f cmp_isNaN_string.f ordI
  simp only [bne_self_eq_false, Option.bind_some]
  by_cases h : Op.bytesLess a.toList b.toList = true
  · simp [h]
  · by_cases h2 : Op.bytesLess b.toList a.toList = true <;> simp [h, h2]
theorem cmpOr_ev (a b : Int) : Ev (fun k => cmp_Or_int.f k [a, b]) (if a = 0 then b else a) := by
  unfold cmp_Or_int.f
  have h1 : rd [a, b] 0 = a := rfl
  have h2 : rd [a, b] 1 = b := rfl
  have w1 : wrap64 (0 + 1) = 1 := by rw [wrap_id (by omega) (by omega)]; rfl
  have w2 : wrap64 (1 + 1) = 2 := by rw [wrap_id (by omega) (by omega)]; rfl
  have hl : (([a, b] : List Int).length : Int) = 2 := rfl
  rw [hl]
  refine Ev.step (fun k => cmp_Or_int.l0.eq_2 ..) (Ev.pos (by omega) (Ev.pos (by omega) (Ev.pos (by omega) ?_)))
  rw [h1, w1]
  refine Ev.ite (fun g => ?_) (fun g => Ev.ret (by rw [if_neg g]))
  rw [if_pos g]
  refine Ev.step (fun k => cmp_Or_int.l0.eq_2 ..) (Ev.pos (by omega) (Ev.pos (by omega) (Ev.pos (by omega) ?_)))
  rw [h2, w2]
  refine Ev.ite (fun g2 => ?_) (fun g2 => Ev.now _)
  exact Ev.step (fun k => cmp_Or_int.l0.eq_2 ..) (Ev.neg (by omega) (Ev.ret g2.symm))
def befB (x y : S37) : Bool := Op.bytesLess x.f0.toList y.f0.toList || (decide (x.f0.toList = y.f0.toList) && Op.bytesLess x.f1.toList y.f1.toList)
theorem before_eq (x y : S37) : spec_l08Before.f x.f0 x.f1 x.f2 y.f0 y.f1 y.f2 = some (befB x y) := by
  unfold spec_l08Before.f befB
  by_cases h : Op.bytesLess x.f0.toList y.f0.toList = true
  · simp [h]
  · rw [Bool.not_eq_true] at h
    by_cases h2 : x.f0.toList = y.f0.toList
    · rw [if_neg (by rw [h]; simp), if_pos h2, h, decide_eq_true h2]; simp
    · rw [if_neg (by rw [h]; simp), if_neg h2, h, decide_eq_false h2]; rfl
theorem order_ev (x y : S37) : ∃ v : Int, Ev (fun k => impl_crossOrder.f k x.f0 x.f1 x.f2 y.f0 y.f1 y.f2) v ∧ decide (v ≥ 0) = !befB x y := by
  unfold impl_crossOrder.f
  refine ⟨_, Ev.bindc (compare_eq _ _) (Ev.bindc (compare_eq _ _) (Ev.bind (cmpOr_ev _ _) (Ev.now _))), ?_⟩
  unfold befB ordI
  by_cases h : Op.bytesLess x.f0.toList y.f0.toList = true
  · simp [h]
  · rw [Bool.not_eq_true] at h
    by_cases h2 : Op.bytesLess y.f0.toList x.f0.toList = true
    · have hne : ¬ x.f0.toList = y.f0.toList := fun e => by rw [e, bl_irr] at h2; cases h2
      simp [h, h2, hne]
    · rw [Bool.not_eq_true] at h2
      have he := bl_tri _ _ h h2
      by_cases h3 : Op.bytesLess x.f1.toList y.f1.toList = true
      · simp [he, bl_irr, h3]
      · rw [Bool.not_eq_true] at h3
        by_cases h4 : Op.bytesLess y.f1.toList x.f1.toList = true <;> simp [he, bl_irr, h3, h4]
def pairB (e x : S37) : Bool := decide (x.f0.toList = e.f0.toList) && decide (x.f2.toList = e.f2.toList)
theorem crossIdx_ev (L : List S37) (e : S37) (hl : L.length ≤ 1048576) : Ev (fun k => impl_Cross_58__impl_CrossRight_1.f k L e.f0 e.f1 e.f2) (L.any (pairB e)) := by
  have h1 : ∀ x : S37, impl_CrossRight_1.f x.f0 x.f1 x.f2 e.f0 e.f1 e.f2 = some (pairB e x) := by
    intro x
    unfold impl_CrossRight_1.f pairB
    by_cases h : x.f0.toList = e.f0.toList
    · simp only [h, if_true, decide_true, Bool.true_and]
      congr 1
      rw [Bool.eq_iff_iff]
      simp
    · simp [h]
  obtain ⟨x, hx, he⟩ := idx_loop z37 (pairB e) (fun k i => impl_Cross_109__impl_CrossRight_1.l0 k L (L.length : Int) i e.f0 e.f1 e.f2) L
    (fun i hi g => Ev.step (fun k => impl_Cross_109__impl_CrossRight_1.l0.eq_2 ..) (Ev.pos (by omega) (Ev.pos (by omega) (Ev.pos (by omega) (Ev.bindc (h1 _) (Ev.pos g (Ev.now _)))))))
    (fun i hi g v hv => Ev.step (fun k => impl_Cross_109__impl_CrossRight_1.l0.eq_2 ..) (Ev.pos (by omega) (Ev.pos (by omega) (Ev.pos (by omega) (Ev.bindc (h1 _) (Ev.neg (by show ¬ pairB e (L.getD i z37) = true; rw [g]; simp) (by rw [wi_ (by omega)]; exact hv)))))))
    (fun i hi => Ev.step (fun k => impl_Cross_109__impl_CrossRight_1.l0.eq_2 ..) (Ev.neg (by omega) (Ev.now _))) _ 0 rfl
  unfold impl_Cross_58__impl_CrossRight_1.f
  refine Ev.bind (show Ev (fun k => impl_Cross_109__impl_CrossRight_1.f k L e.f0 e.f1 e.f2) x from hx) ?_
  exact Ev.ret he
def bCr (x : S37) : Prop := x.f0.size ≤ 1048576 ∧ x.f1.size ≤ 1048576 ∧ x.f2.size ≤ 1048576
/-- The place j of a right list. -/
def goodC (L : List S37) (j : Nat) : Prop := (nameP (bytesOf (L.getD j z37).f0) = true ∧ nameP (bytesOf (L.getD j z37).f1) = true ∧ nameP (bytesOf (L.getD j z37).f2) = true ∧ ((j : Int) > 0 → befB (L.getD (j - 1) z37) (L.getD j z37) = true) ∧ (L.take j).any (pairB (L.getD j z37)) = false)
theorem crossRight_loop (L : List S37) (hl : L.length ≤ 1048576) (hb : ∀ x ∈ L, bCr x) : ∀ (r : List S37) (i : Nat), L.drop i = r → ∃ v, Ev (fun k => spec_CrossRight.l0 k L (i : Int)) v ∧ Ev (fun k => impl_CrossRight.l0 k L L (L.length : Int) (i : Int)) v ∧ (v = true ↔ ∀ j : Nat, i ≤ j → j < L.length → goodC L j) := by
  intro r
  induction r with
  | nil =>
    intro i h
    have h0 := ldrop_nil h
    exact ⟨true, Ev.step (fun k => spec_CrossRight.l0.eq_2 ..) (Ev.neg (by omega) (Ev.now _)), Ev.step (fun k => impl_CrossRight.l0.eq_2 ..) (Ev.neg (by omega) (Ev.now _)), ⟨fun _ j _ _ => by omega, fun _ => rfl⟩⟩
  | cons e r ih =>
    intro i h
    obtain ⟨h1, h2, h3⟩ := ldrop_cons z37 h
    have hr : rd_T37 L (i : Int) = e := h2
    obtain ⟨hb0, hb1, hb2⟩ := hb e (List.mem_of_mem_drop (by rw [h]; exact List.mem_cons_self))
    obtain ⟨v, hv1, hv2, hv3⟩ := ih (i + 1) h3
    have hw := wi_ (i := i) (by omega)
    rw [← hw] at hv1 hv2
    have htl : (L.take i).length = i := by rw [List.length_take]; omega
    have sF : Ev (fun k => spec_CrossRight.j1 k L (i : Int) true e.f0 e.f1 e.f2) false := Ev.step (fun k => spec_CrossRight.j1.eq_2 ..) (Ev.pos rfl (Ev.now _))
    have iF : Ev (fun k => impl_CrossRight.j1 k L (i : Int) L (L.length : Int) (i : Int) true e.f0 e.f1 e.f2) false := Ev.step (fun k => impl_CrossRight.j1.eq_2 ..) (Ev.pos rfl (Ev.now _))
    have sT : Ev (fun k => spec_CrossRight.j1 k L (i : Int) false e.f0 e.f1 e.f2) (if (L.take i).any (pairB e) = true then false else v) := by
      refine Ev.step (fun k => spec_CrossRight.j1.eq_2 ..) (Ev.neg (by simp) ?_)
      refine (any_loop z37 (pairB e) (fun k j => spec_CrossRight.l1 k L (i : Int) j e.f0 e.f1 e.f2) (L.take i) false v (fun j hj g => ?_) (fun j hj g u hu => ?_) (fun j hj => ?_) _ 0 rfl)
      · rw [htl] at hj
        rw [take_getD _ _ hj] at g
        have g' : pairB e (rd_T37 L (j : Int)) = true := g
        simp only [pairB, Bool.and_eq_true, decide_eq_true_eq] at g'
        exact Ev.step (fun k => spec_CrossRight.l1.eq_2 ..) (Ev.pos (by omega) (Ev.pos (by omega) (Ev.pos (by omega) (Ev.pos g'.1 (Ev.pos g'.2 (Ev.now _))))))
      · rw [htl] at hj
        rw [take_getD _ _ hj] at g
        have g' : pairB e (rd_T37 L (j : Int)) = false := g
        refine Ev.step (fun k => spec_CrossRight.l1.eq_2 ..) (Ev.pos (by omega) (Ev.pos (by omega) (Ev.pos (by omega) ?_)))
        rw [wi_ (by omega)]
        exact Ev.ite (fun a => Ev.ite (fun b => by simp [pairB, a, b] at g') (fun b => hu)) (fun a => hu)
      · rw [htl] at hj
        exact Ev.step (fun k => spec_CrossRight.l1.eq_2 ..) (Ev.neg (by omega) hv1)
    have iT : Ev (fun k => impl_CrossRight.j1 k L (i : Int) L (L.length : Int) (i : Int) false e.f0 e.f1 e.f2) (if (L.take i).any (pairB e) = true then false else v) := by
      refine Ev.step (fun k => impl_CrossRight.j1.eq_2 ..) (Ev.neg (by simp) (Ev.pos (by omega) (Ev.pos (by omega) ?_)))
      rw [Int.toNat_natCast]
      exact Ev.bind (crossIdx_ev (L.take i) e (by omega)) (Ev.ite (fun g => Ev.ret (by rw [if_pos g])) (fun g => hv2.to (by rw [if_neg g])))
    have both : ∀ b : Bool, ∃ u, Ev (fun k => spec_CrossRight.j1 k L (i : Int) b e.f0 e.f1 e.f2) u ∧ Ev (fun k => impl_CrossRight.j1 k L (i : Int) L (L.length : Int) (i : Int) b e.f0 e.f1 e.f2) u ∧ (u = true ↔ b = false ∧ (L.take i).any (pairB e) = false ∧ v = true) := by
      intro b
      cases b with
      | true => exact ⟨_, sF, iF, by simp⟩
      | false => exact ⟨_, sT, iT, by cases (L.take i).any (pairB e) <;> simp⟩
    have e0 := l01Name_ev e.f0 (by omega)
    have e1 := l01Name_ev e.f1 (by omega)
    have e2 := l01Name_ev e.f2 (by omega)
    have f0 := isName_ev e.f0 (by omega)
    have f1 := isName_ev e.f1 (by omega)
    have f2 := isName_ev e.f2 (by omega)
    have key : ∃ u, Ev (fun k => (spec_l01Name.f k e.f0).bind fun t108 => (if t108 = true then ((spec_l01Name.f k e.f1).bind fun t109 => (if t109 = true then ((spec_l01Name.f k e.f2).bind fun t110 => (if t110 = true then (if (i : Int) > 0 then (if 0 ≤ (wrap64 ((i : Int) - 1)) then (if (wrap64 ((i : Int) - 1)) < (L.length : Int) then ((spec_l08Before.f ((rd_T37 L (wrap64 ((i : Int) - 1))).f0) ((rd_T37 L (wrap64 ((i : Int) - 1))).f1) ((rd_T37 L (wrap64 ((i : Int) - 1))).f2) e.f0 e.f1 e.f2).bind fun t112 => (spec_CrossRight.j1 k L (i : Int) (!t112) e.f0 e.f1 e.f2)) else (none)) else (none)) else (spec_CrossRight.j1 k L (i : Int) false e.f0 e.f1 e.f2)) else (spec_CrossRight.j1 k L (i : Int) true e.f0 e.f1 e.f2))) else (spec_CrossRight.j1 k L (i : Int) true e.f0 e.f1 e.f2))) else (spec_CrossRight.j1 k L (i : Int) true e.f0 e.f1 e.f2))) u
        ∧ Ev (fun k => (impl_isName.f k e.f0).bind fun t146 => (if t146 = true then ((impl_isName.f k e.f1).bind fun t147 => (if t147 = true then ((impl_isName.f k e.f2).bind fun t148 => (if t148 = true then (if (i : Int) > 0 then (if 0 ≤ (wrap64 ((i : Int) - 1)) then (if (wrap64 ((i : Int) - 1)) < (L.length : Int) then ((impl_crossOrder.f k ((rd_T37 L (wrap64 ((i : Int) - 1))).f0) ((rd_T37 L (wrap64 ((i : Int) - 1))).f1) ((rd_T37 L (wrap64 ((i : Int) - 1))).f2) e.f0 e.f1 e.f2).bind fun t150 => (impl_CrossRight.j1 k L (i : Int) L (L.length : Int) (i : Int) (decide (t150 ≥ 0)) e.f0 e.f1 e.f2)) else (none)) else (none)) else (impl_CrossRight.j1 k L (i : Int) L (L.length : Int) (i : Int) false e.f0 e.f1 e.f2)) else (impl_CrossRight.j1 k L (i : Int) L (L.length : Int) (i : Int) true e.f0 e.f1 e.f2))) else (impl_CrossRight.j1 k L (i : Int) L (L.length : Int) (i : Int) true e.f0 e.f1 e.f2))) else (impl_CrossRight.j1 k L (i : Int) L (L.length : Int) (i : Int) true e.f0 e.f1 e.f2))) u ∧ (u = true ↔ (nameP (bytesOf e.f0) = true ∧ nameP (bytesOf e.f1) = true ∧ nameP (bytesOf e.f2) = true ∧ ((i : Int) > 0 → befB (L.getD (i - 1) z37) e = true) ∧ (L.take i).any (pairB e) = false) ∧ v = true) := by
      by_cases n0 : nameP (bytesOf e.f0) = true
      · by_cases n1 : nameP (bytesOf e.f1) = true
        · by_cases n2 : nameP (bytesOf e.f2) = true
          · by_cases hi : (i : Int) > 0
            · have hwp : wrap64 ((i : Int) - 1) = (i : Int) - 1 := wrap_id (by omega) (by omega)
              obtain ⟨o, ho1, ho2⟩ := order_ev (rd_T37 L (wrap64 ((i : Int) - 1))) e
              have hpr : rd_T37 L (wrap64 ((i : Int) - 1)) = L.getD (i - 1) z37 := by unfold rd_T37; rw [hwp]; congr 1; omega
              obtain ⟨u, hu1, hu2, hu3⟩ := both (!befB (rd_T37 L (wrap64 ((i : Int) - 1))) e)
              refine ⟨u, Ev.bind e0 (Ev.pos n0 (Ev.bind e1 (Ev.pos n1 (Ev.bind e2 (Ev.pos n2 (Ev.pos hi (Ev.pos (by omega) (Ev.pos (by omega) (Ev.bindc (before_eq _ _) hu1))))))))), Ev.bind f0 (Ev.pos n0 (Ev.bind f1 (Ev.pos n1 (Ev.bind f2 (Ev.pos n2 (Ev.pos hi (Ev.pos (by omega) (Ev.pos (by omega) (Ev.bind ho1 ?_))))))))), ⟨fun a => ⟨⟨n0, n1, n2, fun _ => by have := (hu3.1 a).1; rw [hpr] at this; simpa using this, (hu3.1 a).2.1⟩, (hu3.1 a).2.2⟩, fun a => hu3.2 ⟨by rw [hpr, a.1.2.2.2.1 hi]; rfl, a.1.2.2.2.2, a.2⟩⟩⟩
              rw [ho2]
              exact hu2
            · obtain ⟨u, hu1, hu2, hu3⟩ := both false
              exact ⟨u, Ev.bind e0 (Ev.pos n0 (Ev.bind e1 (Ev.pos n1 (Ev.bind e2 (Ev.pos n2 (Ev.neg hi hu1)))))), Ev.bind f0 (Ev.pos n0 (Ev.bind f1 (Ev.pos n1 (Ev.bind f2 (Ev.pos n2 (Ev.neg hi hu2)))))), ⟨fun a => ⟨⟨n0, n1, n2, fun b => absurd b hi, (hu3.1 a).2.1⟩, (hu3.1 a).2.2⟩, fun a => hu3.2 ⟨rfl, a.1.2.2.2.2, a.2⟩⟩⟩
          · exact ⟨false, Ev.bind e0 (Ev.pos n0 (Ev.bind e1 (Ev.pos n1 (Ev.bind e2 (Ev.neg n2 sF))))), Ev.bind f0 (Ev.pos n0 (Ev.bind f1 (Ev.pos n1 (Ev.bind f2 (Ev.neg n2 iF))))), ⟨fun a => (by cases a), fun a => absurd a.1.2.2.1 n2⟩⟩
        · exact ⟨false, Ev.bind e0 (Ev.pos n0 (Ev.bind e1 (Ev.neg n1 sF))), Ev.bind f0 (Ev.pos n0 (Ev.bind f1 (Ev.neg n1 iF))), ⟨fun a => (by cases a), fun a => absurd a.1.2.1 n1⟩⟩
      · exact ⟨false, Ev.bind e0 (Ev.neg n0 sF), Ev.bind f0 (Ev.neg n0 iF), ⟨fun a => (by cases a), fun a => absurd a.1.1 n0⟩⟩
    obtain ⟨u, hu1, hu2, hu3⟩ := key
    refine ⟨u, Ev.step (fun k => spec_CrossRight.l0.eq_2 ..) (Ev.pos h1 (Ev.pos (by omega) ?_)), Ev.step (fun k => impl_CrossRight.l0.eq_2 ..) (Ev.pos h1 (Ev.pos (by omega) (Ev.pos h1 ?_))), ?_⟩
    · rw [hr]; exact hu1
    · rw [hr]; exact hu2
    · have h2' : L.getD i z37 = e := h2
      have hg : goodC L i ↔ (nameP (bytesOf e.f0) = true ∧ nameP (bytesOf e.f1) = true ∧ nameP (bytesOf e.f2) = true ∧ ((i : Int) > 0 → befB (L.getD (i - 1) z37) e = true) ∧ (L.take i).any (pairB e) = false) := by unfold goodC; rw [h2']
      rw [hu3, ← hg, hv3]
      constructor
      · rintro ⟨a, b⟩ j hj hjl
        by_cases g : j = i
        · rw [g]; exact a
        · exact b j (by omega) hjl
      · intro a
        exact ⟨a i (by omega) (by omega), fun j hj hjl => a j (by omega) hjl⟩
/-- Both say alike whether a list is right. -/
theorem crossRight_iff (L : List S37) (hl : L.length ≤ 1048576) (hb : ∀ x ∈ L, bCr x) : ∃ v, Ev (fun k => spec_CrossRight.f k L) v ∧ Ev (fun k => impl_CrossRight.f k L) v ∧ (v = true ↔ L.length ≤ 200 ∧ ∀ j : Nat, j < L.length → goodC L j) := by
  unfold spec_CrossRight.f impl_CrossRight.f
  by_cases h : (L.length : Int) > 200
  · exact ⟨false, Ev.pos h (Ev.now _), Ev.pos h (Ev.now _), ⟨fun a => (by cases a), fun a => by omega⟩⟩
  · obtain ⟨v, h1, h2, h3⟩ := crossRight_loop L hl hb L 0 rfl
    exact ⟨v, Ev.neg h h1, Ev.neg h h2, by rw [h3]; exact ⟨fun a => ⟨by omega, fun j => a j (by omega)⟩, fun a j _ => a.2 j⟩⟩
/-- .. and a right list is short and rises. -/
theorem crossRight_sorted (L : List S37) (hl : L.length ≤ 1048576) (hb : ∀ x ∈ L, bCr x) : ∃ v, Ev (fun k => spec_CrossRight.f k L) v ∧ Ev (fun k => impl_CrossRight.f k L) v ∧ (v = true → L.length ≤ 200 ∧ ∀ j : Nat, 0 < j → j < L.length → befB (L.getD (j - 1) z37) (L.getD j z37) = true) := by
  obtain ⟨v, h1, h2, h3⟩ := crossRight_iff L hl hb
  exact ⟨v, h1, h2, fun a => ⟨(h3.1 a).1, fun j h0 hj => ((h3.1 a).2 j hj).2.2.2.1 (by omega)⟩⟩
theorem crossRight_both (L : List S37) (hl : L.length ≤ 1048576) (hb : ∀ x ∈ L, bCr x) : ∃ v, Ev (fun k => spec_CrossRight.f k L) v ∧ Ev (fun k => impl_CrossRight.f k L) v := by
  obtain ⟨v, h1, h2, _⟩ := crossRight_sorted L hl hb
  exact ⟨v, h1, h2⟩

def keyB (x c : S37) : Bool := decide (x.f0.toList = c.f0.toList) && decide (x.f1.toList = c.f1.toList)
theorem keyB_iff (x c : S37) : keyB x c = true ↔ x.f0.toList = c.f0.toList ∧ x.f1.toList = c.f1.toList := by simp [keyB]

/-! a cross that is put into a list -/
theorem bl_trans : ∀ x y z : List UInt8, Op.bytesLess x y = true → Op.bytesLess y z = true → Op.bytesLess x z = true
  | [], _, [], _, h => by cases ‹List UInt8› <;> simp [Op.bytesLess] at h
  | [], _, _ :: _, _, _ => by simp [Op.bytesLess]
  | _ :: _, [], _, h, _ => by simp [Op.bytesLess] at h
  | _ :: _, _ :: _, [], _, h => by simp [Op.bytesLess] at h
  | a :: x, b :: y, c :: z, h1, h2 => by
    simp only [Op.bytesLess, Bool.or_eq_true, Bool.and_eq_true, decide_eq_true_eq, beq_iff_eq] at h1 h2 ⊢
    rcases h1 with h1 | ⟨rfl, h1⟩
    · rcases h2 with h2 | ⟨rfl, h2⟩
      · exact .inl (UInt8.lt_trans h1 h2)
      · exact .inl h1
    · rcases h2 with h2 | ⟨rfl, h2⟩
      · exact .inl h2
      · exact .inr ⟨rfl, bl_trans x y z h1 h2⟩
theorem befB_iff (x y : S37) : befB x y = true ↔ Op.bytesLess x.f0.toList y.f0.toList = true ∨ (x.f0.toList = y.f0.toList ∧ Op.bytesLess x.f1.toList y.f1.toList = true) := by simp [befB]
theorem befB_trans {x y z : S37} (h1 : befB x y = true) (h2 : befB y z = true) : befB x z = true := by
  rw [befB_iff] at h1 h2 ⊢
  rcases h1 with h1 | ⟨e1, h1⟩
  · rcases h2 with h2 | ⟨e2, h2⟩
    · exact .inl (bl_trans _ _ _ h1 h2)
    · exact .inl (by rw [← e2]; exact h1)
  · rcases h2 with h2 | ⟨e2, h2⟩
    · exact .inl (by rw [e1]; exact h2)
    · exact .inr ⟨e1.trans e2, bl_trans _ _ _ h1 h2⟩
theorem key_bef {x y c : S37} (h : keyB y c = true) : befB x y = befB x c := by
  obtain ⟨e0, e1⟩ := (keyB_iff _ _).1 h
  unfold befB
  rw [e0, e1]
theorem bef_nokey {x c : S37} (h : befB x c = true) : keyB x c = false := by
  rw [Bool.eq_false_iff]
  intro g
  obtain ⟨e0, e1⟩ := (keyB_iff _ _).1 g
  rw [befB_iff, e0, e1, bl_irr, bl_irr] at h
  simp at h
theorem tri {x c : S37} (h : befB x c = false) (g : keyB x c = false) : befB c x = true := by
  rw [befB_iff]
  by_cases h1 : Op.bytesLess c.f0.toList x.f0.toList = true
  · exact .inl h1
  · rw [Bool.not_eq_true] at h1
    have h2 : ¬ (Op.bytesLess x.f0.toList c.f0.toList = true) := fun a => by have := (befB_iff x c).2 (.inl a); rw [h] at this; cases this
    rw [Bool.not_eq_true] at h2
    have e0 := bl_tri _ _ h2 h1
    by_cases h3 : Op.bytesLess c.f1.toList x.f1.toList = true
    · exact .inr ⟨e0.symm, h3⟩
    · rw [Bool.not_eq_true] at h3
      have h4 : ¬ (Op.bytesLess x.f1.toList c.f1.toList = true) := fun a => by have := (befB_iff x c).2 (.inr ⟨e0, a⟩); rw [h] at this; cases this
      rw [Bool.not_eq_true] at h4
      have e1 := bl_tri _ _ h4 h3
      rw [(keyB_iff x c).2 ⟨e0, e1⟩] at g
      cases g
theorem order_ev2 (x y : S37) : ∃ v : Int, Ev (fun k => impl_crossOrder.f k x.f0 x.f1 x.f2 y.f0 y.f1 y.f2) v ∧ (v < 0 ↔ befB x y = true) ∧ (v == 0) = keyB x y := by
  unfold impl_crossOrder.f
  refine ⟨_, Ev.bindc (compare_eq _ _) (Ev.bindc (compare_eq _ _) (Ev.bind (cmpOr_ev _ _) (Ev.now _))), ?_⟩
  unfold befB keyB ordI
  by_cases h : Op.bytesLess x.f0.toList y.f0.toList = true
  · have hne : ¬ x.f0.toList = y.f0.toList := fun e => by rw [e, bl_irr] at h; cases h
    simp [h, hne]
  · rw [Bool.not_eq_true] at h
    by_cases h2 : Op.bytesLess y.f0.toList x.f0.toList = true
    · have hne : ¬ x.f0.toList = y.f0.toList := fun e => by rw [e, bl_irr] at h2; cases h2
      simp [h, h2, hne]
    · rw [Bool.not_eq_true] at h2
      have he := bl_tri _ _ h h2
      by_cases h3 : Op.bytesLess x.f1.toList y.f1.toList = true
      · have hne : ¬ x.f1.toList = y.f1.toList := fun e => by rw [e, bl_irr] at h3; cases h3
        simp [he, bl_irr, h3, hne]
      · rw [Bool.not_eq_true] at h3
        by_cases h4 : Op.bytesLess y.f1.toList x.f1.toList = true
        · have hne : ¬ x.f1.toList = y.f1.toList := fun e => by rw [e, bl_irr] at h4; cases h4
          simp [he, bl_irr, h3, h4, hne]
        · rw [Bool.not_eq_true] at h4
          simp [bl_tri _ _ h3 h4, he, bl_irr]
abbrev Rising (L : List S37) : Prop := ∀ j : Nat, 0 < j → j < L.length → befB (L.getD (j - 1) z37) (L.getD j z37) = true
theorem rise {L : List S37} (h : Rising L) (i : Nat) : ∀ j, i < j → j < L.length → befB (L.getD i z37) (L.getD j z37) = true
  | 0, h1, _ => by omega
  | j + 1, h1, h2 => by
    have e := h (j + 1) (by omega) h2
    by_cases g : i = j
    · subst g; exact e
    · exact befB_trans (rise h i j (by omega) (by omega)) e
theorem getD_get {α : Type} (z : α) {L : List α} {i : Nat} (h : i < L.length) : L.getD i z = L[i] := by
  rw [List.getD_eq_getElem?_getD, List.getElem?_eq_getElem h]; rfl
/-- What is put: the ones before it, itself, and the others that bear another key. -/
def putL (L : List S37) (c : S37) : List S37 := L.takeWhile (fun x => befB x c) ++ c :: (L.dropWhile (fun x => befB x c)).filter (fun x => !keyB x c)
theorem put_len (L : List S37) (c : S37) : (putL L c).length ≤ L.length + 1 := by
  have h1 : (L.takeWhile (fun x => befB x c) ++ L.dropWhile (fun x => befB x c)).length = L.length := by rw [List.takeWhile_append_dropWhile]
  have h2 := List.length_filter_le (fun x => !keyB x c) (L.dropWhile (fun x => befB x c))
  rw [List.length_append] at h1
  unfold putL
  rw [List.length_append, List.length_cons]
  omega
theorem put_mem {L : List S37} {c x : S37} (h : x ∈ putL L c) : x = c ∨ x ∈ L := by
  unfold putL at h
  rcases List.mem_append.1 h with h | h
  · exact .inr ((List.takeWhile_sublist _).subset h)
  · rcases List.mem_cons.1 h with h | h
    · exact .inl h
    · exact .inr ((List.dropWhile_sublist _).subset (List.mem_filter.1 h |>.1))
theorem specPut_done (L s : List S37) (c : S37) (hl : L.length ≤ 1048576) (v : Bool) (r : List S37) : ∀ (R : List S37) (i : Nat) (o : List S37), L.drop i = R → o.length ≤ i + 1 → o ++ R.filter (fun x => !keyB x c) = r → Ev (fun k => spec_CrossRight.f k r) v → Ev (fun k => spec_CrossPut.l0 k L s o true (i : Int) c.f0 c.f1 c.f2) (if v = true then r else s) := by
  intro R
  induction R with
  | nil =>
    intro i o h ho he hv
    have h0 := ldrop_nil h
    rw [List.filter_nil, List.append_nil] at he
    subst he
    refine Ev.step (fun k => spec_CrossPut.l0.eq_2 ..) (Ev.neg (by omega) (Ev.pos rfl (Ev.bind hv ?_)))
    exact Ev.ite (fun g => Ev.ret (by rw [if_pos g])) (fun g => Ev.ret (by rw [if_neg g]))
  | cons e R ih =>
    intro i o h ho he hv
    obtain ⟨h1, h2, h3⟩ := ldrop_cons z37 h
    have hr : rd_T37 L (i : Int) = e := h2
    have hw := wi_ (i := i) (by omega)
    refine Ev.step (fun k => spec_CrossPut.l0.eq_2 ..) (Ev.pos h1 (Ev.pos rfl (Ev.step (fun k => spec_CrossPut.j1.eq_2 ..) (Ev.neg (by simp) (Ev.pos (by omega) (Ev.pos h1 ?_))))))
    rw [hr, hw]
    have kf : keyB e c = false → Ev (fun k => if o.length < 2932031007402 then spec_CrossPut.l0 k L s (o ++ [(⟨e.f0, e.f1, e.f2⟩ : S37)]) true ((i + 1 : Nat) : Int) c.f0 c.f1 c.f2 else none) (if v = true then r else s) := fun g => by
      refine Ev.pos (by omega) (ih (i + 1) _ h3 (by simp; omega) ?_ hv)
      rw [← he, List.filter_cons_of_pos (by rw [g]; rfl), List.append_assoc]
      rfl
    refine Ev.ite (fun g0 => Ev.ite (fun g1 => ?_) (fun g1 => ?_)) (fun g0 => ?_)
    · refine ih (i + 1) o h3 (by omega) ?_ hv
      rw [← he, List.filter_cons_of_neg (by rw [(keyB_iff e c).2 ⟨g0, g1⟩]; simp)]
    · exact kf (by unfold keyB; rw [decide_eq_false g1, Bool.and_false])
    · exact kf (by unfold keyB; rw [decide_eq_false g0, Bool.false_and])
theorem specPut_loop (L s : List S37) (c : S37) (hl : L.length ≤ 1048576) (v : Bool) (r : List S37) : ∀ (R : List S37) (i : Nat) (o : List S37), L.drop i = R → i ≤ L.length → o.length ≤ i → o ++ putL R c = r → Ev (fun k => spec_CrossRight.f k r) v → Ev (fun k => spec_CrossPut.l0 k L s o false (i : Int) c.f0 c.f1 c.f2) (if v = true then r else s) := by
  intro R
  induction R with
  | nil =>
    intro i o h hiL ho he hv
    have h0 := ldrop_nil h
    have he' : o ++ [(⟨c.f0, c.f1, c.f2⟩ : S37)] = r := he
    subst he'
    refine Ev.step (fun k => spec_CrossPut.l0.eq_2 ..) (Ev.neg (by omega) (Ev.neg (by simp) (Ev.pos (by omega) (Ev.bindc rfl (Ev.bind hv ?_)))))
    exact Ev.ite (fun g => Ev.ret (by rw [if_pos g])) (fun g => Ev.ret (by rw [if_neg g]))
  | cons e R ih =>
    intro i o h hiL ho he hv
    obtain ⟨h1, h2, h3⟩ := ldrop_cons z37 h
    have hr : rd_T37 L (i : Int) = e := h2
    have hw := wi_ (i := i) (by omega)
    refine Ev.step (fun k => spec_CrossPut.l0.eq_2 ..) (Ev.pos h1 (Ev.neg (by simp) (Ev.pos (by omega) ?_)))
    rw [hr]
    refine Ev.bindc (before_eq e c) ?_
    cases hb : befB e c with
    | true =>
      have hk := bef_nokey hb
      refine Ev.step (fun k => spec_CrossPut.j1.eq_2 ..) (Ev.neg (by simp) (Ev.pos (by omega) (Ev.pos h1 ?_)))
      rw [hr, hw]
      have kf : Ev (fun k => if o.length < 2932031007402 then spec_CrossPut.l0 k L s (o ++ [(⟨e.f0, e.f1, e.f2⟩ : S37)]) false ((i + 1 : Nat) : Int) c.f0 c.f1 c.f2 else none) (if v = true then r else s) := by
        refine Ev.pos (by omega) (ih (i + 1) _ h3 (by omega) (by simp; omega) ?_ hv)
        rw [← he]
        unfold putL
        rw [List.takeWhile_cons_of_pos (p := fun x => befB x c) (a := e) hb, List.dropWhile_cons_of_pos (p := fun x => befB x c) (a := e) hb]
        simp
      refine Ev.ite (fun g0 => Ev.ite (fun g1 => ?_) (fun g1 => kf)) (fun g0 => kf)
      rw [(keyB_iff e c).2 ⟨g0, g1⟩] at hk
      cases hk
    | false =>
      refine Ev.step (fun k => spec_CrossPut.j1.eq_2 ..) (Ev.pos rfl (Ev.pos (by omega) (Ev.bindc rfl (Ev.pos (by omega) (Ev.pos h1 ?_)))))
      rw [hr, hw]
      have hp : putL (e :: R) c = c :: (e :: R).filter (fun x => !keyB x c) := by
        unfold putL
        rw [List.takeWhile_cons_of_neg (by rw [hb]; simp), List.dropWhile_cons_of_neg (by rw [hb]; simp)]
        rfl
      rw [hp] at he
      have kf : keyB e c = false → Ev (fun k => if (o ++ [(⟨c.f0, c.f1, c.f2⟩ : S37)]).length < 2932031007402 then spec_CrossPut.l0 k L s (o ++ [(⟨c.f0, c.f1, c.f2⟩ : S37)] ++ [(⟨e.f0, e.f1, e.f2⟩ : S37)]) true ((i + 1 : Nat) : Int) c.f0 c.f1 c.f2 else none) (if v = true then r else s) := fun g => by
        refine Ev.pos (by simp; omega) (specPut_done L s c hl v r R (i + 1) _ h3 (by simp; omega) ?_ hv)
        rw [← he, List.filter_cons_of_pos (by rw [g]; rfl)]
        simp
      refine Ev.ite (fun g0 => Ev.ite (fun g1 => ?_) (fun g1 => ?_)) (fun g0 => ?_)
      · refine specPut_done L s c hl v r R (i + 1) _ h3 (by simp; omega) ?_ hv
        rw [← he, List.filter_cons_of_neg (by rw [(keyB_iff e c).2 ⟨g0, g1⟩]; simp)]
        simp
      · exact kf (by unfold keyB; rw [decide_eq_false g1, Bool.and_false])
      · exact kf (by unfold keyB; rw [decide_eq_false g0, Bool.false_and])
theorem split_at {α : Type} (z : α) (g : α → Bool) (L : List α) (p : Nat) (hp : p ≤ L.length) (h1 : ∀ q, q < p → g (L.getD q z) = true) (h2 : p < L.length → g (L.getD p z) = false) : L.takeWhile g = L.take p ∧ L.dropWhile g = L.drop p := by
  induction L generalizing p with
  | nil => simp
  | cons e L ih =>
    cases p with
    | zero =>
      have : g e = false := h2 (by simp)
      rw [List.takeWhile_cons_of_neg (by rw [this]; simp), List.dropWhile_cons_of_neg (by rw [this]; simp)]
      simp
    | succ p =>
      have he : g e = true := h1 0 (by omega)
      obtain ⟨a, b⟩ := ih p (by simpa using hp) (fun q hq => h1 (q + 1) (by omega)) (fun hq => h2 (by simpa using hq))
      rw [List.takeWhile_cons_of_pos he, List.dropWhile_cons_of_pos he, a, b]
      simp
theorem u64i {x : Int} (h0 : 0 ≤ x) (h1 : x < 18446744073709551616) : IntKind.u64.wrap x = x := by
  unfold IntKind.wrap
  simp [IntKind.bits, IntKind.signed]
  omega
theorem search_loop (L : List S37) (c : S37) (hl : L.length ≤ 1048576) (hs : Rising L) : ∀ (d i j : Nat), j - i = d → i ≤ j → j ≤ L.length → (∀ q, q < i → befB (L.getD q z37) c = true) → (∀ q, j ≤ q → q < L.length → befB (L.getD q z37) c = false) →
    ∃ (p : Nat) (b : Bool), Ev (fun k => impl_Cross_69__impl_crossOrder.l0 k L (L.length : Int) (i : Int) (j : Int) c.f0 c.f1 c.f2) ((p : Int), b) ∧ p ≤ L.length ∧ (∀ q, q < p → befB (L.getD q z37) c = true) ∧ (p < L.length → befB (L.getD p z37) c = false) ∧ b = (decide (p < L.length) && keyB (L.getD p z37) c) := by
  intro d
  induction d using Nat.strongRecOn with
  | _ d ih =>
    intro i j hd hij hj h1 h2
    by_cases h : i < j
    · have hm : wrap64 (IntKind.u64.wrap (wrap64 ((i : Int) + (j : Int))) / 2) = (((i + j) / 2 : Nat) : Int) := by
        rw [wrap_id (x := (i : Int) + (j : Int)) (by omega) (by omega)]
        have : IntKind.u64.wrap ((i : Int) + (j : Int)) = (i : Int) + (j : Int) := by exact u64i (by omega) (by omega)
        rw [this, wrap_id (by omega) (by omega)]
        omega
      obtain ⟨o, ho, hlt, _⟩ := order_ev2 (L.getD ((i + j) / 2) z37) c
      have hrd : rd_T37 L (((i + j) / 2 : Nat) : Int) = L.getD ((i + j) / 2) z37 := rfl
      by_cases g : befB (L.getD ((i + j) / 2) z37) c = true
      · obtain ⟨p, b, e, hp⟩ := ih (j - ((i + j) / 2 + 1)) (by omega) ((i + j) / 2 + 1) j rfl (by omega) hj (fun q hq => by
          by_cases hq2 : q = (i + j) / 2
          · rw [hq2]; exact g
          · exact befB_trans (rise hs q ((i + j) / 2) (by omega) (by omega)) g) h2
        refine ⟨p, b, ?_, hp⟩
        refine Ev.step (fun k => impl_Cross_69__impl_crossOrder.l0.eq_2 ..) (Ev.pos (by omega) ?_)
        rw [hm, hrd, wi_ (by omega)]
        exact Ev.pos (by omega) (Ev.pos (by omega) (Ev.bind ho (Ev.pos (hlt.2 g) e)))
      · obtain ⟨p, b, e, hp⟩ := ih ((i + j) / 2 - i) (by omega) i ((i + j) / 2) rfl (by omega) (by omega) h1 (fun q hq hql => by
          rw [Bool.not_eq_true] at g
          by_cases hq2 : q = (i + j) / 2
          · rw [hq2]; exact g
          · rw [Bool.eq_false_iff]
            intro g2
            have := befB_trans (rise hs ((i + j) / 2) q (by omega) hql) g2
            rw [g] at this
            cases this)
        refine ⟨p, b, ?_, hp⟩
        refine Ev.step (fun k => impl_Cross_69__impl_crossOrder.l0.eq_2 ..) (Ev.pos (by omega) ?_)
        rw [hm, hrd]
        exact Ev.pos (by omega) (Ev.pos (by omega) (Ev.bind ho (Ev.neg (fun a => g (hlt.1 a)) e)))
    · obtain rfl : i = j := by omega
      by_cases h3 : i < L.length
      · obtain ⟨o, ho, _, heq⟩ := order_ev2 (L.getD i z37) c
        have hrd : rd_T37 L (i : Int) = L.getD i z37 := rfl
        refine ⟨i, _, Ev.step (fun k => impl_Cross_69__impl_crossOrder.l0.eq_2 ..) (Ev.neg (by omega) (Ev.pos (by omega) (Ev.pos (by omega) (Ev.pos (by omega) ?_)))), hj, h1, fun _ => h2 i (by omega) h3, rfl⟩
        rw [hrd, decide_eq_true h3, Bool.true_and, ← heq]
        exact Ev.bind ho (Ev.now _)
      · exact ⟨i, false, Ev.step (fun k => impl_Cross_69__impl_crossOrder.l0.eq_2 ..) (Ev.neg (by omega) (Ev.neg (by omega) (Ev.now _))), hj, h1, fun a => absurd a h3, by rw [decide_eq_false h3]; rfl⟩
theorem filter_all {α : Type} (g : α → Bool) (z : α) (L : List α) (h : ∀ q, q < L.length → g (L.getD q z) = true) : L.filter g = L := by
  rw [List.filter_eq_self]
  intro x hx
  obtain ⟨q, hq, rfl⟩ := List.getElem_of_mem hx
  have := h q hq
  rwa [getD_get z hq] at this
theorem drop_getD {α : Type} (z : α) (L : List α) (p q : Nat) : (L.drop p).getD q z = L.getD (p + q) z := by
  rw [List.getD_eq_getElem?_getD, List.getD_eq_getElem?_getD, List.getElem?_drop]
theorem put_all (L : List S37) (c : S37) (hl : L.length ≤ 1048576) (hb : ∀ x ∈ L, bCr x) (hc : bCr c) : ∃ r, Ev (fun k => spec_CrossPut.f k L c.f0 c.f1 c.f2) r ∧ Ev (fun k => impl_CrossPut.f k L c.f0 c.f1 c.f2) r ∧ r.length ≤ L.length + 1 ∧ (∀ x ∈ r, bCr x) ∧ (Ev (fun k => spec_CrossRight.f k L) true → r.length ≤ 200 ∧ Ev (fun k => spec_CrossRight.f k r) true) := by
  unfold spec_CrossPut.f impl_CrossPut.f impl_Cross_64.f impl_Cross_65.f
  by_cases h : (L.length : Int) > 400
  · exact ⟨[], Ev.pos h (Ev.now _), Ev.bindc rfl (Ev.pos (decide_eq_true h) (Ev.now _)), by simp, fun x hx => by simp at hx, fun a => by obtain ⟨v, v1, _, v3⟩ := crossRight_sorted L hl hb; have e := Ev.unique v1 a; have := (v3 e).1; omega⟩
  obtain ⟨v, h1, h2, h3⟩ := crossRight_sorted L hl hb
  have hlen : L.length < 2932031007402 := by omega
  cases v with
  | false =>
    refine ⟨L, Ev.neg h (Ev.bindc rfl (Ev.pos (by simp; omega) (Ev.bindc rfl (Ev.bind h1 (Ev.neg (by simp) (Ev.ret (by simp))))))), Ev.bindc rfl (Ev.neg (by simp only [decide_eq_true_eq]; exact h) (Ev.bindc (if_pos hlen) (Ev.bind h2 (Ev.neg (by simp) (Ev.now _))))), by omega, hb, fun a => by have := Ev.unique h1 a; cases this⟩
  | true =>
    obtain ⟨h4, h5⟩ := h3 rfl
    obtain ⟨u, g1, g2, g3⟩ := crossRight_sorted (putL L c) (by have := put_len L c; omega) (fun x hx => (put_mem hx).elim (fun e => e ▸ hc) (hb x))
    have sp := specPut_loop L L c hl u (putL L c) L 0 [] rfl (by omega) (by simp) rfl g1
    obtain ⟨p, b, e, hp1, hp2, hp3, hp4⟩ := search_loop L c hl h5 L.length 0 L.length (by omega) (by omega) (by omega) (fun q hq => by omega) (fun q a b => by omega)
    obtain ⟨tw, dw⟩ := split_at z37 (fun x => befB x c) L p hp1 hp2 hp3
    have last : ∀ M : List S37, M = putL L c → Ev (fun k => impl_CrossPut.j0 k L M) (if u = true then putL L c else L) := fun M hM => by
      subst hM
      refine Ev.step (fun k => impl_CrossPut.j0.eq_2 ..) (Ev.bind g2 (Ev.ite (fun g => Ev.ret (by rw [if_pos g])) (fun g => ?_)))
      unfold impl_Cross_65.f
      exact Ev.bindc (if_pos hlen) (Ev.ret (by rw [if_neg g]))
    have far : ∀ q, p < q → q < L.length → keyB (L.getD q z37) c = false := fun q hq hql => by
      rw [Bool.eq_false_iff]
      intro g
      have a := rise h5 p q hq hql
      rw [key_bef g, hp3 (by omega)] at a
      cases a
    refine ⟨if u = true then putL L c else L, Ev.neg h (Ev.bindc rfl (Ev.pos (by simp; omega) (Ev.bindc rfl (Ev.bind h1 (Ev.pos rfl ?_))))), Ev.bindc rfl (Ev.neg (by simp only [decide_eq_true_eq]; exact h) (Ev.bindc (if_pos hlen) (Ev.bind h2 (Ev.pos rfl (Ev.bind (show Ev (fun k => impl_Cross_69__impl_crossOrder.f k L c.f0 c.f1 c.f2) ((p : Int), b) from e) ?_))))), ?_, ?_, ?_⟩
    · exact sp
    · refine Ev.ite (fun g => ?_) (fun g => ?_)
      · rw [hp4, Bool.and_eq_true, decide_eq_true_eq] at g
        refine Ev.pos (by show (0 : Int) ≤ (p : Int); omega) (Ev.pos (by show (p : Int) < _; omega) (last _ ?_))
        unfold putL
        rw [tw, dw, List.drop_eq_getElem_cons g.1, ← getD_get z37 g.1, List.filter_cons_of_neg (by rw [g.2]; simp), filter_all _ z37 _ (fun q hq => by
          rw [drop_getD, far (p + 1 + q) (by omega) (by rw [List.length_drop] at hq; omega)]; rfl)]
        show L.set p c = _
        exact List.set_eq_take_append_cons_drop.trans (if_pos g.1)
      · have hf : ∀ q, p ≤ q → q < L.length → keyB (L.getD q z37) c = false := fun q hq hql => by
          by_cases e : p = q
          · subst e
            rw [Bool.eq_false_iff]
            intro a
            exact g (by rw [hp4, decide_eq_true hql, a]; rfl)
          · exact far q (by omega) hql
        unfold impl_Cross_70.f
        refine Ev.bindc ((if_pos (by show (0 : Int) ≤ (p : Int); omega)).trans ((if_pos (by show (p : Int) ≤ _; omega)).trans ((if_pos (by simp)).trans (if_pos (by simp; omega))))) (last _ ?_)
        unfold putL
        rw [tw, dw, filter_all _ z37 _ (fun q hq => by
          rw [drop_getD, hf (p + q) (by omega) (by rw [List.length_drop] at hq; omega)]; rfl)]
        show L.take p ++ [c] ++ L.drop p = _
        simp
    · have := put_len L c
      split <;> omega
    · intro x hx
      revert hx
      split
      · intro hx
        rcases put_mem hx with rfl | hx
        · exact hc
        · exact hb x hx
      · exact hb x
    · intro _
      by_cases hu : u = true
      · rw [if_pos hu]
        subst hu
        exact ⟨(g3 rfl).1, g1⟩
      · rw [if_neg hu]
        exact ⟨h4, h1⟩
theorem put_both (L : List S37) (c : S37) (hl : L.length ≤ 1048576) (hb : ∀ x ∈ L, bCr x) (hc : bCr c) : ∃ r, Ev (fun k => spec_CrossPut.f k L c.f0 c.f1 c.f2) r ∧ Ev (fun k => impl_CrossPut.f k L c.f0 c.f1 c.f2) r ∧ r.length ≤ L.length + 1 ∧ (∀ x ∈ r, bCr x) := by
  obtain ⟨r, a, b, d, e, _⟩ := put_all L c hl hb hc
  exact ⟨r, a, b, d, e⟩
theorem put_right (L : List S37) (c : S37) (hl : L.length ≤ 1048576) (hb : ∀ x ∈ L, bCr x) (hc : bCr c) (hr : Ev (fun k => spec_CrossRight.f k L) true) : ∃ r, Ev (fun k => spec_CrossPut.f k L c.f0 c.f1 c.f2) r ∧ Ev (fun k => impl_CrossPut.f k L c.f0 c.f1 c.f2) r ∧ r.length ≤ 200 ∧ (∀ x ∈ r, bCr x) ∧ Ev (fun k => spec_CrossRight.f k r) true := by
  obtain ⟨r, a, b, d, e, f⟩ := put_all L c hl hb hc
  exact ⟨r, a, b, (f hr).1, e, (f hr).2⟩

theorem dropkey_eq (x c : S37) : impl_CrossDrop_1.f x.f0 x.f1 x.f2 c.f0 c.f1 = some (keyB x c) := by
  unfold impl_CrossDrop_1.f keyB
  by_cases h : x.f0.toList = c.f0.toList
  · simp only [h, if_true, decide_true, Bool.true_and]
    congr 1
    rw [Bool.eq_iff_iff]
    simp
  · simp [h]
theorem dropIdx_loop (L : List S37) (c : S37) (hL : L.length ≤ 1048576) : ∀ (r : List S37) (i : Nat), L.drop i = r → (Ev (fun k => impl_Cross_109__impl_CrossDrop_1.l0 k L (L.length : Int) (i : Int) c.f0 c.f1) (-1) ∧ (∀ s ∈ r, keyB s c = false)) ∨ ∃ j : Nat, i ≤ j ∧ j < L.length ∧ Ev (fun k => impl_Cross_109__impl_CrossDrop_1.l0 k L (L.length : Int) (i : Int) c.f0 c.f1) (j : Int) ∧ keyB (rd_T37 L (j : Int)) c = true ∧ (∀ s ∈ r.take (j - i), keyB s c = false) := by
  intro r
  induction r with
  | nil =>
    intro i h
    have h0 := ldrop_nil h
    exact .inl ⟨Ev.step (fun k => impl_Cross_109__impl_CrossDrop_1.l0.eq_2 ..) (Ev.neg (by omega) (Ev.now _)), fun s hs => by simp at hs⟩
  | cons s r ih =>
    intro i h
    obtain ⟨h1, h2, h3⟩ := ldrop_cons z37 h
    have hr : rd_T37 L (i : Int) = s := h2
    have hw := wi_ (i := i) (by omega)
    by_cases g : keyB s c = true
    · refine .inr ⟨i, by omega, by omega, Ev.step (fun k => impl_Cross_109__impl_CrossDrop_1.l0.eq_2 ..) (Ev.pos h1 (Ev.pos (by omega) (Ev.pos h1 ?_))), by rw [hr]; exact g, fun x hx => by simp at hx⟩
      rw [hr]
      exact Ev.bindc (dropkey_eq s c) (Ev.pos g (Ev.now _))
    · have g' : keyB s c = false := by simpa using g
      have hstep : ∀ x, Ev (fun k => impl_Cross_109__impl_CrossDrop_1.l0 k L (L.length : Int) ((i + 1 : Nat) : Int) c.f0 c.f1) x → Ev (fun k => impl_Cross_109__impl_CrossDrop_1.l0 k L (L.length : Int) (i : Int) c.f0 c.f1) x := fun x hx => by
        refine Ev.step (fun k => impl_Cross_109__impl_CrossDrop_1.l0.eq_2 ..) (Ev.pos h1 (Ev.pos (by omega) (Ev.pos h1 ?_)))
        rw [hr, hw]
        exact Ev.bindc (dropkey_eq s c) (Ev.neg g hx)
      rcases ih (i + 1) h3 with ⟨e1, e2⟩ | ⟨j, j1, j2, j3, j4, j5⟩
      · exact .inl ⟨hstep _ e1, fun x hx => (List.mem_cons.1 hx).elim (fun e => by rw [e]; exact g') (fun hx => e2 x hx)⟩
      · refine .inr ⟨j, by omega, j2, hstep _ j3, j4, fun x hx => ?_⟩
        rw [show j - i = (j - (i + 1)) + 1 by omega, List.take_succ_cons] at hx
        rcases List.mem_cons.1 hx with rfl | hx
        · exact g'
        · exact j5 x hx
theorem dropFunc_ev (L : List S37) (c : S37) (hL : L.length ≤ 1048576) : Ev (fun k => impl_Cross_66__impl_CrossDrop_1.f k L c.f0 c.f1) (L.filter (fun x => !keyB x c)) := by
  unfold impl_Cross_66__impl_CrossDrop_1.f
  have hf : (fun x : S37 => !((impl_CrossDrop_1.f x.f0 x.f1 x.f2 c.f0 c.f1).getD false)) = (fun x => !keyB x c) := by
    funext x
    rw [dropkey_eq]; rfl
  rw [hf]
  rcases dropIdx_loop L c hL L 0 rfl with ⟨e1, e2⟩ | ⟨j, j1, j2, j3, j4, j5⟩
  · refine Ev.bind e1 (Ev.pos rfl (Ev.ret ?_))
    symm
    rw [List.filter_eq_self]
    intro s hs
    rw [e2 s hs]; rfl
  · refine Ev.bind j3 (Ev.neg (by omega) (Ev.pos (by omega) (Ev.pos (by omega) (Ev.ret ?_))))
    rw [Int.toNat_natCast]
    have hj : rd_T37 L (j : Int) = L[j] := by
      unfold rd_T37
      rw [Int.toNat_natCast, List.getD_eq_getElem?_getD, List.getElem?_eq_getElem j2]
      rfl
    rw [hj] at j4
    rw [Nat.sub_zero] at j5
    conv => rhs; rw [← List.take_append_drop j L, List.filter_append, List.drop_eq_getElem_cons j2, List.filter_cons_of_neg (by simp [j4])]
    congr 1
    symm
    rw [List.filter_eq_self]
    intro s hs
    rw [j5 s hs]; rfl
theorem drop_right (L : List S37) (c : S37) (hL : L.length ≤ 200) (hr : Ev (fun k => impl_CrossRight.f k L) true) (h0 : (c.f0.size : Int) ≤ 20000) (h1 : (c.f1.size : Int) ≤ 20000) : Ev (fun k => impl_CrossDrop.f k L c.f0 c.f1) (L.filter (fun x => !keyB x c)) := by
  have hlt : Ev (fun k => impl_longText.f k [c.f0, c.f1]) false := (longText_any [c.f0, c.f1] (by simp)).to (by simp; omega)
  have hc : impl_Cross_65.f L = some L := by unfold impl_Cross_65.f; exact if_pos (by omega)
  unfold impl_CrossDrop.f impl_Cross_64.f
  exact Ev.bindc rfl (Ev.neg (by simp; omega) (Ev.bind hlt (Ev.step (fun k => impl_CrossDrop.j0.eq_2 ..) (Ev.neg (by simp) (Ev.bindc hc (Ev.bind hr (Ev.pos rfl (Ev.bind (dropFunc_ev L c (by omega)) (Ev.now _)))))))))

/-! what the draws give -/
theorem u64_id {x : Int} (h0 : 0 ≤ x) (h1 : x < 18446744073709551616) : IntKind.u64.wrap x = x := by
  unfold IntKind.wrap
  simp [IntKind.bits, IntKind.signed]
  omega
theorem u64_ge (x : Int) : 0 ≤ IntKind.u64.wrap x := by
  unfold IntKind.wrap
  simp [IntKind.bits, IntKind.signed]
  omega
theorem u64_mod (x : Int) {m : Int} (h0 : 2 ≤ m) (h1 : m ≤ 9223372036854775807) : 0 ≤ wrap64 (Int.tmod (IntKind.u64.wrap x) (IntKind.u64.wrap m)) ∧ wrap64 (Int.tmod (IntKind.u64.wrap x) (IntKind.u64.wrap m)) < m := by
  rw [u64_id (x := m) (by omega) (by omega)]
  have h := u64_ge x
  generalize IntKind.u64.wrap x = y at h
  rw [Int.tmod_eq_emod_of_nonneg h]
  have h2 := Int.emod_nonneg y (show m ≠ 0 by omega)
  have h3 := Int.emod_lt_of_pos y (show 0 < m by omega)
  rw [wrap_id (by omega) (by omega)]
  exact ⟨h2, h3⟩
theorem src_n (b : List Int) (p mix size m : Int) (hb : b.length ≤ 1048576) (h0 : 0 ≤ p) (h1 : p ≤ (b.length : Int)) (hm : 2 ≤ m) (hm2 : m ≤ 9223372036854775807) : ∃ r p' mix', spec_l01Src_n.f b p mix size m = some (r, p', mix', size) ∧ 0 ≤ p' ∧ p' ≤ (b.length : Int) ∧ 0 ≤ r ∧ r < m := by
  unfold spec_l01Src_n.f
  have hne : ¬ IntKind.u64.wrap m = 0 := by rw [u64_id (by omega) (by omega)]; omega
  rw [if_neg (by omega)]
  by_cases h : p < (b.length : Int)
  · rw [if_pos h, if_pos h0, if_neg hne]
    have hw : wrap64 (p + 1) = p + 1 := wrap_id (by omega) (by omega)
    rw [hw]
    exact ⟨_, _, _, rfl, by omega, by omega, (u64_mod _ hm hm2).1, (u64_mod _ hm hm2).2⟩
  · rw [if_neg h, if_neg hne]
    exact ⟨_, _, _, rfl, by omega, by omega, (u64_mod _ hm hm2).1, (u64_mod _ hm hm2).2⟩
theorem src_one (b : List Int) (p mix size m : Int) (hb : b.length ≤ 1048576) (h0 : 0 ≤ p) (h1 : p ≤ (b.length : Int)) (hm : 2 ≤ m) (hm2 : m ≤ 9223372036854775807) : ∃ r p' mix', spec_l01Src_one.f b p mix size m = some (r, p', mix', size) ∧ 0 ≤ p' ∧ p' ≤ (b.length : Int) := by
  obtain ⟨r, p', mix', h, h2, h3, _, _⟩ := src_n b p mix size m hb h0 h1 hm hm2
  unfold spec_l01Src_one.f
  rw [h]
  exact ⟨_, _, _, rfl, h2, h3⟩
theorem source_loop (L : List Int) (hl : L.length ≤ 1048576) : ∀ (d i : Nat) (mix : Int), 64 - i = d → i ≤ 64 → ∃ mix' size', Ev (fun k => spec_l01Source.l0 k L (i : Int) L 0 mix 0) (L, 0, mix', size')
  | 0, i, mix, hd, hi => by
    by_cases h : (i : Int) < (L.length : Int)
    · by_cases g : wrap64 ((L.length : Int) / 20) > 12
      · exact ⟨_, _, Ev.step (fun k => spec_l01Source.l0.eq_2 ..) (Ev.pos h (Ev.neg (by omega) (Ev.pos g (Ev.now _))))⟩
      · exact ⟨_, _, Ev.step (fun k => spec_l01Source.l0.eq_2 ..) (Ev.pos h (Ev.neg (by omega) (Ev.neg g (Ev.now _))))⟩
    · by_cases g : wrap64 ((L.length : Int) / 20) > 12
      · exact ⟨_, _, Ev.step (fun k => spec_l01Source.l0.eq_2 ..) (Ev.neg h (Ev.pos g (Ev.now _)))⟩
      · exact ⟨_, _, Ev.step (fun k => spec_l01Source.l0.eq_2 ..) (Ev.neg h (Ev.neg g (Ev.now _)))⟩
  | d + 1, i, mix, hd, hi => by
    by_cases h : (i : Int) < (L.length : Int)
    · have hw : wrap64 ((i : Int) + 1) = ((i + 1 : Nat) : Int) := by rw [wrap_id (by omega) (by omega)]; omega
      obtain ⟨m', s', e⟩ := source_loop L hl d (i + 1) (IntKind.u64.wrap ((Go.bits .xor .u64 mix (IntKind.u64.wrap (rd L (i : Int)))) * 1099511628211)) (by omega) (by omega)
      rw [← hw] at e
      exact ⟨m', s', Ev.step (fun k => spec_l01Source.l0.eq_2 ..) (Ev.pos h (Ev.pos (by omega) (Ev.pos (by omega) e)))⟩
    · by_cases g : wrap64 ((L.length : Int) / 20) > 12
      · exact ⟨_, _, Ev.step (fun k => spec_l01Source.l0.eq_2 ..) (Ev.neg h (Ev.pos g (Ev.now _)))⟩
      · exact ⟨_, _, Ev.step (fun k => spec_l01Source.l0.eq_2 ..) (Ev.neg h (Ev.neg g (Ev.now _)))⟩
theorem source_ev (L : List Int) (hl : L.length ≤ 1048576) : ∃ mix size, Ev (fun k => spec_l01Source.f k L) (L, 0, mix, size) :=
  source_loop L hl 64 0 _ rfl (by omega)

theorem src_pick (b : List Int) (p mix size : Int) (l : List ByteArray) (hb : b.length ≤ 1048576) (h0 : 0 ≤ p) (h1 : p ≤ (b.length : Int)) (hm : 2 ≤ l.length) (hm2 : l.length ≤ 1000) : ∃ s p' mix', spec_l01Src_pick.f b p mix size l = some (s, p', mix', size) ∧ 0 ≤ p' ∧ p' ≤ (b.length : Int) ∧ s ∈ l := by
  obtain ⟨r, p', mix', e, a, c, r0, r1⟩ := src_n b p mix size (l.length : Int) hb h0 h1 (by omega) (by omega)
  unfold spec_l01Src_pick.f
  rw [e]
  refine ⟨_, p', mix', (if_pos r0).trans (if_pos r1), a, c, ?_⟩
  unfold rdOf
  exact getD_mem _ (by omega)

/-! a right list: its pairs; what is found in it -/
theorem name_size {s : ByteArray} (h : nameP (bytesOf s) = true) : (s.size : Int) ≤ 1000 := by
  have e := length_bytesOf s
  cases hb : bytesOf s with
  | nil => rw [hb] at e; simp at e; omega
  | cons c r =>
    rw [hb] at h e
    simp only [nameP, Bool.and_eq_true, decide_eq_true_eq] at h
    simp only [List.length_cons] at e h
    omega
theorem good_iff (L : List S37) : (∀ j : Nat, j < L.length → goodC L j) ↔ (∀ x ∈ L, nameP (bytesOf x.f0) = true ∧ nameP (bytesOf x.f1) = true ∧ nameP (bytesOf x.f2) = true) ∧ L.Pairwise (fun x y => befB x y = true) ∧ L.Pairwise (fun x y => pairB y x = false) := by
  constructor
  · intro h
    have hs : Rising L := fun j h0 hj => (h j hj).2.2.2.1 (by omega)
    refine ⟨fun x hx => ?_, ?_, ?_⟩
    · obtain ⟨j, hj, rfl⟩ := List.getElem_of_mem hx
      have g := h j hj
      unfold goodC at g
      rw [getD_get z37 hj] at g
      exact ⟨g.1, g.2.1, g.2.2.1⟩
    · rw [List.pairwise_iff_getElem]
      intro i j hi hj hij
      have e := rise hs i j hij hj
      rwa [getD_get z37 hi, getD_get z37 hj] at e
    · rw [List.pairwise_iff_getElem]
      intro i j hi hj hij
      have g := (h j hj).2.2.2.2
      rw [getD_get z37 hj, List.any_eq_false] at g
      have := g L[i] (by
        have hm : (L.take j)[i]? = some L[i] := by rw [List.getElem?_take, if_pos hij, List.getElem?_eq_getElem hi]
        exact List.mem_of_getElem? hm)
      simpa using this
  · rintro ⟨h1, h2, h3⟩ j hj
    unfold goodC
    rw [getD_get z37 hj]
    rw [List.pairwise_iff_getElem] at h2 h3
    obtain ⟨a, b, c⟩ := h1 L[j] (List.getElem_mem hj)
    refine ⟨a, b, c, fun h0 => ?_, ?_⟩
    · rw [getD_get z37 (by omega)]
      exact h2 (j - 1) j (by omega) hj (by omega)
    · rw [List.any_eq_false]
      intro x hx
      obtain ⟨i, hi, rfl⟩ := List.getElem_of_mem hx
      rw [List.length_take] at hi
      rw [List.getElem_take, h3 i j (by omega) hj (by omega)]
      simp
theorem own_loop (L : List S37) (a b r : ByteArray) (hl : L.length ≤ 1048576) (n : Nat) (hn : n ≤ L.length) (hb : ∀ q, q < n → ¬ ((L.getD q z37).f0.toList = a.toList ∧ (L.getD q z37).f1.toList = b.toList)) (hr : (n < L.length ∧ (L.getD n z37).f0.toList = a.toList ∧ (L.getD n z37).f1.toList = b.toList ∧ r = (L.getD n z37).f2) ∨ (n = L.length ∧ r = b)) : ∀ (d i : Nat), n - i = d → i ≤ n → Ev (fun k => impl_ownOf.l0 k a b L (L.length : Int) (i : Int)) r := by
  intro d
  induction d with
  | zero =>
    intro i hd hi
    have : i = n := by omega
    subst this
    rcases hr with ⟨h1, h2, h3, h4⟩ | ⟨h1, h4⟩
    · subst h4
      exact Ev.step (fun k => impl_ownOf.l0.eq_2 ..) (Ev.pos (by omega) (Ev.pos (by omega) (Ev.pos (by omega) (Ev.pos h2 (Ev.pos h3 (Ev.now _))))))
    · subst h4
      exact Ev.step (fun k => impl_ownOf.l0.eq_2 ..) (Ev.neg (by omega) (Ev.now _))
  | succ d ih =>
    intro i hd hi
    have e := ih (i + 1) (by omega) (by omega)
    rw [← wi_ (by omega)] at e
    have g := hb i (by omega)
    refine Ev.step (fun k => impl_ownOf.l0.eq_2 ..) (Ev.pos (by omega) (Ev.pos (by omega) (Ev.pos (by omega) (Ev.ite (fun g1 => Ev.ite (fun g2 => absurd ⟨g1, g2⟩ g) (fun g2 => e)) (fun g1 => e)))))
theorem theirs_loop (L : List S37) (a b r : ByteArray) (hl : L.length ≤ 1048576) (n : Nat) (hb : ∀ q, q < n → ¬ ((L.getD q z37).f0.toList = a.toList ∧ (L.getD q z37).f2.toList = b.toList)) (hr : n < L.length ∧ (L.getD n z37).f0.toList = a.toList ∧ (L.getD n z37).f2.toList = b.toList ∧ r = (L.getD n z37).f1) : ∀ (d i : Nat), n - i = d → i ≤ n → Ev (fun k => impl_theirsOf.l0 k a b L (L.length : Int) (i : Int)) r := by
  intro d
  induction d with
  | zero =>
    intro i hd hi
    have : i = n := by omega
    subst this
    obtain ⟨h1, h2, h3, h4⟩ := hr
    subst h4
    exact Ev.step (fun k => impl_theirsOf.l0.eq_2 ..) (Ev.pos (by omega) (Ev.pos (by omega) (Ev.pos (by omega) (Ev.pos h2 (Ev.pos h3 (Ev.now _))))))
  | succ d ih =>
    intro i hd hi
    have e := ih (i + 1) (by omega) (by omega)
    rw [← wi_ (by omega)] at e
    have g := hb i (by omega)
    refine Ev.step (fun k => impl_theirsOf.l0.eq_2 ..) (Ev.pos (by omega) (Ev.pos (by omega) (Ev.pos (by omega) (Ev.ite (fun g1 => Ev.ite (fun g2 => absurd ⟨g1, g2⟩ g) (fun g2 => e)) (fun g1 => e)))))
theorem long_no (a b : ByteArray) (h0 : (a.size : Int) ≤ 20000) (h1 : (b.size : Int) ≤ 20000) : Ev (fun k => impl_longText.f k [a, b]) false := (longText_any [a, b] (by simp)).to (by simp; omega)
theorem own_found (L : List S37) (hl : L.length ≤ 1048576) (hr : Ev (fun k => impl_CrossRight.f k L) true) (hg : ∀ j : Nat, j < L.length → goodC L j) (i : Nat) (hi : i < L.length) : Ev (fun k => impl_CrossOwn.f k L (L.getD i z37).f0 (L.getD i z37).f1) (L.getD i z37).f2 := by
  have g := hg i hi
  have hs : Rising L := fun j h0 hj => (hg j hj).2.2.2.1 (by omega)
  have s0 := name_size g.1
  have s1 := name_size g.2.1
  have hlt := long_no (L.getD i z37).f0 (L.getD i z37).f1 (by omega) (by omega)
  unfold impl_CrossOwn.f
  refine Ev.bind hlt (Ev.neg (by simp) (Ev.bind hr (Ev.pos rfl (Ev.bind (show Ev (fun k => impl_ownOf.f k L (L.getD i z37).f0 (L.getD i z37).f1) (L.getD i z37).f2 from ?_) (Ev.now _)))))
  refine own_loop L _ _ _ hl i (by omega) (fun q hq a => ?_) (.inl ⟨hi, rfl, rfl, rfl⟩) i 0 (by omega) (by omega)
  have e := bef_nokey (rise hs q i hq hi)
  rw [(keyB_iff _ _).2 a] at e
  cases e
theorem theirs_found (L : List S37) (hl : L.length ≤ 1048576) (hr : Ev (fun k => impl_CrossRight.f k L) true) (hg : ∀ j : Nat, j < L.length → goodC L j) (i : Nat) (hi : i < L.length) : Ev (fun k => impl_CrossTheirs.f k L (L.getD i z37).f0 (L.getD i z37).f2) (L.getD i z37).f1 := by
  have g := hg i hi
  have s0 := name_size g.1
  have s1 := name_size g.2.2.1
  have hlt := long_no (L.getD i z37).f0 (L.getD i z37).f2 (by omega) (by omega)
  unfold impl_CrossTheirs.f
  refine Ev.bind hlt (Ev.neg (by simp) (Ev.bind hr (Ev.pos rfl (Ev.bind (show Ev (fun k => impl_theirsOf.f k L (L.getD i z37).f0 (L.getD i z37).f2) (L.getD i z37).f1 from ?_) (Ev.now _)))))
  refine theirs_loop L _ _ _ hl i (fun q hq a => ?_) ⟨hi, rfl, rfl, rfl⟩ i 0 (by omega) (by omega)
  have e := ((good_iff L).1 hg).2.2
  rw [List.pairwise_iff_getElem] at e
  have e2 := e q i (by omega) hi hq
  rw [getD_get z37 hi, getD_get z37 (by omega : q < L.length)] at a
  unfold pairB at e2
  rw [decide_eq_true a.1, decide_eq_true a.2] at e2
  cases e2
theorem filter_right (L : List S37) (p : S37 → Bool) (hg : ∀ j : Nat, j < L.length → goodC L j) : ∀ j : Nat, j < (L.filter p).length → goodC (L.filter p) j := by
  rw [good_iff] at hg ⊢
  exact ⟨fun x hx => hg.1 x (List.mem_filter.1 hx).1, List.Pairwise.filter _ hg.2.1, List.Pairwise.filter _ hg.2.2⟩
theorem own_gone (L : List S37) (c : S37) (hl : L.length ≤ 1048576) (hr : Ev (fun k => impl_CrossRight.f k L) true) (h0 : (c.f0.size : Int) ≤ 20000) (h1 : (c.f1.size : Int) ≤ 20000) (hn : ∀ x ∈ L, keyB x c = false) : Ev (fun k => impl_CrossOwn.f k L c.f0 c.f1) c.f1 := by
  have hlt : Ev (fun k => impl_longText.f k [c.f0, c.f1]) false := (longText_any [c.f0, c.f1] (by simp)).to (by simp; omega)
  unfold impl_CrossOwn.f
  refine Ev.bind hlt (Ev.neg (by simp) (Ev.bind hr (Ev.pos rfl (Ev.bind (show Ev (fun k => impl_ownOf.f k L c.f0 c.f1) c.f1 from ?_) (Ev.now _)))))
  refine own_loop L _ _ _ hl L.length (by omega) (fun q hq a => ?_) (.inr ⟨rfl, rfl⟩) L.length 0 (by omega) (by omega)
  have e := hn (L.getD q z37) (getD_mem _ hq)
  rw [(keyB_iff _ _).2 a] at e
  cases e

theorem dec_loop : ∀ (d : Nat) (x : Int) (acc : ByteArray), 0 ≤ x → x.toNat ≤ d → x ≤ 1000000 → (acc.size : Int) + x ≤ 2000000 → ∃ t, Ev (fun k => spec_l01Dec.l0 k x false acc) t ∧ (t.size : Int) ≤ acc.size + x := by
  intro d
  induction d with
  | zero =>
    intro x acc h0 hd h1 h2
    have : x = 0 := by omega
    subst this
    exact ⟨acc, Ev.step (fun k => spec_l01Dec.l0.eq_2 ..) (Ev.pos rfl (Ev.neg (by simp) (Ev.now _))), by omega⟩
  | succ d ih =>
    intro x acc h0 hd h1 h2
    by_cases hx : x = 0
    · subst hx
      exact ⟨acc, Ev.step (fun k => spec_l01Dec.l0.eq_2 ..) (Ev.pos rfl (Ev.neg (by simp) (Ev.now _))), by omega⟩
    · have e : Int.tdiv x 10 = x / 10 := Int.tdiv_eq_ediv_of_nonneg h0
      have e2 : Int.tmod x 10 = x % 10 := Int.tmod_eq_emod_of_nonneg h0
      have hw : wrap64 (Int.tdiv x 10) = x / 10 := by rw [e, wrap_id (by omega) (by omega)]
      have hs : (strOfNums [(wrap64 (48 + Int.tmod x 10)) % 256] ++ acc).size = acc.size + 1 := by rw [size_append, size_strOf]; simp; omega
      obtain ⟨t, ht, hts⟩ := ih (x / 10) (strOfNums [(wrap64 (48 + Int.tmod x 10)) % 256] ++ acc) (by omega) (by omega) (by omega) (by omega)
      refine ⟨t, Ev.step (fun k => spec_l01Dec.l0.eq_2 ..) (Ev.neg hx (Ev.neg (by omega) (Ev.bindc rfl (Ev.pos (by rw [size_strOf]; simp; omega) ?_)))), by omega⟩
      rw [hw]
      exact ht
theorem dec_ev (x : Int) (h0 : 0 ≤ x) (h1 : x ≤ 1000000) : ∃ t, Ev (fun k => spec_l01Dec.f k x) t ∧ (t.size : Int) ≤ 1 + x := by
  unfold spec_l01Dec.f
  by_cases hx : x = 0
  · exact ⟨_, Ev.pos hx (Ev.now _), by simp [ByteArray.size]; omega⟩
  · obtain ⟨t, ht, hs⟩ := dec_loop x.toNat x ⟨#[]⟩ h0 (by omega) h1 (by simp [ByteArray.size]; omega)
    refine ⟨t, Ev.neg hx ?_, by have : (⟨#[]⟩ : ByteArray).size = 0 := rfl; omega⟩
    rw [decide_eq_false (by omega)]
    exact ht
theorem pick_sz (b : List Int) (p mix size : Int) (l : List ByteArray) (hb : b.length ≤ 1048576) (h0 : 0 ≤ p) (h1 : p ≤ (b.length : Int)) (hm : 2 ≤ l.length) (hm2 : l.length ≤ 1000) (hs : ∀ s ∈ l, s.size ≤ 1000) : ∃ s p' mix', spec_l01Src_pick.f b p mix size l = some (s, p', mix', size) ∧ 0 ≤ p' ∧ p' ≤ (b.length : Int) ∧ s.size ≤ 1000 := by
  obtain ⟨s, p', m', e, a, c, hm⟩ := src_pick b p mix size l hb h0 h1 hm hm2
  exact ⟨s, p', m', e, a, c, hs s hm⟩
theorem cross_draw (b : List Int) (p mix size : Int) (hb : b.length ≤ 1048576) (h0 : 0 ≤ p) (h1 : p ≤ (b.length : Int)) : ∃ (x y z : ByteArray) (p' m' : Int), spec_l01Src_l08Cross.f b p mix size = some (x, y, z, p', m', size) ∧ 0 ≤ p' ∧ p' ≤ (b.length : Int) ∧ x.size ≤ 1000 ∧ y.size ≤ 1000 ∧ z.size ≤ 1000 := by
  obtain ⟨x, p1, m1, e1, a1, b1, s1⟩ := pick_sz b p mix size [(⟨#[65, 67, 77, 69]⟩ : ByteArray), (⟨#[66, 79, 76, 84]⟩ : ByteArray), (⟨#[67, 45, 49]⟩ : ByteArray)] hb h0 h1 (by simp) (by simp) (by decide)
  obtain ⟨y, p2, m2, e2, a2, b2, s2⟩ := pick_sz b p1 m1 size [(⟨#[66, 79, 76, 84]⟩ : ByteArray), (⟨#[78, 85, 84]⟩ : ByteArray), (⟨#[71, 69, 65, 82]⟩ : ByteArray), (⟨#[67, 65, 77]⟩ : ByteArray), (⟨#[88, 49]⟩ : ByteArray)] hb a1 b1 (by simp) (by simp) (by decide)
  obtain ⟨z, p3, m3, e3, a3, b3, s3⟩ := pick_sz b p2 m2 size [(⟨#[66, 79, 76, 84]⟩ : ByteArray), (⟨#[78, 85, 84]⟩ : ByteArray), (⟨#[71, 69, 65, 82]⟩ : ByteArray), (⟨#[66, 45, 49, 48]⟩ : ByteArray), (⟨#[66, 45, 50, 48]⟩ : ByteArray)] hb a2 b2 (by simp) (by simp) (by decide)
  refine ⟨x, y, z, p3, m3, ?_, a3, b3, s1, s2, s3⟩
  unfold spec_l01Src_l08Cross.f
  simp only [e1, e2, e3, Option.bind_some]
theorem bCr_small {x y z : ByteArray} (h0 : x.size ≤ 1000) (h1 : y.size ≤ 1000) (h2 : z.size ≤ 1000) : bCr (⟨x, y, z⟩ : S37) := ⟨by show x.size ≤ _; omega, by show y.size ≤ _; omega, by show z.size ≤ _; omega⟩
theorem bCr_app {L : List S37} {e : S37} (h : ∀ x ∈ L, bCr x) (he : bCr e) : ∀ x ∈ L ++ [e], bCr x := by
  intro x hx
  rcases List.mem_append.1 hx with hx | hx
  · exact h x hx
  · rw [List.mem_singleton] at hx; rw [hx]; exact he
theorem crosses_l1 (b : List Int) (size : Int) (hb : b.length ≤ 1048576) : ∀ (d i : Nat) (p mix : Int) (L : List S37), 201 - i = d → i ≤ 201 → L.length = i → (∀ x ∈ L, bCr x) → 0 ≤ p → p ≤ (b.length : Int) → ∃ (R : List S37) (p' m' : Int), Ev (fun k => spec_l01Src_l08Crosses.l1 k L (i : Int) b p mix size) (R, p', m', size) ∧ R.length ≤ 1000 ∧ (∀ x ∈ R, bCr x) ∧ 0 ≤ p' ∧ p' ≤ (b.length : Int) := by
  intro d
  induction d with
  | zero =>
    intro i p mix L hd hi hL hx h0 h1
    obtain ⟨r, p1, m1, e1, a1, b1, c1, d1⟩ := src_n b p mix size 3 hb h0 h1 (by omega) (by omega)
    have w : wrap64 (199 + r) = 199 + r := wrap_id (by omega) (by omega)
    refine ⟨L, p1, m1, Ev.step (fun k => spec_l01Src_l08Crosses.l1.eq_2 ..) (Ev.bindc e1 ?_), by omega, hx, a1, b1⟩
    rw [w]
    exact Ev.neg (by omega) (Ev.now _)
  | succ d ih =>
    intro i p mix L hd hi hL hx h0 h1
    obtain ⟨r, p1, m1, e1, a1, b1, c1, d1⟩ := src_n b p mix size 3 hb h0 h1 (by omega) (by omega)
    have w : wrap64 (199 + r) = 199 + r := wrap_id (by omega) (by omega)
    by_cases g : (L.length : Int) < 199 + r
    · have w2 : wrap64 (1000 + (i : Int)) = 1000 + (i : Int) := wrap_id (by omega) (by omega)
      obtain ⟨t, t1, t2⟩ := dec_ev (1000 + (i : Int)) (by omega) (by omega)
      obtain ⟨u, u1, u2⟩ := dec_ev (i : Int) (by omega) (by omega)
      have hn : bCr (⟨(⟨#[65]⟩ : ByteArray), (⟨#[78]⟩ : ByteArray) ++ t, (⟨#[77]⟩ : ByteArray) ++ u⟩ : S37) := ⟨by simp [ByteArray.size], by show ((⟨#[78]⟩ : ByteArray) ++ t).size ≤ _; rw [size_append]; have : (⟨#[78]⟩ : ByteArray).size = 1 := rfl; omega, by show ((⟨#[77]⟩ : ByteArray) ++ u).size ≤ _; rw [size_append]; have : (⟨#[77]⟩ : ByteArray).size = 1 := rfl; omega⟩
      obtain ⟨R, p', m', ev, rest⟩ := ih (i + 1) p1 m1 (L ++ [⟨(⟨#[65]⟩ : ByteArray), (⟨#[78]⟩ : ByteArray) ++ t, (⟨#[77]⟩ : ByteArray) ++ u⟩]) (by omega) (by omega) (by simp; omega) (bCr_app hx hn) a1 b1
      rw [← wi_ (by omega)] at ev
      refine ⟨R, p', m', Ev.step (fun k => spec_l01Src_l08Crosses.l1.eq_2 ..) (Ev.bindc e1 ?_), rest⟩
      rw [w, w2]
      exact Ev.pos g (Ev.bind t1 (Ev.pos (by omega) (Ev.bind u1 (Ev.pos (by omega) (Ev.pos (by omega) ev)))))
    · refine ⟨L, p1, m1, Ev.step (fun k => spec_l01Src_l08Crosses.l1.eq_2 ..) (Ev.bindc e1 ?_), by omega, hx, a1, b1⟩
      rw [w]
      exact Ev.neg g (Ev.now _)
theorem crosses_j1 (b : List Int) (size : Int) (hb : b.length ≤ 1048576) (p mix : Int) (L : List S37) (hL : L.length ≤ 1000) (hx : ∀ x ∈ L, bCr x) (h0 : 0 ≤ p) (h1 : p ≤ (b.length : Int)) : ∃ (R : List S37) (p' m' : Int), Ev (fun k => spec_l01Src_l08Crosses.j1 k L b p mix size) (R, p', m', size) ∧ R.length ≤ 1000 ∧ (∀ x ∈ R, bCr x) ∧ 0 ≤ p' ∧ p' ≤ (b.length : Int) := by
  obtain ⟨r, p1, m1, e1, a1, b1⟩ := src_one b p mix size 40 hb h0 h1 (by omega) (by omega)
  cases r with
  | true =>
    obtain ⟨R, p', m', ev, rest⟩ := crosses_l1 b size hb 201 0 p1 m1 [] rfl (by omega) rfl (fun x hx => by simp at hx) a1 b1
    exact ⟨R, p', m', Ev.step (fun k => spec_l01Src_l08Crosses.j1.eq_2 ..) (Ev.bindc e1 (Ev.pos rfl ev)), rest⟩
  | false => exact ⟨L, p1, m1, Ev.step (fun k => spec_l01Src_l08Crosses.j1.eq_2 ..) (Ev.bindc e1 (Ev.neg (by simp) (Ev.now _))), hL, hx, a1, b1⟩
theorem crosses_l0 (b : List Int) (size : Int) (hb : b.length ≤ 1048576) : ∀ (n : Nat) (p mix : Int) (L : List S37), L.length + n ≤ 10 → (∀ x ∈ L, bCr x) → 0 ≤ p → p ≤ (b.length : Int) → ∃ (R : List S37) (p' m' : Int), Ev (fun k => spec_l01Src_l08Crosses.l0 k L (n : Int) b p mix size) (R, p', m', size) ∧ R.length ≤ 1000 ∧ (∀ x ∈ R, bCr x) ∧ 0 ≤ p' ∧ p' ≤ (b.length : Int)
  | 0, p, mix, L, hL, hx, h0, h1 => by
    obtain ⟨r, p1, m1, e1, a1, b1⟩ := src_one b p mix size 12 hb h0 h1 (by omega) (by omega)
    cases r with
    | true =>
      obtain ⟨x, y, z, p2, m2, e2, a2, b2, s0, s1, s2⟩ := cross_draw b p1 m1 size hb a1 b1
      obtain ⟨R, p', m', ev, rest⟩ := crosses_j1 b size hb p2 m2 (L ++ [⟨x, y, z⟩]) (by simp; omega) (bCr_app hx (bCr_small s0 s1 s2)) a2 b2
      exact ⟨R, p', m', Ev.step (fun k => spec_l01Src_l08Crosses.l0.eq_2 ..) (Ev.neg (by omega) (Ev.bindc e1 (Ev.pos rfl (Ev.bindc rfl (Ev.pos (by simp; omega) (Ev.bindc rfl (Ev.bindc e2 (Ev.pos (by simp; omega) ev)))))))), rest⟩
    | false =>
      obtain ⟨R, p', m', ev, rest⟩ := crosses_j1 b size hb p1 m1 L (by omega) hx a1 b1
      exact ⟨R, p', m', Ev.step (fun k => spec_l01Src_l08Crosses.l0.eq_2 ..) (Ev.neg (by omega) (Ev.bindc e1 (Ev.neg (by simp) ev))), rest⟩
  | n + 1, p, mix, L, hL, hx, h0, h1 => by
    obtain ⟨x, y, z, p2, m2, e2, a2, b2, s0, s1, s2⟩ := cross_draw b p mix size hb h0 h1
    obtain ⟨r, q1, _, q3, q4⟩ := put_both L ⟨x, y, z⟩ (by omega) hx (bCr_small s0 s1 s2)
    obtain ⟨R, p', m', ev, rest⟩ := crosses_l0 b size hb n p2 m2 r (by omega) q4 a2 b2
    have hw : wrap64 (((n + 1 : Nat) : Int) - 1) = (n : Int) := by rw [wrap_id (by omega) (by omega)]; omega
    rw [← hw] at ev
    exact ⟨R, p', m', Ev.step (fun k => spec_l01Src_l08Crosses.l0.eq_2 ..) (Ev.pos (by omega) (Ev.bindc e2 (Ev.bind q1 ev))), rest⟩
theorem draw_put (L : List Int) (hl : L.length ≤ 1048576) : ∃ (X : List S37) (x y z : ByteArray), Ev (fun k => spec_DrawCrossPut.f k L) (X, x, y, z) ∧ X.length ≤ 1000 ∧ (∀ e ∈ X, bCr e) ∧ x.size ≤ 1000 ∧ y.size ≤ 1000 ∧ z.size ≤ 1000 := by
  obtain ⟨mix, size, h⟩ := source_ev L hl
  obtain ⟨r1, p1, m1, e1, a1, b1, c1, d1⟩ := src_n L 0 mix size 6 hl (by omega) (by omega) (by omega) (by omega)
  obtain ⟨X, p2, m2, e2, hX, hx, a2, b2⟩ := crosses_l0 L size hl r1.toNat p1 m1 [] (by simp; omega) (fun x hx => by simp at hx) a1 b1
  rw [show ((r1.toNat : Nat) : Int) = r1 by omega] at e2
  have e2' : Ev (fun k => spec_l01Src_l08Crosses.f k L 0 mix size) (X, p2, m2, size) := by unfold spec_l01Src_l08Crosses.f; exact Ev.bindc e1 e2
  obtain ⟨x, y, z, p3, m3, e3, a3, b3, s0, s1, s2⟩ := cross_draw L p2 m2 size hl a2 b2
  obtain ⟨r4, p4, m4, e4, a4, b4⟩ := src_one L p3 m3 size 12 hl a3 b3 (by omega) (by omega)
  unfold spec_DrawCrossPut.f
  cases r4 with
  | true =>
    obtain ⟨s, p5, m5, e5, a5, b5, s5⟩ := pick_sz L p4 m4 size [(⟨#[]⟩ : ByteArray), (⟨#[97]⟩ : ByteArray)] hl a4 b4 (by simp) (by simp) (by decide)
    exact ⟨X, x, y, s, Ev.bind h (Ev.bind e2' (Ev.bindc e3 (Ev.bindc e4 (Ev.pos rfl (Ev.bindc e5 (Ev.now _)))))), hX, hx, s0, s1, s5⟩
  | false => exact ⟨X, x, y, z, Ev.bind h (Ev.bind e2' (Ev.bindc e3 (Ev.bindc e4 (Ev.neg (by simp) (Ev.now _))))), hX, hx, s0, s1, s2⟩
theorem lwCrosses_refl (L : List S37) (hl : L.length ≤ 1048577) : Ev (fun k => laws_lwCrosses.f k L L) true := by
  have lp : ∀ (d i : Nat), L.length - i = d → Ev (fun k => laws_lwCrosses.l0 k L L (i : Int)) true := by
    intro d
    induction d with
    | zero => intro i h; exact Ev.step (fun k => laws_lwCrosses.l0.eq_2 ..) (Ev.neg (by omega) (Ev.now _))
    | succ d ih =>
      intro i h
      have e := ih (i + 1) (by omega)
      rw [← wi_ (by omega)] at e
      exact Ev.step (fun k => laws_lwCrosses.l0.eq_2 ..) (Ev.pos (by omega) (Ev.pos (by omega) (Ev.pos (by omega) (Ev.neg (by simp) e))))
  unfold laws_lwCrosses.f
  exact Ev.pos rfl (lp L.length 0 (by omega))
theorem cross_end (N : List S37) (c : S37) (hN : N.length ≤ 200) (hb : ∀ x ∈ N, bCr x) (hr : Ev (fun k => spec_CrossRight.f k N) true) (h0 : c.f0.size ≤ 1000) (h1 : c.f1.size ≤ 1000) : ∃ v, Ev (fun k => impl_CrossRight.f k N) v ∧ Ev (fun k => laws_FnCross.j0 k N (!v) c.f0 c.f1 c.f2) true := by
  obtain ⟨v, v1, v2, v3⟩ := crossRight_iff N (by omega) hb
  have hv : v = true := Ev.unique v1 hr
  subst hv
  have hg := (v3.1 rfl).2
  have d2 := drop_right N c hN v2 (by omega) (by omega)
  have d3 := List.length_filter_le (fun x => !keyB x c) N
  obtain ⟨w, w1, w2, w3⟩ := crossRight_iff (N.filter (fun x => !keyB x c)) (by omega) (fun x hx => hb x (List.mem_filter.1 hx).1)
  have hw : w = true := w3.2 ⟨by omega, filter_right N _ hg⟩
  subst hw
  have hgone := own_gone (N.filter (fun x => !keyB x c)) c (by omega) w2 (by omega) (by omega) (fun x hx => by simpa using (List.mem_filter.1 hx).2)
  have last : Ev (fun k => laws_FnCross.l0 k N (N.length : Int) c.f0 c.f1 c.f2) true := by
    refine Ev.step (fun k => laws_FnCross.l0.eq_2 ..) (Ev.neg (by omega) (Ev.bindc rfl (Ev.pos (by simp; omega) ?_)))
    rw [List.nil_append]
    refine Ev.bind d2 (Ev.bindc rfl (Ev.pos (by simp only [List.length_nil]; omega) ?_))
    rw [List.nil_append]
    exact Ev.bind hgone (Ev.ret (by simp))
  have lp : ∀ (d i : Nat), N.length - i = d → i ≤ N.length → Ev (fun k => laws_FnCross.l0 k N (i : Int) c.f0 c.f1 c.f2) true := by
    intro d
    induction d with
    | zero =>
      intro i hd hi
      have : i = N.length := by omega
      rw [this]; exact last
    | succ d ih =>
      intro i hd hi
      have e := ih (i + 1) (by omega) (by omega)
      rw [← wi_ (by omega)] at e
      refine Ev.step (fun k => laws_FnCross.l0.eq_2 ..) (Ev.pos (by omega) (Ev.pos (by omega) (Ev.bindc rfl (Ev.pos (by simp; omega) ?_))))
      rw [List.nil_append]
      refine Ev.bind (own_found N (by omega) v2 hg i (by omega)) (Ev.pos rfl (Ev.bindc rfl (Ev.pos (by simp; omega) ?_)))
      rw [List.nil_append]
      exact Ev.bind (theirs_found N (by omega) v2 hg i (by omega)) (Ev.pos rfl e)
  exact ⟨true, v2, Ev.step (fun k => laws_FnCross.j0.eq_2 ..) (Ev.neg (by simp) (lp N.length 0 (by omega) (by omega)))⟩
theorem FnCross : laws_FnCross.Pure := by
  intro L hl _ _
  refine Ev.rounds (g := fun k => laws_FnCross.f k L) ?_
  unfold laws_FnCross.f
  refine Ev.ite (fun _ => Ev.now _) (fun h => ?_)
  obtain ⟨X, x, y, z, d, hX, hx, s0, s1, s2⟩ := draw_put L (by omega)
  obtain ⟨v, v1, v2, v3⟩ := crossRight_iff X (by omega) hx
  refine Ev.bind d (Ev.bind v1 ?_)
  cases v with
  | false => exact Ev.neg (by simp) (Ev.now _)
  | true =>
    obtain ⟨r, q1, q2, q3, q4, q5⟩ := put_right X ⟨x, y, z⟩ (by omega) hx (bCr_small s0 s1 s2) v1
    obtain ⟨w, w1, w2⟩ := cross_end r ⟨x, y, z⟩ q3 q4 q5 s0 s1
    refine Ev.pos rfl (Ev.bindc rfl (Ev.pos (by simp; omega) ?_))
    rw [List.nil_append]
    refine Ev.bind q2 (Ev.bind q1 (Ev.bind (lwCrosses_refl r (by omega)) (Ev.pos rfl (Ev.bindc rfl (Ev.pos (by simp only [List.length_nil]; omega) ?_)))))
    rw [List.nil_append]
    exact Ev.bind w1 w2

end Go.Proofs.Ytjffakoifpldeaa.Pure
