/- LineOpen: the two answers are one
Conditions: none. -/
import Derived.Test.YtkmpfgpamlfldaaPFnExactLineOpenx
import Derived.Test.YtkmpfgpamlfldaaPl
namespace Go.Proofs.Ytkmpfgpamlfldaa.Pure
open Go.RowKit Go.Proofs.Ytkmpfgpamlfldaa.PFnExactLineOpen Go.Proofs.YtkmpfgpamlfldaaW.PrintWords Go.Proofs.YtkmpfgpamlfldaaW.PrintLast Go.Proofs.YtkmpfgpamlfldaaW.PrintMore Go.Proofs.YtkmpfgpamlfldaaW.Pl
set_option linter.unusedVariables false
set_option linter.unusedSimpArgs false

theorem within_eq (a b c : Int) : impl_within.f a b c = some (withinP a b c) := by
  unfold impl_within.f withinP
  split
  · congr 1; simp only [decide_eq_decide]; omega
  · congr 1; symm; simp only [decide_eq_false_iff_not]; omega

theorem isGreat_eq (c : Int) : impl_isGreat.f c = some (great c) := by
  unfold impl_isGreat.f great
  split
  · congr 1; simp only [decide_eq_decide]; omega
  · congr 1; symm; simp only [decide_eq_false_iff_not]; omega
theorem isDigit_eq (c : Int) : impl_isDigit.f c = some (digit c) := by
  unfold impl_isDigit.f digit
  split
  · congr 1; simp only [decide_eq_decide]; omega
  · congr 1; symm; simp only [decide_eq_false_iff_not]; omega

theorem great_t {c : Int} (h : 65 ≤ c) (h' : c ≤ 90) : great c = true := by simp [great, h, h']
theorem great_f {c : Int} (h : ¬ (65 ≤ c ∧ c ≤ 90)) : great c = false := by simp [great]; omega
theorem digit_t {c : Int} (h : 48 ≤ c) (h' : c ≤ 57) : digit c = true := by simp [digit, h, h']
theorem digit_f {c : Int} (h : ¬ (48 ≤ c ∧ c ≤ 57)) : digit c = false := by simp [digit]; omega

theorem isName_loop (s : ByteArray) (hs : (s.size : Int) ≤ 9223372036854775807) : ∀ (l : List Int) (i : Nat), 1 ≤ i → (bytesOf s).drop i = l → Ev (fun k => impl_isName.l0 k s (s.size : Int) (i : Int)) (l.all nameCh && withinP (s.size : Int) 1 12) := by
  intro l
  induction l with
  | nil =>
    intro i hi h
    have h0 := drop_nil h
    refine Ev.step (fun k => impl_isName.l0.eq_2 ..) ?_
    refine Ev.neg (by omega) ?_
    refine Ev.bindc (within_eq _ _ _) ?_
    exact Ev.ret (by simp)
  | cons c r ih =>
    intro i hi h
    obtain ⟨h1, h2, h3, _, _⟩ := drop_cons h
    have hw : wrap64 ((i : Int) + 1) = ((i + 1 : Nat) : Int) := by rw [wrap_id (by omega) (by omega)]; omega
    have hn := ih (i + 1) (by omega) h3
    refine Ev.step (fun k => impl_isName.l0.eq_2 ..) ?_
    refine Ev.pos h1 (Ev.pos (by omega) (Ev.pos h1 ?_))
    rw [h2]
    refine Ev.bindc (isGreat_eq _) ?_
    by_cases hg : great c = true
    · refine Ev.pos hg ?_
      rw [hw]
      exact hn.to (by simp [nameCh, hg])
    · refine Ev.neg hg (Ev.neg (by omega) ?_)
      refine Ev.bindc (isDigit_eq _) ?_
      by_cases hd : digit c = true
      · refine Ev.pos hd ?_
        rw [hw]
        exact hn.to (by simp [nameCh, hd])
      · refine Ev.neg hd ?_
        by_cases he : c = 45
        · refine Ev.pos he ?_
          rw [hw]
          exact hn.to (by simp [nameCh, he])
        · refine Ev.neg he ?_
          exact Ev.ret (by simp [nameCh, hg, hd, he])
theorem isName_ev (s : ByteArray) (hs : (s.size : Int) ≤ 9223372036854775807) : Ev (fun k => impl_isName.f k s) (nameP (bytesOf s)) := by
  have hl := length_bytesOf s
  show Ev (fun k => impl_isName.l0 k s (s.size : Int) ((0 : Nat) : Int)) _
  match hb : bytesOf s with
  | [] =>
    have h0 := drop_nil (s := s) (i := 0) (by simp [hb])
    refine Ev.step (fun k => impl_isName.l0.eq_2 ..) ?_
    refine Ev.neg (by omega) ?_
    refine Ev.bindc (within_eq _ _ _) ?_
    exact Ev.ret (by simp [withinP, nameP]; omega)
  | c :: r =>
    obtain ⟨h1, h2, h3, _, _⟩ := drop_cons (s := s) (i := 0) (c := c) (r := r) (by simp [hb])
    have hn := isName_loop s hs r 1 (by omega) h3
    rw [hb] at hl
    simp only [List.length_cons] at hl
    refine Ev.step (fun k => impl_isName.l0.eq_2 ..) ?_
    refine Ev.pos h1 (Ev.pos (by omega) (Ev.pos h1 ?_))
    rw [h2]
    refine Ev.bindc (isGreat_eq _) ?_
    by_cases hg : great c = true
    · refine Ev.pos hg ?_
      rw [show wrap64 (((0 : Nat) : Int) + 1) = ((1 : Nat) : Int) from by rw [wrap_id (by omega) (by omega)]; rfl]
      refine hn.to ?_
      have : withinP (s.size : Int) 1 12 = decide (r.length ≤ 11) := by
        simp only [withinP, decide_eq_decide]; omega
      simp [nameP, hg, this]
    · refine Ev.neg hg (Ev.pos rfl ?_)
      exact Ev.ret (by simp [nameP, hg])

theorem l01Name_loop (s : ByteArray) (hs : (s.size : Int) ≤ 9223372036854775807) : ∀ (l : List Int) (i : Nat), (bytesOf s).drop i = l → Ev (fun k => spec_l01Name.l0 k s (i : Int)) (l.all nameCh) := by
  intro l
  induction l with
  | nil =>
    intro i h
    have h0 := drop_nil h
    refine Ev.step (fun k => spec_l01Name.l0.eq_2 ..) ?_
    exact Ev.neg (by omega) (Ev.ret (by simp))
  | cons c r ih =>
    intro i h
    obtain ⟨h1, h2, h3, _, _⟩ := drop_cons h
    have hw : wrap64 ((i : Int) + 1) = ((i + 1 : Nat) : Int) := by rw [wrap_id (by omega) (by omega)]; omega
    have hn := ih (i + 1) h3
    refine Ev.step (fun k => spec_l01Name.l0.eq_2 ..) ?_
    refine Ev.pos h1 (Ev.pos (by omega) ?_)
    rw [h2, hw]
    by_cases hk : nameCh c = true
    · have hn' : Ev (fun k => spec_l01Name.l0 k s ((i + 1 : Nat) : Int)) ((c :: r).all nameCh) := hn.to (by simp [hk])
      have hk' : (65 ≤ c ∧ c ≤ 90) ∨ (48 ≤ c ∧ c ≤ 57) ∨ c = 45 := by simp [nameCh, great, digit, or_assoc] at hk; exact hk
      refine Ev.ite (fun g1 => Ev.ite (fun g2 => hn') (fun g2 => Ev.ite (fun g3 => Ev.ite (fun g4 => hn') (fun g4 => Ev.ite (fun g5 => hn') (fun g5 => ?_))) (fun g3 => Ev.ite (fun g5 => hn') (fun g5 => ?_)))) (fun g1 => Ev.ite (fun g3 => Ev.ite (fun g4 => hn') (fun g4 => Ev.ite (fun g5 => hn') (fun g5 => ?_))) (fun g3 => Ev.ite (fun g5 => hn') (fun g5 => ?_)))
      all_goals exact absurd hk' (by omega)
    · have hf : Ev (fun _ : Nat => some false) ((c :: r).all nameCh) := Ev.ret (by simp [hk])
      have hk' : ¬ ((65 ≤ c ∧ c ≤ 90) ∨ (48 ≤ c ∧ c ≤ 57) ∨ c = 45) := by simp [nameCh, great, digit] at hk; omega
      refine Ev.ite (fun g1 => Ev.ite (fun g2 => ?_) (fun g2 => Ev.ite (fun g3 => Ev.ite (fun g4 => ?_) (fun g4 => Ev.ite (fun g5 => ?_) (fun g5 => hf))) (fun g3 => Ev.ite (fun g5 => ?_) (fun g5 => hf)))) (fun g1 => Ev.ite (fun g3 => Ev.ite (fun g4 => ?_) (fun g4 => Ev.ite (fun g5 => ?_) (fun g5 => hf))) (fun g3 => Ev.ite (fun g5 => ?_) (fun g5 => hf)))
      all_goals exact absurd (show (65 ≤ c ∧ c ≤ 90) ∨ (48 ≤ c ∧ c ≤ 57) ∨ c = 45 by omega) hk'
theorem l01Name_ev (s : ByteArray) (hs : (s.size : Int) ≤ 9223372036854775807) : Ev (fun k => spec_l01Name.f k s) (nameP (bytesOf s)) := by
  have hl := length_bytesOf s
  have hj : ∀ b, b = false → Ev (fun k => spec_l01Name.j0 k s true) b := fun b hb => Ev.step (fun k => spec_l01Name.j0.eq_2 ..) (Ev.pos rfl (Ev.ret hb.symm))
  unfold spec_l01Name.f
  match hb : bytesOf s with
  | [] =>
    have h0 := drop_nil (s := s) (i := 0) (by simp [hb])
    refine Ev.pos (by omega) (hj _ rfl)
  | c :: r =>
    obtain ⟨h1, h2, h3, _, _⟩ := drop_cons (s := s) (i := 0) (c := c) (r := r) (by simp [hb])
    have hn := l01Name_loop s hs (c :: r) 0 (by simp [hb])
    rw [hb] at hl
    simp only [List.length_cons] at hl
    have h2' : bt s 0 = c := h2
    refine Ev.neg (by omega) (Ev.ite (fun g => hj _ (by simp [nameP]; intros; omega)) (fun g => Ev.pos (by omega) ?_))
    rw [h2']
    refine Ev.ite (fun g1 => hj _ (by simp [nameP, great]; intros; omega)) (fun g1 => ?_)
    by_cases g2 : c > 90
    · rw [show decide (c > 90) = true from by simp [g2]]
      exact hj _ (by simp [nameP, great]; intros; omega)
    · rw [show decide (c > 90) = false from by simp [g2]]
      refine Ev.step (fun k => spec_l01Name.j0.eq_2 ..) (Ev.neg (by simp) ?_)
      have hg : great c = true := by simp [great]; omega
      refine hn.to ?_
      have : r.length ≤ 11 := by omega
      simp [nameP, hg, nameCh, this]

/-- What a right order line's numbers are. -/
def lineNums (no ord sent got cut : Int) : Bool := decide (1 ≤ no ∧ no ≤ 999 ∧ 1 ≤ ord ∧ ord ≤ 1000000 ∧ 0 ≤ got ∧ got ≤ sent ∧ sent ≤ ord ∧ 0 ≤ cut ∧ cut ≤ ord - sent)
theorem specLineRight_ev (p r : ByteArray) (no : Int) (i : ByteArray) (ord sent got cut : Int) (hp : (p.size : Int) ≤ 9223372036854775807) (hr : (r.size : Int) ≤ 9223372036854775807) (hi : (i.size : Int) ≤ 9223372036854775807) :
    Ev (fun k => spec_LineRight.f k p r no i ord sent got cut) (nameP (bytesOf p) && nameP (bytesOf r) && nameP (bytesOf i) && lineNums no ord sent got cut) := by
  have h1 := l01Name_ev p hp
  have h2 := l01Name_ev r hr
  have h3 := l01Name_ev i hi
  unfold spec_LineRight.f
  refine Ev.bind h1 ?_
  by_cases n1 : nameP (bytesOf p) = true
  rotate_left
  · exact Ev.neg n1 (Ev.ret (by simp [n1]))
  refine Ev.pos n1 (Ev.bind h2 ?_)
  by_cases n2 : nameP (bytesOf r) = true
  rotate_left
  · exact Ev.neg n2 (Ev.ret (by simp [n2]))
  refine Ev.pos n2 (Ev.bind h3 ?_)
  by_cases n3 : nameP (bytesOf i) = true
  rotate_left
  · exact Ev.neg n3 (Ev.ret (by simp [n3]))
  refine Ev.pos n3 ?_
  rw [n1, n2, n3]
  simp only [Bool.true_and]
  have no_ : ∀ {b : Prop} [Decidable b], ¬ b → Ev (fun _ : Nat => some false) (decide b) := fun h => Ev.ret (by simp [h])
  unfold lineNums
  refine Ev.ite (fun c1 => ?_) (fun c1 => no_ (by omega))
  refine Ev.ite (fun c2 => ?_) (fun c2 => no_ (by omega))
  have hq : spec_l01Qty.f ord = some (decide (1 ≤ ord ∧ ord ≤ 1000000)) := by
    unfold spec_l01Qty.f
    split
    · congr 1; simp only [decide_eq_decide]; omega
    · congr 1; symm; simp only [decide_eq_false_iff_not]; omega
  refine Ev.bindc hq ?_
  refine Ev.ite (fun c3 => ?_) (fun c3 => no_ (by simp only [decide_eq_true_eq] at c3; omega))
  simp only [decide_eq_true_eq] at c3
  refine Ev.ite (fun c4 => ?_) (fun c4 => no_ (by omega))
  refine Ev.ite (fun c5 => ?_) (fun c5 => no_ (by omega))
  refine Ev.ite (fun c6 => ?_) (fun c6 => no_ (by omega))
  refine Ev.ite (fun c7 => ?_) (fun c7 => no_ (by omega))
  refine Ev.ite (fun c8 => ?_) (fun c8 => no_ (by omega))
  refine Ev.ret ?_
  rw [wrap_id (by omega) (by omega)]
  simp only [decide_eq_decide]
  omega
theorem implLineRight_ev (p r : ByteArray) (no : Int) (i : ByteArray) (ord sent got cut : Int) (hp : (p.size : Int) ≤ 9223372036854775807) (hr : (r.size : Int) ≤ 9223372036854775807) (hi : (i.size : Int) ≤ 9223372036854775807) :
    Ev (fun k => impl_LineRight.f k p r no i ord sent got cut) (nameP (bytesOf p) && nameP (bytesOf r) && nameP (bytesOf i) && lineNums no ord sent got cut) := by
  have h1 := isName_ev p hp
  have h2 := isName_ev r hr
  have h3 := isName_ev i hi
  unfold impl_LineRight.f
  refine Ev.bind h1 ?_
  by_cases n1 : nameP (bytesOf p) = true
  rotate_left
  · exact Ev.neg n1 (Ev.ret (by simp [n1]))
  refine Ev.pos n1 (Ev.bind h2 ?_)
  by_cases n2 : nameP (bytesOf r) = true
  rotate_left
  · exact Ev.neg n2 (Ev.ret (by simp [n2]))
  refine Ev.pos n2 (Ev.bind h3 ?_)
  by_cases n3 : nameP (bytesOf i) = true
  rotate_left
  · exact Ev.neg n3 (Ev.ret (by simp [n3]))
  refine Ev.pos n3 ?_
  rw [n1, n2, n3]
  simp only [Bool.true_and]
  have no_ : ∀ {b : Prop} [Decidable b], ¬ b → Ev (fun _ : Nat => some false) (decide b) := fun h => Ev.ret (by simp [h])
  unfold lineNums
  have hq : impl_isQty.f ord = some (withinP ord 1 1000000) := by
    unfold impl_isQty.f
    rw [within_eq]; rfl
  refine Ev.bindc (within_eq _ _ _) (Ev.ite (fun c1 => ?_) (fun c1 => no_ (by simp [withinP] at c1; omega)))
  refine Ev.bindc hq (Ev.ite (fun c2 => ?_) (fun c2 => no_ (by simp [withinP] at c2; omega)))
  refine Ev.bindc (within_eq _ _ _) (Ev.ite (fun c3 => ?_) (fun c3 => no_ (by simp [withinP] at c3; omega)))
  refine Ev.bindc (within_eq _ _ _) (Ev.ite (fun c4 => ?_) (fun c4 => no_ (by simp [withinP] at c4; omega)))
  simp [withinP] at c1 c2 c3 c4
  refine Ev.bindc (within_eq _ _ _) (Ev.ret ?_)
  rw [wrap_id (by omega) (by omega)]
  simp only [withinP, decide_eq_decide]
  omega

theorem FnExactLineOpen : laws_FnExactLineOpen.Pure := by
  intro p r no i ord sent got cut hp hr hno hi ho hs hg hc
  have mp : (p.size : Int) ≤ 9223372036854775807 := by simp only [maxLen] at hp; omega
  have mr : (r.size : Int) ≤ 9223372036854775807 := by simp only [maxLen] at hr; omega
  have mi : (i.size : Int) ≤ 9223372036854775807 := by simp only [maxLen] at hi; omega
  refine Ev.rounds (g := fun k => laws_FnExactLineOpen.f k p r no i ord sent got cut) ?_
  unfold laws_FnExactLineOpen.f
  have hz : ∃ z, laws_szOrderLine.f p r no i ord sent got cut 1048576 = some z := by
    unfold laws_szOrderLine.f
    split <;> (try split) <;> (try split) <;> exact ⟨_, rfl⟩
  obtain ⟨z, hz⟩ := hz
  refine Ev.bindc hz (Ev.ite (fun _ => Ev.now _) (fun _ => ?_))
  have key : ∃ v, Ev (fun k => spec_LineOpen.f k p r no i ord sent got cut) v ∧ Ev (fun k => impl_LineOpen.f k p r no i ord sent got cut) v := by
    have e1 := specLineRight_ev p r no i ord sent got cut mp mr mi
    have e2 := implLineRight_ev p r no i ord sent got cut mp mr mi
    unfold spec_LineOpen.f impl_LineOpen.f
    revert e1 e2
    generalize (nameP (bytesOf p) && nameP (bytesOf r) && nameP (bytesOf i) && lineNums no ord sent got cut) = b
    intro e1 e2
    cases b with
    | true => exact ⟨_, Ev.bind e1 (Ev.pos rfl (Ev.now _)), Ev.bind e2 (Ev.pos rfl (Ev.bindc rfl (Ev.now _)))⟩
    | false => exact ⟨_, Ev.bind e1 (Ev.neg (by simp) (Ev.now _)), Ev.bind e2 (Ev.neg (by simp) (Ev.now _))⟩
  obtain ⟨v, h1, h2⟩ := key
  have ht : laws_toOrderLine.f p r no i ord sent got cut = some (p, r, no, i, ord, sent, got, cut) := rfl
  exact Ev.bindc ht (Ev.bind h1 (Ev.bindc ht (Ev.bind h2 (Ev.pos rfl (Ev.now _)))))

end Go.Proofs.Ytkmpfgpamlfldaa.Pure
