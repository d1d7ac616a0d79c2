/- PartnerAsk: the two answers are one
Conditions: none. -/
import Derived.Test.YtjffakoifpldeaaPFnExactPartnerAskx
import Derived.Test.YtjffakoifpldeaaPl
namespace Go.Proofs.Ytjffakoifpldeaa.Pure
open Go.RowKit Go.Proofs.Ytjffakoifpldeaa.PFnExactPartnerAsk Go.Proofs.YtjffakoifpldeaaW.PrintWords Go.Proofs.YtjffakoifpldeaaW.PrintLast Go.Proofs.YtjffakoifpldeaaW.PrintMore Go.Proofs.YtjffakoifpldeaaW.Pl
set_option linter.unusedVariables false
set_option linter.unusedSimpArgs false

theorem within_eq (a b c : Int) : impl_within.f a b c = some (withinP a b c) := by
  unfold impl_within.f withinP
  split
  · congr 1; simp only [decide_eq_decide]; omega
  · congr 1; symm; simp only [decide_eq_false_iff_not]; omega

theorem isGreat_eq (c : Int) : impl_isGreat.f c = some (great c) := by
  unfold impl_isGreat.f great
  split
  · congr 1; simp only [decide_eq_decide]; omega
  · congr 1; symm; simp only [decide_eq_false_iff_not]; omega
theorem isDigit_eq (c : Int) : impl_isDigit.f c = some (digit c) := by
  unfold impl_isDigit.f digit
  split
  · congr 1; simp only [decide_eq_decide]; omega
  · congr 1; symm; simp only [decide_eq_false_iff_not]; omega

theorem great_t {c : Int} (h : 65 ≤ c) (h' : c ≤ 90) : great c = true := by simp [great, h, h']
theorem great_f {c : Int} (h : ¬ (65 ≤ c ∧ c ≤ 90)) : great c = false := by simp [great]; omega
theorem digit_t {c : Int} (h : 48 ≤ c) (h' : c ≤ 57) : digit c = true := by simp [digit, h, h']
theorem digit_f {c : Int} (h : ¬ (48 ≤ c ∧ c ≤ 57)) : digit c = false := by simp [digit]; omega

theorem isName_loop (s : ByteArray) (hs : (s.size : Int) ≤ 9223372036854775807) : ∀ (l : List Int) (i : Nat), 1 ≤ i → (bytesOf s).drop i = l → Ev (fun k => impl_isName.l0 k s (s.size : Int) (i : Int)) (l.all nameCh && withinP (s.size : Int) 1 12) := by
  intro l
  induction l with
  | nil =>
    intro i hi h
    have h0 := drop_nil h
    refine Ev.step (fun k => impl_isName.l0.eq_2 ..) ?_
    refine Ev.neg (by omega) ?_
    refine Ev.bindc (within_eq _ _ _) ?_
    exact Ev.ret (by simp)
  | cons c r ih =>
    intro i hi h
    obtain ⟨h1, h2, h3, _, _⟩ := drop_cons h
    have hw : wrap64 ((i : Int) + 1) = ((i + 1 : Nat) : Int) := by rw [wrap_id (by omega) (by omega)]; omega
    have hn := ih (i + 1) (by omega) h3
    refine Ev.step (fun k => impl_isName.l0.eq_2 ..) ?_
    refine Ev.pos h1 (Ev.pos (by omega) (Ev.pos h1 ?_))
    rw [h2]
    refine Ev.bindc (isGreat_eq _) ?_
    by_cases hg : great c = true
    · refine Ev.pos hg ?_
      rw [hw]
      exact hn.to (by simp [nameCh, hg])
    · refine Ev.neg hg (Ev.neg (by omega) ?_)
      refine Ev.bindc (isDigit_eq _) ?_
      by_cases hd : digit c = true
      · refine Ev.pos hd ?_
        rw [hw]
        exact hn.to (by simp [nameCh, hd])
      · refine Ev.neg hd ?_
        by_cases he : c = 45
        · refine Ev.pos he ?_
          rw [hw]
          exact hn.to (by simp [nameCh, he])
        · refine Ev.neg he ?_
          exact Ev.ret (by simp [nameCh, hg, hd, he])
theorem isName_ev (s : ByteArray) (hs : (s.size : Int) ≤ 9223372036854775807) : Ev (fun k => impl_isName.f k s) (nameP (bytesOf s)) := by
  have hl := length_bytesOf s
  show Ev (fun k => impl_isName.l0 k s (s.size : Int) ((0 : Nat) : Int)) _
  match hb : bytesOf s with
  | [] =>
    have h0 := drop_nil (s := s) (i := 0) (by simp [hb])
    refine Ev.step (fun k => impl_isName.l0.eq_2 ..) ?_
    refine Ev.neg (by omega) ?_
    refine Ev.bindc (within_eq _ _ _) ?_
    exact Ev.ret (by simp [withinP, nameP]; omega)
  | c :: r =>
    obtain ⟨h1, h2, h3, _, _⟩ := drop_cons (s := s) (i := 0) (c := c) (r := r) (by simp [hb])
    have hn := isName_loop s hs r 1 (by omega) h3
    rw [hb] at hl
    simp only [List.length_cons] at hl
    refine Ev.step (fun k => impl_isName.l0.eq_2 ..) ?_
    refine Ev.pos h1 (Ev.pos (by omega) (Ev.pos h1 ?_))
    rw [h2]
    refine Ev.bindc (isGreat_eq _) ?_
    by_cases hg : great c = true
    · refine Ev.pos hg ?_
      rw [show wrap64 (((0 : Nat) : Int) + 1) = ((1 : Nat) : Int) from by rw [wrap_id (by omega) (by omega)]; rfl]
      refine hn.to ?_
      have : withinP (s.size : Int) 1 12 = decide (r.length ≤ 11) := by
        simp only [withinP, decide_eq_decide]; omega
      simp [nameP, hg, this]
    · refine Ev.neg hg (Ev.pos rfl ?_)
      exact Ev.ret (by simp [nameP, hg])

theorem l01Name_loop (s : ByteArray) (hs : (s.size : Int) ≤ 9223372036854775807) : ∀ (l : List Int) (i : Nat), (bytesOf s).drop i = l → Ev (fun k => spec_l01Name.l0 k s (i : Int)) (l.all nameCh) := by
  intro l
  induction l with
  | nil =>
    intro i h
    have h0 := drop_nil h
    refine Ev.step (fun k => spec_l01Name.l0.eq_2 ..) ?_
    exact Ev.neg (by omega) (Ev.ret (by simp))
  | cons c r ih =>
    intro i h
    obtain ⟨h1, h2, h3, _, _⟩ := drop_cons h
    have hw : wrap64 ((i : Int) + 1) = ((i + 1 : Nat) : Int) := by rw [wrap_id (by omega) (by omega)]; omega
    have hn := ih (i + 1) h3
    refine Ev.step (fun k => spec_l01Name.l0.eq_2 ..) ?_
    refine Ev.pos h1 (Ev.pos (by omega) ?_)
    rw [h2, hw]
    by_cases hk : nameCh c = true
    · have hn' : Ev (fun k => spec_l01Name.l0 k s ((i + 1 : Nat) : Int)) ((c :: r).all nameCh) := hn.to (by simp [hk])
      have hk' : (65 ≤ c ∧ c ≤ 90) ∨ (48 ≤ c ∧ c ≤ 57) ∨ c = 45 := by simp [nameCh, great, digit, or_assoc] at hk; exact hk
      refine Ev.ite (fun g1 => Ev.ite (fun g2 => hn') (fun g2 => Ev.ite (fun g3 => Ev.ite (fun g4 => hn') (fun g4 => Ev.ite (fun g5 => hn') (fun g5 => ?_))) (fun g3 => Ev.ite (fun g5 => hn') (fun g5 => ?_)))) (fun g1 => Ev.ite (fun g3 => Ev.ite (fun g4 => hn') (fun g4 => Ev.ite (fun g5 => hn') (fun g5 => ?_))) (fun g3 => Ev.ite (fun g5 => hn') (fun g5 => ?_)))
      all_goals exact absurd hk' (by omega)
    · have hf : Ev (fun _ : Nat => some false) ((c :: r).all nameCh) := Ev.ret (by simp [hk])
      have hk' : ¬ ((65 ≤ c ∧ c ≤ 90) ∨ (48 ≤ c ∧ c ≤ 57) ∨ c = 45) := by simp [nameCh, great, digit] at hk; omega
      refine Ev.ite (fun g1 => Ev.ite (fun g2 => ?_) (fun g2 => Ev.ite (fun g3 => Ev.ite (fun g4 => ?_) (fun g4 => Ev.ite (fun g5 => ?_) (fun g5 => hf))) (fun g3 => Ev.ite (fun g5 => ?_) (fun g5 => hf)))) (fun g1 => Ev.ite (fun g3 => Ev.ite (fun g4 => ?_) (fun g4 => Ev.ite (fun g5 => ?_) (fun g5 => hf))) (fun g3 => Ev.ite (fun g5 => ?_) (fun g5 => hf)))
      all_goals exact absurd (show (65 ≤ c ∧ c ≤ 90) ∨ (48 ≤ c ∧ c ≤ 57) ∨ c = 45 by omega) hk'
theorem l01Name_ev (s : ByteArray) (hs : (s.size : Int) ≤ 9223372036854775807) : Ev (fun k => spec_l01Name.f k s) (nameP (bytesOf s)) := by
  have hl := length_bytesOf s
  have hj : ∀ b, b = false → Ev (fun k => spec_l01Name.j0 k s true) b := fun b hb => Ev.step (fun k => spec_l01Name.j0.eq_2 ..) (Ev.pos rfl (Ev.ret hb.symm))
  unfold spec_l01Name.f
  match hb : bytesOf s with
  | [] =>
    have h0 := drop_nil (s := s) (i := 0) (by simp [hb])
    refine Ev.pos (by omega) (hj _ rfl)
  | c :: r =>
    obtain ⟨h1, h2, h3, _, _⟩ := drop_cons (s := s) (i := 0) (c := c) (r := r) (by simp [hb])
    have hn := l01Name_loop s hs (c :: r) 0 (by simp [hb])
    rw [hb] at hl
    simp only [List.length_cons] at hl
    have h2' : bt s 0 = c := h2
    refine Ev.neg (by omega) (Ev.ite (fun g => hj _ (by simp [nameP]; intros; omega)) (fun g => Ev.pos (by omega) ?_))
    rw [h2']
    refine Ev.ite (fun g1 => hj _ (by simp [nameP, great]; intros; omega)) (fun g1 => ?_)
    by_cases g2 : c > 90
    · rw [show decide (c > 90) = true from by simp [g2]]
      exact hj _ (by simp [nameP, great]; intros; omega)
    · rw [show decide (c > 90) = false from by simp [g2]]
      refine Ev.step (fun k => spec_l01Name.j0.eq_2 ..) (Ev.neg (by simp) ?_)
      have hg : great c = true := by simp [great]; omega
      refine hn.to ?_
      have : r.length ≤ 11 := by omega
      simp [nameP, hg, nameCh, this]

theorem wi_ {i : Nat} (h : (i : Int) ≤ 4611686018427387904) : wrap64 ((i : Int) + 1) = ((i + 1 : Nat) : Int) := by rw [wrap_id (by omega) (by omega)]; omega
/-- A list that is copied into a new one, place by place. -/
theorem tos_list {α β : Type} (z : α) (g : α → β) (T : Nat → List α → List β → Int → Option (List β)) (L : List α)
    (hT : ∀ (D : List β) (i : Nat) (r : List β), i < L.length → D.length = L.length → Ev (fun k => T k L (D.set i (g (L.getD i z))) ((i + 1 : Nat) : Int)) r → Ev (fun k => T k L D (i : Int)) r)
    (hT0 : ∀ (D : List β) (i : Nat), L.length ≤ i → Ev (fun k => T k L D (i : Int)) D) :
    ∀ (d : Nat) (D : List β) (i : Nat), L.length - i = d → D.length = L.length → (∀ j, j < i → D[j]? = (L.map g)[j]?) → Ev (fun k => T k L D (i : Int)) (L.map g)
  | 0, D, i, hd, hl, hp => by
    have e : D = L.map g := by
      apply List.ext_getElem?
      intro j
      by_cases h : j < i
      · exact hp j h
      · rw [List.getElem?_eq_none (by omega), List.getElem?_eq_none (by rw [List.length_map]; omega)]
    subst e
    exact hT0 _ i (by omega)
  | d + 1, D, i, hd, hl, hp => by
    refine hT D i _ (by omega) hl (tos_list z g T L hT hT0 d _ (i + 1) (by omega) (by rw [List.length_set]; exact hl) (fun j hj => ?_))
    by_cases h : j = i
    · subst h
      rw [List.getElem?_set_self (by omega), List.getElem?_map, List.getD_eq_getElem?_getD, List.getElem?_eq_getElem (by omega : j < L.length)]
      rfl
    · rw [List.getElem?_set_ne (by omega)]
      exact hp j (by omega)
/-- A list is measured, place by place: it is too great, or each element is bounded. -/
theorem sz_list {α : Type} (z : α) (P : α → Prop) (Z : Nat → List α → Int → Int → Option Int) (L : List α)
    (hs : ∀ (i : Nat) (x : Int), i < L.length → 0 ≤ x → x ≤ 1048576 → Ev (fun k => Z k L x (i : Int)) (-1) ∨ ∃ x', 0 ≤ x' ∧ x' ≤ x ∧ P (L.getD i z) ∧ ∀ r, Ev (fun k => Z k L x' ((i + 1 : Nat) : Int)) r → Ev (fun k => Z k L x (i : Int)) r)
    (h0 : ∀ (i : Nat) (x : Int), L.length ≤ i → Ev (fun k => Z k L x (i : Int)) x) :
    ∀ (d i : Nat) (x : Int), L.length - i = d → 0 ≤ x → x ≤ 1048576 → ∃ w, Ev (fun k => Z k L x (i : Int)) w ∧ (w = -1 ∨ (0 ≤ w ∧ w ≤ x ∧ ∀ j, i ≤ j → j < L.length → P (L.getD j z)))
  | 0, i, x, hd, h1, h2 => ⟨x, h0 i x (by omega), .inr ⟨h1, by omega, fun j _ _ => by omega⟩⟩
  | d + 1, i, x, hd, h1, h2 => by
    rcases hs i x (by omega) h1 h2 with h | ⟨x', g1, g2, g3, g4⟩
    · exact ⟨-1, h, .inl rfl⟩
    · obtain ⟨w, e1, e2⟩ := sz_list z P Z L hs h0 d (i + 1) x' (by omega) g1 (by omega)
      refine ⟨w, g4 w e1, ?_⟩
      rcases e2 with e2 | ⟨e2, e3, e4⟩
      · exact .inl e2
      · refine .inr ⟨e2, by omega, fun j hj hl => ?_⟩
        by_cases h : j = i
        · subst h; exact g3
        · exact e4 j (by omega) hl
theorem sz_all {α : Type} (z : α) (P : α → Prop) (L : List α) (h : ∀ j, 0 ≤ j → j < L.length → P (L.getD j z)) : ∀ x ∈ L, P x := by
  intro x hx
  obtain ⟨j, hj, rfl⟩ := List.getElem_of_mem hx
  have := h j (by omega) hj
  rwa [List.getD_eq_getElem?_getD, List.getElem?_eq_getElem hj] at this
theorem getD_mem {α : Type} {L : List α} {i : Nat} (z : α) (h : i < L.length) : L.getD i z ∈ L := by
  rw [List.getD_eq_getElem?_getD, List.getElem?_eq_getElem h]
  exact List.getElem_mem h
/-- A text that is bounded; a list of them. -/
def bT (s : ByteArray) : Prop := s.size ≤ 1048576
def bTs (l : List ByteArray) : Prop := l.length ≤ 1048576 ∧ ∀ s ∈ l, bT s

/-- A comparison of lists, place by place: of one list with itself. -/
theorem eqs_refl {α : Type} (Q : Nat → List α → List α → Int → Option Bool) (L : List α) (hs : ∀ i : Nat, i < L.length → Ev (fun k => Q k L L ((i + 1 : Nat) : Int)) true → Ev (fun k => Q k L L (i : Int)) true) (h0 : ∀ i : Nat, L.length ≤ i → Ev (fun k => Q k L L (i : Int)) true) : ∀ (d i : Nat), L.length - i = d → Ev (fun k => Q k L L (i : Int)) true
  | 0, i, h => h0 i (by omega)
  | d + 1, i, h => hs i (by omega) (eqs_refl Q L hs h0 d (i + 1) (by omega))

/-- A Seen that is bounded; a Seen of the laws as the program has it. -/
def bSeen (x : S127) : Prop := True
def cSeen (x : S127) : S62 := ⟨x.f0, x.f1, x.f2⟩



theorem szSeenS_ev (l : List S127) (x : Int) (h0 : 0 ≤ x) (h1 : x ≤ 1048576) (hl : l.length ≤ maxLen) (hs : ∀ y ∈ l, q127 y) : ∃ w, Ev (fun k => laws_szSeenS.f l x) w ∧ (w = -1 ∨ (0 ≤ w ∧ w ≤ x ∧ l.length ≤ 1048576 ∧ ∀ y ∈ l, bSeen y)) := by
  simp only [maxLen] at hl
  unfold laws_szSeenS.f
  have hw : wrap64 (x - (l.length : Int)) = x - (l.length : Int) := wrap_id (by omega) (by omega)
  rw [hw]
  by_cases hn : x - (l.length : Int) < 0
  · exact ⟨-1, Ev.pos hn (Ev.now _), .inl rfl⟩
  · exact ⟨_, Ev.neg hn (Ev.now _), .inr ⟨by omega, by omega, by omega, fun y _ => trivial⟩⟩

theorem toSeen_ev (a0 : Int) (a1 : Int) (a2 : Int)  : Ev (fun k => laws_toSeen.f a0 a1 a2) (a0, a1, a2) := by
  unfold laws_toSeen.f
  exact Ev.now _

theorem toSeenS_ev (l : List S127) (hl : l.length ≤ 1048576) (hb : ∀ y ∈ l, bSeen y) : Ev (fun k => laws_toSeenS.f k l) (l.map cSeen) := by
  unfold laws_toSeenS.f
  refine Ev.pos (by omega) (Ev.pos (by omega) ?_)
  refine tos_list z127 cSeen laws_toSeenS.l0 l (fun D i r hi hd h => ?_) (fun D i hi => ?_) l.length _ 0 (by omega) (by simp) (fun j hj => by omega)
  · have hr : rd_T127 l (i : Int) = l.getD i z127 := by unfold rd_T127; rw [Int.toNat_natCast]
    refine Ev.step (fun k => laws_toSeenS.l0.eq_2 ..) (Ev.pos (by omega) (Ev.pos (by omega) ?_))
    rw [hr, wi_ (by omega)]
    refine Ev.bind (toSeen_ev (l.getD i z127).f0 (l.getD i z127).f1 (l.getD i z127).f2 ) (Ev.pos (by omega) ?_)
    exact h
  · exact Ev.step (fun k => laws_toSeenS.l0.eq_2 ..) (Ev.neg (by omega) (Ev.now _))

theorem eqSeen_refl (a0 : Int) (a1 : Int) (a2 : Int)  : Ev (fun k => laws_eqSeen.f a0 a1 a2 a0 a1 a2) true := by
  unfold laws_eqSeen.f
  exact Ev.pos rfl (Ev.pos rfl (Ev.pos rfl (Ev.now _)))

/-- Of a Seen: its lists are bounded. -/
def eSeen (x : S62) : Prop := True
theorem eqSeenS_refl (l : List S62) (hl : (l.length : Int) ≤ 4611686018427387904) (hb : ∀ y ∈ l, eSeen y) : Ev (fun k => laws_eqSeenS.f k l l) true := by
  unfold laws_eqSeenS.f
  refine Ev.pos rfl (eqs_refl laws_eqSeenS.l0 l (fun i hi h => ?_) (fun i hi => ?_) l.length 0 (by omega))
  · have hr : rd_T62 l (i : Int) = l.getD i z62 := by unfold rd_T62; rw [Int.toNat_natCast]
    refine Ev.step (fun k => laws_eqSeenS.l0.eq_2 ..) (Ev.pos (by omega) (Ev.pos (by omega) (Ev.pos (by omega) ?_)))
    rw [hr, wi_ (by omega)]
    exact Ev.bind (eqSeen_refl (l.getD i z62).f0 (l.getD i z62).f1 (l.getD i z62).f2 ) (Ev.pos rfl h)
  · exact Ev.step (fun k => laws_eqSeenS.l0.eq_2 ..) (Ev.neg (by omega) (Ev.now _))

theorem szPartner_ev (a0 : ByteArray) (a1 : Int) (a2 : Int) (a3 : List S127) (x : Int) (g0 : 0 ≤ x) (g1 : x ≤ 1048576) (h0 : a0.size ≤ maxLen) (h3 : (a3.length ≤ maxLen ∧ ∀ y ∈ a3, q127 y)) : ∃ w, Ev (fun k => laws_szPartner.f a0 a1 a2 a3 x) w ∧ (w = -1 ∨ (0 ≤ w ∧ w ≤ x ∧ bT a0 ∧ (a3.length ≤ 1048576 ∧ ∀ y ∈ a3, bSeen y))) := by
  unfold laws_szPartner.f
  have m0 : a0.size ≤ 9223372036854775807 := h0
  have e0 : wrap64 (x - (a0.size : Int)) = x - (a0.size : Int) := wrap_id (by omega) (by omega)
  rw [e0]
  by_cases n0 : x - (a0.size : Int) < 0
  · exact ⟨-1, Ev.pos n0 (Ev.now _), .inl rfl⟩
  obtain ⟨w3, u3, t3⟩ := szSeenS_ev a3 (x - (a0.size : Int)) (by omega) (by omega) h3.1 h3.2
  rcases t3 with t3 | ⟨t3, s3, b3⟩
  · exact ⟨-1, Ev.neg n0 (Ev.bind u3 (Ev.pos (by omega) (Ev.now _))), .inl rfl⟩
  exact ⟨w3, Ev.neg n0 (Ev.bind u3 (Ev.neg (by omega) (Ev.now _))), .inr ⟨by omega, by omega, (by unfold bT; omega), (b3)⟩⟩

theorem toPartner_ev (a0 : ByteArray) (a1 : Int) (a2 : Int) (a3 : List S127) (h3 : (a3.length ≤ 1048576 ∧ ∀ y ∈ a3, bSeen y)) : Ev (fun k => laws_toPartner.f k a0 a1 a2 a3) (a0, a1, a2, (a3.map cSeen)) := by
  unfold laws_toPartner.f
  exact Ev.bind (toSeenS_ev a3 h3.1 h3.2) (Ev.now _)

theorem eqPartner_refl (a0 : ByteArray) (a1 : Int) (a2 : Int) (a3 : List S62) (h3 : ((a3.length : Int) ≤ 4611686018427387904 ∧ ∀ y ∈ a3, eSeen y)) : Ev (fun k => laws_eqPartner.f k a0 a1 a2 a3 a0 a1 a2 a3) true := by
  unfold laws_eqPartner.f
  exact Ev.pos rfl (Ev.pos rfl (Ev.pos rfl (Ev.bind (eqSeenS_refl a3 h3.1 h3.2) (Ev.pos rfl (Ev.now _)))))

def ctrl (n : Int) : Bool := decide (1 ≤ n ∧ n ≤ 999999)
/-- Is it greater than the one ahead? -/
def lastP (p : Option Int) (x : Int) : Bool := match p with | none => true | some q => decide (q < x)
/-- The numbers that were seen: each in the window, rising. -/
def rightSeen (low : Int) : Option Int → List S62 → Bool
  | _, [] => true
  | p, s :: r => decide (low ≤ s.f0 ∧ s.f0 < low + 32 ∧ s.f0 ≤ 999999) && lastP p s.f0 && ctrl s.f1 && decide (0 ≤ s.f2 ∧ s.f2 ≤ 13) && rightSeen low (some s.f0) r
theorem rightSeen_len (low : Int) : ∀ (l : List S62) (q : Int), low ≤ q → rightSeen low (some q) l = true → (l.length : Int) ≤ low + 31 - q ∨ l = []
  | [], q, h, _ => .inr rfl
  | s :: r, q, h, hr => by
    simp only [rightSeen, lastP, Bool.and_eq_true, decide_eq_true_eq] at hr
    obtain ⟨⟨⟨⟨h1, h2⟩, _⟩, _⟩, h3⟩ := hr
    have := rightSeen_len low r s.f0 (by omega) h3
    refine .inl ?_
    simp only [List.length_cons]
    rcases this with this | this
    · omega
    · subst this; simp; omega
theorem rightSeen_le (low : Int) (l : List S62) (h : rightSeen low none l = true) : (l.length : Int) ≤ 32 := by
  cases l with
  | nil => simp
  | cons s r =>
    simp only [rightSeen, Bool.and_eq_true, decide_eq_true_eq] at h
    obtain ⟨⟨⟨⟨h1, h2⟩, _⟩, _⟩, h3⟩ := h
    have := rightSeen_len low r s.f0 (by omega) h3
    simp only [List.length_cons]
    rcases this with this | this
    · omega
    · subst this; simp
/-- A right partner. -/
def partnerP (name : ByteArray) (low next : Int) (l : List S62) : Bool := nameP (bytesOf name) && ctrl low && ctrl next && rightSeen low none l
theorem l01Control_eq (n : Int) : spec_l01Control.f n = some (ctrl n) := by
  unfold spec_l01Control.f ctrl
  split
  · congr 1; simp only [decide_eq_decide]; omega
  · congr 1; symm; simp only [decide_eq_false_iff_not]; omega
theorem isControl_eq (n : Int) : impl_isControl.f n = some (ctrl n) := by
  unfold impl_isControl.f
  rw [within_eq]; rfl
theorem isCode_eq (n : Int) : impl_isCode.f n = some (decide (0 ≤ n ∧ n ≤ 13)) := by
  unfold impl_isCode.f
  rw [within_eq]; rfl
theorem rd_prev {L : List S62} {i : Nat} {s : S62} {r : List S62} (h : L.drop i = s :: r) : (i : Int) < (L.length : Int) ∧ rd_T62 L (i : Int) = s ∧ L.drop (i + 1) = r := ldrop_cons z62 h

theorem specPartner_loop (name : ByteArray) (low next : Int) (L : List S62) (hL : (L.length : Int) ≤ 1048576) (hc : 1 ≤ low ∧ low ≤ 999999) : ∀ (l : List S62) (i : Nat) (p : Option Int), L.drop i = l → ((i = 0 ∧ p = none) ∨ (0 < i ∧ p = some (rd_T62 L ((i : Int) - 1)).f0)) →
    Ev (fun k => spec_PartnerRight.l0 k (i : Int) name low next L) (rightSeen low p l) := by
  intro l
  induction l with
  | nil =>
    intro i p h hp
    have h0 := ldrop_nil h
    exact Ev.step (fun k => spec_PartnerRight.l0.eq_2 ..) (Ev.neg (by omega) (Ev.now _))
  | cons s r ih =>
    intro i p h hp
    obtain ⟨h1, h2, h3⟩ := rd_prev h
    have hw : wrap64 ((i : Int) + 1) = ((i + 1 : Nat) : Int) := by rw [wrap_id (by omega) (by omega)]; omega
    have hi := ih (i + 1) (some s.f0) h3 (.inr ⟨by omega, by rw [show (((i + 1 : Nat) : Int) - 1) = (i : Int) by omega, h2]⟩)
    have jt : ∀ {b : Bool}, b = false → Ev (fun k => spec_PartnerRight.j2 k (i : Int) true name low next L) b := fun hb => Ev.step (fun k => spec_PartnerRight.j2.eq_2 ..) (Ev.pos rfl (Ev.ret hb.symm))
    have jn : Ev (fun k => spec_PartnerRight.j2 k (i : Int) false name low next L) (rightSeen low (some s.f0) r) := Ev.step (fun k => spec_PartnerRight.j2.eq_2 ..) (Ev.neg (by simp) (by rw [hw]; exact hi))
    have hlast : lastP p s.f0 = true → low ≤ s.f0 → s.f0 < low + 32 → s.f0 ≤ 999999 → Ev (fun k => (spec_l01Control.f s.f1).bind fun t119 => (if t119 = true then (if s.f2 < 0 then (spec_PartnerRight.j2 k (i : Int) true name low next L) else (spec_PartnerRight.j2 k (i : Int) (decide (s.f2 > 13)) name low next L)) else (spec_PartnerRight.j2 k (i : Int) true name low next L))) (rightSeen low p (s :: r)) := by
      intro g0 g1 g2 g3
      refine Ev.bindc (l01Control_eq _) (Ev.ite (fun g4 => Ev.ite (fun g5 => jt ?_) (fun g5 => ?_)) (fun g4 => jt ?_))
      · simp [rightSeen]; intros; omega
      · by_cases g6 : s.f2 > 13
        · rw [decide_eq_true g6]; exact jt (by simp [rightSeen]; intros; omega)
        · rw [decide_eq_false g6]
          refine jn.to ?_
          simp only [rightSeen, g0, g4, Bool.and_true]
          rw [show decide (low ≤ s.f0 ∧ s.f0 < low + 32 ∧ s.f0 ≤ 999999) = true from by simp [g1, g2, g3], show decide (0 ≤ s.f2 ∧ s.f2 ≤ 13) = true from by simp; omega]
          simp
      · simp [rightSeen, g4]
    refine Ev.step (fun k => spec_PartnerRight.l0.eq_2 ..) (Ev.pos h1 (Ev.pos (by omega) ?_))
    rw [h2, wrap_id (x := low + 32) (by omega) (by omega)]
    refine Ev.ite (fun g1 => jt (by simp [rightSeen]; intros; omega)) (fun g1 => Ev.ite (fun g2 => jt (by simp [rightSeen]; intros; omega)) (fun g2 => Ev.ite (fun g3 => jt (by simp [rightSeen]; intros; omega)) (fun g3 => Ev.ite (fun g4 => ?_) (fun g4 => ?_))))
    · rcases hp with ⟨hp, _⟩ | ⟨hp, rfl⟩
      · omega
      · rw [wrap_id (x := (i : Int) - 1) (by omega) (by omega)]
        refine Ev.pos (by omega) (Ev.pos (by omega) (Ev.ite (fun g5 => jt ?_) (fun g5 => ?_)))
        · have : lastP (some (rd_T62 L ((i : Int) - 1)).f0) s.f0 = false := by simp [lastP]; omega
          simp [rightSeen, this]
        · exact hlast (by simp [lastP]; omega) (by omega) (by omega) (by omega)
    · rcases hp with ⟨_, rfl⟩ | ⟨hp, _⟩
      · exact hlast rfl (by omega) (by omega) (by omega)
      · omega
theorem specPartnerRight_ev (name : ByteArray) (low next : Int) (L : List S62) (hL : (L.length : Int) ≤ 1048576) (hn : (name.size : Int) ≤ 9223372036854775807) : Ev (fun k => spec_PartnerRight.f k name low next L) (partnerP name low next L) := by
  have jt : ∀ {b : Bool}, b = false → Ev (fun k => spec_PartnerRight.j0 k true name low next L) b := fun hb => Ev.step (fun k => spec_PartnerRight.j0.eq_2 ..) (Ev.pos rfl (Ev.ret hb.symm))
  unfold spec_PartnerRight.f
  refine Ev.bind (l01Name_ev name hn) (Ev.ite (fun g1 => Ev.bindc (l01Control_eq _) (Ev.ite (fun g2 => Ev.bindc (l01Control_eq _) (Ev.ite (fun g3 => ?_) (fun g3 => jt (by simp [partnerP, g3])))) (fun g2 => jt (by simp [partnerP, g2])))) (fun g1 => jt (by simp [partnerP, g1])))
  have hc : 1 ≤ low ∧ low ≤ 999999 := by simpa [ctrl] using g2
  by_cases g4 : (L.length : Int) > 32
  · rw [decide_eq_true g4]
    refine jt ?_
    by_cases hr : rightSeen low none L = true
    · have := rightSeen_le low L hr; omega
    · simp [partnerP, hr]
  · rw [decide_eq_false g4]
    refine Ev.step (fun k => spec_PartnerRight.j0.eq_2 ..) (Ev.neg (by simp) ?_)
    exact (specPartner_loop name low next L hL hc L 0 none rfl (.inl ⟨rfl, rfl⟩)).to (by simp [partnerP, g1, g2, g3])

theorem implPartner_end (name : ByteArray) (low next : Int) (hn : (name.size : Int) ≤ 9223372036854775807) : Ev (fun k => (impl_isName.f k name).bind fun t149 => (if t149 = true then ((impl_isControl.f low).bind fun t150 => (if t150 = true then ((impl_isControl.f next).bind fun t151 => (some t151)) else (some false))) else (some false))) (nameP (bytesOf name) && ctrl low && ctrl next) := by
  refine Ev.bind (isName_ev name hn) (Ev.ite (fun g1 => Ev.bindc (isControl_eq _) (Ev.ite (fun g2 => Ev.bindc (isControl_eq _) (Ev.ret (by simp [g1, g2]))) (fun g2 => Ev.ret (by simp [g2])))) (fun g1 => Ev.ret (by simp [g1])))
theorem implPartner_bad (name : ByteArray) (low next : Int) (L : List S62) (hL : (L.length : Int) ≤ 1048576) (hn : (name.size : Int) ≤ 9223372036854775807) (hc : ctrl low = false) : ∀ (d i : Nat), L.length - i = d → Ev (fun k => impl_PartnerRight.l0 k L (L.length : Int) (i : Int) name low next L) false := by
  intro d
  induction d with
  | zero =>
    intro i h
    refine Ev.step (fun k => impl_PartnerRight.l0.eq_2 ..) (Ev.neg (by omega) ?_)
    exact (implPartner_end name low next hn).to (by simp [hc])
  | succ d ih =>
    intro i h
    have hw : wrap64 ((i : Int) + 1) = ((i + 1 : Nat) : Int) := by rw [wrap_id (by omega) (by omega)]; omega
    have jb : ∀ b : Bool, Ev (fun k => impl_PartnerRight.j1 k L (L.length : Int) (i : Int) b name low next L) false := fun b => Ev.step (fun k => impl_PartnerRight.j1.eq_2 ..) (Ev.ite (fun _ => Ev.now _) (fun _ => by rw [hw]; exact ih (i + 1) (by omega)))
    refine Ev.step (fun k => impl_PartnerRight.l0.eq_2 ..) (Ev.pos (by omega) (Ev.pos (by omega) (Ev.pos (by omega) ?_)))
    refine Ev.bindc (within_eq _ _ _) (Ev.ite (fun _ => Ev.ite (fun _ => jb _) (fun _ => Ev.bindc (isControl_eq _) (Ev.ite (fun _ => Ev.bindc (isCode_eq _) (Ev.ite (fun _ => Ev.ite (fun g => ?_) (fun _ => jb _)) (fun _ => jb _))) (fun _ => jb _)))) (fun _ => jb _))
    rw [wrap_id (x := (i : Int) - 1) (by omega) (by omega)]
    exact Ev.pos (by omega) (Ev.pos (by omega) (jb _))
theorem implPartner_loop (name : ByteArray) (low next : Int) (L : List S62) (hL : (L.length : Int) ≤ 1048576) (hn : (name.size : Int) ≤ 9223372036854775807) (hc : 1 ≤ low ∧ low ≤ 999999) : ∀ (l : List S62) (i : Nat) (p : Option Int), L.drop i = l → ((i = 0 ∧ p = none) ∨ (0 < i ∧ p = some (rd_T62 L ((i : Int) - 1)).f0)) →
    Ev (fun k => impl_PartnerRight.l0 k L (L.length : Int) (i : Int) name low next L) (rightSeen low p l && (nameP (bytesOf name) && ctrl low && ctrl next)) := by
  intro l
  induction l with
  | nil =>
    intro i p h hp
    have h0 := ldrop_nil h
    refine Ev.step (fun k => impl_PartnerRight.l0.eq_2 ..) (Ev.neg (by omega) ?_)
    exact (implPartner_end name low next hn).to (by simp [rightSeen])
  | cons s r ih =>
    intro i p h hp
    obtain ⟨h1, h2, h3⟩ := rd_prev h
    have hw : wrap64 ((i : Int) + 1) = ((i + 1 : Nat) : Int) := by rw [wrap_id (by omega) (by omega)]; omega
    have hi := ih (i + 1) (some s.f0) h3 (.inr ⟨by omega, by rw [show (((i + 1 : Nat) : Int) - 1) = (i : Int) by omega, h2]⟩)
    have jt : ∀ {b : Bool}, b = false → Ev (fun k => impl_PartnerRight.j1 k L (L.length : Int) (i : Int) true name low next L) b := fun hb => Ev.step (fun k => impl_PartnerRight.j1.eq_2 ..) (Ev.pos rfl (Ev.ret hb.symm))
    have jn : Ev (fun k => impl_PartnerRight.j1 k L (L.length : Int) (i : Int) false name low next L) (rightSeen low (some s.f0) r && (nameP (bytesOf name) && ctrl low && ctrl next)) := Ev.step (fun k => impl_PartnerRight.j1.eq_2 ..) (Ev.neg (by simp) (by rw [hw]; exact hi))
    refine Ev.step (fun k => impl_PartnerRight.l0.eq_2 ..) (Ev.pos h1 (Ev.pos (by omega) (Ev.pos h1 ?_)))
    rw [h2]
    refine Ev.bindc (within_eq _ _ _) (Ev.ite (fun g1 => ?_) (fun g1 => jt ?_))
    rotate_left
    · have : ¬ (low ≤ s.f0 ∧ s.f0 ≤ 999999) := by simpa [withinP] using g1
      have : decide (low ≤ s.f0 ∧ s.f0 < low + 32 ∧ s.f0 ≤ 999999) = false := by simp; omega
      simp [rightSeen, this]
    have g1' : low ≤ s.f0 ∧ s.f0 ≤ 999999 := by simpa [withinP] using g1
    rw [wrap_id (x := s.f0 - low) (by omega) (by omega)]
    refine Ev.ite (fun g2 => jt ?_) (fun g2 => Ev.bindc (isControl_eq _) (Ev.ite (fun g3 => Ev.bindc (isCode_eq _) (Ev.ite (fun g4 => ?_) (fun g4 => jt ?_))) (fun g3 => jt ?_)))
    · have : decide (low ≤ s.f0 ∧ s.f0 < low + 32 ∧ s.f0 ≤ 999999) = false := by simp; omega
      simp [rightSeen, this]
    · have e1 : decide (low ≤ s.f0 ∧ s.f0 < low + 32 ∧ s.f0 ≤ 999999) = true := by simp; omega
      refine Ev.ite (fun g5 => ?_) (fun g5 => ?_)
      · rcases hp with ⟨hp, _⟩ | ⟨hp, rfl⟩
        · omega
        · rw [wrap_id (x := (i : Int) - 1) (by omega) (by omega)]
          refine Ev.pos (by omega) (Ev.pos (by omega) ?_)
          by_cases g6 : s.f0 ≤ (rd_T62 L ((i : Int) - 1)).f0
          · rw [decide_eq_true g6]
            have : lastP (some (rd_T62 L ((i : Int) - 1)).f0) s.f0 = false := by simp [lastP]; omega
            exact jt (by simp [rightSeen, this])
          · rw [decide_eq_false g6]
            have : lastP (some (rd_T62 L ((i : Int) - 1)).f0) s.f0 = true := by simp [lastP]; omega
            refine jn.to ?_
            simp only [rightSeen, e1, this, g3, g4, Bool.and_true, Bool.true_and]
      · rcases hp with ⟨_, rfl⟩ | ⟨hp, _⟩
        · refine jn.to ?_
          simp only [rightSeen, lastP, e1, g3, g4, Bool.and_true, Bool.true_and]
        · omega
    · have : decide (0 ≤ s.f2 ∧ s.f2 ≤ 13) = false := by simpa using g4
      simp [rightSeen, this]
    · simp [rightSeen, g3]
theorem implPartnerRight_ev (name : ByteArray) (low next : Int) (L : List S62) (hL : (L.length : Int) ≤ 1048576) (hn : (name.size : Int) ≤ 9223372036854775807) : Ev (fun k => impl_PartnerRight.f k name low next L) (partnerP name low next L) := by
  unfold impl_PartnerRight.f
  by_cases hc : ctrl low = true
  · exact (implPartner_loop name low next L hL hn (by simpa [ctrl] using hc) L 0 none rfl (.inl ⟨rfl, rfl⟩)).to (by simp only [partnerP]; rw [Bool.and_comm])
  · have hc' : ctrl low = false := by simpa using hc
    exact (implPartner_bad name low next L hL hn hc' L.length 0 (by omega)).to (by simp [partnerP, hc'])

theorem seen_loop (name : ByteArray) (low next : Int) (L : List S62) (n : Int) (hL : (L.length : Int) ≤ 1048576) : ∀ (r : List S62) (i : Nat), L.drop i = r → ∃ x : Int, Ev (fun k => spec_l07Find.l0 k n (i : Int) name low next L) x ∧ Ev (fun k => impl_Seen__impl_Partner_seen_1.l0 k L (L.length : Int) (i : Int) n) x ∧ -1 ≤ x ∧ x < (L.length : Int) := by
  intro r
  induction r with
  | nil =>
    intro i h
    have h0 := ldrop_nil h
    exact ⟨-1, Ev.step (fun k => spec_l07Find.l0.eq_2 ..) (Ev.neg (by omega) (Ev.now _)), Ev.step (fun k => impl_Seen__impl_Partner_seen_1.l0.eq_2 ..) (Ev.neg (by omega) (Ev.now _)), by omega, by omega⟩
  | cons e r ih =>
    intro i h
    obtain ⟨h1, h2, h3⟩ := ldrop_cons z62 h
    have hr : rd_T62 L (i : Int) = e := h2
    obtain ⟨x, hx1, hx2, hx3, hx4⟩ := ih (i + 1) h3
    have hw := wi_ (i := i) (by omega)
    rw [← hw] at hx1 hx2
    by_cases g : e.f0 = n
    · refine ⟨i, Ev.step (fun k => spec_l07Find.l0.eq_2 ..) (Ev.pos h1 (Ev.pos (by omega) ?_)), Ev.step (fun k => impl_Seen__impl_Partner_seen_1.l0.eq_2 ..) (Ev.pos h1 (Ev.pos (by omega) (Ev.pos h1 ?_))), by omega, by omega⟩
      · rw [hr]; exact Ev.pos g (Ev.now _)
      · rw [hr]; exact Ev.bindc (show impl_Partner_seen_1.f e.f0 e.f1 e.f2 n = some true from by simp [impl_Partner_seen_1.f, g]) (Ev.pos rfl (Ev.now _))
    · refine ⟨x, Ev.step (fun k => spec_l07Find.l0.eq_2 ..) (Ev.pos h1 (Ev.pos (by omega) ?_)), Ev.step (fun k => impl_Seen__impl_Partner_seen_1.l0.eq_2 ..) (Ev.pos h1 (Ev.pos (by omega) (Ev.pos h1 ?_))), hx3, hx4⟩
      · rw [hr]; exact Ev.neg g hx1
      · rw [hr]; exact Ev.bindc (show impl_Partner_seen_1.f e.f0 e.f1 e.f2 n = some false from by simp [impl_Partner_seen_1.f, g]) (Ev.neg (by simp) hx2)
theorem ask_both (name : ByteArray) (low next : Int) (L : List S62) (n : Int) (hL : (L.length : Int) ≤ 1048576) (hn : (name.size : Int) ≤ 9223372036854775807) : ∃ v, Ev (fun k => spec_PartnerAsk.f k name low next L n) v ∧ Ev (fun k => impl_PartnerAsk.f k name low next L n) v := by
  have s1 := specPartnerRight_ev name low next L hL hn
  have i1 := implPartnerRight_ev name low next L hL hn
  have sF : Ev (fun k => spec_PartnerAsk.j0 k n true name low next L) 0 := Ev.step (fun k => spec_PartnerAsk.j0.eq_2 ..) (Ev.pos rfl (Ev.now _))
  unfold spec_PartnerAsk.f impl_PartnerAsk.f
  revert s1 i1
  generalize partnerP name low next L = b
  intro s1 i1
  cases b with
  | false => exact ⟨0, Ev.bind s1 (Ev.neg (by simp) sF), Ev.bind i1 (Ev.neg (by simp) (Ev.now _))⟩
  | true =>
    by_cases hc : ctrl n = true
    · obtain ⟨x, hx1, hx2, hx3, hx4⟩ := seen_loop name low next L n hL L 0 rfl
      have f1 : Ev (fun k => spec_l07Find.f k name low next L n) x := hx1
      have f2 : Ev (fun k => impl_Seen__impl_Partner_seen_1.f k L n) x := hx2
      by_cases hlow : n < low
      · have hk : ∃ q : Int × Int × Int × Bool, Ev (fun k => impl_Partner_seen.f k name low next L n) q := by
          unfold impl_Partner_seen.f
          by_cases hx : x < 0
          · exact ⟨_, Ev.bind f2 (Ev.pos hx (Ev.now _))⟩
          · exact ⟨_, Ev.bind f2 (Ev.neg hx (Ev.pos (by omega) (Ev.pos hx4 (Ev.now _))))⟩
        obtain ⟨q, hq⟩ := hk
        refine ⟨3, Ev.bind s1 (Ev.pos rfl (Ev.bindc (l01Control_eq n) (Ev.step (fun k => spec_PartnerAsk.j0.eq_2 ..) (Ev.neg (by simp [hc]) (Ev.pos hlow (Ev.now _)))))), Ev.bind i1 (Ev.pos rfl (Ev.bindc (isControl_eq n) (Ev.pos hc (Ev.bind (a := 3) ?_ (Ev.now _)))))⟩
        unfold impl_Partner_ask.f
        exact Ev.bind hq (Ev.pos hlow (Ev.now _))
      · by_cases hx : x < 0
        · have hq : Ev (fun k => impl_Partner_seen.f k name low next L n) (0, 0, 0, false) := by
            unfold impl_Partner_seen.f
            exact Ev.bind f2 (Ev.pos hx (Ev.now _))
          refine ⟨1, Ev.bind s1 (Ev.pos rfl (Ev.bindc (l01Control_eq n) (Ev.step (fun k => spec_PartnerAsk.j0.eq_2 ..) (Ev.neg (by simp [hc]) (Ev.neg hlow (Ev.bind f1 (Ev.neg (by omega) (Ev.now _)))))))), Ev.bind i1 (Ev.pos rfl (Ev.bindc (isControl_eq n) (Ev.pos hc (Ev.bind (a := 1) ?_ (Ev.now _)))))⟩
          unfold impl_Partner_ask.f
          exact Ev.bind hq (Ev.neg hlow (Ev.neg (by simp) (Ev.now _)))
        · have hq : Ev (fun k => impl_Partner_seen.f k name low next L n) ((rd_T62 L x).f0, (rd_T62 L x).f1, (rd_T62 L x).f2, true) := by
            unfold impl_Partner_seen.f
            exact Ev.bind f2 (Ev.neg hx (Ev.pos (by omega) (Ev.pos hx4 (Ev.now _))))
          refine ⟨2, Ev.bind s1 (Ev.pos rfl (Ev.bindc (l01Control_eq n) (Ev.step (fun k => spec_PartnerAsk.j0.eq_2 ..) (Ev.neg (by simp [hc]) (Ev.neg hlow (Ev.bind f1 (Ev.pos (by omega) (Ev.now _)))))))), Ev.bind i1 (Ev.pos rfl (Ev.bindc (isControl_eq n) (Ev.pos hc (Ev.bind (a := 2) ?_ (Ev.now _)))))⟩
          unfold impl_Partner_ask.f
          exact Ev.bind hq (Ev.neg hlow (Ev.pos rfl (Ev.now _)))
    · exact ⟨0, Ev.bind s1 (Ev.pos rfl (Ev.bindc (l01Control_eq n) (by rw [Bool.not_eq_true] at hc; rw [hc]; exact sF))), Ev.bind i1 (Ev.pos rfl (Ev.bindc (isControl_eq n) (Ev.neg hc (Ev.now _))))⟩

theorem FnExactPartnerAsk : laws_FnExactPartnerAsk.Pure := by
  intro name low next l n h0 h1 h2 h3 h4
  refine Ev.rounds (g := fun k => laws_FnExactPartnerAsk.f k name low next l n) ?_
  unfold laws_FnExactPartnerAsk.f
  have hm : name.size ≤ 9223372036854775807 := h0
  obtain ⟨w, u, t⟩ := szPartner_ev name low next l 1048576 (by omega) (by omega) h0 h3
  rcases t with t | ⟨t, _, hba, hbl⟩
  · exact Ev.bind u (Ev.pos (by omega) (Ev.now _))
  · have ht := toPartner_ev name low next l hbl
    have hlen : ((l.map cSeen).length : Int) ≤ 1048576 := by rw [List.length_map]; omega
    obtain ⟨v, hs, hi⟩ := ask_both name low next (l.map cSeen) n hlen (by omega)
    have he := eqPartner_refl name low next (l.map cSeen) ⟨by omega, fun _ _ => trivial⟩
    exact Ev.bind u (Ev.neg (by omega) (Ev.bind ht (Ev.bind hs (Ev.bind ht (Ev.bind hi (Ev.pos rfl (Ev.bind ht (Ev.bind he (Ev.pos rfl (Ev.now _))))))))))

end Go.Proofs.Ytjffakoifpldeaa.Pure
