/- The law FnExactPartnerNew as a statement over numbers and lists alone: the two PartnerNews tell the same.
Conditions: none. -/
import Derived.Test.YtkmpfgpamlfldaaPFnExactPartnerNewx
import Derived.Test.YtkmpfgpamlfldaaPl
namespace Go.Proofs.Ytkmpfgpamlfldaa.Pure
open Go.RowKit Go.Proofs.Ytkmpfgpamlfldaa.PFnExactPartnerNew Go.Proofs.YtkmpfgpamlfldaaW.PrintWords Go.Proofs.YtkmpfgpamlfldaaW.PrintLast Go.Proofs.YtkmpfgpamlfldaaW.PrintMore Go.Proofs.YtkmpfgpamlfldaaW.Pl
set_option linter.unusedVariables false
set_option linter.unusedSimpArgs false

theorem within_eq (a b c : Int) : impl_within.f a b c = some (withinP a b c) := by
  unfold impl_within.f withinP
  split
  · congr 1; simp only [decide_eq_decide]; omega
  · congr 1; symm; simp only [decide_eq_false_iff_not]; omega

theorem isGreat_eq (c : Int) : impl_isGreat.f c = some (great c) := by
  unfold impl_isGreat.f great
  split
  · congr 1; simp only [decide_eq_decide]; omega
  · congr 1; symm; simp only [decide_eq_false_iff_not]; omega
theorem isDigit_eq (c : Int) : impl_isDigit.f c = some (digit c) := by
  unfold impl_isDigit.f digit
  split
  · congr 1; simp only [decide_eq_decide]; omega
  · congr 1; symm; simp only [decide_eq_false_iff_not]; omega

theorem great_t {c : Int} (h : 65 ≤ c) (h' : c ≤ 90) : great c = true := by simp [great, h, h']
theorem great_f {c : Int} (h : ¬ (65 ≤ c ∧ c ≤ 90)) : great c = false := by simp [great]; omega
theorem digit_t {c : Int} (h : 48 ≤ c) (h' : c ≤ 57) : digit c = true := by simp [digit, h, h']
theorem digit_f {c : Int} (h : ¬ (48 ≤ c ∧ c ≤ 57)) : digit c = false := by simp [digit]; omega

theorem isName_loop (s : ByteArray) (hs : (s.size : Int) ≤ 9223372036854775807) : ∀ (l : List Int) (i : Nat), 1 ≤ i → (bytesOf s).drop i = l → Ev (fun k => impl_isName.l0 k s (s.size : Int) (i : Int)) (l.all nameCh && withinP (s.size : Int) 1 12) := by
  intro l
  induction l with
  | nil =>
    intro i hi h
    have h0 := drop_nil h
    refine Ev.step (fun k => impl_isName.l0.eq_2 ..) ?_
    refine Ev.neg (by omega) ?_
    refine Ev.bindc (within_eq _ _ _) ?_
    exact Ev.ret (by simp)
  | cons c r ih =>
    intro i hi h
    obtain ⟨h1, h2, h3, _, _⟩ := drop_cons h
    have hw : wrap64 ((i : Int) + 1) = ((i + 1 : Nat) : Int) := by rw [wrap_id (by omega) (by omega)]; omega
    have hn := ih (i + 1) (by omega) h3
    refine Ev.step (fun k => impl_isName.l0.eq_2 ..) ?_
    refine Ev.pos h1 (Ev.pos (by omega) (Ev.pos h1 ?_))
    rw [h2]
    refine Ev.bindc (isGreat_eq _) ?_
    by_cases hg : great c = true
    · refine Ev.pos hg ?_
      rw [hw]
      exact hn.to (by simp [nameCh, hg])
    · refine Ev.neg hg (Ev.neg (by omega) ?_)
      refine Ev.bindc (isDigit_eq _) ?_
      by_cases hd : digit c = true
      · refine Ev.pos hd ?_
        rw [hw]
        exact hn.to (by simp [nameCh, hd])
      · refine Ev.neg hd ?_
        by_cases he : c = 45
        · refine Ev.pos he ?_
          rw [hw]
          exact hn.to (by simp [nameCh, he])
        · refine Ev.neg he ?_
          exact Ev.ret (by simp [nameCh, hg, hd, he])
theorem isName_ev (s : ByteArray) (hs : (s.size : Int) ≤ 9223372036854775807) : Ev (fun k => impl_isName.f k s) (nameP (bytesOf s)) := by
  have hl := length_bytesOf s
  show Ev (fun k => impl_isName.l0 k s (s.size : Int) ((0 : Nat) : Int)) _
  match hb : bytesOf s with
  | [] =>
    have h0 := drop_nil (s := s) (i := 0) (by simp [hb])
    refine Ev.step (fun k => impl_isName.l0.eq_2 ..) ?_
    refine Ev.neg (by omega) ?_
    refine Ev.bindc (within_eq _ _ _) ?_
    exact Ev.ret (by simp [withinP, nameP]; omega)
  | c :: r =>
    obtain ⟨h1, h2, h3, _, _⟩ := drop_cons (s := s) (i := 0) (c := c) (r := r) (by simp [hb])
    have hn := isName_loop s hs r 1 (by omega) h3
    rw [hb] at hl
    simp only [List.length_cons] at hl
    refine Ev.step (fun k => impl_isName.l0.eq_2 ..) ?_
    refine Ev.pos h1 (Ev.pos (by omega) (Ev.pos h1 ?_))
    rw [h2]
    refine Ev.bindc (isGreat_eq _) ?_
    by_cases hg : great c = true
    · refine Ev.pos hg ?_
      rw [show wrap64 (((0 : Nat) : Int) + 1) = ((1 : Nat) : Int) from by rw [wrap_id (by omega) (by omega)]; rfl]
      refine hn.to ?_
      have : withinP (s.size : Int) 1 12 = decide (r.length ≤ 11) := by
        simp only [withinP, decide_eq_decide]; omega
      simp [nameP, hg, this]
    · refine Ev.neg hg (Ev.pos rfl ?_)
      exact Ev.ret (by simp [nameP, hg])

theorem l01Name_loop (s : ByteArray) (hs : (s.size : Int) ≤ 9223372036854775807) : ∀ (l : List Int) (i : Nat), (bytesOf s).drop i = l → Ev (fun k => spec_l01Name.l0 k s (i : Int)) (l.all nameCh) := by
  intro l
  induction l with
  | nil =>
    intro i h
    have h0 := drop_nil h
    refine Ev.step (fun k => spec_l01Name.l0.eq_2 ..) ?_
    exact Ev.neg (by omega) (Ev.ret (by simp))
  | cons c r ih =>
    intro i h
    obtain ⟨h1, h2, h3, _, _⟩ := drop_cons h
    have hw : wrap64 ((i : Int) + 1) = ((i + 1 : Nat) : Int) := by rw [wrap_id (by omega) (by omega)]; omega
    have hn := ih (i + 1) h3
    refine Ev.step (fun k => spec_l01Name.l0.eq_2 ..) ?_
    refine Ev.pos h1 (Ev.pos (by omega) ?_)
    rw [h2, hw]
    by_cases hk : nameCh c = true
    · have hn' : Ev (fun k => spec_l01Name.l0 k s ((i + 1 : Nat) : Int)) ((c :: r).all nameCh) := hn.to (by simp [hk])
      have hk' : (65 ≤ c ∧ c ≤ 90) ∨ (48 ≤ c ∧ c ≤ 57) ∨ c = 45 := by simp [nameCh, great, digit, or_assoc] at hk; exact hk
      refine Ev.ite (fun g1 => Ev.ite (fun g2 => hn') (fun g2 => Ev.ite (fun g3 => Ev.ite (fun g4 => hn') (fun g4 => Ev.ite (fun g5 => hn') (fun g5 => ?_))) (fun g3 => Ev.ite (fun g5 => hn') (fun g5 => ?_)))) (fun g1 => Ev.ite (fun g3 => Ev.ite (fun g4 => hn') (fun g4 => Ev.ite (fun g5 => hn') (fun g5 => ?_))) (fun g3 => Ev.ite (fun g5 => hn') (fun g5 => ?_)))
      all_goals exact absurd hk' (by omega)
    · have hf : Ev (fun _ : Nat => some false) ((c :: r).all nameCh) := Ev.ret (by simp [hk])
      have hk' : ¬ ((65 ≤ c ∧ c ≤ 90) ∨ (48 ≤ c ∧ c ≤ 57) ∨ c = 45) := by simp [nameCh, great, digit] at hk; omega
      refine Ev.ite (fun g1 => Ev.ite (fun g2 => ?_) (fun g2 => Ev.ite (fun g3 => Ev.ite (fun g4 => ?_) (fun g4 => Ev.ite (fun g5 => ?_) (fun g5 => hf))) (fun g3 => Ev.ite (fun g5 => ?_) (fun g5 => hf)))) (fun g1 => Ev.ite (fun g3 => Ev.ite (fun g4 => ?_) (fun g4 => Ev.ite (fun g5 => ?_) (fun g5 => hf))) (fun g3 => Ev.ite (fun g5 => ?_) (fun g5 => hf)))
      all_goals exact absurd (show (65 ≤ c ∧ c ≤ 90) ∨ (48 ≤ c ∧ c ≤ 57) ∨ c = 45 by omega) hk'
theorem l01Name_ev (s : ByteArray) (hs : (s.size : Int) ≤ 9223372036854775807) : Ev (fun k => spec_l01Name.f k s) (nameP (bytesOf s)) := by
  have hl := length_bytesOf s
  have hj : ∀ b, b = false → Ev (fun k => spec_l01Name.j0 k s true) b := fun b hb => Ev.step (fun k => spec_l01Name.j0.eq_2 ..) (Ev.pos rfl (Ev.ret hb.symm))
  unfold spec_l01Name.f
  match hb : bytesOf s with
  | [] =>
    have h0 := drop_nil (s := s) (i := 0) (by simp [hb])
    refine Ev.pos (by omega) (hj _ rfl)
  | c :: r =>
    obtain ⟨h1, h2, h3, _, _⟩ := drop_cons (s := s) (i := 0) (c := c) (r := r) (by simp [hb])
    have hn := l01Name_loop s hs (c :: r) 0 (by simp [hb])
    rw [hb] at hl
    simp only [List.length_cons] at hl
    have h2' : bt s 0 = c := h2
    refine Ev.neg (by omega) (Ev.ite (fun g => hj _ (by simp [nameP]; intros; omega)) (fun g => Ev.pos (by omega) ?_))
    rw [h2']
    refine Ev.ite (fun g1 => hj _ (by simp [nameP, great]; intros; omega)) (fun g1 => ?_)
    by_cases g2 : c > 90
    · rw [show decide (c > 90) = true from by simp [g2]]
      exact hj _ (by simp [nameP, great]; intros; omega)
    · rw [show decide (c > 90) = false from by simp [g2]]
      refine Ev.step (fun k => spec_l01Name.j0.eq_2 ..) (Ev.neg (by simp) ?_)
      have hg : great c = true := by simp [great]; omega
      refine hn.to ?_
      have : r.length ≤ 11 := by omega
      simp [nameP, hg, nameCh, this]

theorem wi_ {i : Nat} (h : (i : Int) ≤ 4611686018427387904) : wrap64 ((i : Int) + 1) = ((i + 1 : Nat) : Int) := by rw [wrap_id (by omega) (by omega)]; omega
/-- A list that is copied into a new one, place by place. -/
theorem tos_list {α β : Type} (z : α) (g : α → β) (T : Nat → List α → List β → Int → Option (List β)) (L : List α)
    (hT : ∀ (D : List β) (i : Nat) (r : List β), i < L.length → D.length = L.length → Ev (fun k => T k L (D.set i (g (L.getD i z))) ((i + 1 : Nat) : Int)) r → Ev (fun k => T k L D (i : Int)) r)
    (hT0 : ∀ (D : List β) (i : Nat), L.length ≤ i → Ev (fun k => T k L D (i : Int)) D) :
    ∀ (d : Nat) (D : List β) (i : Nat), L.length - i = d → D.length = L.length → (∀ j, j < i → D[j]? = (L.map g)[j]?) → Ev (fun k => T k L D (i : Int)) (L.map g)
  | 0, D, i, hd, hl, hp => by
    have e : D = L.map g := by
      apply List.ext_getElem?
      intro j
      by_cases h : j < i
      · exact hp j h
      · rw [List.getElem?_eq_none (by omega), List.getElem?_eq_none (by rw [List.length_map]; omega)]
    subst e
    exact hT0 _ i (by omega)
  | d + 1, D, i, hd, hl, hp => by
    refine hT D i _ (by omega) hl (tos_list z g T L hT hT0 d _ (i + 1) (by omega) (by rw [List.length_set]; exact hl) (fun j hj => ?_))
    by_cases h : j = i
    · subst h
      rw [List.getElem?_set_self (by omega), List.getElem?_map, List.getD_eq_getElem?_getD, List.getElem?_eq_getElem (by omega : j < L.length)]
      rfl
    · rw [List.getElem?_set_ne (by omega)]
      exact hp j (by omega)
/-- A list is measured, place by place: it is too great, or each element is bounded. -/
theorem sz_list {α : Type} (z : α) (P : α → Prop) (Z : Nat → List α → Int → Int → Option Int) (L : List α)
    (hs : ∀ (i : Nat) (x : Int), i < L.length → 0 ≤ x → x ≤ 1048576 → Ev (fun k => Z k L x (i : Int)) (-1) ∨ ∃ x', 0 ≤ x' ∧ x' ≤ x ∧ P (L.getD i z) ∧ ∀ r, Ev (fun k => Z k L x' ((i + 1 : Nat) : Int)) r → Ev (fun k => Z k L x (i : Int)) r)
    (h0 : ∀ (i : Nat) (x : Int), L.length ≤ i → Ev (fun k => Z k L x (i : Int)) x) :
    ∀ (d i : Nat) (x : Int), L.length - i = d → 0 ≤ x → x ≤ 1048576 → ∃ w, Ev (fun k => Z k L x (i : Int)) w ∧ (w = -1 ∨ (0 ≤ w ∧ w ≤ x ∧ ∀ j, i ≤ j → j < L.length → P (L.getD j z)))
  | 0, i, x, hd, h1, h2 => ⟨x, h0 i x (by omega), .inr ⟨h1, by omega, fun j _ _ => by omega⟩⟩
  | d + 1, i, x, hd, h1, h2 => by
    rcases hs i x (by omega) h1 h2 with h | ⟨x', g1, g2, g3, g4⟩
    · exact ⟨-1, h, .inl rfl⟩
    · obtain ⟨w, e1, e2⟩ := sz_list z P Z L hs h0 d (i + 1) x' (by omega) g1 (by omega)
      refine ⟨w, g4 w e1, ?_⟩
      rcases e2 with e2 | ⟨e2, e3, e4⟩
      · exact .inl e2
      · refine .inr ⟨e2, by omega, fun j hj hl => ?_⟩
        by_cases h : j = i
        · subst h; exact g3
        · exact e4 j (by omega) hl
theorem sz_all {α : Type} (z : α) (P : α → Prop) (L : List α) (h : ∀ j, 0 ≤ j → j < L.length → P (L.getD j z)) : ∀ x ∈ L, P x := by
  intro x hx
  obtain ⟨j, hj, rfl⟩ := List.getElem_of_mem hx
  have := h j (by omega) hj
  rwa [List.getD_eq_getElem?_getD, List.getElem?_eq_getElem hj] at this
theorem getD_mem {α : Type} {L : List α} {i : Nat} (z : α) (h : i < L.length) : L.getD i z ∈ L := by
  rw [List.getD_eq_getElem?_getD, List.getElem?_eq_getElem h]
  exact List.getElem_mem h
/-- A text that is bounded; a list of them. -/
def bT (s : ByteArray) : Prop := s.size ≤ 1048576
def bTs (l : List ByteArray) : Prop := l.length ≤ 1048576 ∧ ∀ s ∈ l, bT s

/-- A comparison of lists, place by place: of one list with itself. -/
theorem eqs_refl {α : Type} (Q : Nat → List α → List α → Int → Option Bool) (L : List α) (hs : ∀ i : Nat, i < L.length → Ev (fun k => Q k L L ((i + 1 : Nat) : Int)) true → Ev (fun k => Q k L L (i : Int)) true) (h0 : ∀ i : Nat, L.length ≤ i → Ev (fun k => Q k L L (i : Int)) true) : ∀ (d i : Nat), L.length - i = d → Ev (fun k => Q k L L (i : Int)) true
  | 0, i, h => h0 i (by omega)
  | d + 1, i, h => hs i (by omega) (eqs_refl Q L hs h0 d (i + 1) (by omega))

theorem eqSeen_refl (a0 : Int) (a1 : Int) (a2 : Int)  : Ev (fun k => laws_eqSeen.f a0 a1 a2 a0 a1 a2) true := by
  unfold laws_eqSeen.f
  exact Ev.pos rfl (Ev.pos rfl (Ev.pos rfl (Ev.now _)))

/-- Of a Seen: its lists are bounded. -/
def eSeen (x : S96) : Prop := True
theorem eqSeenS_refl (l : List S96) (hl : (l.length : Int) ≤ 4611686018427387904) (hb : ∀ y ∈ l, eSeen y) : Ev (fun k => laws_eqSeenS.f k l l) true := by
  unfold laws_eqSeenS.f
  refine Ev.pos rfl (eqs_refl laws_eqSeenS.l0 l (fun i hi h => ?_) (fun i hi => ?_) l.length 0 (by omega))
  · have hr : rd_T96 l (i : Int) = l.getD i z96 := by unfold rd_T96; rw [Int.toNat_natCast]
    refine Ev.step (fun k => laws_eqSeenS.l0.eq_2 ..) (Ev.pos (by omega) (Ev.pos (by omega) (Ev.pos (by omega) ?_)))
    rw [hr, wi_ (by omega)]
    exact Ev.bind (eqSeen_refl (l.getD i z96).f0 (l.getD i z96).f1 (l.getD i z96).f2 ) (Ev.pos rfl h)
  · exact Ev.step (fun k => laws_eqSeenS.l0.eq_2 ..) (Ev.neg (by omega) (Ev.now _))

theorem eqPartner_refl (a0 : ByteArray) (a1 : Int) (a2 : Int) (a3 : List S96) (h3 : ((a3.length : Int) ≤ 4611686018427387904 ∧ ∀ y ∈ a3, eSeen y)) : Ev (fun k => laws_eqPartner.f k a0 a1 a2 a3 a0 a1 a2 a3) true := by
  unfold laws_eqPartner.f
  exact Ev.pos rfl (Ev.pos rfl (Ev.pos rfl (Ev.bind (eqSeenS_refl a3 h3.1 h3.2) (Ev.pos rfl (Ev.now _)))))

/-- A list is marked, place by place, and then held. -/
theorem mark_held {α : Type} (z : α) (M : Nat → List α → Int → Int → Option (Int × List α)) (H : Nat → List α → Int → Int → Option Int) (E : Int → α → α) (st : Int) (hst : 0 ≤ st)
    (hM : ∀ (L : List α) (i : Nat) (x : Int) (r : Int × List α), (L.length : Int) ≤ 4611686018427387904 → i < L.length → 0 ≤ x → x + st ≤ 4611686018427387904 → Ev (fun k => M k (L.set i (E x (L.getD i z))) (x + st) ((i + 1 : Nat) : Int)) r → Ev (fun k => M k L x (i : Int)) r)
    (hM0 : ∀ (L : List α) (i : Nat) (x : Int), L.length ≤ i → Ev (fun k => M k L x (i : Int)) (x, L))
    (hH : ∀ (F : List α) (i : Nat) (x : Int) (y : α) (r : Int), (F.length : Int) ≤ 4611686018427387904 → i < F.length → 0 ≤ x → x + st ≤ 4611686018427387904 → F.getD i z = E x y → Ev (fun k => H k F (x + st) ((i + 1 : Nat) : Int)) r → Ev (fun k => H k F x (i : Int)) r)
    (hH0 : ∀ (F : List α) (i : Nat) (x : Int), F.length ≤ i → Ev (fun k => H k F x (i : Int)) x) :
    ∀ (d : Nat) (L : List α) (i : Nat) (x : Int), (L.length : Int) ≤ 4611686018427387904 → L.length - i = d → 0 ≤ x → x + st * (d : Int) ≤ 4611686018427387904 →
      ∃ F m, Ev (fun k => M k L x (i : Int)) (m, F) ∧ F.length = L.length ∧ (∀ j, j < i → F.getD j z = L.getD j z) ∧ Ev (fun k => H k F x (i : Int)) m ∧ x ≤ m ∧ m = x + st * (d : Int) := by
  intro d
  induction d with
  | zero =>
    intro L i x hl hd h0 h1
    exact ⟨L, x, hM0 L i x (by omega), rfl, fun _ _ => rfl, hH0 L i x (by omega), by omega, by simp⟩
  | succ d ih =>
    intro L i x hl hd h0 h1
    have hm : st * ((d + 1 : Nat) : Int) = st * (d : Int) + st := by
      have : ((d + 1 : Nat) : Int) = (d : Int) + 1 := by omega
      rw [this, Int.mul_add, Int.mul_one]
    rw [hm] at h1
    have hp : 0 ≤ st * (d : Int) := Int.mul_nonneg hst (by omega)
    obtain ⟨F, m, e1, e2, e3, e4, e5, e6⟩ := ih (L.set i (E x (L.getD i z))) (i + 1) (x + st) (by rw [List.length_set]; omega) (by rw [List.length_set]; omega) (by omega) (by omega)
    rw [List.length_set] at e2
    refine ⟨F, m, hM L i x _ hl (by omega) h0 (by omega) e1, e2, fun j hj => ?_, ?_, by omega, by rw [hm]; omega⟩
    · rw [e3 j (by omega)]
      simp only [List.getD_eq_getElem?_getD]
      rw [List.getElem?_set_ne (by omega)]
    · refine hH F i x (L.getD i z) m (by omega) (by omega) h0 (by omega) ?_ e4
      rw [e3 i (by omega)]
      simp only [List.getD_eq_getElem?_getD]
      rw [List.getElem?_set_self (by omega)]
      rfl
theorem mark_held0 {α : Type} (z : α) (M : Nat → List α → Int → Int → Option (Int × List α)) (H : Nat → List α → Int → Int → Option Int) (E : Int → α → α) (st : Int) (hst : 0 ≤ st)
    (hM : ∀ (L : List α) (i : Nat) (x : Int) (r : Int × List α), (L.length : Int) ≤ 4611686018427387904 → i < L.length → 0 ≤ x → x + st ≤ 4611686018427387904 → Ev (fun k => M k (L.set i (E x (L.getD i z))) (x + st) ((i + 1 : Nat) : Int)) r → Ev (fun k => M k L x (i : Int)) r)
    (hM0 : ∀ (L : List α) (i : Nat) (x : Int), L.length ≤ i → Ev (fun k => M k L x (i : Int)) (x, L))
    (hH : ∀ (F : List α) (i : Nat) (x : Int) (y : α) (r : Int), (F.length : Int) ≤ 4611686018427387904 → i < F.length → 0 ≤ x → x + st ≤ 4611686018427387904 → F.getD i z = E x y → Ev (fun k => H k F (x + st) ((i + 1 : Nat) : Int)) r → Ev (fun k => H k F x (i : Int)) r)
    (hH0 : ∀ (F : List α) (i : Nat) (x : Int), F.length ≤ i → Ev (fun k => H k F x (i : Int)) x) (L : List α) (x : Int) (hl : (L.length : Int) ≤ 4611686018427387904) (h0 : 0 ≤ x) (hb : x + st * (L.length : Int) ≤ 4611686018427387904) :
    ∃ F m, Ev (fun k => M k L x 0) (m, F) ∧ Ev (fun k => H k F x 0) m ∧ x ≤ m ∧ m = x + st * (L.length : Int) := by
  obtain ⟨F, m, e1, _, _, e4, e5, e6⟩ := mark_held z M H E st hst hM hM0 hH hH0 L.length L 0 x hl (by omega) h0 hb
  exact ⟨F, m, e1, e4, e5, e6⟩

theorem rd_set_seen (L : List S96) (i : Nat) (e : S96) (h : i < L.length) : rd_T96 (L.set (i : Int).toNat e) (i : Int) = e := by
  unfold rd_T96
  simp [List.getD_eq_getElem?_getD, h]
theorem markSeenS_held (L : List S96) (x : Int) (h0 : 0 ≤ x) (h1 : x ≤ 1048576) (hl : (L.length : Int) ≤ 1048576) : ∃ F m, Ev (fun k => laws_markSeenS.f k L x) (m, F) ∧ Ev (fun k => laws_heldSeenS.f k F x) m ∧ x ≤ m ∧ m = x + 3 * (L.length : Int) := by
  refine mark_held0 z96 laws_markSeenS.l0 laws_heldSeenS.l0 (fun x y => (⟨x, x + 1, x + 2⟩ : S96)) 3 (by omega) (fun L i x r hl' hi h0 h1 h => ?_) (fun L i x hi => ?_) (fun F i x y r hl' hi h0 h1 he h => ?_) (fun F i x hi => ?_) L x (by omega) (by omega) (by omega)
  · have w1 : wrap64 (x + 1) = x + 1 := wrap_id (by omega) (by omega)
    have w2 : wrap64 (x + 1 + 1) = x + 2 := by rw [wrap_id (by omega) (by omega)]; omega
    have w3 : wrap64 (x + 2 + 1) = x + 3 := by rw [wrap_id (by omega) (by omega)]; omega
    have wi : wrap64 ((i : Int) + 1) = ((i + 1 : Nat) : Int) := by rw [wrap_id (by omega) (by omega)]; omega
    refine Ev.step (fun k => laws_markSeenS.l0.eq_2 ..) (Ev.pos (by omega) (Ev.pos (by omega) (Ev.bindc rfl (Ev.bindc rfl ?_))))
    rw [w1, w2, w3, wi]
    rw [rd_set_seen _ _ _ (by simpa using hi), rd_set_seen _ _ _ (by simpa using hi)]
    simp only [List.set_set, Int.toNat_natCast]
    exact h
  · exact Ev.step (fun k => laws_markSeenS.l0.eq_2 ..) (Ev.neg (by omega) (Ev.now _))
  · have w1 : wrap64 (x + 1) = x + 1 := wrap_id (by omega) (by omega)
    have w2 : wrap64 (x + 1 + 1) = x + 2 := by rw [wrap_id (by omega) (by omega)]; omega
    have w3 : wrap64 (x + 2 + 1) = x + 3 := by rw [wrap_id (by omega) (by omega)]; omega
    have wi : wrap64 ((i : Int) + 1) = ((i + 1 : Nat) : Int) := by rw [wrap_id (by omega) (by omega)]; omega
    have hr : rd_T96 F (i : Int) = (⟨x, x + 1, x + 2⟩ : S96) := by unfold rd_T96; rw [Int.toNat_natCast, he]
    refine Ev.step (fun k => laws_heldSeenS.l0.eq_2 ..) (Ev.pos (by omega) (Ev.pos (by omega) ?_))
    rw [hr, w1, w2, w3, wi]
    exact Ev.pos rfl (Ev.pos rfl (Ev.pos rfl h))
  · exact Ev.step (fun k => laws_heldSeenS.l0.eq_2 ..) (Ev.neg (by omega) (Ev.now _))
theorem markPartner_held (a : ByteArray) (b c : Int) (L : List S96) (x : Int) (h0 : 0 ≤ x) (h1 : x ≤ 1048576) (hl : (L.length : Int) ≤ 1048576) : ∃ F m, Ev (fun k => laws_markPartner.f k a b c L x) (m, F) ∧ Ev (fun k => laws_heldPartner.f k a b c F x) m ∧ x ≤ m ∧ m = x + 3 * (L.length : Int) := by
  obtain ⟨F, m, e1, e2, e3, e4⟩ := markSeenS_held L x h0 h1 hl
  exact ⟨F, m, Ev.bind e1 (Ev.now _), Ev.bind e2 (Ev.neg (by omega) (Ev.now _)), e3, e4⟩

theorem partnerNew_both (s : ByteArray) (hs : (s.size : Int) ≤ 9223372036854775807) : ∃ a b c, Ev (fun k => spec_PartnerNew.f k s) (a, b, c, []) ∧ Ev (fun k => impl_PartnerNew.f k s) (a, b, c, []) := by
  unfold spec_PartnerNew.f impl_PartnerNew.f
  by_cases h : nameP (bytesOf s) = true
  · exact ⟨s, 1, 1, Ev.bind (l01Name_ev s hs) (Ev.pos h (Ev.now _)), Ev.bind (isName_ev s hs) (Ev.pos h (Ev.now _))⟩
  · exact ⟨⟨#[]⟩, 0, 0, Ev.bind (l01Name_ev s hs) (Ev.neg h (Ev.now _)), Ev.bind (isName_ev s hs) (Ev.neg h (Ev.now _))⟩
theorem FnExactPartnerNew : laws_FnExactPartnerNew.Pure := by
  intro s hs
  obtain ⟨a, b, c, h1, h2⟩ := partnerNew_both s (by omega)
  have he := eqPartner_refl a b c [] ⟨by simp, by simp⟩
  obtain ⟨F, m, f1, f2, f3, _⟩ := markPartner_held a b c [] 1 (by omega) (by omega) (by simp)
  refine Ev.rounds (g := fun k => laws_FnExactPartnerNew.f k s) ?_
  unfold laws_FnExactPartnerNew.f
  refine Ev.ite (fun _ => Ev.now _) (fun hl => ?_)
  exact Ev.bind h1 (Ev.bind h2 (Ev.bind he (Ev.pos rfl (Ev.bind f1 (Ev.bind f2 (Ev.neg (by omega) (Ev.pos rfl (Ev.bind h2 (Ev.bind he (Ev.pos rfl (Ev.bind f2 (Ev.neg (by omega) (Ev.pos rfl (Ev.now _))))))))))))))

end Go.Proofs.Ytkmpfgpamlfldaa.Pure
