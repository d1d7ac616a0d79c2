/- The law TakeOnce of the program, over numbers and lists.
Conditions: none. -/
import Derived.Test.YtjffakoifpldeaaPFnTakeOncex
import Derived.Test.YtjffakoifpldeaaVFnTakeOnce
namespace Go.Proofs.Ytjffakoifpldeaa.Pure
open Go.RowKit Go.Proofs.Ytjffakoifpldeaa.PFnTakeOnce Go.Proofs.YtjffakoifpldeaaW.PrintWords Go.Proofs.YtjffakoifpldeaaW.PrintLast Go.Proofs.YtjffakoifpldeaaW.PrintMore Go.Proofs.YtjffakoifpldeaaW.Pl
set_option linter.unusedVariables false
set_option linter.unusedSimpArgs false

theorem within_eq (a b c : Int) : impl_within.f a b c = some (withinP a b c) := by
  unfold impl_within.f withinP
  split
  · congr 1; simp only [decide_eq_decide]; omega
  · congr 1; symm; simp only [decide_eq_false_iff_not]; omega

theorem isGreat_eq (c : Int) : impl_isGreat.f c = some (great c) := by
  unfold impl_isGreat.f great
  split
  · congr 1; simp only [decide_eq_decide]; omega
  · congr 1; symm; simp only [decide_eq_false_iff_not]; omega
theorem isDigit_eq (c : Int) : impl_isDigit.f c = some (digit c) := by
  unfold impl_isDigit.f digit
  split
  · congr 1; simp only [decide_eq_decide]; omega
  · congr 1; symm; simp only [decide_eq_false_iff_not]; omega

theorem great_t {c : Int} (h : 65 ≤ c) (h' : c ≤ 90) : great c = true := by simp [great, h, h']
theorem great_f {c : Int} (h : ¬ (65 ≤ c ∧ c ≤ 90)) : great c = false := by simp [great]; omega
theorem digit_t {c : Int} (h : 48 ≤ c) (h' : c ≤ 57) : digit c = true := by simp [digit, h, h']
theorem digit_f {c : Int} (h : ¬ (48 ≤ c ∧ c ≤ 57)) : digit c = false := by simp [digit]; omega

theorem isName_loop (s : ByteArray) (hs : (s.size : Int) ≤ 9223372036854775807) : ∀ (l : List Int) (i : Nat), 1 ≤ i → (bytesOf s).drop i = l → Ev (fun k => impl_isName.l0 k s (s.size : Int) (i : Int)) (l.all nameCh && withinP (s.size : Int) 1 12) := by
  intro l
  induction l with
  | nil =>
    intro i hi h
    have h0 := drop_nil h
    refine Ev.step (fun k => impl_isName.l0.eq_2 ..) ?_
    refine Ev.neg (by omega) ?_
    refine Ev.bindc (within_eq _ _ _) ?_
    exact Ev.ret (by simp)
  | cons c r ih =>
    intro i hi h
    obtain ⟨h1, h2, h3, _, _⟩ := drop_cons h
    have hw : wrap64 ((i : Int) + 1) = ((i + 1 : Nat) : Int) := by rw [wrap_id (by omega) (by omega)]; omega
    have hn := ih (i + 1) (by omega) h3
    refine Ev.step (fun k => impl_isName.l0.eq_2 ..) ?_
    refine Ev.pos h1 (Ev.pos (by omega) (Ev.pos h1 ?_))
    rw [h2]
    refine Ev.bindc (isGreat_eq _) ?_
    by_cases hg : great c = true
    · refine Ev.pos hg ?_
      rw [hw]
      exact hn.to (by simp [nameCh, hg])
    · refine Ev.neg hg (Ev.neg (by omega) ?_)
      refine Ev.bindc (isDigit_eq _) ?_
      by_cases hd : digit c = true
      · refine Ev.pos hd ?_
        rw [hw]
        exact hn.to (by simp [nameCh, hd])
      · refine Ev.neg hd ?_
        by_cases he : c = 45
        · refine Ev.pos he ?_
          rw [hw]
          exact hn.to (by simp [nameCh, he])
        · refine Ev.neg he ?_
          exact Ev.ret (by simp [nameCh, hg, hd, he])
theorem isName_ev (s : ByteArray) (hs : (s.size : Int) ≤ 9223372036854775807) : Ev (fun k => impl_isName.f k s) (nameP (bytesOf s)) := by
  have hl := length_bytesOf s
  show Ev (fun k => impl_isName.l0 k s (s.size : Int) ((0 : Nat) : Int)) _
  match hb : bytesOf s with
  | [] =>
    have h0 := drop_nil (s := s) (i := 0) (by simp [hb])
    refine Ev.step (fun k => impl_isName.l0.eq_2 ..) ?_
    refine Ev.neg (by omega) ?_
    refine Ev.bindc (within_eq _ _ _) ?_
    exact Ev.ret (by simp [withinP, nameP]; omega)
  | c :: r =>
    obtain ⟨h1, h2, h3, _, _⟩ := drop_cons (s := s) (i := 0) (c := c) (r := r) (by simp [hb])
    have hn := isName_loop s hs r 1 (by omega) h3
    rw [hb] at hl
    simp only [List.length_cons] at hl
    refine Ev.step (fun k => impl_isName.l0.eq_2 ..) ?_
    refine Ev.pos h1 (Ev.pos (by omega) (Ev.pos h1 ?_))
    rw [h2]
    refine Ev.bindc (isGreat_eq _) ?_
    by_cases hg : great c = true
    · refine Ev.pos hg ?_
      rw [show wrap64 (((0 : Nat) : Int) + 1) = ((1 : Nat) : Int) from by rw [wrap_id (by omega) (by omega)]; rfl]
      refine hn.to ?_
      have : withinP (s.size : Int) 1 12 = decide (r.length ≤ 11) := by
        simp only [withinP, decide_eq_decide]; omega
      simp [nameP, hg, this]
    · refine Ev.neg hg (Ev.pos rfl ?_)
      exact Ev.ret (by simp [nameP, hg])

theorem l01Name_loop (s : ByteArray) (hs : (s.size : Int) ≤ 9223372036854775807) : ∀ (l : List Int) (i : Nat), (bytesOf s).drop i = l → Ev (fun k => spec_l01Name.l0 k s (i : Int)) (l.all nameCh) := by
  intro l
  induction l with
  | nil =>
    intro i h
    have h0 := drop_nil h
    refine Ev.step (fun k => spec_l01Name.l0.eq_2 ..) ?_
    exact Ev.neg (by omega) (Ev.ret (by simp))
  | cons c r ih =>
    intro i h
    obtain ⟨h1, h2, h3, _, _⟩ := drop_cons h
    have hw : wrap64 ((i : Int) + 1) = ((i + 1 : Nat) : Int) := by rw [wrap_id (by omega) (by omega)]; omega
    have hn := ih (i + 1) h3
    refine Ev.step (fun k => spec_l01Name.l0.eq_2 ..) ?_
    refine Ev.pos h1 (Ev.pos (by omega) ?_)
    rw [h2, hw]
    by_cases hk : nameCh c = true
    · have hn' : Ev (fun k => spec_l01Name.l0 k s ((i + 1 : Nat) : Int)) ((c :: r).all nameCh) := hn.to (by simp [hk])
      have hk' : (65 ≤ c ∧ c ≤ 90) ∨ (48 ≤ c ∧ c ≤ 57) ∨ c = 45 := by simp [nameCh, great, digit, or_assoc] at hk; exact hk
      refine Ev.ite (fun g1 => Ev.ite (fun g2 => hn') (fun g2 => Ev.ite (fun g3 => Ev.ite (fun g4 => hn') (fun g4 => Ev.ite (fun g5 => hn') (fun g5 => ?_))) (fun g3 => Ev.ite (fun g5 => hn') (fun g5 => ?_)))) (fun g1 => Ev.ite (fun g3 => Ev.ite (fun g4 => hn') (fun g4 => Ev.ite (fun g5 => hn') (fun g5 => ?_))) (fun g3 => Ev.ite (fun g5 => hn') (fun g5 => ?_)))
      all_goals exact absurd hk' (by omega)
    · have hf : Ev (fun _ : Nat => some false) ((c :: r).all nameCh) := Ev.ret (by simp [hk])
      have hk' : ¬ ((65 ≤ c ∧ c ≤ 90) ∨ (48 ≤ c ∧ c ≤ 57) ∨ c = 45) := by simp [nameCh, great, digit] at hk; omega
      refine Ev.ite (fun g1 => Ev.ite (fun g2 => ?_) (fun g2 => Ev.ite (fun g3 => Ev.ite (fun g4 => ?_) (fun g4 => Ev.ite (fun g5 => ?_) (fun g5 => hf))) (fun g3 => Ev.ite (fun g5 => ?_) (fun g5 => hf)))) (fun g1 => Ev.ite (fun g3 => Ev.ite (fun g4 => ?_) (fun g4 => Ev.ite (fun g5 => ?_) (fun g5 => hf))) (fun g3 => Ev.ite (fun g5 => ?_) (fun g5 => hf)))
      all_goals exact absurd (show (65 ≤ c ∧ c ≤ 90) ∨ (48 ≤ c ∧ c ≤ 57) ∨ c = 45 by omega) hk'
theorem l01Name_ev (s : ByteArray) (hs : (s.size : Int) ≤ 9223372036854775807) : Ev (fun k => spec_l01Name.f k s) (nameP (bytesOf s)) := by
  have hl := length_bytesOf s
  have hj : ∀ b, b = false → Ev (fun k => spec_l01Name.j0 k s true) b := fun b hb => Ev.step (fun k => spec_l01Name.j0.eq_2 ..) (Ev.pos rfl (Ev.ret hb.symm))
  unfold spec_l01Name.f
  match hb : bytesOf s with
  | [] =>
    have h0 := drop_nil (s := s) (i := 0) (by simp [hb])
    refine Ev.pos (by omega) (hj _ rfl)
  | c :: r =>
    obtain ⟨h1, h2, h3, _, _⟩ := drop_cons (s := s) (i := 0) (c := c) (r := r) (by simp [hb])
    have hn := l01Name_loop s hs (c :: r) 0 (by simp [hb])
    rw [hb] at hl
    simp only [List.length_cons] at hl
    have h2' : bt s 0 = c := h2
    refine Ev.neg (by omega) (Ev.ite (fun g => hj _ (by simp [nameP]; intros; omega)) (fun g => Ev.pos (by omega) ?_))
    rw [h2']
    refine Ev.ite (fun g1 => hj _ (by simp [nameP, great]; intros; omega)) (fun g1 => ?_)
    by_cases g2 : c > 90
    · rw [show decide (c > 90) = true from by simp [g2]]
      exact hj _ (by simp [nameP, great]; intros; omega)
    · rw [show decide (c > 90) = false from by simp [g2]]
      refine Ev.step (fun k => spec_l01Name.j0.eq_2 ..) (Ev.neg (by simp) ?_)
      have hg : great c = true := by simp [great]; omega
      refine hn.to ?_
      have : r.length ≤ 11 := by omega
      simp [nameP, hg, nameCh, this]

theorem wi_ {i : Nat} (h : (i : Int) ≤ 4611686018427387904) : wrap64 ((i : Int) + 1) = ((i + 1 : Nat) : Int) := by rw [wrap_id (by omega) (by omega)]; omega
/-- A list that is copied into a new one, place by place. -/
theorem tos_list {α β : Type} (z : α) (g : α → β) (T : Nat → List α → List β → Int → Option (List β)) (L : List α)
    (hT : ∀ (D : List β) (i : Nat) (r : List β), i < L.length → D.length = L.length → Ev (fun k => T k L (D.set i (g (L.getD i z))) ((i + 1 : Nat) : Int)) r → Ev (fun k => T k L D (i : Int)) r)
    (hT0 : ∀ (D : List β) (i : Nat), L.length ≤ i → Ev (fun k => T k L D (i : Int)) D) :
    ∀ (d : Nat) (D : List β) (i : Nat), L.length - i = d → D.length = L.length → (∀ j, j < i → D[j]? = (L.map g)[j]?) → Ev (fun k => T k L D (i : Int)) (L.map g)
  | 0, D, i, hd, hl, hp => by
    have e : D = L.map g := by
      apply List.ext_getElem?
      intro j
      by_cases h : j < i
      · exact hp j h
      · rw [List.getElem?_eq_none (by omega), List.getElem?_eq_none (by rw [List.length_map]; omega)]
    subst e
    exact hT0 _ i (by omega)
  | d + 1, D, i, hd, hl, hp => by
    refine hT D i _ (by omega) hl (tos_list z g T L hT hT0 d _ (i + 1) (by omega) (by rw [List.length_set]; exact hl) (fun j hj => ?_))
    by_cases h : j = i
    · subst h
      rw [List.getElem?_set_self (by omega), List.getElem?_map, List.getD_eq_getElem?_getD, List.getElem?_eq_getElem (by omega : j < L.length)]
      rfl
    · rw [List.getElem?_set_ne (by omega)]
      exact hp j (by omega)
/-- A list is measured, place by place: it is too great, or each element is bounded. -/
theorem sz_list {α : Type} (z : α) (P : α → Prop) (Z : Nat → List α → Int → Int → Option Int) (L : List α)
    (hs : ∀ (i : Nat) (x : Int), i < L.length → 0 ≤ x → x ≤ 1048576 → Ev (fun k => Z k L x (i : Int)) (-1) ∨ ∃ x', 0 ≤ x' ∧ x' ≤ x ∧ P (L.getD i z) ∧ ∀ r, Ev (fun k => Z k L x' ((i + 1 : Nat) : Int)) r → Ev (fun k => Z k L x (i : Int)) r)
    (h0 : ∀ (i : Nat) (x : Int), L.length ≤ i → Ev (fun k => Z k L x (i : Int)) x) :
    ∀ (d i : Nat) (x : Int), L.length - i = d → 0 ≤ x → x ≤ 1048576 → ∃ w, Ev (fun k => Z k L x (i : Int)) w ∧ (w = -1 ∨ (0 ≤ w ∧ w ≤ x ∧ ∀ j, i ≤ j → j < L.length → P (L.getD j z)))
  | 0, i, x, hd, h1, h2 => ⟨x, h0 i x (by omega), .inr ⟨h1, by omega, fun j _ _ => by omega⟩⟩
  | d + 1, i, x, hd, h1, h2 => by
    rcases hs i x (by omega) h1 h2 with h | ⟨x', g1, g2, g3, g4⟩
    · exact ⟨-1, h, .inl rfl⟩
    · obtain ⟨w, e1, e2⟩ := sz_list z P Z L hs h0 d (i + 1) x' (by omega) g1 (by omega)
      refine ⟨w, g4 w e1, ?_⟩
      rcases e2 with e2 | ⟨e2, e3, e4⟩
      · exact .inl e2
      · refine .inr ⟨e2, by omega, fun j hj hl => ?_⟩
        by_cases h : j = i
        · subst h; exact g3
        · exact e4 j (by omega) hl
theorem sz_all {α : Type} (z : α) (P : α → Prop) (L : List α) (h : ∀ j, 0 ≤ j → j < L.length → P (L.getD j z)) : ∀ x ∈ L, P x := by
  intro x hx
  obtain ⟨j, hj, rfl⟩ := List.getElem_of_mem hx
  have := h j (by omega) hj
  rwa [List.getD_eq_getElem?_getD, List.getElem?_eq_getElem hj] at this
theorem getD_mem {α : Type} {L : List α} {i : Nat} (z : α) (h : i < L.length) : L.getD i z ∈ L := by
  rw [List.getD_eq_getElem?_getD, List.getElem?_eq_getElem h]
  exact List.getElem_mem h
/-- A text that is bounded; a list of them. -/
def bT (s : ByteArray) : Prop := s.size ≤ 1048576
def bTs (l : List ByteArray) : Prop := l.length ≤ 1048576 ∧ ∀ s ∈ l, bT s

/-- A comparison of lists, place by place: of one list with itself. -/
theorem eqs_refl {α : Type} (Q : Nat → List α → List α → Int → Option Bool) (L : List α) (hs : ∀ i : Nat, i < L.length → Ev (fun k => Q k L L ((i + 1 : Nat) : Int)) true → Ev (fun k => Q k L L (i : Int)) true) (h0 : ∀ i : Nat, L.length ≤ i → Ev (fun k => Q k L L (i : Int)) true) : ∀ (d i : Nat), L.length - i = d → Ev (fun k => Q k L L (i : Int)) true
  | 0, i, h => h0 i (by omega)
  | d + 1, i, h => hs i (by omega) (eqs_refl Q L hs h0 d (i + 1) (by omega))

def ctrl (n : Int) : Bool := decide (1 ≤ n ∧ n ≤ 999999)
/-- Is it greater than the one ahead? -/
def lastP (p : Option Int) (x : Int) : Bool := match p with | none => true | some q => decide (q < x)
/-- The numbers that were seen: each in the window, rising. -/
def rightSeen (low : Int) : Option Int → List S62 → Bool
  | _, [] => true
  | p, s :: r => decide (low ≤ s.f0 ∧ s.f0 < low + 32 ∧ s.f0 ≤ 999999) && lastP p s.f0 && ctrl s.f1 && decide (0 ≤ s.f2 ∧ s.f2 ≤ 13) && rightSeen low (some s.f0) r
theorem rightSeen_len (low : Int) : ∀ (l : List S62) (q : Int), low ≤ q → rightSeen low (some q) l = true → (l.length : Int) ≤ low + 31 - q ∨ l = []
  | [], q, h, _ => .inr rfl
  | s :: r, q, h, hr => by
    simp only [rightSeen, lastP, Bool.and_eq_true, decide_eq_true_eq] at hr
    obtain ⟨⟨⟨⟨h1, h2⟩, _⟩, _⟩, h3⟩ := hr
    have := rightSeen_len low r s.f0 (by omega) h3
    refine .inl ?_
    simp only [List.length_cons]
    rcases this with this | this
    · omega
    · subst this; simp; omega
theorem rightSeen_le (low : Int) (l : List S62) (h : rightSeen low none l = true) : (l.length : Int) ≤ 32 := by
  cases l with
  | nil => simp
  | cons s r =>
    simp only [rightSeen, Bool.and_eq_true, decide_eq_true_eq] at h
    obtain ⟨⟨⟨⟨h1, h2⟩, _⟩, _⟩, h3⟩ := h
    have := rightSeen_len low r s.f0 (by omega) h3
    simp only [List.length_cons]
    rcases this with this | this
    · omega
    · subst this; simp
/-- A right partner. -/
def partnerP (name : ByteArray) (low next : Int) (l : List S62) : Bool := nameP (bytesOf name) && ctrl low && ctrl next && rightSeen low none l
theorem l01Control_eq (n : Int) : spec_l01Control.f n = some (ctrl n) := by
  unfold spec_l01Control.f ctrl
  split
  · congr 1; simp only [decide_eq_decide]; omega
  · congr 1; symm; simp only [decide_eq_false_iff_not]; omega
theorem isControl_eq (n : Int) : impl_isControl.f n = some (ctrl n) := by
  unfold impl_isControl.f
  rw [within_eq]; rfl
theorem isCode_eq (n : Int) : impl_isCode.f n = some (decide (0 ≤ n ∧ n ≤ 13)) := by
  unfold impl_isCode.f
  rw [within_eq]; rfl
theorem rd_prev {L : List S62} {i : Nat} {s : S62} {r : List S62} (h : L.drop i = s :: r) : (i : Int) < (L.length : Int) ∧ rd_T62 L (i : Int) = s ∧ L.drop (i + 1) = r := ldrop_cons z62 h

theorem specPartner_loop (name : ByteArray) (low next : Int) (L : List S62) (hL : (L.length : Int) ≤ 1048576) (hc : 1 ≤ low ∧ low ≤ 999999) : ∀ (l : List S62) (i : Nat) (p : Option Int), L.drop i = l → ((i = 0 ∧ p = none) ∨ (0 < i ∧ p = some (rd_T62 L ((i : Int) - 1)).f0)) →
    Ev (fun k => spec_PartnerRight.l0 k (i : Int) name low next L) (rightSeen low p l) := by
  intro l
  induction l with
  | nil =>
    intro i p h hp
    have h0 := ldrop_nil h
    exact Ev.step (fun k => spec_PartnerRight.l0.eq_2 ..) (Ev.neg (by omega) (Ev.now _))
  | cons s r ih =>
    intro i p h hp
    obtain ⟨h1, h2, h3⟩ := rd_prev h
    have hw : wrap64 ((i : Int) + 1) = ((i + 1 : Nat) : Int) := by rw [wrap_id (by omega) (by omega)]; omega
    have hi := ih (i + 1) (some s.f0) h3 (.inr ⟨by omega, by rw [show (((i + 1 : Nat) : Int) - 1) = (i : Int) by omega, h2]⟩)
    have jt : ∀ {b : Bool}, b = false → Ev (fun k => spec_PartnerRight.j2 k (i : Int) true name low next L) b := fun hb => Ev.step (fun k => spec_PartnerRight.j2.eq_2 ..) (Ev.pos rfl (Ev.ret hb.symm))
    have jn : Ev (fun k => spec_PartnerRight.j2 k (i : Int) false name low next L) (rightSeen low (some s.f0) r) := Ev.step (fun k => spec_PartnerRight.j2.eq_2 ..) (Ev.neg (by simp) (by rw [hw]; exact hi))
    have hlast : lastP p s.f0 = true → low ≤ s.f0 → s.f0 < low + 32 → s.f0 ≤ 999999 → Ev (fun k => (spec_l01Control.f s.f1).bind fun t119 => (if t119 = true then (if s.f2 < 0 then (spec_PartnerRight.j2 k (i : Int) true name low next L) else (spec_PartnerRight.j2 k (i : Int) (decide (s.f2 > 13)) name low next L)) else (spec_PartnerRight.j2 k (i : Int) true name low next L))) (rightSeen low p (s :: r)) := by
      intro g0 g1 g2 g3
      refine Ev.bindc (l01Control_eq _) (Ev.ite (fun g4 => Ev.ite (fun g5 => jt ?_) (fun g5 => ?_)) (fun g4 => jt ?_))
      · simp [rightSeen]; intros; omega
      · by_cases g6 : s.f2 > 13
        · rw [decide_eq_true g6]; exact jt (by simp [rightSeen]; intros; omega)
        · rw [decide_eq_false g6]
          refine jn.to ?_
          simp only [rightSeen, g0, g4, Bool.and_true]
          rw [show decide (low ≤ s.f0 ∧ s.f0 < low + 32 ∧ s.f0 ≤ 999999) = true from by simp [g1, g2, g3], show decide (0 ≤ s.f2 ∧ s.f2 ≤ 13) = true from by simp; omega]
          simp
      · simp [rightSeen, g4]
    refine Ev.step (fun k => spec_PartnerRight.l0.eq_2 ..) (Ev.pos h1 (Ev.pos (by omega) ?_))
    rw [h2, wrap_id (x := low + 32) (by omega) (by omega)]
    refine Ev.ite (fun g1 => jt (by simp [rightSeen]; intros; omega)) (fun g1 => Ev.ite (fun g2 => jt (by simp [rightSeen]; intros; omega)) (fun g2 => Ev.ite (fun g3 => jt (by simp [rightSeen]; intros; omega)) (fun g3 => Ev.ite (fun g4 => ?_) (fun g4 => ?_))))
    · rcases hp with ⟨hp, _⟩ | ⟨hp, rfl⟩
      · omega
      · rw [wrap_id (x := (i : Int) - 1) (by omega) (by omega)]
        refine Ev.pos (by omega) (Ev.pos (by omega) (Ev.ite (fun g5 => jt ?_) (fun g5 => ?_)))
        · have : lastP (some (rd_T62 L ((i : Int) - 1)).f0) s.f0 = false := by simp [lastP]; omega
          simp [rightSeen, this]
        · exact hlast (by simp [lastP]; omega) (by omega) (by omega) (by omega)
    · rcases hp with ⟨_, rfl⟩ | ⟨hp, _⟩
      · exact hlast rfl (by omega) (by omega) (by omega)
      · omega
theorem specPartnerRight_ev (name : ByteArray) (low next : Int) (L : List S62) (hL : (L.length : Int) ≤ 1048576) (hn : (name.size : Int) ≤ 9223372036854775807) : Ev (fun k => spec_PartnerRight.f k name low next L) (partnerP name low next L) := by
  have jt : ∀ {b : Bool}, b = false → Ev (fun k => spec_PartnerRight.j0 k true name low next L) b := fun hb => Ev.step (fun k => spec_PartnerRight.j0.eq_2 ..) (Ev.pos rfl (Ev.ret hb.symm))
  unfold spec_PartnerRight.f
  refine Ev.bind (l01Name_ev name hn) (Ev.ite (fun g1 => Ev.bindc (l01Control_eq _) (Ev.ite (fun g2 => Ev.bindc (l01Control_eq _) (Ev.ite (fun g3 => ?_) (fun g3 => jt (by simp [partnerP, g3])))) (fun g2 => jt (by simp [partnerP, g2])))) (fun g1 => jt (by simp [partnerP, g1])))
  have hc : 1 ≤ low ∧ low ≤ 999999 := by simpa [ctrl] using g2
  by_cases g4 : (L.length : Int) > 32
  · rw [decide_eq_true g4]
    refine jt ?_
    by_cases hr : rightSeen low none L = true
    · have := rightSeen_le low L hr; omega
    · simp [partnerP, hr]
  · rw [decide_eq_false g4]
    refine Ev.step (fun k => spec_PartnerRight.j0.eq_2 ..) (Ev.neg (by simp) ?_)
    exact (specPartner_loop name low next L hL hc L 0 none rfl (.inl ⟨rfl, rfl⟩)).to (by simp [partnerP, g1, g2, g3])

theorem implPartner_end (name : ByteArray) (low next : Int) (hn : (name.size : Int) ≤ 9223372036854775807) : Ev (fun k => (impl_isName.f k name).bind fun t149 => (if t149 = true then ((impl_isControl.f low).bind fun t150 => (if t150 = true then ((impl_isControl.f next).bind fun t151 => (some t151)) else (some false))) else (some false))) (nameP (bytesOf name) && ctrl low && ctrl next) := by
  refine Ev.bind (isName_ev name hn) (Ev.ite (fun g1 => Ev.bindc (isControl_eq _) (Ev.ite (fun g2 => Ev.bindc (isControl_eq _) (Ev.ret (by simp [g1, g2]))) (fun g2 => Ev.ret (by simp [g2])))) (fun g1 => Ev.ret (by simp [g1])))
theorem implPartner_bad (name : ByteArray) (low next : Int) (L : List S62) (hL : (L.length : Int) ≤ 1048576) (hn : (name.size : Int) ≤ 9223372036854775807) (hc : ctrl low = false) : ∀ (d i : Nat), L.length - i = d → Ev (fun k => impl_PartnerRight.l0 k L (L.length : Int) (i : Int) name low next L) false := by
  intro d
  induction d with
  | zero =>
    intro i h
    refine Ev.step (fun k => impl_PartnerRight.l0.eq_2 ..) (Ev.neg (by omega) ?_)
    exact (implPartner_end name low next hn).to (by simp [hc])
  | succ d ih =>
    intro i h
    have hw : wrap64 ((i : Int) + 1) = ((i + 1 : Nat) : Int) := by rw [wrap_id (by omega) (by omega)]; omega
    have jb : ∀ b : Bool, Ev (fun k => impl_PartnerRight.j1 k L (L.length : Int) (i : Int) b name low next L) false := fun b => Ev.step (fun k => impl_PartnerRight.j1.eq_2 ..) (Ev.ite (fun _ => Ev.now _) (fun _ => by rw [hw]; exact ih (i + 1) (by omega)))
    refine Ev.step (fun k => impl_PartnerRight.l0.eq_2 ..) (Ev.pos (by omega) (Ev.pos (by omega) (Ev.pos (by omega) ?_)))
    refine Ev.bindc (within_eq _ _ _) (Ev.ite (fun _ => Ev.ite (fun _ => jb _) (fun _ => Ev.bindc (isControl_eq _) (Ev.ite (fun _ => Ev.bindc (isCode_eq _) (Ev.ite (fun _ => Ev.ite (fun g => ?_) (fun _ => jb _)) (fun _ => jb _))) (fun _ => jb _)))) (fun _ => jb _))
    rw [wrap_id (x := (i : Int) - 1) (by omega) (by omega)]
    exact Ev.pos (by omega) (Ev.pos (by omega) (jb _))
theorem implPartner_loop (name : ByteArray) (low next : Int) (L : List S62) (hL : (L.length : Int) ≤ 1048576) (hn : (name.size : Int) ≤ 9223372036854775807) (hc : 1 ≤ low ∧ low ≤ 999999) : ∀ (l : List S62) (i : Nat) (p : Option Int), L.drop i = l → ((i = 0 ∧ p = none) ∨ (0 < i ∧ p = some (rd_T62 L ((i : Int) - 1)).f0)) →
    Ev (fun k => impl_PartnerRight.l0 k L (L.length : Int) (i : Int) name low next L) (rightSeen low p l && (nameP (bytesOf name) && ctrl low && ctrl next)) := by
  intro l
  induction l with
  | nil =>
    intro i p h hp
    have h0 := ldrop_nil h
    refine Ev.step (fun k => impl_PartnerRight.l0.eq_2 ..) (Ev.neg (by omega) ?_)
    exact (implPartner_end name low next hn).to (by simp [rightSeen])
  | cons s r ih =>
    intro i p h hp
    obtain ⟨h1, h2, h3⟩ := rd_prev h
    have hw : wrap64 ((i : Int) + 1) = ((i + 1 : Nat) : Int) := by rw [wrap_id (by omega) (by omega)]; omega
    have hi := ih (i + 1) (some s.f0) h3 (.inr ⟨by omega, by rw [show (((i + 1 : Nat) : Int) - 1) = (i : Int) by omega, h2]⟩)
    have jt : ∀ {b : Bool}, b = false → Ev (fun k => impl_PartnerRight.j1 k L (L.length : Int) (i : Int) true name low next L) b := fun hb => Ev.step (fun k => impl_PartnerRight.j1.eq_2 ..) (Ev.pos rfl (Ev.ret hb.symm))
    have jn : Ev (fun k => impl_PartnerRight.j1 k L (L.length : Int) (i : Int) false name low next L) (rightSeen low (some s.f0) r && (nameP (bytesOf name) && ctrl low && ctrl next)) := Ev.step (fun k => impl_PartnerRight.j1.eq_2 ..) (Ev.neg (by simp) (by rw [hw]; exact hi))
    refine Ev.step (fun k => impl_PartnerRight.l0.eq_2 ..) (Ev.pos h1 (Ev.pos (by omega) (Ev.pos h1 ?_)))
    rw [h2]
    refine Ev.bindc (within_eq _ _ _) (Ev.ite (fun g1 => ?_) (fun g1 => jt ?_))
    rotate_left
    · have : ¬ (low ≤ s.f0 ∧ s.f0 ≤ 999999) := by simpa [withinP] using g1
      have : decide (low ≤ s.f0 ∧ s.f0 < low + 32 ∧ s.f0 ≤ 999999) = false := by simp; omega
      simp [rightSeen, this]
    have g1' : low ≤ s.f0 ∧ s.f0 ≤ 999999 := by simpa [withinP] using g1
    rw [wrap_id (x := s.f0 - low) (by omega) (by omega)]
    refine Ev.ite (fun g2 => jt ?_) (fun g2 => Ev.bindc (isControl_eq _) (Ev.ite (fun g3 => Ev.bindc (isCode_eq _) (Ev.ite (fun g4 => ?_) (fun g4 => jt ?_))) (fun g3 => jt ?_)))
    · have : decide (low ≤ s.f0 ∧ s.f0 < low + 32 ∧ s.f0 ≤ 999999) = false := by simp; omega
      simp [rightSeen, this]
    · have e1 : decide (low ≤ s.f0 ∧ s.f0 < low + 32 ∧ s.f0 ≤ 999999) = true := by simp; omega
      refine Ev.ite (fun g5 => ?_) (fun g5 => ?_)
      · rcases hp with ⟨hp, _⟩ | ⟨hp, rfl⟩
        · omega
        · rw [wrap_id (x := (i : Int) - 1) (by omega) (by omega)]
          refine Ev.pos (by omega) (Ev.pos (by omega) ?_)
          by_cases g6 : s.f0 ≤ (rd_T62 L ((i : Int) - 1)).f0
          · rw [decide_eq_true g6]
            have : lastP (some (rd_T62 L ((i : Int) - 1)).f0) s.f0 = false := by simp [lastP]; omega
            exact jt (by simp [rightSeen, this])
          · rw [decide_eq_false g6]
            have : lastP (some (rd_T62 L ((i : Int) - 1)).f0) s.f0 = true := by simp [lastP]; omega
            refine jn.to ?_
            simp only [rightSeen, e1, this, g3, g4, Bool.and_true, Bool.true_and]
      · rcases hp with ⟨_, rfl⟩ | ⟨hp, _⟩
        · refine jn.to ?_
          simp only [rightSeen, lastP, e1, g3, g4, Bool.and_true, Bool.true_and]
        · omega
    · have : decide (0 ≤ s.f2 ∧ s.f2 ≤ 13) = false := by simpa using g4
      simp [rightSeen, this]
    · simp [rightSeen, g3]
theorem implPartnerRight_ev (name : ByteArray) (low next : Int) (L : List S62) (hL : (L.length : Int) ≤ 1048576) (hn : (name.size : Int) ≤ 9223372036854775807) : Ev (fun k => impl_PartnerRight.f k name low next L) (partnerP name low next L) := by
  unfold impl_PartnerRight.f
  by_cases hc : ctrl low = true
  · exact (implPartner_loop name low next L hL hn (by simpa [ctrl] using hc) L 0 none rfl (.inl ⟨rfl, rfl⟩)).to (by simp only [partnerP]; rw [Bool.and_comm])
  · have hc' : ctrl low = false := by simpa using hc
    exact (implPartner_bad name low next L hL hn hc' L.length 0 (by omega)).to (by simp [partnerP, hc'])

theorem find_loop (name : ByteArray) (low next : Int) (L : List S62) (n : Int) (hL : (L.length : Int) ≤ 1048576) : ∀ (r : List S62) (i : Nat), L.drop i = r → ∃ x : Int, Ev (fun k => spec_l07Find.l0 k n (i : Int) name low next L) x ∧ Ev (fun k => impl_Seen_118__impl_Partner_seen_1.l0 k L (L.length : Int) (i : Int) n) x ∧ -1 ≤ x ∧ x < (L.length : Int) ∧ (0 ≤ x → (rd_T62 L x).f0 = n) ∧ (x < 0 → ∀ s ∈ r, s.f0 ≠ n) := by
  intro r
  induction r with
  | nil =>
    intro i h
    have h0 := ldrop_nil h
    exact ⟨-1, Ev.step (fun k => spec_l07Find.l0.eq_2 ..) (Ev.neg (by omega) (Ev.now _)), Ev.step (fun k => impl_Seen_118__impl_Partner_seen_1.l0.eq_2 ..) (Ev.neg (by omega) (Ev.now _)), by omega, by omega, by omega, fun _ s hs => by simp at hs⟩
  | cons e r ih =>
    intro i h
    obtain ⟨h1, h2, h3⟩ := ldrop_cons z62 h
    have hr : rd_T62 L (i : Int) = e := h2
    obtain ⟨x, hx1, hx2, hx3, hx4, hx5, hx6⟩ := ih (i + 1) h3
    have hw := wi_ (i := i) (by omega)
    rw [← hw] at hx1 hx2
    by_cases g : e.f0 = n
    · refine ⟨i, Ev.step (fun k => spec_l07Find.l0.eq_2 ..) (Ev.pos h1 (Ev.pos (by omega) ?_)), Ev.step (fun k => impl_Seen_118__impl_Partner_seen_1.l0.eq_2 ..) (Ev.pos h1 (Ev.pos (by omega) (Ev.pos h1 ?_))), by omega, by omega, fun _ => by rw [hr]; exact g, fun h => by omega⟩
      · rw [hr]; exact Ev.pos g (Ev.now _)
      · rw [hr]; exact Ev.bindc (show impl_Partner_seen_1.f e.f0 e.f1 e.f2 n = some true from by simp [impl_Partner_seen_1.f, g]) (Ev.pos rfl (Ev.now _))
    · refine ⟨x, Ev.step (fun k => spec_l07Find.l0.eq_2 ..) (Ev.pos h1 (Ev.pos (by omega) ?_)), Ev.step (fun k => impl_Seen_118__impl_Partner_seen_1.l0.eq_2 ..) (Ev.pos h1 (Ev.pos (by omega) (Ev.pos h1 ?_))), hx3, hx4, hx5, fun hx s hs => ?_⟩
      · rw [hr]; exact Ev.neg g hx1
      · rw [hr]; exact Ev.bindc (show impl_Partner_seen_1.f e.f0 e.f1 e.f2 n = some false from by simp [impl_Partner_seen_1.f, g]) (Ev.neg (by simp) hx2)
      · rcases List.mem_cons.1 hs with rfl | hs
        · exact g
        · exact hx6 hx s hs
/-- What is told of a number that is asked for. -/
def askP (low n x : Int) : Int := if n < low then 3 else if 0 ≤ x then 2 else 1
def seenP (L : List S62) (x : Int) : Int × Int × Int × Bool := if x < 0 then (0, 0, 0, false) else ((rd_T62 L x).f0, (rd_T62 L x).f1, (rd_T62 L x).f2, true)
theorem ask_ev (name : ByteArray) (low next : Int) (L : List S62) (n : Int) (hL : (L.length : Int) ≤ 1048576) (hn : (name.size : Int) ≤ 9223372036854775807) (hp : partnerP name low next L = true) (hc : ctrl n = true) : ∃ x : Int, Ev (fun k => spec_l07Find.f k name low next L n) x ∧ Ev (fun k => spec_PartnerAsk.f k name low next L n) (askP low n x) ∧ Ev (fun k => impl_Partner_ask.f k name low next L n) (askP low n x) ∧ Ev (fun k => impl_Partner_seen.f k name low next L n) (seenP L x) ∧ -1 ≤ x ∧ x < (L.length : Int) ∧ (0 ≤ x → (rd_T62 L x).f0 = n) ∧ (x < 0 → ∀ s ∈ L, s.f0 ≠ n) := by
  obtain ⟨x, hx1, hx2, hx3, hx4, hx5, hx6⟩ := find_loop name low next L n hL L 0 rfl
  have f1 : Ev (fun k => spec_l07Find.f k name low next L n) x := hx1
  have f2 : Ev (fun k => impl_Seen_118__impl_Partner_seen_1.f k L n) x := hx2
  have hs := specPartnerRight_ev name low next L hL hn
  rw [hp] at hs
  have f3 : Ev (fun k => impl_Partner_seen.f k name low next L n) (seenP L x) := by
    unfold impl_Partner_seen.f seenP
    by_cases hx : x < 0
    · rw [if_pos hx]; exact Ev.bind f2 (Ev.pos hx (Ev.now _))
    · rw [if_neg hx]; exact Ev.bind f2 (Ev.neg hx (Ev.pos (by omega) (Ev.pos hx4 (Ev.now _))))
  refine ⟨x, f1, ?_, ?_, f3, hx3, hx4, hx5, hx6⟩
  · unfold spec_PartnerAsk.f askP
    refine Ev.bind hs (Ev.pos rfl (Ev.bindc (l01Control_eq n) (Ev.step (fun k => spec_PartnerAsk.j0.eq_2 ..) (Ev.neg (by simp [hc]) ?_))))
    by_cases hlow : n < low
    · rw [if_pos hlow]; exact Ev.pos hlow (Ev.now _)
    · rw [if_neg hlow]
      by_cases hx : 0 ≤ x
      · rw [if_pos hx]; exact Ev.neg hlow (Ev.bind f1 (Ev.pos hx (Ev.now _)))
      · rw [if_neg hx]; exact Ev.neg hlow (Ev.bind f1 (Ev.neg (by omega) (Ev.now _)))
  · unfold impl_Partner_ask.f
    refine Ev.bind f3 ?_
    by_cases hlow : n < low
    · exact Ev.pos hlow (Ev.ret (by unfold askP; rw [if_pos hlow]))
    · by_cases hx : 0 ≤ x
      · exact Ev.neg hlow (Ev.pos (by unfold seenP; rw [if_neg (show ¬ x < 0 by omega)]) (Ev.ret (by unfold askP; rw [if_neg hlow, if_pos hx])))
      · exact Ev.neg hlow (Ev.neg (by unfold seenP; rw [if_pos (show x < 0 by omega)]; simp) (Ev.ret (by unfold askP; rw [if_neg hlow, if_neg hx])))
/-- The reference's new list: what is in the window, the new one ahead of the first that is greater. -/
def insP (n low : Int) (e : S62) : Bool → List S62 → List S62
  | d, [] => if d then [] else [e]
  | d, s :: r => if s.f0 > n ∧ d = false then e :: (if s.f0 ≥ low then s :: insP n low e true r else insP n low e true r) else (if s.f0 ≥ low then s :: insP n low e d r else insP n low e d r)
def keepP (low : Int) (L : List S62) : List S62 := L.filter (fun s => !decide (s.f0 < low))
/-- .. and the program's. -/
def putP (n : Int) (e : S62) (L : List S62) : List S62 := L.takeWhile (fun s => decide (s.f0 < n)) ++ [e] ++ L.dropWhile (fun s => decide (s.f0 < n))
theorem insP_skip (n low : Int) (e s : S62) (d : Bool) (r : List S62) (h : ¬ (s.f0 > n ∧ d = false)) : insP n low e d (s :: r) = if s.f0 ≥ low then s :: insP n low e d r else insP n low e d r := by rw [insP, if_neg h]
theorem insP_put (n low : Int) (e s : S62) (r : List S62) (h : s.f0 > n) : insP n low e false (s :: r) = e :: (if s.f0 ≥ low then s :: insP n low e true r else insP n low e true r) := by rw [insP, if_pos ⟨h, rfl⟩]
theorem insP_done (n low : Int) (e : S62) : ∀ L, insP n low e true L = keepP low L
  | [] => rfl
  | s :: r => by
    rw [insP, if_neg (by simp), insP_done n low e r]
    unfold keepP
    by_cases h : s.f0 ≥ low
    · rw [if_pos h, List.filter_cons_of_pos (by simp; omega)]
    · rw [if_neg h, List.filter_cons_of_neg (by simp; omega)]
theorem ins_put (n low : Int) (e : S62) (hl : low ≤ n) : ∀ L : List S62, (∀ s ∈ L, s.f0 ≠ n) → insP n low e false L = putP n e (keepP low L)
  | [], _ => rfl
  | s :: r, h => by
    have ih := ins_put n low e hl r (fun x hx => h x (List.mem_cons_of_mem _ hx))
    have hs := h s List.mem_cons_self
    rw [insP]
    by_cases g : s.f0 > n
    · rw [if_pos ⟨g, rfl⟩, if_pos (by omega), insP_done]
      unfold putP keepP
      rw [List.filter_cons_of_pos (by simp; omega), List.takeWhile_cons_of_neg (by simp; omega), List.dropWhile_cons_of_neg (by simp; omega)]
      simp
    · rw [if_neg (fun z => g z.1), ih]
      unfold putP keepP
      by_cases g2 : s.f0 ≥ low
      · rw [if_pos g2, List.filter_cons_of_pos (by simp; omega), List.takeWhile_cons_of_pos (by simp; omega), List.dropWhile_cons_of_pos (by simp; omega)]
        simp
      · rw [if_neg g2, List.filter_cons_of_neg (by simp; omega)]
theorem keepP_len (low : Int) (L : List S62) : (keepP low L).length ≤ L.length := List.length_filter_le _ _
theorem putP_len (n : Int) (e : S62) (L : List S62) : (putP n e L).length = L.length + 1 := by
  unfold putP
  have := congrArg List.length (List.takeWhile_append_dropWhile (p := fun s : S62 => decide (s.f0 < n)) (l := L))
  rw [List.length_append] at this
  rw [List.length_append, List.length_append, List.length_singleton]
  omega
theorem specIns_loop (n low : Int) (name : ByteArray) (lo next : Int) (L : List S62) (a0 : ByteArray) (a1 a2 : Int) (a3 : List S62) (a4 : Int) (e0 e1 e2 z : Int) (hL : (L.length : Int) ≤ 1048576) : ∀ (r : List S62) (i : Nat) (D : List S62) (d : Bool), L.drop i = r → i ≤ L.length → (D.length : Int) ≤ 2 * (i : Int) →
    Ev (fun k => spec_PartnerTake.l0 k n low D d (i : Int) name lo next L a0 a1 a2 a3 a4 e0 e1 e2 z) (a0, low, wrap64 (next + 1), D ++ insP n low ⟨e0, e1, e2⟩ d r, a4, e0, e1, e2, z) := by
  intro r
  induction r with
  | nil =>
    intro i D d h hi hD
    have h0 := ldrop_nil h
    refine Ev.step (fun k => spec_PartnerTake.l0.eq_2 ..) (Ev.neg (by omega) ?_)
    cases d with
    | true => exact Ev.pos rfl (Ev.ret (by simp [insP]))
    | false => exact Ev.neg (by simp) (Ev.pos (by omega) (Ev.ret (by simp [insP])))
  | cons s r ih =>
    intro i D d h hi hD
    obtain ⟨h1, h2, h3⟩ := ldrop_cons z62 h
    have hr : rd_T62 L (i : Int) = s := h2
    have hw := wi_ (i := i) (by omega)
    have jt : ∀ (D : List S62) (d : Bool), (D.length : Int) ≤ 2 * (i : Int) + 1 → Ev (fun k => if 0 ≤ (i : Int) then (if (i : Int) < (L.length : Int) then (if s.f0 ≥ low then (if D.length < 5864062014805 then spec_PartnerTake.l0 k n low (D ++ [(⟨s.f0, s.f1, s.f2⟩ : S62)]) d (wrap64 ((i : Int) + 1)) name lo next L a0 a1 a2 a3 a4 e0 e1 e2 z else none) else spec_PartnerTake.l0 k n low D d (wrap64 ((i : Int) + 1)) name lo next L a0 a1 a2 a3 a4 e0 e1 e2 z) else none) else none) (a0, low, wrap64 (next + 1), D ++ (if s.f0 ≥ low then s :: insP n low ⟨e0, e1, e2⟩ d r else insP n low ⟨e0, e1, e2⟩ d r), a4, e0, e1, e2, z) := by
      intro D d hD
      refine Ev.pos (by omega) (Ev.pos h1 ?_)
      rw [hw]
      by_cases g : s.f0 ≥ low
      · rw [if_pos g]
        refine Ev.pos g (Ev.pos (by omega) ?_)
        have := ih (i + 1) (D ++ [s]) d h3 (by omega) (by rw [List.length_append, List.length_singleton]; omega)
        rw [List.append_assoc] at this
        exact this
      · rw [if_neg g]
        exact Ev.neg g (ih (i + 1) D d h3 (by omega) (by omega))
    refine Ev.step (fun k => spec_PartnerTake.l0.eq_2 ..) (Ev.pos h1 (Ev.pos (by omega) ?_))
    rw [hr]
    have jn : ∀ d, Ev (fun k => spec_PartnerTake.j3 k n low D d (i : Int) false name lo next L a0 a1 a2 a3 a4 e0 e1 e2 z) (a0, low, wrap64 (next + 1), D ++ (if s.f0 ≥ low then s :: insP n low ⟨e0, e1, e2⟩ d r else insP n low ⟨e0, e1, e2⟩ d r), a4, e0, e1, e2, z) := by
      intro d
      refine Ev.step (fun k => spec_PartnerTake.j3.eq_2 ..) (Ev.neg (by simp) ?_)
      rw [hr]
      exact jt D d (by omega)
    have jy : Ev (fun k => spec_PartnerTake.j3 k n low D false (i : Int) true name lo next L a0 a1 a2 a3 a4 e0 e1 e2 z) (a0, low, wrap64 (next + 1), D ++ [⟨e0, e1, e2⟩] ++ (if s.f0 ≥ low then s :: insP n low ⟨e0, e1, e2⟩ true r else insP n low ⟨e0, e1, e2⟩ true r), a4, e0, e1, e2, z) := by
      refine Ev.step (fun k => spec_PartnerTake.j3.eq_2 ..) (Ev.pos rfl (Ev.pos (by omega) (Ev.bindc rfl ?_)))
      rw [hr]
      exact jt (D ++ [⟨e0, e1, e2⟩]) true (by rw [List.length_append, List.length_singleton]; omega)
    by_cases g : s.f0 > n
    · refine Ev.pos g ?_
      cases d with
      | true => exact (jn true).to (by rw [insP_skip _ _ _ _ _ _ (by simp)])
      | false => exact jy.to (by rw [insP_put _ _ _ _ _ g]; simp)
    · exact Ev.neg g ((jn d).to (by rw [insP_skip _ _ _ _ _ _ (fun z => g z.1)]))
/-- What is out of the window falls. -/
theorem drop_loop (a0 : ByteArray) (a1 a2 : Int) (a3 L : List S62) (hL : (L.length : Int) ≤ 1048576) : ∀ (r : List S62) (i : Nat), L.drop i = r → (Ev (fun k => impl_Seen_118__impl_PartnerTake_1.l0 k L (L.length : Int) (i : Int) a0 a1 a2 a3) (-1) ∧ (∀ s ∈ r, ¬ s.f0 < a1)) ∨ ∃ j : Nat, i ≤ j ∧ j < L.length ∧ Ev (fun k => impl_Seen_118__impl_PartnerTake_1.l0 k L (L.length : Int) (i : Int) a0 a1 a2 a3) (j : Int) ∧ (rd_T62 L (j : Int)).f0 < a1 ∧ (∀ s ∈ r.take (j - i), ¬ s.f0 < a1) := by
  intro r
  induction r with
  | nil =>
    intro i h
    have h0 := ldrop_nil h
    exact .inl ⟨Ev.step (fun k => impl_Seen_118__impl_PartnerTake_1.l0.eq_2 ..) (Ev.neg (by omega) (Ev.now _)), fun s hs => by simp at hs⟩
  | cons s r ih =>
    intro i h
    obtain ⟨h1, h2, h3⟩ := ldrop_cons z62 h
    have hr : rd_T62 L (i : Int) = s := h2
    have hw := wi_ (i := i) (by omega)
    by_cases g : s.f0 < a1
    · refine .inr ⟨i, by omega, by omega, Ev.step (fun k => impl_Seen_118__impl_PartnerTake_1.l0.eq_2 ..) (Ev.pos h1 (Ev.pos (by omega) (Ev.pos h1 ?_))), by rw [hr]; exact g, fun x hx => by simp at hx⟩
      rw [hr]
      exact Ev.bindc (show impl_PartnerTake_1.f s.f0 s.f1 s.f2 a0 a1 a2 a3 = some true from by simp [impl_PartnerTake_1.f, g]) (Ev.pos rfl (Ev.now _))
    · have hstep : ∀ x, Ev (fun k => impl_Seen_118__impl_PartnerTake_1.l0 k L (L.length : Int) ((i + 1 : Nat) : Int) a0 a1 a2 a3) x → Ev (fun k => impl_Seen_118__impl_PartnerTake_1.l0 k L (L.length : Int) (i : Int) a0 a1 a2 a3) x := fun x hx => by
        refine Ev.step (fun k => impl_Seen_118__impl_PartnerTake_1.l0.eq_2 ..) (Ev.pos h1 (Ev.pos (by omega) (Ev.pos h1 ?_)))
        rw [hr, hw]
        exact Ev.bindc (show impl_PartnerTake_1.f s.f0 s.f1 s.f2 a0 a1 a2 a3 = some false from by simp [impl_PartnerTake_1.f, g]) (Ev.neg (by simp) hx)
      rcases ih (i + 1) h3 with ⟨e1, e2⟩ | ⟨j, j1, j2, j3, j4, j5⟩
      · exact .inl ⟨hstep _ e1, fun x hx => (List.mem_cons.1 hx).elim (fun e => by rw [e]; exact g) (fun hx => e2 x hx)⟩
      · refine .inr ⟨j, by omega, j2, hstep _ j3, j4, fun x hx => ?_⟩
        rw [show j - i = (j - (i + 1)) + 1 by omega, List.take_succ_cons] at hx
        rcases List.mem_cons.1 hx with rfl | hx
        · exact g
        · exact j5 x hx
theorem keep_ev (a0 : ByteArray) (a1 a2 : Int) (a3 L : List S62) (hL : (L.length : Int) ≤ 1048576) : Ev (fun k => impl_Seen_94__impl_PartnerTake_1.f k L a0 a1 a2 a3) (keepP a1 L) := by
  unfold impl_Seen_94__impl_PartnerTake_1.f keepP
  have hf : (fun x : S62 => !((impl_PartnerTake_1.f x.f0 x.f1 x.f2 a0 a1 a2 a3).getD false)) = (fun s => !decide (s.f0 < a1)) := by
    funext x
    simp [impl_PartnerTake_1.f]
  rw [hf]
  rcases drop_loop a0 a1 a2 a3 L hL L 0 rfl with ⟨e1, e2⟩ | ⟨j, j1, j2, j3, j4, j5⟩
  · refine Ev.bind e1 (Ev.pos rfl (Ev.ret ?_))
    symm
    rw [List.filter_eq_self]
    intro s hs
    have := e2 s hs
    simp only [Bool.not_eq_true', decide_eq_false_iff_not]
    exact this
  · refine Ev.bind j3 (Ev.neg (by omega) (Ev.pos (by omega) (Ev.pos (by omega) (Ev.ret ?_))))
    rw [Int.toNat_natCast]
    have hj : rd_T62 L (j : Int) = L[j] := by
      unfold rd_T62
      rw [Int.toNat_natCast, List.getD_eq_getElem?_getD, List.getElem?_eq_getElem j2]
      rfl
    rw [hj] at j4
    rw [Nat.sub_zero] at j5
    conv => rhs; rw [← List.take_append_drop j L, List.filter_append, List.drop_eq_getElem_cons j2, List.filter_cons_of_neg (by simp [j4])]
    congr 1
    symm
    rw [List.filter_eq_self]
    intro s hs
    have := j5 s hs
    simp only [Bool.not_eq_true', decide_eq_false_iff_not]
    exact this
/-- The new one is put in its place. -/
theorem put_loop (n kind : Int) (L : List S62) (a0 : ByteArray) (a1 a2 e0 e1 e2 : Int) (hL : (L.length : Int) ≤ 1048576) : ∀ (r : List S62) (i : Nat), L.drop i = r → (L.take i).all (fun s => decide (s.f0 < n)) = true → i ≤ L.length →
    Ev (fun k => impl_PartnerTake.l0 k n kind (i : Int) a0 a1 a2 L e0 e1 e2) (a0, a1, wrap64 (a2 + 1), putP n ⟨e0, e1, e2⟩ L, kind, e0, e1, e2, 0) := by
  have hins : ∀ i : Nat, i ≤ L.length → (L.take i).all (fun s => decide (s.f0 < n)) = true → (∀ h : i < L.length, ¬ (L[i]).f0 < n) → impl_Seen_96.f L (i : Int) [(⟨e0, e1, e2⟩ : S62)] = some (putP n ⟨e0, e1, e2⟩ L) := by
    intro i hi hall hstop
    have hsp : L.takeWhile (fun s => decide (s.f0 < n)) = L.take i ∧ L.dropWhile (fun s => decide (s.f0 < n)) = L.drop i := by
      have hs := List.take_append_drop i L
      have h1 : ∀ s ∈ L.take i, decide (s.f0 < n) = true := by simpa [List.all_eq_true] using hall
      have h2 : (L.drop i).takeWhile (fun s => decide (s.f0 < n)) = [] ∧ (L.drop i).dropWhile (fun s => decide (s.f0 < n)) = L.drop i := by
        rcases Nat.lt_or_ge i L.length with h | h
        · rw [List.drop_eq_getElem_cons h, List.takeWhile_cons_of_neg (by simpa using hstop h), List.dropWhile_cons_of_neg (by simpa using hstop h)]
          exact ⟨rfl, rfl⟩
        · rw [List.drop_eq_nil_of_le h]; exact ⟨rfl, rfl⟩
      constructor
      · conv => lhs; rw [← hs]
        rw [List.takeWhile_append_of_pos h1, h2.1, List.append_nil]
      · conv => lhs; rw [← hs]
        rw [List.dropWhile_append_of_pos h1, h2.2]
    unfold impl_Seen_96.f putP
    rw [if_pos (by omega), if_pos (by omega), if_pos (by simp), if_pos (by simp; omega), Int.toNat_natCast, hsp.1, hsp.2]
  intro r
  induction r with
  | nil =>
    intro i h hall hi
    have h0 := ldrop_nil h
    exact Ev.step (fun k => impl_PartnerTake.l0.eq_2 ..) (Ev.neg (by omega) (Ev.bindc (hins i hi hall (fun h => by omega)) (Ev.now _)))
  | cons s r ih =>
    intro i h hall hi
    obtain ⟨h1, h2, h3⟩ := ldrop_cons z62 h
    have hr : rd_T62 L (i : Int) = s := h2
    have hlt : i < L.length := by omega
    have hs : L[i] = s := by
      rw [← h2, Int.toNat_natCast, List.getD_eq_getElem?_getD, List.getElem?_eq_getElem hlt]
      rfl
    have hw := wi_ (i := i) (by omega)
    refine Ev.step (fun k => impl_PartnerTake.l0.eq_2 ..) (Ev.pos h1 (Ev.pos (by omega) ?_))
    rw [hr]
    by_cases g : s.f0 < n
    · refine Ev.pos g ?_
      rw [hw]
      refine ih (i + 1) h3 ?_ (by omega)
      rw [List.take_succ_eq_append_getElem hlt, List.all_append, hall, hs]
      simp [g]
    · exact Ev.neg g (Ev.bindc (hins i hi hall (fun h => by rw [hs]; exact g)) (Ev.now _))
theorem copy_ev (a : ByteArray) (b c : Int) (L : List S62) (hL : (L.length : Int) ≤ 1048576) : spec_l07Copy.f a b c L = some (a, b, c, L) := by
  unfold spec_l07Copy.f
  simp only [Option.bind_some, List.length_nil, List.nil_append]
  rw [if_pos (by omega)]
theorem own_ev (a : ByteArray) (b c : Int) (L : List S62) (hL : (L.length : Int) ≤ 1048576) : impl_ownPartner.f a b c L = some (a, b, c, L) := by
  unfold impl_ownPartner.f impl_Seen_117.f
  rw [if_pos (by omega)]
  rfl
theorem rightSeen_low (low : Int) : ∀ (l : List S62) (p : Option Int), rightSeen low p l = true → ∀ s ∈ l, low ≤ s.f0
  | [], _, _ => fun s hs => by simp at hs
  | x :: r, p, h => fun s hs => by
    simp only [rightSeen, Bool.and_eq_true, decide_eq_true_eq] at h
    rcases List.mem_cons.1 hs with rfl | hs
    · exact h.1.1.1.1.1
    · exact rightSeen_low low r _ h.2 s hs
abbrev TakeR : Type := ByteArray × Int × Int × List S62 × Int × Int × Int × Int × Int
theorem take_both (name : ByteArray) (low next : Int) (L : List S62) (n c : Int) (hL : (L.length : Int) ≤ 1048576) (hn : (name.size : Int) ≤ 9223372036854775807) : ∃ (a : ByteArray) (b d : Int) (F : List S62) (q s0 s1 s2 e : Int), Ev (fun k => spec_PartnerTake.f k name low next L n c) (a, b, d, F, q, s0, s1, s2, e) ∧ Ev (fun k => impl_PartnerTake.f k name low next L n c) (a, b, d, F, q, s0, s1, s2, e) ∧ (F.length : Int) ≤ 33 ∧ (a.size : Int) ≤ 9223372036854775807 := by
  have hs := specPartnerRight_ev name low next L (by omega) hn
  have hi := implPartnerRight_ev name low next L (by omega) hn
  have sF : Ev (fun k => spec_PartnerTake.j0 k n c true name low next L) ((⟨#[]⟩ : ByteArray), 0, 0, ([] : List S62), 0, 0, 0, 0, 1) := Ev.step (fun k => spec_PartnerTake.j0.eq_2 ..) (Ev.pos rfl (Ev.now _))
  have iF : Ev (fun k => impl_PartnerTake.j0 k n c true name low next L) ((⟨#[]⟩ : ByteArray), 0, 0, ([] : List S62), 0, 0, 0, 0, 1) := Ev.step (fun k => impl_PartnerTake.j0.eq_2 ..) (Ev.pos rfl (Ev.now _))
  unfold spec_PartnerTake.f impl_PartnerTake.f
  by_cases hp : partnerP name low next L = true
  · by_cases hc : ctrl n = true
    · by_cases hcode : 0 ≤ c ∧ c ≤ 13
      · obtain ⟨x, f1, f2, f3, f4, x1, x2, x3, x4⟩ := ask_ev name low next L n (by omega) hn hp hc
        have hp' : ctrl low = true ∧ ctrl next = true ∧ rightSeen low none L = true := by
          simp only [partnerP, Bool.and_eq_true] at hp
          exact ⟨hp.1.1.2, hp.1.2, hp.2⟩
        obtain ⟨g1, g2, g3⟩ := hp'
        have hL32 := rightSeen_le low L g3
        have g1' : 1 ≤ low ∧ low ≤ 999999 := by simpa [ctrl] using g1
        have hc' : 1 ≤ n ∧ n ≤ 999999 := by simpa [ctrl] using hc
        have hstale : n < low → x < 0 := fun h => by
          rcases Int.lt_or_le x 0 with hx | hx
          · exact hx
          · have e := x3 hx
            have : rd_T62 L x ∈ L := by
              unfold rd_T62
              exact getD_mem _ (by omega)
            have := rightSeen_low low L none g3 _ this
            omega
        have i0 : ∀ r, Ev (fun k => if askP low n x = 1 then (if next = 999999 then (some ((⟨#[]⟩ : ByteArray), 0, 0, ([] : List S62), 0, 0, 0, 0, 13)) else ((impl_Seen_94__impl_PartnerTake_1.f k L name (mx low (wrap64 ((wrap64 (n - 32)) + 1))) next L).bind fun t239 => (impl_PartnerTake.l0 k n (askP low n x) 0 name (mx low (wrap64 ((wrap64 (n - 32)) + 1))) next t239 n next c))) else ((impl_Partner_seen.f k name low next L n).bind fun bt233 => (some (name, low, next, L, askP low n x, bt233.1, bt233.2.1, bt233.2.2.1, (0 : Int))))) r → Ev (fun k => (impl_PartnerRight.f k name low next L).bind fun t223 => (if t223 = true then ((impl_isControl.f n).bind fun t224 => (if t224 = true then ((impl_isCode.f c).bind fun t225 => (impl_PartnerTake.j0 k n c (!t225) name low next L)) else (impl_PartnerTake.j0 k n c true name low next L))) else (impl_PartnerTake.j0 k n c true name low next L))) r := fun r h => by
          rw [hp] at hi
          refine Ev.bind hi (Ev.pos rfl (Ev.bindc (isControl_eq n) (Ev.pos hc (Ev.bindc (isCode_eq c) ?_))))
          rw [decide_eq_true hcode]
          exact Ev.step (fun k => impl_PartnerTake.j0.eq_2 ..) (Ev.neg (by simp) (Ev.bindc (own_ev name low next L (by omega)) (Ev.bind f3 h)))
        have s0 : ∀ r, Ev (fun k => if askP low n x = 2 then ((spec_l07Find.f k name low next L n).bind fun t163 => (if 0 ≤ t163 then (if t163 < (L.length : Int) then (spec_PartnerTake.j1 k n c (askP low n x) name low next L name low next L (askP low n x) ((rd_T62 L t163).f0) ((rd_T62 L t163).f1) ((rd_T62 L t163).f2) 0) else (none)) else (none))) else (spec_PartnerTake.j1 k n c (askP low n x) name low next L name low next L (askP low n x) 0 0 0 0)) r → Ev (fun k => (spec_PartnerRight.f k name low next L).bind fun t153 => (if t153 = true then ((spec_l01Control.f n).bind fun t154 => (if t154 = true then (if c < 0 then (spec_PartnerTake.j0 k n c true name low next L) else (spec_PartnerTake.j0 k n c (decide (c > 13)) name low next L)) else (spec_PartnerTake.j0 k n c true name low next L))) else (spec_PartnerTake.j0 k n c true name low next L))) r := fun r h => by
          rw [hp] at hs
          refine Ev.bind hs (Ev.pos rfl (Ev.bindc (l01Control_eq n) (Ev.pos hc (Ev.neg (by omega) ?_))))
          rw [decide_eq_false (by omega)]
          exact Ev.step (fun k => spec_PartnerTake.j0.eq_2 ..) (Ev.neg (by simp) (Ev.bind f2 (Ev.bindc (copy_ev name low next L (by omega)) h)))
        by_cases hlow : n < low
        · have hx := hstale hlow
          have ha : askP low n x = 3 := by unfold askP; rw [if_pos hlow]
          refine ⟨name, low, next, L, 3, 0, 0, 0, 0, s0 _ ?_, i0 _ ?_, by omega, hn⟩
          · rw [ha]
            exact Ev.neg (by omega) (Ev.step (fun k => spec_PartnerTake.j1.eq_2 ..) (Ev.neg (by omega) (Ev.now _)))
          · rw [ha]
            have f4' : Ev (fun k => impl_Partner_seen.f k name low next L n) (0, 0, 0, false) := f4.to (by unfold seenP; rw [if_pos hx])
            exact Ev.neg (by omega) (Ev.bind f4' (Ev.now _))
        · by_cases hx : 0 ≤ x
          · have ha : askP low n x = 2 := by unfold askP; rw [if_neg hlow, if_pos hx]
            refine ⟨name, low, next, L, 2, (rd_T62 L x).f0, (rd_T62 L x).f1, (rd_T62 L x).f2, 0, s0 _ ?_, i0 _ ?_, by omega, hn⟩
            · rw [ha]
              exact Ev.pos rfl (Ev.bind f1 (Ev.pos hx (Ev.pos x2 (Ev.step (fun k => spec_PartnerTake.j1.eq_2 ..) (Ev.neg (by omega) (Ev.now _))))))
            · rw [ha]
              have f4' : Ev (fun k => impl_Partner_seen.f k name low next L n) ((rd_T62 L x).f0, (rd_T62 L x).f1, (rd_T62 L x).f2, true) := f4.to (by unfold seenP; rw [if_neg (by omega)])
              exact Ev.neg (by omega) (Ev.bind f4' (Ev.now _))
          · have ha : askP low n x = 1 := by unfold askP; rw [if_neg hlow, if_neg hx]
            rw [ha] at s0 i0
            by_cases hnx : next = 999999
            · refine ⟨⟨#[]⟩, 0, 0, [], 0, 0, 0, 0, 13, s0 _ ?_, i0 _ ?_, by simp, by simp [ByteArray.size]⟩
              · exact Ev.neg (by omega) (Ev.step (fun k => spec_PartnerTake.j1.eq_2 ..) (Ev.pos rfl (Ev.pos hnx (Ev.now _))))
              · exact Ev.pos rfl (Ev.pos hnx (Ev.now _))
            · have hw : wrap64 (wrap64 (n - 32) + 1) = n - 31 := by
                rw [wrap_id (x := n - 32) (by omega) (by omega), wrap_id (by omega) (by omega)]; omega
              obtain ⟨low2, hlow2⟩ : ∃ l2, l2 = (if low > n - 31 then low else n - 31) := ⟨_, rfl⟩
              have hm : mx low (n - 31) = low2 := by unfold mx; rw [hlow2]; split <;> split <;> omega
              have hM : spec_l01Max.f low (n - 31) = some low2 := by unfold spec_l01Max.f; rw [hlow2]; split <;> rfl
              have hle : low2 ≤ n := by rw [hlow2]; split <;> omega
              rw [hw] at i0
              rw [hm] at i0
              have hk := keep_ev name low2 next L L (by omega)
              have hkl := keepP_len low2 L
              have hq := put_loop n 1 (keepP low2 L) name low2 next n next c (by omega) (keepP low2 L) 0 rfl rfl (by omega)
              have hz := specIns_loop n low2 name low next L name low next L 1 n next c 0 (by omega) L 0 [] false rfl (by omega) (by simp)
              rw [List.nil_append, ins_put n low2 ⟨n, next, c⟩ hle L (x4 (by omega))] at hz
              have hpl := putP_len n ⟨n, next, c⟩ (keepP low2 L)
              refine ⟨name, low2, wrap64 (next + 1), putP n ⟨n, next, c⟩ (keepP low2 L), 1, n, next, c, 0, s0 _ ?_, i0 _ ?_, by omega, hn⟩
              · refine Ev.neg (by omega) (Ev.step (fun k => spec_PartnerTake.j1.eq_2 ..) (Ev.pos rfl (Ev.neg hnx ?_)))
                rw [hw]
                exact Ev.bindc hM hz
              · exact Ev.pos rfl (Ev.neg hnx (Ev.bind hk hq))
      · refine ⟨⟨#[]⟩, 0, 0, [], 0, 0, 0, 0, 1, ?_, ?_, by simp, by simp [ByteArray.size]⟩
        · rw [hp] at hs
          refine Ev.bind hs (Ev.pos rfl (Ev.bindc (l01Control_eq n) (Ev.pos hc (Ev.ite (fun _ => sF) (fun g => ?_)))))
          rw [decide_eq_true (by omega)]
          exact sF
        · rw [hp] at hi
          refine Ev.bind hi (Ev.pos rfl (Ev.bindc (isControl_eq n) (Ev.pos hc (Ev.bindc (isCode_eq c) ?_))))
          rw [decide_eq_false hcode]
          exact iF
    · refine ⟨⟨#[]⟩, 0, 0, [], 0, 0, 0, 0, 1, ?_, ?_, by simp, by simp [ByteArray.size]⟩
      · rw [hp] at hs
        exact Ev.bind hs (Ev.pos rfl (Ev.bindc (l01Control_eq n) (Ev.neg hc sF)))
      · rw [hp] at hi
        exact Ev.bind hi (Ev.pos rfl (Ev.bindc (isControl_eq n) (Ev.neg hc iF)))
  · refine ⟨⟨#[]⟩, 0, 0, [], 0, 0, 0, 0, 1, ?_, ?_, by simp, by simp [ByteArray.size]⟩
    · exact Ev.bind hs (Ev.neg hp sF)
    · exact Ev.bind hi (Ev.neg hp iF)

/-! what the draws give -/
theorem u64_id {x : Int} (h0 : 0 ≤ x) (h1 : x < 18446744073709551616) : IntKind.u64.wrap x = x := by
  unfold IntKind.wrap
  simp [IntKind.bits, IntKind.signed]
  omega
theorem u64_ge (x : Int) : 0 ≤ IntKind.u64.wrap x := by
  unfold IntKind.wrap
  simp [IntKind.bits, IntKind.signed]
  omega
theorem u64_mod (x : Int) {m : Int} (h0 : 2 ≤ m) (h1 : m ≤ 9223372036854775807) : 0 ≤ wrap64 (Int.tmod (IntKind.u64.wrap x) (IntKind.u64.wrap m)) ∧ wrap64 (Int.tmod (IntKind.u64.wrap x) (IntKind.u64.wrap m)) < m := by
  rw [u64_id (x := m) (by omega) (by omega)]
  have h := u64_ge x
  generalize IntKind.u64.wrap x = y at h
  rw [Int.tmod_eq_emod_of_nonneg h]
  have h2 := Int.emod_nonneg y (show m ≠ 0 by omega)
  have h3 := Int.emod_lt_of_pos y (show 0 < m by omega)
  rw [wrap_id (by omega) (by omega)]
  exact ⟨h2, h3⟩
theorem src_n (b : List Int) (p mix size m : Int) (hb : b.length ≤ 1048576) (h0 : 0 ≤ p) (h1 : p ≤ (b.length : Int)) (hm : 2 ≤ m) (hm2 : m ≤ 9223372036854775807) : ∃ r p' mix', spec_l01Src_n.f b p mix size m = some (r, p', mix', size) ∧ 0 ≤ p' ∧ p' ≤ (b.length : Int) ∧ 0 ≤ r ∧ r < m := by
  unfold spec_l01Src_n.f
  have hne : ¬ IntKind.u64.wrap m = 0 := by rw [u64_id (by omega) (by omega)]; omega
  rw [if_neg (by omega)]
  by_cases h : p < (b.length : Int)
  · rw [if_pos h, if_pos h0, if_neg hne]
    have hw : wrap64 (p + 1) = p + 1 := wrap_id (by omega) (by omega)
    rw [hw]
    exact ⟨_, _, _, rfl, by omega, by omega, (u64_mod _ hm hm2).1, (u64_mod _ hm hm2).2⟩
  · rw [if_neg h, if_neg hne]
    exact ⟨_, _, _, rfl, by omega, by omega, (u64_mod _ hm hm2).1, (u64_mod _ hm hm2).2⟩
theorem src_one (b : List Int) (p mix size m : Int) (hb : b.length ≤ 1048576) (h0 : 0 ≤ p) (h1 : p ≤ (b.length : Int)) (hm : 2 ≤ m) (hm2 : m ≤ 9223372036854775807) : ∃ r p' mix', spec_l01Src_one.f b p mix size m = some (r, p', mix', size) ∧ 0 ≤ p' ∧ p' ≤ (b.length : Int) := by
  obtain ⟨r, p', mix', h, h2, h3, _, _⟩ := src_n b p mix size m hb h0 h1 hm hm2
  unfold spec_l01Src_one.f
  rw [h]
  exact ⟨_, _, _, rfl, h2, h3⟩
theorem source_loop (L : List Int) (hl : L.length ≤ 1048576) : ∀ (d i : Nat) (mix : Int), 64 - i = d → i ≤ 64 → ∃ mix' size', Ev (fun k => spec_l01Source.l0 k L (i : Int) L 0 mix 0) (L, 0, mix', size')
  | 0, i, mix, hd, hi => by
    by_cases h : (i : Int) < (L.length : Int)
    · by_cases g : wrap64 ((L.length : Int) / 20) > 12
      · exact ⟨_, _, Ev.step (fun k => spec_l01Source.l0.eq_2 ..) (Ev.pos h (Ev.neg (by omega) (Ev.pos g (Ev.now _))))⟩
      · exact ⟨_, _, Ev.step (fun k => spec_l01Source.l0.eq_2 ..) (Ev.pos h (Ev.neg (by omega) (Ev.neg g (Ev.now _))))⟩
    · by_cases g : wrap64 ((L.length : Int) / 20) > 12
      · exact ⟨_, _, Ev.step (fun k => spec_l01Source.l0.eq_2 ..) (Ev.neg h (Ev.pos g (Ev.now _)))⟩
      · exact ⟨_, _, Ev.step (fun k => spec_l01Source.l0.eq_2 ..) (Ev.neg h (Ev.neg g (Ev.now _)))⟩
  | d + 1, i, mix, hd, hi => by
    by_cases h : (i : Int) < (L.length : Int)
    · have hw : wrap64 ((i : Int) + 1) = ((i + 1 : Nat) : Int) := by rw [wrap_id (by omega) (by omega)]; omega
      obtain ⟨m', s', e⟩ := source_loop L hl d (i + 1) (IntKind.u64.wrap ((Go.bits .xor .u64 mix (IntKind.u64.wrap (rd L (i : Int)))) * 1099511628211)) (by omega) (by omega)
      rw [← hw] at e
      exact ⟨m', s', Ev.step (fun k => spec_l01Source.l0.eq_2 ..) (Ev.pos h (Ev.pos (by omega) (Ev.pos (by omega) e)))⟩
    · by_cases g : wrap64 ((L.length : Int) / 20) > 12
      · exact ⟨_, _, Ev.step (fun k => spec_l01Source.l0.eq_2 ..) (Ev.neg h (Ev.pos g (Ev.now _)))⟩
      · exact ⟨_, _, Ev.step (fun k => spec_l01Source.l0.eq_2 ..) (Ev.neg h (Ev.neg g (Ev.now _)))⟩
theorem source_ev (L : List Int) (hl : L.length ≤ 1048576) : ∃ mix size, Ev (fun k => spec_l01Source.f k L) (L, 0, mix, size) :=
  source_loop L hl 64 0 _ rfl (by omega)

/-! numbers that are drawn -/
theorem source_loop2 (L : List Int) (hl : L.length ≤ 1048576) : ∀ (d i : Nat) (mix : Int), 64 - i = d → i ≤ 64 → ∃ mix' size', Ev (fun k => spec_l01Source.l0 k L (i : Int) L 0 mix 0) (L, 0, mix', size') ∧ 0 ≤ size' ∧ size' ≤ 12 := by
  have w0 : wrap64 ((L.length : Int) / 20) = (L.length : Int) / 20 := wrap_id (by omega) (by omega)
  intro d
  induction d with
  | zero =>
    intro i mix hd hi
    by_cases h : (i : Int) < (L.length : Int)
    · by_cases g : wrap64 ((L.length : Int) / 20) > 12
      · exact ⟨_, _, Ev.step (fun k => spec_l01Source.l0.eq_2 ..) (Ev.pos h (Ev.neg (by omega) (Ev.pos g (Ev.now _)))), by omega, by omega⟩
      · exact ⟨_, _, Ev.step (fun k => spec_l01Source.l0.eq_2 ..) (Ev.pos h (Ev.neg (by omega) (Ev.neg g (Ev.now _)))), by omega, by omega⟩
    · by_cases g : wrap64 ((L.length : Int) / 20) > 12
      · exact ⟨_, _, Ev.step (fun k => spec_l01Source.l0.eq_2 ..) (Ev.neg h (Ev.pos g (Ev.now _))), by omega, by omega⟩
      · exact ⟨_, _, Ev.step (fun k => spec_l01Source.l0.eq_2 ..) (Ev.neg h (Ev.neg g (Ev.now _))), by omega, by omega⟩
  | succ d ih =>
    intro i mix hd hi
    by_cases h : (i : Int) < (L.length : Int)
    · have hw : wrap64 ((i : Int) + 1) = ((i + 1 : Nat) : Int) := by rw [wrap_id (by omega) (by omega)]; omega
      obtain ⟨m', s', e, b⟩ := ih (i + 1) (IntKind.u64.wrap ((Go.bits .xor .u64 mix (IntKind.u64.wrap (rd L (i : Int)))) * 1099511628211)) (by omega) (by omega)
      rw [← hw] at e
      exact ⟨m', s', Ev.step (fun k => spec_l01Source.l0.eq_2 ..) (Ev.pos h (Ev.pos (by omega) (Ev.pos (by omega) e))), b⟩
    · by_cases g : wrap64 ((L.length : Int) / 20) > 12
      · exact ⟨_, _, Ev.step (fun k => spec_l01Source.l0.eq_2 ..) (Ev.neg h (Ev.pos g (Ev.now _))), by omega, by omega⟩
      · exact ⟨_, _, Ev.step (fun k => spec_l01Source.l0.eq_2 ..) (Ev.neg h (Ev.neg g (Ev.now _))), by omega, by omega⟩
theorem source_ev2 (L : List Int) (hl : L.length ≤ 1048576) : ∃ mix size, Ev (fun k => spec_l01Source.f k L) (L, 0, mix, size) ∧ 0 ≤ size ∧ size ≤ 12 :=
  source_loop2 L hl 64 0 _ rfl (by omega)
theorem src_pick (b : List Int) (p mix size : Int) (l : List ByteArray) (hb : b.length ≤ 1048576) (h0 : 0 ≤ p) (h1 : p ≤ (b.length : Int)) (hm : 2 ≤ l.length) (hm2 : l.length ≤ 1000) : ∃ s p' mix', spec_l01Src_pick.f b p mix size l = some (s, p', mix', size) ∧ 0 ≤ p' ∧ p' ≤ (b.length : Int) ∧ s ∈ l := by
  obtain ⟨r, p', mix', e, a, c, r0, r1⟩ := src_n b p mix size (l.length : Int) hb h0 h1 (by omega) (by omega)
  unfold spec_l01Src_pick.f
  rw [e]
  refine ⟨_, p', mix', (if_pos r0).trans (if_pos r1), a, c, ?_⟩
  unfold rdOf
  exact getD_mem _ (by omega)
theorem numbers_loop (b : List Int) (size : Int) (hb : b.length ≤ 1048576) : ∀ (n : Nat) (p mix at_ : Int) (acc : List Int), 0 ≤ p → p ≤ (b.length : Int) → 1 ≤ at_ → at_ + 64 * (n : Int) ≤ 4611686018427387904 → acc.length + n ≤ 1000 → ∃ l p' mix', Ev (fun k => spec_l01Src_l07Numbers.l0 k (n : Int) acc at_ b p mix size) (l, p', mix', size) ∧ l.length = acc.length + n ∧ 0 ≤ p' ∧ p' ≤ (b.length : Int)
  | 0, p, mix, at_, acc, h0, h1, ha, hz, hn => ⟨_, _, _, Ev.step (fun k => spec_l01Src_l07Numbers.l0.eq_2 ..) (Ev.neg (by omega) (Ev.now _)), by omega, h0, h1⟩
  | n + 1, p, mix, at_, acc, h0, h1, ha, hz, hn => by
    obtain ⟨r, p1, m1, e1, q0, q1, q2, q3⟩ := src_n b p mix size 8 hb h0 h1 (by omega) (by omega)
    have hw : wrap64 (((n + 1 : Nat) : Int) - 1) = (n : Int) := by rw [wrap_id (by omega) (by omega)]; omega
    have stp : ∀ (v at2 p2 m2 : Int), 0 ≤ p2 → p2 ≤ (b.length : Int) → 1 ≤ at2 → at2 ≤ at_ + 64 → ∃ l p' mix', Ev (fun k => spec_l01Src_l07Numbers.l0 k (wrap64 (((n + 1 : Nat) : Int) - 1)) (acc ++ [v]) at2 b p2 m2 size) (l, p', mix', size) ∧ l.length = acc.length + (n + 1) ∧ 0 ≤ p' ∧ p' ≤ (b.length : Int) := by
      intro v at2 p2 m2 g0 g1 g2 g3
      obtain ⟨l, p', m', e, f1, f2, f3⟩ := numbers_loop b size hb n p2 m2 at2 (acc ++ [v]) g0 g1 g2 (by omega) (by simp; omega)
      rw [hw]
      exact ⟨l, p', m', e, by rw [f1]; simp; omega, f2, f3⟩
    by_cases g0 : r = 0
    · have wa : wrap64 (at_ + 4) = at_ + 4 := wrap_id (by omega) (by omega)
      obtain ⟨r2, p2, m2, e2, a2, b2, _, _⟩ := src_n b p1 m1 size (at_ + 4) hb q0 q1 (by omega) (by omega)
      obtain ⟨l, p', m', e, f⟩ := stp (wrap64 (1 + r2)) at_ p2 m2 a2 b2 ha (by omega)
      refine ⟨l, p', m', Ev.step (fun k => spec_l01Src_l07Numbers.l0.eq_2 ..) (Ev.pos (by omega) (Ev.bindc e1 (Ev.pos g0 ?_))), f⟩
      rw [wa]
      exact Ev.bindc e2 (Ev.pos (by omega) e)
    · by_cases g1 : r = 1
      · obtain ⟨r2, p2, m2, e2, a2, b2, c2, d2⟩ := src_n b p1 m1 size 30 hb q0 q1 (by omega) (by omega)
        have wa : wrap64 (at_ + r2) = at_ + r2 := wrap_id (by omega) (by omega)
        obtain ⟨l, p', m', e, f⟩ := stp (wrap64 (at_ + r2)) (wrap64 (at_ + r2)) p2 m2 a2 b2 (by omega) (by omega)
        exact ⟨l, p', m', Ev.step (fun k => spec_l01Src_l07Numbers.l0.eq_2 ..) (Ev.pos (by omega) (Ev.bindc e1 (Ev.neg g0 (Ev.pos g1 (Ev.bindc e2 (Ev.pos (by omega) e)))))), f⟩
      · by_cases g2 : r = 2
        · obtain ⟨r2, p2, m2, e2, a2, b2, c2, d2⟩ := src_n b p1 m1 size 4 hb q0 q1 (by omega) (by omega)
          obtain ⟨t, ht⟩ : ∃ t, spec_l01Max.f 1 (wrap64 (wrap64 (at_ - 30) - r2)) = some t := by unfold spec_l01Max.f; split <;> exact ⟨_, rfl⟩
          obtain ⟨l, p', m', e, f⟩ := stp t at_ p2 m2 a2 b2 ha (by omega)
          exact ⟨l, p', m', Ev.step (fun k => spec_l01Src_l07Numbers.l0.eq_2 ..) (Ev.pos (by omega) (Ev.bindc e1 (Ev.neg g0 (Ev.neg g1 (Ev.pos g2 (Ev.bindc e2 (Ev.bindc ht (Ev.pos (by omega) e)))))))), f⟩
        · obtain ⟨r2, p2, m2, e2, a2, b2, c2, d2⟩ := src_n b p1 m1 size 2 hb q0 q1 (by omega) (by omega)
          have wa : wrap64 (at_ + 1) = at_ + 1 := wrap_id (by omega) (by omega)
          have wb : wrap64 (wrap64 (at_ + 1) + r2) = at_ + 1 + r2 := by rw [wa, wrap_id (by omega) (by omega)]
          obtain ⟨l, p', m', e, f⟩ := stp at_ (wrap64 (wrap64 (at_ + 1) + r2)) p2 m2 a2 b2 (by omega) (by omega)
          exact ⟨l, p', m', Ev.step (fun k => spec_l01Src_l07Numbers.l0.eq_2 ..) (Ev.pos (by omega) (Ev.bindc e1 (Ev.neg g0 (Ev.neg g1 (Ev.neg g2 (Ev.pos (by omega) (Ev.bindc e2 e))))))), f⟩
theorem numbers_ev (b : List Int) (p mix size n : Int) (hb : b.length ≤ 1048576) (h0 : 0 ≤ p) (h1 : p ≤ (b.length : Int)) (hn : 0 ≤ n) (hn2 : n ≤ 1000) : ∃ l p' mix', Ev (fun k => spec_l01Src_l07Numbers.f k b p mix size n) (l, p', mix', size) ∧ (l.length : Int) = n ∧ 0 ≤ p' ∧ p' ≤ (b.length : Int) := by
  obtain ⟨l, p', m', e, f1, f2, f3⟩ := numbers_loop b size hb n.toNat p mix 1 [] h0 h1 (by omega) (by omega) (by simp; omega)
  rw [show ((n.toNat : Nat) : Int) = n by omega] at e
  exact ⟨l, p', m', e, by rw [f1]; simp; omega, f2, f3⟩

/-! what a taking is, told out -/
def okS (low : Int) (s : S62) : Prop := low ≤ s.f0 ∧ s.f0 < low + 32 ∧ s.f0 ≤ 999999 ∧ ctrl s.f1 = true ∧ 0 ≤ s.f2 ∧ s.f2 ≤ 13
theorem rightSeen_iff (low : Int) : ∀ (l : List S62) (p : Option Int), rightSeen low p l = true ↔ (∀ s ∈ l, okS low s ∧ lastP p s.f0 = true) ∧ l.Pairwise (fun a b => a.f0 < b.f0)
  | [], p => by simp [rightSeen]
  | s :: r, p => by
    have ih := rightSeen_iff low r (some s.f0)
    have hs : rightSeen low p (s :: r) = true ↔ (okS low s ∧ lastP p s.f0 = true) ∧ rightSeen low (some s.f0) r = true := by
      simp only [rightSeen, Bool.and_eq_true, decide_eq_true_eq, okS]
      constructor
      · rintro ⟨⟨⟨⟨⟨a, b, c⟩, d⟩, e⟩, f, g⟩, h⟩; exact ⟨⟨⟨a, b, c, e, f, g⟩, d⟩, h⟩
      · rintro ⟨⟨⟨a, b, c, e, f, g⟩, d⟩, h⟩; exact ⟨⟨⟨⟨⟨a, b, c⟩, d⟩, e⟩, f, g⟩, h⟩
    rw [hs, ih, List.pairwise_cons]
    constructor
    · rintro ⟨⟨a, b⟩, c, d⟩
      refine ⟨fun t ht => ?_, fun t ht => ?_, d⟩
      · rcases List.mem_cons.1 ht with rfl | ht
        · exact ⟨a, b⟩
        · refine ⟨(c t ht).1, ?_⟩
          have h1 := (c t ht).2
          cases p with
          | none => rfl
          | some q => simp only [lastP, decide_eq_true_eq] at b h1 ⊢; omega
      · have h1 := (c t ht).2
        simpa [lastP] using h1
    · rintro ⟨a, b, c⟩
      exact ⟨a s List.mem_cons_self, fun t ht => ⟨(a t (List.mem_cons_of_mem _ ht)).1, by simpa [lastP] using b t ht⟩, c⟩
theorem right_none (low : Int) (l : List S62) : rightSeen low none l = true ↔ (∀ s ∈ l, okS low s) ∧ l.Pairwise (fun a b => a.f0 < b.f0) := by
  rw [rightSeen_iff]
  simp [lastP]
theorem putP_cons_lt (n : Int) (e s : S62) (r : List S62) (h : s.f0 < n) : putP n e (s :: r) = s :: putP n e r := by
  unfold putP
  rw [List.takeWhile_cons_of_pos (by simpa using h), List.dropWhile_cons_of_pos (by simpa using h)]
  rfl
theorem putP_cons_ge (n : Int) (e s : S62) (r : List S62) (h : ¬ s.f0 < n) : putP n e (s :: r) = e :: s :: r := by
  unfold putP
  rw [List.takeWhile_cons_of_neg (by simpa using h), List.dropWhile_cons_of_neg (by simpa using h)]
  rfl
theorem putP_mem (n : Int) (e t : S62) : ∀ K : List S62, t ∈ putP n e K ↔ t = e ∨ t ∈ K
  | [] => by simp [putP]
  | s :: r => by
    by_cases h : s.f0 < n
    · rw [putP_cons_lt _ _ _ _ h, List.mem_cons, putP_mem n e t r, List.mem_cons]
      constructor
      · rintro (h | h | h)
        · exact .inr (.inl h)
        · exact .inl h
        · exact .inr (.inr h)
      · rintro (h | h | h)
        · exact .inr (.inl h)
        · exact .inl h
        · exact .inr (.inr h)
    · rw [putP_cons_ge _ _ _ _ h, List.mem_cons]
theorem putP_pair (n : Int) (e : S62) (he : e.f0 = n) : ∀ K : List S62, K.Pairwise (fun a b => a.f0 < b.f0) → (∀ s ∈ K, s.f0 ≠ n) → (putP n e K).Pairwise (fun a b => a.f0 < b.f0)
  | [], _, _ => by simp [putP]
  | s :: r, h, hn => by
    obtain ⟨h1, h2⟩ := List.pairwise_cons.1 h
    have hs := hn s List.mem_cons_self
    by_cases g : s.f0 < n
    · rw [putP_cons_lt _ _ _ _ g]
      refine List.pairwise_cons.2 ⟨fun t ht => ?_, putP_pair n e he r h2 (fun t ht => hn t (List.mem_cons_of_mem _ ht))⟩
      rcases (putP_mem n e t r).1 ht with rfl | ht
      · omega
      · exact h1 t ht
    · rw [putP_cons_ge _ _ _ _ g]
      refine List.pairwise_cons.2 ⟨fun t ht => ?_, h⟩
      rcases List.mem_cons.1 ht with rfl | ht
      · omega
      · have := h1 t ht; omega
def lowP (low n : Int) : Int := if low > n - 31 then low else n - 31
def newP (low n next c : Int) (L : List S62) : List S62 := putP n ⟨n, next, c⟩ (keepP (lowP low n) L)
theorem newP_mem (low n next c : Int) (L : List S62) (t : S62) : t ∈ newP low n next c L ↔ t = ⟨n, next, c⟩ ∨ (t ∈ L ∧ lowP low n ≤ t.f0) := by
  unfold newP
  rw [putP_mem]
  unfold keepP
  rw [List.mem_filter]
  simp
theorem newP_right (low n next c : Int) (L : List S62) (h : rightSeen low none L = true) (hl : low ≤ n) (hc : ctrl n = true) (hx : ctrl next = true) (h0 : 0 ≤ c) (h1 : c ≤ 13) (hn : ∀ s ∈ L, s.f0 ≠ n) : rightSeen (lowP low n) none (newP low n next c L) = true := by
  rw [right_none] at h ⊢
  have hc' : 1 ≤ n ∧ n ≤ 999999 := by simpa [ctrl] using hc
  have e1 : lowP low n ≤ n := by unfold lowP; split <;> omega
  have e2 : n < lowP low n + 32 := by unfold lowP; split <;> omega
  have e3 : low ≤ lowP low n := by unfold lowP; split <;> omega
  refine ⟨fun t ht => ?_, ?_⟩
  · rcases (newP_mem _ _ _ _ _ _).1 ht with rfl | ⟨ht, hl2⟩
    · exact ⟨e1, e2, hc'.2, hx, h0, h1⟩
    · obtain ⟨a, b, d, f, g, i⟩ := h.1 t ht
      exact ⟨hl2, by omega, d, f, g, i⟩
  · unfold newP
    refine putP_pair n _ rfl _ ?_ (fun s hs => ?_)
    · exact List.Pairwise.filter _ h.2
    · unfold keepP at hs
      exact hn s (List.mem_filter.1 hs).1
/-- Of a right partner and a right number. -/
theorem take_right (name : ByteArray) (low next : Int) (L : List S62) (n c : Int) (hn : (name.size : Int) ≤ 9223372036854775807) (hp : partnerP name low next L = true) (hc : ctrl n = true) (hcode : 0 ≤ c ∧ c ≤ 13) : ∃ x : Int, -1 ≤ x ∧ x < (L.length : Int) ∧ (0 ≤ x → (rd_T62 L x).f0 = n) ∧ (x < 0 → ∀ s ∈ L, s.f0 ≠ n) ∧
    (n < low → Ev (fun k => spec_PartnerTake.f k name low next L n c) (name, low, next, L, 3, 0, 0, 0, 0) ∧ Ev (fun k => impl_PartnerTake.f k name low next L n c) (name, low, next, L, 3, 0, 0, 0, 0)) ∧
    (¬ n < low → 0 ≤ x → Ev (fun k => spec_PartnerTake.f k name low next L n c) (name, low, next, L, 2, (rd_T62 L x).f0, (rd_T62 L x).f1, (rd_T62 L x).f2, 0) ∧ Ev (fun k => impl_PartnerTake.f k name low next L n c) (name, low, next, L, 2, (rd_T62 L x).f0, (rd_T62 L x).f1, (rd_T62 L x).f2, 0)) ∧
    (¬ n < low → x < 0 → next = 999999 → Ev (fun k => spec_PartnerTake.f k name low next L n c) ((⟨#[]⟩ : ByteArray), 0, 0, ([] : List S62), 0, 0, 0, 0, 13) ∧ Ev (fun k => impl_PartnerTake.f k name low next L n c) ((⟨#[]⟩ : ByteArray), 0, 0, ([] : List S62), 0, 0, 0, 0, 13)) ∧
    (¬ n < low → x < 0 → next ≠ 999999 → Ev (fun k => spec_PartnerTake.f k name low next L n c) (name, lowP low n, next + 1, newP low n next c L, 1, n, next, c, 0) ∧ Ev (fun k => impl_PartnerTake.f k name low next L n c) (name, lowP low n, next + 1, newP low n next c L, 1, n, next, c, 0)) := by
  have hp' : ctrl low = true ∧ ctrl next = true ∧ rightSeen low none L = true := by
    simp only [partnerP, Bool.and_eq_true] at hp
    exact ⟨hp.1.1.2, hp.1.2, hp.2⟩
  obtain ⟨g1, g2, g3⟩ := hp'
  have hL32 := rightSeen_le low L g3
  have hs := specPartnerRight_ev name low next L (by omega) hn
  have hi := implPartnerRight_ev name low next L (by omega) hn
  have g1' : 1 ≤ low ∧ low ≤ 999999 := by simpa [ctrl] using g1
  have g2' : 1 ≤ next ∧ next ≤ 999999 := by simpa [ctrl] using g2
  have hc' : 1 ≤ n ∧ n ≤ 999999 := by simpa [ctrl] using hc
  obtain ⟨x, f1, f2, f3, f4, x1, x2, x3, x4⟩ := ask_ev name low next L n (by omega) hn hp hc
  have hstale : n < low → x < 0 := fun h => by
    rcases Int.lt_or_le x 0 with hx | hx
    · exact hx
    · have e := x3 hx
      have : rd_T62 L x ∈ L := by
        unfold rd_T62
        exact getD_mem _ (by omega)
      have := rightSeen_low low L none g3 _ this
      omega
  unfold spec_PartnerTake.f impl_PartnerTake.f
  have i0 : ∀ r, Ev (fun k => if askP low n x = 1 then (if next = 999999 then (some ((⟨#[]⟩ : ByteArray), 0, 0, ([] : List S62), 0, 0, 0, 0, 13)) else ((impl_Seen_94__impl_PartnerTake_1.f k L name (mx low (wrap64 ((wrap64 (n - 32)) + 1))) next L).bind fun t239 => (impl_PartnerTake.l0 k n (askP low n x) 0 name (mx low (wrap64 ((wrap64 (n - 32)) + 1))) next t239 n next c))) else ((impl_Partner_seen.f k name low next L n).bind fun bt233 => (some (name, low, next, L, askP low n x, bt233.1, bt233.2.1, bt233.2.2.1, (0 : Int))))) r → Ev (fun k => (impl_PartnerRight.f k name low next L).bind fun t223 => (if t223 = true then ((impl_isControl.f n).bind fun t224 => (if t224 = true then ((impl_isCode.f c).bind fun t225 => (impl_PartnerTake.j0 k n c (!t225) name low next L)) else (impl_PartnerTake.j0 k n c true name low next L))) else (impl_PartnerTake.j0 k n c true name low next L))) r := fun r h => by
    rw [hp] at hi
    refine Ev.bind hi (Ev.pos rfl (Ev.bindc (isControl_eq n) (Ev.pos hc (Ev.bindc (isCode_eq c) ?_))))
    rw [decide_eq_true hcode]
    exact Ev.step (fun k => impl_PartnerTake.j0.eq_2 ..) (Ev.neg (by simp) (Ev.bindc (own_ev name low next L (by omega)) (Ev.bind f3 h)))
  have s0 : ∀ r, Ev (fun k => if askP low n x = 2 then ((spec_l07Find.f k name low next L n).bind fun t163 => (if 0 ≤ t163 then (if t163 < (L.length : Int) then (spec_PartnerTake.j1 k n c (askP low n x) name low next L name low next L (askP low n x) ((rd_T62 L t163).f0) ((rd_T62 L t163).f1) ((rd_T62 L t163).f2) 0) else (none)) else (none))) else (spec_PartnerTake.j1 k n c (askP low n x) name low next L name low next L (askP low n x) 0 0 0 0)) r → Ev (fun k => (spec_PartnerRight.f k name low next L).bind fun t153 => (if t153 = true then ((spec_l01Control.f n).bind fun t154 => (if t154 = true then (if c < 0 then (spec_PartnerTake.j0 k n c true name low next L) else (spec_PartnerTake.j0 k n c (decide (c > 13)) name low next L)) else (spec_PartnerTake.j0 k n c true name low next L))) else (spec_PartnerTake.j0 k n c true name low next L))) r := fun r h => by
    rw [hp] at hs
    refine Ev.bind hs (Ev.pos rfl (Ev.bindc (l01Control_eq n) (Ev.pos hc (Ev.neg (by omega) ?_))))
    rw [decide_eq_false (by omega)]
    exact Ev.step (fun k => spec_PartnerTake.j0.eq_2 ..) (Ev.neg (by simp) (Ev.bind f2 (Ev.bindc (copy_ev name low next L (by omega)) h)))
  refine ⟨x, x1, x2, x3, x4, fun hlow => ?_, fun hlow hx => ?_, fun hlow hx hnx => ?_, fun hlow hx hnx => ?_⟩
  · have hx := hstale hlow
    have ha : askP low n x = 3 := by unfold askP; rw [if_pos hlow]
    refine ⟨s0 _ ?_, i0 _ ?_⟩
    · rw [ha]
      exact Ev.neg (by omega) (Ev.step (fun k => spec_PartnerTake.j1.eq_2 ..) (Ev.neg (by omega) (Ev.now _)))
    · rw [ha]
      have f4' : Ev (fun k => impl_Partner_seen.f k name low next L n) (0, 0, 0, false) := f4.to (by unfold seenP; rw [if_pos hx])
      exact Ev.neg (by omega) (Ev.bind f4' (Ev.now _))
  · have ha : askP low n x = 2 := by unfold askP; rw [if_neg hlow, if_pos hx]
    refine ⟨s0 _ ?_, i0 _ ?_⟩
    · rw [ha]
      exact Ev.pos rfl (Ev.bind f1 (Ev.pos hx (Ev.pos x2 (Ev.step (fun k => spec_PartnerTake.j1.eq_2 ..) (Ev.neg (by omega) (Ev.now _))))))
    · rw [ha]
      have f4' : Ev (fun k => impl_Partner_seen.f k name low next L n) ((rd_T62 L x).f0, (rd_T62 L x).f1, (rd_T62 L x).f2, true) := f4.to (by unfold seenP; rw [if_neg (by omega)])
      exact Ev.neg (by omega) (Ev.bind f4' (Ev.now _))
  · have ha : askP low n x = 1 := by unfold askP; rw [if_neg hlow, if_neg (by omega)]
    rw [ha] at s0 i0
    refine ⟨s0 _ ?_, i0 _ ?_⟩
    · exact Ev.neg (by omega) (Ev.step (fun k => spec_PartnerTake.j1.eq_2 ..) (Ev.pos rfl (Ev.pos hnx (Ev.now _))))
    · exact Ev.pos rfl (Ev.pos hnx (Ev.now _))
  · have ha : askP low n x = 1 := by unfold askP; rw [if_neg hlow, if_neg (by omega)]
    rw [ha] at s0 i0
    have hw : wrap64 (wrap64 (n - 32) + 1) = n - 31 := by
      rw [wrap_id (x := n - 32) (by omega) (by omega), wrap_id (by omega) (by omega)]; omega
    have hwn : wrap64 (next + 1) = next + 1 := wrap_id (by omega) (by omega)
    obtain ⟨low2, hlow2⟩ : ∃ l2, l2 = lowP low n := ⟨_, rfl⟩
    have hm : mx low (n - 31) = low2 := by unfold mx; rw [hlow2]; unfold lowP; split <;> split <;> omega
    have hM : spec_l01Max.f low (n - 31) = some low2 := by unfold spec_l01Max.f; rw [hlow2]; unfold lowP; split <;> rfl
    have hle : low2 ≤ n := by rw [hlow2]; unfold lowP; split <;> omega
    rw [hw] at i0
    rw [hm] at i0
    have hk := keep_ev name low2 next L L (by omega)
    have hkl := keepP_len low2 L
    have hq := put_loop n 1 (keepP low2 L) name low2 next n next c (by omega) (keepP low2 L) 0 rfl rfl (by omega)
    have hz := specIns_loop n low2 name low next L name low next L 1 n next c 0 (by omega) L 0 [] false rfl (by omega) (by simp)
    rw [List.nil_append, ins_put n low2 ⟨n, next, c⟩ hle L (x4 (by omega))] at hz
    have hE : newP low n next c L = putP n ⟨n, next, c⟩ (keepP low2 L) := by unfold newP; rw [hlow2]
    rw [hE, ← hlow2, ← hwn]
    refine ⟨s0 _ ?_, i0 _ ?_⟩
    · refine Ev.neg (by omega) (Ev.step (fun k => spec_PartnerTake.j1.eq_2 ..) (Ev.pos rfl (Ev.neg hnx ?_)))
      rw [hw]
      exact Ev.bindc hM hz
    · exact Ev.pos rfl (Ev.neg hnx (Ev.bind hk hq))
theorem partner_next {name : ByteArray} {low next : Int} {L : List S62} {n c : Int} (hp : partnerP name low next L = true) (hc : ctrl n = true) (h0 : 0 ≤ c) (h1 : c ≤ 13) (hl : ¬ n < low) (hx : next ≠ 999999) (hn : ∀ s ∈ L, s.f0 ≠ n) : partnerP name (lowP low n) (next + 1) (newP low n next c L) = true := by
  simp only [partnerP, Bool.and_eq_true] at hp ⊢
  obtain ⟨⟨⟨a, b⟩, d⟩, e⟩ := hp
  have b' : 1 ≤ low ∧ low ≤ 999999 := by simpa [ctrl] using b
  have d' : 1 ≤ next ∧ next ≤ 999999 := by simpa [ctrl] using d
  have hc' : 1 ≤ n ∧ n ≤ 999999 := by simpa [ctrl] using hc
  refine ⟨⟨⟨a, ?_⟩, ?_⟩, newP_right low n next c L e (by omega) hc d h0 h1 hn⟩
  · unfold ctrl lowP
    simp only [decide_eq_true_eq]
    split <;> omega
  · unfold ctrl
    simp only [decide_eq_true_eq]
    omega

/-! a partner that is drawn -/
theorem draw_end (b : List Int) (size : Int) (hb : b.length ≤ 1048576) (X : List Int) (i : Nat) (hi : X.length ≤ i) (p m : Int) (h0 : 0 ≤ p) (h1 : p ≤ (b.length : Int)) (a : ByteArray) (lo nx : Int) (F : List S62) (hF : (F.length : Int) ≤ 33) (ha : (a.size : Int) ≤ 9223372036854775807) : ∃ (a' : ByteArray) (lo' nx' : Int) (F' : List S62) (p' m' : Int), Ev (fun k => spec_l01Src_l07Partner.l0 k X (i : Int) b p m size a lo nx F) (a', lo', nx', F', p', m', size) ∧ (F'.length : Int) ≤ 1048576 ∧ (a'.size : Int) ≤ 9223372036854775807 ∧ 0 ≤ p' ∧ p' ≤ (b.length : Int) := by
  obtain ⟨r1, p1, m1, e1, a1, b1⟩ := src_one b p m size 12 hb h0 h1 (by omega) (by omega)
  have hn : ¬ (i : Int) < (X.length : Int) := by omega
  cases r1 with
  | false => exact ⟨_, _, _, _, _, _, Ev.step (fun k => spec_l01Src_l07Partner.l0.eq_2 ..) (Ev.neg hn (Ev.bindc e1 (Ev.neg (by simp) (Ev.now _)))), by omega, ha, a1, b1⟩
  | true =>
    obtain ⟨r2, p2, m2, e2, a2, b2, c2, d2⟩ := src_n b p1 m1 size 6 hb a1 b1 (by omega) (by omega)
    by_cases g0 : r2 = 0
    · exact ⟨_, _, _, _, _, _, Ev.step (fun k => spec_l01Src_l07Partner.l0.eq_2 ..) (Ev.neg hn (Ev.bindc e1 (Ev.pos rfl (Ev.bindc e2 (Ev.pos g0 (Ev.now _)))))), by omega, by simp [ByteArray.size], a2, b2⟩
    by_cases g1 : r2 = 1
    · obtain ⟨r3, p3, m3, e3, a3, b3, c3, d3⟩ := src_n b p2 m2 size 2 hb a2 b2 (by omega) (by omega)
      exact ⟨_, _, _, _, _, _, Ev.step (fun k => spec_l01Src_l07Partner.l0.eq_2 ..) (Ev.neg hn (Ev.bindc e1 (Ev.pos rfl (Ev.bindc e2 (Ev.neg g0 (Ev.pos g1 (Ev.bindc e3 (Ev.now _)))))))), by omega, ha, a3, b3⟩
    by_cases g2 : r2 = 2
    · exact ⟨_, _, _, _, _, _, Ev.step (fun k => spec_l01Src_l07Partner.l0.eq_2 ..) (Ev.neg hn (Ev.bindc e1 (Ev.pos rfl (Ev.bindc e2 (Ev.neg g0 (Ev.neg g1 (Ev.pos g2 (Ev.now _)))))))), by omega, ha, a2, b2⟩
    by_cases g3 : r2 = 3
    · obtain ⟨r3, p3, m3, e3, a3, b3, c3, d3⟩ := src_n b p2 m2 size 3 hb a2 b2 (by omega) (by omega)
      exact ⟨_, _, _, _, _, _, Ev.step (fun k => spec_l01Src_l07Partner.l0.eq_2 ..) (Ev.neg hn (Ev.bindc e1 (Ev.pos rfl (Ev.bindc e2 (Ev.neg g0 (Ev.neg g1 (Ev.neg g2 (Ev.pos g3 (Ev.bindc e3 (Ev.now _)))))))))), by simp, ha, a3, b3⟩
    obtain ⟨r3, p3, m3, e3, a3, b3, c3, d3⟩ := src_n b p2 m2 size 2 hb a2 b2 (by omega) (by omega)
    by_cases g4 : r2 = 4
    · exact ⟨_, _, _, _, _, _, Ev.step (fun k => spec_l01Src_l07Partner.l0.eq_2 ..) (Ev.neg hn (Ev.bindc e1 (Ev.pos rfl (Ev.bindc e2 (Ev.neg g0 (Ev.neg g1 (Ev.neg g2 (Ev.neg g3 (Ev.pos g4 (Ev.bindc e3 (Ev.pos (by omega) (Ev.now _)))))))))))), by simp; omega, ha, a3, b3⟩
    · exact ⟨_, _, _, _, _, _, Ev.step (fun k => spec_l01Src_l07Partner.l0.eq_2 ..) (Ev.neg hn (Ev.bindc e1 (Ev.pos rfl (Ev.bindc e2 (Ev.neg g0 (Ev.neg g1 (Ev.neg g2 (Ev.neg g3 (Ev.neg g4 (Ev.bindc e3 (Ev.pos (by omega) (Ev.now _)))))))))))), by simp; omega, ha, a3, b3⟩
theorem draw_loop (b : List Int) (size : Int) (hb : b.length ≤ 1048576) (X : List Int) (hX : (X.length : Int) ≤ 1048576) : ∀ (r : List Int) (i : Nat) (p m : Int) (a : ByteArray) (lo nx : Int) (F : List S62), X.drop i = r → 0 ≤ p → p ≤ (b.length : Int) → (F.length : Int) ≤ 33 → (a.size : Int) ≤ 9223372036854775807 → ∃ (a' : ByteArray) (lo' nx' : Int) (F' : List S62) (p' m' : Int), Ev (fun k => spec_l01Src_l07Partner.l0 k X (i : Int) b p m size a lo nx F) (a', lo', nx', F', p', m', size) ∧ (F'.length : Int) ≤ 1048576 ∧ (a'.size : Int) ≤ 9223372036854775807 ∧ 0 ≤ p' ∧ p' ≤ (b.length : Int) := by
  intro r
  induction r with
  | nil =>
    intro i p m a lo nx F h h0 h1 hF ha
    exact draw_end b size hb X i (by have := ldrop_nil h; omega) p m h0 h1 a lo nx F hF ha
  | cons x r ih =>
    intro i p m a lo nx F h h0 h1 hF ha
    obtain ⟨g1, g2, g3⟩ := rd_cons h
    have hw := wi_ (i := i) (by omega)
    obtain ⟨r1, p1, m1, e1, a1, b1, c1, d1⟩ := src_n b p m size 14 hb h0 h1 (by omega) (by omega)
    obtain ⟨a', b', d', F', q, s0, s1, s2, e, t1, t2, t3, t4⟩ := take_both a lo nx F x r1 (by omega) ha
    by_cases he : e = 0
    · obtain ⟨A, B, C, G, P, M, ev, rest⟩ := ih (i + 1) p1 m1 a' b' d' F' g3 a1 b1 t3 t4
      rw [← hw] at ev
      refine ⟨A, B, C, G, P, M, Ev.step (fun k => spec_l01Src_l07Partner.l0.eq_2 ..) (Ev.pos g1 (Ev.pos (by omega) (Ev.bindc e1 ?_))), rest⟩
      rw [g2]
      exact Ev.bind t1 (Ev.pos he ev)
    · obtain ⟨A, B, C, G, P, M, ev, rest⟩ := ih (i + 1) p1 m1 a lo nx F g3 a1 b1 hF ha
      rw [← hw] at ev
      refine ⟨A, B, C, G, P, M, Ev.step (fun k => spec_l01Src_l07Partner.l0.eq_2 ..) (Ev.pos g1 (Ev.pos (by omega) (Ev.bindc e1 ?_))), rest⟩
      rw [g2]
      exact Ev.bind t1 (Ev.neg he ev)
theorem draw_partner (b : List Int) (p m size : Int) (hb : b.length ≤ 1048576) (h0 : 0 ≤ p) (h1 : p ≤ (b.length : Int)) : ∃ (a' : ByteArray) (lo' nx' : Int) (F' : List S62) (p' m' : Int), Ev (fun k => spec_l01Src_l07Partner.f k b p m size) (a', lo', nx', F', p', m', size) ∧ (F'.length : Int) ≤ 1048576 ∧ (a'.size : Int) ≤ 9223372036854775807 ∧ 0 ≤ p' ∧ p' ≤ (b.length : Int) := by
  unfold spec_l01Src_l07Partner.f
  obtain ⟨s, p1, m1, e1, a1, b1, hs⟩ := src_pick b p m size [(⟨#[65, 67, 77, 69]⟩ : ByteArray), (⟨#[66, 79, 76, 84]⟩ : ByteArray), (⟨#[67, 45, 49]⟩ : ByteArray)] hb h0 h1 (by simp) (by simp)
  have hsz : (s.size : Int) ≤ 1000 := by
    simp only [List.mem_cons, List.not_mem_nil, or_false] at hs
    rcases hs with rfl | rfl | rfl <;> simp [ByteArray.size]
  obtain ⟨a, lo, nx, n1, n2⟩ : ∃ (a : ByteArray) (lo nx : Int), Ev (fun k => spec_PartnerNew.f k s) (a, lo, nx, ([] : List S62)) ∧ (a.size : Int) ≤ 9223372036854775807 := by
    unfold spec_PartnerNew.f
    by_cases h : nameP (bytesOf s) = true
    · exact ⟨s, 1, 1, Ev.bind (l01Name_ev s (by omega)) (Ev.pos h (Ev.now _)), by omega⟩
    · exact ⟨⟨#[]⟩, 0, 0, Ev.bind (l01Name_ev s (by omega)) (Ev.neg h (Ev.now _)), by simp [ByteArray.size]⟩
  obtain ⟨r2, p2, m2, e2, a2, b2, c2, d2⟩ := src_n b p1 m1 size 12 hb a1 b1 (by omega) (by omega)
  obtain ⟨l, p3, m3, e3, f3, a3, b3⟩ := numbers_ev b p2 m2 size r2 hb a2 b2 (by omega) (by omega)
  obtain ⟨A, B, C, G, P, M, ev, rest⟩ := draw_loop b size hb l (by omega) l 0 p3 m3 a lo nx [] rfl a3 b3 (by simp) n2
  exact ⟨A, B, C, G, P, M, Ev.bindc e1 (Ev.bind n1 (Ev.bindc e2 (Ev.bind e3 ev))), rest⟩
theorem draw_take (L : List Int) (hl : L.length ≤ 1048576) : ∃ (a : ByteArray) (lo nx : Int) (F : List S62) (n c : Int), Ev (fun k => spec_DrawPartnerTake.f k L) (a, lo, nx, F, n, c) ∧ (F.length : Int) ≤ 1048576 ∧ (a.size : Int) ≤ 9223372036854775807 := by
  obtain ⟨mix, size, h⟩ := source_ev L hl
  obtain ⟨a, lo, nx, F, p1, m1, e1, hF, ha, a1, b1⟩ := draw_partner L 0 mix size hl (by omega) (by omega)
  obtain ⟨r2, p2, m2, e2, a2, b2, c2, d2⟩ := src_n L p1 m1 size 70 hl a1 b1 (by omega) (by omega)
  obtain ⟨r3, p3, m3, e3, a3, b3⟩ := src_one L p2 m2 size 10 hl a2 b2 (by omega) (by omega)
  have hM : ∀ x, ∃ t, spec_l01Max.f 0 x = some t := fun x => by unfold spec_l01Max.f; split <;> exact ⟨_, rfl⟩
  have tl : ∀ (p m : Int), 0 ≤ p → p ≤ (L.length : Int) → ∃ r4 p4 m4 r5 p5 m5 t, spec_l01Src_n.f L p m size 15 = some (r4, p4, m4, size) ∧ spec_l01Src_n.f L p4 m4 size 20 = some (r5, p5, m5, size) ∧ spec_l01Max.f 0 (wrap64 (r5 - 18)) = some t := by
    intro p m g0 g1
    obtain ⟨r4, p4, m4, e4, a4, b4, _, _⟩ := src_n L p m size 15 hl g0 g1 (by omega) (by omega)
    obtain ⟨r5, p5, m5, e5, _, _, _, _⟩ := src_n L p4 m4 size 20 hl a4 b4 (by omega) (by omega)
    obtain ⟨t, ht⟩ := hM (wrap64 (r5 - 18))
    exact ⟨r4, p4, m4, r5, p5, m5, t, e4, e5, ht⟩
  unfold spec_DrawPartnerTake.f
  cases r3 with
  | true =>
    obtain ⟨r6, p6, m6, e6, a6, b6, c6, d6⟩ := src_n L p3 m3 size 4 hl a3 b3 (by omega) (by omega)
    obtain ⟨r4, p4, m4, r5, p5, m5, t, e4, e5, ht⟩ := tl p6 m6 a6 b6
    exact ⟨a, lo, nx, F, _, _, Ev.bind h (Ev.bind e1 (Ev.bindc e2 (Ev.bindc e3 (Ev.pos rfl (Ev.bindc rfl (Ev.bindc e6 (Ev.pos c6 (Ev.pos (show r6 < (([0, 999999, 1000000, 1] : List Int).length : Int) by simp; omega) (Ev.bindc e4 (Ev.bindc e5 (Ev.bindc ht (Ev.now _)))))))))))), hF, ha⟩
  | false =>
    obtain ⟨r4, p4, m4, r5, p5, m5, t, e4, e5, ht⟩ := tl p3 m3 a3 b3
    exact ⟨a, lo, nx, F, _, _, Ev.bind h (Ev.bind e1 (Ev.bindc e2 (Ev.bindc e3 (Ev.neg (by simp) (Ev.bindc e4 (Ev.bindc e5 (Ev.bindc ht (Ev.now _)))))))), hF, ha⟩

theorem lwPartner_refl (a : ByteArray) (b c : Int) (F : List S62) (hF : (F.length : Int) ≤ 1048577) : Ev (fun k => laws_lwPartner.f k a b c F a b c F) true := by
  have lp : ∀ (d i : Nat), F.length - i = d → Ev (fun k => laws_lwPartner.l0 k (i : Int) a b c F a b c F) true := by
    intro d
    induction d with
    | zero => intro i h; exact Ev.step (fun k => laws_lwPartner.l0.eq_2 ..) (Ev.neg (by omega) (Ev.now _))
    | succ d ih =>
      intro i h
      have e := ih (i + 1) (by omega)
      rw [← wi_ (by omega)] at e
      exact Ev.step (fun k => laws_lwPartner.l0.eq_2 ..) (Ev.pos (by omega) (Ev.pos (by omega) (Ev.pos (by omega) (Ev.neg (by simp) e))))
  unfold laws_lwPartner.f
  exact Ev.pos rfl (Ev.pos rfl (Ev.pos rfl (Ev.step (fun k => laws_lwPartner.j0.eq_2 ..) (Ev.neg (by simp) (lp F.length 0 (by omega))))))
theorem take_bad (name : ByteArray) (low next : Int) (L : List S62) (n c : Int) (hL : (L.length : Int) ≤ 1048576) (hn : (name.size : Int) ≤ 9223372036854775807) (h : ¬ (partnerP name low next L = true ∧ ctrl n = true ∧ 0 ≤ c ∧ c ≤ 13)) : Ev (fun k => spec_PartnerTake.f k name low next L n c) ((⟨#[]⟩ : ByteArray), 0, 0, ([] : List S62), 0, 0, 0, 0, 1) ∧ Ev (fun k => impl_PartnerTake.f k name low next L n c) ((⟨#[]⟩ : ByteArray), 0, 0, ([] : List S62), 0, 0, 0, 0, 1) := by
  have hs := specPartnerRight_ev name low next L (by omega) hn
  have hi := implPartnerRight_ev name low next L (by omega) hn
  have sF : Ev (fun k => spec_PartnerTake.j0 k n c true name low next L) ((⟨#[]⟩ : ByteArray), 0, 0, ([] : List S62), 0, 0, 0, 0, 1) := Ev.step (fun k => spec_PartnerTake.j0.eq_2 ..) (Ev.pos rfl (Ev.now _))
  have iF : Ev (fun k => impl_PartnerTake.j0 k n c true name low next L) ((⟨#[]⟩ : ByteArray), 0, 0, ([] : List S62), 0, 0, 0, 0, 1) := Ev.step (fun k => impl_PartnerTake.j0.eq_2 ..) (Ev.pos rfl (Ev.now _))
  unfold spec_PartnerTake.f impl_PartnerTake.f
  by_cases hp : partnerP name low next L = true
  · by_cases hc : ctrl n = true
    · have hcode : ¬ (0 ≤ c ∧ c ≤ 13) := fun g => h ⟨hp, hc, g⟩
      refine ⟨?_, ?_⟩
      · rw [hp] at hs
        refine Ev.bind hs (Ev.pos rfl (Ev.bindc (l01Control_eq n) (Ev.pos hc (Ev.ite (fun _ => sF) (fun g => ?_)))))
        rw [decide_eq_true (by omega)]
        exact sF
      · rw [hp] at hi
        refine Ev.bind hi (Ev.pos rfl (Ev.bindc (isControl_eq n) (Ev.pos hc (Ev.bindc (isCode_eq c) ?_))))
        rw [decide_eq_false hcode]
        exact iF
    · refine ⟨?_, ?_⟩
      · rw [hp] at hs
        exact Ev.bind hs (Ev.pos rfl (Ev.bindc (l01Control_eq n) (Ev.neg hc sF)))
      · rw [hp] at hi
        exact Ev.bind hi (Ev.pos rfl (Ev.bindc (isControl_eq n) (Ev.neg hc iF)))
  · exact ⟨Ev.bind hs (Ev.neg hp sF), Ev.bind hi (Ev.neg hp iF)⟩
theorem once (a : ByteArray) (lo nx : Int) (F : List S62) (n c : Int) (hF : (F.length : Int) ≤ 1048576) (ha : (a.size : Int) ≤ 9223372036854775807) : ∃ (a' : ByteArray) (b' d' : Int) (F' : List S62) (q s0 s1 s2 e : Int), Ev (fun k => spec_PartnerTake.f k a lo nx F n c) (a', b', d', F', q, s0, s1, s2, e) ∧ Ev (fun k => impl_PartnerTake.f k a lo nx F n c) (a', b', d', F', q, s0, s1, s2, e) ∧ Ev (fun k => laws_FnTakeOnce.j0 k n c false a lo nx F a' b' d' F' q s0 s1 s2 e a' b' d' F' q s0 s1 s2 e) true := by
  by_cases hr : partnerP a lo nx F = true ∧ ctrl n = true ∧ 0 ≤ c ∧ c ≤ 13
  · obtain ⟨hp, hc, h0, h1⟩ := hr
    have hc' : 1 ≤ n ∧ n ≤ 999999 := by simpa [ctrl] using hc
    obtain ⟨y, y1, y2, y3, y4, t3, t2, t4, t1⟩ := take_right a lo nx F n c ha hp hc ⟨h0, h1⟩
    have old : ∀ (q s0 s1 s2 : Int), q ≠ 1 → Ev (fun k => laws_FnTakeOnce.j0 k n c false a lo nx F a lo nx F q s0 s1 s2 0 a lo nx F q s0 s1 s2 0) true := by
      intro q s0 s1 s2 hq
      refine Ev.step (fun k => laws_FnTakeOnce.j0.eq_2 ..) (Ev.neg (by simp) (Ev.pos rfl ?_))
      rw [show (q != 1) = true from by simpa using hq]
      exact Ev.step (fun k => laws_FnTakeOnce.j1.eq_2 ..) (Ev.pos rfl (Ev.pos rfl (Ev.bind (lwPartner_refl a lo nx F (by omega)) (Ev.now _))))
    by_cases hlow : n < lo
    · exact ⟨_, _, _, _, _, _, _, _, _, (t3 hlow).1, (t3 hlow).2, old _ _ _ _ (by omega)⟩
    · by_cases hy : 0 ≤ y
      · exact ⟨_, _, _, _, _, _, _, _, _, (t2 hlow hy).1, (t2 hlow hy).2, old _ _ _ _ (by omega)⟩
      · by_cases hx : nx = 999999
        · exact ⟨_, _, _, _, _, _, _, _, _, (t4 hlow (by omega) hx).1, (t4 hlow (by omega) hx).2, Ev.step (fun k => laws_FnTakeOnce.j0.eq_2 ..) (Ev.neg (by simp) (Ev.neg (by omega) (Ev.step (fun k => laws_FnTakeOnce.j1.eq_2 ..) (Ev.pos rfl (Ev.neg (by omega) (Ev.now _))))))⟩
        · have hno := y4 (by omega)
          have hp2 := partner_next hp hc h0 h1 hlow hx hno
          have hle : lowP lo n ≤ n := by unfold lowP; split <;> omega
          have hp2' : rightSeen (lowP lo n) none (newP lo n nx c F) = true := by
            simp only [partnerP, Bool.and_eq_true] at hp2
            exact hp2.2
          have hF2 := rightSeen_le _ _ hp2'
          have hin : (⟨n, nx, c⟩ : S62) ∈ newP lo n nx c F := (newP_mem _ _ _ _ _ _).2 (.inl rfl)
          obtain ⟨z, z1, z2, z3, z4, _, u2, _, _⟩ := take_right a (lowP lo n) (nx + 1) (newP lo n nx c F) n 0 ha hp2 hc (by omega)
          have hz : 0 ≤ z := by
            rcases Int.lt_or_le z 0 with g | g
            · exact absurd rfl (z4 g _ hin)
            · exact g
          obtain ⟨x, _, _, k3, _, x1, x2, _, x4⟩ := ask_ev a (lowP lo n) (nx + 1) (newP lo n nx c F) n (by omega) ha hp2 hc
          have hxz : 0 ≤ x := by
            rcases Int.lt_or_le x 0 with g | g
            · exact absurd rfl (x4 g _ hin)
            · exact g
          have hask : Ev (fun k => impl_PartnerAsk.f k a (lowP lo n) (nx + 1) (newP lo n nx c F) n) 2 := by
            have hR := implPartnerRight_ev a (lowP lo n) (nx + 1) (newP lo n nx c F) (by omega) ha
            rw [hp2] at hR
            unfold impl_PartnerAsk.f
            refine Ev.bind hR (Ev.pos rfl (Ev.bindc (isControl_eq n) (Ev.pos hc (Ev.bind k3 (Ev.ret ?_)))))
            unfold askP
            rw [if_neg (by omega), if_pos hxz]
          have hmz : rd_T62 (newP lo n nx c F) z ∈ newP lo n nx c F := by
            unfold rd_T62
            exact getD_mem _ (by omega)
          have hez : rd_T62 (newP lo n nx c F) z = (⟨n, nx, c⟩ : S62) := by
            rcases (newP_mem _ _ _ _ _ _).1 hmz with g | ⟨g, _⟩
            · exact g
            · exact absurd (z3 hz) (hno _ g)
          have ut := (u2 (by omega) hz).2
          rw [hez] at ut
          have hR := implPartnerRight_ev a (lowP lo n) (nx + 1) (newP lo n nx c F) (by omega) ha
          rw [hp2] at hR
          refine ⟨_, _, _, _, _, _, _, _, _, (t1 hlow (by omega) hx).1, (t1 hlow (by omega) hx).2, Ev.step (fun k => laws_FnTakeOnce.j0.eq_2 ..) (Ev.neg (by simp) (Ev.pos rfl ?_))⟩
          refine Ev.step (fun k => laws_FnTakeOnce.j1.eq_2 ..) (Ev.neg (by simp) (Ev.bind ut (Ev.bind hR (Ev.pos rfl (Ev.bind hask (Ev.pos rfl (Ev.pos rfl (Ev.pos (by simp) (Ev.bind (lwPartner_refl a (lowP lo n) (nx + 1) (newP lo n nx c F) (by omega)) (Ev.now _))))))))))
  · obtain ⟨b1, b2⟩ := take_bad a lo nx F n c hF ha hr
    exact ⟨_, _, _, _, _, _, _, _, _, b1, b2, Ev.step (fun k => laws_FnTakeOnce.j0.eq_2 ..) (Ev.neg (by simp) (Ev.neg (by omega) (Ev.step (fun k => laws_FnTakeOnce.j1.eq_2 ..) (Ev.pos rfl (Ev.neg (by omega) (Ev.now _))))))⟩
theorem FnTakeOnce : laws_FnTakeOnce.Pure := by
  intro L hl _ _
  refine Ev.rounds (g := fun k => laws_FnTakeOnce.f k L) ?_
  unfold laws_FnTakeOnce.f
  refine Ev.ite (fun _ => Ev.now _) (fun h => ?_)
  obtain ⟨a, lo, nx, F, n, c, d, hF, ha⟩ := draw_take L (by omega)
  obtain ⟨a', b', d', F', q, s0, s1, s2, e, o1, o2, o3⟩ := once a lo nx F n c hF ha
  refine Ev.bind d (Ev.bind o1 (Ev.bind o2 (Ev.pos rfl ?_)))
  rw [show (q != q) = false from by simp]
  exact o3

end Go.Proofs.Ytjffakoifpldeaa.Pure
