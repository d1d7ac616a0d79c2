/- The law Envelopes of the program, over numbers and lists.
Conditions: none. -/
import Derived.Test.YtlghcbmkhdibdaaGreatDoorPFnEnvelopesx11
import Derived.Test.YtlghcbmkhdibdaaGreatDoorVFnEnvelopes
namespace Go.Proofs.YtlghcbmkhdibdaaGreatDoor.Pure
open Go.RowKit Go.Proofs.YtlghcbmkhdibdaaGreatDoor.PFnEnvelopes Go.Proofs.YtlghcbmkhdibdaaGreatDoorW.PrintWords Go.Proofs.YtlghcbmkhdibdaaGreatDoorW.PrintLast Go.Proofs.YtlghcbmkhdibdaaGreatDoorW.PrintMore Go.Proofs.YtlghcbmkhdibdaaGreatDoorW.Pl
set_option linter.unusedVariables false
set_option linter.unusedSimpArgs false

theorem within_eq (a b c : Int) : F56.f a b c = some (withinP a b c) := by
 unfold F56.f withinP
 split
 ·congr 1; simp only [decide_eq_decide]; omega
 ·congr 1; symm; simp only [decide_eq_false_iff_not]; omega
theorem isGreat_eq (c : Int) : F90.f c = some (great c) := by
 unfold F90.f great
 split
 ·congr 1; simp only [decide_eq_decide]; omega
 ·congr 1; symm; simp only [decide_eq_false_iff_not]; omega
theorem isDigit_eq (c : Int) : F91.f c = some (digit c) := by
 unfold F91.f digit
 split
 ·congr 1; simp only [decide_eq_decide]; omega
 ·congr 1; symm; simp only [decide_eq_false_iff_not]; omega
theorem digit_t {c : Int} (h : 48 ≤ c) (h' : c ≤ 57) : digit c = true := by simp [digit, h, h']
theorem isName_loop (s : ByteArray) (hs : (s.size : Int) ≤ 9223372036854775807) : ∀ (l : List Int) (i : Nat), 1 ≤ i → (bytesOf s).drop i = l → Ev (fun k => F54.l0 k s (s.size : Int) (i : Int)) (l.all nameCh && withinP (s.size : Int) 1 12) := by
 intro l
 induction l with
 | nil =>
  intro i hi h
  have h0 := drop_nil h
  refine Ev.step (fun k => F54.l0.eq_2 ..) ?_
  refine Ev.neg (by omega) ?_
  refine Ev.bindc (within_eq _ _ _) ?_
  exact Ev.ret (by simp)
 | cons c r ih =>
  intro i hi h
  obtain ⟨h1, h2, h3, _, _⟩ := drop_cons h
  have hw : wrap64 ((i : Int) + 1) = ((i + 1 : Nat) : Int) := by rw [wrap_id (by omega) (by omega)]; omega
  have hn := ih (i + 1) (by omega) h3
  refine Ev.step (fun k => F54.l0.eq_2 ..) ?_
  refine Ev.pos h1 (Ev.pos (by omega) (Ev.pos h1 ?_))
  rw [h2]
  refine Ev.bindc (isGreat_eq _) ?_
  by_cases hg : great c = true
  ·refine Ev.pos hg ?_
   rw [hw]
   exact hn.to (by simp [nameCh, hg])
  ·refine Ev.neg hg (Ev.neg (by omega) ?_)
   refine Ev.bindc (isDigit_eq _) ?_
   by_cases hd : digit c = true
   ·refine Ev.pos hd ?_
    rw [hw]
    exact hn.to (by simp [nameCh, hd])
   ·refine Ev.neg hd ?_
    by_cases he : c = 45
    ·refine Ev.pos he ?_
     rw [hw]
     exact hn.to (by simp [nameCh, he])
    ·refine Ev.neg he ?_
     exact Ev.ret (by simp [nameCh, hg, hd, he])
theorem isName_ev (s : ByteArray) (hs : (s.size : Int) ≤ 9223372036854775807) : Ev (fun k => F54.f k s) (nameP (bytesOf s)) := by
 have hl := length_bytesOf s
 show Ev (fun k => F54.l0 k s (s.size : Int) ((0 : Nat) : Int)) _
 match hb : bytesOf s with
 | [] =>
  have h0 := drop_nil (s := s) (i := 0) (by simp [hb])
  refine Ev.step (fun k => F54.l0.eq_2 ..) ?_
  refine Ev.neg (by omega) ?_
  refine Ev.bindc (within_eq _ _ _) ?_
  exact Ev.ret (by simp [withinP, nameP]; omega)
 | c :: r =>
  obtain ⟨h1, h2, h3, _, _⟩ := drop_cons (s := s) (i := 0) (c := c) (r := r) (by simp [hb])
  have hn := isName_loop s hs r 1 (by omega) h3
  rw [hb] at hl
  simp only [List.length_cons] at hl
  refine Ev.step (fun k => F54.l0.eq_2 ..) ?_
  refine Ev.pos h1 (Ev.pos (by omega) (Ev.pos h1 ?_))
  rw [h2]
  refine Ev.bindc (isGreat_eq _) ?_
  by_cases hg : great c = true
  ·refine Ev.pos hg ?_
   rw [show wrap64 (((0 : Nat) : Int) + 1) = ((1 : Nat) : Int) from by rw [wrap_id (by omega) (by omega)]; rfl]
   refine hn.to ?_
   have : withinP (s.size : Int) 1 12 = decide (r.length ≤ 11) := by
    simp only [withinP, decide_eq_decide]; omega
   simp [nameP, hg, this]
  ·refine Ev.neg hg (Ev.pos rfl ?_)
   exact Ev.ret (by simp [nameP, hg])
theorem l01Name_loop (s : ByteArray) (hs : (s.size : Int) ≤ 9223372036854775807) : ∀ (l : List Int) (i : Nat), (bytesOf s).drop i = l → Ev (fun k => F39.l0 k s (i : Int)) (l.all nameCh) := by
 intro l
 induction l with
 | nil =>
  intro i h
  have h0 := drop_nil h
  refine Ev.step (fun k => F39.l0.eq_2 ..) ?_
  exact Ev.neg (by omega) (Ev.ret (by simp))
 | cons c r ih =>
  intro i h
  obtain ⟨h1, h2, h3, _, _⟩ := drop_cons h
  have hw : wrap64 ((i : Int) + 1) = ((i + 1 : Nat) : Int) := by rw [wrap_id (by omega) (by omega)]; omega
  have hn := ih (i + 1) h3
  refine Ev.step (fun k => F39.l0.eq_2 ..) ?_
  refine Ev.pos h1 (Ev.pos (by omega) ?_)
  rw [h2, hw]
  by_cases hk : nameCh c = true
  ·have hn' : Ev (fun k => F39.l0 k s ((i + 1 : Nat) : Int)) ((c :: r).all nameCh) := hn.to (by simp [hk])
   have hk' : (65 ≤ c ∧ c ≤ 90) ∨ (48 ≤ c ∧ c ≤ 57) ∨ c = 45 := by simp [nameCh, great, digit, or_assoc] at hk; exact hk
   refine Ev.ite (fun g1 => Ev.ite (fun g2 => hn') (fun g2 => Ev.ite (fun g3 => Ev.ite (fun g4 => hn') (fun g4 => Ev.ite (fun g5 => hn') (fun g5 => ?_))) (fun g3 => Ev.ite (fun g5 => hn') (fun g5 => ?_)))) (fun g1 => Ev.ite (fun g3 => Ev.ite (fun g4 => hn') (fun g4 => Ev.ite (fun g5 => hn') (fun g5 => ?_))) (fun g3 => Ev.ite (fun g5 => hn') (fun g5 => ?_)))
   all_goals exact absurd hk' (by omega)
  ·have hf : Ev (fun _ : Nat => some false) ((c :: r).all nameCh) := Ev.ret (by simp [hk])
   have hk' : ¬ ((65 ≤ c ∧ c ≤ 90) ∨ (48 ≤ c ∧ c ≤ 57) ∨ c = 45) := by simp [nameCh, great, digit] at hk; omega
   refine Ev.ite (fun g1 => Ev.ite (fun g2 => ?_) (fun g2 => Ev.ite (fun g3 => Ev.ite (fun g4 => ?_) (fun g4 => Ev.ite (fun g5 => ?_) (fun g5 => hf))) (fun g3 => Ev.ite (fun g5 => ?_) (fun g5 => hf)))) (fun g1 => Ev.ite (fun g3 => Ev.ite (fun g4 => ?_) (fun g4 => Ev.ite (fun g5 => ?_) (fun g5 => hf))) (fun g3 => Ev.ite (fun g5 => ?_) (fun g5 => hf)))
   all_goals exact absurd (show (65 ≤ c ∧ c ≤ 90) ∨ (48 ≤ c ∧ c ≤ 57) ∨ c = 45 by omega) hk'
theorem l01Name_ev (s : ByteArray) (hs : (s.size : Int) ≤ 9223372036854775807) : Ev (fun k => F39.f k s) (nameP (bytesOf s)) := by
 have hl := length_bytesOf s
 have hj : ∀ b, b = false → Ev (fun k => F39.j0 k s true) b := fun b hb => Ev.step (fun k => F39.j0.eq_2 ..) (Ev.pos rfl (Ev.ret hb.symm))
 unfold F39.f
 match hb : bytesOf s with
 | [] =>
  have h0 := drop_nil (s := s) (i := 0) (by simp [hb])
  refine Ev.pos (by omega) (hj _ rfl)
 | c :: r =>
  obtain ⟨h1, h2, h3, _, _⟩ := drop_cons (s := s) (i := 0) (c := c) (r := r) (by simp [hb])
  have hn := l01Name_loop s hs (c :: r) 0 (by simp [hb])
  rw [hb] at hl
  simp only [List.length_cons] at hl
  have h2' : bt s 0 = c := h2
  refine Ev.neg (by omega) (Ev.ite (fun g => hj _ (by simp [nameP]; intros; omega)) (fun g => Ev.pos (by omega) ?_))
  rw [h2']
  refine Ev.ite (fun g1 => hj _ (by simp [nameP, great]; intros; omega)) (fun g1 => ?_)
  by_cases g2 : c > 90
  ·rw [show decide (c > 90) = true from by simp [g2]]
   exact hj _ (by simp [nameP, great]; intros; omega)
  ·rw [show decide (c > 90) = false from by simp [g2]]
   refine Ev.step (fun k => F39.j0.eq_2 ..) (Ev.neg (by simp) ?_)
   have hg : great c = true := by simp [great]; omega
   refine hn.to ?_
   have : r.length ≤ 11 := by omega
   simp [nameP, hg, nameCh, this]
theorem wi_ {i : Nat} (h : (i : Int) ≤ 4611686018427387904) : wrap64 ((i : Int) + 1) = ((i + 1 : Nat) : Int) := by rw [wrap_id (by omega) (by omega)]; omega
theorem getD_mem {α : Type} {L : List α} {i : Nat} (z : α) (h : i < L.length) : L.getD i z ∈ L := by
 rw [List.getD_eq_getElem?_getD, List.getElem?_eq_getElem h]
 exact List.getElem_mem h
theorem idx_loop {α : Type} (z : α) (g : α → Bool) (Q : Nat → Int → Option Int) (L : List α)
  (ht : ∀ i : Nat, i < L.length → g (L.getD i z) = true → Ev (fun k => Q k (i : Int)) (i : Int))
  (hf : ∀ i : Nat, i < L.length → g (L.getD i z) = false → ∀ v, Ev (fun k => Q k ((i + 1 : Nat) : Int)) v → Ev (fun k => Q k (i : Int)) v)
  (h0 : ∀ i : Nat, L.length ≤ i → Ev (fun k => Q k (i : Int)) (-1)) :
  ∀ (d i : Nat), L.length - i = d → ∃ x : Int, Ev (fun k => Q k (i : Int)) x ∧ decide (x ≥ 0) = (L.drop i).any g
 | 0, i, hd => by
  rw [List.drop_eq_nil_of_le (by omega : L.length ≤ i)]
  exact ⟨-1, h0 i (by omega), by simp⟩
 | d + 1, i, hd => by
  have hi : i < L.length := by omega
  have hg : L.getD i z = L[i] := by rw [List.getD_eq_getElem?_getD, List.getElem?_eq_getElem hi]; rfl
  rw [List.drop_eq_getElem_cons hi]
  by_cases h : g (L.getD i z) = true
  ·exact ⟨i, ht i hi h, by rw [hg] at h; rw [List.any_cons, h, Bool.true_or]; simp⟩
  ·obtain ⟨x, hx, he⟩ := idx_loop z g Q L ht hf h0 d (i + 1) (by omega)
   rw [Bool.not_eq_true] at h
   exact ⟨x, hf i hi h x hx, by rw [he]; rw [hg] at h; rw [List.any_cons, h, Bool.false_or]⟩
def printB (c : Int) : Bool := decide (32 ≤ c ∧ c ≤ 126)
def partB (s : ByteArray) : Bool := decide (s.size ≤ 40) && (bytesOf s).all printB
def tagB (s : ByteArray) : Bool := decide (s.size = 3) && (bytesOf s).all great
theorem specPart_loop (s : ByteArray) (hs : s.size ≤ 1048576) : ∀ (l : List Int) (i : Nat), (bytesOf s).drop i = l → Ev (fun k => F73.l0 k s (i : Int)) (l.all printB) := by
 intro l
 induction l with
 | nil =>
  intro i h
  have h0 := drop_nil h
  exact Ev.step (fun k => F73.l0.eq_2 ..) (Ev.neg (by omega) (Ev.now _))
 | cons c r ih =>
  intro i h
  obtain ⟨h1, h2, h3, h4, h5⟩ := drop_cons h
  refine Ev.step (fun k => F73.l0.eq_2 ..) (Ev.pos h1 (Ev.pos (by omega) ?_))
  rw [h2, wrap_id (x := (i : Int) + 1) (by omega) (by omega), show (i : Int) + 1 = ((i + 1 : Nat) : Int) by omega]
  refine Ev.ite (fun g => Ev.ret ?_) (fun g => Ev.ite (fun g2 => Ev.ret ?_) (fun g2 => (ih (i + 1) h3).to ?_))
  ·have : printB c = false := by simp [printB]; omega
   simp [this]
  ·have : printB c = false := by simp [printB]; omega
   simp [this]
  ·have : printB c = true := by simp [printB]; omega
   simp [this]
theorem specPart_ev (s : ByteArray) (hs : s.size ≤ 1048576) : Ev (fun k => F73.f k s) (partB s) := by
 unfold F73.f
 refine Ev.ite (fun g => Ev.ret ?_) (fun g => (specPart_loop s hs _ 0 rfl).to ?_)
 ·have : decide (s.size ≤ 40) = false := by simp; omega
  simp [partB, this]
 ·have : decide (s.size ≤ 40) = true := by simp; omega
  simp [partB, this]
theorem implPrinted_loop (s : ByteArray) (hs : s.size ≤ 1048576) : ∀ (l : List Int) (i : Nat), (bytesOf s).drop i = l → Ev (fun k => F133.l0 k s (s.size : Int) (i : Int)) (l.all printB) := by
 intro l
 induction l with
 | nil =>
  intro i h
  have h0 := drop_nil h
  exact Ev.step (fun k => F133.l0.eq_2 ..) (Ev.neg (by omega) (Ev.now _))
 | cons c r ih =>
  intro i h
  obtain ⟨h1, h2, h3, h4, h5⟩ := drop_cons h
  refine Ev.step (fun k => F133.l0.eq_2 ..) (Ev.pos h1 (Ev.pos (by omega) (Ev.pos h1 ?_)))
  rw [h2, wrap_id (x := (i : Int) + 1) (by omega) (by omega), show (i : Int) + 1 = ((i + 1 : Nat) : Int) by omega]
  refine Ev.ite (fun g => Ev.ret ?_) (fun g => Ev.ite (fun g2 => Ev.ret ?_) (fun g2 => (ih (i + 1) h3).to ?_))
  ·have : printB c = false := by simp [printB]; omega
   simp [this]
  ·have : printB c = false := by simp [printB]; omega
   simp [this]
  ·have : printB c = true := by simp [printB]; omega
   simp [this]
theorem implPart_ev (s : ByteArray) (hs : s.size ≤ 1048576) : Ev (fun k => F120.f k s) (partB s) := by
 unfold F120.f
 refine Ev.ite (fun g => ?_) (fun g => Ev.ret ?_)
 ·have h2 : decide (s.size ≤ 40) = true := by simp; omega
  refine Ev.bind (show Ev (fun k => F133.f k s) ((bytesOf s).all printB) from implPrinted_loop s hs _ 0 rfl) (Ev.ret ?_)
  simp [partB, h2]
 ·have : decide (s.size ≤ 40) = false := by simp; omega
  simp [partB, this]
theorem specTag_loop (s : ByteArray) (hs : s.size = 3) : ∀ (l : List Int) (i : Nat), (bytesOf s).drop i = l → Ev (fun k => F72.l0 k s (i : Int)) (l.all great) := by
 intro l
 induction l with
 | nil =>
  intro i h
  have h0 := drop_nil h
  exact Ev.step (fun k => F72.l0.eq_2 ..) (Ev.neg (by omega) (Ev.now _))
 | cons c r ih =>
  intro i h
  obtain ⟨h1, h2, h3, h4, h5⟩ := drop_cons h
  refine Ev.step (fun k => F72.l0.eq_2 ..) (Ev.pos (by omega) (Ev.pos (by omega) (Ev.pos h1 ?_)))
  rw [h2, wrap_id (x := (i : Int) + 1) (by omega) (by omega), show (i : Int) + 1 = ((i + 1 : Nat) : Int) by omega]
  refine Ev.ite (fun g => Ev.ret ?_) (fun g => Ev.ite (fun g2 => Ev.ret ?_) (fun g2 => (ih (i + 1) h3).to ?_))
  ·have : great c = false := by simp [great]; omega
   simp [this]
  ·have : great c = false := by simp [great]; omega
   simp [this]
  ·have : great c = true := by simp [great]; omega
   simp [this]
theorem specTag_ev (s : ByteArray) : Ev (fun k => F72.f k s) (tagB s) := by
 unfold F72.f
 refine Ev.ite (fun g => (specTag_loop s (by omega) _ 0 rfl).to ?_) (fun g => Ev.ret ?_)
 ·have : decide (s.size = 3) = true := by simp; omega
  simp [tagB, this]
 ·have : decide (s.size = 3) = false := by simp; omega
  simp [tagB, this]
theorem isTag_eq (s : ByteArray) : F121.f s = some (tagB s) := by
 unfold F121.f
 by_cases h : s.size = 3
 ·obtain ⟨a, b, c, hb⟩ : ∃ a b c, bytesOf s = [a, b, c] := by
   have := length_bytesOf s
   rw [h] at this
   match bytesOf s, this with
   | [a, b, c], _ => exact ⟨a, b, c, rfl⟩
  obtain ⟨h0, e0, d0, _⟩ := drop_cons (i := 0) (s := s) (c := a) (r := [b, c]) (by simpa using hb)
  obtain ⟨h1, e1, d1, _⟩ := drop_cons (i := 1) (s := s) d0
  obtain ⟨h2, e2, d2, _⟩ := drop_cons (i := 2) (s := s) d1
  have e0 : bt s 0 = a := e0
  have e1 : bt s 1 = b := e1
  have e2 : bt s 2 = c := e2
  rw [if_pos (by omega), if_pos (by omega), if_pos (by omega), if_pos (by omega), e0, e1, e2, isGreat_eq, isGreat_eq, isGreat_eq]
  have : decide (s.size = 3) = true := by simpa using h
  cases ha : great a <;> cases hb2 : great b <;> simp [tagB, this, hb, ha, hb2]
 ·rw [if_neg (by omega)]
  have : decide (s.size = 3) = false := by simpa using h
  simp [tagB, this]
def lastE (p : List ByteArray) : Bool := ((rdOf ByteArray.empty p (wrap64 ((p.length : Int) - 1))).toList == ([] : List UInt8))
def emptyE (p : List ByteArray) : Bool := decide (p.length = 1) && lastE p
def elP (p : List ByteArray) : Bool := decide (1 ≤ p.length ∧ p.length ≤ 4) && !(decide (p.length > 1) && lastE p) && p.all partB
def lastEl (L : List S91) : Bool := match L.getLast? with | none => false | some e => emptyE e.f0
def segL : List S91 → Bool
 | [] => true
 | [e] => elP e.f0 && !emptyE e.f0
 | e :: e' :: r => elP e.f0 && segL (e' :: r)
theorem segL_eq : ∀ L : List S91, segL L = (L.all (fun e => elP e.f0) && !lastEl L)
 | [] => rfl
 | [e] => by simp [segL, lastEl]
 | e :: e' :: r => by
  have := segL_eq (e' :: r)
  have h2 : lastEl (e :: e' :: r) = lastEl (e' :: r) := by simp [lastEl]
  rw [segL, this, h2]
  simp [Bool.and_assoc]
def segB (s : ByteArray) (L : List S91) : Bool := tagB s && decide (L.length ≤ 10) && segL L
def bEl (p : List ByteArray) : Prop := p.length ≤ 1048576 ∧ ∀ s ∈ p, s.size ≤ 1048576
theorem rdlast (L : List S91) (h : 0 < L.length) (h1 : L.length ≤ 1048576) : 0 ≤ wrap64 ((L.length : Int) - 1) ∧ wrap64 ((L.length : Int) - 1) < (L.length : Int) ∧ lastEl L = emptyE (rd_T91 L (wrap64 ((L.length : Int) - 1))).f0 := by
 rw [wrap_id (by omega) (by omega)]
 refine ⟨by omega, by omega, ?_⟩
 unfold rd_T91 lastEl
 rw [List.getLast?_eq_getElem?, List.getD_eq_getElem?_getD, show ((L.length : Int) - 1).toNat = L.length - 1 by omega, List.getElem?_eq_getElem (by omega)]
 rfl
theorem l02Empty_eq (p : List ByteArray) : F74.f p = some (emptyE p) := by
 unfold F74.f emptyE
 by_cases h : p.length = 1
 ·rw [if_pos (by omega), if_pos (by omega)]
  have hw : wrap64 ((p.length : Int) - 1) = 0 := by rw [wrap_id (by omega) (by omega)]; omega
  unfold lastE
  rw [hw]
  simp [h]
 ·rw [if_neg (by omega)]
  simp [h]
theorem spec1_loop (s : ByteArray) (L : List S91) (p : List ByteArray) (hp : bEl p) (x : Int) (R : Bool) (hR : Ev (fun k => F41.l0 k (wrap64 (x + 1)) s L) R) : ∀ (r : List ByteArray) (j : Nat), p.drop j = r → Ev (fun k => F41.l1 k x p (j : Int) s L) (r.all partB && R) := by
 have hl := hp.1
 intro r
 induction r with
 | nil =>
  intro j h
  have h0 := ldrop_nil h
  exact Ev.step (fun k => F41.l1.eq_2 ..) (Ev.neg (by omega) (hR.to (by simp)))
 | cons c r ih =>
  intro j h
  obtain ⟨h1, h2, h3⟩ := rdOf_cons ByteArray.empty h
  have hm : c ∈ p := List.mem_of_mem_drop (by rw [h]; exact List.mem_cons_self)
  have hw := wi_ (i := j) (by omega)
  refine Ev.step (fun k => F41.l1.eq_2 ..) (Ev.pos h1 (Ev.pos (by omega) ?_))
  rw [h2, hw]
  refine Ev.bind (specPart_ev c (hp.2 c hm)) (Ev.ite (fun g => (ih (j + 1) h3).to (by simp [g])) (fun g => Ev.ret (by simp [g])))
theorem specSeg_loop (s : ByteArray) (L : List S91) (hL : L.length ≤ 1048576) (hE : ∀ e ∈ L, bEl e.f0) : ∀ (r : List S91) (i : Nat), L.drop i = r → Ev (fun k => F41.l0 k (i : Int) s L) (r.all (fun e => elP e.f0) && !lastEl L) := by
 intro r
 induction r with
 | nil =>
  intro i h
  have h0 := ldrop_nil h
  refine Ev.step (fun k => F41.l0.eq_2 ..) (Ev.neg (by omega) (Ev.ite (fun g => Ev.ret ?_) (fun g => ?_)))
  ·have : L = [] := List.length_eq_zero_iff.1 (by omega)
   rw [this]; rfl
  ·obtain ⟨h1, h2, h3⟩ := rdlast L (by omega) hL
   exact Ev.pos h1 (Ev.pos h2 (Ev.bindc (l02Empty_eq _) (Ev.ret (by rw [h3]; simp))))
 | cons e r ih =>
  intro i h
  obtain ⟨h1, h2, h3⟩ := ldrop_cons z91 h
  have hr : rd_T91 L (i : Int) = e := h2
  have hb := hE e (List.mem_of_mem_drop (by rw [h]; exact List.mem_cons_self))
  have hbl := hb.1
  have hw := wi_ (i := i) (by omega)
  have hi := ih (i + 1) h3
  rw [← hw] at hi
  have inner : Ev (fun k => F41.l1 k (i : Int) e.f0 0 s L) (e.f0.all partB && (r.all (fun e => elP e.f0) && !lastEl L)) := spec1_loop s L e.f0 hb (i : Int) _ hi _ 0 rfl
  have hw2 : wrap64 ((e.f0.length : Int) - 1) = (e.f0.length : Int) - 1 := wrap_id (by omega) (by omega)
  refine Ev.step (fun k => F41.l0.eq_2 ..) (Ev.pos h1 (Ev.pos (by omega) ?_))
  rw [hr]
  refine Ev.ite (fun g => ?_) (fun g => Ev.ite (fun g2 => ?_) (fun g2 => Ev.ite (fun g3 => Ev.pos (by rw [hw2]; omega) (Ev.pos (by rw [hw2]; omega) ?_)) (fun g3 => ?_)))
  ·have : elP e.f0 = false := by simp [elP]; omega
   exact Ev.step (fun k => F41.j2.eq_2 ..) (Ev.pos rfl (Ev.ret (by simp [this])))
  ·have : elP e.f0 = false := by simp [elP]; omega
   exact Ev.step (fun k => F41.j2.eq_2 ..) (Ev.pos rfl (Ev.ret (by simp [this])))
  ·refine Ev.step (fun k => F41.j2.eq_2 ..) (Ev.ite (fun g4 => Ev.ret ?_) (fun g4 => inner.to ?_))
   ·have : elP e.f0 = false := by
     have h4 : lastE e.f0 = true := g4
     have h5 : decide (e.f0.length > 1) = true := by simp; omega
     simp [elP, h4, h5]
    simp [this]
   ·have : elP e.f0 = e.f0.all partB := by
     have h4 : lastE e.f0 = false := by simpa [lastE] using g4
     have h5 : decide (1 ≤ e.f0.length ∧ e.f0.length ≤ 4) = true := by simp; omega
     simp only [elP, h4, h5]; simp
    simp [this, Bool.and_assoc]
  ·refine Ev.step (fun k => F41.j2.eq_2 ..) (Ev.neg (by simp) (inner.to ?_))
   have : elP e.f0 = e.f0.all partB := by
    have h4 : decide (e.f0.length > 1) = false := by simp; omega
    have h5 : decide (1 ≤ e.f0.length ∧ e.f0.length ≤ 4) = true := by simp; omega
    simp only [elP, h4, h5]; simp
   simp [this, Bool.and_assoc]
theorem specSeg_ev (s : ByteArray) (L : List S91) (hL : L.length ≤ 1048576) (hE : ∀ e ∈ L, bEl e.f0) : Ev (fun k => F41.f k s L) (segB s L) := by
 unfold F41.f
 have h0 : Ev (fun k => F41.l0 k 0 s L) (segL L) := (specSeg_loop s L hL hE L 0 rfl).to (segL_eq L).symm
 refine Ev.bind (specTag_ev s) (Ev.ite (fun g => Ev.step (fun k => F41.j0.eq_2 ..) (Ev.ite (fun g2 => Ev.ret ?_) (fun g2 => h0.to ?_))) (fun g => Ev.step (fun k => F41.j0.eq_2 ..) (Ev.pos rfl (Ev.ret ?_))))
 ·have : decide (L.length ≤ 10) = false := by have := of_decide_eq_true g2; simp; omega
  simp [segB, this]
 ·have : decide (L.length ≤ 10) = true := by simp at g2; simp; omega
  simp only [segB, g, this]; simp
 ·simp [segB, g]
theorem partsIdx_loop (p : List ByteArray) (hp : bEl p) : ∀ (r : List ByteArray) (i : Nat), p.drop i = r → ∃ x : Int, Ev (fun k => F132.l0 k p (p.length : Int) (i : Int)) x ∧ decide (x ≥ 0) = !(r.all partB) := by
 have hl := hp.1
 intro r
 induction r with
 | nil =>
  intro i h
  have h0 := ldrop_nil h
  exact ⟨-1, Ev.step (fun k => F132.l0.eq_2 ..) (Ev.neg (by omega) (Ev.now _)), by simp⟩
 | cons c r ih =>
  intro i h
  obtain ⟨h1, h2, h3⟩ := rdOf_cons ByteArray.empty h
  have hm : c ∈ p := List.mem_of_mem_drop (by rw [h]; exact List.mem_cons_self)
  have hw := wi_ (i := i) (by omega)
  obtain ⟨x, hx, he⟩ := ih (i + 1) h3
  have h1c : Ev (fun k => F119.f k c) (!partB c) := by
   unfold F119.f
   exact Ev.bind (implPart_ev c (hp.2 c hm)) (Ev.now _)
  cases hc : partB c with
  | false =>
   refine ⟨i, Ev.step (fun k => F132.l0.eq_2 ..) (Ev.pos h1 (Ev.pos (by omega) (Ev.pos h1 ?_))), by simp [hc]⟩
   rw [h2]
   exact Ev.bind h1c (Ev.pos (by simp [hc]) (Ev.now _))
  | true =>
   refine ⟨x, Ev.step (fun k => F132.l0.eq_2 ..) (Ev.pos h1 (Ev.pos (by omega) (Ev.pos h1 ?_))), by rw [he]; simp [hc]⟩
   rw [h2, hw]
   exact Ev.bind h1c (Ev.neg (by simp [hc]) hx)
theorem partsAny_ev (p : List ByteArray) (hp : bEl p) : Ev (fun k => F118.f k p) (!(p.all partB)) := by
 obtain ⟨x, hx, he⟩ := partsIdx_loop p hp p 0 rfl
 unfold F118.f
 refine Ev.bind (show Ev (fun k => F132.f k p) x from hx) ?_
 exact Ev.ret he
theorem implSeg_loop (s : ByteArray) (L : List S91) (hL : L.length ≤ 1048576) (hE : ∀ e ∈ L, bEl e.f0) : ∀ (r : List S91) (i : Nat), L.drop i = r → Ev (fun k => F105.l0 k L (L.length : Int) (i : Int) s L) (segL r && (tagB s && decide (L.length ≤ 10))) := by
 intro r
 induction r with
 | nil =>
  intro i h
  have h0 := ldrop_nil h
  refine Ev.step (fun k => F105.l0.eq_2 ..) (Ev.neg (by omega) (Ev.bindc (isTag_eq s) (Ev.ite (fun g => Ev.ret ?_) (fun g => Ev.ret ?_))))
  ·simp only [segL, g, Bool.true_and]
   simp only [decide_eq_decide]; omega
  ·simp [g]
 | cons e r ih =>
  intro i h
  obtain ⟨h1, h2, h3⟩ := ldrop_cons z91 h
  have hr : rd_T91 L (i : Int) = e := h2
  have hb := hE e (List.mem_of_mem_drop (by rw [h]; exact List.mem_cons_self))
  have hbl := hb.1
  have hw := wi_ (i := i) (by omega)
  have hi := ih (i + 1) h3
  have hrl : r.length + (i + 1) = L.length := by
   have := congrArg List.length h3
   rw [List.length_drop] at this
   omega
  have hw2 : wrap64 ((e.f0.length : Int) - 1) = (e.f0.length : Int) - 1 := wrap_id (by omega) (by omega)
  have hw3 : wrap64 ((L.length : Int) - 1) = (L.length : Int) - 1 := wrap_id (by omega) (by omega)
  have hno : elP e.f0 = false → (segL (e :: r) && (tagB s && decide (L.length ≤ 10))) = false := by
   intro h0
   cases r <;> simp [segL, h0]
  refine Ev.step (fun k => F105.l0.eq_2 ..) (Ev.pos h1 (Ev.pos (by omega) (Ev.pos h1 (Ev.bindc (within_eq _ _ _) ?_))))
  rw [hr]
  refine Ev.ite (fun g => Ev.bind (partsAny_ev e.f0 hb) (Ev.step (fun k => F105.j1.eq_2 ..) (Ev.ite (fun g2 => Ev.ret ?_) (fun g2 => ?_)))) (fun g => Ev.step (fun k => F105.j1.eq_2 ..) (Ev.pos rfl (Ev.ret ?_)))
  ·refine (hno ?_).symm
   have g3 : e.f0.all partB = false := by simpa using g2
   unfold elP; rw [g3]; simp
  ·have g3 : e.f0.all partB = true := by simpa using g2
   have gw : 1 ≤ e.f0.length ∧ e.f0.length ≤ 4 := by simp [withinP] at g; omega
   refine Ev.pos (by rw [hw2]; omega) (Ev.pos (by rw [hw2]; omega) (Ev.ite (fun g4 => Ev.ite (fun g5 => Ev.ret ?_) (fun g5 => Ev.ite (fun g6 => Ev.ret ?_) (fun g6 => ?_))) (fun g4 => ?_)))
   ·refine (hno ?_).symm
    have h4 : lastE e.f0 = true := by simpa [lastE] using g4
    have h5 : decide (e.f0.length > 1) = true := by simp; omega
    simp [elP, h4, h5]
   ·have h4 : lastE e.f0 = true := by simpa [lastE] using g4
    have : r = [] := List.length_eq_zero_iff.1 (by rw [hw3] at g6; omega)
    subst this
    have h5 : emptyE e.f0 = true := by
     unfold emptyE
     rw [h4]
     simp; omega
    simp [segL, h5]
   ·rw [hw]
    refine hi.to ?_
    have h4 : elP e.f0 = true := by
     have h5 : decide (e.f0.length > 1) = false := by simp; omega
     have h6 : decide (1 ≤ e.f0.length ∧ e.f0.length ≤ 4) = true := by simpa using gw
     simp only [elP, h5, h6, g3]; simp
    match r, hrl with
    | [], hrl => exact absurd (show (i : Int) = wrap64 ((L.length : Int) - 1) by rw [hw3]; simp at hrl; omega) g6
    | e' :: r', _ => simp [segL, h4]
   ·rw [hw]
    refine hi.to ?_
    have h7 : lastE e.f0 = false := by simpa [lastE] using g4
    have h4 : elP e.f0 = true := by
     have h6 : decide (1 ≤ e.f0.length ∧ e.f0.length ≤ 4) = true := by simpa using gw
     simp only [elP, h7, h6, g3]; simp
    have h8 : emptyE e.f0 = false := by simp [emptyE, h7]
    match r with
    | [] => simp [segL, h4, h8]
    | e' :: r' => simp [segL, h4]
  ·refine (hno ?_).symm
   have : decide (1 ≤ e.f0.length ∧ e.f0.length ≤ 4) = false := by simp [withinP] at g; simp; omega
   unfold elP; rw [this]; simp
theorem implSeg_ev (s : ByteArray) (L : List S91) (hL : L.length ≤ 1048576) (hE : ∀ e ∈ L, bEl e.f0) : Ev (fun k => F105.f k s L) (segB s L) := by
 unfold F105.f
 refine (implSeg_loop s L hL hE L 0 rfl).to ?_
 unfold segB
 rw [Bool.and_comm]
def ctlB (n : Int) : Bool := decide (1 ≤ n ∧ n ≤ 999999)
theorem l01Control_eq (n : Int) : F40.f n = some (ctlB n) := by
 unfold F40.f ctlB
 split
 ·congr 1; simp only [decide_eq_decide]; omega
 ·congr 1; symm; simp only [decide_eq_false_iff_not]; omega
theorem isControl_eq (n : Int) : F55.f n = some (ctlB n) := by
 unfold F55.f
 rw [within_eq]
 rfl
def tagsL : List ByteArray := [(⟨#[73, 88, 72]⟩ : ByteArray), (⟨#[71, 82, 72]⟩ : ByteArray), (⟨#[77, 83, 72]⟩ : ByteArray), (⟨#[77, 83, 84]⟩ : ByteArray), (⟨#[71, 82, 84]⟩ : ByteArray), (⟨#[73, 88, 84]⟩ : ByteArray)]
def ownTag (s : ByteArray) : Bool := tagsL.any (fun t => decide (s.toList = t.toList))
theorem l03Own_eq (s : ByteArray) : F42.f s = some (ownTag s) := by
 have e : ∀ l : List UInt8, (⟨l.toArray⟩ : ByteArray).toList = l := fun l => by rw [ByteArray.toList_eq]
 have e1 : (⟨#[73, 88, 72]⟩ : ByteArray).toList = [73, 88, 72] := e [73, 88, 72]
 have e2 : (⟨#[71, 82, 72]⟩ : ByteArray).toList = [71, 82, 72] := e [71, 82, 72]
 have e3 : (⟨#[77, 83, 72]⟩ : ByteArray).toList = [77, 83, 72] := e [77, 83, 72]
 have e4 : (⟨#[77, 83, 84]⟩ : ByteArray).toList = [77, 83, 84] := e [77, 83, 84]
 have e5 : (⟨#[71, 82, 84]⟩ : ByteArray).toList = [71, 82, 84] := e [71, 82, 84]
 have e6 : (⟨#[73, 88, 84]⟩ : ByteArray).toList = [73, 88, 84] := e [73, 88, 84]
 unfold F42.f ownTag tagsL
 simp only [List.any_cons, List.any_nil, e1, e2, e3, e4, e5, e6, Bool.or_false]
 generalize s.toList = l
 by_cases h1 : l = [73, 88, 72]
 ·simp [h1]
 by_cases h2 : l = [71, 82, 72]
 ·simp [h2]
 by_cases h3 : l = [77, 83, 72]
 ·simp [h3]
 by_cases h4 : l = [77, 83, 84]
 ·simp [h4]
 by_cases h5 : l = [71, 82, 84]
 ·simp [h5]
 simp only [h1, h2, h3, h4, h5, if_false, decide_false, Bool.false_or]
 congr 1
 rw [Bool.eq_iff_iff]
 simp
theorem tagIn_ev (s : ByteArray) : Ev (fun k => F106.f k tagsL s) (ownTag s) := by
 have hl : tagsL.length = 6 := rfl
 obtain ⟨x, hx, he⟩ := idx_loop ByteArray.empty (fun t => decide (s.toList = t.toList)) (fun k i => F122.l0 k tagsL s (tagsL.length : Int) i) tagsL
  (fun i hi g => Ev.step (fun k => F122.l0.eq_2 ..) (Ev.pos (by omega) (Ev.pos (by omega) (Ev.pos (by omega) (Ev.pos (by simpa [rdOf] using g) (Ev.now _))))))
  (fun i hi g v hv => Ev.step (fun k => F122.l0.eq_2 ..) (Ev.pos (by omega) (Ev.pos (by omega) (Ev.pos (by omega) (Ev.neg (by simpa [rdOf] using g) (by rw [wi_ (by omega)]; exact hv))))))
  (fun i hi => Ev.step (fun k => F122.l0.eq_2 ..) (Ev.neg (by omega) (Ev.now _))) _ 0 rfl
 unfold F106.f
 refine Ev.bind (show Ev (fun k => F122.f k tagsL s) x from hx) ?_
 exact Ev.ret he
def bodyB (s : ByteArray) (L : List S91) : Bool := segB s L && !ownTag s
def msgB (n : Int) (G : List S49) : Bool := ctlB n && (decide (G.length ≤ 40) && G.all (fun s => bodyB s.f0 s.f1))
def bunB (kd ct : Int) (M : List S56) : Bool := decide (1 ≤ kd ∧ kd ≤ 7) && (ctlB ct && (decide (1 ≤ M.length ∧ M.length ≤ 10) && M.all (fun m => msgB m.f0 m.f1)))
def ixB (A B : ByteArray) (n : Int) (L : List S53) : Bool := nameP (bytesOf A) && (nameP (bytesOf B) && (ctlB n && (decide (1 ≤ L.length ∧ L.length ≤ 5) && L.all (fun b => bunB b.f0 b.f1 b.f2))))
def bSg (x : S49) : Prop := x.f1.length ≤ 1048576 ∧ ∀ e ∈ x.f1, bEl e.f0
def bMs (x : S56) : Prop := x.f1.length ≤ 1048576 ∧ ∀ s ∈ x.f1, bSg s
def bBn (x : S53) : Prop := x.f2.length ≤ 1048576 ∧ ∀ m ∈ x.f2, bMs m
theorem ix2_loop (x3 x5 : Int) (A B : ByteArray) (n : Int) (L : List S53) (kd ct : Int) (M : List S56) (mc : Int) (G : List S49) (hl : G.length ≤ 1048576) (hG : ∀ s ∈ G, bSg s) (R : Bool) (hR : Ev (fun k => F15.l1 k x3 (wrap64 (x5 + 1)) A B n L kd ct M) R) : ∀ (r : List S49) (j : Nat), G.drop j = r → Ev (fun k => F15.l2 k x3 x5 (j : Int) A B n L kd ct M mc G) (r.all (fun s => bodyB s.f0 s.f1) && R) := by
 intro r
 induction r with
 | nil =>
  intro j h
  have h0 := ldrop_nil h
  exact Ev.step (fun k => F15.l2.eq_2 ..) (Ev.neg (by omega) (hR.to (by simp)))
 | cons c r ih =>
  intro j h
  obtain ⟨h1, h2, h3⟩ := ldrop_cons z49 h
  have hr : rd_T49 G (j : Int) = c := h2
  have hm := hG c (List.mem_of_mem_drop (by rw [h]; exact List.mem_cons_self))
  have hw := wi_ (i := j) (by omega)
  refine Ev.step (fun k => F15.l2.eq_2 ..) (Ev.pos h1 (Ev.pos (by omega) ?_))
  rw [hr, hw]
  refine Ev.bind (specSeg_ev c.f0 c.f1 hm.1 hm.2) (Ev.ite (fun g => Ev.bindc (l03Own_eq c.f0) (Ev.ite (fun g2 => Ev.ret ?_) (fun g2 => (ih (j + 1) h3).to ?_))) (fun g => Ev.ret ?_))
  ·simp [bodyB, g2]
  ·simp [bodyB, g, g2]
  ·simp [bodyB, g]
theorem ix1_loop (x3 : Int) (A B : ByteArray) (n : Int) (L : List S53) (kd ct : Int) (M : List S56) (hl : M.length ≤ 1048576) (hM : ∀ m ∈ M, bMs m) (R : Bool) (hR : Ev (fun k => F15.l0 k (wrap64 (x3 + 1)) A B n L) R) : ∀ (r : List S56) (j : Nat), M.drop j = r → Ev (fun k => F15.l1 k x3 (j : Int) A B n L kd ct M) (r.all (fun m => msgB m.f0 m.f1) && R) := by
 intro r
 induction r with
 | nil =>
  intro j h
  have h0 := ldrop_nil h
  exact Ev.step (fun k => F15.l1.eq_2 ..) (Ev.neg (by omega) (hR.to (by simp)))
 | cons c r ih =>
  intro j h
  obtain ⟨h1, h2, h3⟩ := ldrop_cons z56 h
  have hr : rd_T56 M (j : Int) = c := h2
  have hm := hM c (List.mem_of_mem_drop (by rw [h]; exact List.mem_cons_self))
  have hw := wi_ (i := j) (by omega)
  have hi := ih (j + 1) h3
  rw [← hw] at hi
  have hin := ix2_loop x3 (j : Int) A B n L kd ct M c.f0 c.f1 hm.1 hm.2 _ hi _ 0 rfl
  refine Ev.step (fun k => F15.l1.eq_2 ..) (Ev.pos h1 (Ev.pos (by omega) ?_))
  rw [hr]
  refine Ev.bindc (l01Control_eq c.f0) (Ev.ite (fun g => Ev.step (fun k => F15.j4.eq_2 ..) (Ev.ite (fun g2 => Ev.ret ?_) (fun g2 => hin.to ?_))) (fun g => Ev.step (fun k => F15.j4.eq_2 ..) (Ev.pos rfl (Ev.ret ?_))))
  ·have : decide (c.f1.length ≤ 40) = false := by have := of_decide_eq_true g2; simp; omega
   simp [msgB, this]
  ·have : decide (c.f1.length ≤ 40) = true := by simp at g2; simp; omega
   rw [List.drop_zero]
   simp only [List.all_cons, msgB, g, this, Bool.true_and, Bool.and_assoc]
  ·simp [msgB, g]
theorem ix0_loop (A B : ByteArray) (n : Int) (L : List S53) (hl : L.length ≤ 1048576) (hL : ∀ b ∈ L, bBn b) : ∀ (r : List S53) (j : Nat), L.drop j = r → Ev (fun k => F15.l0 k (j : Int) A B n L) (r.all (fun b => bunB b.f0 b.f1 b.f2)) := by
 intro r
 induction r with
 | nil =>
  intro j h
  have h0 := ldrop_nil h
  exact Ev.step (fun k => F15.l0.eq_2 ..) (Ev.neg (by omega) (Ev.now _))
 | cons c r ih =>
  intro j h
  obtain ⟨h1, h2, h3⟩ := ldrop_cons z53 h
  have hr : rd_T53 L (j : Int) = c := h2
  have hm := hL c (List.mem_of_mem_drop (by rw [h]; exact List.mem_cons_self))
  have hw := wi_ (i := j) (by omega)
  have hi := ih (j + 1) h3
  rw [← hw] at hi
  have hin := ix1_loop (j : Int) A B n L c.f0 c.f1 c.f2 hm.1 hm.2 _ hi _ 0 rfl
  have hF : Ev (fun k => F15.j2 k (j : Int) true A B n L c.f0 c.f1 c.f2) false := Ev.step (fun k => F15.j2.eq_2 ..) (Ev.pos rfl (Ev.now _))
  refine Ev.step (fun k => F15.l0.eq_2 ..) (Ev.pos h1 (Ev.pos (by omega) ?_))
  rw [hr]
  refine Ev.ite (fun g => hF.to ?_) (fun g => Ev.ite (fun g2 => hF.to ?_) (fun g2 => Ev.bindc (l01Control_eq c.f1) (Ev.ite (fun g3 => Ev.ite (fun g4 => hF.to ?_) (fun g4 => Ev.step (fun k => F15.j2.eq_2 ..) (Ev.ite (fun g5 => Ev.ret ?_) (fun g5 => hin.to ?_)))) (fun g3 => hF.to ?_))))
  ·have : decide (1 ≤ c.f0 ∧ c.f0 ≤ 7) = false := by simp; omega
   simp only [List.all_cons, bunB, this]; simp
  ·have : decide (1 ≤ c.f0 ∧ c.f0 ≤ 7) = false := by simp; omega
   simp only [List.all_cons, bunB, this]; simp
  ·have : decide (1 ≤ c.f2.length ∧ c.f2.length ≤ 10) = false := by simp; omega
   simp only [List.all_cons, bunB, this]; simp
  ·have : decide (1 ≤ c.f2.length ∧ c.f2.length ≤ 10) = false := by have := of_decide_eq_true g5; simp; omega
   simp only [List.all_cons, bunB, this]; simp
  ·have e1 : decide (1 ≤ c.f2.length ∧ c.f2.length ≤ 10) = true := by simp at g5; simp; omega
   have e2 : decide (1 ≤ c.f0 ∧ c.f0 ≤ 7) = true := by simp; omega
   rw [List.drop_zero]
   simp only [List.all_cons, bunB, e1, e2, g3, Bool.true_and, Bool.and_assoc]
  ·simp [bunB, g3]
theorem specIx_ev (A B : ByteArray) (n : Int) (L : List S53) (hA : (A.size : Int) ≤ 9223372036854775807) (hB : (B.size : Int) ≤ 9223372036854775807) (hl : L.length ≤ 1048576) (hL : ∀ b ∈ L, bBn b) : Ev (fun k => F15.f k A B n L) (ixB A B n L) := by
 have hF : Ev (fun k => F15.j0 k true A B n L) false := Ev.step (fun k => F15.j0.eq_2 ..) (Ev.pos rfl (Ev.now _))
 have hin := ix0_loop A B n L hl hL L 0 rfl
 unfold F15.f
 refine Ev.bind (l01Name_ev A hA) (Ev.ite (fun g => Ev.bind (l01Name_ev B hB) (Ev.ite (fun g2 => Ev.bindc (l01Control_eq n) (Ev.ite (fun g3 => Ev.ite (fun g4 => hF.to ?_) (fun g4 => Ev.step (fun k => F15.j0.eq_2 ..) (Ev.ite (fun g5 => Ev.ret ?_) (fun g5 => hin.to ?_)))) (fun g3 => hF.to ?_))) (fun g2 => hF.to ?_))) (fun g => hF.to ?_))
 ·have : decide (1 ≤ L.length ∧ L.length ≤ 5) = false := by simp; omega
  simp only [ixB, this]; simp
 ·have : decide (1 ≤ L.length ∧ L.length ≤ 5) = false := by have := of_decide_eq_true g5; simp; omega
  simp only [ixB, this]; simp
 ·have e1 : decide (1 ≤ L.length ∧ L.length ≤ 5) = true := by simp at g5; simp; omega
  simp only [ixB, e1, g, g2, g3, Bool.true_and]
 ·simp [ixB, g3]
 ·simp [ixB, g2]
 ·simp [ixB, g]
theorem body_ev (s : ByteArray) (L : List S91) (hl : L.length ≤ 1048576) (hE : ∀ e ∈ L, bEl e.f0) : Ev (fun k => F81.f k s L) (bodyB s L) := by
 unfold F81.f
 refine Ev.bind (implSeg_ev s L hl hE) (Ev.ite (fun g => Ev.bindc (show F107.f = some tagsL from rfl) (Ev.bind (tagIn_ev s) (Ev.ret ?_))) (fun g => Ev.ret ?_))
 ·simp [bodyB, g]
 ·simp [bodyB, g]
theorem not_any_not {α : Type} (g : α → Bool) (l : List α) : (!(l.any (fun x => !g x))) = l.all g := by
 induction l with
 | nil => rfl
 | cons a l ih => rw [List.any_cons, List.all_cons, ← ih]; cases g a <;> simp
theorem msg_ev (n : Int) (G : List S49) (hl : G.length ≤ 1048576) (hG : ∀ s ∈ G, bSg s) : Ev (fun k => F95.f k n G) (msgB n G) := by
 have h1 : ∀ i : Nat, i < G.length → Ev (fun k => F113.f k (rd_T49 G (i : Int)).f0 (rd_T49 G (i : Int)).f1) (!bodyB (G.getD i z49).f0 (G.getD i z49).f1) := by
  intro i hi
  have hm := hG _ (getD_mem z49 hi)
  unfold F113.f
  exact Ev.bind (body_ev _ _ hm.1 hm.2) (Ev.now _)
 obtain ⟨x, hx, he⟩ := idx_loop z49 (fun s => !bodyB s.f0 s.f1) (fun k i => F125.l0 k G (G.length : Int) i) G
  (fun i hi g => Ev.step (fun k => F125.l0.eq_2 ..) (Ev.pos (by omega) (Ev.pos (by omega) (Ev.pos (by omega) (Ev.bind (h1 i hi) (Ev.pos g (Ev.now _)))))))
  (fun i hi g v hv => Ev.step (fun k => F125.l0.eq_2 ..) (Ev.pos (by omega) (Ev.pos (by omega) (Ev.pos (by omega) (Ev.bind (h1 i hi) (Ev.neg (by rw [g]; simp) (by rw [wi_ (by omega)]; exact hv)))))))
  (fun i hi => Ev.step (fun k => F125.l0.eq_2 ..) (Ev.neg (by omega) (Ev.now _))) _ 0 rfl
 unfold F95.f
 refine Ev.bindc (isControl_eq n) (Ev.ite (fun g => Ev.ite (fun g2 => ?_) (fun g2 => Ev.ret ?_)) (fun g => Ev.ret ?_))
 ·unfold F112.f
  refine Ev.bind (Ev.bind (show Ev (fun k => F125.f k G) x from hx) (Ev.ret he)) (Ev.ret ?_)
  have e1 : decide (G.length ≤ 40) = true := by simp; omega
  rw [List.drop_zero, not_any_not]
  simp only [msgB, g, e1, Bool.true_and]
 ·have e1 : decide (G.length ≤ 40) = false := by simp; omega
  simp [msgB, e1]
 ·simp [msgB, g]
theorem bun_ev (kd ct : Int) (G : List S56) (hl : G.length ≤ 1048576) (hG : ∀ s ∈ G, bMs s) : Ev (fun k => F59.f k kd ct G) (bunB kd ct G) := by
 have h1 : ∀ i : Nat, i < G.length → Ev (fun k => F94.f k (rd_T56 G (i : Int)).f0 (rd_T56 G (i : Int)).f1) (!msgB (G.getD i z56).f0 (G.getD i z56).f1) := by
  intro i hi
  have hm := hG _ (getD_mem z56 hi)
  unfold F94.f
  exact Ev.bind (msg_ev _ _ hm.1 hm.2) (Ev.now _)
 obtain ⟨x, hx, he⟩ := idx_loop z56 (fun s => !msgB s.f0 s.f1) (fun k i => F111.l0 k G (G.length : Int) i) G
  (fun i hi g => Ev.step (fun k => F111.l0.eq_2 ..) (Ev.pos (by omega) (Ev.pos (by omega) (Ev.pos (by omega) (Ev.bind (h1 i hi) (Ev.pos g (Ev.now _)))))))
  (fun i hi g v hv => Ev.step (fun k => F111.l0.eq_2 ..) (Ev.pos (by omega) (Ev.pos (by omega) (Ev.pos (by omega) (Ev.bind (h1 i hi) (Ev.neg (by rw [g]; simp) (by rw [wi_ (by omega)]; exact hv)))))))
  (fun i hi => Ev.step (fun k => F111.l0.eq_2 ..) (Ev.neg (by omega) (Ev.now _))) _ 0 rfl
 unfold F59.f
 refine Ev.bindc (within_eq _ _ _) (Ev.ite (fun g => Ev.bindc (isControl_eq ct) (Ev.ite (fun g2 => Ev.bindc (within_eq _ _ _) (Ev.ite (fun g3 => ?_) (fun g3 => Ev.ret ?_))) (fun g2 => Ev.ret ?_))) (fun g => Ev.ret ?_))
 ·unfold F93.f
  refine Ev.bind (Ev.bind (show Ev (fun k => F111.f k G) x from hx) (Ev.ret he)) (Ev.ret ?_)
  have e1 : decide (1 ≤ G.length ∧ G.length ≤ 10) = true := by simp [withinP] at g3; simp; omega
  have e2 : decide (1 ≤ kd ∧ kd ≤ 7) = true := by simp [withinP] at g; simp; omega
  rw [List.drop_zero, not_any_not]
  simp only [bunB, e2, g2, e1, Bool.true_and]
 ·have e1 : decide (1 ≤ G.length ∧ G.length ≤ 10) = false := by simp [withinP] at g3; simp; omega
  simp only [bunB, e1]; simp
 ·simp [bunB, g2]
 ·have e2 : decide (1 ≤ kd ∧ kd ≤ 7) = false := by simp [withinP] at g; simp; omega
  simp only [bunB, e2]; simp
theorem implIx_ev (A B : ByteArray) (n : Int) (G : List S53) (hA : (A.size : Int) ≤ 9223372036854775807) (hB : (B.size : Int) ≤ 9223372036854775807) (hl : G.length ≤ 1048576) (hG : ∀ b ∈ G, bBn b) : Ev (fun k => F29.f k A B n G) (ixB A B n G) := by
 have h1 : ∀ i : Nat, i < G.length → Ev (fun k => F58.f k (rd_T53 G (i : Int)).f0 (rd_T53 G (i : Int)).f1 (rd_T53 G (i : Int)).f2) (!bunB (G.getD i z53).f0 (G.getD i z53).f1 (G.getD i z53).f2) := by
  intro i hi
  have hm := hG _ (getD_mem z53 hi)
  unfold F58.f
  exact Ev.bind (bun_ev _ _ _ hm.1 hm.2) (Ev.now _)
 obtain ⟨x, hx, he⟩ := idx_loop z53 (fun s => !bunB s.f0 s.f1 s.f2) (fun k i => F92.l0 k G (G.length : Int) i) G
  (fun i hi g => Ev.step (fun k => F92.l0.eq_2 ..) (Ev.pos (by omega) (Ev.pos (by omega) (Ev.pos (by omega) (Ev.bind (h1 i hi) (Ev.pos g (Ev.now _)))))))
  (fun i hi g v hv => Ev.step (fun k => F92.l0.eq_2 ..) (Ev.pos (by omega) (Ev.pos (by omega) (Ev.pos (by omega) (Ev.bind (h1 i hi) (Ev.neg (by rw [g]; simp) (by rw [wi_ (by omega)]; exact hv)))))))
  (fun i hi => Ev.step (fun k => F92.l0.eq_2 ..) (Ev.neg (by omega) (Ev.now _))) _ 0 rfl
 unfold F29.f
 refine Ev.bind (isName_ev A hA) (Ev.ite (fun g => Ev.bind (isName_ev B hB) (Ev.ite (fun g2 => Ev.bindc (isControl_eq n) (Ev.ite (fun g3 => Ev.bindc (within_eq _ _ _) (Ev.ite (fun g4 => ?_) (fun g4 => Ev.ret ?_))) (fun g3 => Ev.ret ?_))) (fun g2 => Ev.ret ?_))) (fun g => Ev.ret ?_))
 ·unfold F57.f
  refine Ev.bind (Ev.bind (show Ev (fun k => F92.f k G) x from hx) (Ev.ret he)) (Ev.ret ?_)
  have e1 : decide (1 ≤ G.length ∧ G.length ≤ 5) = true := by simp [withinP] at g4; simp; omega
  rw [List.drop_zero, not_any_not]
  simp only [ixB, e1, g, g2, g3, Bool.true_and]
 ·have e1 : decide (1 ≤ G.length ∧ G.length ≤ 5) = false := by simp [withinP] at g4; simp; omega
  simp only [ixB, e1]; simp
 ·simp [ixB, g3]
 ·simp [ixB, g2]
 ·simp [ixB, g]
theorem ba_app (a b : List UInt8) : (⟨a.toArray⟩ : ByteArray) ++ (⟨b.toArray⟩ : ByteArray) = ⟨(a ++ b).toArray⟩ := by
 apply ByteArray.ext
 rw [ByteArray.data_append]
 simp
def decS (n : Int) : ByteArray := ⟨(Lib.itoa n).toArray⟩
theorem dec_loop (m : Nat) : ∀ (neg : Bool) (acc : List UInt8), acc.length + m ≤ 1000000000000000 →
  Ev (fun k => F26.l0 k (if neg then -(m : Int) else (m : Int)) neg ⟨acc.toArray⟩) ⟨((if neg then [45] else []) ++ ((if m = 0 then [] else Lib.decDigits m) ++ acc)).toArray⟩ := by
 induction m using Nat.strongRecOn with
 | _ m ih =>
 intro neg acc h
 refine Ev.step (fun k => F26.l0.eq_2 ..) ?_
 have hsz : ∀ l : List UInt8, (⟨l.toArray⟩ : ByteArray).size = l.length := fun l => by simp [ByteArray.size]
 by_cases h0 : m = 0
 ·subst h0
  refine Ev.pos (by cases neg <;> simp) ?_
  cases neg
  ·exact Ev.neg (by simp) (Ev.ret (by simp))
  ·refine Ev.pos rfl (Ev.pos (by rw [hsz]; omega) (Ev.ret ?_))
   exact (ba_app [45] acc).trans (by simp)
 ·refine Ev.neg (by cases neg <;> simp <;> omega) ?_
  have hd : m / 10 < m := by omega
  have hdg : ∀ c : Nat, c < 10 → UInt8.ofNat ((48 + c) % 256) = UInt8.ofNat (48 + c) := fun c hc => by rw [Nat.mod_eq_of_lt (by omega)]
  have key : ∀ c : Nat, c = m % 10 → (if m / 10 = 0 then ([] : List UInt8) else Lib.decDigits (m / 10)) ++ (UInt8.ofNat (48 + c) :: acc) = Lib.decDigits m ++ acc := by
   intro c hc
   subst hc
   rw [Lib.decDigits.eq_1 m]
   by_cases h1 : m < 10
   ·rw [dif_pos h1, if_pos (by omega), Nat.mod_eq_of_lt h1]
    rfl
   ·rw [dif_neg h1, if_neg (by omega), List.append_assoc]
    rfl
  have hone : ∀ c : Int, 0 ≤ c → c < 10 → strOfNums [wrap64 (48 + c) % 256] = (⟨[UInt8.ofNat (48 + c.toNat)].toArray⟩ : ByteArray) := by
   intro c g0 g1
   have e : wrap64 (48 + c) % 256 = 48 + c := by rw [wrap_id (by omega) (by omega)]; omega
   rw [e]
   unfold strOfNums
   have e2 : (48 + c).toNat = 48 + c.toNat := by omega
   simp only [List.map_cons, List.map_nil, e2]
  cases neg with
  | false =>
   simp only [Bool.false_eq_true, if_false]
   have e1 : Int.tmod (m : Int) 10 = ((m % 10 : Nat) : Int) := by rw [Int.tmod_eq_emod_of_nonneg (by omega)]; omega
   have e2 : Int.tdiv (m : Int) 10 = ((m / 10 : Nat) : Int) := by rw [Int.tdiv_eq_ediv_of_nonneg (by omega)]; omega
   refine Ev.neg (by rw [e1]; omega) (Ev.bindc rfl ?_)
   rw [e1, hone _ (by omega) (by omega)]
   refine Ev.pos (by rw [hsz, hsz]; simp only [List.length_cons, List.length_nil]; omega) ?_
   rw [e2, wrap_id (by omega) (by omega), ba_app]
   have := ih (m / 10) hd false (UInt8.ofNat (48 + m % 10) :: acc) (by simp only [List.length_cons]; omega)
   simp only [Bool.false_eq_true, if_false] at this
   refine this.to ?_
   rw [key _ rfl, if_neg h0]
  | true =>
   simp only [if_true]
   have e1 : Int.tmod (-(m : Int)) 10 = -((m % 10 : Nat) : Int) := by rw [Int.neg_tmod, Int.tmod_eq_emod_of_nonneg (by omega)]; omega
   have e2 : Int.tdiv (-(m : Int)) 10 = -((m / 10 : Nat) : Int) := by rw [Int.neg_tdiv, Int.tdiv_eq_ediv_of_nonneg (by omega)]; omega
   have fin : Ev (fun k => F26.l0 k (wrap64 (Int.tdiv (-(m : Int)) 10)) true ((⟨[UInt8.ofNat (48 + m % 10)].toArray⟩ : ByteArray) ++ ⟨acc.toArray⟩)) ⟨([45] ++ ((if m = 0 then [] else Lib.decDigits m) ++ acc)).toArray⟩ := by
    rw [e2, wrap_id (by omega) (by omega), ba_app]
    have := ih (m / 10) hd true (UInt8.ofNat (48 + m % 10) :: acc) (by simp only [List.length_cons]; omega)
    simp only [if_true] at this
    refine this.to ?_
    rw [key _ rfl, if_neg h0]
   refine Ev.ite (fun g => Ev.bindc rfl ?_) (fun g => Ev.bindc rfl ?_)
   ·rw [show wrap64 (-(Int.tmod (-(m : Int)) 10)) = ((m % 10 : Nat) : Int) from by rw [e1, wrap_id (by omega) (by omega)]; omega, hone _ (by omega) (by omega)]
    refine Ev.pos (by rw [hsz, hsz]; simp only [List.length_cons, List.length_nil]; omega) ?_
    exact fin
   ·rw [show Int.tmod (-(m : Int)) 10 = ((m % 10 : Nat) : Int) from by rw [e1] at g ⊢; omega, hone _ (by omega) (by omega)]
    refine Ev.pos (by rw [hsz, hsz]; simp only [List.length_cons, List.length_nil]; omega) ?_
    exact fin
theorem l01Dec_ev (n : Int) (h0 : -100000000000000 ≤ n) (h1 : n ≤ 100000000000000) : Ev (fun k => F26.f k n) (decS n) := by
 unfold F26.f
 by_cases h : n = 0
 ·subst h
  refine Ev.pos rfl (Ev.ret ?_)
  unfold decS Lib.itoa
  rw [if_neg (by omega), Lib.decDigits.eq_1, dif_pos (by simp)]
  rfl
 ·refine Ev.neg h ?_
  have := dec_loop n.natAbs (decide (n < 0)) [] (by simp only [List.length_nil]; omega)
  have e : (if decide (n < 0) = true then -(n.natAbs : Int) else (n.natAbs : Int)) = n := by split <;> rename_i g <;> simp at g <;> omega
  rw [e] at this
  refine this.to ?_
  unfold decS Lib.itoa
  by_cases g : n < 0
  ·have hz : n.natAbs ≠ 0 := by omega
   simp [g, hz]
  ·have hz : n.natAbs ≠ 0 := by omega
   have hy : n.natAbs = n.toNat := by omega
   have hx : n.toNat ≠ 0 := by omega
   simp [g, hy, hx]
theorem decimal_eq (n : Int) (h0 : -9223372036854775808 ≤ n) (h1 : n ≤ 9223372036854775807) : F61.f n = some (decS n) := by
 unfold F61.f F96.f
 rw [if_pos rfl, if_pos ⟨h0, h1⟩]
 rfl
def dgt (m : Nat) : List Int := (Lib.decDigits m).map fun b => (b.toNat : Int)
def dvl : Nat → List Int → Nat
 | a, [] => a
 | a, c :: r => dvl (a * 10 + (c - 48).toNat) r
theorem dgt_eq (m : Nat) : dgt m = if m < 10 then [(48 + m : Int)] else dgt (m / 10) ++ [((48 + m % 10 : Nat) : Int)] := by
 unfold dgt
 rw [Lib.decDigits.eq_1 m]
 by_cases h : m < 10
 ·rw [dif_pos h, if_pos h]
  have : (UInt8.ofNat (48 + m)).toNat = 48 + m := by rw [UInt8.toNat_ofNat']; omega
  show [(((UInt8.ofNat (48 + m)).toNat : Nat) : Int)] = _
  rw [this, Int.natCast_add]; rfl
 ·rw [dif_neg h, if_neg h, List.map_append]
  have : (UInt8.ofNat (48 + m % 10)).toNat = 48 + m % 10 := by rw [UInt8.toNat_ofNat']; omega
  simp only [List.map_cons, List.map_nil, this]
theorem dvl_app (l : List Int) (c : Int) : ∀ a, dvl a (l ++ [c]) = dvl a l * 10 + (c - 48).toNat := by
 induction l with
 | nil => intro a; rfl
 | cons x l ih => intro a; exact ih _
theorem dvl_ge : ∀ (l : List Int) (a : Nat), a ≤ dvl a l
 | [], _ => Nat.le_refl _
 | c :: r, a => Nat.le_trans (by omega) (dvl_ge r (a * 10 + (c - 48).toNat))
theorem dgt_all (m : Nat) : (dgt m).all digit = true ∧ dgt m ≠ [] ∧ dvl 0 (dgt m) = m ∧ (1 ≤ m → (dgt m).head? ≠ some 48) := by
 induction m using Nat.strongRecOn with
 | _ m ih =>
 rw [dgt_eq]
 by_cases h : m < 10
 ·rw [if_pos h]
  refine ⟨?_, by simp, ?_, fun h1 => ?_⟩
  ·simp only [List.all_cons, List.all_nil, Bool.and_true]
   exact digit_t (by omega) (by omega)
  ·show 0 * 10 + ((48 + m : Int) - 48).toNat = m
   omega
  ·simp only [List.head?_cons, ne_eq, Option.some.injEq]
   omega
 ·rw [if_neg h]
  obtain ⟨h1, h2, h3, h4⟩ := ih (m / 10) (by omega)
  refine ⟨?_, by simp, ?_, fun _ => ?_⟩
  ·rw [List.all_append, h1]
   simp only [List.all_cons, List.all_nil, Bool.and_true, Bool.true_and]
   exact digit_t (by omega) (by omega)
  ·rw [dvl_app, h3]
   omega
  ·have := h4 (by omega)
   cases hd : dgt (m / 10) with
   | nil => exact absurd hd h2
   | cons x r => rw [hd] at this; simpa using this
theorem rev_ind {α : Type} {P : List α → Prop} (h0 : P []) (h1 : ∀ l a, P l → P (l ++ [a])) (l : List α) : P l := by
 have : ∀ r : List α, P r.reverse := by
  intro r
  induction r with
  | nil => exact h0
  | cons a r ih => rw [List.reverse_cons]; exact h1 _ _ ih
 have h2 := this l.reverse
 rwa [List.reverse_reverse] at h2
theorem dgt_of (l : List Int) : l.all digit = true → l ≠ [] → l.head? ≠ some 48 → dgt (dvl 0 l) = l := by
 refine rev_ind (P := fun l => l.all digit = true → l ≠ [] → l.head? ≠ some 48 → dgt (dvl 0 l) = l) (fun _ h => absurd rfl h) (fun r c ih h1 h2 h3 => ?_) l
 rw [List.all_append, Bool.and_eq_true] at h1
 have hc : 48 ≤ c ∧ c ≤ 57 := by simpa [digit] using h1.2
 rw [dvl_app]
 cases r with
 | nil =>
  have : c ≠ 48 := fun e => h3 (by simp [e])
  show dgt (0 * 10 + (c - 48).toNat) = [c]
  rw [dgt_eq, if_pos (by omega)]
  congr 1
  omega
 | cons x r =>
  have h5 : (x :: r).head? ≠ some 48 := fun e => h3 (by simpa using e)
  have h4 := ih h1.1 (by simp) h5
  have hv : 1 ≤ dvl 0 (x :: r) := by
   rcases Nat.eq_zero_or_pos (dvl 0 (x :: r)) with e | e
   ·rw [e] at h4
    have e0 : dgt 0 = [48] := by rw [dgt_eq]; rfl
    rw [e0] at h4
    exact absurd (by rw [← h4]; rfl) h5
   ·exact e
  rw [dgt_eq, if_neg (by omega)]
  have e1 : (dvl 0 (x :: r) * 10 + (c - 48).toNat) / 10 = dvl 0 (x :: r) := by omega
  have e2 : ((48 + (dvl 0 (x :: r) * 10 + (c - 48).toNat) % 10 : Nat) : Int) = c := by omega
  rw [e1, e2, h4]
theorem dgt_len : ∀ (n m : Nat), 1 ≤ n → m < 10 ^ n → (dgt m).length ≤ n
 | 0, _, h, _ => by omega
 | n + 1, m, _, h => by
  rw [dgt_eq]
  by_cases h1 : m < 10
  ·rw [if_pos h1]; simp
  ·rw [if_neg h1, List.length_append, List.length_singleton]
   have hn : 1 ≤ n := by
    rcases Nat.eq_zero_or_pos n with e | e
    ·subst e; simp at h; omega
    ·exact e
   have := dgt_len n (m / 10) hn (by rw [Nat.pow_succ] at h; omega)
   omega
theorem bytes_decS (m : Nat) : bytesOf (decS (m : Int)) = dgt m := by
 unfold decS
 rw [Lib.itoa_nonneg]
 rfl
theorem puM_ok (M : Nat) : ∀ (l : List UInt8) (a u : Nat), Lib.parseUintM M a l = .ok u → (l.map fun b => (b.toNat : Int)).all digit = true ∧ u = dvl a (l.map fun b => (b.toNat : Int))
 | [], a, u, h => by
  simp only [Lib.parseUintM] at h
  cases h
  exact ⟨rfl, rfl⟩
 | c :: r, a, u, h => by
  rw [Lib.parseUintM] at h
  by_cases h1 : 48 ≤ c.toNat ∧ c.toNat ≤ 57
  ·rw [if_pos h1] at h
   by_cases h2 : 1844674407370955162 ≤ a
   ·rw [if_pos h2] at h; cases h
   ·rw [if_neg h2] at h
    by_cases h3 : M < a * 10 + (c.toNat - 48)
    ·rw [if_pos h3] at h; cases h
    ·rw [if_neg h3] at h
     obtain ⟨e1, e2⟩ := puM_ok M r _ u h
     refine ⟨?_, ?_⟩
     ·rw [List.map_cons, List.all_cons, e1, Bool.and_true]
      exact digit_t (by omega) (by omega)
     ·rw [e2, List.map_cons]
      show _ = dvl (a * 10 + ((c.toNat : Int) - 48).toNat) _
      congr 1
      omega
  ·rw [if_neg h1] at h; cases h
theorem puM_of (M : Nat) (hM : 1000000000000000 ≤ M) : ∀ (l : List UInt8) (a : Nat), (l.map fun b => (b.toNat : Int)).all digit = true → dvl a (l.map fun b => (b.toNat : Int)) ≤ 1000000000000000 → Lib.parseUintM M a l = .ok (dvl a (l.map fun b => (b.toNat : Int)))
 | [], a, _, _ => rfl
 | c :: r, a, h, hb => by
  rw [List.map_cons, List.all_cons, Bool.and_eq_true] at h
  have hc : 48 ≤ (c.toNat : Int) ∧ (c.toNat : Int) ≤ 57 := by simpa [digit] using h.1
  have e : dvl a ((c :: r).map fun b => (b.toNat : Int)) = dvl (a * 10 + (c.toNat - 48)) (r.map fun b => (b.toNat : Int)) := by
   rw [List.map_cons]
   show dvl (a * 10 + ((c.toNat : Int) - 48).toNat) _ = _
   congr 1
   omega
  rw [e] at hb ⊢
  have hg := dvl_ge (r.map fun b => (b.toNat : Int)) (a * 10 + (c.toNat - 48))
  rw [Lib.parseUintM, if_pos (by omega), if_neg (by omega), if_neg (by omega)]
  exact puM_of M hM r _ h.2 hb
theorem piB_pos (c : UInt8) (r : List UInt8) (h : ¬ c.toNat = 43 ∧ ¬ c.toNat = 45) : Lib.parseIntB 64 (c :: r) = match Lib.parseUintM (2 ^ 64 - 1) 0 (c :: r) with
  | Lib.NumEnd.syntax => Lib.NumEnd.syntax
  | .range => .range
  | .ok u => if 2 ^ 63 ≤ u then .range else .ok (u : Int) := by
 dsimp only [Lib.parseIntB, Lib.parseUintB]
 rw [if_neg (not_or.2 h), if_neg (show ¬ c :: r = [] by simp)]
 cases Lib.parseUintM (2 ^ 64 - 1) 0 (c :: r) with
 | ok u => simp [h.2]
 | range => rfl
 | _ => rfl
theorem piB_neg (c : UInt8) (r : List UInt8) (h : c.toNat = 45) : Lib.parseIntB 64 (c :: r) = match Lib.parseUintB 64 r with
  | Lib.NumEnd.syntax => Lib.NumEnd.syntax
  | .range => .range
  | .ok u => if 2 ^ 63 < u then .range else .ok (-(u : Int)) := by
 dsimp only [Lib.parseIntB]
 rw [if_pos (.inr h)]
 cases Lib.parseUintB 64 r with
 | ok u => simp [h]
 | range => rfl
 | _ => rfl
theorem pi_of (s : ByteArray) (m : Nat) (hm : m ≤ 1000000000000000) (h : bytesOf s = dgt m) : Lib.parseIntB 64 s.data.toList = .ok (m : Int) := by
 obtain ⟨g1, g2, g3, _⟩ := dgt_all m
 have hl : (s.data.toList.map fun b => (b.toNat : Int)) = dgt m := h
 cases hs : s.data.toList with
 | nil => rw [hs] at hl; exact absurd hl.symm g2
 | cons c r =>
  rw [hs] at hl
  rw [← hl] at g1 g3
  have hc : 48 ≤ (c.toNat : Int) ∧ (c.toNat : Int) ≤ 57 := by
   rw [List.map_cons, List.all_cons, Bool.and_eq_true] at g1
   simpa [digit] using g1.1
  rw [piB_pos c r ⟨by omega, by omega⟩, puM_of (2 ^ 64 - 1) (by decide) (c :: r) 0 g1 (by rw [g3]; exact hm), g3]
  show (if 2 ^ 63 ≤ m then Lib.NumEnd.range else Lib.NumEnd.ok (m : Int)) = _
  rw [if_neg (by have : (2 : Nat) ^ 63 = 9223372036854775808 := rfl; omega)]
theorem pi_ok (s : ByteArray) (v : Int) (h : Lib.parseIntB 64 s.data.toList = .ok v) (hp : (bytesOf s).all digit = true) : v = (dvl 0 (bytesOf s) : Nat) := by
 have hl : (s.data.toList.map fun b => (b.toNat : Int)) = bytesOf s := rfl
 cases hs : s.data.toList with
 | nil => rw [hs] at h; simp [Lib.parseIntB] at h
 | cons c r =>
  rw [hs] at hl h
  rw [← hl] at hp ⊢
  have hc : 48 ≤ (c.toNat : Int) ∧ (c.toNat : Int) ≤ 57 := by
   rw [List.map_cons, List.all_cons, Bool.and_eq_true] at hp
   simpa [digit] using hp.1
  rw [piB_pos c r ⟨by omega, by omega⟩] at h
  cases hu : Lib.parseUintM (2 ^ 64 - 1) 0 (c :: r) with
  | ok u =>
   rw [hu] at h
   obtain ⟨_, e⟩ := puM_ok _ _ _ _ hu
   simp only at h
   split at h
   ·cases h
   ·cases h
    rw [← e]
  | range => rw [hu] at h; cases h
  | _ => rw [hu] at h; cases h
theorem nil_iff (s : ByteArray) : s.toList = ([] : List UInt8) ↔ bytesOf s = [] := by
 rw [ByteArray.toList_eq]
 simp [bytesOf]
theorem one_iff (s : ByteArray) : (s.toList == ([48] : List UInt8)) = (bytesOf s == [48]) := by
 rw [ByteArray.toList_eq]
 have : s.toList = ([48] : List UInt8) ↔ s = (⟨#[48]⟩ : ByteArray) := by
  have e : (⟨#[48]⟩ : ByteArray).toList = [48] := by rw [ByteArray.toList_eq]
  exact ⟨fun h => toList_inj.1 (h.trans e.symm), fun h => h ▸ e⟩
 have h2 : bytesOf s = [48] ↔ s = (⟨#[48]⟩ : ByteArray) := by
  rw [← show bytesOf (⟨#[48]⟩ : ByteArray) = [48] from rfl]
  exact ⟨bytesOf_inj, fun h => h ▸ rfl⟩
 rw [← ByteArray.toList_eq]
 by_cases h : s = (⟨#[48]⟩ : ByteArray)
 ·rw [beq_iff_eq.2 (this.2 h), beq_iff_eq.2 (h2.2 h)]
 ·rw [beq_eq_false_iff_ne.2 (fun e => h (this.1 e)), beq_eq_false_iff_ne.2 (fun e => h (h2.1 e))]
theorem bt_head {s : ByteArray} {c : Int} {r : List Int} (h : bytesOf s = c :: r) : (0 : Int) < (s.size : Int) ∧ bt s 0 = c ∧ bytesOf (s.extract 1 s.size) = r := by
 obtain ⟨h1, h2, h3, _⟩ := drop_cons (s := s) (i := 0) (c := c) (r := r) (by simpa using h)
 refine ⟨h1, h2, ?_⟩
 rw [bytesOf_extract, List.take_of_length_le (Nat.le_of_eq (length_bytesOf s)), h]
 rfl
def isNumB (l d : List Int) : Bool := d.all digit && (decide (d ≠ []) && (decide (d.head? ≠ some 48) || (l == [48])))
theorem isNum_loop (s d : ByteArray) (hd : (d.size : Int) ≤ 1048576) : ∀ (l : List Int) (i : Nat), (bytesOf d).drop i = l → Ev (fun k => F104.l0 k s d (d.size : Int) (i : Int)) (l.all digit && (decide (bytesOf d ≠ []) && (decide ((bytesOf d).head? ≠ some 48) || (bytesOf s == [48])))) := by
 intro l
 induction l with
 | nil =>
  intro i h
  have h0 := drop_nil h
  refine Ev.step (fun k => F104.l0.eq_2 ..) (Ev.neg (by omega) ?_)
  by_cases hz : bytesOf d = []
  ·exact Ev.pos ((nil_iff d).2 hz) (Ev.ret (by simp [hz]))
  ·refine Ev.neg (fun e => hz ((nil_iff d).1 e)) ?_
   cases hb : bytesOf d with
   | nil => exact absurd hb hz
   | cons c r =>
    obtain ⟨g1, g2, _⟩ := bt_head hb
    refine Ev.pos g1 ?_
    rw [g2]
    by_cases hc : c = 48
    ·exact Ev.pos hc (Ev.ret (by rw [one_iff]; simp [hc]))
    ·exact Ev.neg hc (Ev.ret (by simp [hc]))
 | cons c r ih =>
  intro i h
  obtain ⟨h1, h2, h3, _, _⟩ := drop_cons h
  refine Ev.step (fun k => F104.l0.eq_2 ..) (Ev.pos h1 (Ev.pos (by omega) (Ev.pos h1 ?_)))
  rw [h2]
  refine Ev.bindc (isDigit_eq _) ?_
  by_cases hg : digit c = true
  ·refine Ev.pos hg ?_
   rw [wi_ (by omega)]
   exact (ih (i + 1) h3).to (by simp [hg])
  ·exact Ev.neg hg (Ev.ret (by simp [hg]))
def digs (l : List Int) : List Int := if l.head? = some 45 then l.drop 1 else l
theorem isNumber_ev (s : ByteArray) (hs : s.size ≤ 1048576) : Ev (fun k => F104.f k s) (isNumB (bytesOf s) (digs (bytesOf s))) := by
 unfold F104.f
 cases hb : bytesOf s with
 | nil =>
  have hz := (nil_iff s).2 hb
  refine Ev.pos hz (Ev.step (fun k => F104.j0.eq_2 ..) (Ev.neg (by simp) (Ev.step (fun k => F104.j1.eq_2 ..) ?_)))
  have := isNum_loop s s (by omega) [] 0 (by simp [hb])
  rw [hb] at this
  exact this.to rfl
 | cons c r =>
  obtain ⟨g1, g2, g3⟩ := bt_head hb
  refine Ev.neg (fun e => by rw [(nil_iff s).1 e] at hb; cases hb) (Ev.pos g1 (Ev.step (fun k => F104.j0.eq_2 ..) ?_))
  rw [g2]
  by_cases hc : c = 45
  ·refine Ev.pos (by simp [hc]) (Ev.pos (by omega) (Ev.step (fun k => F104.j1.eq_2 ..) ?_))
   have := isNum_loop s (s.extract 1 s.size) (by rw [← length_bytesOf, g3]; have := length_bytesOf s; rw [hb] at this; simp only [List.length_cons] at this; omega) r 0 (by simp [g3])
   rw [g3, hb] at this
   exact this.to (by simp [isNumB, digs, hc])
  ·refine Ev.neg (by simp [hc]) (Ev.step (fun k => F104.j1.eq_2 ..) ?_)
   have := isNum_loop s s (by omega) (c :: r) 0 (by simp [hb])
   rw [hb] at this
   exact this.to (by simp [isNumB, digs, hc])
theorem decS_of_bytes {s : ByteArray} {m : Nat} (h : bytesOf s = dgt m) : s = decS (m : Int) := bytesOf_inj (by rw [h, bytes_decS])
theorem isNumB_dgt (m : Nat) : isNumB (dgt m) (digs (dgt m)) = true := by
 obtain ⟨g1, g2, g3, g4⟩ := dgt_all m
 have hh : (dgt m).head? ≠ some 45 := by
  cases hd : dgt m with
  | nil => simp
  | cons c r =>
   rw [hd, List.all_cons, Bool.and_eq_true] at g1
   have : 48 ≤ c ∧ c ≤ 57 := by simpa [digit] using g1.1
   simp only [List.head?_cons, ne_eq, Option.some.injEq]
   omega
 unfold isNumB digs
 rw [if_neg hh, g1]
 rcases Nat.eq_zero_or_pos m with e | e
 ·subst e
  have : dgt 0 = [48] := by rw [dgt_eq]; rfl
  rw [this]; rfl
 ·simp [g2, g4 e]
theorem isNumB_ok {l : List Int} (h : isNumB l (digs l) = true) (h0 : l.head? ≠ some 45) : l.all digit = true ∧ dgt (dvl 0 l) = l := by
 unfold isNumB digs at h
 rw [if_neg h0] at h
 simp only [Bool.and_eq_true, decide_eq_true_eq, Bool.or_eq_true, beq_iff_eq] at h
 refine ⟨h.1, ?_⟩
 rcases h.2.2 with e | e
 ·exact dgt_of l h.1 h.2.1 e
 ·rw [e]
  show dgt 0 = [48]
  rw [dgt_eq]; rfl
theorem pi_neg (s : ByteArray) (v : Int) (h : Lib.parseIntB 64 s.data.toList = .ok v) (hd : (bytesOf s).head? = some 45) : v ≤ 0 := by
 have hl : (s.data.toList.map fun b => (b.toNat : Int)) = bytesOf s := rfl
 cases hs : s.data.toList with
 | nil => rw [hs] at h; simp [Lib.parseIntB] at h
 | cons c r =>
  rw [hs] at hl h
  rw [← hl] at hd
  have hc : c.toNat = 45 := by simp at hd; omega
  rw [piB_neg c r hc] at h
  cases hu : Lib.parseUintB 64 r with
  | ok u =>
   rw [hu] at h
   simp only at h
   split at h
   ·cases h
   ·cases h
    omega
  | range => rw [hu] at h; cases h
  | _ => rw [hu] at h; cases h
theorem numberIn_ev (s : ByteArray) (hs : s.size ≤ 1048576) (lo hi : Int) (h0 : 0 ≤ lo) (h1 : hi ≤ 1000000000000) : ∃ p : Int × Bool, Ev (fun k => F102.f k s lo hi) p ∧ (∀ m : Nat, s = decS (m : Int) → lo ≤ (m : Int) → (m : Int) ≤ hi → p = ((m : Int), true)) ∧ (p.2 = true → ∃ m : Nat, s = decS (m : Int) ∧ lo ≤ (m : Int) ∧ (m : Int) ≤ hi ∧ p.1 = (m : Int)) := by
 unfold F102.f
 have key : ∃ p : Int × Bool, Ev (fun k => F102.g k s lo hi (Lib.parseIntB 64 s.data.toList)) p ∧ (∀ m : Nat, s = decS (m : Int) → lo ≤ (m : Int) → (m : Int) ≤ hi → p = ((m : Int), true)) ∧ (p.2 = true → ∃ m : Nat, s = decS (m : Int) ∧ lo ≤ (m : Int) ∧ (m : Int) ≤ hi ∧ p.1 = (m : Int)) := by
  cases hp : Lib.parseIntB 64 s.data.toList with
  | ok v =>
   unfold F102.g
   have hn := isNumber_ev s hs
   by_cases hb : isNumB (bytesOf s) (digs (bytesOf s)) = true
   ·rw [hb] at hn
    refine ⟨(v, withinP v lo hi), Ev.bind hn (Ev.pos rfl (Ev.bindc (within_eq _ _ _) (Ev.now _))), fun m hm l1 l2 => ?_, fun hq => ?_⟩
    ·have hbm : bytesOf s = dgt m := by rw [hm, bytes_decS]
     rw [pi_of s m (by omega) hbm] at hp
     cases hp
     rw [show withinP (m : Int) lo hi = true from by simp [withinP, l1, l2]]
    ·have hq : lo ≤ v ∧ v ≤ hi := by simpa [withinP] using hq
     by_cases hd : (bytesOf s).head? = some 45
     ·have := pi_neg s v hp hd
      have e0 : v = 0 := by omega
      exfalso
      -- '-0' is no number, and '-d' with d over 0 is under 0
      have hl : (s.data.toList.map fun b => (b.toNat : Int)) = bytesOf s := rfl
      cases hs' : s.data.toList with
      | nil => rw [hs'] at hp; simp [Lib.parseIntB] at hp
      | cons c r =>
       rw [hs'] at hl hp
       rw [← hl] at hb hd
       have hc : c.toNat = 45 := by simp at hd; omega
       rw [piB_neg c r hc] at hp
       unfold Lib.parseUintB at hp
       have hdg : digs ((c :: r).map fun b => (b.toNat : Int)) = r.map fun b => (b.toNat : Int) := by
        unfold digs
        rw [if_pos hd]; rfl
       rw [hdg] at hb
       unfold isNumB at hb
       simp only [Bool.and_eq_true, decide_eq_true_eq, Bool.or_eq_true, beq_iff_eq] at hb
       have hr : r ≠ [] := fun e => hb.2.1 (by rw [e]; rfl)
       rw [if_neg hr] at hp
       have hh : (r.map fun b => (b.toNat : Int)).head? ≠ some 48 := by
        rcases hb.2.2 with e | e
        ·exact e
        ·rw [List.map_cons, hc] at e
         simp at e
       have hg := dgt_of _ hb.1 hb.2.1 hh
       cases hu : Lib.parseUintM (2 ^ 64 - 1) 0 r with
       | ok u =>
        obtain ⟨_, e⟩ := puM_ok _ _ _ _ hu
        rw [hu] at hp
        simp only at hp
        split at hp
        ·cases hp
        ·cases hp
         have hz : u = 0 := by omega
         rw [← e, hz] at hg
         have e0 : dgt 0 = [48] := by rw [dgt_eq]; rfl
         rw [e0] at hg
         exact hh (by rw [← hg]; rfl)
       | range => rw [hu] at hp; cases hp
       | _ => rw [hu] at hp; cases hp
     ·obtain ⟨g1, g2⟩ := isNumB_ok hb hd
      have hv := pi_ok s v hp g1
      exact ⟨dvl 0 (bytesOf s), decS_of_bytes g2.symm, by omega, by omega, hv⟩
   ·rw [Bool.not_eq_true] at hb
    rw [hb] at hn
    refine ⟨(v, false), Ev.bind hn (Ev.neg (by simp) (Ev.now _)), fun m hm l1 l2 => ?_, fun hq => (by cases hq)⟩
    have hbm : bytesOf s = dgt m := by rw [hm, bytes_decS]
    rw [hbm, isNumB_dgt] at hb
    cases hb
  | range =>
   refine ⟨(Lib.intSat 64 s.data.toList, false), Ev.now _, fun m hm l1 l2 => ?_, fun hq => (by cases hq)⟩
   have hbm : bytesOf s = dgt m := by rw [hm, bytes_decS]
   rw [pi_of s m (by omega) hbm] at hp
   cases hp
  | _ =>
   refine ⟨(0, false), Ev.now _, fun m hm l1 l2 => ?_, fun hq => (by cases hq)⟩
   have hbm : bytesOf s = dgt m := by rw [hm, bytes_decS]
   rw [pi_of s m (by omega) hbm] at hp
   cases hp
 obtain ⟨p, e1, e2⟩ := key
 exact ⟨p, Ev.pos (by omega) e1, e2⟩
theorem dvl_lt : ∀ (l : List Int) (a n : Nat), l.all digit = true → a < 10 ^ n → dvl a l < 10 ^ (n + l.length)
 | [], a, n, _, h => h
 | c :: r, a, n, h, hb => by
  rw [List.all_cons, Bool.and_eq_true] at h
  have hc : 48 ≤ c ∧ c ≤ 57 := by simpa [digit] using h.1
  have := dvl_lt r (a * 10 + (c - 48).toNat) (n + 1) h.2 (by rw [Nat.pow_succ]; omega)
  rw [List.length_cons, show n + (r.length + 1) = n + 1 + r.length by omega]
  exact this
theorem beq_str (a b : ByteArray) : (a.toList == b.toList) = decide (a = b) := by
 by_cases h : a = b
 ·rw [h]; simp
 ·rw [decide_eq_false h, beq_eq_false_iff_ne]
  exact fun e => h (toList_inj.1 e)
theorem pow12 {i a : Nat} (hi : i ≤ 12) (ha : a < 10 ^ i) : a < 1000000000000 := Nat.lt_of_lt_of_le ha (Nat.pow_le_pow_right (by omega) hi)
theorem num_loop (s d : ByteArray) (ng : Bool) : ∀ (l : List Int) (i a : Nat), (bytesOf d).drop i = l → i + l.length ≤ 12 → a < 10 ^ i → ∃ p : Int × Bool, Ev (fun k => F83.l0 k s ng d (a : Int) (i : Int)) p ∧ (l.all digit = true → p = (if ng = true then -(dvl a l : Int) else (dvl a l : Int), decide (decS (if ng = true then -(dvl a l : Int) else (dvl a l : Int)) = s))) ∧ (¬ l.all digit = true → p = (0, false)) := by
 intro l
 induction l with
 | nil =>
  intro i a h hi ha
  have h0 := drop_nil h
  have hb := pow12 (by simpa using hi) ha
  refine ⟨_, Ev.step (fun k => F83.l0.eq_2 ..) (Ev.neg (by omega) (r := (if ng = true then -(a : Int) else (a : Int), decide (decS (if ng = true then -(a : Int) else (a : Int)) = s))) ?_), fun _ => rfl, fun h => absurd rfl h⟩
  rw [wrap_id (x := -(a : Int)) (by omega) (by omega)]
  cases ng with
  | true => exact Ev.pos rfl (Ev.bind (l01Dec_ev _ (by omega) (by omega)) (Ev.ret (by rw [beq_str]; rfl)))
  | false => exact Ev.neg (by simp) (Ev.bind (l01Dec_ev _ (by omega) (by omega)) (Ev.ret (by rw [beq_str]; rfl)))
 | cons c r ih =>
  intro i a h hi ha
  obtain ⟨h1, h2, h3, h4, h5⟩ := drop_cons h
  simp only [List.length_cons] at hi
  have hb := pow12 (by omega) ha
  by_cases hg : digit c = true
  ·have hc : 48 ≤ c ∧ c ≤ 57 := by simpa [digit] using hg
   obtain ⟨p, e1, e2, e3⟩ := ih (i + 1) (a * 10 + (c - 48).toNat) h3 (by omega) (by rw [Nat.pow_succ]; omega)
   refine ⟨p, Ev.step (fun k => F83.l0.eq_2 ..) (Ev.pos h1 (Ev.pos (by omega) ?_)), fun g => e2 ?_, fun g => e3 ?_⟩
   ·rw [h2, wi_ (by omega), wrap_id (x := 10 * (a : Int)) (by omega) (by omega), wrap_id (by omega) (by omega), show 10 * (a : Int) + (c - 48) % 256 = ((a * 10 + (c - 48).toNat : Nat) : Int) by omega]
    exact Ev.neg (by omega) (Ev.neg (by omega) e1)
   ·rw [List.all_cons, hg, Bool.true_and] at g; exact g
   ·rw [List.all_cons, hg, Bool.true_and] at g; exact g
  ·have hc : ¬ (48 ≤ c ∧ c ≤ 57) := by simpa [digit] using hg
   refine ⟨(0, false), Ev.step (fun k => F83.l0.eq_2 ..) (Ev.pos h1 (Ev.pos (by omega) ?_)), fun g => ?_, fun _ => rfl⟩
   ·rw [h2]
    by_cases hl : c < 48
    ·exact Ev.pos hl (Ev.now _)
    ·exact Ev.neg hl (Ev.pos (by omega) (Ev.now _))
   ·rw [List.all_cons, Bool.and_eq_true] at g
    exact absurd g.1 hg
theorem bytes_neg (m : Nat) (h : 1 ≤ m) : bytesOf (decS (-(m : Int))) = 45 :: dgt m := by
 unfold decS Lib.itoa
 rw [if_pos (by omega), show (-(m : Int)).natAbs = m by omega]
 rfl
theorem isNumB_decS (v : Int) : isNumB (bytesOf (decS v)) (digs (bytesOf (decS v))) = true := by
 by_cases h : 0 ≤ v
 ·obtain ⟨m, rfl⟩ := Int.eq_ofNat_of_zero_le h
  rw [bytes_decS]
  exact isNumB_dgt m
 ·obtain ⟨m, rfl⟩ : ∃ m : Nat, v = -(m : Int) := ⟨v.natAbs, by omega⟩
  rw [bytes_neg m (by omega)]
  obtain ⟨g1, g2, _, g4⟩ := dgt_all m
  have e : digs (45 :: dgt m) = dgt m := rfl
  rw [e]
  unfold isNumB
  simp [g1, g2, g4 (by omega)]
theorem l01Num_ev (s : ByteArray) (hs : s.size ≤ 1048576) : ∃ p : Int × Bool, Ev (fun k => F83.f k s) p ∧ (∀ m : Nat, m < 1000000000000 → s = decS (m : Int) → p = ((m : Int), true)) ∧ (p.2 = true → s = decS p.1) ∧ -1000000000000 < p.1 ∧ p.1 < 1000000000000 ∧ (s.size ≤ 12 → isNumB (bytesOf s) (digs (bytesOf s)) = true → p.2 = true) := by
 have body : ∀ (ng : Bool) (d : ByteArray), (∃ c, bytesOf s = c ++ bytesOf d) → ∃ p : Int × Bool, Ev (fun k => F83.j1 k s ng d) p ∧ (ng = false → d = s → ∀ m : Nat, m < 1000000000000 → s = decS (m : Int) → p = ((m : Int), true)) ∧ (p.2 = true → s = decS p.1) ∧ (-1000000000000 < p.1 ∧ p.1 < 1000000000000) ∧ ((bytesOf d).all digit = true → 1 ≤ d.size → d.size ≤ 12 → decS (if ng = true then -(dvl 0 (bytesOf d) : Int) else (dvl 0 (bytesOf d) : Int)) = s → p.2 = true) := by
  intro ng d _
  have hln := length_bytesOf d
  by_cases h0 : (d.size : Int) < 1
  ·refine ⟨(0, false), Ev.step (fun k => F83.j1.eq_2 ..) (Ev.pos h0 (Ev.step (fun k => F83.j2.eq_2 ..) (Ev.pos rfl (Ev.now _)))), fun _ hd m hm e => ?_, fun h => (by cases h), by simp, fun _ h => absurd h (by omega)⟩
   exfalso
   have := (dgt_all m).2.1
   rw [← bytes_decS, ← e, ← hd] at this
   exact this (List.length_eq_zero_iff.1 (by omega))
  ·by_cases h1 : (d.size : Int) > 12
   ·refine ⟨(0, false), Ev.step (fun k => F83.j1.eq_2 ..) (Ev.neg h0 (Ev.step (fun k => F83.j2.eq_2 ..) (Ev.pos (by simpa using h1) (Ev.now _)))), fun _ hd m hm e => ?_, fun h => (by cases h), by simp, fun _ _ h => absurd h (by omega)⟩
    exfalso
    have := dgt_len 12 m (by omega) hm
    rw [← bytes_decS, ← e, ← hd] at this
    omega
   ·obtain ⟨p, e1, e2, e3⟩ := num_loop s d ng (bytesOf d) 0 0 rfl (by omega) (by simp)
    refine ⟨p, Ev.step (fun k => F83.j1.eq_2 ..) (Ev.neg h0 (Ev.step (fun k => F83.j2.eq_2 ..) (Ev.neg (by simpa using h1) e1))), fun hn hd m hm e => ?_, fun hp => ?_, ?_, fun g _ _ e => by rw [e2 g]; exact decide_eq_true e⟩
    ·obtain ⟨g1, _, g3, _⟩ := dgt_all m
     rw [← bytes_decS, ← e, ← hd] at g1 g3
     rw [e2 g1, hn]
     simp only [Bool.false_eq_true, if_false, g3]
     rw [decide_eq_true e.symm]
    ·by_cases g : (bytesOf d).all digit = true
     ·rw [e2 g] at hp ⊢
      exact (of_decide_eq_true hp).symm
     ·rw [e3 g] at hp; cases hp
    ·by_cases g : (bytesOf d).all digit = true
     ·rw [e2 g]
      have := pow12 (i := (bytesOf d).length) (by omega) (by have := dvl_lt (bytesOf d) 0 0 g (by simp); rwa [Nat.zero_add] at this)
      cases ng <;> simp <;> omega
     ·rw [e3 g]; simp
 unfold F83.f
 cases hb : bytesOf s with
 | nil =>
  have hln := length_bytesOf s
  rw [hb] at hln
  simp only [List.length_nil] at hln
  obtain ⟨p, e1, e2, e3⟩ := body false s ⟨[], rfl⟩
  obtain ⟨e3, e4, e5⟩ := e3
  exact ⟨p, Ev.neg (by omega) (Ev.step (fun k => F83.j0.eq_2 ..) (Ev.neg (by simp) e1)), e2 rfl rfl, e3, e4.1, e4.2, fun _ h => by cases h⟩
 | cons c r =>
  obtain ⟨g1, g2, g3⟩ := bt_head hb
  by_cases hc : c = 45
  ·obtain ⟨p, e1, e2, e3⟩ := body true (s.extract 1 s.size) ⟨[c], by rw [g3, hb]; rfl⟩
   obtain ⟨e3, e4, e5⟩ := e3
   refine ⟨p, Ev.pos g1 (Ev.pos g1 ?_), fun m hm e => ?_, e3, e4.1, e4.2, fun hz h => ?_⟩
   ·rw [g2]
    rw [show (c == 45) = true by simp [hc]]
    exact Ev.step (fun k => F83.j0.eq_2 ..) (Ev.pos rfl (Ev.pos (by omega) e1))
   ·exfalso
    have := (dgt_all m).1
    rw [← bytes_decS, ← e, hb, hc] at this
    simp [digit] at this
   ·subst hc
    have hln := length_bytesOf s
    have hld := length_bytesOf (s.extract 1 s.size)
    rw [hb, List.length_cons] at hln
    rw [g3] at hld e5
    have hd : digs (45 :: r) = r := rfl
    rw [hd] at h
    unfold isNumB at h
    simp only [Bool.and_eq_true, decide_eq_true_eq, Bool.or_eq_true, beq_iff_eq] at h
    have hh : r.head? ≠ some 48 := h.2.2.resolve_right (by simp)
    have hg := dgt_of r h.1 h.2.1 hh
    have hr : 1 ≤ r.length := List.length_pos_iff.2 h.2.1
    have hv : 1 ≤ dvl 0 r := by
     rcases Nat.eq_zero_or_pos (dvl 0 r) with e | e
     ·rw [e, show dgt 0 = [48] by rw [dgt_eq]; rfl] at hg
      exact absurd (by rw [← hg]; rfl) hh
     ·exact e
    refine e5 h.1 (by omega) (by omega) (bytesOf_inj ?_)
    rw [if_pos rfl, bytes_neg _ hv, hg, hb]
  ·obtain ⟨p, e1, e2, e3⟩ := body false s ⟨[], rfl⟩
   obtain ⟨e3, e4, e5⟩ := e3
   refine ⟨p, Ev.pos g1 (Ev.pos g1 ?_), e2 rfl rfl, e3, e4.1, e4.2, fun hz h => ?_⟩
   ·rw [g2, show (c == 45) = false by simp [hc]]
    exact Ev.step (fun k => F83.j0.eq_2 ..) (Ev.neg (by simp) e1)
   ·have hln := length_bytesOf s
    rw [hb, List.length_cons] at hln
    have hh : (c :: r).head? ≠ some 45 := by simpa using hc
    obtain ⟨k1, k2⟩ := isNumB_ok h hh
    rw [hb] at e5
    refine e5 k1 (by omega) hz (bytesOf_inj ?_)
    rw [if_neg (by simp), bytes_decS, k2, hb]
def plainS (tag : ByteArray) (ps : List ByteArray) : S49 := ⟨tag, ps.map fun p => (⟨[p]⟩ : S91)⟩
theorem l03Seg_loop (tag : ByteArray) (ps : List ByteArray) : ∀ (r : List ByteArray) (j : Nat) (acc : List S91), ps.drop j = r → acc.length + r.length ≤ 1000 → j + r.length ≤ 1000 → Ev (fun k => F25.l0 k ps (j : Int) tag acc) (tag, acc ++ r.map fun p => (⟨[p]⟩ : S91)) := by
 intro r
 induction r with
 | nil =>
  intro j acc h _ _
  have h0 := ldrop_nil h
  exact Ev.step (fun k => F25.l0.eq_2 ..) (Ev.neg (by omega) (Ev.ret (by simp)))
 | cons c r ih =>
  intro j acc h hb hj
  obtain ⟨h1, h2, h3⟩ := ldrop_cons ByteArray.empty h
  have hr : rdOf ByteArray.empty ps (j : Int) = c := h2
  simp only [List.length_cons] at hb hj
  refine Ev.step (fun k => F25.l0.eq_2 ..) (Ev.pos h1 (Ev.pos (by omega) (Ev.pos (by omega) ?_)))
  rw [hr, wi_ (by omega)]
  exact (ih (j + 1) _ h3 (by rw [List.length_append]; simp only [List.length_cons, List.length_nil]; omega) (by omega)).to (by simp)
theorem l03Seg_ev (tag : ByteArray) (ps : List ByteArray) (h : ps.length ≤ 1000) : Ev (fun k => F25.f k tag ps) ((plainS tag ps).f0, (plainS tag ps).f1) :=
 (l03Seg_loop tag ps ps 0 [] rfl (by simpa using h) (by omega)).to rfl
theorem same_inner (a b : S49) (j : Nat) (hj : j < a.f1.length) (hl : a.f1.length = b.f1.length) (hp : (a.f1.getD j z91).f0.length = (b.f1.getD j z91).f0.length) (hb : a.f1.length ≤ 1048576) (hpb : (a.f1.getD j z91).f0.length ≤ 1048576) {R : Bool} (hR : (a.f1.getD j z91).f0 = (b.f1.getD j z91).f0 → Ev (fun k => F85.l0 k ((j + 1 : Nat) : Int) a.f0 a.f1 b.f0 b.f1) R) (hF : (a.f1.getD j z91).f0 ≠ (b.f1.getD j z91).f0 → R = false) : ∀ (r r' : List ByteArray) (i : Nat), (a.f1.getD j z91).f0.drop i = r → (b.f1.getD j z91).f0.drop i = r' → (∀ m, m < i → (a.f1.getD j z91).f0.getD m ByteArray.empty = (b.f1.getD j z91).f0.getD m ByteArray.empty) → Ev (fun k => F85.l1 k (j : Int) (i : Int) a.f0 a.f1 b.f0 b.f1) R := by
 have ra : rd_T91 a.f1 (j : Int) = a.f1.getD j z91 := by unfold rd_T91; rw [Int.toNat_natCast]
 have rb : rd_T91 b.f1 (j : Int) = b.f1.getD j z91 := by unfold rd_T91; rw [Int.toNat_natCast]
 generalize a.f1.getD j z91 = p at *
 generalize b.f1.getD j z91 = q at *
 intro r
 induction r with
 | nil =>
  intro r' i h h' hm
  have h0 := ldrop_nil h
  refine Ev.step (fun k => F85.l1.eq_2 ..) (Ev.pos (by omega) (Ev.pos (by omega) ?_))
  rw [ra]
  refine Ev.neg (by omega) ?_
  rw [wi_ (by omega)]
  refine hR (List.ext_getElem hp fun m m1 m2 => ?_)
  have := hm m (by omega)
  rw [List.getD_eq_getElem?_getD, List.getD_eq_getElem?_getD, List.getElem?_eq_getElem m1, List.getElem?_eq_getElem m2] at this
  exact this
 | cons c r ih =>
  intro r' i h h' hm
  obtain ⟨h1, h2, h3⟩ := ldrop_cons ByteArray.empty h
  have e1 : rdOf ByteArray.empty p.f0 (i : Int) = c := h2
  cases r' with
  | nil => have := ldrop_nil h'; omega
  | cons c' r' =>
   obtain ⟨g1, g2, g3⟩ := ldrop_cons ByteArray.empty h'
   have e2 : rdOf ByteArray.empty q.f0 (i : Int) = c' := g2
   refine Ev.step (fun k => F85.l1.eq_2 ..) (Ev.pos (by omega) (Ev.pos (by omega) ?_))
   rw [ra]
   refine Ev.pos h1 (Ev.pos (by omega) (Ev.pos (by omega) ?_))
   rw [rb]
   refine Ev.pos g1 ?_
   rw [e1, e2]
   rw [Int.toNat_natCast] at h2 g2
   by_cases hc : c = c'
   ·refine Ev.pos (by rw [hc]) ?_
    rw [wi_ (by omega)]
    refine ih r' (i + 1) h3 g3 fun m hm' => ?_
    rcases Nat.lt_or_ge m i with g | g
    ·exact hm m g
    ·have : m = i := by omega
     rw [this, h2, g2, hc]
   ·refine Ev.neg (fun e => hc (toList_inj.1 e)) (Ev.ret (hF fun e => hc ?_).symm)
    rw [← h2, ← g2, e]
theorem sameSeg_ev (a b : S49) (hb : a.f1.length ≤ 1048576) (hpb : ∀ e ∈ a.f1, e.f0.length ≤ 1048576) : ∃ R : Bool, Ev (fun k => F85.f k a.f0 a.f1 b.f0 b.f1) R ∧ (R = true ↔ a = b) := by
 unfold F85.f
 by_cases ht : a.f0 = b.f0
 ·by_cases hl : a.f1.length = b.f1.length
  ·have loop : ∀ (r : List S91) (j : Nat), a.f1.drop j = r → ∃ R : Bool, Ev (fun k => F85.l0 k (j : Int) a.f0 a.f1 b.f0 b.f1) R ∧ (R = true ↔ ∀ m, j ≤ m → m < a.f1.length → a.f1.getD m z91 = b.f1.getD m z91) := by
    intro r
    induction r with
    | nil =>
     intro j h
     have h0 := ldrop_nil h
     exact ⟨true, Ev.step (fun k => F85.l0.eq_2 ..) (Ev.neg (by omega) (Ev.now _)), iff_of_true rfl fun m m1 m2 => by omega⟩
    | cons c r ih =>
     intro j h
     obtain ⟨h1, h2, h3⟩ := ldrop_cons z91 h
     have hj : j < a.f1.length := by omega
     have ra : rd_T91 a.f1 (j : Int) = a.f1.getD j z91 := by unfold rd_T91; rw [Int.toNat_natCast]
     have rb : rd_T91 b.f1 (j : Int) = b.f1.getD j z91 := by unfold rd_T91; rw [Int.toNat_natCast]
     obtain ⟨R, e1, e2⟩ := ih (j + 1) h3
     by_cases hp : (a.f1.getD j z91).f0.length = (b.f1.getD j z91).f0.length
     ·by_cases hq : (a.f1.getD j z91).f0 = (b.f1.getD j z91).f0
      ·refine ⟨R, Ev.step (fun k => F85.l0.eq_2 ..) (Ev.pos h1 (Ev.pos (by omega) (Ev.pos (by omega) ?_))), ?_⟩
       ·rw [ra, rb]
        exact Ev.pos (by omega) (same_inner a b j hj hl hp hb (hpb _ (getD_mem _ hj)) (fun _ => e1) (fun g => absurd hq g) _ _ 0 rfl rfl (fun m hm => by omega))
       ·rw [e2]
        refine ⟨fun g m m1 m2 => ?_, fun g m m1 m2 => g m (by omega) m2⟩
        rcases Nat.lt_or_ge j m with k | k
        ·exact g m (by omega) m2
        ·have : m = j := by omega
         rw [this]
         generalize a.f1.getD j z91 = p at hq
         generalize b.f1.getD j z91 = q at hq
         cases p; cases q
         exact congrArg _ hq
      ·refine ⟨false, Ev.step (fun k => F85.l0.eq_2 ..) (Ev.pos h1 (Ev.pos (by omega) (Ev.pos (by omega) ?_))), ?_⟩
       ·rw [ra, rb]
        exact Ev.pos (by omega) (same_inner a b j hj hl hp hb (hpb _ (getD_mem _ hj)) (fun g => absurd g hq) (fun _ => rfl) _ _ 0 rfl rfl (fun m hm => by omega))
       ·exact iff_of_false (by simp) fun g => hq (by rw [g j (Nat.le_refl _) hj])
     ·refine ⟨false, Ev.step (fun k => F85.l0.eq_2 ..) (Ev.pos h1 (Ev.pos (by omega) (Ev.pos (by omega) ?_))), iff_of_false (by simp) fun g => hp (by rw [g j (Nat.le_refl _) hj])⟩
      rw [ra, rb]
      exact Ev.neg (by omega) (Ev.now _)
   obtain ⟨R, e1, e2⟩ := loop a.f1 0 rfl
   refine ⟨R, Ev.pos (by rw [ht]) (Ev.step (fun k => F85.j0.eq_2 ..) (Ev.neg (by simp [hl]) e1)), ?_⟩
   rw [e2]
   refine ⟨fun g => ?_, fun g => by rw [g]; exact fun _ _ _ => rfl⟩
   have : a.f1 = b.f1 := List.ext_getElem hl fun m m1 m2 => by
    have := g m (by omega) m1
    rw [List.getD_eq_getElem?_getD, List.getD_eq_getElem?_getD, List.getElem?_eq_getElem m1, List.getElem?_eq_getElem m2] at this
    exact this
   cases a; cases b
   simp only at ht this
   rw [ht, this]
  ·exact ⟨false, Ev.pos (by rw [ht]) (Ev.step (fun k => F85.j0.eq_2 ..) (Ev.pos (by simp; omega) (Ev.now _))), iff_of_false (by simp) fun e => hl (by rw [e])⟩
 ·exact ⟨false, Ev.neg (fun e => ht (toList_inj.1 e)) (Ev.step (fun k => F85.j0.eq_2 ..) (Ev.pos rfl (Ev.now _))), iff_of_false (by simp) fun e => ht (by rw [e])⟩
theorem parts_loop (T : ByteArray) (E : List S91) (tag : ByteArray) (many : Int) (hE : E.length ≤ 1048576) : ∀ (r : List S91) (j : Nat) (acc : List ByteArray), E.drop j = r → acc.length = j → ∃ R : List ByteArray × Bool, Ev (fun k => F101.l0 k tag many acc E (E.length : Int) (j : Int) T E) R ∧ (R.2 = true → ∃ ps, r = ps.map (fun p => (⟨[p]⟩ : S91)) ∧ R.1 = acc ++ ps ∧ T = tag ∧ ((acc ++ ps).length : Int) = many) ∧ (∀ ps, r = ps.map (fun p => (⟨[p]⟩ : S91)) → T = tag → ((acc ++ ps).length : Int) = many → R = (acc ++ ps, true)) := by
 intro r
 induction r with
 | nil =>
  intro j acc h hj
  have h0 := ldrop_nil h
  by_cases ht : T = tag
  ·refine ⟨(acc, ((acc.length : Int) == many)), Ev.step (fun k => F101.l0.eq_2 ..) (Ev.neg (by omega) (Ev.pos (by rw [ht]) (Ev.now _))), fun g => ⟨[], rfl, by simp, ht, by simpa using g⟩, fun ps hps _ hm => ?_⟩
   have : ps = [] := by simpa using hps.symm
   subst this
   simp at hm ⊢
   exact hm
  ·exact ⟨(acc, false), Ev.step (fun k => F101.l0.eq_2 ..) (Ev.neg (by omega) (Ev.neg (fun e => ht (toList_inj.1 e)) (Ev.now _))), fun g => (by cases g), fun ps _ g => absurd g ht⟩
 | cons c r ih =>
  intro j acc h hj
  obtain ⟨h1, h2, h3⟩ := ldrop_cons z91 h
  have hr : rd_T91 E (j : Int) = c := h2
  by_cases hc : c.f0.length = 1
  ·obtain ⟨p, hp⟩ := List.length_eq_one_iff.1 hc
   have hcp : c = ⟨[p]⟩ := by cases c; exact congrArg _ hp
   obtain ⟨R, e1, e2, e3⟩ := ih (j + 1) (acc ++ [p]) h3 (by simp [hj])
   refine ⟨R, Ev.step (fun k => F101.l0.eq_2 ..) (Ev.pos h1 (Ev.pos (by omega) (Ev.pos h1 ?_))), fun g => ?_, fun ps hps ht hm => ?_⟩
   ·rw [hr]
    refine Ev.pos (by omega) (Ev.pos (by omega) (Ev.pos (by omega) ?_))
    rw [hp, wi_ (by omega)]
    exact e1
   ·obtain ⟨ps, g1, g2, g3, g4⟩ := e2 g
    exact ⟨p :: ps, by rw [g1, hcp]; rfl, by rw [g2]; simp, g3, by simpa using g4⟩
   ·cases ps with
    | nil => simp at hps
    | cons q ps =>
     rw [List.map_cons, List.cons.injEq] at hps
     have hq : p = q := by
      have := hps.1
      rw [hcp] at this
      simpa using this
     rw [e3 ps hps.2 ht (by simpa using hm), hq]
     simp
  ·refine ⟨([], false), Ev.step (fun k => F101.l0.eq_2 ..) (Ev.pos h1 (Ev.pos (by omega) (Ev.pos h1 ?_))), fun g => (by cases g), fun ps hps ht hm => ?_⟩
   ·rw [hr]
    exact Ev.neg (by omega) (Ev.now _)
   ·cases ps with
    | nil => simp at hps
    | cons q ps =>
     rw [List.map_cons, List.cons.injEq] at hps
     exact absurd (by rw [hps.1]; rfl) hc
theorem parts_ev (g : S49) (tag : ByteArray) (many : Int) (hE : g.f1.length ≤ 1048576) : ∃ R : List ByteArray × Bool, Ev (fun k => F101.f k g.f0 g.f1 tag many) R ∧ (R.2 = true → g = plainS tag R.1 ∧ (R.1.length : Int) = many) ∧ (∀ ps, g = plainS tag ps → (ps.length : Int) = many → R = (ps, true)) := by
 obtain ⟨R, e1, e2, e3⟩ := parts_loop g.f0 g.f1 tag many hE g.f1 0 [] rfl rfl
 refine ⟨R, e1, fun h => ?_, fun ps h hm => ?_⟩
 ·obtain ⟨ps, g1, g2, g3, g4⟩ := e2 h
  rw [List.nil_append] at g2 g4
  rw [g2]
  refine ⟨?_, g4⟩
  cases g
  simp only at g1 g3
  rw [g1, g3]; rfl
 ·have := e3 ps (by rw [h]; rfl) (by rw [h]; rfl) (by simpa using hm)
  simpa using this
def partOf (g : S49) (i : Nat) : ByteArray := ((g.f1.getD i z91).f0).getD 0 ByteArray.empty
theorem partOf_ev (g : S49) (i : Nat) (h : g.f1.length ≤ 1048576) : F84.f g.f0 g.f1 (i : Int) 0 = some (if i < g.f1.length ∧ 0 < (g.f1.getD i z91).f0.length then partOf g i else ⟨#[]⟩) := by
 have ra : rd_T91 g.f1 (i : Int) = g.f1.getD i z91 := by unfold rd_T91; rw [Int.toNat_natCast]
 unfold F84.f
 rw [if_neg (by omega)]
 by_cases h1 : i < g.f1.length
 ·rw [if_neg (by omega), if_neg (by omega), if_pos (by omega), if_pos (by omega), ra]
  by_cases h2 : 0 < (g.f1.getD i z91).f0.length
  ·rw [if_neg (by omega), if_pos (by omega), if_pos (by omega), if_pos ⟨h1, h2⟩]
   rfl
  ·rw [if_pos (by omega), if_neg (fun e => h2 e.2)]
 ·rw [if_pos (by omega), if_neg (fun e => h1 e.1)]
theorem plain_loop (tag : ByteArray) (ps : List ByteArray) : ∀ (r : List ByteArray) (j : Nat) (acc : List S91), ps.drop j = r → acc.length + r.length ≤ 1000 → j + r.length ≤ 1000 → Ev (fun k => F60.l0 k ps (ps.length : Int) (j : Int) tag acc) (tag, acc ++ r.map fun p => (⟨[p]⟩ : S91)) := by
 intro r
 induction r with
 | nil =>
  intro j acc h _ _
  have h0 := ldrop_nil h
  exact Ev.step (fun k => F60.l0.eq_2 ..) (Ev.neg (by omega) (Ev.ret (by simp)))
 | cons c r ih =>
  intro j acc h hb hj
  obtain ⟨h1, h2, h3⟩ := ldrop_cons ByteArray.empty h
  have hr : rdOf ByteArray.empty ps (j : Int) = c := h2
  simp only [List.length_cons] at hb hj
  refine Ev.step (fun k => F60.l0.eq_2 ..) (Ev.pos h1 (Ev.pos (by omega) (Ev.pos h1 (Ev.pos (by omega) ?_))))
  rw [hr, wi_ (by omega)]
  exact (ih (j + 1) _ h3 (by rw [List.length_append]; simp only [List.length_cons, List.length_nil]; omega) (by omega)).to (by simp)
theorem plain_ev (tag : ByteArray) (ps : List ByteArray) (h : ps.length ≤ 1000) : Ev (fun k => F60.f k tag ps) ((plainS tag ps).f0, (plainS tag ps).f1) :=
 (plain_loop tag ps ps 0 [] rfl (by simpa using h) (by omega)).to rfl
theorem copySeg_loop (tag : ByteArray) (L : List S91) (tg : ByteArray) (hE : ∀ e ∈ L, e.f0.length ≤ 1048576) (hl : L.length ≤ 1048576) : ∀ (r : List S91) (j : Nat) (acc : List S91), L.drop j = r → acc.length = j → Ev (fun k => F27.l0 k (j : Int) tg L tag acc) (tag, acc ++ r) := by
 intro r
 induction r with
 | nil =>
  intro j acc h _
  have h0 := ldrop_nil h
  exact Ev.step (fun k => F27.l0.eq_2 ..) (Ev.neg (by omega) (Ev.ret (by simp)))
 | cons c r ih =>
  intro j acc h hj
  obtain ⟨h1, h2, h3⟩ := ldrop_cons z91 h
  have hr : rd_T91 L (j : Int) = c := h2
  have hm := hE c (List.mem_of_mem_drop (by rw [h]; exact List.mem_cons_self))
  refine Ev.step (fun k => F27.l0.eq_2 ..) (Ev.pos h1 (Ev.bindc rfl (Ev.pos (by omega) ?_)))
  rw [hr, wi_ (by omega)]
  refine Ev.pos (by simp only [List.length_nil]; omega) (Ev.pos (by omega) ?_)
  exact (ih (j + 1) _ h3 (by rw [List.length_append]; simp only [List.length_cons, List.length_nil]; omega)).to (by simp)
theorem copySeg_ev (s : S49) (hl : s.f1.length ≤ 1048576) (hE : ∀ e ∈ s.f1, e.f0.length ≤ 1048576) : Ev (fun k => F27.f k s.f0 s.f1) (s.f0, s.f1) :=
 (copySeg_loop s.f0 s.f1 s.f0 hE hl s.f1 0 [] rfl rfl).to rfl
theorem ownSeg_loop (tag : ByteArray) (L : List S91) (hE : ∀ e ∈ L, e.f0.length ≤ 1048576) (hl : L.length ≤ 1048576) : ∀ (r : List S91) (j : Nat) (acc : List S91), L.drop j = r → acc.length = j → Ev (fun k => F82.l0 k L (L.length : Int) (j : Int) tag acc) (tag, acc ++ r) := by
 intro r
 induction r with
 | nil =>
  intro j acc h _
  have h0 := ldrop_nil h
  exact Ev.step (fun k => F82.l0.eq_2 ..) (Ev.neg (by omega) (Ev.ret (by simp)))
 | cons c r ih =>
  intro j acc h hj
  obtain ⟨h1, h2, h3⟩ := ldrop_cons z91 h
  have hr : rd_T91 L (j : Int) = c := h2
  have hm := hE c (List.mem_of_mem_drop (by rw [h]; exact List.mem_cons_self))
  refine Ev.step (fun k => F82.l0.eq_2 ..) (Ev.pos h1 (Ev.pos (by omega) (Ev.pos h1 ?_)))
  rw [hr, wi_ (by omega)]
  refine Ev.bindc (a := c.f0) (by unfold F108.f; rw [if_pos (by omega)]) (Ev.pos (by omega) ?_)
  exact (ih (j + 1) _ h3 (by rw [List.length_append]; simp only [List.length_cons, List.length_nil]; omega)).to (by simp)
theorem ownSeg_ev (s : S49) (hl : s.f1.length ≤ 1048576) (hE : ∀ e ∈ s.f1, e.f0.length ≤ 1048576) : Ev (fun k => F82.f k s.f0 s.f1) (s.f0, s.f1) :=
 (ownSeg_loop s.f0 s.f1 hE hl s.f1 0 [] rfl rfl).to rfl
def cpS (s : S49) : Prop := s.f1.length ≤ 1048576 ∧ ∀ e ∈ s.f1, e.f0.length ≤ 1048576
theorem ownSegs_loop (G : List S49) (hG : ∀ s ∈ G, cpS s) (hl : G.length ≤ 1048576) : ∀ (r : List S49) (j : Nat) (acc : List S49), G.drop j = r → acc.length = j → Ev (fun k => F62.l0 k acc G (G.length : Int) (j : Int)) (acc ++ r) := by
 intro r
 induction r with
 | nil =>
  intro j acc h _
  have h0 := ldrop_nil h
  exact Ev.step (fun k => F62.l0.eq_2 ..) (Ev.neg (by omega) (Ev.ret (by simp)))
 | cons c r ih =>
  intro j acc h hj
  obtain ⟨h1, h2, h3⟩ := ldrop_cons z49 h
  have hr : rd_T49 G (j : Int) = c := h2
  have hm := hG c (List.mem_of_mem_drop (by rw [h]; exact List.mem_cons_self))
  refine Ev.step (fun k => F62.l0.eq_2 ..) (Ev.pos h1 (Ev.pos (by omega) (Ev.pos h1 ?_)))
  rw [hr, wi_ (by omega)]
  refine Ev.bind (ownSeg_ev c hm.1 hm.2) (Ev.pos (by omega) ?_)
  exact (ih (j + 1) _ h3 (by rw [List.length_append]; simp only [List.length_cons, List.length_nil]; omega)).to (by simp)
theorem ownSegs_ev (G : List S49) (hG : ∀ s ∈ G, cpS s) (hl : G.length ≤ 1048576) : Ev (fun k => F62.f k G) G :=
 (ownSegs_loop G hG hl G 0 [] rfl rfl).to rfl
abbrev tIXH : ByteArray := ⟨#[73, 88, 72]⟩
abbrev tGRH : ByteArray := ⟨#[71, 82, 72]⟩
abbrev tMSH : ByteArray := ⟨#[77, 83, 72]⟩
abbrev tMST : ByteArray := ⟨#[77, 83, 84]⟩
abbrev tGRT : ByteArray := ⟨#[71, 82, 84]⟩
abbrev tIXT : ByteArray := ⟨#[73, 88, 84]⟩
def segsM (m : S56) : List S49 := plainS tMSH [decS m.f0] :: (m.f1 ++ [plainS tMST [decS (m.f1.length : Int), decS m.f0]])
def segsB (b : S53) : List S49 := plainS tGRH [decS b.f0, decS b.f1] :: (b.f2.flatMap segsM ++ [plainS tGRT [decS (b.f2.length : Int), decS b.f1]])
def segsX (A B : ByteArray) (n : Int) (L : List S53) : List S49 := plainS tIXH [A, B, decS n] :: (L.flatMap segsB ++ [plainS tIXT [decS (L.length : Int), decS n]])
def okM (m : S56) : Prop := (0 ≤ m.f0 ∧ m.f0 ≤ 999999) ∧ m.f1.length ≤ 40 ∧ ∀ s ∈ m.f1, cpS s
def okB (b : S53) : Prop := (1 ≤ b.f0 ∧ b.f0 ≤ 7) ∧ (0 ≤ b.f1 ∧ b.f1 ≤ 999999) ∧ b.f2.length ≤ 10 ∧ ∀ m ∈ b.f2, okM m
theorem flat_le {α β : Type} (f : α → List β) (c : Nat) (l : List α) (h : ∀ x ∈ l, (f x).length ≤ c) : (l.flatMap f).length ≤ c * l.length := by
 induction l with
 | nil => simp
 | cons x l ih =>
  have h1 := h x List.mem_cons_self
  have h2 := ih fun y hy => h y (List.mem_cons_of_mem _ hy)
  rw [List.flatMap_cons, List.length_append, List.length_cons, Nat.mul_succ]
  omega
theorem segsM_len {m : S56} (h : okM m) : (segsM m).length ≤ 42 := by
 have := h.2.1
 unfold segsM
 simp only [List.length_cons, List.length_append, List.length_nil]
 omega
theorem ixB_ok {A B : ByteArray} {n : Int} {L : List S53} (h : ixB A B n L = true) (hb : ∀ b ∈ L, bBn b) : (1 ≤ n ∧ n ≤ 999999) ∧ (1 ≤ L.length ∧ L.length ≤ 5) ∧ ∀ b ∈ L, okB b := by
 simp only [ixB, Bool.and_eq_true, ctlB, decide_eq_true_eq, List.all_eq_true, bunB, msgB] at h
 refine ⟨h.2.2.1, h.2.2.2.1, fun b hB => ?_⟩
 have h1 := h.2.2.2.2 b hB
 refine ⟨h1.1, by have := h1.2.1; omega, by have := h1.2.2.1; omega, fun m hm => ?_⟩
 have h2 := h1.2.2.2 m hm
 exact ⟨by have := h2.1; omega, h2.2.1, fun s hs => ⟨(((hb b hB).2 m hm).2 s hs).1, fun e he => ((((hb b hB).2 m hm).2 s hs).2 e he).1⟩⟩
theorem ix1s_loop (x21 : Int) (A B : ByteArray) (n : Int) (L : List S53) (kd ct : Int) (M : List S56) (hM : ∀ m ∈ M, okM m) (hl : M.length ≤ 10) (hc : 0 ≤ ct ∧ ct ≤ 999999) {R : List S49} : ∀ (r : List S56) (j : Nat) (acc : List S49), M.drop j = r → acc.length + 42 * r.length ≤ 900000 →
  Ev (fun k => F30.l0 k (acc ++ r.flatMap segsM ++ [plainS tGRT [decS (M.length : Int), decS ct]]) L (L.length : Int) (wrap64 (x21 + 1)) A B n L) R → Ev (fun k => F30.l1 k acc L (L.length : Int) x21 M (M.length : Int) (j : Int) A B n L kd ct M) R := by
 intro r
 induction r with
 | nil =>
  intro j acc h hb hR
  have h0 := ldrop_nil h
  simp only [List.length_nil, List.flatMap_nil, List.append_nil] at hb hR
  exact Ev.step (fun k => F30.l1.eq_2 ..) (Ev.neg (by omega) (Ev.bindc (decimal_eq _ (by omega) (by omega)) (Ev.bindc (decimal_eq _ (by omega) (by omega)) (Ev.bind (plain_ev tGRT [decS (M.length : Int), decS ct] (by simp)) (Ev.pos (by omega) hR)))))
 | cons c r ih =>
  intro j acc h hb hR
  obtain ⟨h1, h2, h3⟩ := ldrop_cons z56 h
  have hr : rd_T56 M (j : Int) = c := h2
  have hm := hM c (List.mem_of_mem_drop (by rw [h]; exact List.mem_cons_self))
  simp only [List.length_cons] at hb
  have hl2 := hm.2.1
  have hq := hm.1
  refine Ev.step (fun k => F30.l1.eq_2 ..) (Ev.pos h1 (Ev.pos (by omega) (Ev.pos h1 ?_)))
  rw [hr]
  refine Ev.bindc (decimal_eq c.f0 (by omega) (by omega)) (Ev.bind (plain_ev tMSH [decS c.f0] (by simp)) (Ev.pos (by omega) (Ev.bindc rfl (Ev.bind (ownSegs_ev c.f1 hm.2.2 (by omega)) (Ev.pos (by simp only [List.length_append, List.length_cons, List.length_nil]; omega) (Ev.bindc rfl ?_))))))
  refine Ev.bindc (decimal_eq (c.f1.length : Int) (by omega) (by omega)) (Ev.bindc (decimal_eq c.f0 (by omega) (by omega)) (Ev.bind (plain_ev tMST [decS (c.f1.length : Int), decS c.f0] (by simp)) (Ev.pos (by simp only [List.length_append, List.length_cons, List.length_nil]; omega) ?_)))
  rw [wi_ (by omega)]
  refine ih (j + 1) _ h3 (by simp only [List.length_append, List.length_cons, List.length_nil]; omega) ?_
  refine cast (congrArg (fun z => Ev (fun k => F30.l0 k z L (L.length : Int) (wrap64 (x21 + 1)) A B n L) R) ?_) hR
  simp [segsM, plainS]
theorem ix0s_loop (A B : ByteArray) (n : Int) (L : List S53) (hL : ∀ b ∈ L, okB b) (hl : L.length ≤ 5) (hn : 0 ≤ n ∧ n ≤ 999999) : ∀ (r : List S53) (j : Nat) (acc : List S49), L.drop j = r → acc.length + 1000 * r.length ≤ 800000 →
  Ev (fun k => F30.l0 k acc L (L.length : Int) (j : Int) A B n L) (acc ++ r.flatMap segsB ++ [plainS tIXT [decS (L.length : Int), decS n]]) := by
 intro r
 induction r with
 | nil =>
  intro j acc h hb
  have h0 := ldrop_nil h
  simp only [List.length_nil] at hb
  exact Ev.step (fun k => F30.l0.eq_2 ..) (Ev.neg (by omega) (Ev.bindc (decimal_eq _ (by omega) (by omega)) (Ev.bindc (decimal_eq _ (by omega) (by omega)) (Ev.bind (plain_ev tIXT [decS (L.length : Int), decS n] (by simp)) (Ev.pos (by omega) (Ev.ret (by simp [plainS])))))))
 | cons c r ih =>
  intro j acc h hb
  obtain ⟨h1, h2, h3⟩ := ldrop_cons z53 h
  have hr : rd_T53 L (j : Int) = c := h2
  have hm := hL c (List.mem_of_mem_drop (by rw [h]; exact List.mem_cons_self))
  simp only [List.length_cons] at hb
  have hk := hm.1
  have hq := hm.2.1
  refine Ev.step (fun k => F30.l0.eq_2 ..) (Ev.pos h1 (Ev.pos (by omega) (Ev.pos h1 ?_)))
  rw [hr]
  refine Ev.bindc (decimal_eq c.f0 (by omega) (by omega)) (Ev.bindc (decimal_eq c.f1 (by omega) (by omega)) (Ev.bind (plain_ev tGRH [decS c.f0, decS c.f1] (by simp)) (Ev.pos (by omega) ?_)))
  have h4 := hm.2.2.1
  have h5 := flat_le segsM 42 c.f2 fun m hm' => segsM_len (hm.2.2.2 m hm')
  refine ix1s_loop (j : Int) A B n L c.f0 c.f1 c.f2 hm.2.2.2 h4 hm.2.1 c.f2 0 _ rfl (by rw [List.length_append]; simp only [List.length_cons, List.length_nil]; omega) ?_
  rw [wi_ (by omega)]
  refine (ih (j + 1) _ h3 (by simp only [List.length_append, List.length_cons, List.length_nil]; omega)).to ?_
  simp [segsB, plainS]
theorem implSegs_ev (A B : ByteArray) (n : Int) (L : List S53) (hA : (A.size : Int) ≤ 9223372036854775807) (hB : (B.size : Int) ≤ 9223372036854775807) (hl : L.length ≤ 1048576) (hL : ∀ b ∈ L, bBn b) : Ev (fun k => F8.f k A B n L) (if ixB A B n L = true then segsX A B n L else []) := by
 unfold F8.f
 refine Ev.bind (implIx_ev A B n L hA hB hl hL) (Ev.ite (fun g => ?_) (fun g => Ev.ret (by rw [if_neg g])))
 obtain ⟨h1, h2, h3⟩ := ixB_ok g hL
 rw [if_pos g]
 unfold F30.f
 refine Ev.bind (Ev.bindc (decimal_eq n (by omega) (by omega)) (Ev.bind (plain_ev tIXH [A, B, decS n] (by simp)) ?_)) (Ev.now _)
 refine (ix0s_loop A B n L h3 h2.2 (by omega) L 0 _ rfl (by simp only [List.length_append, List.length_cons, List.length_nil]; omega)).to ?_
 simp [segsX, plainS]
def isHead (g : S49) (A B : ByteArray) (m : Nat) : Prop := g = plainS ⟨#[73, 88, 72]⟩ [A, B, decS (m : Int)] ∧ nameP (bytesOf A) = true ∧ nameP (bytesOf B) = true ∧ 1 ≤ m ∧ m ≤ 999999
abbrev IxO := ByteArray × ByteArray × Int × (List (S53)) × Bool × Int × Int
def badO (c : Int) : IxO := (⟨#[]⟩, ⟨#[]⟩, 0, [], false, 0, c)
def goodO (A B : ByteArray) (m : Nat) : IxO := (A, B, (m : Int), [], true, 0, 0)
def pOf (g : S49) (i : Nat) : ByteArray := if i < g.f1.length ∧ 0 < (g.f1.getD i z91).f0.length then partOf g i else ⟨#[]⟩
theorem pOf_size (g : S49) (i : Nat) (hg : bSg g) : (pOf g i).size ≤ 1048576 := by
 unfold pOf
 by_cases h : i < g.f1.length ∧ 0 < (g.f1.getD i z91).f0.length
 ·rw [if_pos h]
  exact (hg.2 _ (getD_mem _ h.1)).2 _ (getD_mem _ h.2)
 ·rw [if_neg h]
  show 0 ≤ 1048576
  omega
theorem specHead_ev (g : S49) (hg : bSg g) : ∃ p : Int × Bool, ∃ n1 n2 : Bool,
  Ev (fun k => F83.f k (pOf g 2)) p ∧ Ev (fun k => F39.f k (pOf g 0)) n1 ∧ Ev (fun k => F39.f k (pOf g 1)) n2 ∧ -1000000000000 < p.1 ∧ p.1 < 1000000000000 ∧ n1 = nameP (bytesOf (pOf g 0)) ∧ n2 = nameP (bytesOf (pOf g 1)) ∧ (∀ m : Nat, m < 1000000000000 → pOf g 2 = decS (m : Int) → p = ((m : Int), true)) := by
 obtain ⟨p, e1, e2, e3, e4, e5, _⟩ := l01Num_ev (pOf g 2) (pOf_size g 2 hg)
 have s0 := pOf_size g 0 hg
 have s1 := pOf_size g 1 hg
 exact ⟨p, _, _, e1, l01Name_ev _ (by omega), l01Name_ev _ (by omega), e4, e5, rfl, rfl, e2⟩
theorem head_parts {g : S49} {A B : ByteArray} {m : Nat} (h : isHead g A B m) : pOf g 0 = A ∧ pOf g 1 = B ∧ pOf g 2 = decS (m : Int) := by
 obtain ⟨rfl, _⟩ := h
 exact ⟨rfl, rfl, rfl⟩
theorem l03Head_ev (A B : ByteArray) (v : Int) (h0 : -1000000000000 < v) (h1 : v < 1000000000000) : Ev (fun k => F23.f k A B v []) ((plainS ⟨#[73, 88, 72]⟩ [A, B, decS v]).f0, (plainS ⟨#[73, 88, 72]⟩ [A, B, decS v]).f1) := by
 unfold F23.f
 exact Ev.bind (l01Dec_ev v (by omega) (by omega)) (Ev.bind (l03Seg_ev ⟨#[73, 88, 72]⟩ [A, B, decS v] (by simp)) (Ev.now _))
theorem control_eq (v : Int) : F40.f v = some (decide (1 ≤ v ∧ v ≤ 999999)) := by
 unfold F40.f
 by_cases h : v ≥ 1
 ·rw [if_pos h]
  congr 1
  rw [decide_eq_decide]
  omega
 ·rw [if_neg h, decide_eq_false (by omega)]
theorem implHead_ev (g : S49) (hg : bSg g) : ∃ r : ByteArray × ByteArray × Int × (List (S53)) × Bool, Ev (fun k => F76.f k g.f0 g.f1) r ∧ (r.2.2.2.2 = true → ∃ A B m, isHead g A B m) ∧ (∀ A B m, isHead g A B m → r = (A, B, (m : Int), [], true)) := by
 unfold F76.f
 obtain ⟨R, e1, e2, e3⟩ := parts_ev g ⟨#[73, 88, 72]⟩ 3 hg.1
 have bad : ∀ X, Ev (fun k => F76.j0 k X true) (⟨#[]⟩, ⟨#[]⟩, 0, [], false) := fun X => Ev.step (fun k => F76.j0.eq_2 ..) (Ev.pos rfl (Ev.now _))
 by_cases hR : R.2 = true
 ·obtain ⟨hgs, hlen⟩ := e2 hR
  obtain ⟨ps, b⟩ := R
  dsimp only at hR hgs hlen
  subst hR
  match ps, (by omega : ps.length = 3) with
  | [A, B, C], _ =>
   have hsz : A.size ≤ 1048576 ∧ B.size ≤ 1048576 ∧ C.size ≤ 1048576 := by
    have h := hg.2
    rw [hgs] at h
    refine ⟨(h ⟨[A]⟩ ?_).2 A ?_, (h ⟨[B]⟩ ?_).2 B ?_, (h ⟨[C]⟩ ?_).2 C ?_⟩ <;> simp [plainS]
   have hi : ∀ A' B' m, isHead g A' B' m → A = A' ∧ B = B' ∧ C = decS (m : Int) := fun A' B' m h => by
    have h1 := h.1
    rw [hgs] at h1
    simpa only [plainS, List.map_cons, List.map_nil, S49.mk.injEq, List.cons.injEq, S91.mk.injEq, and_true, true_and] using h1
   have nA : Ev (fun k => F54.f k (rdOf ByteArray.empty [A, B, C] 0)) _ := isName_ev A (by omega)
   have nB : Ev (fun k => F54.f k (rdOf ByteArray.empty [A, B, C] 1)) _ := isName_ev B (by omega)
   obtain ⟨q, f1, f2, f3⟩ := numberIn_ev C hsz.2.2 1 999999 (by omega) (by omega)
   have f1 : Ev (fun k => F102.f k (rdOf ByteArray.empty [A, B, C] 2) 1 999999) q := f1
   by_cases gA : nameP (bytesOf A) = true
   ·by_cases gB : nameP (bytesOf B) = true
    ·rw [gB] at nB
     refine ⟨(A, B, q.1, [], q.2), Ev.bind e1 (Ev.pos rfl (Ev.pos (by simp) (Ev.bind nA (Ev.pos gA (Ev.pos (by simp) (Ev.bind nB (Ev.step (fun k => F76.j0.eq_2 ..) (Ev.neg (by simp) (Ev.pos (by simp) (Ev.bind f1 (Ev.pos (by simp) (Ev.pos (by simp) (Ev.now _))))))))))))), fun h => ?_, fun A' B' m h => ?_⟩
     ·obtain ⟨m, h1, h2, h3, h4⟩ := f3 h
      exact ⟨A, B, m, by rw [hgs, h1], gA, gB, by omega, by omega⟩
     ·obtain ⟨rfl, rfl, h6⟩ := hi _ _ _ h
      have h3 := h.2.2.2
      rw [f2 m h6 (by omega) (by omega)]
    ·refine ⟨_, Ev.bind e1 (Ev.pos rfl (Ev.pos (by simp) (Ev.bind nA (Ev.pos gA (Ev.pos (by simp) (Ev.bind nB (by rw [Bool.not_eq_true] at gB; rw [gB]; exact bad _))))))), fun h => (by cases h), fun A' B' m h => ?_⟩
     obtain ⟨rfl, rfl, h6⟩ := hi _ _ _ h
     exact absurd h.2.2.1 gB
   ·refine ⟨_, Ev.bind e1 (Ev.pos rfl (Ev.pos (by simp) (Ev.bind nA (Ev.neg gA (bad _))))), fun h => (by cases h), fun A' B' m h => ?_⟩
    obtain ⟨rfl, rfl, h6⟩ := hi _ _ _ h
    exact absurd h.2.1 gA
 ·refine ⟨_, Ev.bind e1 (Ev.neg hR (bad _)), fun h => (by cases h), fun A B m h => ?_⟩
  have := e3 [A, B, decS (m : Int)] h.1 (by simp)
  rw [this] at hR
  exact absurd rfl hR
theorem heads_ev (L : List S49) (hL : L.length ≤ 1048576) (hb : ∀ g ∈ L, bSg g) : ∃ R : IxO, Ev (fun k => F46.f k L) R ∧ Ev (fun k => F43.f k L) R ∧ R.2.2.2.1 = [] ∧ (R.2.2.2.2.2.2 = 0 → L.length ≤ 400 ∧ ∃ A B, ∃ m : Nat, ∃ r, L = plainS ⟨#[73, 88, 72]⟩ [A, B, decS (m : Int)] :: r ∧ isHead (plainS ⟨#[73, 88, 72]⟩ [A, B, decS (m : Int)]) A B m ∧ R = goodO A B m) := by
 unfold F46.f F43.f
 by_cases h1 : (L.length : Int) > 400
 ·exact ⟨badO 2, Ev.pos h1 (Ev.now _), Ev.bindc rfl (Ev.pos (decide_eq_true h1) (Ev.now _)), rfl, fun h => absurd h (show ¬ (2 : Int) = 0 by omega)⟩
 by_cases h2 : (L.length : Int) = 0
 ·exact ⟨badO 6, Ev.neg h1 (Ev.pos h2 (Ev.now _)), Ev.bindc rfl (Ev.neg (by simpa using h1) (Ev.pos h2 (Ev.now _))), rfl, fun h => absurd h (show ¬ (6 : Int) = 0 by omega)⟩
 have h3 : 0 < (L.length : Int) := by omega
 have hr : rd_T49 L 0 = L.getD 0 z49 := rfl
 have hL0 : ∃ r, L = L.getD 0 z49 :: r := by
  cases L with
  | nil => simp at h3
  | cons x r => exact ⟨r, rfl⟩
 have hg : bSg (L.getD 0 z49) := hb _ (getD_mem _ (by omega))
 generalize L.getD 0 z49 = g at hr hg hL0
 obtain ⟨p, n1, n2, s1, s2, s3, s4, s5, s6, s7, s8⟩ := specHead_ev g hg
 obtain ⟨r, i1, i2, i3⟩ := implHead_ev g hg
 have pp : ∀ i : Nat, F84.f g.f0 g.f1 (i : Int) 0 = some (pOf g i) := fun i => partOf_ev g i hg.1
 by_cases hh : ∃ A B m, isHead g A B m
 ·obtain ⟨A, B, m, hh⟩ := hh
  obtain ⟨p0, p1, p2⟩ := head_parts hh
  have hm := hh.2.2.2
  have hp := s8 m (by omega) p2
  rw [p0] at s2 s6
  rw [p1] at s3 s7
  rw [hh.2.1] at s6
  rw [hh.2.2.1] at s7
  subst s6 s7
  refine ⟨goodO A B m, Ev.neg h1 (Ev.neg h2 (Ev.pos h3 ?_)), Ev.bindc rfl (Ev.neg (by simpa using h1) (Ev.neg h2 (Ev.pos h3 ?_))), rfl, fun _ => ?_⟩
  ·rw [hr]
   refine Ev.bindc (pp 2) (Ev.bind s1 (Ev.bindc ((pp 0).trans (by rw [p0])) (Ev.bindc ((pp 1).trans (by rw [p1])) (Ev.bind s2 (Ev.pos rfl (Ev.bind s3 (Ev.pos rfl (Ev.bindc (control_eq _) (Ev.pos ?_ ?_)))))))))
   ·rw [hp]; exact decide_eq_true (by constructor <;> simp <;> omega)
   ·obtain ⟨R, f1, f2⟩ := sameSeg_ev g (plainS ⟨#[73, 88, 72]⟩ [A, B, decS (m : Int)]) hg.1 (fun e he => (hg.2 e he).1)
    have hR := f2.2 hh.1
    subst hR
    rw [hp]
    exact Ev.bind (l03Head_ev A B (m : Int) (by omega) (by omega)) (Ev.bind f1 (Ev.step (fun k => F46.j0.eq_2 ..) (Ev.neg (by simp) (Ev.now _))))
  ·rw [hr]
   have hi := i3 A B m hh
   subst hi
   exact Ev.bind i1 (Ev.pos rfl (Ev.now _))
  ·obtain ⟨r, hL0⟩ := hL0
   have e := hh.1
   subst e
   exact ⟨by omega, A, B, m, r, hL0, hh, rfl⟩
 ·have bad : ∀ X Y Z, Ev (fun k => F46.j0 k true X Y Z) (badO 3) := fun X Y Z => Ev.step (fun k => F46.j0.eq_2 ..) (Ev.pos rfl (Ev.now _))
  have hrf : ¬ r.2.2.2.2 = true := fun h => hh (i2 h)
  refine ⟨badO 3, Ev.neg h1 (Ev.neg h2 (Ev.pos h3 ?_)), Ev.bindc rfl (Ev.neg (by simpa using h1) (Ev.neg h2 (Ev.pos h3 ?_))), rfl, fun h => absurd h (show ¬ (3 : Int) = 0 by omega)⟩
  ·rw [hr]
   refine Ev.bindc (pp 2) (Ev.bind s1 (Ev.bindc (pp 0) (Ev.bindc (pp 1) (Ev.bind s2 (Ev.ite (fun g1 => ?_) (fun _ => bad _ _ _))))))
   refine Ev.bind s3 (Ev.ite (fun g2 => ?_) (fun _ => bad _ _ _))
   refine Ev.bindc (control_eq _) (Ev.ite (fun g3 => ?_) (fun _ => bad _ _ _))
   obtain ⟨R, f1, f2⟩ := sameSeg_ev g (plainS ⟨#[73, 88, 72]⟩ [pOf g 0, pOf g 1, decS p.1]) hg.1 (fun e he => (hg.2 e he).1)
   by_cases g4 : R = true
   rotate_left
   ·rw [Bool.not_eq_true] at g4
    subst g4
    exact Ev.bind (l03Head_ev _ _ p.1 s4 s5) (Ev.bind f1 (bad _ _ _))
   exfalso
   have g3 := of_decide_eq_true g3
   refine hh ⟨pOf g 0, pOf g 1, p.1.toNat, ?_, s6 ▸ g1, s7 ▸ g2, by omega, by omega⟩
   rw [Int.toNat_of_nonneg (by omega)]
   exact f2.1 g4
  ·rw [hr]
   exact Ev.bind i1 (Ev.neg hrf (Ev.now _))
theorem source_loop2 (L : List Int) (hl : L.length ≤ 1048576) : ∀ (d i : Nat) (mix : Int), 64 - i = d → i ≤ 64 → ∃ mix' size', Ev (fun k => F37.l0 k L (i : Int) L 0 mix 0) (L, 0, mix', size') ∧ 0 ≤ size' ∧ size' ≤ 12 := by
 have w0 : wrap64 ((L.length : Int) / 20) = (L.length : Int) / 20 := wrap_id (by omega) (by omega)
 intro d
 induction d with
 | zero =>
  intro i mix hd hi
  by_cases h : (i : Int) < (L.length : Int)
  ·by_cases g : wrap64 ((L.length : Int) / 20) > 12
   ·exact ⟨_, _, Ev.step (fun k => F37.l0.eq_2 ..) (Ev.pos h (Ev.neg (by omega) (Ev.pos g (Ev.now _)))), by omega, by omega⟩
   ·exact ⟨_, _, Ev.step (fun k => F37.l0.eq_2 ..) (Ev.pos h (Ev.neg (by omega) (Ev.neg g (Ev.now _)))), by omega, by omega⟩
  ·by_cases g : wrap64 ((L.length : Int) / 20) > 12
   ·exact ⟨_, _, Ev.step (fun k => F37.l0.eq_2 ..) (Ev.neg h (Ev.pos g (Ev.now _))), by omega, by omega⟩
   ·exact ⟨_, _, Ev.step (fun k => F37.l0.eq_2 ..) (Ev.neg h (Ev.neg g (Ev.now _))), by omega, by omega⟩
 | succ d ih =>
  intro i mix hd hi
  by_cases h : (i : Int) < (L.length : Int)
  ·have hw : wrap64 ((i : Int) + 1) = ((i + 1 : Nat) : Int) := by rw [wrap_id (by omega) (by omega)]; omega
   obtain ⟨m', s', e, b⟩ := ih (i + 1) (IntKind.u64.wrap ((Go.bits .xor .u64 mix (IntKind.u64.wrap (rd L (i : Int)))) * 1099511628211)) (by omega) (by omega)
   rw [← hw] at e
   exact ⟨m', s', Ev.step (fun k => F37.l0.eq_2 ..) (Ev.pos h (Ev.pos (by omega) (Ev.pos (by omega) e))), b⟩
  ·by_cases g : wrap64 ((L.length : Int) / 20) > 12
   ·exact ⟨_, _, Ev.step (fun k => F37.l0.eq_2 ..) (Ev.neg h (Ev.pos g (Ev.now _))), by omega, by omega⟩
   ·exact ⟨_, _, Ev.step (fun k => F37.l0.eq_2 ..) (Ev.neg h (Ev.neg g (Ev.now _))), by omega, by omega⟩
theorem source_ev2 (L : List Int) (hl : L.length ≤ 1048576) : ∃ mix size, Ev (fun k => F37.f k L) (L, 0, mix, size) ∧ 0 ≤ size ∧ size ≤ 12 :=
 source_loop2 L hl 64 0 _ rfl (by omega)
abbrev Bu := S53
abbrev Sg := S49
abbrev Ms := S56
theorem decS_size (m : Nat) (h : m < 1000000000000) : (decS (m : Int)).size ≤ 12 := by
 rw [← length_bytesOf, bytes_decS]
 exact dgt_len 12 m (by omega) h
def numB (s : ByteArray) : Bool := isNumB (bytesOf s) (digs (bytesOf s))
theorem tail_ev (g : Sg) (hg : bSg g) (tag : ByteArray) (many number : Nat) (hm : many ≤ 1000000) (hn : number ≤ 1000000) : ∃ c : Int, Ev (fun k => F80.f k g.f0 g.f1 tag (many : Int) (number : Int)) c ∧ ((c = 3 ∧ ∀ a b, g = plainS tag [a, b] → ¬ (numB a = true ∧ numB b = true)) ∨ ∃ a b, g = plainS tag [a, b] ∧ numB a = true ∧ numB b = true ∧ c = if a = decS (many : Int) ∧ b = decS (number : Int) then 0 else 5) := by
 unfold F80.f
 obtain ⟨R, e1, e2, e3⟩ := parts_ev g tag 2 hg.1
 have h3 : Ev (fun k => F80.j0 k (many : Int) (number : Int) R.1 true) 3 := Ev.step (fun k => F80.j0.eq_2 ..) (Ev.pos rfl (Ev.now _))
 by_cases hR : R.2 = true
 ·obtain ⟨h1, h2⟩ := e2 hR
  obtain ⟨ps, b⟩ := R
  dsimp only at hR h1 h2 h3
  subst hR
  match ps, (by omega : ps.length = 2) with
  | [X, Y], _ =>
   have hsz : X.size ≤ 1048576 ∧ Y.size ≤ 1048576 := by
    have g' := hg.2
    rw [h1] at g'
    exact ⟨(g' ⟨[X]⟩ (by simp [plainS])).2 X (by simp), (g' ⟨[Y]⟩ (by simp [plainS])).2 Y (by simp)⟩
   have hi : ∀ a b, g = plainS tag [a, b] → a = X ∧ b = Y := fun a b h => by
    rw [h1] at h
    simp only [plainS, List.map_cons, List.map_nil, S49.mk.injEq, List.cons.injEq, S91.mk.injEq, and_true, true_and] at h
    exact ⟨h.1.symm, h.2.symm⟩
   have nX : Ev (fun k => F104.f k (rdOf ByteArray.empty [X, Y] 0)) (numB X) := isNumber_ev X hsz.1
   have nY : Ev (fun k => F104.f k (rdOf ByteArray.empty [X, Y] 1)) (numB Y) := isNumber_ev Y hsz.2
   by_cases gX : numB X = true
   ·by_cases gY : numB Y = true
    ·refine ⟨_, Ev.bind e1 (Ev.pos rfl (Ev.pos (by simp) (Ev.bind nX (Ev.pos gX (Ev.pos (by simp) (Ev.bind nY (Ev.step (fun k => F80.j0.eq_2 ..) (Ev.neg (by simp [gY]) (Ev.pos (by simp) (Ev.bindc (decimal_eq _ (by omega) (by omega)) ?_)))))))))), .inr ⟨X, Y, h1, gX, gY, rfl⟩⟩
     have f5 : Ev (fun k => F80.j1 k true) 5 := Ev.step (fun k => F80.j1.eq_2 ..) (Ev.pos rfl (Ev.now _))
     refine Ev.ite (fun a => ?_) (fun a => f5.to ?_)
     ·have a' : X = decS (many : Int) := toList_inj.1 a
      refine Ev.pos (by simp) (Ev.bindc (decimal_eq _ (by omega) (by omega)) ?_)
      by_cases c : Y = decS (number : Int)
      ·have c' : ((rdOf ByteArray.empty [X, Y] 1).toList != (decS (number : Int)).toList) = false := by rw [← c]; exact bne_self_eq_false _
       rw [c', if_pos ⟨a', c⟩]
       exact Ev.step (fun k => F80.j1.eq_2 ..) (Ev.neg (by simp) (Ev.now _))
      ·have c' : ((rdOf ByteArray.empty [X, Y] 1).toList != (decS (number : Int)).toList) = true := bne_iff_ne.2 fun h => c (toList_inj.1 h)
       rw [c', if_neg fun h => c h.2]
       exact f5
     ·rw [if_neg fun h => a (by rw [← h.1]; rfl)]
    ·exact ⟨3, Ev.bind e1 (Ev.pos rfl (Ev.pos (by simp) (Ev.bind nX (Ev.pos gX (Ev.pos (by simp) (Ev.bind nY (by rw [Bool.not_eq_true] at gY; rw [gY]; exact h3))))))), .inl ⟨rfl, fun a b h k => gY ((hi a b h).2 ▸ k.2)⟩⟩
   ·exact ⟨3, Ev.bind e1 (Ev.pos rfl (Ev.pos (by simp) (Ev.bind nX (Ev.neg gX h3)))), .inl ⟨rfl, fun a b h k => gX ((hi a b h).1 ▸ k.1)⟩⟩
 ·exact ⟨3, Ev.bind e1 (Ev.neg hR h3), .inl ⟨rfl, fun a b h => absurd (by rw [e3 [a, b] h rfl]) hR⟩⟩
theorem ixr_step {n : Int} {G r : List Sg} {i : Nat} {s : Sg} {inn inn' : Int} {L L' : List Bu} {R : Int × Int × Int × List Bu} (hd : G.drop i = s :: r) (hl : i ≤ 1000000) (ht : Ev (fun k => rd_take.f k n inn L s.f0 s.f1) (0, inn', L')) (h : Ev (fun k => rd_ixr n G k ((i + 1 : Nat) : Int) inn' L') R) : Ev (fun k => rd_ixr n G k (i : Int) inn L) R := by
 obtain ⟨h1, h2, h3⟩ := ldrop_cons z49 hd
 have hs : rd_T49 G (i : Int) = s := h2
 have hw : wrap64 ((i : Int) + 1) = ((i + 1 : Nat) : Int) := by rw [wrap_id (by omega) (by omega)]; omega
 refine Ev.step (fun k => rd_ixr.eq_2 ..) (Ev.pos h1 (Ev.pos (by omega) ?_))
 rw [hs, hw]
 exact Ev.bind ht (Ev.pos rfl h)
theorem ixr_fail {n : Int} {G r : List Sg} {i : Nat} {s : Sg} {inn inn' c : Int} {L L' : List Bu} (hd : G.drop i = s :: r) (hl : i ≤ 1000000) (hc : c ≠ 0) (ht : Ev (fun k => rd_take.f k n inn L s.f0 s.f1) (c, inn', L')) : Ev (fun k => rd_ixr n G k (i : Int) inn L) (c, ((i + 1 : Nat) : Int), inn', L') := by
 obtain ⟨h1, h2, h3⟩ := ldrop_cons z49 hd
 have hs : rd_T49 G (i : Int) = s := h2
 have hw : wrap64 ((i : Int) + 1) = ((i + 1 : Nat) : Int) := by rw [wrap_id (by omega) (by omega)]; omega
 refine Ev.step (fun k => rd_ixr.eq_2 ..) (Ev.pos h1 (Ev.pos (by omega) ?_))
 rw [hs, hw]
 exact Ev.bind ht (Ev.neg hc (Ev.now _))
theorem ixr_end {n : Int} {G : List Sg} {i : Nat} {inn : Int} {L : List Bu} (hd : G.drop i = []) : Ev (fun k => rd_ixr n G k (i : Int) inn L) (0, 0, inn, L) :=
 Ev.step (fun k => rd_ixr.eq_2 ..) (Ev.neg (by have := ldrop_nil hd; omega) (Ev.now _))
def Reads (n : Int) (S : List Sg) (inn : Int) (L : List Bu) (inn' : Int) (L' : List Bu) : Prop :=
 ∀ (G r : List Sg) (i : Nat) (R : Int × Int × Int × List Bu), G.length ≤ 100000 → G.drop i = S ++ r → Ev (fun k => rd_ixr n G k ((i + S.length : Nat) : Int) inn' L') R → Ev (fun k => rd_ixr n G k (i : Int) inn L) R
theorem Reads.nil (n inn : Int) (L : List Bu) : Reads n [] inn L inn L := fun G r i R _ _ h => h
theorem Reads.one {n inn inn' : Int} {s : Sg} {L L' : List Bu} (ht : Ev (fun k => rd_take.f k n inn L s.f0 s.f1) (0, inn', L')) : Reads n [s] inn L inn' L' := fun G r i R hl hd h =>
 ixr_step hd (by have := (ldrop_cons z49 hd).1; omega) ht h
theorem Reads.trans {n a b c : Int} {S1 S2 : List Sg} {L1 L2 L3 : List Bu} (h1 : Reads n S1 a L1 b L2) (h2 : Reads n S2 b L2 c L3) : Reads n (S1 ++ S2) a L1 c L3 := fun G r i R hl hd h => by
 rw [List.append_assoc] at hd
 refine h1 G (S2 ++ r) i R hl hd (h2 G r (i + S1.length) R hl ?_ ?_)
 ·rw [← List.drop_drop, hd, List.drop_left]
 ·rw [List.length_append] at h
  rw [Nat.add_assoc]
  exact h
theorem tl_ (l : List UInt8) : (⟨l.toArray⟩ : ByteArray).toList = l := by rw [ByteArray.toList_eq]
theorem tMST_l : tMST.toList = [77, 83, 84] := tl_ [77, 83, 84]
theorem tGRT_l : tGRT.toList = [71, 82, 84] := tl_ [71, 82, 84]
theorem tIXT_l : tIXT.toList = [73, 88, 84] := tl_ [73, 88, 84]
theorem tGRH_l : tGRH.toList = [71, 82, 72] := tl_ [71, 82, 72]
theorem tMSH_l : tMSH.toList = [77, 83, 72] := tl_ [77, 83, 72]
theorem tag_ne {a b : ByteArray} {l m : List UInt8} (ha : a.toList = l) (hb : b.toList = m) (h : l ≠ m) : a ≠ b := fun e => h (by rw [← ha, ← hb, e])
theorem numIn (m : Nat) (lo hi : Int) (h0 : 0 ≤ lo) (h1 : hi ≤ 999999) (h2 : lo ≤ (m : Int)) (h3 : (m : Int) ≤ hi) : Ev (fun k => F102.f k (decS (m : Int)) lo hi) ((m : Int), true) := by
 obtain ⟨p, e, h, _⟩ := numberIn_ev (decS (m : Int)) (by have := decS_size m (by omega); omega) lo hi h0 (by omega)
 exact e.to (h m rfl h2 h3)
theorem snoc_get {α : Type} (P : List α) (b z : α) : (P ++ [b]).getD ((P ++ [b]).length - 1) z = b := by simp
theorem snoc_set {α : Type} (P : List α) (b x : α) : (P ++ [b]).set ((P ++ [b]).length - 1) x = P ++ [x] := by simp
theorem take_grh (n : Int) (L : List Bu) (kd ct : Nat) (hL : L.length ≤ 4) (h1 : 1 ≤ kd) (h2 : kd ≤ 7) (h3 : 1 ≤ ct) (h4 : ct ≤ 999999) :
  Ev (fun k => rd_take.f k n 0 L (plainS tGRH [decS (kd : Int), decS (ct : Int)]).f0 (plainS tGRH [decS (kd : Int), decS (ct : Int)]).f1) (0, 1, L ++ [⟨(kd : Int), (ct : Int), []⟩]) := by
 unfold rd_take.f
 refine Ev.pos rfl ?_
 unfold rd_takeBundle.f
 refine Ev.neg (by show ¬ tGRH.toList = _; rw [tGRH_l]; decide) ?_
 unfold rd_tb2
 obtain ⟨R, e1, _, e3⟩ := parts_ev (plainS tGRH [decS (kd : Int), decS (ct : Int)]) tGRH 2 (by simp [plainS])
 have hR := e3 [decS (kd : Int), decS (ct : Int)] rfl rfl
 subst hR
 exact Ev.bind e1 (Ev.pos rfl (Ev.neg (by omega) (Ev.pos (by simp) (Ev.bind (numIn kd 1 7 (by omega) (by omega) (by omega) (by omega)) (Ev.pos (by simp) (Ev.bind (numIn ct 1 999999 (by omega) (by omega) (by omega) (by omega)) (Ev.pos rfl (Ev.pos rfl (Ev.pos (by omega) (Ev.now _))))))))))
theorem take_msh (n : Int) (P : List Bu) (kd ct : Int) (M : List Ms) (mc : Nat) (hM : M.length ≤ 9) (h3 : 1 ≤ mc) (h4 : mc ≤ 999999) :
  Ev (fun k => rd_take.f k n 1 (P ++ [⟨kd, ct, M⟩]) (plainS tMSH [decS (mc : Int)]).f0 (plainS tMSH [decS (mc : Int)]).f1) (0, 2, P ++ [⟨kd, ct, M ++ [⟨(mc : Int), []⟩]⟩]) := by
 unfold rd_take.f
 refine Ev.neg (by omega) (Ev.pos rfl ?_)
 unfold rd_takeMessage.f
 rw [snoc_get]
 refine Ev.pos (by simp) (Ev.neg (by show ¬ tMSH.toList = _; rw [tMSH_l]; decide) ?_)
 unfold rd_tm2
 obtain ⟨R, e1, _, e3⟩ := parts_ev (plainS tMSH [decS (mc : Int)]) tMSH 1 (by simp [plainS])
 have hR := e3 [decS (mc : Int)] rfl rfl
 subst hR
 refine Ev.bind e1 (Ev.pos rfl (Ev.neg (by show ¬ ((M.length : Int) = 10); omega) (Ev.pos (by simp) (Ev.bind (numIn mc 1 999999 (by omega) (by omega) (by omega) (by omega)) (Ev.pos rfl (Ev.pos (by show M.length < 1000000; omega) (Ev.ret ?_)))))))
 rw [snoc_set]
theorem take_body (n : Int) (P : List Bu) (kd ct : Int) (M : List Ms) (mc : Int) (G : List Sg) (s : Sg) (hG : G.length ≤ 39) (hs : bSg s) (hb : bodyB s.f0 s.f1 = true) :
  Ev (fun k => rd_take.f k n 2 (P ++ [⟨kd, ct, M ++ [⟨mc, G⟩]⟩]) s.f0 s.f1) (0, 2, P ++ [⟨kd, ct, M ++ [⟨mc, G ++ [s]⟩]⟩]) := by
 unfold rd_take.f
 refine Ev.neg (by omega) (Ev.neg (by omega) (Ev.pos rfl ?_))
 simp only [snoc_get]
 refine Ev.pos (by simp) (Ev.pos (by simp) ?_)
 unfold rd_t2
 have hE := body_ev s.f0 s.f1 hs.1 hs.2
 rw [hb] at hE
 have hO : ownTag s.f0 = false := by
  unfold bodyB at hb
  simp at hb
  exact hb.2
 refine Ev.neg (fun h => ?_) (Ev.bind hE (Ev.pos rfl (Ev.neg (by show ¬ ((G.length : Int) = 40); omega) (Ev.bind (ownSeg_ev s hs.1 (fun e he => (hs.2 e he).1)) (Ev.pos (by show G.length < 1000000; omega) (Ev.ret ?_))))))
 ·rw [show s.f0 = tMST from toList_inj.1 (h.trans tMST_l.symm)] at hO
  revert hO
  unfold ownTag tagsL
  simp
 ·simp only [snoc_set]
theorem tail_0 (tag : ByteArray) (many number : Nat) (hm : many ≤ 1000000) (hn : number ≤ 1000000) : Ev (fun k => F80.f k tag (plainS tag [decS (many : Int), decS (number : Int)]).f1 tag (many : Int) (number : Int)) 0 := by
 have hg : bSg (plainS tag [decS (many : Int), decS (number : Int)]) := by
  have h1 := decS_size many (by omega)
  have h2 := decS_size number (by omega)
  refine ⟨by simp [plainS], fun e he => ?_⟩
  simp [plainS] at he
  rcases he with rfl | rfl <;> refine ⟨by simp, fun s hs => ?_⟩ <;> simp at hs <;> subst hs <;> omega
 obtain ⟨c, e, h⟩ := tail_ev _ hg tag many number hm hn
 rcases h with ⟨_, h⟩ | ⟨a, b, h1, _, _, h2⟩
 ·exact absurd ⟨isNumB_decS _, isNumB_decS _⟩ (h _ _ rfl)
 ·simp only [plainS, List.map_cons, List.map_nil, S49.mk.injEq, List.cons.injEq, S91.mk.injEq, and_true, true_and] at h1
  obtain ⟨rfl, rfl⟩ := h1
  rw [if_pos ⟨rfl, rfl⟩] at h2
  exact h2 ▸ e
theorem take_mst {n c : Int} (P : List Bu) (kd ct : Int) (M : List Ms) (mc : Int) (G : List Sg) {s : Sg} (hs : s.f0 = tMST) (h : Ev (fun k => F80.f k s.f0 s.f1 tMST (G.length : Int) mc) c) :
  Ev (fun k => rd_take.f k n 2 (P ++ [⟨kd, ct, M ++ [⟨mc, G⟩]⟩]) s.f0 s.f1) (c, 1, P ++ [⟨kd, ct, M ++ [⟨mc, G⟩]⟩]) := by
 unfold rd_take.f
 refine Ev.neg (by omega) (Ev.neg (by omega) (Ev.pos rfl ?_))
 simp only [snoc_get]
 refine Ev.pos (by simp) (Ev.pos (by simp) ?_)
 unfold rd_t2
 exact Ev.pos (by rw [hs, tMST_l]) (Ev.bind h (Ev.now _))
theorem take_grt {n c : Int} (P : List Bu) (kd ct : Int) (M : List Ms) {s : Sg} (hs : s.f0 = tGRT) (hM : 1 ≤ M.length) (h : Ev (fun k => F80.f k s.f0 s.f1 tGRT (M.length : Int) ct) c) :
  Ev (fun k => rd_take.f k n 1 (P ++ [⟨kd, ct, M⟩]) s.f0 s.f1) (c, 0, P ++ [⟨kd, ct, M⟩]) := by
 unfold rd_take.f
 refine Ev.neg (by omega) (Ev.pos rfl ?_)
 unfold rd_takeMessage.f
 rw [snoc_get]
 exact Ev.pos (by simp) (Ev.pos (by rw [hs, tGRT_l]) (Ev.pos (by show ((M.length : Int) > 0); omega) (Ev.bind h (Ev.now _))))
theorem take_ixt {n c : Int} (L : List Bu) {s : Sg} (hs : s.f0 = tIXT) (hL : 1 ≤ L.length) (h : Ev (fun k => F80.f k s.f0 s.f1 tIXT (L.length : Int) n) c) :
  Ev (fun k => rd_take.f k n 0 L s.f0 s.f1) (c, 3, L) := by
 unfold rd_take.f
 refine Ev.pos rfl ?_
 unfold rd_takeBundle.f
 exact Ev.pos (by rw [hs, tIXT_l]) (Ev.pos (by omega) (Ev.bind h (Ev.now _)))
def isGRH (s : Sg) (kd ct : Nat) : Prop := s = plainS tGRH [decS (kd : Int), decS (ct : Int)] ∧ 1 ≤ kd ∧ kd ≤ 7 ∧ 1 ≤ ct ∧ ct ≤ 999999
def isMSH (s : Sg) (mc : Nat) : Prop := s = plainS tMSH [decS (mc : Int)] ∧ 1 ≤ mc ∧ mc ≤ 999999
theorem tb2_no (L : List Bu) (s : Sg) (hs : bSg s) (h : L.length = 5 ∨ ∀ kd ct, ¬ isGRH s kd ct) : Ev (fun k => rd_tb2 k 0 L s.f0 s.f1) (3, 0, L) := by
 unfold rd_tb2
 obtain ⟨R, e1, e2, _⟩ := parts_ev s tGRH 2 hs.1
 refine Ev.bind e1 (Ev.ite (fun hR => Ev.ite (fun _ => Ev.now _) (fun h5 => ?_)) (fun _ => Ev.now _))
 obtain ⟨h1, h2⟩ := e2 hR
 obtain ⟨ps, b⟩ := R
 dsimp only at hR h1 h2 ⊢
 match ps, (by omega : ps.length = 2) with
 | [X, Y], _ =>
  have hsz : X.size ≤ 1048576 ∧ Y.size ≤ 1048576 := by
   have g := hs.2
   rw [h1] at g
   exact ⟨(g ⟨[X]⟩ (by simp [plainS])).2 X (by simp), (g ⟨[Y]⟩ (by simp [plainS])).2 Y (by simp)⟩
  obtain ⟨p, f1, _, f3⟩ := numberIn_ev X hsz.1 1 7 (by omega) (by omega)
  obtain ⟨q, g1, _, g3⟩ := numberIn_ev Y hsz.2 1 999999 (by omega) (by omega)
  refine Ev.pos (by simp) (Ev.bind (show Ev (fun k => F102.f k (rdOf ByteArray.empty [X, Y] 0) 1 7) p from f1) (Ev.pos (by simp) (Ev.bind (show Ev (fun k => F102.f k (rdOf ByteArray.empty [X, Y] 1) 1 999999) q from g1) (Ev.ite (fun a => Ev.ite (fun b => ?_) (fun _ => Ev.now _)) (fun _ => Ev.now _)))))
  obtain ⟨m, rfl, m1, m2, _⟩ := f3 a
  obtain ⟨m', rfl, m3, m4, _⟩ := g3 b
  exact absurd ⟨h1, by omega, by omega, by omega, by omega⟩ (h.resolve_left (by omega) m m')
theorem take0_no {n : Int} (L : List Bu) (s : Sg) (hs : bSg s) (h0 : L = [] ∨ s.f0 ≠ tIXT) (h : L.length = 5 ∨ ∀ kd ct, ¬ isGRH s kd ct) : Ev (fun k => rd_take.f k n 0 L s.f0 s.f1) (3, 0, L) := by
 unfold rd_take.f
 refine Ev.pos rfl ?_
 unfold rd_takeBundle.f
 have h2 := tb2_no L s hs h
 refine Ev.ite (fun g => Ev.ite (fun g2 => ?_) (fun _ => h2)) (fun _ => h2)
 rcases h0 with rfl | h0
 ·simp at g2
 ·exact absurd (toList_inj.1 (g.trans tIXT_l.symm)) h0
theorem tm2_no (P : List Bu) (kd ct : Int) (M : List Ms) (s : Sg) (hs : bSg s) (h : M.length = 10 ∨ ∀ mc, ¬ isMSH s mc) : Ev (fun k => rd_tm2 k 1 (P ++ [⟨kd, ct, M⟩]) ⟨kd, ct, M⟩ s.f0 s.f1) (3, 1, P ++ [⟨kd, ct, M⟩]) := by
 unfold rd_tm2
 obtain ⟨R, e1, e2, _⟩ := parts_ev s tMSH 1 hs.1
 refine Ev.bind e1 (Ev.ite (fun hR => Ev.ite (fun _ => Ev.now _) (fun h5 => ?_)) (fun _ => Ev.now _))
 obtain ⟨h1, h2⟩ := e2 hR
 obtain ⟨ps, b⟩ := R
 dsimp only at hR h1 h2 h5 ⊢
 match ps, (by omega : ps.length = 1) with
 | [X], _ =>
  have hsz : X.size ≤ 1048576 := by
   have g := hs.2
   rw [h1] at g
   exact (g ⟨[X]⟩ (by simp [plainS])).2 X (by simp)
  obtain ⟨p, f1, _, f3⟩ := numberIn_ev X hsz 1 999999 (by omega) (by omega)
  refine Ev.pos (by simp) (Ev.bind (show Ev (fun k => F102.f k (rdOf ByteArray.empty [X] 0) 1 999999) p from f1) (Ev.ite (fun a => ?_) (fun _ => Ev.now _)))
  obtain ⟨m, rfl, m1, m2, _⟩ := f3 a
  exact absurd ⟨h1, by omega, by omega⟩ (h.resolve_left (by omega) m)
theorem take1_no {n : Int} (P : List Bu) (kd ct : Int) (M : List Ms) (s : Sg) (hs : bSg s) (h0 : M = [] ∨ s.f0 ≠ tGRT) (h : M.length = 10 ∨ ∀ mc, ¬ isMSH s mc) : Ev (fun k => rd_take.f k n 1 (P ++ [⟨kd, ct, M⟩]) s.f0 s.f1) (3, 1, P ++ [⟨kd, ct, M⟩]) := by
 unfold rd_take.f
 refine Ev.neg (by omega) (Ev.pos rfl ?_)
 unfold rd_takeMessage.f
 rw [snoc_get]
 have h2 := tm2_no P kd ct M s hs h
 refine Ev.pos (by simp) (Ev.ite (fun g => Ev.ite (fun g2 => ?_) (fun _ => h2)) (fun _ => h2))
 rcases h0 with rfl | h0
 ·simp at g2
 ·exact absurd (toList_inj.1 (g.trans tGRT_l.symm)) h0
theorem take2_no {n : Int} (P : List Bu) (kd ct : Int) (M : List Ms) (mc : Int) (G : List Sg) (s : Sg) (hs : bSg s) (h0 : s.f0 ≠ tMST) (h : G.length = 40 ∨ bodyB s.f0 s.f1 = false) : Ev (fun k => rd_take.f k n 2 (P ++ [⟨kd, ct, M ++ [⟨mc, G⟩]⟩]) s.f0 s.f1) (3, 2, P ++ [⟨kd, ct, M ++ [⟨mc, G⟩]⟩]) := by
 unfold rd_take.f
 refine Ev.neg (by omega) (Ev.neg (by omega) (Ev.pos rfl ?_))
 simp only [snoc_get]
 refine Ev.pos (by simp) (Ev.pos (by simp) ?_)
 unfold rd_t2
 refine Ev.neg (fun g => h0 (toList_inj.1 (g.trans tMST_l.symm))) (Ev.bind (body_ev s.f0 s.f1 hs.1 hs.2) (Ev.ite (fun g => Ev.pos ?_ (Ev.now _)) (fun _ => Ev.now _)))
 have := h.resolve_right (by rw [g]; simp)
 show (G.length : Int) = 40
 omega
theorem take3 {n : Int} (L : List Bu) (s : Sg) : Ev (fun k => rd_take.f k n 3 L s.f0 s.f1) (3, 3, L) := by
 unfold rd_take.f
 exact Ev.neg (by omega) (Ev.neg (by omega) (Ev.neg (by omega) (Ev.now _)))
def fin (q : Int × Int × Int × List Bu) : Int := if q.1 = 0 then (if q.2.2.1 = 3 then 0 else 4) else q.1
def Fin (n : Int) (T : List Sg) (inn : Int) (L : List Bu) (i : Nat) (c : Int) : Prop := ∃ q, Ev (fun k => rd_ixr n T k (i : Int) inn L) q ∧ fin q = c
theorem Fin.fwd {n inn inn' c : Int} {T S r : List Sg} {L L' : List Bu} {i : Nat} (h : Reads n S inn L inn' L') (hl : T.length ≤ 100000) (hd : T.drop i = S ++ r) : Fin n T inn' L' (i + S.length) c → Fin n T inn L i c := fun ⟨q, h1, h2⟩ => ⟨q, h T r i q hl hd h1, h2⟩
theorem Fin.bad {n inn inn' c : Int} {T r : List Sg} {s : Sg} {L L' : List Bu} {i : Nat} (hd : T.drop i = s :: r) (hl : T.length ≤ 100000) (hc : c ≠ 0) (ht : Ev (fun k => rd_take.f k n inn L s.f0 s.f1) (c, inn', L')) : Fin n T inn L i c :=
 ⟨_, ixr_fail hd (by have := (ldrop_cons z49 hd).1; omega) hc ht, by simp [fin, hc]⟩
theorem Fin.short {n inn : Int} {T : List Sg} {L : List Bu} {i : Nat} (hd : T.drop i = []) (h3 : inn ≠ 3) : Fin n T inn L i 4 := ⟨_, ixr_end hd, by simp [fin, h3]⟩
def rM (m : Ms) : Prop := (1 ≤ m.f0 ∧ m.f0 ≤ 999999) ∧ m.f1.length ≤ 40 ∧ ∀ s ∈ m.f1, bSg s ∧ bodyB s.f0 s.f1 = true
def rB (b : Bu) : Prop := (1 ≤ b.f0 ∧ b.f0 ≤ 7) ∧ (1 ≤ b.f1 ∧ b.f1 ≤ 999999) ∧ (1 ≤ b.f2.length ∧ b.f2.length ≤ 10) ∧ ∀ m ∈ b.f2, rM m
theorem reads_body (n : Int) (P : List Bu) (kd ct : Int) (M : List Ms) (mc : Int) : ∀ (S G : List Sg), G.length + S.length ≤ 40 → (∀ s ∈ S, bSg s ∧ bodyB s.f0 s.f1 = true) → Reads n S 2 (P ++ [⟨kd, ct, M ++ [⟨mc, G⟩]⟩]) 2 (P ++ [⟨kd, ct, M ++ [⟨mc, G ++ S⟩]⟩])
 | [], G, _, _ => by rw [List.append_nil]; exact Reads.nil n 2 _
 | s :: S, G, hl, h => by
  have hs := h s List.mem_cons_self
  have ih := reads_body n P kd ct M mc S (G ++ [s]) (by simp at hl ⊢; omega) (fun x hx => h x (List.mem_cons_of_mem _ hx))
  rw [List.append_assoc, List.singleton_append] at ih
  exact Reads.trans (S1 := [s]) (Reads.one (take_body n P kd ct M mc G s (by simp at hl; omega) hs.1 hs.2)) ih
theorem reads_msg (n : Int) (P : List Bu) (kd ct : Int) (M : List Ms) (m : Ms) (hM : M.length ≤ 9) (hm : rM m) : Reads n (segsM m) 1 (P ++ [⟨kd, ct, M⟩]) 1 (P ++ [⟨kd, ct, M ++ [m]⟩]) := by
 obtain ⟨c, B⟩ := m
 obtain ⟨⟨h1, h2⟩, h3, h4⟩ := hm
 dsimp only at h1 h2 h3 h4
 obtain ⟨mc, rfl⟩ := Int.eq_ofNat_of_zero_le (by omega : 0 ≤ c)
 unfold segsM
 dsimp only
 exact Reads.trans (S1 := [plainS tMSH [decS (mc : Int)]]) (Reads.one (take_msh n P kd ct M mc hM (by omega) (by omega))) (Reads.trans (reads_body n P kd ct M (mc : Int) B [] (by simpa using h3) h4) (Reads.one (take_mst P kd ct M (mc : Int) B rfl (tail_0 tMST B.length mc (by omega) (by omega)))))
theorem reads_msgs (n : Int) (P : List Bu) (kd ct : Int) : ∀ (S M : List Ms), M.length + S.length ≤ 10 → (∀ m ∈ S, rM m) → Reads n (S.flatMap segsM) 1 (P ++ [⟨kd, ct, M⟩]) 1 (P ++ [⟨kd, ct, M ++ S⟩])
 | [], M, _, _ => by rw [List.append_nil]; exact Reads.nil n 1 _
 | m :: S, M, hl, h => by
  have ih := reads_msgs n P kd ct S (M ++ [m]) (by simp at hl ⊢; omega) (fun x hx => h x (List.mem_cons_of_mem _ hx))
  rw [List.append_assoc, List.singleton_append] at ih
  rw [List.flatMap_cons]
  exact Reads.trans (reads_msg n P kd ct M m (by simp at hl; omega) (h m List.mem_cons_self)) ih
theorem reads_bun (n : Int) (P : List Bu) (b : Bu) (hP : P.length ≤ 4) (hb : rB b) : Reads n (segsB b) 0 P 0 (P ++ [b]) := by
 obtain ⟨kd, ct, M⟩ := b
 obtain ⟨⟨h1, h2⟩, ⟨h3, h4⟩, ⟨h5, h6⟩, h7⟩ := hb
 dsimp only at h1 h2 h3 h4 h5 h6 h7
 obtain ⟨k', rfl⟩ := Int.eq_ofNat_of_zero_le (by omega : 0 ≤ kd)
 obtain ⟨c', rfl⟩ := Int.eq_ofNat_of_zero_le (by omega : 0 ≤ ct)
 unfold segsB
 dsimp only
 exact Reads.trans (S1 := [plainS tGRH [decS (k' : Int), decS (c' : Int)]]) (Reads.one (take_grh n P k' c' hP (by omega) (by omega) (by omega) (by omega))) (Reads.trans (reads_msgs n P (k' : Int) (c' : Int) M [] (by simpa using h6) h7) (Reads.one (take_grt P (k' : Int) (c' : Int) M rfl h5 (tail_0 tGRT M.length c' (by omega) (by omega)))))
theorem reads_buns (n : Int) : ∀ (S P : List Bu), P.length + S.length ≤ 5 → (∀ b ∈ S, rB b) → Reads n (S.flatMap segsB) 0 P 0 (P ++ S)
 | [], P, _, _ => by rw [List.append_nil]; exact Reads.nil n 0 _
 | b :: S, P, hl, h => by
  have ih := reads_buns n S (P ++ [b]) (by simp at hl ⊢; omega) (fun x hx => h x (List.mem_cons_of_mem _ hx))
  rw [List.append_assoc, List.singleton_append] at ih
  rw [List.flatMap_cons]
  exact Reads.trans (reads_bun n P b (by simp at hl; omega) (h b List.mem_cons_self)) ih
theorem reads_all (n : Nat) (L : List Bu) (hn : n ≤ 999999) (h1 : 1 ≤ L.length) (h5 : L.length ≤ 5) (hL : ∀ b ∈ L, rB b) : Reads (n : Int) (L.flatMap segsB ++ [plainS tIXT [decS (L.length : Int), decS (n : Int)]]) 0 [] 3 L :=
 Reads.trans (reads_buns (n : Int) L [] (by simpa using h5) hL) (Reads.one (take_ixt L rfl h1 (tail_0 tIXT L.length n (by omega) (by omega))))
theorem nums_loop (t : ByteArray) (E : List S91) (hE : E.length ≤ 1000) (hb : ∀ e ∈ E, bEl e.f0) : ∀ (r : List S91) (j : Nat) (acc : List Int), E.drop j = r → acc.length + r.length ≤ 1000 →
  ∃ R : List Int × Bool, Ev (fun k => F86.l0 k (E.length : Int) acc (j : Int) t E) R ∧ (R.2 = true → ∃ ss : List ByteArray, ∃ vs : List Int, r = ss.map (fun p => (⟨[p]⟩ : S91)) ∧ R.1 = acc ++ vs ∧ ss.length = vs.length ∧ ∀ p ∈ ss.zip vs, Ev (fun k => F83.f k p.1) (p.2, true)) ∧
   (∀ ss : List ByteArray, r = ss.map (fun p => (⟨[p]⟩ : S91)) → (∀ x ∈ ss, ∃ v, Ev (fun k => F83.f k x) (v, true)) → R.2 = true) := by
 intro r
 induction r with
 | nil =>
  intro j acc h hl
  have h0 := ldrop_nil h
  exact ⟨_, Ev.step (fun k => F86.l0.eq_2 ..) (Ev.neg (by omega) (Ev.now _)), fun _ => ⟨[], [], rfl, by simp, rfl, fun p hp => by simp at hp⟩, fun _ _ _ => rfl⟩
 | cons c r ih =>
  intro j acc h hl
  obtain ⟨h1, h2, h3⟩ := ldrop_cons z91 h
  have hr : rd_T91 E (j : Int) = c := h2
  have h2 : E.getD j z91 = c := h2
  have hc := hb c (List.mem_of_mem_drop (by rw [h]; exact List.mem_cons_self))
  simp only [List.length_cons] at hl
  have hp : ∃ x : ByteArray, F84.f t E (j : Int) 0 = some x ∧ x.size ≤ 1048576 ∧ ∀ s, c.f0 = [s] → x = s := by
   refine ⟨_, partOf_ev ⟨t, E⟩ j (by show E.length ≤ _; omega), ?_, fun s hs => ?_⟩
   ·show (if j < E.length ∧ 0 < (E.getD j z91).f0.length then partOf ⟨t, E⟩ j else ⟨#[]⟩).size ≤ _
    rw [h2]
    split
    ·rename_i g
     show ((E.getD j z91).f0.getD 0 ByteArray.empty).size ≤ _
     rw [h2]
     exact hc.2 _ (getD_mem _ g.2)
    ·show 0 ≤ _
     omega
   ·show (if j < E.length ∧ 0 < (E.getD j z91).f0.length then partOf ⟨t, E⟩ j else ⟨#[]⟩) = s
    rw [h2, hs, if_pos ⟨by omega, by simp⟩]
    show (E.getD j z91).f0.getD 0 ByteArray.empty = s
    rw [h2, hs]
    rfl
  obtain ⟨x, p1, p2, p3⟩ := hp
  obtain ⟨p, e1, _⟩ := l01Num_ev x p2
  by_cases hc1 : c.f0.length = 1
  ·obtain ⟨s, hs⟩ := List.length_eq_one_iff.1 hc1
   have hcs : c = ⟨[s]⟩ := by cases c; exact congrArg _ hs
   obtain rfl := p3 s hs
   by_cases hk : p.2 = true
   ·obtain ⟨R, f1, f2, f3⟩ := ih (j + 1) (acc ++ [p.1]) h3 (by simp; omega)
    refine ⟨R, Ev.step (fun k => F86.l0.eq_2 ..) (Ev.pos h1 (Ev.bindc p1 (Ev.bind e1 (Ev.pos (by omega) (Ev.pos h1 ?_))))), fun g => ?_, fun ss hss hx => ?_⟩
    ·rw [hr, hk]
     refine Ev.pos (by omega) (Ev.step (fun k => F86.j1.eq_2 ..) (Ev.neg (by simp) (Ev.pos (by omega) ?_)))
     rw [wi_ (by omega)]
     exact f1
    ·obtain ⟨ss, vs, g1, g2, g3, g4⟩ := f2 g
     refine ⟨x :: ss, p.1 :: vs, by rw [g1, hcs]; rfl, by rw [g2]; simp, by simp [g3], fun q hq => ?_⟩
     rw [List.zip_cons_cons, List.mem_cons] at hq
     rcases hq with rfl | hq
     ·exact e1.to (Prod.ext rfl hk)
     ·exact g4 q hq
    ·cases ss with
     | nil => simp at hss
     | cons y ss =>
      rw [List.map_cons, List.cons.injEq] at hss
      exact f3 ss hss.2 fun z hz => hx z (List.mem_cons_of_mem _ hz)
   ·refine ⟨(acc, false), Ev.step (fun k => F86.l0.eq_2 ..) (Ev.pos h1 (Ev.bindc p1 (Ev.bind e1 (Ev.pos (by omega) (Ev.pos h1 ?_))))), fun g => (by cases g), fun ss hss hx => ?_⟩
    ·rw [Bool.not_eq_true] at hk
     rw [hr, hk]
     exact Ev.pos (by omega) (Ev.step (fun k => F86.j1.eq_2 ..) (Ev.pos rfl (Ev.now _)))
    ·cases ss with
     | nil => simp at hss
     | cons y ss =>
      rw [List.map_cons, List.cons.injEq, hcs] at hss
      have hy : x = y := by simpa using hss.1
      obtain ⟨v, hv⟩ := hx y List.mem_cons_self
      rw [← hy] at hv
      rw [Ev.unique e1 hv] at hk
      exact absurd rfl hk
  ·refine ⟨(acc, false), Ev.step (fun k => F86.l0.eq_2 ..) (Ev.pos h1 (Ev.bindc p1 (Ev.bind e1 (Ev.pos (by omega) (Ev.pos h1 ?_))))), fun g => (by cases g), fun ss hss hx => ?_⟩
   ·rw [hr]
    exact Ev.neg (by omega) (Ev.step (fun k => F86.j1.eq_2 ..) (Ev.pos rfl (Ev.now _)))
   ·cases ss with
    | nil => simp at hss
    | cons y ss =>
     rw [List.map_cons, List.cons.injEq] at hss
     exact absurd (by rw [hss.1]; rfl) hc1
def numsOk (s : Sg) (ss : List ByteArray) (vs : List Int) : Prop := s = plainS s.f0 ss ∧ ss.length = vs.length ∧ ∀ p ∈ ss.zip vs, Ev (fun k => F83.f k p.1) (p.2, true)
theorem nums_ev (s : Sg) (hs : bSg s) (hl : s.f1.length ≤ 1000) (many : Nat) : ∃ R : List Int × Bool, Ev (fun k => F86.f k s.f0 s.f1 (many : Int)) R ∧ (R.2 = true → ∃ ss, numsOk s ss R.1 ∧ ss.length = many) ∧ (∀ ss, s = plainS s.f0 ss → ss.length = many → (∀ x ∈ ss, ∃ v, Ev (fun k => F83.f k x) (v, true)) → R.2 = true) := by
 unfold F86.f
 by_cases hm : s.f1.length = many
 ·obtain ⟨R, f1, f2, f3⟩ := nums_loop s.f0 s.f1 hl hs.2 s.f1 0 [] rfl (by simpa using hl)
  rw [hm] at f1
  refine ⟨R, Ev.bindc rfl (Ev.pos (by omega) f1), fun h => ?_, fun ss h h2 h3 => f3 ss (by rw [h]; rfl) h3⟩
  obtain ⟨ss, vs, g1, g2, g3, g4⟩ := f2 h
  rw [List.nil_append] at g2
  rw [g2]
  refine ⟨ss, ⟨?_, g3, g4⟩, by rw [← hm, g1, List.length_map]⟩
  cases s
  exact congrArg _ g1
 ·exact ⟨_, Ev.bindc rfl (Ev.neg (by omega) (Ev.now _)), fun h => (by cases h), fun ss h h2 _ => absurd (by rw [h, ← h2]; simp [plainS]) hm⟩
theorem num_val {x : ByteArray} {v : Int} (h : Ev (fun k => F83.f k x) (v, true)) (hx : x.size ≤ 1048576) : x = decS v ∧ ∀ m : Nat, m < 1000000000000 → x = decS (m : Int) → v = m := by
 obtain ⟨p, e1, e2, e3, _⟩ := l01Num_ev x hx
 have := Ev.unique e1 h
 subst this
 exact ⟨e3 rfl, fun m h1 h2 => congrArg Prod.fst (e2 m h1 h2)⟩
theorem num_dec (m : Nat) (h : m < 1000000000000) : Ev (fun k => F83.f k (decS (m : Int))) ((m : Int), true) := by
 obtain ⟨p, e1, e2, _⟩ := l01Num_ev (decS (m : Int)) (by have := decS_size m h; omega)
 exact e1.to (e2 m h rfl)
theorem plain_sz {s : Sg} (hs : bSg s) {t : ByteArray} {ss : List ByteArray} (h : s = plainS t ss) : ∀ x ∈ ss, x.size ≤ 1048576 := fun x hx => by
 have g := hs.2
 rw [h] at g
 exact (g ⟨[x]⟩ (List.mem_map_of_mem hx)).2 x (by simp)
theorem msh_ev (s : Sg) (hs : bSg s) (hl : s.f1.length ≤ 1000) (ht : s.f0 = tMSH) : ∃ R : List Int × Bool, Ev (fun k => F86.f k s.f0 s.f1 1) R ∧ ((∃ mc, isMSH s mc ∧ R = ([(mc : Int)], true)) ∨ ((∀ mc, ¬ isMSH s mc) ∧ (R.2 = false ∨ (R.2 = true ∧ ∃ v, R.1 = [v] ∧ ctlB v = false)))) := by
 obtain ⟨R, e1, e2, e3⟩ := nums_ev s hs hl 1
 refine ⟨R, e1, ?_⟩
 by_cases hR : R.2 = true
 ·obtain ⟨ss, ⟨h1, h2, h3⟩, h4⟩ := e2 hR
  obtain ⟨vs, b⟩ := R
  dsimp only at hR h2 h3 ⊢
  subst hR
  match ss, vs, h4, h2 with
  | [X], [v], _, _ =>
   obtain ⟨g1, g2⟩ := num_val (x := X) (v := v) (h3 (X, v) (by simp)) (plain_sz hs h1 X (by simp))
   by_cases hc : ctlB v = true
   ·have hc := of_decide_eq_true hc
    obtain ⟨m, rfl⟩ := Int.eq_ofNat_of_zero_le (by omega : 0 ≤ v)
    exact .inl ⟨m, ⟨by rw [h1, ht, g1], by omega, by omega⟩, rfl⟩
   ·refine .inr ⟨fun mc hm => hc ?_, .inr ⟨rfl, v, rfl, by simpa using hc⟩⟩
    obtain ⟨h5, h6, h7⟩ := hm
    rw [h1, ht] at h5
    simp only [plainS, List.map_cons, List.map_nil, S49.mk.injEq, List.cons.injEq, S91.mk.injEq, and_true, true_and] at h5
    rw [g2 mc (by omega) h5]
    exact decide_eq_true (by omega)
 ·refine .inr ⟨fun mc hm => hR (e3 [decS (mc : Int)] ?_ rfl fun x hx => ?_), .inl (by simpa using hR)⟩
  ·exact hm.1.trans (by rw [hm.1]; rfl)
  ·rw [List.mem_singleton.1 hx]
   exact ⟨_, num_dec mc (by have := hm.2.2; omega)⟩
theorem grh_ev (s : Sg) (hs : bSg s) (hl : s.f1.length ≤ 1000) (ht : s.f0 = tGRH) : ∃ R : List Int × Bool, Ev (fun k => F86.f k s.f0 s.f1 2) R ∧ ((∃ kd ct, isGRH s kd ct ∧ R = ([(kd : Int), (ct : Int)], true)) ∨ ((∀ kd ct, ¬ isGRH s kd ct) ∧ (R.2 = false ∨ (R.2 = true ∧ ∃ v u, R.1 = [v, u] ∧ (v ≥ 1 → v ≤ 7 → ctlB u = false))))) := by
 obtain ⟨R, e1, e2, e3⟩ := nums_ev s hs hl 2
 refine ⟨R, e1, ?_⟩
 by_cases hR : R.2 = true
 ·obtain ⟨ss, ⟨h1, h2, h3⟩, h4⟩ := e2 hR
  obtain ⟨vs, b⟩ := R
  dsimp only at hR h2 h3 ⊢
  subst hR
  match ss, vs, h4, h2 with
  | [X, Y], [v, u], _, _ =>
   obtain ⟨g1, g2⟩ := num_val (x := X) (v := v) (h3 (X, v) (by simp)) (plain_sz hs h1 X (by simp))
   obtain ⟨g3, g4⟩ := num_val (x := Y) (v := u) (h3 (Y, u) (by simp)) (plain_sz hs h1 Y (by simp))
   by_cases hc : (v ≥ 1 ∧ v ≤ 7) ∧ ctlB u = true
   ·have hc2 := of_decide_eq_true hc.2
    obtain ⟨m, rfl⟩ := Int.eq_ofNat_of_zero_le (by omega : 0 ≤ v)
    obtain ⟨m', rfl⟩ := Int.eq_ofNat_of_zero_le (by omega : 0 ≤ u)
    exact .inl ⟨m, m', ⟨by rw [h1, ht, g1, g3], by omega, by omega, by omega, by omega⟩, rfl⟩
   ·refine .inr ⟨fun kd ct hm => hc ?_, .inr ⟨rfl, v, u, rfl, fun a b => by simpa using fun c => hc ⟨⟨a, b⟩, c⟩⟩⟩
    obtain ⟨h5, h6, h7, h8, h9⟩ := hm
    rw [h1, ht] at h5
    simp only [plainS, List.map_cons, List.map_nil, S49.mk.injEq, List.cons.injEq, S91.mk.injEq, and_true, true_and] at h5
    rw [g2 kd (by omega) h5.1, g4 ct (by omega) h5.2]
    exact ⟨by omega, decide_eq_true (by omega)⟩
 ·refine .inr ⟨fun kd ct hm => hR (e3 [decS (kd : Int), decS (ct : Int)] ?_ rfl fun x hx => ?_), .inl (by simpa using hR)⟩
  ·exact hm.1.trans (by rw [hm.1]; rfl)
  ·obtain ⟨_, h6, h7, h8, h9⟩ := hm
   simp only [List.mem_cons, List.not_mem_nil, or_false] at hx
   rcases hx with rfl | rfl
   ·exact ⟨_, num_dec kd (by omega)⟩
   ·exact ⟨_, num_dec ct (by omega)⟩
section
variable (g0 : Sg) (T : List Sg) (v2 v3 v4 v5 : Value)
theorem sg_in {i : Nat} {s : Sg} {r : List Sg} (hd : T.drop i = s :: r) : ((i + 1 : Nat) : Int) < ((g0 :: T).length : Int) ∧ rd_T49 (g0 :: T) ((i + 1 : Nat) : Int) = s ∧ T.drop (i + 1) = r := by
 obtain ⟨h1, h2, h3⟩ := ldrop_cons z49 (show (g0 :: T).drop (i + 1) = s :: r from hd)
 exact ⟨h1, h2, h3⟩
theorem sg_out {i : Nat} (hd : T.drop i = []) : ((i + 1 : Nat) : Int) ≥ ((g0 :: T).length : Int) := by
 have := ldrop_nil hd
 simp only [List.length_cons]
 omega
theorem tag_in {i : Nat} {s : Sg} {r : List Sg} (hd : T.drop i = s :: r) (c : Int) : F47.f (g0 :: T) ((i + 1 : Nat) : Int) v2 v3 v4 v5 c = some s.f0 := by
 obtain ⟨h1, h2, _⟩ := sg_in g0 T hd
 unfold F47.f
 rw [if_neg (by omega), if_pos (by omega), if_pos h1, h2]
theorem tag_out {i : Nat} (hd : T.drop i = []) (c : Int) : F47.f (g0 :: T) ((i + 1 : Nat) : Int) v2 v3 v4 v5 c = some ⟨#[]⟩ := by
 unfold F47.f
 rw [if_pos (sg_out g0 T hd)]
theorem need_in {i : Nat} {s : Sg} {r : List Sg} (hd : T.drop i = s :: r) (ok : Bool) (e : Int) (he : e ≠ 0) : F48.f (g0 :: T) ((i + 1 : Nat) : Int) v2 v3 v4 v5 0 ok e = some (ok, ((i + 1 : Nat) : Int), if ok = true then 0 else e) := by
 obtain ⟨h1, _⟩ := sg_in g0 T hd
 unfold F48.f
 rw [if_pos rfl, if_neg (by omega)]
 cases ok
 ·simp [he]
 ·rfl
theorem need_out {i : Nat} (hd : T.drop i = []) (ok : Bool) (e : Int) : F48.f (g0 :: T) ((i + 1 : Nat) : Int) v2 v3 v4 v5 0 ok e = some (false, ((i + 1 : Nat) : Int), 4) := by
 unfold F48.f
 rw [if_pos rfl, if_pos (sg_out g0 T hd)]
 rfl
def WSg (s : Sg) : Prop := bSg s ∧ s.f1.length ≤ 1000 ∧ (s.f0 = tMST ∨ s.f0 = tGRT ∨ s.f0 = tIXT → ∀ e ∈ s.f1, ∀ x ∈ e.f0, x.size ≤ 12)
theorem ends_out {i : Nat} (hd : T.drop i = []) (tag : ByteArray) (a b : Int) : Ev (fun k => F50.f k (g0 :: T) ((i + 1 : Nat) : Int) v2 v3 v4 v5 0 tag a b) (false, ((i + 1 : Nat) : Int), 4) := by
 unfold F50.f
 exact Ev.bindc (tag_out g0 T v2 v3 v4 v5 hd 0) (Ev.bindc (need_out g0 T v2 v3 v4 v5 hd _ _) (Ev.neg (by simp) (Ev.now _)))
theorem ends_in {i : Nat} {s : Sg} {r : List Sg} (hd : T.drop i = s :: r) (hi : i ≤ 1000000) (hs : WSg s) (tag : ByteArray) (htr : tag = tMST ∨ tag = tGRT ∨ tag = tIXT) (many number : Nat) (hm : many ≤ 1000000) (hn : number ≤ 1000000) : ∃ c : Int, Ev (fun k => F80.f k s.f0 s.f1 tag (many : Int) (number : Int)) c ∧ Ev (fun k => F50.f k (g0 :: T) ((i + 1 : Nat) : Int) v2 v3 v4 v5 0 tag (many : Int) (number : Int)) (decide (c = 0), ((i + (if c = 0 then 2 else 1) : Nat) : Int), c) ∧ (c = 0 → s = plainS tag [decS (many : Int), decS (number : Int)]) ∧ (s.f0 ≠ tag → c = 3) := by
 obtain ⟨c, e, h⟩ := tail_ev s hs.1 tag many number hm hn
 obtain ⟨h1, h2, h3⟩ := sg_in g0 T hd
 have key : ∀ {x : Int}, x ≠ 0 → Ev (fun k => F50.j0 k true (g0 :: T) ((i + 1 : Nat) : Int) v2 v3 v4 v5 x) (decide (x = 0), ((i + (if x = 0 then 2 else 1) : Nat) : Int), x) := fun {x} hx => by
  rw [if_neg hx, decide_eq_false hx]
  exact Ev.step (fun k => F50.j0.eq_2 ..) (Ev.pos rfl (Ev.now _))
 have hc3 : s.f0 ≠ tag → c = 3 := fun ht => by
  rcases h with h | ⟨a, b, g, _⟩
  ·exact h.1
  ·exact absurd (by rw [g]; rfl) ht
 have hc0 : c = 0 → s = plainS tag [decS (many : Int), decS (number : Int)] := fun h0 => by
  rcases h with h | ⟨a, b, g, _, _, hc⟩
  ·omega
  ·by_cases q : a = decS (many : Int) ∧ b = decS (number : Int)
   ·rw [g, q.1, q.2]
   ·rw [if_neg q] at hc
    omega
 refine ⟨c, e, ?_, hc0, hc3⟩
 unfold F50.f
 refine Ev.bindc (tag_in g0 T v2 v3 v4 v5 hd 0) (Ev.bindc (need_in g0 T v2 v3 v4 v5 hd _ 3 (by omega)) ?_)
 by_cases ht : s.f0 = tag
 ·have hq : (s.f0.toList == tag.toList) = true := by rw [ht]; simp
  rw [hq]
  refine Ev.pos rfl (Ev.pos (by dsimp only; omega) (Ev.pos h1 ?_))
  rw [h2]
  obtain ⟨R, e1, e2, e3⟩ := nums_ev s hs.1 hs.2.1 2
  refine Ev.bind e1 (Ev.bindc (need_in g0 T v2 v3 v4 v5 hd _ 3 (by omega)) ?_)
  by_cases hR : R.2 = true
  ·obtain ⟨ss, ⟨k1, k2, k3⟩, k4⟩ := e2 hR
   obtain ⟨vs, bb⟩ := R
   dsimp only at hR k2 k3 ⊢
   subst hR
   match ss, vs, k4, k2 with
   | [X, Y], [v, u], _, _ =>
    obtain ⟨g1, g2⟩ := num_val (x := X) (v := v) (k3 (X, v) (by simp)) (plain_sz hs.1 k1 X (by simp))
    obtain ⟨g3, g4⟩ := num_val (x := Y) (v := u) (k3 (Y, u) (by simp)) (plain_sz hs.1 k1 Y (by simp))
    have hc : c = if X = decS (many : Int) ∧ Y = decS (number : Int) then 0 else 5 := by
     rcases h with ⟨_, h⟩ | ⟨a, b, g, _, _, hc⟩
     ·exact absurd ⟨by rw [g1]; exact isNumB_decS _, by rw [g3]; exact isNumB_decS _⟩ (h X Y (by rw [← ht]; exact k1))
     ·rw [k1, ht] at g
      simp only [plainS, List.map_cons, List.map_nil, S49.mk.injEq, List.cons.injEq, S91.mk.injEq, and_true, true_and] at g
      rw [g.1, g.2]
      exact hc
    refine Ev.pos rfl (Ev.pos (by simp) (Ev.ite (fun q => ?_) (fun q => ?_)))
    ·have q : v = (many : Int) := q
     refine Ev.pos (by simp) (Ev.bindc (need_in g0 T v2 v3 v4 v5 hd _ 5 (by omega)) ?_)
     by_cases q2 : u = (number : Int)
     ·have hq2 : (rd [v, u] 1 == (number : Int)) = true := beq_iff_eq.2 q2
      rw [if_pos ⟨by rw [g1, q], by rw [g3, q2]⟩] at hc
      subst hc
      rw [hq2]
      refine Ev.step (fun k => F50.j0.eq_2 ..) (Ev.neg (by simp) (Ev.ret ?_))
      dsimp only
      rw [wi_ (by omega)]
      rfl
     ·have hq2 : (rd [v, u] 1 == (number : Int)) = false := beq_eq_false_iff_ne.2 q2
      rw [if_neg fun z => q2 (g4 number (by omega) z.2)] at hc
      subst hc
      rw [hq2]
      exact key (x := 5) (by omega)
    ·have q : ¬ v = (many : Int) := q
     rw [if_neg fun z => q (g2 many (by omega) z.1)] at hc
     subst hc
     exact Ev.bindc (need_in g0 T v2 v3 v4 v5 hd false 5 (by omega)) (key (x := 5) (by omega))
  ·have hc : c = 3 := by
    rcases h with h | ⟨a, b, g, na, nb, _⟩
    ·exact h.1
    ·refine absurd (e3 [a, b] (by rw [g]; rfl) rfl fun x hx => ?_) hR
     have hx12 := hs.2.2 (by rw [ht]; exact htr)
     rw [g] at hx12
     have hsz : x.size ≤ 12 := hx12 ⟨[x]⟩ (List.mem_map_of_mem hx) x (by simp)
     have nx : numB x = true := by
      simp only [List.mem_cons, List.not_mem_nil, or_false] at hx
      rcases hx with rfl | rfl
      ·exact na
      ·exact nb
     obtain ⟨p, f1, _, _, _, _, f2⟩ := l01Num_ev x (by omega)
     exact ⟨p.1, f1.to (Prod.ext rfl (f2 hsz nx))⟩
   subst hc
   rw [Bool.not_eq_true] at hR
   rw [hR]
   exact Ev.neg (by simp) (key (x := 3) (by omega))
 ·have hq : (s.f0.toList == tag.toList) = false := beq_eq_false_iff_ne.2 fun z => ht (toList_inj.1 z)
  rw [hq, hc3 ht]
  exact Ev.neg (by simp) (Ev.now _)
end
theorem own_tr {s : ByteArray} (h : ownTag s = false) : s ≠ tMST := fun e => by
 rw [e] at h
 revert h
 unfold ownTag tagsL
 simp
theorem own_ms {s : ByteArray} (h : ownTag s = true) (L : List S91) : bodyB s L = false := by
 unfold bodyB
 simp [h]
section
variable {n : Int} (g0 : Sg) {T : List Sg} (v2 v3 v4 v5 : Value)
theorem sg_w (hT : T.length ≤ 1000) (hW : ∀ s ∈ T, WSg s) {i : Nat} {s : Sg} {r : List Sg} (hd : T.drop i = s :: r) : WSg s ∧ i ≤ 1000 ∧ T.drop (i + 1) = r := by
 obtain ⟨h1, _, h3⟩ := ldrop_cons z49 hd
 exact ⟨hW s (List.mem_of_mem_drop (by rw [hd]; exact List.mem_cons_self)), by omega, h3⟩
theorem body_loop (hT : T.length ≤ 1000) (hW : ∀ s ∈ T, WSg s) (P : List Bu) (kd ct : Int) (M : List Ms) (mc : Nat) (hmc : mc ≤ 1000000) : ∀ (r : List Sg) (i : Nat) (B : List Sg), T.drop i = r → B.length ≤ 40 →
  ∃ R : Int × List Sg × Bool × Int × Int, Ev (fun k => F87.l0 k (g0 :: T) ((i + 1 : Nat) : Int) v2 v3 v4 v5 0 (mc : Int) B) R ∧
   ((R.2.2.1 = false ∧ R.2.2.2.2 ≠ 0 ∧ Fin n T 2 (P ++ [⟨kd, ct, M ++ [⟨(mc : Int), B⟩]⟩]) i R.2.2.2.2) ∨ ∃ S r', r = S ++ plainS tMST [decS ((B ++ S).length : Int), decS (mc : Int)] :: r' ∧ (∀ s ∈ S, bSg s ∧ bodyB s.f0 s.f1 = true) ∧ (B ++ S).length ≤ 40 ∧ R = ((mc : Int), B ++ S, true, ((i + S.length + 2 : Nat) : Int), 0)) := by
 intro r
 induction r with
 | nil =>
  intro i B hd hB
  refine ⟨((mc : Int), B, false, ((i + 1 : Nat) : Int), 4), Ev.step (fun k => F87.l0.eq_2 ..) (Ev.neg (by have := sg_out g0 T hd; omega) (Ev.step (fun k => F87.j2.eq_2 ..) (Ev.neg (by simp) (Ev.bind (ends_out g0 T v2 v3 v4 v5 hd _ _ _) (Ev.now _))))), .inl ⟨rfl, (by omega : (4 : Int) ≠ 0), Fin.short hd (by omega)⟩⟩
 | cons s r ih =>
  intro i B hd hB
  obtain ⟨ws, hi, hd'⟩ := sg_w hT hW hd
  obtain ⟨h1, h2, _⟩ := sg_in g0 T hd
  have hl : T.length ≤ 100000 := by omega
  have hst : ∀ {b : Bool} {R}, ownTag s.f0 = !b → Ev (fun k => F87.j2 k b (g0 :: T) ((i + 1 : Nat) : Int) v2 v3 v4 v5 0 (mc : Int) B) R → Ev (fun k => F87.l0 k (g0 :: T) ((i + 1 : Nat) : Int) v2 v3 v4 v5 0 (mc : Int) B) R := fun {b R} hb h => by
   refine Ev.step (fun k => F87.l0.eq_2 ..) (Ev.pos h1 (Ev.bindc (tag_in g0 T v2 v3 v4 v5 hd 0) (Ev.bindc (l03Own_eq s.f0) ?_)))
   rw [hb, Bool.not_not]
   exact h
  by_cases hO : ownTag s.f0 = true
  ·obtain ⟨c, e1, e2, e3, e4⟩ := ends_in g0 T v2 v3 v4 v5 hd (by omega) ws tMST (.inl rfl) B.length mc (by omega) hmc
   refine ⟨_, hst (b := false) hO (Ev.step (fun k => F87.j2.eq_2 ..) (Ev.neg (by simp) (Ev.bind e2 (Ev.now _)))), ?_⟩
   by_cases hc : c = 0
   ·refine .inr ⟨[], r, by rw [e3 hc]; simp, by simp, by simpa using hB, ?_⟩
    subst hc
    simp
   ·refine .inl ⟨by simp [hc], hc, ?_⟩
    by_cases ht : s.f0 = tMST
    ·exact Fin.bad hd hl hc (take_mst P kd ct M (mc : Int) B ht e1)
    ·show Fin n T 2 _ i c
     rw [e4 ht]
     exact Fin.bad hd hl (by omega) (take2_no P kd ct M (mc : Int) B s ws.1 ht (.inr (own_ms hO _)))
  ·rw [Bool.not_eq_true] at hO
   have ht := own_tr hO
   have hbad : B.length = 40 ∨ bodyB s.f0 s.f1 = false → Fin n T 2 (P ++ [⟨kd, ct, M ++ [⟨(mc : Int), B⟩]⟩]) i 3 := fun h => Fin.bad hd hl (by omega) (take2_no P kd ct M (mc : Int) B s ws.1 ht h)
   have j3 : Ev (fun k => F87.j3 k true (g0 :: T) ((i + 1 : Nat) : Int) v2 v3 v4 v5 3 (mc : Int) B) ((mc : Int), B, false, ((i + 1 : Nat) : Int), 3) := Ev.step (fun k => F87.j3.eq_2 ..) (Ev.pos rfl (Ev.now _))
   have hsr := specSeg_ev s.f0 s.f1 ws.1.1 ws.1.2
   have hj2 : ∀ {R}, Ev (fun k => if segB s.f0 s.f1 = true then F87.j3 k (!decide ((B.length : Int) < 40)) (g0 :: T) ((i + 1 : Nat) : Int) v2 v3 v4 v5 (if decide ((B.length : Int) < 40) = true then 0 else 3) (mc : Int) B else F87.j3 k true (g0 :: T) ((i + 1 : Nat) : Int) v2 v3 v4 v5 3 (mc : Int) B) R → Ev (fun k => F87.l0 k (g0 :: T) ((i + 1 : Nat) : Int) v2 v3 v4 v5 0 (mc : Int) B) R := fun {R} h => by
    refine hst (b := true) hO (Ev.step (fun k => F87.j2.eq_2 ..) (Ev.pos rfl (Ev.pos (by omega) (Ev.pos h1 ?_))))
    rw [h2]
    refine Ev.bind hsr ?_
    simp only [need_in g0 T v2 v3 v4 v5 hd _ 3 (by omega), Option.bind_some]
    exact h
   by_cases hs : segB s.f0 s.f1 = true
   ·by_cases hB2 : B.length = 40
    ·have : decide ((B.length : Int) < 40) = false := decide_eq_false (by omega)
     rw [this] at hj2
     exact ⟨_, hj2 (Ev.pos hs j3), .inl ⟨rfl, (by omega : (3 : Int) ≠ 0), hbad (.inl hB2)⟩⟩
    ·have : decide ((B.length : Int) < 40) = true := decide_eq_true (by omega)
     rw [this] at hj2
     have hbb : bodyB s.f0 s.f1 = true := by unfold bodyB; simp [hs, hO]
     obtain ⟨R, f1, f2⟩ := ih (i + 1) (B ++ [s]) hd' (by simp; omega)
     refine ⟨R, hj2 (Ev.pos hs (Ev.step (fun k => F87.j3.eq_2 ..) (Ev.neg (by simp) (Ev.pos (by omega) (Ev.pos h1 ?_))))), ?_⟩
     ·rw [h2]
      refine Ev.bind (copySeg_ev s ws.1.1 (fun e he => (ws.1.2 e he).1)) (Ev.pos (by omega) ?_)
      rw [wi_ (by omega)]
      exact f1
     ·rcases f2 with ⟨k1, k2, k3⟩ | ⟨S, r', k1, k2, k3, k4⟩
      ·exact .inl ⟨k1, k2, Fin.fwd (S := [s]) (Reads.one (take_body n P kd ct M (mc : Int) B s (by omega) ws.1 hbb)) hl hd k3⟩
      ·refine .inr ⟨s :: S, r', by rw [k1]; simp, fun x hx => ?_, by simpa using k3, by rw [k4]; simp; omega⟩
       rcases List.mem_cons.1 hx with rfl | hx
       ·exact ⟨ws.1, hbb⟩
       ·exact k2 x hx
   ·exact ⟨_, hj2 (Ev.neg hs j3), .inl ⟨rfl, (by omega : (3 : Int) ≠ 0), hbad (.inr (by unfold bodyB; simp [hs]))⟩⟩
theorem rmsg_ev (hT : T.length ≤ 1000) (hW : ∀ s ∈ T, WSg s) (P : List Bu) (kd ct : Int) (M : List Ms) (hM : M.length ≤ 9) (i : Nat) (hh : ∀ s r, T.drop i = s :: r → M = [] ∨ s.f0 = tMSH) :
  ∃ R : Int × List Sg × Bool × Int × Int, Ev (fun k => F87.f k (g0 :: T) ((i + 1 : Nat) : Int) v2 v3 v4 v5 0) R ∧
   ((R.2.2.1 = false ∧ R.2.2.2.2 ≠ 0 ∧ Fin n T 1 (P ++ [⟨kd, ct, M⟩]) i R.2.2.2.2) ∨ ∃ m r', T.drop i = segsM m ++ r' ∧ rM m ∧ R = (m.f0, m.f1, true, ((i + (segsM m).length + 1 : Nat) : Int), 0)) := by
 unfold F87.f
 cases hd : T.drop i with
 | nil => exact ⟨(0, [], false, ((i + 1 : Nat) : Int), 4), Ev.bindc (tag_out g0 T v2 v3 v4 v5 hd 0) (Ev.bindc (need_out g0 T v2 v3 v4 v5 hd _ _) (Ev.neg (by simp) (Ev.now _))), .inl ⟨rfl, (by omega : (4 : Int) ≠ 0), Fin.short hd (by omega)⟩⟩
 | cons s r =>
  obtain ⟨ws, hi, hd'⟩ := sg_w hT hW hd
  obtain ⟨h1, h2, _⟩ := sg_in g0 T hd
  have hl : T.length ≤ 100000 := by omega
  have hbad : s.f0 ≠ tGRT ∨ M = [] → (∀ mc, ¬ isMSH s mc) → Fin n T 1 (P ++ [⟨kd, ct, M⟩]) i 3 := fun a h => Fin.bad hd hl (by omega) (take1_no P kd ct M s ws.1 a.symm (.inr h))
  have j0 : ∀ x, Ev (fun k => F87.j0 k x true (g0 :: T) ((i + 1 : Nat) : Int) v2 v3 v4 v5 3 0) (0, [], false, ((i + 1 : Nat) : Int), 3) := fun x => Ev.step (fun k => F87.j0.eq_2 ..) (Ev.pos rfl (Ev.now _))
  by_cases ht : s.f0 = tMSH
  ·have hq : (s.f0.toList == ([77, 83, 72] : List UInt8)) = true := by rw [ht, tMSH_l]; rfl
   have hng : s.f0 ≠ tGRT := fun e => tag_ne tMSH_l tGRT_l (by decide) (ht.symm.trans e)
   obtain ⟨R, e1, e2⟩ := msh_ev s ws.1 ws.2.1 ht
   have key : ∀ {Q}, Ev (fun k => if R.2 = true then (if 0 < (R.1.length : Int) then ((F40.f (rd R.1 0)).bind fun t839 => ((F48.f (g0 :: T) ((i + 1 : Nat) : Int) v2 v3 v4 v5 0 t839 3).bind fun bt840 => (F87.j0 k R.1 (!bt840.1) (g0 :: T) bt840.2.1 v2 v3 v4 v5 bt840.2.2 0))) else none) else ((F48.f (g0 :: T) ((i + 1 : Nat) : Int) v2 v3 v4 v5 0 false 3).bind fun bt843 => (F87.j0 k R.1 (!bt843.1) (g0 :: T) bt843.2.1 v2 v3 v4 v5 bt843.2.2 0))) Q → Ev (fun k => F87.f k (g0 :: T) ((i + 1 : Nat) : Int) v2 v3 v4 v5 0) Q := fun {Q} h => by
    unfold F87.f
    refine Ev.bindc (tag_in g0 T v2 v3 v4 v5 hd 0) (Ev.bindc (need_in g0 T v2 v3 v4 v5 hd _ 3 (by omega)) ?_)
    rw [hq]
    refine Ev.pos rfl (Ev.pos (by dsimp only; omega) (Ev.pos h1 ?_))
    rw [h2]
    exact Ev.bind e1 h
   unfold F87.f at key
   rcases e2 with ⟨mc, hm, rfl⟩ | ⟨hno, hR⟩
   ·obtain ⟨hms, hm1, hm2⟩ := hm
    obtain ⟨R, f1, f2⟩ := body_loop (n := n) g0 v2 v3 v4 v5 hT hW P kd ct M mc (by omega) r (i + 1) [] hd' (by simp)
    refine ⟨R, key (Ev.pos rfl (Ev.pos (by simp) (Ev.bindc (l01Control_eq _) (Ev.bindc (need_in g0 T v2 v3 v4 v5 hd _ 3 (by omega)) ?_)))), ?_⟩
    ·rw [show ctlB (rd [(mc : Int)] 0) = true from decide_eq_true (show 1 ≤ (mc : Int) ∧ (mc : Int) ≤ 999999 by omega)]
     refine Ev.step (fun k => F87.j0.eq_2 ..) (Ev.neg (by simp) (Ev.pos (by simp) ?_))
     dsimp only
     rw [wi_ (by omega)]
     exact f1
    ·have hrd : Reads n [s] 1 (P ++ [⟨kd, ct, M⟩]) 2 (P ++ [⟨kd, ct, M ++ [⟨(mc : Int), []⟩]⟩]) := by
      rw [hms]
      exact Reads.one (take_msh n P kd ct M mc hM hm1 hm2)
     rcases f2 with ⟨k1, k2, k3⟩ | ⟨S, r', k1, k2, k3, k4⟩
     ·exact .inl ⟨k1, k2, Fin.fwd hrd hl hd k3⟩
     ·rw [List.nil_append] at k1 k3 k4
      refine .inr ⟨⟨(mc : Int), S⟩, r', ?_, ⟨⟨by show 1 ≤ (mc : Int); omega, by show (mc : Int) ≤ 999999; omega⟩, k3, k2⟩, ?_⟩
      ·rw [k1, hms]
       simp [segsM]
      ·rw [k4]
       simp [segsM]
       omega
   ·refine ⟨(0, [], false, ((i + 1 : Nat) : Int), 3), key ?_, .inl ⟨rfl, (by omega : (3 : Int) ≠ 0), hbad (.inl hng) hno⟩⟩
    rcases hR with hR | ⟨hR, v, hv, hc⟩
    ·exact Ev.neg (by rw [hR]; simp) (Ev.bindc (need_in g0 T v2 v3 v4 v5 hd false 3 (by omega)) (j0 _))
    ·refine Ev.pos hR (Ev.pos (by rw [hv]; simp) (Ev.bindc (l01Control_eq _) (Ev.bindc (need_in g0 T v2 v3 v4 v5 hd _ 3 (by omega)) ?_)))
     rw [show ctlB (rd R.1 0) = false by rw [hv]; exact hc]
     exact j0 _
  ·have hq : (s.f0.toList == ([77, 83, 72] : List UInt8)) = false := beq_eq_false_iff_ne.2 fun z => ht (toList_inj.1 (z.trans tMSH_l.symm))
   refine ⟨(0, [], false, ((i + 1 : Nat) : Int), 3), Ev.bindc (tag_in g0 T v2 v3 v4 v5 hd 0) (Ev.bindc (need_in g0 T v2 v3 v4 v5 hd _ 3 (by omega)) ?_), .inl ⟨rfl, (by omega : (3 : Int) ≠ 0), hbad (.inr ((hh s r hd).resolve_right ht)) fun mc hm => ht (by rw [hm.1]; rfl)⟩⟩
   rw [hq]
   exact Ev.neg (by simp) (Ev.now _)
theorem msgs_loop (hT : T.length ≤ 1000) (hW : ∀ s ∈ T, WSg s) (P : List Bu) (kd : Int) (ct : Nat) (hct : ct ≤ 1000000) : ∀ (d i : Nat) (M : List Ms), T.length - i ≤ d → M.length ≤ 10 →
  ∃ R : Int × Int × List Ms × Bool × Int × Int, Ev (fun k => F49.l0 k (g0 :: T) ((i + 1 : Nat) : Int) v2 v3 v4 v5 0 kd (ct : Int) M) R ∧
   ((R.2.2.2.1 = false ∧ R.2.2.2.2.2 ≠ 0 ∧ Fin n T 1 (P ++ [⟨kd, (ct : Int), M⟩]) i R.2.2.2.2.2) ∨ ∃ S r', T.drop i = S.flatMap segsM ++ plainS tGRT [decS ((M ++ S).length : Int), decS (ct : Int)] :: r' ∧ (∀ m ∈ S, rM m) ∧ (1 ≤ (M ++ S).length ∧ (M ++ S).length ≤ 10) ∧ R = (kd, (ct : Int), M ++ S, true, ((i + (S.flatMap segsM).length + 2 : Nat) : Int), 0)) := by
 intro d
 induction d with
 | zero =>
  intro i M hi hM
  have hd : T.drop i = [] := List.drop_eq_nil_of_le (by omega)
  refine ⟨(kd, (ct : Int), M, false, ((i + 1 : Nat) : Int), 4), ?_, .inl ⟨rfl, (by omega : (4 : Int) ≠ 0), Fin.short hd (by omega)⟩⟩
  have hn : Ev (fun k => F49.j2 k true (g0 :: T) ((i + 1 : Nat) : Int) v2 v3 v4 v5 0 kd (ct : Int) M) (kd, (ct : Int), M, false, ((i + 1 : Nat) : Int), 4) :=
   Ev.step (fun k => F49.j2.eq_2 ..) (Ev.pos rfl (Ev.bindc (need_out g0 T v2 v3 v4 v5 hd _ _) (Ev.neg (by simp) (Ev.now _))))
  refine Ev.step (fun k => F49.l0.eq_2 ..) (Ev.ite (fun _ => hn) (fun _ => Ev.bindc (tag_out g0 T v2 v3 v4 v5 hd 0) ?_))
  rw [show ((⟨#[]⟩ : ByteArray).toList == ([77, 83, 72] : List UInt8)) = false from by rw [tl_ []]; rfl]
  exact Ev.step (fun k => F49.j2.eq_2 ..) (Ev.neg (by simp) (Ev.bind (ends_out g0 T v2 v3 v4 v5 hd _ _ _) (Ev.now _)))
 | succ d ih =>
  intro i M hi hM
  cases hd : T.drop i with
  | nil =>
   have hl := ldrop_nil hd
   have := ih i M (by omega) hM
   rwa [hd] at this
  | cons s r =>
   obtain ⟨ws, hi', hd'⟩ := sg_w hT hW hd
   obtain ⟨h1, h2, _⟩ := sg_in g0 T hd
   have hl : T.length ≤ 100000 := by omega
   by_cases hh : M = [] ∨ s.f0 = tMSH
   ·have hst : ∀ {R}, Ev (fun k => F49.j2 k true (g0 :: T) ((i + 1 : Nat) : Int) v2 v3 v4 v5 0 kd (ct : Int) M) R → Ev (fun k => F49.l0 k (g0 :: T) ((i + 1 : Nat) : Int) v2 v3 v4 v5 0 kd (ct : Int) M) R := fun {R} h => by
     refine Ev.step (fun k => F49.l0.eq_2 ..) (Ev.ite (fun _ => h) (fun g => Ev.bindc (tag_in g0 T v2 v3 v4 v5 hd 0) ?_))
     rw [show (s.f0.toList == ([77, 83, 72] : List UInt8)) = true from by rw [hh.resolve_left (fun e => g (by rw [e]; rfl)), tMSH_l]; rfl]
     exact h
    by_cases hM2 : M.length = 10
    ·refine ⟨(kd, (ct : Int), M, false, ((i + 1 : Nat) : Int), 3), hst (Ev.step (fun k => F49.j2.eq_2 ..) (Ev.pos rfl (Ev.bindc (need_in g0 T v2 v3 v4 v5 hd _ 3 (by omega)) ?_))), .inl ⟨rfl, (by omega : (3 : Int) ≠ 0), Fin.bad (c := 3) hd hl (by omega) (take1_no P kd (ct : Int) M s ws.1 (.inr fun e => tag_ne tMSH_l tGRT_l (by decide) ((hh.resolve_left (fun e => by rw [e] at hM2; simp at hM2)).symm.trans e)) (.inl hM2))⟩⟩
     rw [decide_eq_false (by omega)]
     exact Ev.neg (by simp) (Ev.now _)
    ·obtain ⟨Q, e1, e2⟩ := rmsg_ev (n := n) g0 v2 v3 v4 v5 hT hW P kd (ct : Int) M (by omega) i (fun s' r' h' => by rw [hd] at h'; cases h'; exact hh)
     have hst2 : ∀ {R}, Ev (fun k => if Q.2.2.1 = true then (if M.length < 4398046511104 then F49.l0 k (g0 :: T) Q.2.2.2.1 v2 v3 v4 v5 Q.2.2.2.2 kd (ct : Int) (M ++ [(⟨Q.1, Q.2.1⟩ : Ms)]) else none) else some (kd, (ct : Int), M, false, Q.2.2.2.1, Q.2.2.2.2)) R → Ev (fun k => F49.l0 k (g0 :: T) ((i + 1 : Nat) : Int) v2 v3 v4 v5 0 kd (ct : Int) M) R := fun {R} h => by
      refine hst (Ev.step (fun k => F49.j2.eq_2 ..) (Ev.pos rfl (Ev.bindc (need_in g0 T v2 v3 v4 v5 hd _ 3 (by omega)) ?_)))
      rw [decide_eq_true (by omega)]
      exact Ev.pos rfl (Ev.bind e1 h)
     rcases e2 with ⟨k1, k2, k3⟩ | ⟨m, r', k1, k2, rfl⟩
     ·exact ⟨_, hst2 (Ev.neg (by rw [k1]; simp) (Ev.now _)), .inl ⟨rfl, k2, k3⟩⟩
     ·have hlen : 2 ≤ (segsM m).length := by unfold segsM; simp
      have hdr : T.drop (i + (segsM m).length) = r' := by rw [← List.drop_drop, k1, List.drop_left]
      obtain ⟨R, f1, f2⟩ := ih (i + (segsM m).length) (M ++ [m]) (by omega) (by simp; omega)
      refine ⟨R, hst2 (Ev.pos rfl (Ev.pos (by omega) f1)), ?_⟩
      rcases f2 with ⟨l1, l2, l3⟩ | ⟨S, r2, l1, l2, l3, l4⟩
      ·exact .inl ⟨l1, l2, Fin.fwd (reads_msg n P kd (ct : Int) M m (by omega) k2) hl k1 l3⟩
      ·rw [List.append_assoc, List.singleton_append] at l1 l3 l4
       refine .inr ⟨m :: S, r2, ?_, fun x hx => ?_, l3, ?_⟩
       ·rw [← hd, k1, ← hdr, l1, List.flatMap_cons, List.append_assoc]
       ·rcases List.mem_cons.1 hx with rfl | hx
        ·exact k2
        ·exact l2 x hx
       ·rw [l4, List.flatMap_cons, List.length_append, Nat.add_assoc i]
   ·have hM1 : 1 ≤ M.length := List.length_pos_iff.2 fun e => hh (.inl e)
    have ht : s.f0 ≠ tMSH := fun e => hh (.inr e)
    obtain ⟨c, e1, e2, e3, e4⟩ := ends_in g0 T v2 v3 v4 v5 hd (by omega) ws tGRT (.inr (.inl rfl)) M.length ct (by omega) hct
    refine ⟨(kd, (ct : Int), M, decide (c = 0), ((i + (if c = 0 then 2 else 1) : Nat) : Int), c), Ev.step (fun k => F49.l0.eq_2 ..) (Ev.neg (by omega) (Ev.bindc (tag_in g0 T v2 v3 v4 v5 hd 0) ?_)), ?_⟩
    ·rw [show (s.f0.toList == ([77, 83, 72] : List UInt8)) = false from beq_eq_false_iff_ne.2 fun z => ht (toList_inj.1 (z.trans tMSH_l.symm))]
     exact Ev.step (fun k => F49.j2.eq_2 ..) (Ev.neg (by simp) (Ev.bind e2 (Ev.now _)))
    ·by_cases hc : c = 0
     ·refine .inr ⟨[], r, by rw [e3 hc]; simp, by simp, by simpa using ⟨hM1, hM⟩, ?_⟩
      subst hc
      simp
     ·refine .inl ⟨by simp [hc], hc, ?_⟩
      by_cases hg : s.f0 = tGRT
      ·exact Fin.bad hd hl hc (take_grt P kd (ct : Int) M hg hM1 e1)
      ·show Fin n T 1 _ i c
       rw [e4 hg]
       exact Fin.bad hd hl (by omega) (take1_no P kd (ct : Int) M s ws.1 (.inr hg) (.inr fun mc hm => ht (by rw [hm.1]; rfl)))
theorem rbun_ev (hT : T.length ≤ 1000) (hW : ∀ s ∈ T, WSg s) (P : List Bu) (hP : P.length ≤ 4) (i : Nat) (hh : ∀ s r, T.drop i = s :: r → P = [] ∨ s.f0 = tGRH) :
  ∃ R : Int × Int × List Ms × Bool × Int × Int, Ev (fun k => F49.f k (g0 :: T) ((i + 1 : Nat) : Int) v2 v3 v4 v5 0) R ∧
   ((R.2.2.2.1 = false ∧ R.2.2.2.2.2 ≠ 0 ∧ Fin n T 0 P i R.2.2.2.2.2) ∨ ∃ b r', T.drop i = segsB b ++ r' ∧ rB b ∧ R = (b.f0, b.f1, b.f2, true, ((i + (segsB b).length + 1 : Nat) : Int), 0)) := by
 unfold F49.f
 cases hd : T.drop i with
 | nil => exact ⟨(0, 0, [], false, ((i + 1 : Nat) : Int), 4), Ev.bindc (tag_out g0 T v2 v3 v4 v5 hd 0) (Ev.bindc (need_out g0 T v2 v3 v4 v5 hd _ _) (Ev.neg (by simp) (Ev.now _))), .inl ⟨rfl, (by omega : (4 : Int) ≠ 0), Fin.short hd (by omega)⟩⟩
 | cons s r =>
  obtain ⟨ws, hi, hd'⟩ := sg_w hT hW hd
  obtain ⟨h1, h2, _⟩ := sg_in g0 T hd
  have hl : T.length ≤ 100000 := by omega
  have hbad : s.f0 ≠ tIXT ∨ P = [] → (∀ kd ct, ¬ isGRH s kd ct) → Fin n T 0 P i 3 := fun a h => Fin.bad hd hl (by omega) (take0_no P s ws.1 a.symm (.inr h))
  have j0 : ∀ x, Ev (fun k => F49.j0 k x true (g0 :: T) ((i + 1 : Nat) : Int) v2 v3 v4 v5 3 0 0) (0, 0, [], false, ((i + 1 : Nat) : Int), 3) := fun x => Ev.step (fun k => F49.j0.eq_2 ..) (Ev.pos rfl (Ev.now _))
  by_cases ht : s.f0 = tGRH
  ·have hq : (s.f0.toList == ([71, 82, 72] : List UInt8)) = true := by rw [ht, tGRH_l]; rfl
   have hng : s.f0 ≠ tIXT := fun e => tag_ne tGRH_l tIXT_l (by decide) (ht.symm.trans e)
   obtain ⟨R, e1, e2⟩ := grh_ev s ws.1 ws.2.1 ht
   rcases e2 with ⟨kd, ct, hm, rfl⟩ | ⟨hno, hR⟩
   ·obtain ⟨hms, hm1, hm2, hm3, hm4⟩ := hm
    obtain ⟨R, f1, f2⟩ := msgs_loop (n := n) g0 v2 v3 v4 v5 hT hW P (kd : Int) ct (by omega) (T.length - (i + 1)) (i + 1) [] (Nat.le_refl _) (by simp)
    refine ⟨R, Ev.bindc (tag_in g0 T v2 v3 v4 v5 hd 0) (Ev.bindc (need_in g0 T v2 v3 v4 v5 hd _ 3 (by omega)) ?_), ?_⟩
    ·rw [hq]
     refine Ev.pos rfl (Ev.pos (by dsimp only; omega) (Ev.pos h1 ?_))
     rw [h2]
     refine Ev.bind e1 (Ev.pos rfl (Ev.pos (by simp) (Ev.pos (show (kd : Int) ≥ 1 by omega) (Ev.pos (show (kd : Int) ≤ 7 by omega) (Ev.pos (by simp) (Ev.bindc (l01Control_eq _) (Ev.bindc (need_in g0 T v2 v3 v4 v5 hd _ 3 (by omega)) ?_)))))))
     rw [show ctlB (rd [(kd : Int), (ct : Int)] 1) = true from decide_eq_true (show 1 ≤ (ct : Int) ∧ (ct : Int) ≤ 999999 by omega)]
     refine Ev.step (fun k => F49.j0.eq_2 ..) (Ev.neg (by simp) (Ev.pos (by simp) (Ev.pos (by simp) ?_)))
     dsimp only
     rw [wi_ (by omega)]
     exact f1
    ·have hrd : Reads n [s] 0 P 1 (P ++ [⟨(kd : Int), (ct : Int), []⟩]) := by
      rw [hms]
      exact Reads.one (take_grh n P kd ct hP hm1 hm2 hm3 hm4)
     rcases f2 with ⟨k1, k2, k3⟩ | ⟨S, r', k1, k2, k3, k4⟩
     ·exact .inl ⟨k1, k2, Fin.fwd hrd hl hd k3⟩
     ·rw [List.nil_append] at k1 k3 k4
      refine .inr ⟨⟨(kd : Int), (ct : Int), S⟩, r', ?_, ⟨⟨by show 1 ≤ (kd : Int); omega, by show (kd : Int) ≤ 7; omega⟩, ⟨by show 1 ≤ (ct : Int); omega, by show (ct : Int) ≤ 999999; omega⟩, k3, k2⟩, ?_⟩
      ·rw [← hd', k1, hms]
       simp [segsB]
      ·rw [k4]
       simp [segsB]
       omega
   ·refine ⟨(0, 0, [], false, ((i + 1 : Nat) : Int), 3), Ev.bindc (tag_in g0 T v2 v3 v4 v5 hd 0) (Ev.bindc (need_in g0 T v2 v3 v4 v5 hd _ 3 (by omega)) ?_), .inl ⟨rfl, (by omega : (3 : Int) ≠ 0), hbad (.inl hng) hno⟩⟩
    rw [hq]
    refine Ev.pos rfl (Ev.pos (by dsimp only; omega) (Ev.pos h1 ?_))
    rw [h2]
    have hf : Ev (fun k => (F48.f (g0 :: T) ((i + 1 : Nat) : Int) v2 v3 v4 v5 0 false 3).bind fun b => F49.j0 k R.1 (!b.1) (g0 :: T) b.2.1 v2 v3 v4 v5 b.2.2 0 0) _ := Ev.bindc (need_in g0 T v2 v3 v4 v5 hd false 3 (by omega)) (j0 R.1)
    refine Ev.bind e1 ?_
    rcases hR with hR | ⟨hR, v, u, hv, hc⟩
    ·exact Ev.neg (by rw [hR]; simp) hf
    ·have g0' : rd R.1 0 = v := by rw [hv]; rfl
     have g1' : rd R.1 1 = u := by rw [hv]; rfl
     refine Ev.pos hR (Ev.pos (by rw [hv]; simp) (Ev.ite (fun a => Ev.ite (fun b => ?_) (fun _ => hf)) (fun _ => hf)))
     rw [g0'] at a b
     refine Ev.pos (by rw [hv]; simp) (Ev.bindc (l01Control_eq _) (Ev.bindc (need_in g0 T v2 v3 v4 v5 hd _ 3 (by omega)) ?_))
     rw [g1', hc a b]
     exact j0 _
  ·have hq : (s.f0.toList == ([71, 82, 72] : List UInt8)) = false := beq_eq_false_iff_ne.2 fun z => ht (toList_inj.1 (z.trans tGRH_l.symm))
   refine ⟨(0, 0, [], false, ((i + 1 : Nat) : Int), 3), Ev.bindc (tag_in g0 T v2 v3 v4 v5 hd 0) (Ev.bindc (need_in g0 T v2 v3 v4 v5 hd _ 3 (by omega)) ?_), .inl ⟨rfl, (by omega : (3 : Int) ≠ 0), hbad (.inr ((hh s r hd).resolve_right ht)) fun kd ct hm => ht (by rw [hm.1]; rfl)⟩⟩
   rw [hq]
   exact Ev.neg (by simp) (Ev.now _)
theorem ixl_loop (hT : T.length ≤ 1000) (hW : ∀ s ∈ T, WSg s) : ∀ (d i : Nat) (L : List Bu), T.length - i ≤ d → L.length ≤ 5 →
  ∃ R : Int × Int × List Bu, Ev (fun k => spec_ixl (g0 :: T) k ((i + 1 : Nat) : Int) 0 L) R ∧ ((R.2.1 ≠ 0 ∧ Fin n T 0 L i R.2.1) ∨ ∃ S i', T.drop i = S.flatMap segsB ++ T.drop i' ∧ i' = i + (S.flatMap segsB).length ∧ (∀ b ∈ S, rB b) ∧ (1 ≤ (L ++ S).length ∧ (L ++ S).length ≤ 5) ∧ (∀ s r, T.drop i' = s :: r → s.f0 ≠ tGRH) ∧ R = (((i' + 1 : Nat) : Int), 0, L ++ S)) := by
 intro d
 induction d with
 | zero =>
  intro i L hi hL
  have hd : T.drop i = [] := List.drop_eq_nil_of_le (by omega)
  by_cases hL0 : L.length = 0
  ·exact ⟨(((i + 1 : Nat) : Int), 4, L), Ev.step (fun k => spec_ixl.eq_2 ..) (Ev.bindc (tag_out g0 T _ _ _ _ hd 0) (Ev.pos ⟨rfl, .inl (by omega)⟩ (Ev.bindc (need_out g0 T _ _ _ _ hd _ _) (Ev.neg (by simp) (Ev.now _))))), .inl ⟨(by omega : (4 : Int) ≠ 0), Fin.short hd (by omega)⟩⟩
  ·refine ⟨(((i + 1 : Nat) : Int), 0, L), Ev.step (fun k => spec_ixl.eq_2 ..) (Ev.bindc (tag_out g0 T _ _ _ _ hd 0) (Ev.neg (fun g => g.2.elim (fun h => hL0 (by omega)) (fun h => ?_)) (Ev.now _))), .inr ⟨[], i, by simp, by simp, by simp, by rw [List.append_nil]; omega, fun s r h => (by rw [hd] at h; cases h), by simp⟩⟩
   rw [tl_ []] at h
   cases h
 | succ d ih =>
  intro i L hi hL
  cases hd : T.drop i with
  | nil =>
   have hl := ldrop_nil hd
   have := ih i L (by omega) hL
   rwa [hd] at this
  | cons s r =>
   obtain ⟨ws, hi', hd'⟩ := sg_w hT hW hd
   have hl : T.length ≤ 100000 := by omega
   by_cases hh : L = [] ∨ s.f0 = tGRH
   ·have hst : ∀ {R}, Ev (fun k => (F48.f (g0 :: T) ((i + 1 : Nat) : Int) sx_dv sx_dv sx_dv sx_dv 0 (decide ((L.length : Int) < 5)) 3).bind fun n => (if n.1 = true then (F49.f k (g0 :: T) n.2.1 sx_dv sx_dv sx_dv sx_dv n.2.2).bind fun b => (if b.2.2.2.1 = true then (if L.length < 3518437208883 then spec_ixl (g0 :: T) k b.2.2.2.2.1 b.2.2.2.2.2 (L ++ [(⟨b.1, b.2.1, b.2.2.1⟩ : Bu)]) else none) else some (b.2.2.2.2.1, b.2.2.2.2.2, L)) else some (n.2.1, n.2.2, L))) R → Ev (fun k => spec_ixl (g0 :: T) k ((i + 1 : Nat) : Int) 0 L) R := fun {R} h =>
     Ev.step (fun k => spec_ixl.eq_2 ..) (Ev.bindc (tag_in g0 T _ _ _ _ hd 0) (Ev.pos ⟨rfl, hh.elim (fun e => .inl (by rw [e]; rfl)) (fun e => .inr (by rw [e, tGRH_l]))⟩ h))
    by_cases hL2 : L.length = 5
    ·refine ⟨(((i + 1 : Nat) : Int), 3, L), hst (Ev.bindc (need_in g0 T _ _ _ _ hd _ 3 (by omega)) ?_), .inl ⟨(by omega : (3 : Int) ≠ 0), Fin.bad (c := 3) hd hl (by omega) (take0_no L s ws.1 (.inr fun e => tag_ne tGRH_l tIXT_l (by decide) ((hh.resolve_left (fun e => by rw [e] at hL2; simp at hL2)).symm.trans e)) (.inl hL2))⟩⟩
     rw [decide_eq_false (by omega)]
     exact Ev.neg (by simp) (Ev.now _)
    ·obtain ⟨Q, e1, e2⟩ := rbun_ev (n := n) g0 sx_dv sx_dv sx_dv sx_dv hT hW L (by omega) i (fun s' r' h' => by rw [hd] at h'; cases h'; exact hh)
     have hst2 : ∀ {R}, Ev (fun k => if Q.2.2.2.1 = true then (if L.length < 3518437208883 then spec_ixl (g0 :: T) k Q.2.2.2.2.1 Q.2.2.2.2.2 (L ++ [(⟨Q.1, Q.2.1, Q.2.2.1⟩ : Bu)]) else none) else some (Q.2.2.2.2.1, Q.2.2.2.2.2, L)) R → Ev (fun k => spec_ixl (g0 :: T) k ((i + 1 : Nat) : Int) 0 L) R := fun {R} h => by
      refine hst (Ev.bindc (need_in g0 T _ _ _ _ hd _ 3 (by omega)) ?_)
      rw [decide_eq_true (by omega)]
      exact Ev.pos rfl (Ev.bind e1 h)
     rcases e2 with ⟨k1, k2, k3⟩ | ⟨b, r', k1, k2, rfl⟩
     ·exact ⟨_, hst2 (Ev.neg (by rw [k1]; simp) (Ev.now _)), .inl ⟨k2, k3⟩⟩
     ·have hlen : 2 ≤ (segsB b).length := by unfold segsB; simp
      have hdr : T.drop (i + (segsB b).length) = r' := by rw [← List.drop_drop, k1, List.drop_left]
      obtain ⟨R, f1, f2⟩ := ih (i + (segsB b).length) (L ++ [b]) (by omega) (by simp; omega)
      refine ⟨R, hst2 (Ev.pos rfl (Ev.pos (by omega) f1)), ?_⟩
      rcases f2 with ⟨l2, l3⟩ | ⟨S, i', l1, l2, l3, l4, l5, l6⟩
      ·exact .inl ⟨l2, Fin.fwd (reads_bun n L b (by omega) k2) hl k1 l3⟩
      ·rw [List.append_assoc, List.singleton_append] at l4 l6
       refine .inr ⟨b :: S, i', ?_, ?_, fun x hx => ?_, l4, l5, l6⟩
       ·rw [← hd, k1, ← hdr, l1, List.flatMap_cons, List.append_assoc]
       ·rw [l2, List.flatMap_cons, List.length_append, Nat.add_assoc i]
       ·rcases List.mem_cons.1 hx with rfl | hx
        ·exact k2
        ·exact l3 x hx
   ·have hL1 : 1 ≤ L.length := List.length_pos_iff.2 fun e => hh (.inl e)
    have ht : s.f0 ≠ tGRH := fun e => hh (.inr e)
    exact ⟨(((i + 1 : Nat) : Int), 0, L), Ev.step (fun k => spec_ixl.eq_2 ..) (Ev.bindc (tag_in g0 T _ _ _ _ hd 0) (Ev.neg (fun g => g.2.elim (fun h => by omega) (fun h => ht (toList_inj.1 (h.trans tGRH_l.symm)))) (Ev.now _))), .inr ⟨[], i, by rw [hd]; simp, by simp, by simp, by rw [List.append_nil]; omega, fun s' r' h' => (by rw [hd] at h'; cases h'; exact ht), by simp⟩⟩
end
theorem rB_of {A B : ByteArray} {n : Int} {L : List Bu} (h : ixB A B n L = true) (hb : ∀ b ∈ L, bBn b) : (1 ≤ n ∧ n ≤ 999999) ∧ (1 ≤ L.length ∧ L.length ≤ 5) ∧ (∀ b ∈ L, rB b) ∧ nameP (bytesOf A) = true ∧ nameP (bytesOf B) = true := by
 simp only [ixB, bunB, msgB, ctlB, Bool.and_eq_true, decide_eq_true_eq, List.all_eq_true] at h
 obtain ⟨hA, hB, hn, hl, hL⟩ := h
 refine ⟨hn, hl, fun b hbm => ?_, hA, hB⟩
 obtain ⟨h1, h2, h3, h4⟩ := hL b hbm
 refine ⟨h1, h2, h3, fun m hm => ?_⟩
 obtain ⟨g1, g2, g3⟩ := h4 m hm
 exact ⟨g1, g2, fun s hs => ⟨((hb b hbm).2 m hm).2 s hs, g3 s hs⟩⟩
theorem ixB_of {A B : ByteArray} {n : Int} {L : List Bu} (hn : 1 ≤ n ∧ n ≤ 999999) (hl : 1 ≤ L.length ∧ L.length ≤ 5) (hL : ∀ b ∈ L, rB b) (hA : nameP (bytesOf A) = true) (hB : nameP (bytesOf B) = true) : ixB A B n L = true ∧ ∀ b ∈ L, bBn b := by
 refine ⟨?_, fun b hb => ⟨by have := (hL b hb).2.2.1; omega, fun m hm => ⟨by have := ((hL b hb).2.2.2 m hm).2.1; omega, fun s hs => (((hL b hb).2.2.2 m hm).2.2 s hs).1⟩⟩⟩
 simp only [ixB, bunB, msgB, ctlB, Bool.and_eq_true, decide_eq_true_eq, List.all_eq_true]
 refine ⟨hA, hB, hn, hl, fun b hb => ?_⟩
 obtain ⟨h1, h2, h3, h4⟩ := hL b hb
 exact ⟨h1, h2, h3, fun m hm => ⟨(h4 m hm).1, (h4 m hm).2.1, fun s hs => ((h4 m hm).2.2 s hs).2⟩⟩
theorem head_sg (A B : ByteArray) (m : Nat) (h2 : m ≤ 999999) (hsA : A.size ≤ 1048576) (hsB : B.size ≤ 1048576) : bSg (plainS tIXH [A, B, decS (m : Int)]) := by
 have hd := decS_size m (by omega)
 refine ⟨by simp [plainS], fun e he => ?_⟩
 simp [plainS] at he
 rcases he with rfl | rfl | rfl <;> refine ⟨by simp, fun s hs => ?_⟩ <;> simp at hs <;> subst hs <;> omega
theorem headOf_ok (A B : ByteArray) (m : Nat) (r : List Sg) (hA : nameP (bytesOf A) = true) (hB : nameP (bytesOf B) = true) (h1 : 1 ≤ m) (h2 : m ≤ 999999) (hr : r.length ≤ 399) (hsA : A.size ≤ 1048576) (hsB : B.size ≤ 1048576) :
  Ev (fun k => F43.f k (plainS tIXH [A, B, decS (m : Int)] :: r)) (goodO A B m) := by
 unfold F43.f
 obtain ⟨R, e1, _, e3⟩ := implHead_ev _ (head_sg A B m h2 hsA hsB)
 have hR := e3 A B m ⟨rfl, hA, hB, h1, h2⟩
 subst hR
 exact Ev.bindc rfl (Ev.neg (by first | (simp; done) | (simp; omega)) (Ev.neg (by first | (simp; done) | (simp; omega)) (Ev.pos (by first | (simp; done) | (simp; omega)) (Ev.bind e1 (Ev.pos rfl (Ev.now _))))))
theorem read_ok {A B : ByteArray} {m : Nat} {L : List Bu} {T : List Sg} (hd : Ev (fun k => F43.f k (plainS tIXH [A, B, decS (m : Int)] :: T)) (goodO A B m)) (hT : T = L.flatMap segsB ++ [plainS tIXT [decS (L.length : Int), decS (m : Int)]]) (hl : T.length ≤ 100000) (hm : m ≤ 999999) (h1 : 1 ≤ L.length ∧ L.length ≤ 5) (hL : ∀ b ∈ L, rB b) :
  Ev (fun k => F16.f k (plainS tIXH [A, B, decS (m : Int)] :: T)) (A, B, (m : Int), L, true, 0, 0) := by
 unfold F16.f
 have hr := reads_all m L hm h1.1 h1.2 hL T [] 0 (0, 0, 3, L) hl (by rw [List.append_nil]; exact hT) (ixr_end (by rw [← hT]; simp))
 exact Ev.bind hd (Ev.pos rfl (Ev.pos (by simp) (Ev.bind hr (Ev.pos rfl (Ev.pos rfl (Ev.now _))))))
theorem read_bad {A B : ByteArray} {m : Nat} {T : List Sg} {g0 : Sg} {c : Int} (hd : Ev (fun k => F43.f k (g0 :: T)) (goodO A B m)) (hc : c ≠ 0) (h : Fin (m : Int) T 0 [] 0 c) : ∃ R : IxO, Ev (fun k => F16.f k (g0 :: T)) R ∧ R.2.2.2.2.2.2 = c := by
 obtain ⟨q, e, rfl⟩ := h
 unfold F16.f
 unfold fin at hc ⊢
 by_cases h1 : q.1 = 0
 ·rw [if_pos h1] at hc ⊢
  by_cases h3 : q.2.2.1 = 3
  ·rw [if_pos h3] at hc
   exact absurd rfl hc
  ·rw [if_neg h3]
   exact ⟨_, Ev.bind hd (Ev.pos rfl (Ev.pos (by simp) (Ev.bind e (Ev.pos h1 (Ev.neg h3 (Ev.now _)))))), rfl⟩
 ·rw [if_neg h1]
  exact ⟨_, Ev.bind hd (Ev.pos rfl (Ev.pos (by simp) (Ev.bind e (Ev.neg h1 (Ev.now _))))), rfl⟩
theorem two_readers (G : List Sg) (hl : G.length ≤ 1000000) (hW : ∀ s ∈ G, WSg s) : ∃ R Q : IxO, Ev (fun k => F16.f k G) R ∧ Ev (fun k => F20.f k G) Q ∧ Q.2.2.2.2.2.2 = R.2.2.2.2.2.2 ∧ (R.2.2.2.2.2.2 = 0 → Ev (fun k => F8.f k R.1 R.2.1 R.2.2.1 R.2.2.2.1) G) := by
 obtain ⟨H, e1, e2, _, e4⟩ := heads_ev G (by omega) (fun g hg => (hW g hg).1)
 by_cases hH : H.2.2.2.2.2.2 = 0
 rotate_left
 ·refine ⟨(H.1, H.2.1, H.2.2.1, [], H.2.2.2.2.1, H.2.2.2.2.2.1, H.2.2.2.2.2.2), H, ?_, ?_, rfl, fun h => absurd h hH⟩
  ·unfold F16.f
   exact Ev.bind e2 (Ev.neg hH (Ev.now _))
  ·unfold F20.f
   exact Ev.bind e1 (Ev.neg hH (Ev.now _))
 ·obtain ⟨hl4, A, B, m, T, rfl, hh, rfl⟩ := e4 hH
  have hg := (hW _ List.mem_cons_self).1
  have hT : T.length ≤ 399 := by simpa using hl4
  have hWT : ∀ s ∈ T, WSg s := fun s hs => hW s (List.mem_cons_of_mem _ hs)
  generalize hgd : plainS tIXH [A, B, decS (m : Int)] = g0 at e1 e2 hg
  have hm := hh.2.2.2
  obtain ⟨q, f1, f2⟩ := ixl_loop (n := (m : Int)) g0 (by omega) hWT T.length 0 [] (by omega) (by simp)
  have hspec : ∀ {z : Int × Int} , Ev (fun k => if q.2.1 = 0 then (F50.f k (g0 :: T) q.1 sx_dv sx_dv sx_dv sx_dv q.2.1 (⟨#[73, 88, 84]⟩ : ByteArray) (q.2.2.length : Int) (m : Int)).bind fun e => (if e.1 = true then (if e.2.1 < ((g0 :: T).length : Int) then some (e.2.1, 3) else some e.2) else some e.2) else some (q.1, q.2.1)) z → Ev (fun k => F20.f k (g0 :: T)) (if z.2 = 0 then (A, B, (m : Int), q.2.2, true, 0, 0) else (A, B, (m : Int), [], true, z.1, z.2)) := fun {z} h => by
   unfold F20.f
   refine Ev.bind e1 (Ev.pos rfl (Ev.bind f1 (Ev.bind h ?_)))
   by_cases hz : z.2 = 0
   ·simp only [if_pos hz]
    exact Ev.ret rfl
   ·simp only [if_neg hz]
    exact Ev.ret rfl
  have hfail : ∀ {z : Int × Int}, z.2 ≠ 0 → Fin (m : Int) T 0 [] 0 z.2 → Ev (fun k => if q.2.1 = 0 then (F50.f k (g0 :: T) q.1 sx_dv sx_dv sx_dv sx_dv q.2.1 (⟨#[73, 88, 84]⟩ : ByteArray) (q.2.2.length : Int) (m : Int)).bind fun e => (if e.1 = true then (if e.2.1 < ((g0 :: T).length : Int) then some (e.2.1, 3) else some e.2) else some e.2) else some (q.1, q.2.1)) z →
    ∃ R Q : IxO, Ev (fun k => F16.f k (g0 :: T)) R ∧ Ev (fun k => F20.f k (g0 :: T)) Q ∧ Q.2.2.2.2.2.2 = R.2.2.2.2.2.2 ∧ (R.2.2.2.2.2.2 = 0 → Ev (fun k => F8.f k R.1 R.2.1 R.2.2.1 R.2.2.2.1) (g0 :: T)) := fun {z} hz hf h => by
   obtain ⟨R, r1, r2⟩ := read_bad e2 hz hf
   have h2 := hspec h
   rw [if_neg hz] at h2
   exact ⟨R, _, r1, h2, r2.symm, fun h0 => absurd (r2.symm.trans h0) hz⟩
  rcases f2 with ⟨k1, k2⟩ | ⟨S, i', k1, k2, k3, k4, k5, rfl⟩
  ·exact hfail (z := (q.1, q.2.1)) k1 k2 (Ev.neg k1 (Ev.now _))
  ·rw [List.nil_append] at k4
   have hlT : T.length ≤ 100000 := by omega
   have hrd : Reads (m : Int) (S.flatMap segsB) 0 [] 0 S := reads_buns (m : Int) S [] (by simpa using k4.2) k3
   have hfw : ∀ {c}, Fin (m : Int) T 0 S i' c → Fin (m : Int) T 0 [] 0 c := fun {c} h => Fin.fwd hrd hlT k1 (by rw [← k2]; exact h)
   cases hd : T.drop i' with
   | nil => exact hfail (z := (((i' + 1 : Nat) : Int), 4)) (show (4 : Int) ≠ 0 by omega) (hfw (Fin.short hd (by omega))) (Ev.pos rfl (Ev.bind (ends_out g0 T sx_dv sx_dv sx_dv sx_dv hd _ _ _) (Ev.neg (by simp) (Ev.now _))))
   | cons s r =>
    obtain ⟨ws, hi, hd'⟩ := sg_w (by omega) hWT hd
    obtain ⟨c, g1, g2, g3, g4⟩ := ends_in g0 T sx_dv sx_dv sx_dv sx_dv hd (by omega) ws tIXT (.inr (.inr rfl)) S.length m (by omega) (by omega)
    by_cases hc : c = 0
    ·subst hc
     have hs := g3 rfl
     have g2 : Ev (fun k => F50.f k (g0 :: T) ((i' + 1 : Nat) : Int) sx_dv sx_dv sx_dv sx_dv 0 tIXT (S.length : Int) (m : Int)) (true, ((i' + 2 : Nat) : Int), 0) := g2
     cases r with
     | cons x r2 =>
      have hlen : i' + 1 < T.length := by
       have := ldrop_cons z49 hd'
       omega
      refine hfail (z := (((i' + 2 : Nat) : Int), 3)) (show (3 : Int) ≠ 0 by omega) (hfw ?_) (Ev.pos rfl (Ev.bind g2 (Ev.pos rfl (Ev.pos (by simp only [List.length_cons]; omega) (Ev.now _)))))
      have h1 : Reads (m : Int) [s] 0 S 3 S := Reads.one (take_ixt S (by rw [hs]; rfl) k4.1 g1)
      exact Fin.fwd h1 hlT hd (Fin.bad (c := 3) hd' hlT (by omega) (take3 S x))
     | nil =>
      have hlen : i' + 1 = T.length := by
       have h1 := ldrop_nil hd'
       have h2 := (ldrop_cons z49 hd).1
       omega
      have hT2 : T = S.flatMap segsB ++ [plainS tIXT [decS (S.length : Int), decS (m : Int)]] := by
       have := k1
       rw [List.drop_zero, hd, hs] at this
       exact this
      have h2 := hspec (z := (((i' + 2 : Nat) : Int), 0)) (Ev.pos rfl (Ev.bind g2 (Ev.pos rfl (Ev.neg (by simp only [List.length_cons]; omega) (Ev.now _)))))
      rw [if_pos rfl] at h2
      subst hgd
      obtain ⟨hix, hbb⟩ := ixB_of (A := A) (B := B) (n := (m : Int)) (L := S) (by omega) k4 k3 hh.2.1 hh.2.2.1
      have hsz : A.size ≤ 1048576 ∧ B.size ≤ 1048576 := ⟨plain_sz hg rfl A (by simp), plain_sz hg rfl B (by simp)⟩
      have h4 := implSegs_ev A B (m : Int) S (by omega) (by omega) (by omega) hbb
      rw [if_pos hix] at h4
      refine ⟨_, _, read_ok e2 hT2 hlT (by omega) k4 k3, h2, rfl, fun _ => h4.to ?_⟩
      unfold segsX
      rw [← hT2]
    ·refine hfail (z := (((i' + 1 : Nat) : Int), c)) hc (hfw ?_) (Ev.pos rfl (Ev.bind g2 (Ev.neg (by simp [hc]) (Ev.ret (by rw [if_neg hc])))))
     by_cases ht : s.f0 = tIXT
     ·exact Fin.bad hd hlT hc (take_ixt S ht k4.1 g1)
     ·show Fin (m : Int) T 0 S i' c
      rw [g4 ht]
      exact Fin.bad (c := 3) hd hlT (by omega) (take0_no S s ws.1 (.inr ht) (.inr fun kd ct hm => k5 s r hd (by rw [hm.1]; rfl)))
theorem Ev.get {α : Type} {f : Nat → Option α} {r : α} (h : Ev f r) : ∃ k, f k = some r := h.elim fun K h => ⟨K, h K (Nat.le_refl _)⟩
theorem Ev.two {α β : Type} {f : Nat → Option α} {g : Nat → Option β} {r : α} {s : β} (h : Ev f r) (h' : Ev g s) : ∃ k, f k = some r ∧ g k = some s := by
 obtain ⟨K, h⟩ := h
 obtain ⟨K', h'⟩ := h'
 exact ⟨max K K', h _ (by omega), h' _ (by omega)⟩
theorem tr_of {s : ByteArray} (h : s = tMST ∨ s = tGRT ∨ s = tIXT) : trl s := by
 rcases h with rfl | rfl | rfl
 ·exact .inl rfl
 ·exact .inr (.inl rfl)
 ·exact .inr (.inr rfl)
theorem bEl_of {e : S91} (h : WE 4096 e) : bEl e.f0 := ⟨by have := h.1; omega, fun s hs => by have := h.2 s hs; omega⟩
theorem WSg_of {x : Sg} (h : WL x) : WSg x := ⟨⟨by have := h.2.1; omega, fun e he => bEl_of (h.2.2.1 e he)⟩, by have := h.2.1; omega, fun ht e he s hs => (h.2.2.2 (tr_of ht) e he).2 s hs⟩
theorem bBn_of {x : Bu} (h : WB x) : bBn x := ⟨by have := h.2.2.1; omega, fun m hm => ⟨by have := (h.2.2.2 m hm).2.1; omega, fun s hs => ⟨by have := ((h.2.2.2 m hm).2.2 s hs).2.2.1; omega, fun e he => bEl_of (((h.2.2.2 m hm).2.2 s hs).2.2.2 e he)⟩⟩⟩
theorem segs_small {A B : ByteArray} {n : Int} {L : List Bu} (hl : L.length ≤ 6) (hL : ∀ b ∈ L, WB b) : (segsX A B n L).length ≤ 400 := by
 have hB : ∀ b : Bu, WB b → (segsB b).length ≤ 57 := fun b h => by
  have h1 := h.2.2.1
  have h2 := flat_le segsM 5 b.f2 (fun m hm => by have := (h.2.2.2 m hm).2.1; unfold segsM; simp; omega)
  unfold segsB
  rw [List.length_cons, List.length_append, List.length_singleton]
  omega
 have h2 := flat_le segsB 57 L (fun b hb => hB b (hL b hb))
 unfold segsX
 rw [List.length_cons, List.length_append, List.length_singleton]
 omega
theorem tot15 : Tot15 := fun s t n L h1 h2 _ h4 h5 => by
 obtain ⟨k, h⟩ := Ev.get (specIx_ev s t n L (by omega) (by omega) (by omega) (fun b hb => bBn_of (h5 b hb)))
 exact ⟨k, _, h⟩
theorem tot26 : Tot26 := fun n h => by
 obtain ⟨h0, h1⟩ := h
 obtain ⟨m, rfl⟩ := Int.eq_ofNat_of_zero_le h0
 obtain ⟨k, h⟩ := Ev.get (l01Dec_ev (m : Int) (by omega) (by omega))
 exact ⟨k, _, h, decS_size m (by omega)⟩
theorem tot37 : Tot37 := fun L hL => by
 obtain ⟨mix, size, e, _⟩ := source_ev2 L hL
 obtain ⟨k, h⟩ := Ev.get e
 exact ⟨k, mix, size, h⟩
theorem tot41 : Tot41 := fun t L _ h1 h2 => by
 obtain ⟨k, h⟩ := Ev.get (specSeg_ev t L (by omega) (fun e he => bEl_of (h2 e he)))
 exact ⟨k, _, h⟩
theorem pure1 : Pure1 := fun s t n L ⟨hs, ht, _, hl, hL⟩ => by
 have hb : ∀ b ∈ L, bBn b := fun b hb => bBn_of (hL b hb)
 obtain ⟨k, h⟩ := Ev.get (specIx_ev s t n L (by omega) (by omega) (by omega) hb)
 refine ⟨k, _, h, fun hr => ?_⟩
 have h8 := implSegs_ev s t n L (by omega) (by omega) (by omega) hb
 rw [if_pos hr] at h8
 obtain ⟨⟨h1, h2⟩, h3, h5, hA, hB⟩ := rB_of hr hb
 have hsm := segs_small (A := s) (B := t) (n := n) hl hL
 obtain ⟨m, rfl⟩ := Int.eq_ofNat_of_zero_le (by omega : 0 ≤ n)
 have h18 : Ev (fun k => F18.f k s t (m : Int) L) _ := Ev.bind h8 (Ev.now _)
 unfold segsX at hsm
 rw [List.length_cons] at hsm
 have h16 := read_ok (headOf_ok s t m _ hA hB (by omega) (by omega) (by omega) (by omega) (by omega)) rfl (by omega) (by omega) h3 h5
 obtain ⟨K1, a1⟩ := h8
 obtain ⟨K2, a2⟩ := h16
 obtain ⟨K3, a3⟩ := h18
 exact ⟨max K1 (max K2 K3), _, _, a1 _ (by omega), a2 _ (by omega), a3 _ (by omega)⟩
theorem pure2 : Pure2 := fun L ⟨hl, hL⟩ => by
 obtain ⟨R, Q, e1, e2, e3, e4⟩ := two_readers L (by omega) (fun s hs => WSg_of (hL s hs))
 obtain ⟨k, h1, h2⟩ := Ev.two e1 e2
 obtain ⟨r1, r2, r3, r4, r5, r6, r7⟩ := R
 obtain ⟨q1, q2, q3, q4, q5, q6, q7⟩ := Q
 dsimp only at e3 e4
 subst e3
 exact ⟨k, _, _, _, _, _, _, _, _, _, _, _, _, _, h1, h2, fun h => Ev.get (e4 h)⟩
end Go.Proofs.YtlghcbmkhdibdaaGreatDoor.Pure
