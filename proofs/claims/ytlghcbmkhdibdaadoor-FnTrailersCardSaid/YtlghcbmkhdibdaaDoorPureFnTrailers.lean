/- The law Trailers of the program, over numbers and lists.
Conditions: none. -/
import Derived.Test.YtlghcbmkhdibdaaDoorPFnTrailersx
import Derived.Test.YtlghcbmkhdibdaaDoorVFnTrailers
namespace Go.Proofs.YtlghcbmkhdibdaaDoor.Pure
open Go.RowKit Go.Proofs.YtlghcbmkhdibdaaDoor.PFnTrailers Go.Proofs.YtlghcbmkhdibdaaDoorW.PrintWords Go.Proofs.YtlghcbmkhdibdaaDoorW.PrintLast Go.Proofs.YtlghcbmkhdibdaaDoorW.PrintMore Go.Proofs.YtlghcbmkhdibdaaDoorW.Pl
set_option linter.unusedVariables false
set_option linter.unusedSimpArgs false

theorem within_eq (a b c : Int) : F83.f a b c = some (withinP a b c) := by
 unfold F83.f withinP
 split
 ·congr 1; simp only [decide_eq_decide]; omega
 ·congr 1; symm; simp only [decide_eq_false_iff_not]; omega
theorem isGreat_eq (c : Int) : F93.f c = some (great c) := by
 unfold F93.f great
 split
 ·congr 1; simp only [decide_eq_decide]; omega
 ·congr 1; symm; simp only [decide_eq_false_iff_not]; omega
theorem isDigit_eq (c : Int) : F94.f c = some (digit c) := by
 unfold F94.f digit
 split
 ·congr 1; simp only [decide_eq_decide]; omega
 ·congr 1; symm; simp only [decide_eq_false_iff_not]; omega
theorem digit_t {c : Int} (h : 48 ≤ c) (h' : c ≤ 57) : digit c = true := by simp [digit, h, h']
theorem isName_loop (s : ByteArray) (hs : (s.size : Int) ≤ 9223372036854775807) : ∀ (l : List Int) (i : Nat), 1 ≤ i → (bytesOf s).drop i = l → Ev (fun k => F61.l0 k s (s.size : Int) (i : Int)) (l.all nameCh && withinP (s.size : Int) 1 12) := by
 intro l
 induction l with
 | nil =>
  intro i hi h
  have h0 := drop_nil h
  refine Ev.step (fun k => F61.l0.eq_2 ..) ?_
  refine Ev.neg (by omega) ?_
  refine Ev.bindc (within_eq _ _ _) ?_
  exact Ev.ret (by simp)
 | cons c r ih =>
  intro i hi h
  obtain ⟨h1, h2, h3, _, _⟩ := drop_cons h
  have hw : wrap64 ((i : Int) + 1) = ((i + 1 : Nat) : Int) := by rw [wrap_id (by omega) (by omega)]; omega
  have hn := ih (i + 1) (by omega) h3
  refine Ev.step (fun k => F61.l0.eq_2 ..) ?_
  refine Ev.pos h1 (Ev.pos (by omega) (Ev.pos h1 ?_))
  rw [h2]
  refine Ev.bindc (isGreat_eq _) ?_
  by_cases hg : great c = true
  ·refine Ev.pos hg ?_
   rw [hw]
   exact hn.to (by simp [nameCh, hg])
  ·refine Ev.neg hg (Ev.neg (by omega) ?_)
   refine Ev.bindc (isDigit_eq _) ?_
   by_cases hd : digit c = true
   ·refine Ev.pos hd ?_
    rw [hw]
    exact hn.to (by simp [nameCh, hd])
   ·refine Ev.neg hd ?_
    by_cases he : c = 45
    ·refine Ev.pos he ?_
     rw [hw]
     exact hn.to (by simp [nameCh, he])
    ·refine Ev.neg he ?_
     exact Ev.ret (by simp [nameCh, hg, hd, he])
theorem isName_ev (s : ByteArray) (hs : (s.size : Int) ≤ 9223372036854775807) : Ev (fun k => F61.f k s) (nameP (bytesOf s)) := by
 have hl := length_bytesOf s
 show Ev (fun k => F61.l0 k s (s.size : Int) ((0 : Nat) : Int)) _
 match hb : bytesOf s with
 | [] =>
  have h0 := drop_nil (s := s) (i := 0) (by simp [hb])
  refine Ev.step (fun k => F61.l0.eq_2 ..) ?_
  refine Ev.neg (by omega) ?_
  refine Ev.bindc (within_eq _ _ _) ?_
  exact Ev.ret (by simp [withinP, nameP]; omega)
 | c :: r =>
  obtain ⟨h1, h2, h3, _, _⟩ := drop_cons (s := s) (i := 0) (c := c) (r := r) (by simp [hb])
  have hn := isName_loop s hs r 1 (by omega) h3
  rw [hb] at hl
  simp only [List.length_cons] at hl
  refine Ev.step (fun k => F61.l0.eq_2 ..) ?_
  refine Ev.pos h1 (Ev.pos (by omega) (Ev.pos h1 ?_))
  rw [h2]
  refine Ev.bindc (isGreat_eq _) ?_
  by_cases hg : great c = true
  ·refine Ev.pos hg ?_
   rw [show wrap64 (((0 : Nat) : Int) + 1) = ((1 : Nat) : Int) from by rw [wrap_id (by omega) (by omega)]; rfl]
   refine hn.to ?_
   have : withinP (s.size : Int) 1 12 = decide (r.length ≤ 11) := by
    simp only [withinP, decide_eq_decide]; omega
   simp [nameP, hg, this]
  ·refine Ev.neg hg (Ev.pos rfl ?_)
   exact Ev.ret (by simp [nameP, hg])
theorem l01Name_loop (s : ByteArray) (hs : (s.size : Int) ≤ 9223372036854775807) : ∀ (l : List Int) (i : Nat), (bytesOf s).drop i = l → Ev (fun k => F32.l0 k s (i : Int)) (l.all nameCh) := by
 intro l
 induction l with
 | nil =>
  intro i h
  have h0 := drop_nil h
  refine Ev.step (fun k => F32.l0.eq_2 ..) ?_
  exact Ev.neg (by omega) (Ev.ret (by simp))
 | cons c r ih =>
  intro i h
  obtain ⟨h1, h2, h3, _, _⟩ := drop_cons h
  have hw : wrap64 ((i : Int) + 1) = ((i + 1 : Nat) : Int) := by rw [wrap_id (by omega) (by omega)]; omega
  have hn := ih (i + 1) h3
  refine Ev.step (fun k => F32.l0.eq_2 ..) ?_
  refine Ev.pos h1 (Ev.pos (by omega) ?_)
  rw [h2, hw]
  by_cases hk : nameCh c = true
  ·have hn' : Ev (fun k => F32.l0 k s ((i + 1 : Nat) : Int)) ((c :: r).all nameCh) := hn.to (by simp [hk])
   have hk' : (65 ≤ c ∧ c ≤ 90) ∨ (48 ≤ c ∧ c ≤ 57) ∨ c = 45 := by simp [nameCh, great, digit, or_assoc] at hk; exact hk
   refine Ev.ite (fun g1 => Ev.ite (fun g2 => hn') (fun g2 => Ev.ite (fun g3 => Ev.ite (fun g4 => hn') (fun g4 => Ev.ite (fun g5 => hn') (fun g5 => ?_))) (fun g3 => Ev.ite (fun g5 => hn') (fun g5 => ?_)))) (fun g1 => Ev.ite (fun g3 => Ev.ite (fun g4 => hn') (fun g4 => Ev.ite (fun g5 => hn') (fun g5 => ?_))) (fun g3 => Ev.ite (fun g5 => hn') (fun g5 => ?_)))
   all_goals exact absurd hk' (by omega)
  ·have hf : Ev (fun _ : Nat => some false) ((c :: r).all nameCh) := Ev.ret (by simp [hk])
   have hk' : ¬ ((65 ≤ c ∧ c ≤ 90) ∨ (48 ≤ c ∧ c ≤ 57) ∨ c = 45) := by simp [nameCh, great, digit] at hk; omega
   refine Ev.ite (fun g1 => Ev.ite (fun g2 => ?_) (fun g2 => Ev.ite (fun g3 => Ev.ite (fun g4 => ?_) (fun g4 => Ev.ite (fun g5 => ?_) (fun g5 => hf))) (fun g3 => Ev.ite (fun g5 => ?_) (fun g5 => hf)))) (fun g1 => Ev.ite (fun g3 => Ev.ite (fun g4 => ?_) (fun g4 => Ev.ite (fun g5 => ?_) (fun g5 => hf))) (fun g3 => Ev.ite (fun g5 => ?_) (fun g5 => hf)))
   all_goals exact absurd (show (65 ≤ c ∧ c ≤ 90) ∨ (48 ≤ c ∧ c ≤ 57) ∨ c = 45 by omega) hk'
theorem l01Name_ev (s : ByteArray) (hs : (s.size : Int) ≤ 9223372036854775807) : Ev (fun k => F32.f k s) (nameP (bytesOf s)) := by
 have hl := length_bytesOf s
 have hj : ∀ b, b = false → Ev (fun k => F32.j0 k s true) b := fun b hb => Ev.step (fun k => F32.j0.eq_2 ..) (Ev.pos rfl (Ev.ret hb.symm))
 unfold F32.f
 match hb : bytesOf s with
 | [] =>
  have h0 := drop_nil (s := s) (i := 0) (by simp [hb])
  refine Ev.pos (by omega) (hj _ rfl)
 | c :: r =>
  obtain ⟨h1, h2, h3, _, _⟩ := drop_cons (s := s) (i := 0) (c := c) (r := r) (by simp [hb])
  have hn := l01Name_loop s hs (c :: r) 0 (by simp [hb])
  rw [hb] at hl
  simp only [List.length_cons] at hl
  have h2' : bt s 0 = c := h2
  refine Ev.neg (by omega) (Ev.ite (fun g => hj _ (by simp [nameP]; intros; omega)) (fun g => Ev.pos (by omega) ?_))
  rw [h2']
  refine Ev.ite (fun g1 => hj _ (by simp [nameP, great]; intros; omega)) (fun g1 => ?_)
  by_cases g2 : c > 90
  ·rw [show decide (c > 90) = true from by simp [g2]]
   exact hj _ (by simp [nameP, great]; intros; omega)
  ·rw [show decide (c > 90) = false from by simp [g2]]
   refine Ev.step (fun k => F32.j0.eq_2 ..) (Ev.neg (by simp) ?_)
   have hg : great c = true := by simp [great]; omega
   refine hn.to ?_
   have : r.length ≤ 11 := by omega
   simp [nameP, hg, nameCh, this]
theorem wi_ {i : Nat} (h : (i : Int) ≤ 4611686018427387904) : wrap64 ((i : Int) + 1) = ((i + 1 : Nat) : Int) := by rw [wrap_id (by omega) (by omega)]; omega
theorem idx_loop {α : Type} (z : α) (g : α → Bool) (Q : Nat → Int → Option Int) (L : List α)
  (ht : ∀ i : Nat, i < L.length → g (L.getD i z) = true → Ev (fun k => Q k (i : Int)) (i : Int))
  (hf : ∀ i : Nat, i < L.length → g (L.getD i z) = false → ∀ v, Ev (fun k => Q k ((i + 1 : Nat) : Int)) v → Ev (fun k => Q k (i : Int)) v)
  (h0 : ∀ i : Nat, L.length ≤ i → Ev (fun k => Q k (i : Int)) (-1)) :
  ∀ (d i : Nat), L.length - i = d → ∃ x : Int, Ev (fun k => Q k (i : Int)) x ∧ decide (x ≥ 0) = (L.drop i).any g
 | 0, i, hd => by
  rw [List.drop_eq_nil_of_le (by omega : L.length ≤ i)]
  exact ⟨-1, h0 i (by omega), by simp⟩
 | d + 1, i, hd => by
  have hi : i < L.length := by omega
  have hg : L.getD i z = L[i] := by rw [List.getD_eq_getElem?_getD, List.getElem?_eq_getElem hi]; rfl
  rw [List.drop_eq_getElem_cons hi]
  by_cases h : g (L.getD i z) = true
  ·exact ⟨i, ht i hi h, by rw [hg] at h; rw [List.any_cons, h, Bool.true_or]; simp⟩
  ·obtain ⟨x, hx, he⟩ := idx_loop z g Q L ht hf h0 d (i + 1) (by omega)
   rw [Bool.not_eq_true] at h
   exact ⟨x, hf i hi h x hx, by rw [he]; rw [hg] at h; rw [List.any_cons, h, Bool.false_or]⟩
def printB (c : Int) : Bool := decide (32 ≤ c ∧ c ≤ 126)
def partB (s : ByteArray) : Bool := decide (s.size ≤ 40) && (bytesOf s).all printB
def tagB (s : ByteArray) : Bool := decide (s.size = 3) && (bytesOf s).all great
theorem specPart_loop (s : ByteArray) (hs : s.size ≤ 1048576) : ∀ (l : List Int) (i : Nat), (bytesOf s).drop i = l → Ev (fun k => F72.l0 k s (i : Int)) (l.all printB) := by
 intro l
 induction l with
 | nil =>
  intro i h
  have h0 := drop_nil h
  exact Ev.step (fun k => F72.l0.eq_2 ..) (Ev.neg (by omega) (Ev.now _))
 | cons c r ih =>
  intro i h
  obtain ⟨h1, h2, h3, h4, h5⟩ := drop_cons h
  refine Ev.step (fun k => F72.l0.eq_2 ..) (Ev.pos h1 (Ev.pos (by omega) ?_))
  rw [h2, wrap_id (x := (i : Int) + 1) (by omega) (by omega), show (i : Int) + 1 = ((i + 1 : Nat) : Int) by omega]
  refine Ev.ite (fun g => Ev.ret ?_) (fun g => Ev.ite (fun g2 => Ev.ret ?_) (fun g2 => (ih (i + 1) h3).to ?_))
  ·have : printB c = false := by simp [printB]; omega
   simp [this]
  ·have : printB c = false := by simp [printB]; omega
   simp [this]
  ·have : printB c = true := by simp [printB]; omega
   simp [this]
theorem specPart_ev (s : ByteArray) (hs : s.size ≤ 1048576) : Ev (fun k => F72.f k s) (partB s) := by
 unfold F72.f
 refine Ev.ite (fun g => Ev.ret ?_) (fun g => (specPart_loop s hs _ 0 rfl).to ?_)
 ·have : decide (s.size ≤ 40) = false := by simp; omega
  simp [partB, this]
 ·have : decide (s.size ≤ 40) = true := by simp; omega
  simp [partB, this]
theorem implPrinted_loop (s : ByteArray) (hs : s.size ≤ 1048576) : ∀ (l : List Int) (i : Nat), (bytesOf s).drop i = l → Ev (fun k => F137.l0 k s (s.size : Int) (i : Int)) (l.all printB) := by
 intro l
 induction l with
 | nil =>
  intro i h
  have h0 := drop_nil h
  exact Ev.step (fun k => F137.l0.eq_2 ..) (Ev.neg (by omega) (Ev.now _))
 | cons c r ih =>
  intro i h
  obtain ⟨h1, h2, h3, h4, h5⟩ := drop_cons h
  refine Ev.step (fun k => F137.l0.eq_2 ..) (Ev.pos h1 (Ev.pos (by omega) (Ev.pos h1 ?_)))
  rw [h2, wrap_id (x := (i : Int) + 1) (by omega) (by omega), show (i : Int) + 1 = ((i + 1 : Nat) : Int) by omega]
  refine Ev.ite (fun g => Ev.ret ?_) (fun g => Ev.ite (fun g2 => Ev.ret ?_) (fun g2 => (ih (i + 1) h3).to ?_))
  ·have : printB c = false := by simp [printB]; omega
   simp [this]
  ·have : printB c = false := by simp [printB]; omega
   simp [this]
  ·have : printB c = true := by simp [printB]; omega
   simp [this]
theorem implPart_ev (s : ByteArray) (hs : s.size ≤ 1048576) : Ev (fun k => F123.f k s) (partB s) := by
 unfold F123.f
 refine Ev.ite (fun g => ?_) (fun g => Ev.ret ?_)
 ·have h2 : decide (s.size ≤ 40) = true := by simp; omega
  refine Ev.bind (show Ev (fun k => F137.f k s) ((bytesOf s).all printB) from implPrinted_loop s hs _ 0 rfl) (Ev.ret ?_)
  simp [partB, h2]
 ·have : decide (s.size ≤ 40) = false := by simp; omega
  simp [partB, this]
theorem specTag_loop (s : ByteArray) (hs : s.size = 3) : ∀ (l : List Int) (i : Nat), (bytesOf s).drop i = l → Ev (fun k => F71.l0 k s (i : Int)) (l.all great) := by
 intro l
 induction l with
 | nil =>
  intro i h
  have h0 := drop_nil h
  exact Ev.step (fun k => F71.l0.eq_2 ..) (Ev.neg (by omega) (Ev.now _))
 | cons c r ih =>
  intro i h
  obtain ⟨h1, h2, h3, h4, h5⟩ := drop_cons h
  refine Ev.step (fun k => F71.l0.eq_2 ..) (Ev.pos (by omega) (Ev.pos (by omega) (Ev.pos h1 ?_)))
  rw [h2, wrap_id (x := (i : Int) + 1) (by omega) (by omega), show (i : Int) + 1 = ((i + 1 : Nat) : Int) by omega]
  refine Ev.ite (fun g => Ev.ret ?_) (fun g => Ev.ite (fun g2 => Ev.ret ?_) (fun g2 => (ih (i + 1) h3).to ?_))
  ·have : great c = false := by simp [great]; omega
   simp [this]
  ·have : great c = false := by simp [great]; omega
   simp [this]
  ·have : great c = true := by simp [great]; omega
   simp [this]
theorem specTag_ev (s : ByteArray) : Ev (fun k => F71.f k s) (tagB s) := by
 unfold F71.f
 refine Ev.ite (fun g => (specTag_loop s (by omega) _ 0 rfl).to ?_) (fun g => Ev.ret ?_)
 ·have : decide (s.size = 3) = true := by simp; omega
  simp [tagB, this]
 ·have : decide (s.size = 3) = false := by simp; omega
  simp [tagB, this]
theorem isTag_eq (s : ByteArray) : F124.f s = some (tagB s) := by
 unfold F124.f
 by_cases h : s.size = 3
 ·obtain ⟨a, b, c, hb⟩ : ∃ a b c, bytesOf s = [a, b, c] := by
   have := length_bytesOf s
   rw [h] at this
   match bytesOf s, this with
   | [a, b, c], _ => exact ⟨a, b, c, rfl⟩
  obtain ⟨h0, e0, d0, _⟩ := drop_cons (i := 0) (s := s) (c := a) (r := [b, c]) (by simpa using hb)
  obtain ⟨h1, e1, d1, _⟩ := drop_cons (i := 1) (s := s) d0
  obtain ⟨h2, e2, d2, _⟩ := drop_cons (i := 2) (s := s) d1
  have e0 : bt s 0 = a := e0
  have e1 : bt s 1 = b := e1
  have e2 : bt s 2 = c := e2
  rw [if_pos (by omega), if_pos (by omega), if_pos (by omega), if_pos (by omega), e0, e1, e2, isGreat_eq, isGreat_eq, isGreat_eq]
  have : decide (s.size = 3) = true := by simpa using h
  cases ha : great a <;> cases hb2 : great b <;> simp [tagB, this, hb, ha, hb2]
 ·rw [if_neg (by omega)]
  have : decide (s.size = 3) = false := by simpa using h
  simp [tagB, this]
def lastE (p : List ByteArray) : Bool := ((rdOf ByteArray.empty p (wrap64 ((p.length : Int) - 1))).toList == ([] : List UInt8))
def emptyE (p : List ByteArray) : Bool := decide (p.length = 1) && lastE p
def elP (p : List ByteArray) : Bool := decide (1 ≤ p.length ∧ p.length ≤ 4) && !(decide (p.length > 1) && lastE p) && p.all partB
def lastEl (L : List S55) : Bool := match L.getLast? with | none => false | some e => emptyE e.f0
def segL : List S55 → Bool
 | [] => true
 | [e] => elP e.f0 && !emptyE e.f0
 | e :: e' :: r => elP e.f0 && segL (e' :: r)
theorem segL_eq : ∀ L : List S55, segL L = (L.all (fun e => elP e.f0) && !lastEl L)
 | [] => rfl
 | [e] => by simp [segL, lastEl]
 | e :: e' :: r => by
  have := segL_eq (e' :: r)
  have h2 : lastEl (e :: e' :: r) = lastEl (e' :: r) := by simp [lastEl]
  rw [segL, this, h2]
  simp [Bool.and_assoc]
def segB (s : ByteArray) (L : List S55) : Bool := tagB s && decide (L.length ≤ 10) && segL L
def bEl (p : List ByteArray) : Prop := p.length ≤ 1048576 ∧ ∀ s ∈ p, s.size ≤ 1048576
theorem rdlast (L : List S55) (h : 0 < L.length) (h1 : L.length ≤ 1048576) : 0 ≤ wrap64 ((L.length : Int) - 1) ∧ wrap64 ((L.length : Int) - 1) < (L.length : Int) ∧ lastEl L = emptyE (rd_T55 L (wrap64 ((L.length : Int) - 1))).f0 := by
 rw [wrap_id (by omega) (by omega)]
 refine ⟨by omega, by omega, ?_⟩
 unfold rd_T55 lastEl
 rw [List.getLast?_eq_getElem?, List.getD_eq_getElem?_getD, show ((L.length : Int) - 1).toNat = L.length - 1 by omega, List.getElem?_eq_getElem (by omega)]
 rfl
theorem l02Empty_eq (p : List ByteArray) : F73.f p = some (emptyE p) := by
 unfold F73.f emptyE
 by_cases h : p.length = 1
 ·rw [if_pos (by omega), if_pos (by omega)]
  have hw : wrap64 ((p.length : Int) - 1) = 0 := by rw [wrap_id (by omega) (by omega)]; omega
  unfold lastE
  rw [hw]
  simp [h]
 ·rw [if_neg (by omega)]
  simp [h]
theorem spec1_loop (s : ByteArray) (L : List S55) (p : List ByteArray) (hp : bEl p) (x : Int) (R : Bool) (hR : Ev (fun k => F46.l0 k (wrap64 (x + 1)) s L) R) : ∀ (r : List ByteArray) (j : Nat), p.drop j = r → Ev (fun k => F46.l1 k x p (j : Int) s L) (r.all partB && R) := by
 have hl := hp.1
 intro r
 induction r with
 | nil =>
  intro j h
  have h0 := ldrop_nil h
  exact Ev.step (fun k => F46.l1.eq_2 ..) (Ev.neg (by omega) (hR.to (by simp)))
 | cons c r ih =>
  intro j h
  obtain ⟨h1, h2, h3⟩ := rdOf_cons ByteArray.empty h
  have hm : c ∈ p := List.mem_of_mem_drop (by rw [h]; exact List.mem_cons_self)
  have hw := wi_ (i := j) (by omega)
  refine Ev.step (fun k => F46.l1.eq_2 ..) (Ev.pos h1 (Ev.pos (by omega) ?_))
  rw [h2, hw]
  refine Ev.bind (specPart_ev c (hp.2 c hm)) (Ev.ite (fun g => (ih (j + 1) h3).to (by simp [g])) (fun g => Ev.ret (by simp [g])))
theorem specSeg_loop (s : ByteArray) (L : List S55) (hL : L.length ≤ 1048576) (hE : ∀ e ∈ L, bEl e.f0) : ∀ (r : List S55) (i : Nat), L.drop i = r → Ev (fun k => F46.l0 k (i : Int) s L) (r.all (fun e => elP e.f0) && !lastEl L) := by
 intro r
 induction r with
 | nil =>
  intro i h
  have h0 := ldrop_nil h
  refine Ev.step (fun k => F46.l0.eq_2 ..) (Ev.neg (by omega) (Ev.ite (fun g => Ev.ret ?_) (fun g => ?_)))
  ·have : L = [] := List.length_eq_zero_iff.1 (by omega)
   rw [this]; rfl
  ·obtain ⟨h1, h2, h3⟩ := rdlast L (by omega) hL
   exact Ev.pos h1 (Ev.pos h2 (Ev.bindc (l02Empty_eq _) (Ev.ret (by rw [h3]; simp))))
 | cons e r ih =>
  intro i h
  obtain ⟨h1, h2, h3⟩ := ldrop_cons z55 h
  have hr : rd_T55 L (i : Int) = e := h2
  have hb := hE e (List.mem_of_mem_drop (by rw [h]; exact List.mem_cons_self))
  have hbl := hb.1
  have hw := wi_ (i := i) (by omega)
  have hi := ih (i + 1) h3
  rw [← hw] at hi
  have inner : Ev (fun k => F46.l1 k (i : Int) e.f0 0 s L) (e.f0.all partB && (r.all (fun e => elP e.f0) && !lastEl L)) := spec1_loop s L e.f0 hb (i : Int) _ hi _ 0 rfl
  have hw2 : wrap64 ((e.f0.length : Int) - 1) = (e.f0.length : Int) - 1 := wrap_id (by omega) (by omega)
  refine Ev.step (fun k => F46.l0.eq_2 ..) (Ev.pos h1 (Ev.pos (by omega) ?_))
  rw [hr]
  refine Ev.ite (fun g => ?_) (fun g => Ev.ite (fun g2 => ?_) (fun g2 => Ev.ite (fun g3 => Ev.pos (by rw [hw2]; omega) (Ev.pos (by rw [hw2]; omega) ?_)) (fun g3 => ?_)))
  ·have : elP e.f0 = false := by simp [elP]; omega
   exact Ev.step (fun k => F46.j2.eq_2 ..) (Ev.pos rfl (Ev.ret (by simp [this])))
  ·have : elP e.f0 = false := by simp [elP]; omega
   exact Ev.step (fun k => F46.j2.eq_2 ..) (Ev.pos rfl (Ev.ret (by simp [this])))
  ·refine Ev.step (fun k => F46.j2.eq_2 ..) (Ev.ite (fun g4 => Ev.ret ?_) (fun g4 => inner.to ?_))
   ·have : elP e.f0 = false := by
     have h4 : lastE e.f0 = true := g4
     have h5 : decide (e.f0.length > 1) = true := by simp; omega
     simp [elP, h4, h5]
    simp [this]
   ·have : elP e.f0 = e.f0.all partB := by
     have h4 : lastE e.f0 = false := by simpa [lastE] using g4
     have h5 : decide (1 ≤ e.f0.length ∧ e.f0.length ≤ 4) = true := by simp; omega
     simp only [elP, h4, h5]; simp
    simp [this, Bool.and_assoc]
  ·refine Ev.step (fun k => F46.j2.eq_2 ..) (Ev.neg (by simp) (inner.to ?_))
   have : elP e.f0 = e.f0.all partB := by
    have h4 : decide (e.f0.length > 1) = false := by simp; omega
    have h5 : decide (1 ≤ e.f0.length ∧ e.f0.length ≤ 4) = true := by simp; omega
    simp only [elP, h4, h5]; simp
   simp [this, Bool.and_assoc]
theorem specSeg_ev (s : ByteArray) (L : List S55) (hL : L.length ≤ 1048576) (hE : ∀ e ∈ L, bEl e.f0) : Ev (fun k => F46.f k s L) (segB s L) := by
 unfold F46.f
 have h0 : Ev (fun k => F46.l0 k 0 s L) (segL L) := (specSeg_loop s L hL hE L 0 rfl).to (segL_eq L).symm
 refine Ev.bind (specTag_ev s) (Ev.ite (fun g => Ev.step (fun k => F46.j0.eq_2 ..) (Ev.ite (fun g2 => Ev.ret ?_) (fun g2 => h0.to ?_))) (fun g => Ev.step (fun k => F46.j0.eq_2 ..) (Ev.pos rfl (Ev.ret ?_))))
 ·have : decide (L.length ≤ 10) = false := by have := of_decide_eq_true g2; simp; omega
  simp [segB, this]
 ·have : decide (L.length ≤ 10) = true := by simp at g2; simp; omega
  simp only [segB, g, this]; simp
 ·simp [segB, g]
theorem partsIdx_loop (p : List ByteArray) (hp : bEl p) : ∀ (r : List ByteArray) (i : Nat), p.drop i = r → ∃ x : Int, Ev (fun k => F136.l0 k p (p.length : Int) (i : Int)) x ∧ decide (x ≥ 0) = !(r.all partB) := by
 have hl := hp.1
 intro r
 induction r with
 | nil =>
  intro i h
  have h0 := ldrop_nil h
  exact ⟨-1, Ev.step (fun k => F136.l0.eq_2 ..) (Ev.neg (by omega) (Ev.now _)), by simp⟩
 | cons c r ih =>
  intro i h
  obtain ⟨h1, h2, h3⟩ := rdOf_cons ByteArray.empty h
  have hm : c ∈ p := List.mem_of_mem_drop (by rw [h]; exact List.mem_cons_self)
  have hw := wi_ (i := i) (by omega)
  obtain ⟨x, hx, he⟩ := ih (i + 1) h3
  have h1c : Ev (fun k => F122.f k c) (!partB c) := by
   unfold F122.f
   exact Ev.bind (implPart_ev c (hp.2 c hm)) (Ev.now _)
  cases hc : partB c with
  | false =>
   refine ⟨i, Ev.step (fun k => F136.l0.eq_2 ..) (Ev.pos h1 (Ev.pos (by omega) (Ev.pos h1 ?_))), by simp [hc]⟩
   rw [h2]
   exact Ev.bind h1c (Ev.pos (by simp [hc]) (Ev.now _))
  | true =>
   refine ⟨x, Ev.step (fun k => F136.l0.eq_2 ..) (Ev.pos h1 (Ev.pos (by omega) (Ev.pos h1 ?_))), by rw [he]; simp [hc]⟩
   rw [h2, hw]
   exact Ev.bind h1c (Ev.neg (by simp [hc]) hx)
theorem partsAny_ev (p : List ByteArray) (hp : bEl p) : Ev (fun k => F121.f k p) (!(p.all partB)) := by
 obtain ⟨x, hx, he⟩ := partsIdx_loop p hp p 0 rfl
 unfold F121.f
 refine Ev.bind (show Ev (fun k => F136.f k p) x from hx) ?_
 exact Ev.ret he
theorem implSeg_loop (s : ByteArray) (L : List S55) (hL : L.length ≤ 1048576) (hE : ∀ e ∈ L, bEl e.f0) : ∀ (r : List S55) (i : Nat), L.drop i = r → Ev (fun k => F103.l0 k L (L.length : Int) (i : Int) s L) (segL r && (tagB s && decide (L.length ≤ 10))) := by
 intro r
 induction r with
 | nil =>
  intro i h
  have h0 := ldrop_nil h
  refine Ev.step (fun k => F103.l0.eq_2 ..) (Ev.neg (by omega) (Ev.bindc (isTag_eq s) (Ev.ite (fun g => Ev.ret ?_) (fun g => Ev.ret ?_))))
  ·simp only [segL, g, Bool.true_and]
   simp only [decide_eq_decide]; omega
  ·simp [g]
 | cons e r ih =>
  intro i h
  obtain ⟨h1, h2, h3⟩ := ldrop_cons z55 h
  have hr : rd_T55 L (i : Int) = e := h2
  have hb := hE e (List.mem_of_mem_drop (by rw [h]; exact List.mem_cons_self))
  have hbl := hb.1
  have hw := wi_ (i := i) (by omega)
  have hi := ih (i + 1) h3
  have hrl : r.length + (i + 1) = L.length := by
   have := congrArg List.length h3
   rw [List.length_drop] at this
   omega
  have hw2 : wrap64 ((e.f0.length : Int) - 1) = (e.f0.length : Int) - 1 := wrap_id (by omega) (by omega)
  have hw3 : wrap64 ((L.length : Int) - 1) = (L.length : Int) - 1 := wrap_id (by omega) (by omega)
  have hno : elP e.f0 = false → (segL (e :: r) && (tagB s && decide (L.length ≤ 10))) = false := by
   intro h0
   cases r <;> simp [segL, h0]
  refine Ev.step (fun k => F103.l0.eq_2 ..) (Ev.pos h1 (Ev.pos (by omega) (Ev.pos h1 (Ev.bindc (within_eq _ _ _) ?_))))
  rw [hr]
  refine Ev.ite (fun g => Ev.bind (partsAny_ev e.f0 hb) (Ev.step (fun k => F103.j1.eq_2 ..) (Ev.ite (fun g2 => Ev.ret ?_) (fun g2 => ?_)))) (fun g => Ev.step (fun k => F103.j1.eq_2 ..) (Ev.pos rfl (Ev.ret ?_)))
  ·refine (hno ?_).symm
   have g3 : e.f0.all partB = false := by simpa using g2
   unfold elP; rw [g3]; simp
  ·have g3 : e.f0.all partB = true := by simpa using g2
   have gw : 1 ≤ e.f0.length ∧ e.f0.length ≤ 4 := by simp [withinP] at g; omega
   refine Ev.pos (by rw [hw2]; omega) (Ev.pos (by rw [hw2]; omega) (Ev.ite (fun g4 => Ev.ite (fun g5 => Ev.ret ?_) (fun g5 => Ev.ite (fun g6 => Ev.ret ?_) (fun g6 => ?_))) (fun g4 => ?_)))
   ·refine (hno ?_).symm
    have h4 : lastE e.f0 = true := by simpa [lastE] using g4
    have h5 : decide (e.f0.length > 1) = true := by simp; omega
    simp [elP, h4, h5]
   ·have h4 : lastE e.f0 = true := by simpa [lastE] using g4
    have : r = [] := List.length_eq_zero_iff.1 (by rw [hw3] at g6; omega)
    subst this
    have h5 : emptyE e.f0 = true := by
     unfold emptyE
     rw [h4]
     simp; omega
    simp [segL, h5]
   ·rw [hw]
    refine hi.to ?_
    have h4 : elP e.f0 = true := by
     have h5 : decide (e.f0.length > 1) = false := by simp; omega
     have h6 : decide (1 ≤ e.f0.length ∧ e.f0.length ≤ 4) = true := by simpa using gw
     simp only [elP, h5, h6, g3]; simp
    match r, hrl with
    | [], hrl => exact absurd (show (i : Int) = wrap64 ((L.length : Int) - 1) by rw [hw3]; simp at hrl; omega) g6
    | e' :: r', _ => simp [segL, h4]
   ·rw [hw]
    refine hi.to ?_
    have h7 : lastE e.f0 = false := by simpa [lastE] using g4
    have h4 : elP e.f0 = true := by
     have h6 : decide (1 ≤ e.f0.length ∧ e.f0.length ≤ 4) = true := by simpa using gw
     simp only [elP, h7, h6, g3]; simp
    have h8 : emptyE e.f0 = false := by simp [emptyE, h7]
    match r with
    | [] => simp [segL, h4, h8]
    | e' :: r' => simp [segL, h4]
  ·refine (hno ?_).symm
   have : decide (1 ≤ e.f0.length ∧ e.f0.length ≤ 4) = false := by simp [withinP] at g; simp; omega
   unfold elP; rw [this]; simp
theorem implSeg_ev (s : ByteArray) (L : List S55) (hL : L.length ≤ 1048576) (hE : ∀ e ∈ L, bEl e.f0) : Ev (fun k => F103.f k s L) (segB s L) := by
 unfold F103.f
 refine (implSeg_loop s L hL hE L 0 rfl).to ?_
 unfold segB
 rw [Bool.and_comm]
def ctlB (n : Int) : Bool := decide (1 ≤ n ∧ n ≤ 999999)
theorem l01Control_eq (n : Int) : F33.f n = some (ctlB n) := by
 unfold F33.f ctlB
 split
 ·congr 1; simp only [decide_eq_decide]; omega
 ·congr 1; symm; simp only [decide_eq_false_iff_not]; omega
def tagsL : List ByteArray := [(⟨#[73, 88, 72]⟩ : ByteArray), (⟨#[71, 82, 72]⟩ : ByteArray), (⟨#[77, 83, 72]⟩ : ByteArray), (⟨#[77, 83, 84]⟩ : ByteArray), (⟨#[71, 82, 84]⟩ : ByteArray), (⟨#[73, 88, 84]⟩ : ByteArray)]
def ownTag (s : ByteArray) : Bool := tagsL.any (fun t => decide (s.toList = t.toList))
theorem l03Own_eq (s : ByteArray) : F47.f s = some (ownTag s) := by
 have e : ∀ l : List UInt8, (⟨l.toArray⟩ : ByteArray).toList = l := fun l => by rw [ByteArray.toList_eq]
 have e1 : (⟨#[73, 88, 72]⟩ : ByteArray).toList = [73, 88, 72] := e [73, 88, 72]
 have e2 : (⟨#[71, 82, 72]⟩ : ByteArray).toList = [71, 82, 72] := e [71, 82, 72]
 have e3 : (⟨#[77, 83, 72]⟩ : ByteArray).toList = [77, 83, 72] := e [77, 83, 72]
 have e4 : (⟨#[77, 83, 84]⟩ : ByteArray).toList = [77, 83, 84] := e [77, 83, 84]
 have e5 : (⟨#[71, 82, 84]⟩ : ByteArray).toList = [71, 82, 84] := e [71, 82, 84]
 have e6 : (⟨#[73, 88, 84]⟩ : ByteArray).toList = [73, 88, 84] := e [73, 88, 84]
 unfold F47.f ownTag tagsL
 simp only [List.any_cons, List.any_nil, e1, e2, e3, e4, e5, e6, Bool.or_false]
 generalize s.toList = l
 by_cases h1 : l = [73, 88, 72]
 ·simp [h1]
 by_cases h2 : l = [71, 82, 72]
 ·simp [h2]
 by_cases h3 : l = [77, 83, 72]
 ·simp [h3]
 by_cases h4 : l = [77, 83, 84]
 ·simp [h4]
 by_cases h5 : l = [71, 82, 84]
 ·simp [h5]
 simp only [h1, h2, h3, h4, h5, if_false, decide_false, Bool.false_or]
 congr 1
 rw [Bool.eq_iff_iff]
 simp
theorem tagIn_ev (s : ByteArray) : Ev (fun k => F104.f k tagsL s) (ownTag s) := by
 have hl : tagsL.length = 6 := rfl
 obtain ⟨x, hx, he⟩ := idx_loop ByteArray.empty (fun t => decide (s.toList = t.toList)) (fun k i => F125.l0 k tagsL s (tagsL.length : Int) i) tagsL
  (fun i hi g => Ev.step (fun k => F125.l0.eq_2 ..) (Ev.pos (by omega) (Ev.pos (by omega) (Ev.pos (by omega) (Ev.pos (by simpa [rdOf] using g) (Ev.now _))))))
  (fun i hi g v hv => Ev.step (fun k => F125.l0.eq_2 ..) (Ev.pos (by omega) (Ev.pos (by omega) (Ev.pos (by omega) (Ev.neg (by simpa [rdOf] using g) (by rw [wi_ (by omega)]; exact hv))))))
  (fun i hi => Ev.step (fun k => F125.l0.eq_2 ..) (Ev.neg (by omega) (Ev.now _))) _ 0 rfl
 unfold F104.f
 refine Ev.bind (show Ev (fun k => F125.f k tagsL s) x from hx) ?_
 exact Ev.ret he
def bodyB (s : ByteArray) (L : List S55) : Bool := segB s L && !ownTag s
def msgB (n : Int) (G : List S52) : Bool := ctlB n && (decide (G.length ≤ 40) && G.all (fun s => bodyB s.f0 s.f1))
def bunB (kd ct : Int) (M : List S85) : Bool := decide (1 ≤ kd ∧ kd ≤ 7) && (ctlB ct && (decide (1 ≤ M.length ∧ M.length ≤ 10) && M.all (fun m => msgB m.f0 m.f1)))
def ixB (A B : ByteArray) (n : Int) (L : List S83) : Bool := nameP (bytesOf A) && (nameP (bytesOf B) && (ctlB n && (decide (1 ≤ L.length ∧ L.length ≤ 5) && L.all (fun b => bunB b.f0 b.f1 b.f2))))
def bSg (x : S52) : Prop := x.f1.length ≤ 1048576 ∧ ∀ e ∈ x.f1, bEl e.f0
def bMs (x : S85) : Prop := x.f1.length ≤ 1048576 ∧ ∀ s ∈ x.f1, bSg s
def bBn (x : S83) : Prop := x.f2.length ≤ 1048576 ∧ ∀ m ∈ x.f2, bMs m
theorem ix2_loop (x3 x5 : Int) (A B : ByteArray) (n : Int) (L : List S83) (kd ct : Int) (M : List S85) (mc : Int) (G : List S52) (hl : G.length ≤ 1048576) (hG : ∀ s ∈ G, bSg s) (R : Bool) (hR : Ev (fun k => F21.l1 k x3 (wrap64 (x5 + 1)) A B n L kd ct M) R) : ∀ (r : List S52) (j : Nat), G.drop j = r → Ev (fun k => F21.l2 k x3 x5 (j : Int) A B n L kd ct M mc G) (r.all (fun s => bodyB s.f0 s.f1) && R) := by
 intro r
 induction r with
 | nil =>
  intro j h
  have h0 := ldrop_nil h
  exact Ev.step (fun k => F21.l2.eq_2 ..) (Ev.neg (by omega) (hR.to (by simp)))
 | cons c r ih =>
  intro j h
  obtain ⟨h1, h2, h3⟩ := ldrop_cons z52 h
  have hr : rd_T52 G (j : Int) = c := h2
  have hm := hG c (List.mem_of_mem_drop (by rw [h]; exact List.mem_cons_self))
  have hw := wi_ (i := j) (by omega)
  refine Ev.step (fun k => F21.l2.eq_2 ..) (Ev.pos h1 (Ev.pos (by omega) ?_))
  rw [hr, hw]
  refine Ev.bind (specSeg_ev c.f0 c.f1 hm.1 hm.2) (Ev.ite (fun g => Ev.bindc (l03Own_eq c.f0) (Ev.ite (fun g2 => Ev.ret ?_) (fun g2 => (ih (j + 1) h3).to ?_))) (fun g => Ev.ret ?_))
  ·simp [bodyB, g2]
  ·simp [bodyB, g, g2]
  ·simp [bodyB, g]
theorem ix1_loop (x3 : Int) (A B : ByteArray) (n : Int) (L : List S83) (kd ct : Int) (M : List S85) (hl : M.length ≤ 1048576) (hM : ∀ m ∈ M, bMs m) (R : Bool) (hR : Ev (fun k => F21.l0 k (wrap64 (x3 + 1)) A B n L) R) : ∀ (r : List S85) (j : Nat), M.drop j = r → Ev (fun k => F21.l1 k x3 (j : Int) A B n L kd ct M) (r.all (fun m => msgB m.f0 m.f1) && R) := by
 intro r
 induction r with
 | nil =>
  intro j h
  have h0 := ldrop_nil h
  exact Ev.step (fun k => F21.l1.eq_2 ..) (Ev.neg (by omega) (hR.to (by simp)))
 | cons c r ih =>
  intro j h
  obtain ⟨h1, h2, h3⟩ := ldrop_cons z85 h
  have hr : rd_T85 M (j : Int) = c := h2
  have hm := hM c (List.mem_of_mem_drop (by rw [h]; exact List.mem_cons_self))
  have hw := wi_ (i := j) (by omega)
  have hi := ih (j + 1) h3
  rw [← hw] at hi
  have hin := ix2_loop x3 (j : Int) A B n L kd ct M c.f0 c.f1 hm.1 hm.2 _ hi _ 0 rfl
  refine Ev.step (fun k => F21.l1.eq_2 ..) (Ev.pos h1 (Ev.pos (by omega) ?_))
  rw [hr]
  refine Ev.bindc (l01Control_eq c.f0) (Ev.ite (fun g => Ev.step (fun k => F21.j4.eq_2 ..) (Ev.ite (fun g2 => Ev.ret ?_) (fun g2 => hin.to ?_))) (fun g => Ev.step (fun k => F21.j4.eq_2 ..) (Ev.pos rfl (Ev.ret ?_))))
  ·have : decide (c.f1.length ≤ 40) = false := by have := of_decide_eq_true g2; simp; omega
   simp [msgB, this]
  ·have : decide (c.f1.length ≤ 40) = true := by simp at g2; simp; omega
   rw [List.drop_zero]
   simp only [List.all_cons, msgB, g, this, Bool.true_and, Bool.and_assoc]
  ·simp [msgB, g]
theorem ix0_loop (A B : ByteArray) (n : Int) (L : List S83) (hl : L.length ≤ 1048576) (hL : ∀ b ∈ L, bBn b) : ∀ (r : List S83) (j : Nat), L.drop j = r → Ev (fun k => F21.l0 k (j : Int) A B n L) (r.all (fun b => bunB b.f0 b.f1 b.f2)) := by
 intro r
 induction r with
 | nil =>
  intro j h
  have h0 := ldrop_nil h
  exact Ev.step (fun k => F21.l0.eq_2 ..) (Ev.neg (by omega) (Ev.now _))
 | cons c r ih =>
  intro j h
  obtain ⟨h1, h2, h3⟩ := ldrop_cons z83 h
  have hr : rd_T83 L (j : Int) = c := h2
  have hm := hL c (List.mem_of_mem_drop (by rw [h]; exact List.mem_cons_self))
  have hw := wi_ (i := j) (by omega)
  have hi := ih (j + 1) h3
  rw [← hw] at hi
  have hin := ix1_loop (j : Int) A B n L c.f0 c.f1 c.f2 hm.1 hm.2 _ hi _ 0 rfl
  have hF : Ev (fun k => F21.j2 k (j : Int) true A B n L c.f0 c.f1 c.f2) false := Ev.step (fun k => F21.j2.eq_2 ..) (Ev.pos rfl (Ev.now _))
  refine Ev.step (fun k => F21.l0.eq_2 ..) (Ev.pos h1 (Ev.pos (by omega) ?_))
  rw [hr]
  refine Ev.ite (fun g => hF.to ?_) (fun g => Ev.ite (fun g2 => hF.to ?_) (fun g2 => Ev.bindc (l01Control_eq c.f1) (Ev.ite (fun g3 => Ev.ite (fun g4 => hF.to ?_) (fun g4 => Ev.step (fun k => F21.j2.eq_2 ..) (Ev.ite (fun g5 => Ev.ret ?_) (fun g5 => hin.to ?_)))) (fun g3 => hF.to ?_))))
  ·have : decide (1 ≤ c.f0 ∧ c.f0 ≤ 7) = false := by simp; omega
   simp only [List.all_cons, bunB, this]; simp
  ·have : decide (1 ≤ c.f0 ∧ c.f0 ≤ 7) = false := by simp; omega
   simp only [List.all_cons, bunB, this]; simp
  ·have : decide (1 ≤ c.f2.length ∧ c.f2.length ≤ 10) = false := by simp; omega
   simp only [List.all_cons, bunB, this]; simp
  ·have : decide (1 ≤ c.f2.length ∧ c.f2.length ≤ 10) = false := by have := of_decide_eq_true g5; simp; omega
   simp only [List.all_cons, bunB, this]; simp
  ·have e1 : decide (1 ≤ c.f2.length ∧ c.f2.length ≤ 10) = true := by simp at g5; simp; omega
   have e2 : decide (1 ≤ c.f0 ∧ c.f0 ≤ 7) = true := by simp; omega
   rw [List.drop_zero]
   simp only [List.all_cons, bunB, e1, e2, g3, Bool.true_and, Bool.and_assoc]
  ·simp [bunB, g3]
theorem specIx_ev (A B : ByteArray) (n : Int) (L : List S83) (hA : (A.size : Int) ≤ 9223372036854775807) (hB : (B.size : Int) ≤ 9223372036854775807) (hl : L.length ≤ 1048576) (hL : ∀ b ∈ L, bBn b) : Ev (fun k => F21.f k A B n L) (ixB A B n L) := by
 have hF : Ev (fun k => F21.j0 k true A B n L) false := Ev.step (fun k => F21.j0.eq_2 ..) (Ev.pos rfl (Ev.now _))
 have hin := ix0_loop A B n L hl hL L 0 rfl
 unfold F21.f
 refine Ev.bind (l01Name_ev A hA) (Ev.ite (fun g => Ev.bind (l01Name_ev B hB) (Ev.ite (fun g2 => Ev.bindc (l01Control_eq n) (Ev.ite (fun g3 => Ev.ite (fun g4 => hF.to ?_) (fun g4 => Ev.step (fun k => F21.j0.eq_2 ..) (Ev.ite (fun g5 => Ev.ret ?_) (fun g5 => hin.to ?_)))) (fun g3 => hF.to ?_))) (fun g2 => hF.to ?_))) (fun g => hF.to ?_))
 ·have : decide (1 ≤ L.length ∧ L.length ≤ 5) = false := by simp; omega
  simp only [ixB, this]; simp
 ·have : decide (1 ≤ L.length ∧ L.length ≤ 5) = false := by have := of_decide_eq_true g5; simp; omega
  simp only [ixB, this]; simp
 ·have e1 : decide (1 ≤ L.length ∧ L.length ≤ 5) = true := by simp at g5; simp; omega
  simp only [ixB, e1, g, g2, g3, Bool.true_and]
 ·simp [ixB, g3]
 ·simp [ixB, g2]
 ·simp [ixB, g]
theorem body_ev (s : ByteArray) (L : List S55) (hl : L.length ≤ 1048576) (hE : ∀ e ∈ L, bEl e.f0) : Ev (fun k => F78.f k s L) (bodyB s L) := by
 unfold F78.f
 refine Ev.bind (implSeg_ev s L hl hE) (Ev.ite (fun g => Ev.bindc (show F105.f = some tagsL from rfl) (Ev.bind (tagIn_ev s) (Ev.ret ?_))) (fun g => Ev.ret ?_))
 ·simp [bodyB, g]
 ·simp [bodyB, g]
theorem ba_app (a b : List UInt8) : (⟨a.toArray⟩ : ByteArray) ++ (⟨b.toArray⟩ : ByteArray) = ⟨(a ++ b).toArray⟩ := by
 apply ByteArray.ext
 rw [ByteArray.data_append]
 simp
def decS (n : Int) : ByteArray := ⟨(Lib.itoa n).toArray⟩
theorem dec_loop (m : Nat) : ∀ (neg : Bool) (acc : List UInt8), acc.length + m ≤ 1000000000000000 →
  Ev (fun k => F50.l0 k (if neg then -(m : Int) else (m : Int)) neg ⟨acc.toArray⟩) ⟨((if neg then [45] else []) ++ ((if m = 0 then [] else Lib.decDigits m) ++ acc)).toArray⟩ := by
 induction m using Nat.strongRecOn with
 | _ m ih =>
 intro neg acc h
 refine Ev.step (fun k => F50.l0.eq_2 ..) ?_
 have hsz : ∀ l : List UInt8, (⟨l.toArray⟩ : ByteArray).size = l.length := fun l => by simp [ByteArray.size]
 by_cases h0 : m = 0
 ·subst h0
  refine Ev.pos (by cases neg <;> simp) ?_
  cases neg
  ·exact Ev.neg (by simp) (Ev.ret (by simp))
  ·refine Ev.pos rfl (Ev.pos (by rw [hsz]; omega) (Ev.ret ?_))
   exact (ba_app [45] acc).trans (by simp)
 ·refine Ev.neg (by cases neg <;> simp <;> omega) ?_
  have hd : m / 10 < m := by omega
  have hdg : ∀ c : Nat, c < 10 → UInt8.ofNat ((48 + c) % 256) = UInt8.ofNat (48 + c) := fun c hc => by rw [Nat.mod_eq_of_lt (by omega)]
  have key : ∀ c : Nat, c = m % 10 → (if m / 10 = 0 then ([] : List UInt8) else Lib.decDigits (m / 10)) ++ (UInt8.ofNat (48 + c) :: acc) = Lib.decDigits m ++ acc := by
   intro c hc
   subst hc
   rw [Lib.decDigits.eq_1 m]
   by_cases h1 : m < 10
   ·rw [dif_pos h1, if_pos (by omega), Nat.mod_eq_of_lt h1]
    rfl
   ·rw [dif_neg h1, if_neg (by omega), List.append_assoc]
    rfl
  have hone : ∀ c : Int, 0 ≤ c → c < 10 → strOfNums [wrap64 (48 + c) % 256] = (⟨[UInt8.ofNat (48 + c.toNat)].toArray⟩ : ByteArray) := by
   intro c g0 g1
   have e : wrap64 (48 + c) % 256 = 48 + c := by rw [wrap_id (by omega) (by omega)]; omega
   rw [e]
   unfold strOfNums
   have e2 : (48 + c).toNat = 48 + c.toNat := by omega
   simp only [List.map_cons, List.map_nil, e2]
  cases neg with
  | false =>
   simp only [Bool.false_eq_true, if_false]
   have e1 : Int.tmod (m : Int) 10 = ((m % 10 : Nat) : Int) := by rw [Int.tmod_eq_emod_of_nonneg (by omega)]; omega
   have e2 : Int.tdiv (m : Int) 10 = ((m / 10 : Nat) : Int) := by rw [Int.tdiv_eq_ediv_of_nonneg (by omega)]; omega
   refine Ev.neg (by rw [e1]; omega) (Ev.bindc rfl ?_)
   rw [e1, hone _ (by omega) (by omega)]
   refine Ev.pos (by rw [hsz, hsz]; simp only [List.length_cons, List.length_nil]; omega) ?_
   rw [e2, wrap_id (by omega) (by omega), ba_app]
   have := ih (m / 10) hd false (UInt8.ofNat (48 + m % 10) :: acc) (by simp only [List.length_cons]; omega)
   simp only [Bool.false_eq_true, if_false] at this
   refine this.to ?_
   rw [key _ rfl, if_neg h0]
  | true =>
   simp only [if_true]
   have e1 : Int.tmod (-(m : Int)) 10 = -((m % 10 : Nat) : Int) := by rw [Int.neg_tmod, Int.tmod_eq_emod_of_nonneg (by omega)]; omega
   have e2 : Int.tdiv (-(m : Int)) 10 = -((m / 10 : Nat) : Int) := by rw [Int.neg_tdiv, Int.tdiv_eq_ediv_of_nonneg (by omega)]; omega
   have fin : Ev (fun k => F50.l0 k (wrap64 (Int.tdiv (-(m : Int)) 10)) true ((⟨[UInt8.ofNat (48 + m % 10)].toArray⟩ : ByteArray) ++ ⟨acc.toArray⟩)) ⟨([45] ++ ((if m = 0 then [] else Lib.decDigits m) ++ acc)).toArray⟩ := by
    rw [e2, wrap_id (by omega) (by omega), ba_app]
    have := ih (m / 10) hd true (UInt8.ofNat (48 + m % 10) :: acc) (by simp only [List.length_cons]; omega)
    simp only [if_true] at this
    refine this.to ?_
    rw [key _ rfl, if_neg h0]
   refine Ev.ite (fun g => Ev.bindc rfl ?_) (fun g => Ev.bindc rfl ?_)
   ·rw [show wrap64 (-(Int.tmod (-(m : Int)) 10)) = ((m % 10 : Nat) : Int) from by rw [e1, wrap_id (by omega) (by omega)]; omega, hone _ (by omega) (by omega)]
    refine Ev.pos (by rw [hsz, hsz]; simp only [List.length_cons, List.length_nil]; omega) ?_
    exact fin
   ·rw [show Int.tmod (-(m : Int)) 10 = ((m % 10 : Nat) : Int) from by rw [e1] at g ⊢; omega, hone _ (by omega) (by omega)]
    refine Ev.pos (by rw [hsz, hsz]; simp only [List.length_cons, List.length_nil]; omega) ?_
    exact fin
theorem l01Dec_ev (n : Int) (h0 : -100000000000000 ≤ n) (h1 : n ≤ 100000000000000) : Ev (fun k => F50.f k n) (decS n) := by
 unfold F50.f
 by_cases h : n = 0
 ·subst h
  refine Ev.pos rfl (Ev.ret ?_)
  unfold decS Lib.itoa
  rw [if_neg (by omega), Lib.decDigits.eq_1, dif_pos (by simp)]
  rfl
 ·refine Ev.neg h ?_
  have := dec_loop n.natAbs (decide (n < 0)) [] (by simp only [List.length_nil]; omega)
  have e : (if decide (n < 0) = true then -(n.natAbs : Int) else (n.natAbs : Int)) = n := by split <;> rename_i g <;> simp at g <;> omega
  rw [e] at this
  refine this.to ?_
  unfold decS Lib.itoa
  by_cases g : n < 0
  ·have hz : n.natAbs ≠ 0 := by omega
   simp [g, hz]
  ·have hz : n.natAbs ≠ 0 := by omega
   have hy : n.natAbs = n.toNat := by omega
   have hx : n.toNat ≠ 0 := by omega
   simp [g, hy, hx]
theorem decimal_eq (n : Int) (h0 : -9223372036854775808 ≤ n) (h1 : n ≤ 9223372036854775807) : F88.f n = some (decS n) := by
 unfold F88.f F113.f
 rw [if_pos rfl, if_pos ⟨h0, h1⟩]
 rfl
def dgt (m : Nat) : List Int := (Lib.decDigits m).map fun b => (b.toNat : Int)
def dvl : Nat → List Int → Nat
 | a, [] => a
 | a, c :: r => dvl (a * 10 + (c - 48).toNat) r
theorem dgt_eq (m : Nat) : dgt m = if m < 10 then [(48 + m : Int)] else dgt (m / 10) ++ [((48 + m % 10 : Nat) : Int)] := by
 unfold dgt
 rw [Lib.decDigits.eq_1 m]
 by_cases h : m < 10
 ·rw [dif_pos h, if_pos h]
  have : (UInt8.ofNat (48 + m)).toNat = 48 + m := by rw [UInt8.toNat_ofNat']; omega
  show [(((UInt8.ofNat (48 + m)).toNat : Nat) : Int)] = _
  rw [this, Int.natCast_add]; rfl
 ·rw [dif_neg h, if_neg h, List.map_append]
  have : (UInt8.ofNat (48 + m % 10)).toNat = 48 + m % 10 := by rw [UInt8.toNat_ofNat']; omega
  simp only [List.map_cons, List.map_nil, this]
theorem dvl_app (l : List Int) (c : Int) : ∀ a, dvl a (l ++ [c]) = dvl a l * 10 + (c - 48).toNat := by
 induction l with
 | nil => intro a; rfl
 | cons x l ih => intro a; exact ih _
theorem dvl_ge : ∀ (l : List Int) (a : Nat), a ≤ dvl a l
 | [], _ => Nat.le_refl _
 | c :: r, a => Nat.le_trans (by omega) (dvl_ge r (a * 10 + (c - 48).toNat))
theorem dgt_all (m : Nat) : (dgt m).all digit = true ∧ dgt m ≠ [] ∧ dvl 0 (dgt m) = m ∧ (1 ≤ m → (dgt m).head? ≠ some 48) := by
 induction m using Nat.strongRecOn with
 | _ m ih =>
 rw [dgt_eq]
 by_cases h : m < 10
 ·rw [if_pos h]
  refine ⟨?_, by simp, ?_, fun h1 => ?_⟩
  ·simp only [List.all_cons, List.all_nil, Bool.and_true]
   exact digit_t (by omega) (by omega)
  ·show 0 * 10 + ((48 + m : Int) - 48).toNat = m
   omega
  ·simp only [List.head?_cons, ne_eq, Option.some.injEq]
   omega
 ·rw [if_neg h]
  obtain ⟨h1, h2, h3, h4⟩ := ih (m / 10) (by omega)
  refine ⟨?_, by simp, ?_, fun _ => ?_⟩
  ·rw [List.all_append, h1]
   simp only [List.all_cons, List.all_nil, Bool.and_true, Bool.true_and]
   exact digit_t (by omega) (by omega)
  ·rw [dvl_app, h3]
   omega
  ·have := h4 (by omega)
   cases hd : dgt (m / 10) with
   | nil => exact absurd hd h2
   | cons x r => rw [hd] at this; simpa using this
theorem rev_ind {α : Type} {P : List α → Prop} (h0 : P []) (h1 : ∀ l a, P l → P (l ++ [a])) (l : List α) : P l := by
 have : ∀ r : List α, P r.reverse := by
  intro r
  induction r with
  | nil => exact h0
  | cons a r ih => rw [List.reverse_cons]; exact h1 _ _ ih
 have h2 := this l.reverse
 rwa [List.reverse_reverse] at h2
theorem dgt_of (l : List Int) : l.all digit = true → l ≠ [] → l.head? ≠ some 48 → dgt (dvl 0 l) = l := by
 refine rev_ind (P := fun l => l.all digit = true → l ≠ [] → l.head? ≠ some 48 → dgt (dvl 0 l) = l) (fun _ h => absurd rfl h) (fun r c ih h1 h2 h3 => ?_) l
 rw [List.all_append, Bool.and_eq_true] at h1
 have hc : 48 ≤ c ∧ c ≤ 57 := by simpa [digit] using h1.2
 rw [dvl_app]
 cases r with
 | nil =>
  have : c ≠ 48 := fun e => h3 (by simp [e])
  show dgt (0 * 10 + (c - 48).toNat) = [c]
  rw [dgt_eq, if_pos (by omega)]
  congr 1
  omega
 | cons x r =>
  have h5 : (x :: r).head? ≠ some 48 := fun e => h3 (by simpa using e)
  have h4 := ih h1.1 (by simp) h5
  have hv : 1 ≤ dvl 0 (x :: r) := by
   rcases Nat.eq_zero_or_pos (dvl 0 (x :: r)) with e | e
   ·rw [e] at h4
    have e0 : dgt 0 = [48] := by rw [dgt_eq]; rfl
    rw [e0] at h4
    exact absurd (by rw [← h4]; rfl) h5
   ·exact e
  rw [dgt_eq, if_neg (by omega)]
  have e1 : (dvl 0 (x :: r) * 10 + (c - 48).toNat) / 10 = dvl 0 (x :: r) := by omega
  have e2 : ((48 + (dvl 0 (x :: r) * 10 + (c - 48).toNat) % 10 : Nat) : Int) = c := by omega
  rw [e1, e2, h4]
theorem dgt_len : ∀ (n m : Nat), 1 ≤ n → m < 10 ^ n → (dgt m).length ≤ n
 | 0, _, h, _ => by omega
 | n + 1, m, _, h => by
  rw [dgt_eq]
  by_cases h1 : m < 10
  ·rw [if_pos h1]; simp
  ·rw [if_neg h1, List.length_append, List.length_singleton]
   have hn : 1 ≤ n := by
    rcases Nat.eq_zero_or_pos n with e | e
    ·subst e; simp at h; omega
    ·exact e
   have := dgt_len n (m / 10) hn (by rw [Nat.pow_succ] at h; omega)
   omega
theorem bytes_decS (m : Nat) : bytesOf (decS (m : Int)) = dgt m := by
 unfold decS
 rw [Lib.itoa_nonneg]
 rfl
theorem puM_ok (M : Nat) : ∀ (l : List UInt8) (a u : Nat), Lib.parseUintM M a l = .ok u → (l.map fun b => (b.toNat : Int)).all digit = true ∧ u = dvl a (l.map fun b => (b.toNat : Int))
 | [], a, u, h => by
  simp only [Lib.parseUintM] at h
  cases h
  exact ⟨rfl, rfl⟩
 | c :: r, a, u, h => by
  rw [Lib.parseUintM] at h
  by_cases h1 : 48 ≤ c.toNat ∧ c.toNat ≤ 57
  ·rw [if_pos h1] at h
   by_cases h2 : 1844674407370955162 ≤ a
   ·rw [if_pos h2] at h; cases h
   ·rw [if_neg h2] at h
    by_cases h3 : M < a * 10 + (c.toNat - 48)
    ·rw [if_pos h3] at h; cases h
    ·rw [if_neg h3] at h
     obtain ⟨e1, e2⟩ := puM_ok M r _ u h
     refine ⟨?_, ?_⟩
     ·rw [List.map_cons, List.all_cons, e1, Bool.and_true]
      exact digit_t (by omega) (by omega)
     ·rw [e2, List.map_cons]
      show _ = dvl (a * 10 + ((c.toNat : Int) - 48).toNat) _
      congr 1
      omega
  ·rw [if_neg h1] at h; cases h
theorem puM_of (M : Nat) (hM : 1000000000000000 ≤ M) : ∀ (l : List UInt8) (a : Nat), (l.map fun b => (b.toNat : Int)).all digit = true → dvl a (l.map fun b => (b.toNat : Int)) ≤ 1000000000000000 → Lib.parseUintM M a l = .ok (dvl a (l.map fun b => (b.toNat : Int)))
 | [], a, _, _ => rfl
 | c :: r, a, h, hb => by
  rw [List.map_cons, List.all_cons, Bool.and_eq_true] at h
  have hc : 48 ≤ (c.toNat : Int) ∧ (c.toNat : Int) ≤ 57 := by simpa [digit] using h.1
  have e : dvl a ((c :: r).map fun b => (b.toNat : Int)) = dvl (a * 10 + (c.toNat - 48)) (r.map fun b => (b.toNat : Int)) := by
   rw [List.map_cons]
   show dvl (a * 10 + ((c.toNat : Int) - 48).toNat) _ = _
   congr 1
   omega
  rw [e] at hb ⊢
  have hg := dvl_ge (r.map fun b => (b.toNat : Int)) (a * 10 + (c.toNat - 48))
  rw [Lib.parseUintM, if_pos (by omega), if_neg (by omega), if_neg (by omega)]
  exact puM_of M hM r _ h.2 hb
theorem piB_pos (c : UInt8) (r : List UInt8) (h : ¬ c.toNat = 43 ∧ ¬ c.toNat = 45) : Lib.parseIntB 64 (c :: r) = match Lib.parseUintM (2 ^ 64 - 1) 0 (c :: r) with
  | Lib.NumEnd.syntax => Lib.NumEnd.syntax
  | .range => .range
  | .ok u => if 2 ^ 63 ≤ u then .range else .ok (u : Int) := by
 dsimp only [Lib.parseIntB, Lib.parseUintB]
 rw [if_neg (not_or.2 h), if_neg (show ¬ c :: r = [] by simp)]
 cases Lib.parseUintM (2 ^ 64 - 1) 0 (c :: r) with
 | ok u => simp [h.2]
 | range => rfl
 | _ => rfl
theorem piB_neg (c : UInt8) (r : List UInt8) (h : c.toNat = 45) : Lib.parseIntB 64 (c :: r) = match Lib.parseUintB 64 r with
  | Lib.NumEnd.syntax => Lib.NumEnd.syntax
  | .range => .range
  | .ok u => if 2 ^ 63 < u then .range else .ok (-(u : Int)) := by
 dsimp only [Lib.parseIntB]
 rw [if_pos (.inr h)]
 cases Lib.parseUintB 64 r with
 | ok u => simp [h]
 | range => rfl
 | _ => rfl
theorem pi_of (s : ByteArray) (m : Nat) (hm : m ≤ 1000000000000000) (h : bytesOf s = dgt m) : Lib.parseIntB 64 s.data.toList = .ok (m : Int) := by
 obtain ⟨g1, g2, g3, _⟩ := dgt_all m
 have hl : (s.data.toList.map fun b => (b.toNat : Int)) = dgt m := h
 cases hs : s.data.toList with
 | nil => rw [hs] at hl; exact absurd hl.symm g2
 | cons c r =>
  rw [hs] at hl
  rw [← hl] at g1 g3
  have hc : 48 ≤ (c.toNat : Int) ∧ (c.toNat : Int) ≤ 57 := by
   rw [List.map_cons, List.all_cons, Bool.and_eq_true] at g1
   simpa [digit] using g1.1
  rw [piB_pos c r ⟨by omega, by omega⟩, puM_of (2 ^ 64 - 1) (by decide) (c :: r) 0 g1 (by rw [g3]; exact hm), g3]
  show (if 2 ^ 63 ≤ m then Lib.NumEnd.range else Lib.NumEnd.ok (m : Int)) = _
  rw [if_neg (by have : (2 : Nat) ^ 63 = 9223372036854775808 := rfl; omega)]
theorem pi_ok (s : ByteArray) (v : Int) (h : Lib.parseIntB 64 s.data.toList = .ok v) (hp : (bytesOf s).all digit = true) : v = (dvl 0 (bytesOf s) : Nat) := by
 have hl : (s.data.toList.map fun b => (b.toNat : Int)) = bytesOf s := rfl
 cases hs : s.data.toList with
 | nil => rw [hs] at h; simp [Lib.parseIntB] at h
 | cons c r =>
  rw [hs] at hl h
  rw [← hl] at hp ⊢
  have hc : 48 ≤ (c.toNat : Int) ∧ (c.toNat : Int) ≤ 57 := by
   rw [List.map_cons, List.all_cons, Bool.and_eq_true] at hp
   simpa [digit] using hp.1
  rw [piB_pos c r ⟨by omega, by omega⟩] at h
  cases hu : Lib.parseUintM (2 ^ 64 - 1) 0 (c :: r) with
  | ok u =>
   rw [hu] at h
   obtain ⟨_, e⟩ := puM_ok _ _ _ _ hu
   simp only at h
   split at h
   ·cases h
   ·cases h
    rw [← e]
  | range => rw [hu] at h; cases h
  | _ => rw [hu] at h; cases h
theorem nil_iff (s : ByteArray) : s.toList = ([] : List UInt8) ↔ bytesOf s = [] := by
 rw [ByteArray.toList_eq]
 simp [bytesOf]
theorem one_iff (s : ByteArray) : (s.toList == ([48] : List UInt8)) = (bytesOf s == [48]) := by
 rw [ByteArray.toList_eq]
 have : s.toList = ([48] : List UInt8) ↔ s = (⟨#[48]⟩ : ByteArray) := by
  have e : (⟨#[48]⟩ : ByteArray).toList = [48] := by rw [ByteArray.toList_eq]
  exact ⟨fun h => toList_inj.1 (h.trans e.symm), fun h => h ▸ e⟩
 have h2 : bytesOf s = [48] ↔ s = (⟨#[48]⟩ : ByteArray) := by
  rw [← show bytesOf (⟨#[48]⟩ : ByteArray) = [48] from rfl]
  exact ⟨bytesOf_inj, fun h => h ▸ rfl⟩
 rw [← ByteArray.toList_eq]
 by_cases h : s = (⟨#[48]⟩ : ByteArray)
 ·rw [beq_iff_eq.2 (this.2 h), beq_iff_eq.2 (h2.2 h)]
 ·rw [beq_eq_false_iff_ne.2 (fun e => h (this.1 e)), beq_eq_false_iff_ne.2 (fun e => h (h2.1 e))]
theorem bt_head {s : ByteArray} {c : Int} {r : List Int} (h : bytesOf s = c :: r) : (0 : Int) < (s.size : Int) ∧ bt s 0 = c ∧ bytesOf (s.extract 1 s.size) = r := by
 obtain ⟨h1, h2, h3, _⟩ := drop_cons (s := s) (i := 0) (c := c) (r := r) (by simpa using h)
 refine ⟨h1, h2, ?_⟩
 rw [bytesOf_extract, List.take_of_length_le (Nat.le_of_eq (length_bytesOf s)), h]
 rfl
def isNumB (l d : List Int) : Bool := d.all digit && (decide (d ≠ []) && (decide (d.head? ≠ some 48) || (l == [48])))
theorem isNum_loop (s d : ByteArray) (hd : (d.size : Int) ≤ 1048576) : ∀ (l : List Int) (i : Nat), (bytesOf d).drop i = l → Ev (fun k => F96.l0 k s d (d.size : Int) (i : Int)) (l.all digit && (decide (bytesOf d ≠ []) && (decide ((bytesOf d).head? ≠ some 48) || (bytesOf s == [48])))) := by
 intro l
 induction l with
 | nil =>
  intro i h
  have h0 := drop_nil h
  refine Ev.step (fun k => F96.l0.eq_2 ..) (Ev.neg (by omega) ?_)
  by_cases hz : bytesOf d = []
  ·exact Ev.pos ((nil_iff d).2 hz) (Ev.ret (by simp [hz]))
  ·refine Ev.neg (fun e => hz ((nil_iff d).1 e)) ?_
   cases hb : bytesOf d with
   | nil => exact absurd hb hz
   | cons c r =>
    obtain ⟨g1, g2, _⟩ := bt_head hb
    refine Ev.pos g1 ?_
    rw [g2]
    by_cases hc : c = 48
    ·exact Ev.pos hc (Ev.ret (by rw [one_iff]; simp [hc]))
    ·exact Ev.neg hc (Ev.ret (by simp [hc]))
 | cons c r ih =>
  intro i h
  obtain ⟨h1, h2, h3, _, _⟩ := drop_cons h
  refine Ev.step (fun k => F96.l0.eq_2 ..) (Ev.pos h1 (Ev.pos (by omega) (Ev.pos h1 ?_)))
  rw [h2]
  refine Ev.bindc (isDigit_eq _) ?_
  by_cases hg : digit c = true
  ·refine Ev.pos hg ?_
   rw [wi_ (by omega)]
   exact (ih (i + 1) h3).to (by simp [hg])
  ·exact Ev.neg hg (Ev.ret (by simp [hg]))
def digs (l : List Int) : List Int := if l.head? = some 45 then l.drop 1 else l
theorem isNumber_ev (s : ByteArray) (hs : s.size ≤ 1048576) : Ev (fun k => F96.f k s) (isNumB (bytesOf s) (digs (bytesOf s))) := by
 unfold F96.f
 cases hb : bytesOf s with
 | nil =>
  have hz := (nil_iff s).2 hb
  refine Ev.pos hz (Ev.step (fun k => F96.j0.eq_2 ..) (Ev.neg (by simp) (Ev.step (fun k => F96.j1.eq_2 ..) ?_)))
  have := isNum_loop s s (by omega) [] 0 (by simp [hb])
  rw [hb] at this
  exact this.to rfl
 | cons c r =>
  obtain ⟨g1, g2, g3⟩ := bt_head hb
  refine Ev.neg (fun e => by rw [(nil_iff s).1 e] at hb; cases hb) (Ev.pos g1 (Ev.step (fun k => F96.j0.eq_2 ..) ?_))
  rw [g2]
  by_cases hc : c = 45
  ·refine Ev.pos (by simp [hc]) (Ev.pos (by omega) (Ev.step (fun k => F96.j1.eq_2 ..) ?_))
   have := isNum_loop s (s.extract 1 s.size) (by rw [← length_bytesOf, g3]; have := length_bytesOf s; rw [hb] at this; simp only [List.length_cons] at this; omega) r 0 (by simp [g3])
   rw [g3, hb] at this
   exact this.to (by simp [isNumB, digs, hc])
  ·refine Ev.neg (by simp [hc]) (Ev.step (fun k => F96.j1.eq_2 ..) ?_)
   have := isNum_loop s s (by omega) (c :: r) 0 (by simp [hb])
   rw [hb] at this
   exact this.to (by simp [isNumB, digs, hc])
theorem decS_of_bytes {s : ByteArray} {m : Nat} (h : bytesOf s = dgt m) : s = decS (m : Int) := bytesOf_inj (by rw [h, bytes_decS])
theorem isNumB_dgt (m : Nat) : isNumB (dgt m) (digs (dgt m)) = true := by
 obtain ⟨g1, g2, g3, g4⟩ := dgt_all m
 have hh : (dgt m).head? ≠ some 45 := by
  cases hd : dgt m with
  | nil => simp
  | cons c r =>
   rw [hd, List.all_cons, Bool.and_eq_true] at g1
   have : 48 ≤ c ∧ c ≤ 57 := by simpa [digit] using g1.1
   simp only [List.head?_cons, ne_eq, Option.some.injEq]
   omega
 unfold isNumB digs
 rw [if_neg hh, g1]
 rcases Nat.eq_zero_or_pos m with e | e
 ·subst e
  have : dgt 0 = [48] := by rw [dgt_eq]; rfl
  rw [this]; rfl
 ·simp [g2, g4 e]
theorem isNumB_ok {l : List Int} (h : isNumB l (digs l) = true) (h0 : l.head? ≠ some 45) : l.all digit = true ∧ dgt (dvl 0 l) = l := by
 unfold isNumB digs at h
 rw [if_neg h0] at h
 simp only [Bool.and_eq_true, decide_eq_true_eq, Bool.or_eq_true, beq_iff_eq] at h
 refine ⟨h.1, ?_⟩
 rcases h.2.2 with e | e
 ·exact dgt_of l h.1 h.2.1 e
 ·rw [e]
  show dgt 0 = [48]
  rw [dgt_eq]; rfl
theorem pi_neg (s : ByteArray) (v : Int) (h : Lib.parseIntB 64 s.data.toList = .ok v) (hd : (bytesOf s).head? = some 45) : v ≤ 0 := by
 have hl : (s.data.toList.map fun b => (b.toNat : Int)) = bytesOf s := rfl
 cases hs : s.data.toList with
 | nil => rw [hs] at h; simp [Lib.parseIntB] at h
 | cons c r =>
  rw [hs] at hl h
  rw [← hl] at hd
  have hc : c.toNat = 45 := by simp at hd; omega
  rw [piB_neg c r hc] at h
  cases hu : Lib.parseUintB 64 r with
  | ok u =>
   rw [hu] at h
   simp only at h
   split at h
   ·cases h
   ·cases h
    omega
  | range => rw [hu] at h; cases h
  | _ => rw [hu] at h; cases h
theorem numberIn_ev (s : ByteArray) (hs : s.size ≤ 1048576) (lo hi : Int) (h0 : 0 ≤ lo) (h1 : hi ≤ 1000000000000) : ∃ p : Int × Bool, Ev (fun k => F62.f k s lo hi) p ∧ (∀ m : Nat, s = decS (m : Int) → lo ≤ (m : Int) → (m : Int) ≤ hi → p = ((m : Int), true)) ∧ (p.2 = true → ∃ m : Nat, s = decS (m : Int) ∧ lo ≤ (m : Int) ∧ (m : Int) ≤ hi ∧ p.1 = (m : Int)) := by
 unfold F62.f
 have key : ∃ p : Int × Bool, Ev (fun k => F62.g k s lo hi (Lib.parseIntB 64 s.data.toList)) p ∧ (∀ m : Nat, s = decS (m : Int) → lo ≤ (m : Int) → (m : Int) ≤ hi → p = ((m : Int), true)) ∧ (p.2 = true → ∃ m : Nat, s = decS (m : Int) ∧ lo ≤ (m : Int) ∧ (m : Int) ≤ hi ∧ p.1 = (m : Int)) := by
  cases hp : Lib.parseIntB 64 s.data.toList with
  | ok v =>
   unfold F62.g
   have hn := isNumber_ev s hs
   by_cases hb : isNumB (bytesOf s) (digs (bytesOf s)) = true
   ·rw [hb] at hn
    refine ⟨(v, withinP v lo hi), Ev.bind hn (Ev.pos rfl (Ev.bindc (within_eq _ _ _) (Ev.now _))), fun m hm l1 l2 => ?_, fun hq => ?_⟩
    ·have hbm : bytesOf s = dgt m := by rw [hm, bytes_decS]
     rw [pi_of s m (by omega) hbm] at hp
     cases hp
     rw [show withinP (m : Int) lo hi = true from by simp [withinP, l1, l2]]
    ·have hq : lo ≤ v ∧ v ≤ hi := by simpa [withinP] using hq
     by_cases hd : (bytesOf s).head? = some 45
     ·have := pi_neg s v hp hd
      have e0 : v = 0 := by omega
      exfalso
      -- '-0' is no number, and '-d' with d over 0 is under 0
      have hl : (s.data.toList.map fun b => (b.toNat : Int)) = bytesOf s := rfl
      cases hs' : s.data.toList with
      | nil => rw [hs'] at hp; simp [Lib.parseIntB] at hp
      | cons c r =>
       rw [hs'] at hl hp
       rw [← hl] at hb hd
       have hc : c.toNat = 45 := by simp at hd; omega
       rw [piB_neg c r hc] at hp
       unfold Lib.parseUintB at hp
       have hdg : digs ((c :: r).map fun b => (b.toNat : Int)) = r.map fun b => (b.toNat : Int) := by
        unfold digs
        rw [if_pos hd]; rfl
       rw [hdg] at hb
       unfold isNumB at hb
       simp only [Bool.and_eq_true, decide_eq_true_eq, Bool.or_eq_true, beq_iff_eq] at hb
       have hr : r ≠ [] := fun e => hb.2.1 (by rw [e]; rfl)
       rw [if_neg hr] at hp
       have hh : (r.map fun b => (b.toNat : Int)).head? ≠ some 48 := by
        rcases hb.2.2 with e | e
        ·exact e
        ·rw [List.map_cons, hc] at e
         simp at e
       have hg := dgt_of _ hb.1 hb.2.1 hh
       cases hu : Lib.parseUintM (2 ^ 64 - 1) 0 r with
       | ok u =>
        obtain ⟨_, e⟩ := puM_ok _ _ _ _ hu
        rw [hu] at hp
        simp only at hp
        split at hp
        ·cases hp
        ·cases hp
         have hz : u = 0 := by omega
         rw [← e, hz] at hg
         have e0 : dgt 0 = [48] := by rw [dgt_eq]; rfl
         rw [e0] at hg
         exact hh (by rw [← hg]; rfl)
       | range => rw [hu] at hp; cases hp
       | _ => rw [hu] at hp; cases hp
     ·obtain ⟨g1, g2⟩ := isNumB_ok hb hd
      have hv := pi_ok s v hp g1
      exact ⟨dvl 0 (bytesOf s), decS_of_bytes g2.symm, by omega, by omega, hv⟩
   ·rw [Bool.not_eq_true] at hb
    rw [hb] at hn
    refine ⟨(v, false), Ev.bind hn (Ev.neg (by simp) (Ev.now _)), fun m hm l1 l2 => ?_, fun hq => (by cases hq)⟩
    have hbm : bytesOf s = dgt m := by rw [hm, bytes_decS]
    rw [hbm, isNumB_dgt] at hb
    cases hb
  | range =>
   refine ⟨(Lib.intSat 64 s.data.toList, false), Ev.now _, fun m hm l1 l2 => ?_, fun hq => (by cases hq)⟩
   have hbm : bytesOf s = dgt m := by rw [hm, bytes_decS]
   rw [pi_of s m (by omega) hbm] at hp
   cases hp
  | _ =>
   refine ⟨(0, false), Ev.now _, fun m hm l1 l2 => ?_, fun hq => (by cases hq)⟩
   have hbm : bytesOf s = dgt m := by rw [hm, bytes_decS]
   rw [pi_of s m (by omega) hbm] at hp
   cases hp
 obtain ⟨p, e1, e2⟩ := key
 exact ⟨p, Ev.pos (by omega) e1, e2⟩
def plainS (tag : ByteArray) (ps : List ByteArray) : S52 := ⟨tag, ps.map fun p => (⟨[p]⟩ : S55)⟩
theorem l03Seg_loop (tag : ByteArray) (ps : List ByteArray) : ∀ (r : List ByteArray) (j : Nat) (acc : List S55), ps.drop j = r → acc.length + r.length ≤ 1000 → j + r.length ≤ 1000 → Ev (fun k => F49.l0 k ps (j : Int) tag acc) (tag, acc ++ r.map fun p => (⟨[p]⟩ : S55)) := by
 intro r
 induction r with
 | nil =>
  intro j acc h _ _
  have h0 := ldrop_nil h
  exact Ev.step (fun k => F49.l0.eq_2 ..) (Ev.neg (by omega) (Ev.ret (by simp)))
 | cons c r ih =>
  intro j acc h hb hj
  obtain ⟨h1, h2, h3⟩ := ldrop_cons ByteArray.empty h
  have hr : rdOf ByteArray.empty ps (j : Int) = c := h2
  simp only [List.length_cons] at hb hj
  refine Ev.step (fun k => F49.l0.eq_2 ..) (Ev.pos h1 (Ev.pos (by omega) (Ev.pos (by omega) ?_)))
  rw [hr, wi_ (by omega)]
  exact (ih (j + 1) _ h3 (by rw [List.length_append]; simp only [List.length_cons, List.length_nil]; omega) (by omega)).to (by simp)
theorem l03Seg_ev (tag : ByteArray) (ps : List ByteArray) (h : ps.length ≤ 1000) : Ev (fun k => F49.f k tag ps) ((plainS tag ps).f0, (plainS tag ps).f1) :=
 (l03Seg_loop tag ps ps 0 [] rfl (by simpa using h) (by omega)).to rfl
theorem parts_loop (T : ByteArray) (E : List S55) (tag : ByteArray) (many : Int) (hE : E.length ≤ 1048576) : ∀ (r : List S55) (j : Nat) (acc : List ByteArray), E.drop j = r → acc.length = j → ∃ R : List ByteArray × Bool, Ev (fun k => F60.l0 k tag many acc E (E.length : Int) (j : Int) T E) R ∧ (R.2 = true → ∃ ps, r = ps.map (fun p => (⟨[p]⟩ : S55)) ∧ R.1 = acc ++ ps ∧ T = tag ∧ ((acc ++ ps).length : Int) = many) ∧ (∀ ps, r = ps.map (fun p => (⟨[p]⟩ : S55)) → T = tag → ((acc ++ ps).length : Int) = many → R = (acc ++ ps, true)) := by
 intro r
 induction r with
 | nil =>
  intro j acc h hj
  have h0 := ldrop_nil h
  by_cases ht : T = tag
  ·refine ⟨(acc, ((acc.length : Int) == many)), Ev.step (fun k => F60.l0.eq_2 ..) (Ev.neg (by omega) (Ev.pos (by rw [ht]) (Ev.now _))), fun g => ⟨[], rfl, by simp, ht, by simpa using g⟩, fun ps hps _ hm => ?_⟩
   have : ps = [] := by simpa using hps.symm
   subst this
   simp at hm ⊢
   exact hm
  ·exact ⟨(acc, false), Ev.step (fun k => F60.l0.eq_2 ..) (Ev.neg (by omega) (Ev.neg (fun e => ht (toList_inj.1 e)) (Ev.now _))), fun g => (by cases g), fun ps _ g => absurd g ht⟩
 | cons c r ih =>
  intro j acc h hj
  obtain ⟨h1, h2, h3⟩ := ldrop_cons z55 h
  have hr : rd_T55 E (j : Int) = c := h2
  by_cases hc : c.f0.length = 1
  ·obtain ⟨p, hp⟩ := List.length_eq_one_iff.1 hc
   have hcp : c = ⟨[p]⟩ := by cases c; exact congrArg _ hp
   obtain ⟨R, e1, e2, e3⟩ := ih (j + 1) (acc ++ [p]) h3 (by simp [hj])
   refine ⟨R, Ev.step (fun k => F60.l0.eq_2 ..) (Ev.pos h1 (Ev.pos (by omega) (Ev.pos h1 ?_))), fun g => ?_, fun ps hps ht hm => ?_⟩
   ·rw [hr]
    refine Ev.pos (by omega) (Ev.pos (by omega) (Ev.pos (by omega) ?_))
    rw [hp, wi_ (by omega)]
    exact e1
   ·obtain ⟨ps, g1, g2, g3, g4⟩ := e2 g
    exact ⟨p :: ps, by rw [g1, hcp]; rfl, by rw [g2]; simp, g3, by simpa using g4⟩
   ·cases ps with
    | nil => simp at hps
    | cons q ps =>
     rw [List.map_cons, List.cons.injEq] at hps
     have hq : p = q := by
      have := hps.1
      rw [hcp] at this
      simpa using this
     rw [e3 ps hps.2 ht (by simpa using hm), hq]
     simp
  ·refine ⟨([], false), Ev.step (fun k => F60.l0.eq_2 ..) (Ev.pos h1 (Ev.pos (by omega) (Ev.pos h1 ?_))), fun g => (by cases g), fun ps hps ht hm => ?_⟩
   ·rw [hr]
    exact Ev.neg (by omega) (Ev.now _)
   ·cases ps with
    | nil => simp at hps
    | cons q ps =>
     rw [List.map_cons, List.cons.injEq] at hps
     exact absurd (by rw [hps.1]; rfl) hc
theorem parts_ev (g : S52) (tag : ByteArray) (many : Int) (hE : g.f1.length ≤ 1048576) : ∃ R : List ByteArray × Bool, Ev (fun k => F60.f k g.f0 g.f1 tag many) R ∧ (R.2 = true → g = plainS tag R.1 ∧ (R.1.length : Int) = many) ∧ (∀ ps, g = plainS tag ps → (ps.length : Int) = many → R = (ps, true)) := by
 obtain ⟨R, e1, e2, e3⟩ := parts_loop g.f0 g.f1 tag many hE g.f1 0 [] rfl rfl
 refine ⟨R, e1, fun h => ?_, fun ps h hm => ?_⟩
 ·obtain ⟨ps, g1, g2, g3, g4⟩ := e2 h
  rw [List.nil_append] at g2 g4
  rw [g2]
  refine ⟨?_, g4⟩
  cases g
  simp only at g1 g3
  rw [g1, g3]; rfl
 ·have := e3 ps (by rw [h]; rfl) (by rw [h]; rfl) (by simpa using hm)
  simpa using this
theorem copySeg_loop (tag : ByteArray) (L : List S55) (tg : ByteArray) (hE : ∀ e ∈ L, e.f0.length ≤ 1048576) (hl : L.length ≤ 1048576) : ∀ (r : List S55) (j : Nat) (acc : List S55), L.drop j = r → acc.length = j → Ev (fun k => F51.l0 k (j : Int) tg L tag acc) (tag, acc ++ r) := by
 intro r
 induction r with
 | nil =>
  intro j acc h _
  have h0 := ldrop_nil h
  exact Ev.step (fun k => F51.l0.eq_2 ..) (Ev.neg (by omega) (Ev.ret (by simp)))
 | cons c r ih =>
  intro j acc h hj
  obtain ⟨h1, h2, h3⟩ := ldrop_cons z55 h
  have hr : rd_T55 L (j : Int) = c := h2
  have hm := hE c (List.mem_of_mem_drop (by rw [h]; exact List.mem_cons_self))
  refine Ev.step (fun k => F51.l0.eq_2 ..) (Ev.pos h1 (Ev.bindc rfl (Ev.pos (by omega) ?_)))
  rw [hr, wi_ (by omega)]
  refine Ev.pos (by simp only [List.length_nil]; omega) (Ev.pos (by omega) ?_)
  exact (ih (j + 1) _ h3 (by rw [List.length_append]; simp only [List.length_cons, List.length_nil]; omega)).to (by simp)
theorem copySeg_ev (s : S52) (hl : s.f1.length ≤ 1048576) (hE : ∀ e ∈ s.f1, e.f0.length ≤ 1048576) : Ev (fun k => F51.f k s.f0 s.f1) (s.f0, s.f1) :=
 (copySeg_loop s.f0 s.f1 s.f0 hE hl s.f1 0 [] rfl rfl).to rfl
theorem ownSeg_loop (tag : ByteArray) (L : List S55) (hE : ∀ e ∈ L, e.f0.length ≤ 1048576) (hl : L.length ≤ 1048576) : ∀ (r : List S55) (j : Nat) (acc : List S55), L.drop j = r → acc.length = j → Ev (fun k => F79.l0 k L (L.length : Int) (j : Int) tag acc) (tag, acc ++ r) := by
 intro r
 induction r with
 | nil =>
  intro j acc h _
  have h0 := ldrop_nil h
  exact Ev.step (fun k => F79.l0.eq_2 ..) (Ev.neg (by omega) (Ev.ret (by simp)))
 | cons c r ih =>
  intro j acc h hj
  obtain ⟨h1, h2, h3⟩ := ldrop_cons z55 h
  have hr : rd_T55 L (j : Int) = c := h2
  have hm := hE c (List.mem_of_mem_drop (by rw [h]; exact List.mem_cons_self))
  refine Ev.step (fun k => F79.l0.eq_2 ..) (Ev.pos h1 (Ev.pos (by omega) (Ev.pos h1 ?_)))
  rw [hr, wi_ (by omega)]
  refine Ev.bindc (a := c.f0) (by unfold F106.f; rw [if_pos (by omega)]) (Ev.pos (by omega) ?_)
  exact (ih (j + 1) _ h3 (by rw [List.length_append]; simp only [List.length_cons, List.length_nil]; omega)).to (by simp)
theorem ownSeg_ev (s : S52) (hl : s.f1.length ≤ 1048576) (hE : ∀ e ∈ s.f1, e.f0.length ≤ 1048576) : Ev (fun k => F79.f k s.f0 s.f1) (s.f0, s.f1) :=
 (ownSeg_loop s.f0 s.f1 hE hl s.f1 0 [] rfl rfl).to rfl
def cpS (s : S52) : Prop := s.f1.length ≤ 1048576 ∧ ∀ e ∈ s.f1, e.f0.length ≤ 1048576
abbrev tIXH : ByteArray := ⟨#[73, 88, 72]⟩
abbrev tGRH : ByteArray := ⟨#[71, 82, 72]⟩
abbrev tMSH : ByteArray := ⟨#[77, 83, 72]⟩
abbrev tMST : ByteArray := ⟨#[77, 83, 84]⟩
abbrev tGRT : ByteArray := ⟨#[71, 82, 84]⟩
abbrev tIXT : ByteArray := ⟨#[73, 88, 84]⟩
def segsM (m : S85) : List S52 := plainS tMSH [decS m.f0] :: (m.f1 ++ [plainS tMST [decS (m.f1.length : Int), decS m.f0]])
def segsB (b : S83) : List S52 := plainS tGRH [decS b.f0, decS b.f1] :: (b.f2.flatMap segsM ++ [plainS tGRT [decS (b.f2.length : Int), decS b.f1]])
def segsX (A B : ByteArray) (n : Int) (L : List S83) : List S52 := plainS tIXH [A, B, decS n] :: (L.flatMap segsB ++ [plainS tIXT [decS (L.length : Int), decS n]])
def okM (m : S85) : Prop := (0 ≤ m.f0 ∧ m.f0 ≤ 999999) ∧ m.f1.length ≤ 40 ∧ ∀ s ∈ m.f1, cpS s
def okB (b : S83) : Prop := (1 ≤ b.f0 ∧ b.f0 ≤ 7) ∧ (0 ≤ b.f1 ∧ b.f1 ≤ 999999) ∧ b.f2.length ≤ 10 ∧ ∀ m ∈ b.f2, okM m
theorem flat_le {α β : Type} (f : α → List β) (c : Nat) (l : List α) (h : ∀ x ∈ l, (f x).length ≤ c) : (l.flatMap f).length ≤ c * l.length := by
 induction l with
 | nil => simp
 | cons x l ih =>
  have h1 := h x List.mem_cons_self
  have h2 := ih fun y hy => h y (List.mem_cons_of_mem _ hy)
  rw [List.flatMap_cons, List.length_append, List.length_cons, Nat.mul_succ]
  omega
theorem segsM_len {m : S85} (h : okM m) : (segsM m).length ≤ 42 := by
 have := h.2.1
 unfold segsM
 simp only [List.length_cons, List.length_append, List.length_nil]
 omega
theorem two_ev (tag : ByteArray) (a b : Int) (h0 : 0 ≤ a) (h1 : a ≤ 1000000000) (h2 : 0 ≤ b) (h3 : b ≤ 1000000000) : Ev (fun k => F48.f k tag a b) ((plainS tag [decS a, decS b]).f0, (plainS tag [decS a, decS b]).f1) := by
 unfold F48.f
 exact Ev.bind (l01Dec_ev a (by omega) (by omega)) (Ev.bind (l01Dec_ev b (by omega) (by omega)) (Ev.bind (l03Seg_ev tag [decS a, decS b] (by simp)) (Ev.now _)))
theorem sx2_loop (x4 x6 : Int) (A B : ByteArray) (n : Int) (L : List S83) (kd ct : Int) (M : List S85) (mc : Int) (G : List S52) (hG : ∀ s ∈ G, cpS s) (hl : G.length ≤ 40) (hm : 0 ≤ mc ∧ mc ≤ 999999) {R : List S52} : ∀ (r : List S52) (j : Nat) (acc : List S52), G.drop j = r → acc.length + r.length ≤ 1000000 →
  Ev (fun k => F22.l1 k (acc ++ r ++ [plainS tMST [decS (G.length : Int), decS mc]]) x4 (wrap64 (x6 + 1)) A B n L kd ct M) R → Ev (fun k => F22.l2 k acc x4 x6 (j : Int) A B n L kd ct M mc G) R := by
 intro r
 induction r with
 | nil =>
  intro j acc h hb hR
  have h0 := ldrop_nil h
  simp only [List.length_nil, List.append_nil] at hb hR
  exact Ev.step (fun k => F22.l2.eq_2 ..) (Ev.neg (by omega) (Ev.bind (two_ev tMST _ _ (by omega) (by omega) hm.1 (by omega)) (Ev.pos (by omega) hR)))
 | cons c r ih =>
  intro j acc h hb hR
  obtain ⟨h1, h2, h3⟩ := ldrop_cons z52 h
  have hr : rd_T52 G (j : Int) = c := h2
  have hm := hG c (List.mem_of_mem_drop (by rw [h]; exact List.mem_cons_self))
  simp only [List.length_cons] at hb
  refine Ev.step (fun k => F22.l2.eq_2 ..) (Ev.pos h1 (Ev.pos (by omega) ?_))
  rw [hr, wi_ (by omega)]
  refine Ev.bind (copySeg_ev c hm.1 hm.2) (Ev.pos (by omega) ?_)
  exact ih (j + 1) _ h3 (by rw [List.length_append]; simp only [List.length_cons, List.length_nil]; omega) (by simpa using hR)
theorem sx1_loop (x4 : Int) (A B : ByteArray) (n : Int) (L : List S83) (kd ct : Int) (M : List S85) (hM : ∀ m ∈ M, okM m) (hl : M.length ≤ 10) (hc : 0 ≤ ct ∧ ct ≤ 999999) {R : List S52} : ∀ (r : List S85) (j : Nat) (acc : List S52), M.drop j = r → acc.length + 42 * r.length ≤ 900000 →
  Ev (fun k => F22.l0 k (acc ++ r.flatMap segsM ++ [plainS tGRT [decS (M.length : Int), decS ct]]) (wrap64 (x4 + 1)) A B n L) R → Ev (fun k => F22.l1 k acc x4 (j : Int) A B n L kd ct M) R := by
 intro r
 induction r with
 | nil =>
  intro j acc h hb hR
  have h0 := ldrop_nil h
  simp only [List.length_nil, List.flatMap_nil, List.append_nil] at hb hR
  exact Ev.step (fun k => F22.l1.eq_2 ..) (Ev.neg (by omega) (Ev.bind (two_ev tGRT _ _ (by omega) (by omega) hc.1 (by omega)) (Ev.pos (by omega) hR)))
 | cons c r ih =>
  intro j acc h hb hR
  obtain ⟨h1, h2, h3⟩ := ldrop_cons z85 h
  have hr : rd_T85 M (j : Int) = c := h2
  have hm := hM c (List.mem_of_mem_drop (by rw [h]; exact List.mem_cons_self))
  simp only [List.length_cons] at hb
  refine Ev.step (fun k => F22.l1.eq_2 ..) (Ev.pos h1 (Ev.pos (by omega) ?_))
  rw [hr]
  refine Ev.bind (l01Dec_ev c.f0 (by have := hm.1; omega) (by have := hm.1; omega)) (Ev.bind (l03Seg_ev tMSH [decS c.f0] (by simp)) (Ev.pos (by omega) ?_))
  have hl2 := hm.2.1
  refine sx2_loop x4 (j : Int) A B n L kd ct M c.f0 c.f1 hm.2.2 hm.2.1 hm.1 c.f1 0 _ rfl (by rw [List.length_append]; simp only [List.length_cons, List.length_nil]; omega) ?_
  rw [wi_ (by omega)]
  refine ih (j + 1) _ h3 (by simp only [List.length_append, List.length_cons, List.length_nil]; omega) ?_
  refine cast (congrArg (fun z => Ev (fun k => F22.l0 k z (wrap64 (x4 + 1)) A B n L) R) ?_) hR
  simp [segsM, plainS]
theorem sx0_loop (A B : ByteArray) (n : Int) (L : List S83) (hL : ∀ b ∈ L, okB b) (hl : L.length ≤ 5) (hn : 0 ≤ n ∧ n ≤ 999999) : ∀ (r : List S83) (j : Nat) (acc : List S52), L.drop j = r → acc.length + 1000 * r.length ≤ 800000 →
  Ev (fun k => F22.l0 k acc (j : Int) A B n L) (acc ++ r.flatMap segsB ++ [plainS tIXT [decS (L.length : Int), decS n]]) := by
 intro r
 induction r with
 | nil =>
  intro j acc h hb
  have h0 := ldrop_nil h
  simp only [List.length_nil] at hb
  exact Ev.step (fun k => F22.l0.eq_2 ..) (Ev.neg (by omega) (Ev.bind (two_ev tIXT _ _ (by omega) (by omega) hn.1 (by omega)) (Ev.pos (by omega) (Ev.ret (by simp [plainS])))))
 | cons c r ih =>
  intro j acc h hb
  obtain ⟨h1, h2, h3⟩ := ldrop_cons z83 h
  have hr : rd_T83 L (j : Int) = c := h2
  have hm := hL c (List.mem_of_mem_drop (by rw [h]; exact List.mem_cons_self))
  simp only [List.length_cons] at hb
  refine Ev.step (fun k => F22.l0.eq_2 ..) (Ev.pos h1 (Ev.pos (by omega) ?_))
  rw [hr]
  refine Ev.bind (two_ev tGRH c.f0 c.f1 (by have := hm.1; omega) (by have := hm.1; omega) hm.2.1.1 (by have := hm.2.1; omega)) (Ev.pos (by omega) ?_)
  have h4 := hm.2.2.1
  have h5 := flat_le segsM 42 c.f2 fun m hm' => segsM_len (hm.2.2.2 m hm')
  refine sx1_loop (j : Int) A B n L c.f0 c.f1 c.f2 hm.2.2.2 h4 hm.2.1 c.f2 0 _ rfl (by rw [List.length_append]; simp only [List.length_cons, List.length_nil]; omega) ?_
  rw [wi_ (by omega)]
  refine (ih (j + 1) _ h3 (by simp only [List.length_append, List.length_cons, List.length_nil]; omega)).to ?_
  simp [segsB, plainS]
theorem ixB_ok {A B : ByteArray} {n : Int} {L : List S83} (h : ixB A B n L = true) (hb : ∀ b ∈ L, bBn b) : (1 ≤ n ∧ n ≤ 999999) ∧ (1 ≤ L.length ∧ L.length ≤ 5) ∧ ∀ b ∈ L, okB b := by
 simp only [ixB, Bool.and_eq_true, ctlB, decide_eq_true_eq, List.all_eq_true, bunB, msgB] at h
 refine ⟨h.2.2.1, h.2.2.2.1, fun b hB => ?_⟩
 have h1 := h.2.2.2.2 b hB
 refine ⟨h1.1, by have := h1.2.1; omega, by have := h1.2.2.1; omega, fun m hm => ?_⟩
 have h2 := h1.2.2.2 m hm
 exact ⟨by have := h2.1; omega, h2.2.1, fun s hs => ⟨(((hb b hB).2 m hm).2 s hs).1, fun e he => ((((hb b hB).2 m hm).2 s hs).2 e he).1⟩⟩
theorem specSegs_ev (A B : ByteArray) (n : Int) (L : List S83) (hA : (A.size : Int) ≤ 9223372036854775807) (hB : (B.size : Int) ≤ 9223372036854775807) (hl : L.length ≤ 1048576) (hL : ∀ b ∈ L, bBn b) : Ev (fun k => F22.f k A B n L) (if ixB A B n L = true then segsX A B n L else []) := by
 unfold F22.f
 refine Ev.bindc rfl (Ev.bind (specIx_ev A B n L hA hB hl hL) (Ev.ite (fun g => ?_) (fun g => Ev.ret (by rw [if_neg g]))))
 obtain ⟨h1, h2, h3⟩ := ixB_ok g hL
 rw [if_pos g]
 unfold F35.f
 refine Ev.bind (Ev.bind (l01Dec_ev n (by omega) (by omega)) (Ev.bind (l03Seg_ev tIXH [A, B, decS n] (by simp)) (Ev.now _))) (Ev.pos (by simp) ?_)
 refine (sx0_loop A B n L h3 h2.2 (by omega) L 0 _ rfl (by simp only [List.length_append, List.length_cons, List.length_nil]; omega)).to ?_
 simp [segsX, plainS]
def isHead (g : S52) (A B : ByteArray) (m : Nat) : Prop := g = plainS ⟨#[73, 88, 72]⟩ [A, B, decS (m : Int)] ∧ nameP (bytesOf A) = true ∧ nameP (bytesOf B) = true ∧ 1 ≤ m ∧ m ≤ 999999
abbrev IxO := ByteArray × ByteArray × Int × (List (S83)) × Bool × Int × Int
def goodO (A B : ByteArray) (m : Nat) : IxO := (A, B, (m : Int), [], true, 0, 0)
theorem implHead_ev (g : S52) (hg : bSg g) : ∃ r : ByteArray × ByteArray × Int × (List (S83)) × Bool, Ev (fun k => F38.f k g.f0 g.f1) r ∧ (r.2.2.2.2 = true → ∃ A B m, isHead g A B m) ∧ (∀ A B m, isHead g A B m → r = (A, B, (m : Int), [], true)) := by
 unfold F38.f
 obtain ⟨R, e1, e2, e3⟩ := parts_ev g ⟨#[73, 88, 72]⟩ 3 hg.1
 by_cases hR : R.2 = true
 ·obtain ⟨hgs, hlen⟩ := e2 hR
  have hl3 : R.1.length = 3 := by omega
  match hps : R.1, hl3 with
  | [A, B, C], _ =>
   rw [hps] at hgs
   have hsz : A.size ≤ 1048576 ∧ B.size ≤ 1048576 ∧ C.size ≤ 1048576 := by
    have h := hg.2
    rw [hgs] at h
    refine ⟨(h ⟨[A]⟩ ?_).2 A ?_, (h ⟨[B]⟩ ?_).2 B ?_, (h ⟨[C]⟩ ?_).2 C ?_⟩ <;> simp [plainS]
   have nA := isName_ev A (by omega)
   have nB := isName_ev B (by omega)
   obtain ⟨q, f1, f2, f3⟩ := numberIn_ev C hsz.2.2 1 999999 (by omega) (by omega)
   have hb : ∀ {f : List ByteArray × Bool → Nat → Option (ByteArray × ByteArray × Int × (List (S83)) × Bool)} {r}, Ev (fun k => f R k) r → Ev (fun k => (F60.f k g.f0 g.f1 (⟨#[73, 88, 72]⟩ : ByteArray) 3).bind fun x => f x k) r := fun h => Ev.bind e1 h
   by_cases gA : nameP (bytesOf A) = true
   ·by_cases gB : nameP (bytesOf B) = true
    ·refine ⟨(A, B, q.1, [], q.2), Ev.bind e1 (Ev.pos hR ?_), fun h => ?_, fun A' B' m h => ?_⟩
     ·rw [hps]
      rw [gA] at nA
      rw [gB] at nB
      exact Ev.pos (by simp) (Ev.bind (show Ev (fun k => F61.f k (rdOf ByteArray.empty [A, B, C] 0)) true from nA) (Ev.pos rfl (Ev.pos (by simp) (Ev.bind (show Ev (fun k => F61.f k (rdOf ByteArray.empty [A, B, C] 1)) true from nB) (Ev.pos rfl (Ev.pos (by simp) (Ev.bind (show Ev (fun k => F62.f k (rdOf ByteArray.empty [A, B, C] 2) 1 999999) q from f1) (Ev.now _))))))))
     ·obtain ⟨m, h1, h2, h3, h4⟩ := f3 h
      exact ⟨A, B, m, by rw [hgs, h1], gA, gB, by omega, by omega⟩
     ·obtain ⟨h1, h2, h3, h4, h5⟩ := h
      rw [hgs] at h1
      simp only [plainS, List.map_cons, List.map_nil, S52.mk.injEq, List.cons.injEq, S55.mk.injEq, and_true, true_and] at h1
      obtain ⟨rfl, rfl, h6⟩ := h1
      rw [f2 m h6 (by omega) (by omega)]
    ·refine ⟨(⟨#[]⟩, ⟨#[]⟩, 0, [], false), Ev.bind e1 (Ev.pos hR ?_), fun h => (by cases h), fun A' B' m h => ?_⟩
     ·rw [hps]
      rw [gA] at nA
      exact Ev.pos (by simp) (Ev.bind (show Ev (fun k => F61.f k (rdOf ByteArray.empty [A, B, C] 0)) true from nA) (Ev.pos rfl (Ev.pos (by simp) (Ev.bind (show Ev (fun k => F61.f k (rdOf ByteArray.empty [A, B, C] 1)) _ from nB) (Ev.neg gB (Ev.now _))))))
     ·obtain ⟨h1, h2, h3, h4, h5⟩ := h
      rw [hgs] at h1
      simp only [plainS, List.map_cons, List.map_nil, S52.mk.injEq, List.cons.injEq, S55.mk.injEq, and_true, true_and] at h1
      obtain ⟨rfl, rfl, h6⟩ := h1
      exact absurd h3 gB
   ·refine ⟨(⟨#[]⟩, ⟨#[]⟩, 0, [], false), Ev.bind e1 (Ev.pos hR ?_), fun h => (by cases h), fun A' B' m h => ?_⟩
    ·rw [hps]
     exact Ev.pos (by simp) (Ev.bind (show Ev (fun k => F61.f k (rdOf ByteArray.empty [A, B, C] 0)) _ from nA) (Ev.neg gA (Ev.now _)))
    ·obtain ⟨h1, h2, h3, h4, h5⟩ := h
     rw [hgs] at h1
     simp only [plainS, List.map_cons, List.map_nil, S52.mk.injEq, List.cons.injEq, S55.mk.injEq, and_true, true_and] at h1
     obtain ⟨rfl, rfl, h6⟩ := h1
     exact absurd h2 gA
 ·refine ⟨(⟨#[]⟩, ⟨#[]⟩, 0, [], false), Ev.bind e1 (Ev.neg hR (Ev.now _)), fun h => (by cases h), fun A B m h => ?_⟩
  have := e3 [A, B, decS (m : Int)] h.1 (by simp)
  rw [this] at hR
  exact absurd rfl hR
theorem u64_id {x : Int} (h0 : 0 ≤ x) (h1 : x < 18446744073709551616) : IntKind.u64.wrap x = x := by
 unfold IntKind.wrap
 simp [IntKind.bits, IntKind.signed]
 omega
theorem u64_ge (x : Int) : 0 ≤ IntKind.u64.wrap x := by
 unfold IntKind.wrap
 simp [IntKind.bits, IntKind.signed]
 omega
theorem u64_mod (x : Int) {m : Int} (h0 : 2 ≤ m) (h1 : m ≤ 9223372036854775807) : 0 ≤ wrap64 (Int.tmod (IntKind.u64.wrap x) (IntKind.u64.wrap m)) ∧ wrap64 (Int.tmod (IntKind.u64.wrap x) (IntKind.u64.wrap m)) < m := by
 rw [u64_id (x := m) (by omega) (by omega)]
 have h := u64_ge x
 generalize IntKind.u64.wrap x = y at h
 rw [Int.tmod_eq_emod_of_nonneg h]
 have h2 := Int.emod_nonneg y (show m ≠ 0 by omega)
 have h3 := Int.emod_lt_of_pos y (show 0 < m by omega)
 rw [wrap_id (by omega) (by omega)]
 exact ⟨h2, h3⟩
theorem src_n (b : List Int) (p mix size m : Int) (hb : b.length ≤ 1048576) (h0 : 0 ≤ p) (h1 : p ≤ (b.length : Int)) (hm : 2 ≤ m) (hm2 : m ≤ 9223372036854775807) : ∃ r p' mix', F68.f b p mix size m = some (r, p', mix', size) ∧ 0 ≤ p' ∧ p' ≤ (b.length : Int) ∧ 0 ≤ r ∧ r < m := by
 unfold F68.f
 have hne : ¬ IntKind.u64.wrap m = 0 := by rw [u64_id (by omega) (by omega)]; omega
 rw [if_neg (by omega)]
 by_cases h : p < (b.length : Int)
 ·rw [if_pos h, if_pos h0, if_neg hne]
  have hw : wrap64 (p + 1) = p + 1 := wrap_id (by omega) (by omega)
  rw [hw]
  exact ⟨_, _, _, rfl, by omega, by omega, (u64_mod _ hm hm2).1, (u64_mod _ hm hm2).2⟩
 ·rw [if_neg h, if_neg hne]
  exact ⟨_, _, _, rfl, by omega, by omega, (u64_mod _ hm hm2).1, (u64_mod _ hm hm2).2⟩
theorem src_one (b : List Int) (p mix size m : Int) (hb : b.length ≤ 1048576) (h0 : 0 ≤ p) (h1 : p ≤ (b.length : Int)) (hm : 2 ≤ m) (hm2 : m ≤ 9223372036854775807) : ∃ r p' mix', F70.f b p mix size m = some (r, p', mix', size) ∧ 0 ≤ p' ∧ p' ≤ (b.length : Int) := by
 obtain ⟨r, p', mix', h, h2, h3, _, _⟩ := src_n b p mix size m hb h0 h1 hm hm2
 unfold F70.f
 rw [h]
 exact ⟨_, _, _, rfl, h2, h3⟩
theorem source_loop (L : List Int) (hl : L.length ≤ 1048576) : ∀ (d i : Nat) (mix : Int), 64 - i = d → i ≤ 64 → ∃ mix' size', Ev (fun k => F44.l0 k L (i : Int) L 0 mix 0) (L, 0, mix', size')
 | 0, i, mix, hd, hi => by
  by_cases h : (i : Int) < (L.length : Int)
  ·by_cases g : wrap64 ((L.length : Int) / 20) > 12
   ·exact ⟨_, _, Ev.step (fun k => F44.l0.eq_2 ..) (Ev.pos h (Ev.neg (by omega) (Ev.pos g (Ev.now _))))⟩
   ·exact ⟨_, _, Ev.step (fun k => F44.l0.eq_2 ..) (Ev.pos h (Ev.neg (by omega) (Ev.neg g (Ev.now _))))⟩
  ·by_cases g : wrap64 ((L.length : Int) / 20) > 12
   ·exact ⟨_, _, Ev.step (fun k => F44.l0.eq_2 ..) (Ev.neg h (Ev.pos g (Ev.now _)))⟩
   ·exact ⟨_, _, Ev.step (fun k => F44.l0.eq_2 ..) (Ev.neg h (Ev.neg g (Ev.now _)))⟩
 | d + 1, i, mix, hd, hi => by
  by_cases h : (i : Int) < (L.length : Int)
  ·have hw : wrap64 ((i : Int) + 1) = ((i + 1 : Nat) : Int) := by rw [wrap_id (by omega) (by omega)]; omega
   obtain ⟨m', s', e⟩ := source_loop L hl d (i + 1) (IntKind.u64.wrap ((Go.bits .xor .u64 mix (IntKind.u64.wrap (rd L (i : Int)))) * 1099511628211)) (by omega) (by omega)
   rw [← hw] at e
   exact ⟨m', s', Ev.step (fun k => F44.l0.eq_2 ..) (Ev.pos h (Ev.pos (by omega) (Ev.pos (by omega) e)))⟩
  ·by_cases g : wrap64 ((L.length : Int) / 20) > 12
   ·exact ⟨_, _, Ev.step (fun k => F44.l0.eq_2 ..) (Ev.neg h (Ev.pos g (Ev.now _)))⟩
   ·exact ⟨_, _, Ev.step (fun k => F44.l0.eq_2 ..) (Ev.neg h (Ev.neg g (Ev.now _)))⟩
theorem source_ev (L : List Int) (hl : L.length ≤ 1048576) : ∃ mix size, Ev (fun k => F44.f k L) (L, 0, mix, size) :=
 source_loop L hl 64 0 _ rfl (by omega)
theorem words_loop (b : List Int) (size a0 a1 a2 a3 : Int) (hb : b.length ≤ 1048576) : ∀ (n : Nat) (p mix : Int) (acc : List Int), 0 ≤ p → p ≤ (b.length : Int) → acc.length + n ≤ 1000 → ∃ s p' mix', Ev (fun k => F101.l0 k (n : Int) acc b p mix size a0 a1 a2 a3) (s, p', mix', size) ∧ s.size = acc.length + n ∧ 0 ≤ p' ∧ p' ≤ (b.length : Int)
 | 0, p, mix, acc, h0, h1, hn => ⟨_, _, _, Ev.step (fun k => F101.l0.eq_2 ..) (Ev.neg (by omega) (Ev.now _)), by rw [size_strOf]; rfl, h0, h1⟩
 | n + 1, p, mix, acc, h0, h1, hn => by
  obtain ⟨r, p1, m1, e1, q0, q1, q2, q3⟩ := src_n b p mix size 6 hb h0 h1 (by omega) (by omega)
  have hw : wrap64 (((n + 1 : Nat) : Int) - 1) = (n : Int) := by rw [wrap_id (by omega) (by omega)]; omega
  have stp : ∀ (c p2 m2 : Int), 0 ≤ p2 → p2 ≤ (b.length : Int) → ∃ s p' mix', Ev (fun k => if acc.length < 140737488355328 then (F101.l0 k (wrap64 (((n + 1 : Nat) : Int) - 1)) (acc ++ [c]) b p2 m2 size a0 a1 a2 a3) else none) (s, p', mix', size) ∧ s.size = acc.length + (n + 1) ∧ 0 ≤ p' ∧ p' ≤ (b.length : Int) := by
   intro c p2 m2 g0 g1
   obtain ⟨s, p', m', e, f1, f2, f3⟩ := words_loop b size a0 a1 a2 a3 hb n p2 m2 (acc ++ [c]) g0 g1 (by simp; omega)
   rw [hw]
   exact ⟨s, p', m', Ev.pos (by omega) e, by rw [f1]; simp; omega, f2, f3⟩
  by_cases g0 : r = 0
  ·obtain ⟨s, p', m', e, f⟩ := stp (a0 % 256) p1 m1 q0 q1
   exact ⟨s, p', m', Ev.step (fun k => F101.l0.eq_2 ..) (Ev.pos (by omega) (Ev.bindc e1 (Ev.pos g0 e))), f⟩
  by_cases g1 : r = 1
  ·obtain ⟨s, p', m', e, f⟩ := stp (a1 % 256) p1 m1 q0 q1
   exact ⟨s, p', m', Ev.step (fun k => F101.l0.eq_2 ..) (Ev.pos (by omega) (Ev.bindc e1 (Ev.neg g0 (Ev.pos g1 e)))), f⟩
  by_cases g2 : r = 2
  ·obtain ⟨s, p', m', e, f⟩ := stp (a2 % 256) p1 m1 q0 q1
   exact ⟨s, p', m', Ev.step (fun k => F101.l0.eq_2 ..) (Ev.pos (by omega) (Ev.bindc e1 (Ev.neg g0 (Ev.neg g1 (Ev.pos g2 e))))), f⟩
  by_cases g3 : r = 3
  ·obtain ⟨s, p', m', e, f⟩ := stp (a3 % 256) p1 m1 q0 q1
   exact ⟨s, p', m', Ev.step (fun k => F101.l0.eq_2 ..) (Ev.pos (by omega) (Ev.bindc e1 (Ev.neg g0 (Ev.neg g1 (Ev.neg g2 (Ev.pos g3 e)))))), f⟩
  obtain ⟨r2, p2, m2, e2, s0, s1, s2, s3⟩ := src_n b p1 m1 size 6 hb q0 q1 (by omega) (by omega)
  obtain ⟨s, p', m', e, f⟩ := stp (bt (⟨#[65, 66, 99, 32, 49, 45]⟩ : ByteArray) r2) p2 m2 s0 s1
  exact ⟨s, p', m', Ev.step (fun k => F101.l0.eq_2 ..) (Ev.pos (by omega) (Ev.bindc e1 (Ev.neg g0 (Ev.neg g1 (Ev.neg g2 (Ev.neg g3 (Ev.bindc e2 (Ev.pos s2 (Ev.pos s3 e))))))))), f⟩
theorem words_ev (b : List Int) (p mix size a0 a1 a2 a3 n : Int) (hb : b.length ≤ 1048576) (h0 : 0 ≤ p) (h1 : p ≤ (b.length : Int)) (hn : 0 ≤ n) (hn2 : n ≤ 100) : ∃ s p' mix', Ev (fun k => F101.f k b p mix size a0 a1 a2 a3 n) (s, p', mix', size) ∧ (s.size : Int) = n ∧ 0 ≤ p' ∧ p' ≤ (b.length : Int) := by
 obtain ⟨m, rfl⟩ := Int.eq_ofNat_of_zero_le hn
 obtain ⟨s, p', m', e, f1, f2, f3⟩ := words_loop b size a0 a1 a2 a3 hb m p mix [] h0 h1 (by simp; omega)
 exact ⟨s, p', m', e, by rw [f1]; simp, f2, f3⟩
theorem src_pick (b : List Int) (p mix size : Int) (l : List ByteArray) (hb : b.length ≤ 1048576) (h0 : 0 ≤ p) (h1 : p ≤ (b.length : Int)) (hl : 2 ≤ l.length) (hl2 : l.length ≤ 100) (hs : ∀ x ∈ l, x.size ≤ 100) : ∃ t p' mix', F67.f b p mix size l = some (t, p', mix', size) ∧ 0 ≤ p' ∧ p' ≤ (b.length : Int) ∧ t.size ≤ 100 := by
 obtain ⟨r, p', mix', h, h2, h3, h4, h5⟩ := src_n b p mix size (l.length : Int) hb h0 h1 (by omega) (by omega)
 refine ⟨rdOf ByteArray.empty l r, p', mix', ?_, h2, h3, ?_⟩
 ·unfold F67.f
  rw [h]
  simp only [Option.bind_some]
  rw [if_pos h4, if_pos h5]
 ·have hm : rdOf ByteArray.empty l r ∈ l := by
   unfold rdOf
   rw [List.getD_eq_getElem?_getD, List.getElem?_eq_getElem (by omega)]
   exact List.getElem_mem _
  exact hs _ hm
def SegD (b : List Int) (size : Int) (g : Nat → Option (ByteArray × (List S55) × Int × Int × Int)) : Prop := ∃ s L p' mix', Ev g (s, L, p', mix', size) ∧ L.length ≤ 13 ∧ (∀ e ∈ L, bEl e.f0) ∧ 0 ≤ p' ∧ p' ≤ (b.length : Int)
theorem SegD.of {b : List Int} {size : Int} {g g' : Nat → Option (ByteArray × (List S55) × Int × Int × Int)} (h : SegD b size g) (f : ∀ r, Ev g r → Ev g' r) : SegD b size g' := by
 obtain ⟨s, L, p', m', e, h⟩ := h
 exact ⟨s, L, p', m', f _ e, h⟩
theorem bEl_snoc {L : List S55} {e : S55} (h : ∀ e ∈ L, bEl e.f0) (he : bEl e.f0) : ∀ x ∈ L ++ [e], bEl x.f0 := by
 intro x hx
 rcases List.mem_append.1 hx with h1 | h1
 ·exact h x h1
 ·simp at h1; subst h1; exact he
theorem seg_j4 (b : List Int) (p mix size : Int) (t : ByteArray) (L : List S55) (hb : b.length ≤ 1048576) (h0 : 0 ≤ p) (h1 : p ≤ (b.length : Int)) (hL : L.length ≤ 12) (hE : ∀ e ∈ L, bEl e.f0) : SegD b size (fun k => F69.j4 k b p mix size t L) := by
 obtain ⟨r1, p1, m1, e1, a1, b1⟩ := src_one b p mix size 20 hb h0 h1 (by omega) (by omega)
 cases r1 with
 | false => exact ⟨_, _, _, _, Ev.step (fun k => F69.j4.eq_2 ..) (Ev.bindc e1 (Ev.neg (by simp) (Ev.now _))), by omega, hE, a1, b1⟩
 | true =>
  obtain ⟨r2, p2, m2, e2, a2, b2, c2, d2⟩ := src_n b p1 m1 size 3 hb a1 b1 (by omega) (by omega)
  by_cases g0 : r2 = 0
  ·obtain ⟨u, p3, m3, e3, a3, b3, _⟩ := src_pick b p2 m2 size [(⟨#[]⟩ : ByteArray), (⟨#[65, 66]⟩ : ByteArray), (⟨#[65, 66, 67, 68]⟩ : ByteArray), (⟨#[65, 66, 49]⟩ : ByteArray), (⟨#[97, 98, 99]⟩ : ByteArray)] hb a2 b2 (by simp) (by simp) (by intro x hx; simp at hx; rcases hx with h | h | h | h | h <;> subst h <;> decide)
   exact ⟨_, _, _, _, Ev.step (fun k => F69.j4.eq_2 ..) (Ev.bindc e1 (Ev.pos rfl (Ev.bindc e2 (Ev.pos g0 (Ev.bindc e3 (Ev.now _)))))), by omega, hE, a3, b3⟩
  ·by_cases g1 : r2 = 1
   ·exact ⟨_, _, _, _, Ev.step (fun k => F69.j4.eq_2 ..) (Ev.bindc e1 (Ev.pos rfl (Ev.bindc e2 (Ev.neg g0 (Ev.pos g1 (Ev.pos (by omega) (Ev.now _))))))), by simp; omega, bEl_snoc hE ⟨by simp, by simp⟩, a2, b2⟩
   ·obtain ⟨u, p3, m3, e3, a3, b3, c3⟩ := src_pick b p2 m2 size [(⟨#[10]⟩ : ByteArray), (⟨#[255]⟩ : ByteArray), (⟨#[97]⟩ : ByteArray)] hb a2 b2 (by simp) (by simp) (by intro x hx; simp at hx; rcases hx with h | h | h <;> subst h <;> decide)
    obtain ⟨v, p4, m4, e4, a4, b4, c4⟩ := src_pick b p3 m3 size [(⟨#[]⟩ : ByteArray), (⟨#[98]⟩ : ByteArray)] hb a3 b3 (by simp) (by simp) (by intro x hx; simp at hx; rcases hx with h | h <;> subst h <;> decide)
    refine ⟨_, _, _, _, Ev.step (fun k => F69.j4.eq_2 ..) (Ev.bindc e1 (Ev.pos rfl (Ev.bindc e2 (Ev.neg g0 (Ev.neg g1 (Ev.bindc e3 (Ev.bindc e4 (Ev.pos (by omega) (Ev.now _))))))))), by simp; omega, bEl_snoc hE ⟨by simp, ?_⟩, a4, b4⟩
    intro x hx
    simp at hx
    rcases hx with h | h <;> subst h <;> omega
theorem seg_l2 (b : List Int) (size : Int) (t : ByteArray) (hb : b.length ≤ 1048576) : ∀ (n : Nat) (p mix : Int) (L : List S55), L.length = n → n ≤ 12 → (∀ e ∈ L, bEl e.f0) → 0 ≤ p → p ≤ (b.length : Int) → SegD b size (fun k => F69.l2 k b p mix size t L)
 | 0, p, mix, L, hn, hl, hE, h0, h1 => (seg_j4 b p mix size t L hb h0 h1 (by omega) hE).of (fun r e => Ev.step (fun k => F69.l2.eq_2 ..) (Ev.neg (by omega) e))
 | n + 1, p, mix, L, hn, hl, hE, h0, h1 => by
  have hw : wrap64 ((L.length : Int) - 1) = (n : Int) := by rw [wrap_id (by omega) (by omega)]; omega
  cases hm : emptyE (rd_T55 L (wrap64 ((L.length : Int) - 1))).f0 with
  | false => exact (seg_j4 b p mix size t L hb h0 h1 (by omega) hE).of (fun r e => Ev.step (fun k => F69.l2.eq_2 ..) (Ev.pos (by omega) (Ev.pos (by omega) (Ev.pos (by omega) (Ev.bindc (l02Empty_eq _) (Ev.neg (by simp [hm]) e))))))
  | true =>
   obtain ⟨r1, p1, m1, e1, a1, b1⟩ := src_one b p mix size 20 hb h0 h1 (by omega) (by omega)
   cases r1 with
   | true => exact (seg_j4 b p1 m1 size t L hb a1 b1 (by omega) hE).of (fun r e => Ev.step (fun k => F69.l2.eq_2 ..) (Ev.pos (by omega) (Ev.pos (by omega) (Ev.pos (by omega) (Ev.bindc (l02Empty_eq _) (Ev.pos hm (Ev.bindc e1 (Ev.pos rfl e))))))))
   | false =>
    have ht : (L.take (wrap64 ((L.length : Int) - 1)).toNat).length = n := by rw [hw]; simp; omega
    exact (seg_l2 b size t hb n p1 m1 _ ht (by omega) (fun e he => hE e (List.mem_of_mem_take he)) a1 b1).of (fun r e => Ev.step (fun k => F69.l2.eq_2 ..) (Ev.pos (by omega) (Ev.pos (by omega) (Ev.pos (by omega) (Ev.bindc (l02Empty_eq _) (Ev.pos hm (Ev.bindc e1 (Ev.neg (by simp) (Ev.pos (by omega) e)))))))))
theorem seg_l1 (b : List Int) (size x0 x1 x2 x3 x5 : Int) (t : ByteArray) (hb : b.length ≤ 1048576) (L : List S55) (hL : L.length ≤ 12)
  (hnext : ∀ (p mix : Int) (e : S55), bEl e.f0 → 0 ≤ p → p ≤ (b.length : Int) → SegD b size (fun k => F69.l0 k (wrap64 (x5 - 1)) b p mix size x0 x1 x2 x3 t (L ++ [e]))) :
  ∀ (n : Nat) (p mix : Int) (acc : List ByteArray), 1 ≤ acc.length + n → acc.length + n ≤ 10 → (∀ s ∈ acc, s.size ≤ 100) → 0 ≤ p → p ≤ (b.length : Int) → SegD b size (fun k => F69.l1 k x5 (n : Int) b p mix size x0 x1 x2 x3 t L acc)
 | 0, p, mix, acc, ha, ha2, hs, h0, h1 => by
  obtain ⟨r1, p1, m1, e1, a1, b1⟩ := src_one b p mix size 60 hb h0 h1 (by omega) (by omega)
  have hacc : bEl acc := ⟨by omega, fun s h => by have := hs s h; omega⟩
  cases r1 with
  | false => exact (hnext p1 m1 ⟨acc⟩ hacc a1 b1).of (fun r e => Ev.step (fun k => F69.l1.eq_2 ..) (Ev.neg (by omega) (Ev.bindc e1 (Ev.neg (by simp) (Ev.pos (by omega) e)))))
  | true =>
   obtain ⟨r2, p2, m2, e2, a2, b2, c2, d2⟩ := src_n b p1 m1 size 3 hb a1 b1 (by omega) (by omega)
   have hw : wrap64 (39 + r2) = 39 + r2 := wrap_id (by omega) (by omega)
   obtain ⟨s, p3, m3, e3, hs3, a3, b3⟩ := words_ev b p2 m2 size x0 x1 x2 x3 (39 + r2) hb a2 b2 (by omega) (by omega)
   rw [← hw] at e3
   have hset : bEl (acc.set (0 : Int).toNat s) := by
    refine ⟨by rw [List.length_set]; omega, fun q hq => ?_⟩
    rcases List.mem_or_eq_of_mem_set hq with h | h
    ·have := hs q h; omega
    ·subst h; omega
   exact (hnext p3 m3 ⟨acc.set (0 : Int).toNat s⟩ hset a3 b3).of (fun r e => Ev.step (fun k => F69.l1.eq_2 ..) (Ev.neg (by omega) (Ev.bindc e1 (Ev.pos rfl (Ev.bindc e2 (Ev.bind e3 (Ev.pos (by omega) (Ev.pos (by omega) e))))))))
 | n + 1, p, mix, acc, ha, ha2, hs, h0, h1 => by
  obtain ⟨r1, p1, m1, e1, a1, b1, c1, d1⟩ := src_n b p mix size 6 hb h0 h1 (by omega) (by omega)
  obtain ⟨s, p2, m2, e2, hs2, a2, b2⟩ := words_ev b p1 m1 size x0 x1 x2 x3 r1 hb a1 b1 c1 (by omega)
  have hw : wrap64 (((n + 1 : Nat) : Int) - 1) = (n : Int) := by rw [wrap_id (by omega) (by omega)]; omega
  have ih := seg_l1 b size x0 x1 x2 x3 x5 t hb L hL hnext n p2 m2 (acc ++ [s]) (by simp; omega) (by simp; omega) (fun q hq => by
   rcases List.mem_append.1 hq with h | h
   ·exact hs q h
   ·simp at h; subst h; omega) a2 b2
  rw [← hw] at ih
  exact ih.of (fun r e => Ev.step (fun k => F69.l1.eq_2 ..) (Ev.pos (by omega) (Ev.bindc e1 (Ev.bind e2 (Ev.pos (by omega) e)))))
theorem seg_l0 (b : List Int) (size x0 x1 x2 x3 : Int) (t : ByteArray) (hb : b.length ≤ 1048576) : ∀ (n : Nat) (p mix : Int) (L : List S55), L.length + n ≤ 12 → (∀ e ∈ L, bEl e.f0) → 0 ≤ p → p ≤ (b.length : Int) → SegD b size (fun k => F69.l0 k (n : Int) b p mix size x0 x1 x2 x3 t L)
 | 0, p, mix, L, hn, hE, h0, h1 => (seg_l2 b size t hb _ p mix L rfl (by omega) hE h0 h1).of (fun r e => Ev.step (fun k => F69.l0.eq_2 ..) (Ev.neg (by omega) e))
 | n + 1, p, mix, L, hn, hE, h0, h1 => by
  obtain ⟨r1, p1, m1, e1, a1, b1, c1, d1⟩ := src_n b p mix size 2 hb h0 h1 (by omega) (by omega)
  obtain ⟨r2, p2, m2, e2, a2, b2, c2, d2⟩ := src_n b p1 m1 size 4 hb a1 b1 (by omega) (by omega)
  have hw : wrap64 (((n + 1 : Nat) : Int) - 1) = (n : Int) := by rw [wrap_id (by omega) (by omega)]; omega
  obtain ⟨m, hm, hm2⟩ : ∃ m : Nat, wrap64 (1 + wrap64 (r1 * r2)) = ((m + 1 : Nat) : Int) ∧ m ≤ 3 := by
   rcases (show r1 = 0 ∨ r1 = 1 by omega) with h | h
   ·exact ⟨0, by rw [h, Int.zero_mul, wrap_id (x := 0) (by omega) (by omega), wrap_id (by omega) (by omega)]; rfl, by omega⟩
   ·refine ⟨r2.toNat, ?_, by omega⟩
    rw [h, Int.one_mul, wrap_id (x := r2) (by omega) (by omega), wrap_id (by omega) (by omega)]
    omega
  have ih := seg_l1 b size x0 x1 x2 x3 ((n + 1 : Nat) : Int) t hb L (by omega) (fun p mix e he h0 h1 => by
   rw [hw]
   exact seg_l0 b size x0 x1 x2 x3 t hb n p mix (L ++ [e]) (by simp; omega) (bEl_snoc hE he) h0 h1) (m + 1) p2 m2 [] (by simp) (by simp; omega) (by simp) a2 b2
  rw [← hm] at ih
  exact ih.of (fun r e => Ev.step (fun k => F69.l0.eq_2 ..) (Ev.pos (by omega) (Ev.bindc e1 (Ev.bindc e2 e))))
theorem seg_draw (b : List Int) (p mix size : Int) (hb : b.length ≤ 1048576) (h0 : 0 ≤ p) (h1 : p ≤ (b.length : Int)) : SegD b size (fun k => F69.f k b p mix size) := by
 unfold F69.f
 obtain ⟨t, p1, m1, e1, a1, b1, _⟩ := src_pick b p mix size [(⟨#[68, 79, 67]⟩ : ByteArray), (⟨#[76, 73, 78]⟩ : ByteArray), (⟨#[78, 79, 84]⟩ : ByteArray), (⟨#[65, 66, 67]⟩ : ByteArray), (⟨#[73, 88, 72]⟩ : ByteArray)] hb h0 h1 (by simp) (by simp) (by intro x hx; simp at hx; rcases hx with h | h | h | h | h <;> subst h <;> decide)
 obtain ⟨r2, p2, m2, e2, a2, b2, c2, d2⟩ := src_n b p1 m1 size 5 hb a1 b1 (by omega) (by omega)
 obtain ⟨r3, p3, m3, e3, a3, b3⟩ := src_one b p2 m2 size 40 hb a2 b2 (by omega) (by omega)
 have j0 : ∀ (n : Int) (p mix : Int), 0 ≤ n → n ≤ 12 → 0 ≤ p → p ≤ (b.length : Int) → SegD b size (fun k => F69.j0 k n b p mix size 39 43 58 63 t) := by
  intro n p mix h0 h1 h2 h3
  obtain ⟨m, rfl⟩ := Int.eq_ofNat_of_zero_le h0
  exact (seg_l0 b size 39 43 58 63 t hb m p mix [] (by simp; omega) (by simp) h2 h3).of (fun r e => Ev.step (fun k => F69.j0.eq_2 ..) e)
 have pl : F100.f = some (39, 43, 58, 63) := rfl
 cases r3 with
 | false => exact (j0 r2 p3 m3 c2 (by omega) a3 b3).of (fun r e => Ev.bindc pl (Ev.bindc e1 (Ev.bindc e2 (Ev.bindc e3 (Ev.neg (by simp) e)))))
 | true =>
  obtain ⟨r4, p4, m4, e4, a4, b4, c4, d4⟩ := src_n b p3 m3 size 3 hb a3 b3 (by omega) (by omega)
  have hw : wrap64 (9 + r4) = 9 + r4 := wrap_id (by omega) (by omega)
  have h := j0 (9 + r4) p4 m4 (by omega) (by omega) a4 b4
  rw [← hw] at h
  exact h.of (fun r e => Ev.bindc pl (Ev.bindc e1 (Ev.bindc e2 (Ev.bindc e3 (Ev.pos rfl (Ev.bindc e4 e))))))
def dMs (x : S85) : Prop := x.f1.length ≤ 3 ∧ ∀ s ∈ x.f1, bSg s
def dBn (x : S83) : Prop := x.f2.length ≤ 11 ∧ ∀ m ∈ x.f2, dMs m
theorem dMs.b {x : S85} (h : dMs x) : bMs x := ⟨by have := h.1; omega, h.2⟩
theorem dBn.b {x : S83} (h : dBn x) : bBn x := ⟨by have := h.1; omega, fun m hm => (h.2 m hm).b⟩
abbrev IxR := ByteArray × ByteArray × Int × (List (S83)) × Int × Int × Int
def IxD (b : List Int) (size : Int) (g : Nat → Option IxR) : Prop := ∃ A B n L p' mix', Ev g (A, B, n, L, p', mix', size) ∧ A.size ≤ 100 ∧ B.size ≤ 100 ∧ L.length ≤ 6 ∧ (∀ x ∈ L, dBn x) ∧ 0 ≤ p' ∧ p' ≤ (b.length : Int)
theorem IxD.of {b : List Int} {size : Int} {g g' : Nat → Option IxR} (h : IxD b size g) (f : ∀ r, Ev g r → Ev g' r) : IxD b size g' := by
 obtain ⟨A, B, n, L, p', m', e, h⟩ := h
 exact ⟨A, B, n, L, p', m', f _ e, h⟩
theorem all_snoc {α : Type} {P : α → Prop} {L : List α} {e : α} (h : ∀ x ∈ L, P x) (he : P e) : ∀ x ∈ L ++ [e], P x := by
 intro x hx
 rcases List.mem_append.1 hx with h1 | h1
 ·exact h x h1
 ·simp at h1; subst h1; exact he
theorem rd0_mem {L : List S83} (h : 0 < L.length) : rd_T83 L 0 ∈ L := by
 cases L with
 | nil => simp at h
 | cons x r => exact List.mem_cons_self
theorem rd0_set {L : List S83} (h : 0 < L.length) (y : S83) : rd_T83 (L.set (0 : Int).toNat y) 0 = y := by
 cases L with
 | nil => simp at h
 | cons x r => rfl
theorem all_set0 {P : S83 → Prop} {L : List S83} {y : S83} (h : ∀ x ∈ L, P x) (hy : P y) : ∀ x ∈ L.set (0 : Int).toNat y, P x := by
 intro x hx
 rcases List.mem_or_eq_of_mem_set hx with h1 | h1
 ·exact h x h1
 ·subst h1; exact hy
theorem ix_l4 (b : List Int) (size n : Int) (A B : ByteArray) (hb : b.length ≤ 1048576) (hA : A.size ≤ 100) (hB : B.size ≤ 100) : ∀ (d : Nat) (p mix : Int) (L : List S83), 0 < L.length → L.length ≤ 6 → (∀ x ∈ L, dBn x) → 11 ≤ (rd_T83 L 0).f2.length + d → 0 ≤ p → p ≤ (b.length : Int) → IxD b size (fun k => F45.l4 k b p mix size A B n L) := by
 intro d
 induction d with
 | zero =>
  intro p mix L h hl hL hd h0 h1
  obtain ⟨r1, p1, m1, e1, a1, b1, c1, d1⟩ := src_n b p mix size 2 hb h0 h1 (by omega) (by omega)
  have hw : wrap64 (10 + r1) = 10 + r1 := wrap_id (by omega) (by omega)
  exact ⟨_, _, _, _, _, _, Ev.step (fun k => F45.l4.eq_2 ..) (Ev.pos (by omega) (Ev.bindc e1 (Ev.neg (by rw [hw]; omega) (Ev.now _)))), hA, hB, hl, hL, a1, b1⟩
 | succ d ih =>
  intro p mix L h hl hL hd h0 h1
  obtain ⟨r1, p1, m1, e1, a1, b1, c1, d1⟩ := src_n b p mix size 2 hb h0 h1 (by omega) (by omega)
  have hw : wrap64 (10 + r1) = 10 + r1 := wrap_id (by omega) (by omega)
  by_cases g : ((rd_T83 L 0).f2.length : Int) < wrap64 (10 + r1)
  ·have hm := hL _ (rd0_mem h)
   have hx : (rd_T83 L 0).f2.length ≤ 10 := by rw [hw] at g; omega
   refine (ih p1 m1 (L.set (0 : Int).toNat ⟨(rd_T83 L 0).f0, (rd_T83 L 0).f1, (rd_T83 L 0).f2 ++ [(⟨1, []⟩ : S85)]⟩) (by rw [List.length_set]; exact h) (by rw [List.length_set]; exact hl) (all_set0 hL ⟨by show ((rd_T83 L 0).f2 ++ [(⟨1, []⟩ : S85)]).length ≤ _; rw [List.length_append, List.length_singleton]; omega, all_snoc hm.2 ⟨by simp, by simp⟩⟩) ?_ a1 b1).of (fun r e => Ev.step (fun k => F45.l4.eq_2 ..) (Ev.pos (by omega) (Ev.bindc e1 (Ev.pos g (Ev.pos (by omega) e)))))
   rw [rd0_set h]
   show 11 ≤ ((rd_T83 L 0).f2 ++ [(⟨1, []⟩ : S85)]).length + d
   rw [List.length_append, List.length_singleton]
   omega
  ·exact ⟨_, _, _, _, _, _, Ev.step (fun k => F45.l4.eq_2 ..) (Ev.pos (by omega) (Ev.bindc e1 (Ev.neg g (Ev.now _)))), hA, hB, hl, hL, a1, b1⟩
theorem ix_l3 (b : List Int) (size n : Int) (A B : ByteArray) (hb : b.length ≤ 1048576) (hA : A.size ≤ 100) (hB : B.size ≤ 100) : ∀ (d : Nat) (p mix : Int) (L : List S83), 0 < L.length → L.length ≤ 6 → (∀ x ∈ L, dBn x) → 6 ≤ L.length + d → 0 ≤ p → p ≤ (b.length : Int) → IxD b size (fun k => F45.l3 k b p mix size A B n L) := by
 intro d
 induction d with
 | zero =>
  intro p mix L h hl hL hd h0 h1
  obtain ⟨r1, p1, m1, e1, a1, b1, c1, d1⟩ := src_n b p mix size 2 hb h0 h1 (by omega) (by omega)
  have hw : wrap64 (5 + r1) = 5 + r1 := wrap_id (by omega) (by omega)
  exact ⟨_, _, _, _, _, _, Ev.step (fun k => F45.l3.eq_2 ..) (Ev.bindc e1 (Ev.neg (by rw [hw]; omega) (Ev.now _))), hA, hB, hl, hL, a1, b1⟩
 | succ d ih =>
  intro p mix L h hl hL hd h0 h1
  obtain ⟨r1, p1, m1, e1, a1, b1, c1, d1⟩ := src_n b p mix size 2 hb h0 h1 (by omega) (by omega)
  have hw : wrap64 (5 + r1) = 5 + r1 := wrap_id (by omega) (by omega)
  by_cases g : (L.length : Int) < wrap64 (5 + r1)
  ·have hx : L.length ≤ 5 := by rw [hw] at g; omega
   exact (ih p1 m1 (L ++ [⟨(rd_T83 L 0).f0, (rd_T83 L 0).f1, (rd_T83 L 0).f2⟩]) (by simp) (by rw [List.length_append, List.length_singleton]; omega) (all_snoc hL (hL _ (rd0_mem h))) (by rw [List.length_append, List.length_singleton]; omega) a1 b1).of (fun r e => Ev.step (fun k => F45.l3.eq_2 ..) (Ev.bindc e1 (Ev.pos g (Ev.pos (by omega) (Ev.pos (by omega) e)))))
  ·exact ⟨_, _, _, _, _, _, Ev.step (fun k => F45.l3.eq_2 ..) (Ev.bindc e1 (Ev.neg g (Ev.now _))), hA, hB, hl, hL, a1, b1⟩
theorem ix_l2 (b : List Int) (size n x4 x6 kd ct mc : Int) (A B : ByteArray) (L : List S83) (M : List S85) (hb : b.length ≤ 1048576) (hM : M.length ≤ 10)
  (hnext : ∀ (p mix : Int) (G : List S52), G.length ≤ 3 → (∀ s ∈ G, bSg s) → 0 ≤ p → p ≤ (b.length : Int) → IxD b size (fun k => F45.l1 k x4 (wrap64 (x6 - 1)) b p mix size A B n L kd ct (M ++ [⟨mc, G⟩]))) :
  ∀ (c : Nat) (p mix : Int) (G : List S52), G.length + c ≤ 3 → (∀ s ∈ G, bSg s) → 0 ≤ p → p ≤ (b.length : Int) → IxD b size (fun k => F45.l2 k x4 x6 (c : Int) b p mix size A B n L kd ct M mc G)
 | 0, p, mix, G, hc, hG, h0, h1 => (hnext p mix G (by omega) hG h0 h1).of (fun r e => Ev.step (fun k => F45.l2.eq_2 ..) (Ev.neg (by omega) (Ev.pos (by omega) e)))
 | c + 1, p, mix, G, hc, hG, h0, h1 => by
  have hw : wrap64 (((c + 1 : Nat) : Int) - 1) = (c : Int) := by rw [wrap_id (by omega) (by omega)]; omega
  obtain ⟨s, E, p1, m1, e1, hE, hE2, a1, b1⟩ := seg_draw b p mix size hb h0 h1
  have eS := specSeg_ev s E (by omega) hE2
  have hs : bSg (⟨s, E⟩ : S52) := ⟨by show E.length ≤ _; omega, hE2⟩
  have app : ∀ (p mix : Int), 0 ≤ p → p ≤ (b.length : Int) → IxD b size (fun k => F45.l2 k x4 x6 (wrap64 (((c + 1 : Nat) : Int) - 1)) b p mix size A B n L kd ct M mc (G ++ [⟨s, E⟩])) := fun p mix h0 h1 => by
   rw [hw]
   exact ix_l2 b size n x4 x6 kd ct mc A B L M hb hM hnext c p mix (G ++ [⟨s, E⟩]) (by rw [List.length_append, List.length_singleton]; omega) (all_snoc hG hs) h0 h1
  have not : ∀ (p mix : Int), 0 ≤ p → p ≤ (b.length : Int) → IxD b size (fun k => F45.l2 k x4 x6 (wrap64 (((c + 1 : Nat) : Int) - 1)) b p mix size A B n L kd ct M mc G) := fun p mix h0 h1 => by
   rw [hw]
   exact ix_l2 b size n x4 x6 kd ct mc A B L M hb hM hnext c p mix G (by omega) hG h0 h1
  obtain ⟨r2, p2, m2, e2, a2, b2⟩ := src_one b p1 m1 size 40 hb a1 b1 (by omega) (by omega)
  cases hB : segB s E with
  | false =>
   rw [hB] at eS
   cases r2 with
   | true => exact (app p2 m2 a2 b2).of (fun r e => Ev.step (fun k => F45.l2.eq_2 ..) (Ev.pos (by omega) (Ev.bind e1 (Ev.bind eS (Ev.neg (by simp) (Ev.bindc e2 (Ev.pos rfl (Ev.pos (by omega) e))))))))
   | false => exact (not p2 m2 a2 b2).of (fun r e => Ev.step (fun k => F45.l2.eq_2 ..) (Ev.pos (by omega) (Ev.bind e1 (Ev.bind eS (Ev.neg (by simp) (Ev.bindc e2 (Ev.neg (by simp) e)))))))
  | true =>
   rw [hB] at eS
   cases hO : ownTag s with
   | false => exact (app p1 m1 a1 b1).of (fun r e => Ev.step (fun k => F45.l2.eq_2 ..) (Ev.pos (by omega) (Ev.bind e1 (Ev.bind eS (Ev.pos rfl (Ev.bindc (l03Own_eq s) (Ev.neg (by simp [hO]) (Ev.pos (by omega) e))))))))
   | true =>
    cases r2 with
    | true => exact (app p2 m2 a2 b2).of (fun r e => Ev.step (fun k => F45.l2.eq_2 ..) (Ev.pos (by omega) (Ev.bind e1 (Ev.bind eS (Ev.pos rfl (Ev.bindc (l03Own_eq s) (Ev.pos hO (Ev.bindc e2 (Ev.pos rfl (Ev.pos (by omega) e))))))))))
    | false => exact (not p2 m2 a2 b2).of (fun r e => Ev.step (fun k => F45.l2.eq_2 ..) (Ev.pos (by omega) (Ev.bind e1 (Ev.bind eS (Ev.pos rfl (Ev.bindc (l03Own_eq s) (Ev.pos hO (Ev.bindc e2 (Ev.neg (by simp) e)))))))))
theorem ix_l1 (b : List Int) (size n x4 kd ct : Int) (A B : ByteArray) (L : List S83) (hb : b.length ≤ 1048576) (hL : L.length ≤ 6)
  (hnext : ∀ (p mix : Int) (M : List S85), M.length ≤ 2 → (∀ s ∈ M, dMs s) → 0 ≤ p → p ≤ (b.length : Int) → IxD b size (fun k => F45.l0 k (wrap64 (x4 - 1)) b p mix size A B n (L ++ [⟨kd, ct, M⟩]))) :
  ∀ (c : Nat) (p mix : Int) (M : List S85), M.length + c ≤ 2 → (∀ s ∈ M, dMs s) → 0 ≤ p → p ≤ (b.length : Int) → IxD b size (fun k => F45.l1 k x4 (c : Int) b p mix size A B n L kd ct M)
 | 0, p, mix, M, hc, hM, h0, h1 => (hnext p mix M (by omega) hM h0 h1).of (fun r e => Ev.step (fun k => F45.l1.eq_2 ..) (Ev.neg (by omega) (Ev.pos (by omega) e)))
 | c + 1, p, mix, M, hc, hM, h0, h1 => by
  have hw : wrap64 (((c + 1 : Nat) : Int) - 1) = (c : Int) := by rw [wrap_id (by omega) (by omega)]; omega
  obtain ⟨r1, p1, m1, e1, a1, b1, c1, d1⟩ := src_n b p mix size 99 hb h0 h1 (by omega) (by omega)
  obtain ⟨r2, p2, m2, e2, a2, b2, c2, d2⟩ := src_n b p1 m1 size 4 hb a1 b1 (by omega) (by omega)
  have h := ix_l2 b size n x4 ((c + 1 : Nat) : Int) kd ct (wrap64 (1 + r1)) A B L M hb (by omega) (fun p mix G hG hG2 h0 h1 => by
   rw [hw]
   exact ix_l1 b size n x4 kd ct A B L hb hL hnext c p mix (M ++ [⟨wrap64 (1 + r1), G⟩]) (by rw [List.length_append, List.length_singleton]; omega) (all_snoc hM ⟨by show G.length ≤ _; omega, hG2⟩) h0 h1) r2.toNat p2 m2 [] (by simp; omega) (by simp) a2 b2
  rw [show ((r2.toNat : Nat) : Int) = r2 by omega] at h
  exact h.of (fun r e => Ev.step (fun k => F45.l1.eq_2 ..) (Ev.pos (by omega) (Ev.bindc e1 (Ev.bindc e2 e))))
theorem ix_l0 (b : List Int) (size n : Int) (A B : ByteArray) (hb : b.length ≤ 1048576) (hA : A.size ≤ 100) (hB : B.size ≤ 100) :
  ∀ (c : Nat) (p mix : Int) (L : List S83), L.length + c ≤ 2 → 1 ≤ L.length + c → (∀ s ∈ L, dBn s) → 0 ≤ p → p ≤ (b.length : Int) → IxD b size (fun k => F45.l0 k (c : Int) b p mix size A B n L)
 | 0, p, mix, L, hc, hc1, hL, h0, h1 => by
  obtain ⟨r1, p1, m1, e1, a1, b1⟩ := src_one b p mix size 20 hb h0 h1 (by omega) (by omega)
  cases r1 with
  | false => exact ⟨_, _, _, _, _, _, Ev.step (fun k => F45.l0.eq_2 ..) (Ev.neg (by omega) (Ev.bindc e1 (Ev.neg (by simp) (Ev.now _)))), hA, hB, by omega, hL, a1, b1⟩
  | true =>
   obtain ⟨r2, p2, m2, e2, a2, b2, c2, d2⟩ := src_n b p1 m1 size 6 hb a1 b1 (by omega) (by omega)
   by_cases g0 : r2 = 0
   ·obtain ⟨u, p3, m3, e3, a3, b3, s3⟩ := src_pick b p2 m2 size [(⟨#[]⟩ : ByteArray), (⟨#[97]⟩ : ByteArray), (⟨#[65, 66, 67, 68, 69, 70, 71, 72, 73, 74, 75, 76, 77]⟩ : ByteArray), (⟨#[65, 32, 66]⟩ : ByteArray)] hb a2 b2 (by simp) (by simp) (by intro x hx; simp at hx; rcases hx with h | h | h | h <;> subst h <;> decide)
    exact ⟨_, _, _, _, _, _, Ev.step (fun k => F45.l0.eq_2 ..) (Ev.neg (by omega) (Ev.bindc e1 (Ev.pos rfl (Ev.bindc e2 (Ev.pos g0 (Ev.bindc e3 (Ev.now _))))))), s3, hB, by omega, hL, a3, b3⟩
   ·by_cases g1 : r2 = 1
    ·obtain ⟨r3, p3, m3, e3, a3, b3, c3, d3⟩ := src_n b p2 m2 size 3 hb a2 b2 (by omega) (by omega)
     exact ⟨_, _, _, _, _, _, Ev.step (fun k => F45.l0.eq_2 ..) (Ev.neg (by omega) (Ev.bindc e1 (Ev.pos rfl (Ev.bindc e2 (Ev.neg g0 (Ev.pos g1 (Ev.bindc rfl (Ev.bindc e3 (Ev.pos c3 (Ev.pos (by simpa using d3) (Ev.now _))))))))))), hA, hB, by omega, hL, a3, b3⟩
    ·by_cases g2 : r2 = 2
     ·exact ⟨_, _, _, _, _, _, Ev.step (fun k => F45.l0.eq_2 ..) (Ev.neg (by omega) (Ev.bindc e1 (Ev.pos rfl (Ev.bindc e2 (Ev.neg g0 (Ev.neg g1 (Ev.pos g2 (Ev.now _)))))))), hA, hB, by simp, by simp, a2, b2⟩
     ·by_cases g3 : r2 = 3
      ·obtain ⟨r3, p3, m3, e3, a3, b3, c3, d3⟩ := src_n b p2 m2 size 2 hb a2 b2 (by omega) (by omega)
       exact ⟨_, _, _, _, _, _, Ev.step (fun k => F45.l0.eq_2 ..) (Ev.neg (by omega) (Ev.bindc e1 (Ev.pos rfl (Ev.bindc e2 (Ev.neg g0 (Ev.neg g1 (Ev.neg g2 (Ev.pos g3 (Ev.bindc e3 (Ev.pos (by omega) (Ev.now _))))))))))), hA, hB, by rw [List.length_set]; omega, all_set0 hL (show dBn (rd_T83 L 0) from hL _ (rd0_mem (L := L) (by omega))), a3, b3⟩
      ·by_cases g4 : r2 = 4
       ·exact (ix_l3 b size n A B hb hA hB 6 p2 m2 L (by omega) (by omega) hL (by omega) a2 b2).of (fun r e => Ev.step (fun k => F45.l0.eq_2 ..) (Ev.neg (by omega) (Ev.bindc e1 (Ev.pos rfl (Ev.bindc e2 (Ev.neg g0 (Ev.neg g1 (Ev.neg g2 (Ev.neg g3 (Ev.pos g4 e))))))))))
       ·exact (ix_l4 b size n A B hb hA hB 11 p2 m2 L (by omega) (by omega) hL (by omega) a2 b2).of (fun r e => Ev.step (fun k => F45.l0.eq_2 ..) (Ev.neg (by omega) (Ev.bindc e1 (Ev.pos rfl (Ev.bindc e2 (Ev.neg g0 (Ev.neg g1 (Ev.neg g2 (Ev.neg g3 (Ev.neg g4 e))))))))))
 | c + 1, p, mix, L, hc, hc1, hL, h0, h1 => by
  have hw : wrap64 (((c + 1 : Nat) : Int) - 1) = (c : Int) := by rw [wrap_id (by omega) (by omega)]; omega
  obtain ⟨r1, p1, m1, e1, a1, b1, c1, d1⟩ := src_n b p mix size 7 hb h0 h1 (by omega) (by omega)
  obtain ⟨r2, p2, m2, e2, a2, b2, c2, d2⟩ := src_n b p1 m1 size 99 hb a1 b1 (by omega) (by omega)
  obtain ⟨r3, p3, m3, e3, a3, b3, c3, d3⟩ := src_n b p2 m2 size 2 hb a2 b2 (by omega) (by omega)
  have h := ix_l1 b size n ((c + 1 : Nat) : Int) (wrap64 (1 + r1)) (wrap64 (1 + r2)) A B L hb (by omega) (fun p mix M hM hM2 h0 h1 => by
   rw [hw]
   exact ix_l0 b size n A B hb hA hB c p mix (L ++ [⟨wrap64 (1 + r1), wrap64 (1 + r2), M⟩]) (by rw [List.length_append, List.length_singleton]; omega) (by rw [List.length_append, List.length_singleton]; omega) (all_snoc hL ⟨by show M.length ≤ _; omega, hM2⟩) h0 h1) (1 + r3).toNat p3 m3 [] (by simp; omega) (by simp) a3 b3
  have hw3 : wrap64 (1 + r3) = 1 + r3 := wrap_id (by omega) (by omega)
  rw [show (((1 + r3).toNat : Nat) : Int) = wrap64 (1 + r3) by rw [hw3]; omega] at h
  exact h.of (fun r e => Ev.step (fun k => F45.l0.eq_2 ..) (Ev.pos (by omega) (Ev.bindc e1 (Ev.bindc e2 (Ev.bindc e3 e)))))
theorem ix_draw (b : List Int) (p mix size : Int) (hb : b.length ≤ 1048576) (h0 : 0 ≤ p) (h1 : p ≤ (b.length : Int)) : IxD b size (fun k => F45.f k b p mix size) := by
 unfold F45.f
 obtain ⟨t, p1, m1, e1, a1, b1, s1⟩ := src_pick b p mix size [(⟨#[65, 67, 77, 69]⟩ : ByteArray), (⟨#[66, 79, 76, 84]⟩ : ByteArray), (⟨#[67, 45, 49]⟩ : ByteArray)] hb h0 h1 (by simp) (by simp) (by intro x hx; simp at hx; rcases hx with h | h | h <;> subst h <;> decide)
 obtain ⟨r2, p2, m2, e2, a2, b2, c2, d2⟩ := src_n b p1 m1 size 60 hb a1 b1 (by omega) (by omega)
 obtain ⟨r3, p3, m3, e3, a3, b3, c3, d3⟩ := src_n b p2 m2 size 2 hb a2 b2 (by omega) (by omega)
 have h := ix_l0 b size (wrap64 (1 + r2)) t (⟨#[68, 79, 67, 75]⟩ : ByteArray) hb s1 (by decide) (1 + r3).toNat p3 m3 [] (by simp; omega) (by simp; omega) (by simp) a3 b3
 have hw3 : wrap64 (1 + r3) = 1 + r3 := wrap_id (by omega) (by omega)
 rw [show (((1 + r3).toNat : Nat) : Int) = wrap64 (1 + r3) by rw [hw3]; omega] at h
 exact h.of (fun r e => Ev.bindc e1 (Ev.bindc e2 (Ev.bindc e3 e)))
theorem u8_of {x : Int} (h : (Lit.int .u8 x).wf = true) : 0 ≤ x ∧ x ≤ 255 := by
 have h2 : IntKind.u8.min ≤ x ∧ x ≤ IntKind.u8.max := by simpa [Lit.wf] using h
 exact h2
theorem lwAt_ev (l : List Int) (m : Int) (hl : ∀ x ∈ l, (Lit.int .u8 x).wf = true) (hm : 1 ≤ m) (hm2 : m ≤ 1000000) : ∃ r, F23.f l 0 m = some r ∧ 0 ≤ r ∧ r < m := by
 unfold F23.f
 by_cases h1 : m ≤ 1
 ·exact ⟨0, by rw [if_pos h1], by omega, by omega⟩
 rw [if_neg h1]
 by_cases h2 : (l.length : Int) = 0
 ·exact ⟨0, by rw [if_pos h2], by omega, by omega⟩
 rw [if_neg h2, Int.zero_tmod, if_pos (by omega), if_pos (by omega), if_neg (by omega)]
 have hx : 0 ≤ rd l 0 ∧ rd l 0 ≤ 255 := by
  have hm : rd l 0 ∈ l := by
   unfold rd
   rw [List.getD_eq_getElem?_getD, List.getElem?_eq_getElem (by show 0 < l.length; omega)]
   exact List.getElem_mem _
  exact u8_of (hl _ hm)
 rw [wrap_id (by omega) (by omega), Int.tmod_eq_emod_of_nonneg hx.1]
 exact ⟨_, rfl, Int.emod_nonneg _ (by omega), Int.emod_lt_of_pos _ (by omega)⟩
theorem decS_size (m : Nat) (h : m < 1000000000000) : (decS (m : Int)).size ≤ 12 := by
 rw [← length_bytesOf, bytes_decS]
 exact dgt_len 12 m (by omega) h
theorem decS_inj {a b : Nat} (h : decS (a : Int) = decS (b : Int)) : a = b := by
 have h1 := congrArg bytesOf h
 rw [bytes_decS, bytes_decS] at h1
 rw [← (dgt_all a).2.2.1, h1, (dgt_all b).2.2.1]
theorem isNum_dec (m : Nat) (h : m < 1000000000000) : Ev (fun k => F96.f k (decS (m : Int))) true := by
 have h1 := isNumber_ev (decS (m : Int)) (by have := decS_size m h; omega)
 rw [bytes_decS, isNumB_dgt] at h1
 exact h1
theorem tail_ev (tag : ByteArray) (a b many number : Nat) (ha : a < 1000000000000) (hb : b < 1000000000000) (hm : many < 1000000000000) (hn : number < 1000000000000) :
  Ev (fun k => F77.f k (plainS tag [decS (a : Int), decS (b : Int)]).f0 (plainS tag [decS (a : Int), decS (b : Int)]).f1 tag (many : Int) (number : Int)) (if a = many ∧ b = number then 0 else 5) := by
 unfold F77.f
 obtain ⟨R, e1, _, e3⟩ := parts_ev (plainS tag [decS (a : Int), decS (b : Int)]) tag 2 (by simp [plainS])
 have hR := e3 [decS (a : Int), decS (b : Int)] rfl rfl
 subst hR
 refine Ev.bind e1 (Ev.pos rfl (Ev.pos (by simp) (Ev.bind (isNum_dec a ha) (Ev.pos rfl (Ev.pos (by simp) (Ev.bind (isNum_dec b hb) ?_))))))
 refine Ev.step (fun k => F77.j0.eq_2 ..) (Ev.neg (by simp) (Ev.pos (by simp) (Ev.bindc (decimal_eq _ (by omega) (by omega)) ?_)))
 by_cases h1 : a = many
 ·subst h1
  refine Ev.pos rfl (Ev.pos (by simp) (Ev.bindc (decimal_eq _ (by omega) (by omega)) ?_))
  by_cases h2 : b = number
  ·subst h2
   exact (Ev.pos rfl (Ev.now (0 : Int))).to (by simp)
  ·exact (Ev.neg (fun h => h2 (decS_inj (toList_inj.1 h))) (Ev.now (5 : Int))).to (by simp [h2])
 ·exact (Ev.neg (fun h => h1 (decS_inj (toList_inj.1 h))) (Ev.now (5 : Int))).to (by simp [h1])
theorem ixr_step {n : Int} {G r : List S52} {i : Nat} {s : S52} {inn inn' : Int} {L L' : List S83} {R : Int × Int × Int × List S83} (hd : G.drop i = s :: r) (hl : i ≤ 1000000) (ht : Ev (fun k => rd_take.f k n inn L s.f0 s.f1) (0, inn', L')) (h : Ev (fun k => rd_ixr n G k ((i + 1 : Nat) : Int) inn' L') R) : Ev (fun k => rd_ixr n G k (i : Int) inn L) R := by
 obtain ⟨h1, h2, h3⟩ := ldrop_cons z52 hd
 have hs : rd_T52 G (i : Int) = s := h2
 have hw : wrap64 ((i : Int) + 1) = ((i + 1 : Nat) : Int) := by rw [wrap_id (by omega) (by omega)]; omega
 refine Ev.step (fun k => rd_ixr.eq_2 ..) (Ev.pos h1 (Ev.pos (by omega) ?_))
 rw [hs, hw]
 exact Ev.bind ht (Ev.pos rfl h)
theorem ixr_fail {n : Int} {G r : List S52} {i : Nat} {s : S52} {inn inn' c : Int} {L L' : List S83} (hd : G.drop i = s :: r) (hl : i ≤ 1000000) (hc : c ≠ 0) (ht : Ev (fun k => rd_take.f k n inn L s.f0 s.f1) (c, inn', L')) : Ev (fun k => rd_ixr n G k (i : Int) inn L) (c, ((i + 1 : Nat) : Int), inn', L') := by
 obtain ⟨h1, h2, h3⟩ := ldrop_cons z52 hd
 have hs : rd_T52 G (i : Int) = s := h2
 have hw : wrap64 ((i : Int) + 1) = ((i + 1 : Nat) : Int) := by rw [wrap_id (by omega) (by omega)]; omega
 refine Ev.step (fun k => rd_ixr.eq_2 ..) (Ev.pos h1 (Ev.pos (by omega) ?_))
 rw [hs, hw]
 exact Ev.bind ht (Ev.neg hc (Ev.now _))
def Reads (n : Int) (S : List S52) (inn : Int) (L : List S83) (inn' : Int) (L' : List S83) : Prop :=
 ∀ (G r : List S52) (i : Nat) (R : Int × Int × Int × List S83), G.length ≤ 100000 → G.drop i = S ++ r → Ev (fun k => rd_ixr n G k ((i + S.length : Nat) : Int) inn' L') R → Ev (fun k => rd_ixr n G k (i : Int) inn L) R
theorem Reads.nil (n inn : Int) (L : List S83) : Reads n [] inn L inn L := fun G r i R _ _ h => h
theorem Reads.one {n inn inn' : Int} {s : S52} {L L' : List S83} (ht : Ev (fun k => rd_take.f k n inn L s.f0 s.f1) (0, inn', L')) : Reads n [s] inn L inn' L' := fun G r i R hl hd h =>
 ixr_step hd (by have := (ldrop_cons z52 hd).1; omega) ht h
theorem Reads.trans {n a b c : Int} {S1 S2 : List S52} {L1 L2 L3 : List S83} (h1 : Reads n S1 a L1 b L2) (h2 : Reads n S2 b L2 c L3) : Reads n (S1 ++ S2) a L1 c L3 := fun G r i R hl hd h => by
 rw [List.append_assoc] at hd
 refine h1 G (S2 ++ r) i R hl hd (h2 G r (i + S1.length) R hl ?_ ?_)
 ·rw [← List.drop_drop, hd, List.drop_left]
 ·rw [List.length_append] at h
  rw [Nat.add_assoc]
  exact h
def turnS (t : S52) : S52 := ⟨t.f0, [(⟨[(⟨#[55, 55]⟩ : ByteArray)]⟩ : S55), ⟨(rd_T55 t.f1 1).f0⟩]⟩
def isTr (t : S52) : Prop := t.f0 = tMST ∨ t.f0 = tGRT ∨ t.f0 = tIXT
def Bad (n inn : Int) (L : List S83) (t : S52) : Prop := ∃ i2 L2, Ev (fun k => rd_take.f k n inn L (turnS t).f0 (turnS t).f1) (5, i2, L2)
def Good (n : Int) (S : List S52) (inn : Int) (L : List S83) (inn' : Int) (L' : List S83) : Prop :=
 Reads n S inn L inn' L' ∧ ∀ pre t post, S = pre ++ t :: post → isTr t → 1 < t.f1.length ∧ ∃ i1 L1, Reads n pre inn L i1 L1 ∧ Bad n i1 L1 t
theorem Good.nil (n inn : Int) (L : List S83) : Good n [] inn L inn L := ⟨Reads.nil n inn L, fun pre t post h => by simp at h⟩
theorem Good.one {n inn inn' : Int} {s : S52} {L L' : List S83} (ht : Ev (fun k => rd_take.f k n inn L s.f0 s.f1) (0, inn', L')) (hb : isTr s → 1 < s.f1.length ∧ Bad n inn L s) : Good n [s] inn L inn' L' := by
 refine ⟨Reads.one ht, fun pre t post h ht => ?_⟩
 cases pre with
 | nil =>
  simp at h
  obtain ⟨rfl, _⟩ := h
  exact ⟨(hb ht).1, inn, L, Reads.nil n inn L, (hb ht).2⟩
 | cons x p => simp at h
theorem Good.app {n a b c : Int} {S1 S2 : List S52} {L1 L2 L3 : List S83} (h1 : Good n S1 a L1 b L2) (h2 : Good n S2 b L2 c L3) : Good n (S1 ++ S2) a L1 c L3 := by
 refine ⟨h1.1.trans h2.1, fun pre t post h ht => ?_⟩
 rcases List.append_eq_append_iff.1 h with ⟨q, rfl, e⟩ | ⟨q, e1, e2⟩
 ·obtain ⟨g1, i1, M1, g2, g3⟩ := h2.2 q t post e ht
  exact ⟨g1, i1, M1, h1.1.trans g2, g3⟩
 ·cases q with
  | nil =>
   rw [List.append_nil] at e1
   subst e1
   obtain ⟨g1, i1, M1, g2, g3⟩ := h2.2 [] t post (by simpa using e2.symm) ht
   refine ⟨g1, i1, M1, ?_, g3⟩
   have := h1.1.trans g2
   rwa [List.append_nil] at this
  | cons x q =>
   rw [List.cons_append] at e2
   obtain ⟨rfl, _⟩ := List.cons.inj e2
   exact h1.2 pre t q e1 ht
theorem tl_ (l : List UInt8) : (⟨l.toArray⟩ : ByteArray).toList = l := by rw [ByteArray.toList_eq]
theorem tMST_l : tMST.toList = [77, 83, 84] := tl_ [77, 83, 84]
theorem tGRT_l : tGRT.toList = [71, 82, 84] := tl_ [71, 82, 84]
theorem tIXT_l : tIXT.toList = [73, 88, 84] := tl_ [73, 88, 84]
theorem tGRH_l : tGRH.toList = [71, 82, 72] := tl_ [71, 82, 72]
theorem tMSH_l : tMSH.toList = [77, 83, 72] := tl_ [77, 83, 72]
theorem tIXH_l : tIXH.toList = [73, 88, 72] := tl_ [73, 88, 72]
theorem d77 : (⟨#[55, 55]⟩ : ByteArray) = decS ((77 : Nat) : Int) := bytesOf_inj (by rw [bytes_decS, dgt_eq, if_neg (by omega), dgt_eq, if_pos (by omega)]; rfl)
theorem turn_plain (tag a b : ByteArray) : turnS (plainS tag [a, b]) = plainS tag [decS ((77 : Nat) : Int), b] := by
 rw [← d77]
 rfl
theorem bad_plain {n inn i2 : Int} {L L2 : List S83} {tag a b : ByteArray} (h : Ev (fun k => rd_take.f k n inn L (plainS tag [decS ((77 : Nat) : Int), b]).f0 (plainS tag [decS ((77 : Nat) : Int), b]).f1) (5, i2, L2)) : Bad n inn L (plainS tag [a, b]) := ⟨i2, L2, by rw [turn_plain]; exact h⟩
theorem numIn (m : Nat) (lo hi : Int) (h0 : 0 ≤ lo) (h1 : hi ≤ 999999) (h2 : lo ≤ (m : Int)) (h3 : (m : Int) ≤ hi) : Ev (fun k => F62.f k (decS (m : Int)) lo hi) ((m : Int), true) := by
 obtain ⟨p, e, h, _⟩ := numberIn_ev (decS (m : Int)) (by have := decS_size m (by omega); omega) lo hi h0 (by omega)
 exact e.to (h m rfl h2 h3)
theorem take_grh (n : Int) (L : List S83) (kd ct : Nat) (hL : L.length ≤ 4) (h1 : 1 ≤ kd) (h2 : kd ≤ 7) (h3 : 1 ≤ ct) (h4 : ct ≤ 999999) :
  Ev (fun k => rd_take.f k n 0 L (plainS tGRH [decS (kd : Int), decS (ct : Int)]).f0 (plainS tGRH [decS (kd : Int), decS (ct : Int)]).f1) (0, 1, L ++ [⟨(kd : Int), (ct : Int), []⟩]) := by
 unfold rd_take.f
 refine Ev.pos rfl ?_
 unfold rd_takeBundle.f
 refine Ev.neg (by show ¬ tGRH.toList = _; rw [tGRH_l]; decide) ?_
 unfold rd_tb2
 obtain ⟨R, e1, _, e3⟩ := parts_ev (plainS tGRH [decS (kd : Int), decS (ct : Int)]) tGRH 2 (by simp [plainS])
 have hR := e3 [decS (kd : Int), decS (ct : Int)] rfl rfl
 subst hR
 exact Ev.bind e1 (Ev.pos rfl (Ev.neg (by omega) (Ev.pos (by simp) (Ev.bind (numIn kd 1 7 (by omega) (by omega) (by omega) (by omega)) (Ev.pos (by simp) (Ev.bind (numIn ct 1 999999 (by omega) (by omega) (by omega) (by omega)) (Ev.pos rfl (Ev.pos rfl (Ev.pos (by omega) (Ev.now _))))))))))
theorem snoc_get {α : Type} (P : List α) (b z : α) : (P ++ [b]).getD ((P ++ [b]).length - 1) z = b := by simp
theorem snoc_set {α : Type} (P : List α) (b x : α) : (P ++ [b]).set ((P ++ [b]).length - 1) x = P ++ [x] := by simp
theorem take_msh (n : Int) (P : List S83) (kd ct : Int) (M : List S85) (mc : Nat) (hM : M.length ≤ 9) (h3 : 1 ≤ mc) (h4 : mc ≤ 999999) :
  Ev (fun k => rd_take.f k n 1 (P ++ [⟨kd, ct, M⟩]) (plainS tMSH [decS (mc : Int)]).f0 (plainS tMSH [decS (mc : Int)]).f1) (0, 2, P ++ [⟨kd, ct, M ++ [⟨(mc : Int), []⟩]⟩]) := by
 unfold rd_take.f
 refine Ev.neg (by omega) (Ev.pos rfl ?_)
 unfold rd_takeMessage.f
 rw [snoc_get]
 refine Ev.pos (by simp) (Ev.neg (by show ¬ tMSH.toList = _; rw [tMSH_l]; decide) ?_)
 unfold rd_tm2
 obtain ⟨R, e1, _, e3⟩ := parts_ev (plainS tMSH [decS (mc : Int)]) tMSH 1 (by simp [plainS])
 have hR := e3 [decS (mc : Int)] rfl rfl
 subst hR
 refine Ev.bind e1 (Ev.pos rfl (Ev.neg (by show ¬ ((M.length : Int) = 10); omega) (Ev.pos (by simp) (Ev.bind (numIn mc 1 999999 (by omega) (by omega) (by omega) (by omega)) (Ev.pos rfl (Ev.pos (by show M.length < 1000000; omega) (Ev.ret ?_)))))))
 rw [snoc_set]
theorem take_body (n : Int) (P : List S83) (kd ct : Int) (M : List S85) (mc : Int) (G : List S52) (s : S52) (hG : G.length ≤ 39) (hs : bSg s) (hb : bodyB s.f0 s.f1 = true) :
  Ev (fun k => rd_take.f k n 2 (P ++ [⟨kd, ct, M ++ [⟨mc, G⟩]⟩]) s.f0 s.f1) (0, 2, P ++ [⟨kd, ct, M ++ [⟨mc, G ++ [s]⟩]⟩]) := by
 unfold rd_take.f
 refine Ev.neg (by omega) (Ev.neg (by omega) (Ev.pos rfl ?_))
 simp only [snoc_get]
 refine Ev.pos (by simp) (Ev.pos (by simp) ?_)
 unfold rd_t2
 have hE := body_ev s.f0 s.f1 hs.1 hs.2
 rw [hb] at hE
 have hO : ownTag s.f0 = false := by
  unfold bodyB at hb
  simp at hb
  exact hb.2
 refine Ev.neg (fun h => ?_) (Ev.bind hE (Ev.pos rfl (Ev.neg (by show ¬ ((G.length : Int) = 40); omega) (Ev.bind (ownSeg_ev s hs.1 (fun e he => (hs.2 e he).1)) (Ev.pos (by show G.length < 1000000; omega) (Ev.ret ?_))))))
 ·rw [show s.f0 = tMST from toList_inj.1 (h.trans tMST_l.symm)] at hO
  revert hO
  unfold ownTag tagsL
  simp
 ·simp only [snoc_set]
theorem take_mst (n : Int) (P : List S83) (kd ct : Int) (M : List S85) (mc : Nat) (G : List S52) (a b : Nat) (ha : a < 1000000000000) (hb : b < 1000000000000) (hG : G.length ≤ 40) (h4 : mc ≤ 999999) :
  Ev (fun k => rd_take.f k n 2 (P ++ [⟨kd, ct, M ++ [⟨(mc : Int), G⟩]⟩]) (plainS tMST [decS (a : Int), decS (b : Int)]).f0 (plainS tMST [decS (a : Int), decS (b : Int)]).f1) (if a = G.length ∧ b = mc then 0 else 5, 1, P ++ [⟨kd, ct, M ++ [⟨(mc : Int), G⟩]⟩]) := by
 unfold rd_take.f
 refine Ev.neg (by omega) (Ev.neg (by omega) (Ev.pos rfl ?_))
 simp only [snoc_get]
 refine Ev.pos (by simp) (Ev.pos (by simp) ?_)
 unfold rd_t2
 exact Ev.pos tMST_l (Ev.bind (tail_ev tMST a b G.length mc ha hb (by omega) (by omega)) (Ev.now _))
theorem take_grt (n : Int) (P : List S83) (kd : Int) (ct : Nat) (M : List S85) (a b : Nat) (ha : a < 1000000000000) (hb : b < 1000000000000) (hM : M.length ≤ 10) (hM1 : 1 ≤ M.length) (h4 : ct ≤ 999999) :
  Ev (fun k => rd_take.f k n 1 (P ++ [⟨kd, (ct : Int), M⟩]) (plainS tGRT [decS (a : Int), decS (b : Int)]).f0 (plainS tGRT [decS (a : Int), decS (b : Int)]).f1) (if a = M.length ∧ b = ct then 0 else 5, 0, P ++ [⟨kd, (ct : Int), M⟩]) := by
 unfold rd_take.f
 refine Ev.neg (by omega) (Ev.pos rfl ?_)
 unfold rd_takeMessage.f
 rw [snoc_get]
 exact Ev.pos (by simp) (Ev.pos tGRT_l (Ev.pos (by show ((M.length : Int) > 0); omega) (Ev.bind (tail_ev tGRT a b M.length ct ha hb (by omega) (by omega)) (Ev.now _))))
theorem take_ixt (n : Nat) (L : List S83) (a b : Nat) (ha : a < 1000000000000) (hb : b < 1000000000000) (hL : L.length ≤ 5) (hL1 : 1 ≤ L.length) (h4 : n ≤ 999999) :
  Ev (fun k => rd_take.f k (n : Int) 0 L (plainS tIXT [decS (a : Int), decS (b : Int)]).f0 (plainS tIXT [decS (a : Int), decS (b : Int)]).f1) (if a = L.length ∧ b = n then 0 else 5, 3, L) := by
 unfold rd_take.f
 refine Ev.pos rfl ?_
 unfold rd_takeBundle.f
 exact Ev.pos tIXT_l (Ev.pos (by omega) (Ev.bind (tail_ev tIXT a b L.length n ha hb (by omega) (by omega)) (Ev.now _)))
theorem notTr_of {s : S52} {l : List UInt8} (h : s.f0.toList = l) (h1 : l ≠ [77, 83, 84]) (h2 : l ≠ [71, 82, 84]) (h3 : l ≠ [73, 88, 84]) : ¬ isTr s := by
 rintro (e | e | e)
 ·exact h1 (by rw [← h, e, tMST_l])
 ·exact h2 (by rw [← h, e, tGRT_l])
 ·exact h3 (by rw [← h, e, tIXT_l])
theorem good_body (n : Int) (P : List S83) (kd ct : Int) (M : List S85) (mc : Int) : ∀ (S G : List S52), G.length + S.length ≤ 40 → (∀ s ∈ S, bSg s ∧ bodyB s.f0 s.f1 = true) → Good n S 2 (P ++ [⟨kd, ct, M ++ [⟨mc, G⟩]⟩]) 2 (P ++ [⟨kd, ct, M ++ [⟨mc, G ++ S⟩]⟩])
 | [], G, hl, h => by rw [List.append_nil]; exact Good.nil n 2 _
 | s :: S, G, hl, h => by
  have hs := h s List.mem_cons_self
  have ih := good_body n P kd ct M mc S (G ++ [s]) (by simp at hl ⊢; omega) (fun x hx => h x (List.mem_cons_of_mem _ hx))
  rw [List.append_assoc, List.singleton_append] at ih
  refine Good.app (S1 := [s]) (Good.one (take_body n P kd ct M mc G s (by simp at hl; omega) hs.1 hs.2) (fun ht => ?_)) ih
  exfalso
  have hO : ownTag s.f0 = false := by
   have hb := hs.2
   unfold bodyB at hb
   simp at hb
   exact hb.2
  rcases ht with e | e | e <;> (rw [e] at hO; revert hO; unfold ownTag tagsL; simp)
def rM (m : S85) : Prop := (1 ≤ m.f0 ∧ m.f0 ≤ 999999) ∧ m.f1.length ≤ 40 ∧ ∀ s ∈ m.f1, bSg s ∧ bodyB s.f0 s.f1 = true
def rB (b : S83) : Prop := (1 ≤ b.f0 ∧ b.f0 ≤ 7) ∧ (1 ≤ b.f1 ∧ b.f1 ≤ 999999) ∧ (1 ≤ b.f2.length ∧ b.f2.length ≤ 10) ∧ ∀ m ∈ b.f2, rM m
theorem good_msg (n : Int) (P : List S83) (kd ct : Int) (M : List S85) (m : S85) (hM : M.length ≤ 9) (hm : rM m) : Good n (segsM m) 1 (P ++ [⟨kd, ct, M⟩]) 1 (P ++ [⟨kd, ct, M ++ [m]⟩]) := by
 obtain ⟨c, B⟩ := m
 obtain ⟨⟨h1, h2⟩, h3, h4⟩ := hm
 dsimp only at h1 h2 h3 h4
 obtain ⟨mc, rfl⟩ := Int.eq_ofNat_of_zero_le (by omega : 0 ≤ c)
 unfold segsM
 dsimp only
 have hmsh := take_msh n P kd ct M mc hM (by omega) (by omega)
 have hmst := take_mst n P kd ct M mc B B.length mc (by omega) (by omega) h3 (by omega)
 rw [if_pos ⟨rfl, rfl⟩] at hmst
 have hbad := take_mst n P kd ct M mc B 77 mc (by omega) (by omega) h3 (by omega)
 rw [if_neg (fun h => by have := h.1; omega)] at hbad
 exact Good.app (S1 := [plainS tMSH [decS (mc : Int)]]) (Good.one hmsh (fun ht => absurd ht (notTr_of tMSH_l (by decide) (by decide) (by decide)))) (Good.app (good_body n P kd ct M (mc : Int) B [] (by simpa using h3) h4) (Good.one hmst (fun _ => ⟨by simp [plainS], bad_plain hbad⟩)))
theorem good_msgs (n : Int) (P : List S83) (kd ct : Int) : ∀ (S M : List S85), M.length + S.length ≤ 10 → (∀ m ∈ S, rM m) → Good n (S.flatMap segsM) 1 (P ++ [⟨kd, ct, M⟩]) 1 (P ++ [⟨kd, ct, M ++ S⟩])
 | [], M, hl, h => by rw [List.append_nil]; exact Good.nil n 1 _
 | m :: S, M, hl, h => by
  have ih := good_msgs n P kd ct S (M ++ [m]) (by simp at hl ⊢; omega) (fun x hx => h x (List.mem_cons_of_mem _ hx))
  rw [List.append_assoc, List.singleton_append] at ih
  rw [List.flatMap_cons]
  exact Good.app (good_msg n P kd ct M m (by simp at hl; omega) (h m List.mem_cons_self)) ih
theorem good_bun (n : Int) (P : List S83) (b : S83) (hP : P.length ≤ 4) (hb : rB b) : Good n (segsB b) 0 P 0 (P ++ [b]) := by
 obtain ⟨kd, ct, M⟩ := b
 obtain ⟨⟨h1, h2⟩, ⟨h3, h4⟩, ⟨h5, h6⟩, h7⟩ := hb
 dsimp only at h1 h2 h3 h4 h5 h6 h7
 obtain ⟨k', rfl⟩ := Int.eq_ofNat_of_zero_le (by omega : 0 ≤ kd)
 obtain ⟨c', rfl⟩ := Int.eq_ofNat_of_zero_le (by omega : 0 ≤ ct)
 unfold segsB
 dsimp only
 have hgrh := take_grh n P k' c' hP (by omega) (by omega) (by omega) (by omega)
 have hgrt := take_grt n P (k' : Int) c' M M.length c' (by omega) (by omega) h6 h5 (by omega)
 rw [if_pos ⟨rfl, rfl⟩] at hgrt
 have hbad := take_grt n P (k' : Int) c' M 77 c' (by omega) (by omega) h6 h5 (by omega)
 rw [if_neg (fun h => by have := h.1; omega)] at hbad
 exact Good.app (S1 := [plainS tGRH [decS (k' : Int), decS (c' : Int)]]) (Good.one hgrh (fun ht => absurd ht (notTr_of tGRH_l (by decide) (by decide) (by decide)))) (Good.app (good_msgs n P (k' : Int) (c' : Int) M [] (by simpa using h6) h7) (Good.one hgrt (fun _ => ⟨by simp [plainS], bad_plain hbad⟩)))
theorem good_buns (n : Int) : ∀ (S P : List S83), P.length + S.length ≤ 5 → (∀ b ∈ S, rB b) → Good n (S.flatMap segsB) 0 P 0 (P ++ S)
 | [], P, hl, h => by rw [List.append_nil]; exact Good.nil n 0 _
 | b :: S, P, hl, h => by
  have ih := good_buns n S (P ++ [b]) (by simp at hl ⊢; omega) (fun x hx => h x (List.mem_cons_of_mem _ hx))
  rw [List.append_assoc, List.singleton_append] at ih
  rw [List.flatMap_cons]
  exact Good.app (good_bun n P b (by simp at hl; omega) (h b List.mem_cons_self)) ih
theorem good_all (n : Nat) (L : List S83) (hn : n ≤ 999999) (h1 : 1 ≤ L.length) (h5 : L.length ≤ 5) (hL : ∀ b ∈ L, rB b) : Good (n : Int) (L.flatMap segsB ++ [plainS tIXT [decS (L.length : Int), decS (n : Int)]]) 0 [] 3 L := by
 have hixt := take_ixt n L L.length n (by omega) (by omega) h5 h1 hn
 rw [if_pos ⟨rfl, rfl⟩] at hixt
 have hbad := take_ixt n L 77 n (by omega) (by omega) h5 h1 hn
 rw [if_neg (fun h => by have := h.1; omega)] at hbad
 exact Good.app (good_buns (n : Int) L [] (by simpa using h5) hL) (Good.one hixt (fun _ => ⟨by simp [plainS], bad_plain hbad⟩))
theorem rB_of {A B : ByteArray} {n : Int} {L : List S83} (h : ixB A B n L = true) (hb : ∀ b ∈ L, bBn b) : (1 ≤ n ∧ n ≤ 999999) ∧ (1 ≤ L.length ∧ L.length ≤ 5) ∧ (∀ b ∈ L, rB b) ∧ nameP (bytesOf A) = true ∧ nameP (bytesOf B) = true := by
 simp only [ixB, bunB, msgB, ctlB, Bool.and_eq_true, decide_eq_true_eq, List.all_eq_true] at h
 obtain ⟨hA, hB, hn, hl, hL⟩ := h
 refine ⟨hn, hl, fun b hbm => ?_, hA, hB⟩
 obtain ⟨h1, h2, h3, h4⟩ := hL b hbm
 refine ⟨h1, h2, h3, fun m hm => ?_⟩
 obtain ⟨g1, g2, g3⟩ := h4 m hm
 exact ⟨g1, g2, fun s hs => ⟨((hb b hbm).2 m hm).2 s hs, g3 s hs⟩⟩
theorem headOf_ok (A B : ByteArray) (m : Nat) (r : List S52) (hA : nameP (bytesOf A) = true) (hB : nameP (bytesOf B) = true) (h1 : 1 ≤ m) (h2 : m ≤ 999999) (hr : r.length ≤ 399) (hsA : A.size ≤ 1048576) (hsB : B.size ≤ 1048576) :
  Ev (fun k => F14.f k (plainS tIXH [A, B, decS (m : Int)] :: r)) (goodO A B m) := by
 unfold F14.f
 have hg : bSg (plainS tIXH [A, B, decS (m : Int)]) := by
  have hd := decS_size m (by omega)
  refine ⟨by simp [plainS], fun e he => ?_⟩
  simp [plainS] at he
  rcases he with rfl | rfl | rfl <;> refine ⟨by simp, fun s hs => ?_⟩ <;> simp at hs <;> subst hs <;> omega
 obtain ⟨R, e1, _, e3⟩ := implHead_ev _ hg
 have hR := e3 A B m ⟨rfl, hA, hB, h1, h2⟩
 subst hR
 exact Ev.bindc rfl (Ev.neg (by first | (simp; done) | (simp; omega)) (Ev.neg (by first | (simp; done) | (simp; omega)) (Ev.pos (by first | (simp; done) | (simp; omega)) (Ev.bind e1 (Ev.pos rfl (Ev.now _))))))
theorem read_turned (A B : ByteArray) (n : Int) (L : List S83) (h : ixB A B n L = true) (hb : ∀ b ∈ L, bBn b) (hl : (segsX A B n L).length ≤ 400) (hsA : A.size ≤ 1048576) (hsB : B.size ≤ 1048576) (pre post : List S52) (t : S52) (hs : segsX A B n L = pre ++ t :: post) (ht : isTr t) :
  1 < t.f1.length ∧ Ev (fun k => F24.f k (pre ++ turnS t :: post)) (A, B, n, [], true, (pre.length : Int), 5) := by
 obtain ⟨⟨h1, h2⟩, ⟨h3, h4⟩, h5, hA, hB⟩ := rB_of h hb
 obtain ⟨m, rfl⟩ := Int.eq_ofNat_of_zero_le (by omega : 0 ≤ n)
 rw [hs] at hl
 unfold segsX at hs
 cases pre with
 | nil =>
  rw [List.nil_append] at hs
  obtain ⟨rfl, _⟩ := List.cons.inj hs
  exact absurd ht (notTr_of tIXH_l (by decide) (by decide) (by decide))
 | cons x pre =>
  rw [List.cons_append] at hs hl
  obtain ⟨hx, hs2⟩ := List.cons.inj hs
  subst hx
  obtain ⟨g1, i1, L1, g2, i2, L2, g3⟩ := (good_all m L (by omega) h3 h4 h5).2 pre t post hs2 ht
  refine ⟨g1, ?_⟩
  simp at hl
  unfold F24.f
  have hr := g2 (pre ++ turnS t :: post) (turnS t :: post) 0 _ (by simp; omega) (by simp) (by
   rw [Nat.zero_add]
   exact ixr_fail (r := post) (by simp) (by omega) (by omega) g3)
  rw [List.cons_append]
  exact Ev.bind (headOf_ok A B m _ hA hB (by omega) (by omega) (by simp; omega) hsA hsB) (Ev.pos rfl (Ev.pos (by simp) (Ev.bind hr (Ev.neg (by simp) (Ev.ret (by simp [goodO]))))))
theorem segs_small {A B : ByteArray} {n : Int} {L : List S83} (hl : L.length ≤ 6) (hL : ∀ b ∈ L, dBn b) : (segsX A B n L).length ≤ 400 := by
 have hM : ∀ m : S85, dMs m → (segsM m).length ≤ 5 := fun m h => by
  have := h.1
  unfold segsM
  simp
  omega
 have hB : ∀ b : S83, dBn b → (segsB b).length ≤ 57 := fun b h => by
  have h1 := h.1
  have h2 := flat_le segsM 5 b.f2 (fun m hm => hM m (h.2 m hm))
  unfold segsB
  rw [List.length_cons, List.length_append, List.length_singleton]
  omega
 have h2 := flat_le segsB 57 L (fun b hb => hB b (hL b hb))
 unfold segsX
 rw [List.length_cons, List.length_append, List.length_singleton]
 omega
theorem tr_go (l1 : List Int) (S : List S52) (A B : ByteArray) (n : Int) (L : List S83) (i j : Nat) (t : S52) (hjl : j < S.length) (hl : S.length ≤ 400) (hrd : rd_T52 S (j : Int) = t) (g1 : 1 < t.f1.length)
  (g2 : Ev (fun k => F24.f k (S.take j ++ turnS t :: S.drop (j + 1))) (A, B, n, [], true, (j : Int), 5)) : Ev (fun k => F5.j2 k l1 S (S.length : Int) (i : Int) (j : Int) t.f0 false A B n L) true := by
 have hw : wrap64 ((j : Int) + 1) = ((j + 1 : Nat) : Int) := by rw [wrap_id (by omega) (by omega)]; omega
 have g3 : Ev (fun k => F5.j3 k (j : Int) (S.take j ++ turnS t :: S.drop (j + 1)) A B n L) true :=
  Ev.step (fun k => F5.j3.eq_2 ..) (Ev.bind g2 (Ev.pos rfl (Ev.pos rfl (Ev.pos rfl (Ev.pos rfl (Ev.ret (by simp)))))))
 have hT : (([] : List S52) ++ S.take (j : Int).toNat) ++ [(⟨t.f0, [(⟨[(⟨#[55, 55]⟩ : ByteArray)]⟩ : S55), ⟨(rd_T55 t.f1 1).f0⟩]⟩ : S52)] ++ S.drop (((j + 1 : Nat) : Int)).toNat = S.take j ++ turnS t :: S.drop (j + 1) := by
  rw [List.nil_append, Int.toNat_natCast, Int.toNat_natCast, List.append_assoc]
  rfl
 have hlt : (S.take (j : Int).toNat).length ≤ 400 := by rw [List.length_take]; omega
 have hld : (S.drop (((j + 1 : Nat) : Int)).toNat).length ≤ 400 := by rw [List.length_drop]; omega
 refine Ev.step (fun k => F5.j2.eq_2 ..) (Ev.neg (by simp) (Ev.pos (by omega) (Ev.pos (by omega) ?_)))
 rw [hrd, hw]
 refine Ev.pos (by omega) (Ev.bindc rfl (Ev.pos (by omega) (Ev.bindc rfl (Ev.pos ?_ (Ev.bindc rfl (Ev.bindc rfl (Ev.pos ?_ (Ev.bindc rfl (Ev.pos (by omega) (Ev.pos (by omega) (Ev.bindc rfl (Ev.pos ?_ ?_))))))))))))
 ·show 0 + (S.take (j : Int).toNat).length < _
  omega
 ·rw [List.nil_append]
  show (S.take (j : Int).toNat).length + 1 < _
  omega
 ·rw [List.nil_append, List.length_append]
  show (S.take (j : Int).toNat).length + 1 + (S.drop (((j + 1 : Nat) : Int)).toNat).length < _
  omega
 ·rw [hT]
  exact g3
theorem tr_loop (l1 : List Int) (hw1 : ∀ x ∈ l1, (Lit.int .u8 x).wf = true) (A B : ByteArray) (n : Int) (L : List S83) (h : ixB A B n L = true) (hb : ∀ b ∈ L, bBn b) (hl : (segsX A B n L).length ≤ 400) (hsA : A.size ≤ 1048576) (hsB : B.size ≤ 1048576) :
  ∀ (d i : Nat), (segsX A B n L).length - i = d → Ev (fun k => F5.l0 k l1 (segsX A B n L) ((segsX A B n L).length : Int) (i : Int) A B n L) true := by
 intro d
 induction d with
 | zero => intro i hd; exact Ev.step (fun k => F5.l0.eq_2 ..) (Ev.neg (by omega) (Ev.now _))
 | succ d ih =>
  intro i hd
  have hpos : 1 ≤ (segsX A B n L).length := by unfold segsX; simp
  have hread := fun pre post t hs ht => read_turned A B n L h hb hl hsA hsB pre post t hs ht
  generalize segsX A B n L = S at hd ih hpos hl hread ⊢
  obtain ⟨r, e1, a1, b1⟩ := lwAt_ev l1 (S.length : Int) hw1 (by omega) (by omega)
  have hwr : wrap64 (r + (i : Int)) = r + (i : Int) := wrap_id (by omega) (by omega)
  have hm : Int.tmod (wrap64 (r + (i : Int))) (S.length : Int) = (r + (i : Int)) % (S.length : Int) := by rw [hwr]; exact Int.tmod_eq_emod_of_nonneg (by omega)
  have hm0 := Int.emod_nonneg (r + (i : Int)) (show (S.length : Int) ≠ 0 by omega)
  have hm1 := Int.emod_lt_of_pos (r + (i : Int)) (show 0 < (S.length : Int) by omega)
  refine Ev.step (fun k => F5.l0.eq_2 ..) (Ev.pos (by omega) (Ev.bindc e1 (Ev.neg (by omega) ?_)))
  rw [hm]
  obtain ⟨j, hj⟩ := Int.eq_ofNat_of_zero_le hm0
  rw [hj] at hm0 hm1 ⊢
  have hjl : j < S.length := by omega
  have hnext : Ev (fun k => F5.l0 k l1 S (S.length : Int) (wrap64 ((i : Int) + 1)) A B n L) true := by
   rw [show wrap64 ((i : Int) + 1) = ((i + 1 : Nat) : Int) by rw [wrap_id (by omega) (by omega)]; omega]
   exact ih (i + 1) (by omega)
  have hsplit : S = S.take j ++ S[j] :: S.drop (j + 1) := by rw [← List.drop_eq_getElem_cons hjl, List.take_append_drop]
  have hrd : rd_T52 S (j : Int) = S[j] := by
   show S.getD (j : Int).toNat z52 = _
   rw [Int.toNat_natCast, List.getD_eq_getElem?_getD, List.getElem?_eq_getElem hjl, Option.getD_some]
  rw [hrd]
  have hgo : isTr S[j] → Ev (fun k => F5.j2 k l1 S (S.length : Int) (i : Int) (j : Int) (S[j]).f0 false A B n L) true := fun ht => by
   obtain ⟨g1, g2⟩ := hread (S.take j) (S.drop (j + 1)) S[j] hsplit ht
   rw [List.length_take, Nat.min_eq_left (by omega)] at g2
   exact tr_go l1 S A B n L i j S[j] hjl hl hrd g1 g2
  refine Ev.pos (by omega) (Ev.pos (by omega) (Ev.ite (fun c1 => hgo (.inl (toList_inj.1 (c1.trans tMST_l.symm)))) (fun c1 => Ev.ite (fun c2 => hgo (.inr (.inl (toList_inj.1 (c2.trans tGRT_l.symm))))) (fun c2 => ?_))))
  by_cases c3 : (S[j]).f0.toList = ([73, 88, 84] : List UInt8)
  ·rw [show ((S[j]).f0.toList != ([73, 88, 84] : List UInt8)) = false by rw [c3]; rfl]
   exact hgo (.inr (.inr (toList_inj.1 (c3.trans tIXT_l.symm))))
  ·rw [show ((S[j]).f0.toList != ([73, 88, 84] : List UInt8)) = true by rw [bne_iff_ne]; exact c3]
   exact Ev.step (fun k => F5.j2.eq_2 ..) (Ev.pos rfl hnext)
theorem FnTrailers : F5.Pure := by
 intro l0 l1 h1 h2 hw0 h3 h4 hw1
 refine Ev.rounds (g := fun k => F5.f k l0 l1) ?_
 unfold F5.f
 refine Ev.ite (fun _ => Ev.step (fun k => F5.j0.eq_2 ..) (Ev.pos rfl (Ev.now _))) (fun hl => Ev.step (fun k => F5.j0.eq_2 ..) (Ev.ite (fun _ => Ev.now _) (fun _ => ?_)))
 obtain ⟨mix, size, e1⟩ := source_ev l0 (by omega)
 obtain ⟨A, B, n, L, p', mix', e2, hA, hB, hL, hd, _, _⟩ := ix_draw l0 0 mix size (by omega) (by omega) (by omega)
 have e3 : Ev (fun k => F20.f k l0) (A, B, n, L) := by
  unfold F20.f
  exact Ev.bind e1 (Ev.bind e2 (Ev.now _))
 have hb : ∀ b ∈ L, bBn b := fun b h => (hd b h).b
 have e4 := specIx_ev A B n L (by omega) (by omega) (by omega) hb
 have e5 := specSegs_ev A B n L (by omega) (by omega) (by omega) hb
 refine Ev.bind e3 (Ev.bind e4 (Ev.ite (fun h => ?_) (fun _ => Ev.now _)))
 rw [if_pos h] at e5
 exact Ev.bind e5 (tr_loop l1 hw1 A B n L h hb (segs_small hL hd) (by omega) (by omega) _ 0 rfl)
end Go.Proofs.YtlghcbmkhdibdaaDoor.Pure
