/- The law SegmentBack of the program, over numbers and lists.
Conditions: none. -/
import Derived.Test.YtchoalagkcdbhaaPFnSegmentBackx
import Derived.Test.YtchoalagkcdbhaaVFnSegmentBack
namespace Go.Proofs.Ytchoalagkcdbhaa.Pure
open Go.RowKit Go.Proofs.Ytchoalagkcdbhaa.PFnSegmentBack Go.Proofs.YtchoalagkcdbhaaW.PrintWords Go.Proofs.YtchoalagkcdbhaaW.PrintLast Go.Proofs.YtchoalagkcdbhaaW.PrintMore Go.Proofs.YtchoalagkcdbhaaW.Pl
set_option linter.unusedVariables false
set_option linter.unusedSimpArgs false

theorem within_eq (a b c : Int) : F79.f a b c = some (withinP a b c) := by
 unfold F79.f withinP
 split
 ·congr 1; simp only [decide_eq_decide]; omega
 ·congr 1; symm; simp only [decide_eq_false_iff_not]; omega
theorem isGreat_eq (c : Int) : F104.f c = some (great c) := by
 unfold F104.f great
 split
 ·congr 1; simp only [decide_eq_decide]; omega
 ·congr 1; symm; simp only [decide_eq_false_iff_not]; omega
theorem isDigit_eq (c : Int) : F105.f c = some (digit c) := by
 unfold F105.f digit
 split
 ·congr 1; simp only [decide_eq_decide]; omega
 ·congr 1; symm; simp only [decide_eq_false_iff_not]; omega
theorem index_loop (l : List Int) (v : Int) (hl : (l.length : Int) ≤ 4611686018427387904) : ∀ (r : List Int) (i : Nat), l.drop i = r → ∃ x : Int, Ev (fun k => F120.l0 k l v (l.length : Int) (i : Int)) x ∧ decide (x ≥ 0) = r.contains v := by
 intro r
 induction r with
 | nil =>
  intro i h
  have h0 := ldrop_nil h
  exact ⟨-1, Ev.step (fun k => F120.l0.eq_2 ..) (Ev.neg (by omega) (Ev.now _)), by simp⟩
 | cons c r ih =>
  intro i h
  obtain ⟨h1, h2, h3⟩ := rd_cons h
  have hw : wrap64 ((i : Int) + 1) = ((i + 1 : Nat) : Int) := by rw [wrap_id (by omega) (by omega)]; omega
  obtain ⟨x, hx, he⟩ := ih (i + 1) h3
  by_cases hv : v = c
  ·refine ⟨i, Ev.step (fun k => F120.l0.eq_2 ..) (Ev.pos h1 (Ev.pos (by omega) (Ev.pos h1 ?_))), by simp [hv]⟩
   rw [h2]
   exact Ev.pos hv (Ev.now _)
  ·refine ⟨x, Ev.step (fun k => F120.l0.eq_2 ..) (Ev.pos h1 (Ev.pos (by omega) (Ev.pos h1 ?_))), by rw [he]; simp [hv]⟩
   rw [h2, hw]
   exact Ev.neg hv hx
theorem contains_ev (l : List Int) (v : Int) (hl : (l.length : Int) ≤ 4611686018427387904) : Ev (fun k => F103.f k l v) (l.contains v) := by
 obtain ⟨x, hx, he⟩ := index_loop l v hl l 0 rfl
 unfold F103.f
 refine Ev.bind (show Ev (fun k => F120.f k l v) x from hx) ?_
 exact Ev.ret he
theorem l01Mark_eq (c : Int) : F66.f c = some (markP c) := by
 have hf : ∀ {b : Bool}, markP c = b → some b = some (markP c) := fun h => by rw [h]
 have ht : 33 ≤ c → c ≤ 126 → c ≠ 45 → ¬ (65 ≤ c ∧ c ≤ 90) → ¬ (97 ≤ c ∧ c ≤ 122) → ¬ (48 ≤ c ∧ c ≤ 57) → markP c = true := fun h1 h2 h3 h4 h5 h6 => markP_iff.2 ⟨h1, h2, h3, h4, h5, h6⟩
 have hn : ¬ (33 ≤ c ∧ c ≤ 126 ∧ c ≠ 45 ∧ ¬ (65 ≤ c ∧ c ≤ 90) ∧ ¬ (97 ≤ c ∧ c ≤ 122) ∧ ¬ (48 ≤ c ∧ c ≤ 57)) → markP c = false := markP_not.2
 unfold F66.f
 repeat' split
 all_goals (apply hf; first | exact hn (by omega) | exact ht (by omega) (by omega) (by omega) (by omega) (by omega) (by omega) | (simp only [Bool.not_true, Bool.not_false]; first | exact hn (by omega) | exact ht (by omega) (by omega) (by omega) (by omega) (by omega) (by omega)) | skip)
 all_goals
  by_cases h57 : c ≤ 57
  ·rw [decide_eq_true h57]; exact hn (by omega)
  ·rw [decide_eq_false h57]; exact ht (by omega) (by omega) (by omega) (by omega) (by omega) (by omega)
section
variable (a b c d : Int)
theorem sA (i : Int) (x : Int) {r : Bool} (h0 : 0 ≤ i) (h4 : i < 4) (hx : rd [a, b, c, d] i = x) (hm : markP x = true) (h : Ev (fun k => F23.l1 k [a, b, c, d] i 0) r) : Ev (fun k => F23.l0 k [a, b, c, d] i) r := by
 refine Ev.step (fun k => F23.l0.eq_2 ..) (Ev.pos h4 (Ev.pos h0 (Ev.pos (by simp; omega) ?_)))
 rw [hx]
 exact Ev.bindc (l01Mark_eq x) (Ev.pos hm h)
theorem sA' (i : Int) (x : Int) (h0 : 0 ≤ i) (h4 : i < 4) (hx : rd [a, b, c, d] i = x) (hm : markP x = false) : Ev (fun k => F23.l0 k [a, b, c, d] i) false := by
 refine Ev.step (fun k => F23.l0.eq_2 ..) (Ev.pos h4 (Ev.pos h0 (Ev.pos (by simp; omega) ?_)))
 rw [hx]
 exact Ev.bindc (l01Mark_eq x) (Ev.neg (by simp [hm]) (Ev.now _))
theorem sA4 : Ev (fun k => F23.l0 k [a, b, c, d] 4) true := Ev.step (fun k => F23.l0.eq_2 ..) (Ev.neg (by omega) (Ev.now _))
theorem sB (i j : Int) (x y : Int) {r : Bool} (h0 : 0 ≤ j) (h : j < i) (h4 : i < 4) (hx : rd [a, b, c, d] j = x) (hy : rd [a, b, c, d] i = y) (hm : x ≠ y) (hn : Ev (fun k => F23.l1 k [a, b, c, d] i (j + 1)) r) : Ev (fun k => F23.l1 k [a, b, c, d] i j) r := by
 refine Ev.step (fun k => F23.l1.eq_2 ..) (Ev.pos h (Ev.pos h0 (Ev.pos (by simp; omega) (Ev.pos (by omega) (Ev.pos (by simp; omega) ?_)))))
 rw [hx, hy, wrap_id (by omega) (by omega)]
 exact Ev.neg hm hn
theorem sB' (i j : Int) (x y : Int) (h0 : 0 ≤ j) (h : j < i) (h4 : i < 4) (hx : rd [a, b, c, d] j = x) (hy : rd [a, b, c, d] i = y) (hm : x = y) : Ev (fun k => F23.l1 k [a, b, c, d] i j) false := by
 refine Ev.step (fun k => F23.l1.eq_2 ..) (Ev.pos h (Ev.pos h0 (Ev.pos (by simp; omega) (Ev.pos (by omega) (Ev.pos (by simp; omega) ?_)))))
 rw [hx, hy]
 exact Ev.pos hm (Ev.now _)
theorem sBe (i : Int) {r : Bool} (h0 : 0 ≤ i) (h4 : i < 4) (hn : Ev (fun k => F23.l0 k [a, b, c, d] (i + 1)) r) : Ev (fun k => F23.l1 k [a, b, c, d] i i) r := by
 refine Ev.step (fun k => F23.l1.eq_2 ..) (Ev.neg (by omega) ?_)
 rw [wrap_id (by omega) (by omega)]
 exact hn
theorem specSyntaxRight_ev : Ev (fun k => F23.f k a b c d) (synP a b c d) := by
 show Ev (fun k => F23.l0 k [a, b, c, d] 0) _
 have no_ : ∀ {g : Nat → Option Bool}, synP a b c d = false → Ev g false → Ev g (synP a b c d) := fun h e => by rw [h]; exact e
 by_cases m0 : markP a = true
 rotate_left
 ·exact no_ (by simp [synP, m0]) (sA' a b c d 0 a (by omega) (by omega) rfl (by simpa using m0))
 refine sA a b c d 0 a (by omega) (by omega) rfl m0 (sBe a b c d 0 (by omega) (by omega) ?_)
 by_cases m1 : markP b = true
 rotate_left
 ·exact no_ (by simp [synP, m1]) (sA' a b c d 1 b (by omega) (by omega) rfl (by simpa using m1))
 refine sA a b c d 1 b (by omega) (by omega) rfl m1 ?_
 by_cases e01 : a = b
 ·exact no_ (by simp [synP, e01]) (sB' a b c d 1 0 a b (by omega) (by omega) (by omega) rfl rfl e01)
 refine sB a b c d 1 0 a b (by omega) (by omega) (by omega) rfl rfl e01 (sBe a b c d 1 (by omega) (by omega) ?_)
 by_cases m2 : markP c = true
 rotate_left
 ·exact no_ (by simp [synP, m2]) (sA' a b c d 2 c (by omega) (by omega) rfl (by simpa using m2))
 refine sA a b c d 2 c (by omega) (by omega) rfl m2 ?_
 by_cases e02 : a = c
 ·exact no_ (by simp [synP, e02]) (sB' a b c d 2 0 a c (by omega) (by omega) (by omega) rfl rfl e02)
 refine sB a b c d 2 0 a c (by omega) (by omega) (by omega) rfl rfl e02 ?_
 by_cases e12 : b = c
 ·exact no_ (by simp [synP, e12]) (sB' a b c d 2 1 b c (by omega) (by omega) (by omega) rfl rfl e12)
 refine sB a b c d 2 1 b c (by omega) (by omega) (by omega) rfl rfl e12 (sBe a b c d 2 (by omega) (by omega) ?_)
 by_cases m3 : markP d = true
 rotate_left
 ·exact no_ (by simp [synP, m3]) (sA' a b c d 3 d (by omega) (by omega) rfl (by simpa using m3))
 refine sA a b c d 3 d (by omega) (by omega) rfl m3 ?_
 by_cases e03 : a = d
 ·exact no_ (by simp [synP, e03]) (sB' a b c d 3 0 a d (by omega) (by omega) (by omega) rfl rfl e03)
 refine sB a b c d 3 0 a d (by omega) (by omega) (by omega) rfl rfl e03 ?_
 by_cases e13 : b = d
 ·exact no_ (by simp [synP, e13]) (sB' a b c d 3 1 b d (by omega) (by omega) (by omega) rfl rfl e13)
 refine sB a b c d 3 1 b d (by omega) (by omega) (by omega) rfl rfl e13 ?_
 by_cases e23 : c = d
 ·exact no_ (by simp [synP, e23]) (sB' a b c d 3 2 c d (by omega) (by omega) (by omega) rfl rfl e23)
 refine sB a b c d 3 2 c d (by omega) (by omega) (by omega) rfl rfl e23 (sBe a b c d 3 (by omega) (by omega) ?_)
 rw [synP_iff.2 ⟨m0, m1, m2, m3, e01, e02, e12, e03, e13, e23⟩]
 exact sA4 a b c d
end
section
variable (a b c d : Int)
theorem iA (i : Int) (x : Int) (pre : List Int) {r : Bool} (h0 : 0 ≤ i) (h4 : i < 4) (hx : rd [a, b, c, d] i = x) (hp : [a, b, c, d].take i.toNat = pre) (hm : markP x = true) (hc : pre.contains x = false) (h : Ev (fun k => F60.l0 k [a, b, c, d] [a, b, c, d] 4 (i + 1)) r) :
  Ev (fun k => F60.l0 k [a, b, c, d] [a, b, c, d] 4 i) r := by
 have hm' := markP_iff.1 hm
 refine Ev.step (fun k => F60.l0.eq_2 ..) (Ev.pos h4 (Ev.pos h0 (Ev.pos (by simp; omega) ?_)))
 rw [hx, hp]
 refine Ev.bindc (within_eq _ _ _) (Ev.pos (by simp [withinP]; omega) (Ev.pos (by simp; omega) ?_))
 refine Ev.bind (contains_ev pre x (by rw [← hp]; simp; omega)) ?_
 rw [hc]
 refine Ev.step (fun k => F60.j1.eq_2 ..) (Ev.neg (by simp) ?_)
 have e : x % 256 = x := by omega
 rw [e, wrap_id (by omega) (by omega)]
 refine Ev.bindc (isGreat_eq x) (Ev.neg (by simp [great]; omega) ?_)
 refine Ev.ite (fun _ => Ev.neg (by omega) ?_) (fun _ => ?_)
 ·exact Ev.bindc (isDigit_eq x) (Ev.neg (by simp [digit]; omega) (Ev.neg (by omega) h))
 ·exact Ev.bindc (isDigit_eq x) (Ev.neg (by simp [digit]; omega) (Ev.neg (by omega) h))
theorem iA' (i : Int) (x : Int) (pre : List Int) (h0 : 0 ≤ i) (h4 : i < 4) (hx : rd [a, b, c, d] i = x) (hp : [a, b, c, d].take i.toNat = pre) (hm : markP x = false ∨ pre.contains x = true) :
  Ev (fun k => F60.l0 k [a, b, c, d] [a, b, c, d] 4 i) false := by
 refine Ev.step (fun k => F60.l0.eq_2 ..) (Ev.pos h4 (Ev.pos h0 (Ev.pos (by simp; omega) ?_)))
 rw [hx, hp]
 have hj : Ev (fun k => F60.j1 k [a, b, c, d] x [a, b, c, d] 4 i true) false := Ev.step (fun k => F60.j1.eq_2 ..) (Ev.pos rfl (Ev.now _))
 refine Ev.bindc (within_eq _ _ _) (Ev.ite (fun w => ?_) (fun _ => hj))
 simp only [withinP, decide_eq_true_eq] at w
 refine Ev.pos (by simp; omega) (Ev.bind (contains_ev pre x (by rw [← hp]; simp; omega)) ?_)
 by_cases hc : pre.contains x = true
 ·rw [hc]; exact hj
 ·have hm0 : markP x = false := by
   rcases hm with h | h
   ·exact h
   ·exact absurd h hc
  rw [show pre.contains x = false from by simpa using hc]
  have hn : ¬ (33 ≤ x ∧ x ≤ 126 ∧ x ≠ 45 ∧ ¬ (65 ≤ x ∧ x ≤ 90) ∧ ¬ (97 ≤ x ∧ x ≤ 122) ∧ ¬ (48 ≤ x ∧ x ≤ 57)) := markP_not.1 hm0
  have e : x % 256 = x := by omega
  refine Ev.step (fun k => F60.j1.eq_2 ..) (Ev.neg (by simp) ?_)
  rw [e]
  refine Ev.bindc (isGreat_eq x) (Ev.ite (fun _ => Ev.now _) (fun g1 => ?_))
  simp only [great, decide_eq_true_eq] at g1
  refine Ev.ite (fun g2 => Ev.ite (fun _ => Ev.now _) (fun g3 => ?_)) (fun g2 => ?_)
  ·refine Ev.bindc (isDigit_eq x) (Ev.ite (fun _ => Ev.now _) (fun g4 => Ev.ite (fun _ => Ev.now _) (fun g5 => ?_)))
   simp only [digit, decide_eq_true_eq] at g4
   exact absurd (show 33 ≤ x ∧ x ≤ 126 ∧ x ≠ 45 ∧ ¬ (65 ≤ x ∧ x ≤ 90) ∧ ¬ (97 ≤ x ∧ x ≤ 122) ∧ ¬ (48 ≤ x ∧ x ≤ 57) by omega) hn
  ·refine Ev.bindc (isDigit_eq x) (Ev.ite (fun _ => Ev.now _) (fun g4 => Ev.ite (fun _ => Ev.now _) (fun g5 => ?_)))
   simp only [digit, decide_eq_true_eq] at g4
   exact absurd (show 33 ≤ x ∧ x ≤ 126 ∧ x ≠ 45 ∧ ¬ (65 ≤ x ∧ x ≤ 90) ∧ ¬ (97 ≤ x ∧ x ≤ 122) ∧ ¬ (48 ≤ x ∧ x ≤ 57) by omega) hn
theorem implSyntaxRight_ev : Ev (fun k => F60.f k a b c d) (synP a b c d) := by
 unfold F60.f
 refine Ev.bindc (show F102.f a b c d = some [a, b, c, d] from rfl) ?_
 show Ev (fun k => F60.l0 k [a, b, c, d] [a, b, c, d] 4 0) _
 have no_ : ∀ {g : Nat → Option Bool}, synP a b c d = false → Ev g false → Ev g (synP a b c d) := fun h e => by rw [h]; exact e
 by_cases m0 : markP a = true
 rotate_left
 ·exact no_ (by simp [synP, m0]) (iA' a b c d 0 a [] (by omega) (by omega) rfl rfl (.inl (by simpa using m0)))
 refine iA a b c d 0 a [] (by omega) (by omega) rfl rfl m0 rfl ?_
 by_cases m1 : markP b = true ∧ a ≠ b
 rotate_left
 ·exact no_ (by simp only [not_and, Decidable.not_not] at m1; simp only [synP, Bool.and_eq_false_iff, decide_eq_false_iff_not]; by_cases h : markP b = true <;> simp_all) (iA' a b c d 1 b [a] (by omega) (by omega) rfl rfl (by by_cases h : markP b = true <;> simp_all))
 refine iA a b c d 1 b [a] (by omega) (by omega) rfl rfl m1.1 (by simpa using fun h => m1.2 h.symm) ?_
 by_cases m2 : markP c = true ∧ a ≠ c ∧ b ≠ c
 rotate_left
 ·exact no_ (by by_cases h : markP c = true <;> by_cases h1 : a = c <;> by_cases h2 : b = c <;> simp_all [synP]) (iA' a b c d 2 c [a, b] (by omega) (by omega) rfl rfl (by by_cases h : markP c = true <;> by_cases h1 : a = c <;> by_cases h2 : b = c <;> simp_all))
 refine iA a b c d 2 c [a, b] (by omega) (by omega) rfl rfl m2.1 (by simpa using ⟨fun h => m2.2.1 h.symm, fun h => m2.2.2 h.symm⟩) ?_
 by_cases m3 : markP d = true ∧ a ≠ d ∧ b ≠ d ∧ c ≠ d
 rotate_left
 ·exact no_ (by by_cases h : markP d = true <;> by_cases h1 : a = d <;> by_cases h2 : b = d <;> by_cases h3 : c = d <;> simp_all [synP]) (iA' a b c d 3 d [a, b, c] (by omega) (by omega) rfl rfl (by by_cases h : markP d = true <;> by_cases h1 : a = d <;> by_cases h2 : b = d <;> by_cases h3 : c = d <;> simp_all))
 refine iA a b c d 3 d [a, b, c] (by omega) (by omega) rfl rfl m3.1 (by simpa using ⟨fun h => m3.2.1 h.symm, fun h => m3.2.2.1 h.symm, fun h => m3.2.2.2 h.symm⟩) ?_
 rw [synP_iff.2 ⟨m0, m1.1, m2.1, m3.1, m1.2, m2.2.1, m2.2.2, m3.2.1, m3.2.2.1, m3.2.2.2⟩]
 exact Ev.step (fun k => F60.l0.eq_2 ..) (Ev.neg (by omega) (Ev.now _))
end
theorem longText_loop (l : List ByteArray) (hl : (l.length : Int) ≤ 4611686018427387904) : ∀ (r : List ByteArray) (i : Nat), l.drop i = r → ∃ x : Int, Ev (fun k => F111a.l0 k l (l.length : Int) (i : Int)) x ∧ decide (x ≥ 0) = r.any (fun s => decide ((s.size : Int) > 20000)) := by
 intro r
 induction r with
 | nil =>
  intro i h
  have h0 := ldrop_nil h
  exact ⟨-1, Ev.step (fun k => F111a.l0.eq_2 ..) (Ev.neg (by omega) (Ev.now _)), by simp⟩
 | cons c r ih =>
  intro i h
  obtain ⟨h1, h2, h3⟩ := rdOf_cons ByteArray.empty h
  have hw : wrap64 ((i : Int) + 1) = ((i + 1 : Nat) : Int) := by rw [wrap_id (by omega) (by omega)]; omega
  obtain ⟨x, hx, he⟩ := ih (i + 1) h3
  by_cases hv : (c.size : Int) > 20000
  ·refine ⟨i, Ev.step (fun k => F111a.l0.eq_2 ..) (Ev.pos h1 (Ev.pos (by omega) (Ev.pos h1 ?_))), by simp [hv]⟩
   rw [h2]
   exact Ev.bindc (show F100.f c = some true from by simp [F100.f, hv]) (Ev.pos rfl (Ev.now _))
  ·refine ⟨x, Ev.step (fun k => F111a.l0.eq_2 ..) (Ev.pos h1 (Ev.pos (by omega) (Ev.pos h1 ?_))), by rw [he]; simp [hv]⟩
   rw [h2, hw]
   exact Ev.bindc (show F100.f c = some false from by simp only [F100.f, decide_eq_false hv]) (Ev.neg (by simp) hx)
theorem longText_any (l : List ByteArray) (hl : (l.length : Int) ≤ 4611686018427387904) : Ev (fun k => F58.f k l) (l.any (fun s => decide ((s.size : Int) > 20000))) := by
 obtain ⟨x, h1, h2⟩ := longText_loop l hl l 0 rfl
 unfold F58.f F80a.f
 exact Ev.bind (Ev.bind (show Ev (fun k => F111a.f k l) x from h1) (Ev.now _)) (Ev.ret h2)
theorem longText_ev (s : ByteArray) : Ev (fun k => F58.f k [s]) (decide ((s.size : Int) > 20000)) := (longText_any [s] (by simp)).to (by simp)
def ownP (a b c d x : Int) : Bool := decide (x = a ∨ x = b ∨ x = c ∨ x = d)
theorem isOne_ev (a b c d x : Int) (h0 : 0 ≤ x) (h1 : x ≤ 255) : Ev (fun k => F106.f k a b c d x) (ownP a b c d x) := by
 unfold F106.f
 refine Ev.bindc (show F102.f a b c d = some [a, b, c, d] from rfl) ?_
 rw [wrap_id (by omega) (by omega)]
 refine Ev.bind (contains_ev [a, b, c, d] x (by simp)) (Ev.ret ?_)
 by_cases h : x = a
 ·simp [ownP, h]
 ·by_cases h2 : x = b
  ·simp [ownP, h2]
  ·by_cases h3 : x = c <;> by_cases h4 : x = d <;> simp [ownP, h, h2, h3, h4]
theorem l01Own_eq (a b c d x : Int) (h0 : 0 ≤ x) (h1 : x ≤ 255) : F62.f a b c d x = some (ownP a b c d x) := by
 unfold F62.f ownP
 rw [wrap_id (by omega) (by omega)]
 by_cases h : x = a
 ·simp [h]
 ·by_cases h2 : x = b
  ·simp [h2]
  ·by_cases h3 : x = c
   ·simp [h3]
   ·simp only [h, h2, h3, if_false, false_or]
    congr 1
def unL (a b c d : Int) : List Int → Int → Int ⊕ List Int
 | [], _ => .inr []
 | [x], i => if ownP a b c d x then .inl i else .inr [x]
 | x :: y :: r, i => if ownP a b c d x then (if x = d then (if ownP a b c d y then (unL a b c d r (i + 2)).map id (y :: ·) else .inl i) else .inl i) else (unL a b c d (y :: r) (i + 1)).map id (x :: ·)
theorem unL_plain (a b c d x : Int) (r : List Int) (i : Int) (h : ownP a b c d x = false) : unL a b c d (x :: r) i = (unL a b c d r (i + 1)).map id (x :: ·) := by
 cases r <;> simp [unL, h]
theorem ownP_d (a b c d : Int) : ownP a b c d d = true := by simp [ownP]
def hdP (v : List Int) : List (List Int) → List (List Int)
 | [] => [v]
 | h :: t => (v ++ h) :: t
def cutL (d m : Int) : List Int → List (List Int)
 | [] => [[]]
 | [x] => if x = d then [[x]] else if x = m then [[], []] else [[x]]
 | x :: y :: r => if x = d then hdP [x, y] (cutL d m r) else if x = m then [] :: cutL d m (y :: r) else hdP [x] (cutL d m (y :: r))
theorem hdP_ne (v : List Int) (L : List (List Int)) : hdP v L ≠ [] := by cases L <;> simp [hdP]
theorem cutL_ne (d m : Int) : ∀ l, cutL d m l ≠ []
 | [] => by simp [cutL]
 | [x] => by unfold cutL; split <;> (try split) <;> simp
 | x :: y :: r => by
  unfold cutL
  split
  ·exact hdP_ne _ _
  ·split
   ·simp
   ·exact hdP_ne _ _
theorem hdP_nil {L : List (List Int)} (h : L ≠ []) : hdP [] L = L := by
 cases L with
 | nil => exact absurd rfl h
 | cons a t => simp [hdP]
theorem hdP_hdP (u v : List Int) {L : List (List Int)} : hdP u (hdP v L) = hdP (u ++ v) L := by
 cases L <;> simp [hdP]
theorem cutL_rel (d m x y : Int) (r : List Int) (h : x = d) : cutL d m (x :: y :: r) = hdP [x, y] (cutL d m r) := by simp [cutL, h]
theorem cutL_by (d m x : Int) (r : List Int) (h : x ≠ d) (h2 : x = m) : cutL d m (x :: r) = [] :: cutL d m r := by
 cases r <;> simp [cutL, h, h2] <;> (intro e; exact absurd (h2.trans e) h)
theorem cutL_else (d m x : Int) (r : List Int) (h : x ≠ d) (h2 : x ≠ m) : cutL d m (x :: r) = hdP [x] (cutL d m r) := by
 cases r <;> simp [cutL, h, h2, hdP]
theorem seg_take (l : List Int) (f i : Nat) (x : Int) (r : List Int) (h : l.drop i = x :: r) (hf : f ≤ i) : (l.take (i + 1)).drop f = (l.take i).drop f ++ [x] := by
 have hl : i < l.length := by
  by_cases hl : i < l.length
  ·exact hl
  ·rw [List.drop_eq_nil_of_le (by omega)] at h; cases h
 have h1 := List.drop_eq_getElem_cons hl
 rw [h] at h1
 have hx : l[i] = x := (List.cons.inj h1).1.symm
 rw [List.take_succ_eq_append_getElem hl, List.drop_append_of_le_length (by simp; omega), hx]
theorem extract_eq (s : ByteArray) (f i : Nat) : s.extract f i = strOfNums (((bytesOf s).take i).drop f) := by
 apply bytesOf_inj
 rw [bytesOf_extract, bytesOf_strOf]
 intro c hc
 exact mem_bytesOf (List.mem_of_mem_take (List.mem_of_mem_drop hc))
def escL (a b c d : Int) : List Int → List Int
 | [] => []
 | x :: r => if ownP a b c d x then d % 256 :: x :: escL a b c d r else x :: escL a b c d r
theorem escL_length (a b c d : Int) : ∀ l : List Int, (escL a b c d l).length ≤ 2 * l.length
 | [] => by simp [escL]
 | x :: r => by
  have := escL_length a b c d r
  unfold escL
  split <;> simp <;> omega
theorem specEscape_loop (a b c d : Int) (s : ByteArray) (hs : s.size ≤ 1048576) : ∀ (l : List Int) (i : Nat) (p : List Int), (bytesOf s).drop i = l → p.length ≤ 2 * i → i ≤ s.size →
  Ev (fun k => F85.l0 k s p (i : Int) a b c d) (strOfNums (p ++ escL a b c d l)) := by
 intro l
 induction l with
 | nil =>
  intro i p h hp hi
  have h0 := drop_nil h
  exact Ev.step (fun k => F85.l0.eq_2 ..) (Ev.neg (by omega) (Ev.ret (by simp [escL])))
 | cons x r ih =>
  intro i p h hp hi
  obtain ⟨h1, h2, h3, h4, h5⟩ := drop_cons h
  have hw : wrap64 ((i : Int) + 1) = ((i + 1 : Nat) : Int) := by rw [wrap_id (by omega) (by omega)]; omega
  refine Ev.step (fun k => F85.l0.eq_2 ..) (Ev.pos h1 (Ev.pos (by omega) ?_))
  rw [h2, hw]
  refine Ev.bindc (l01Own_eq a b c d x h4 h5) ?_
  by_cases ho : ownP a b c d x = true
  ·refine Ev.pos ho (Ev.pos (by omega) (Ev.bindc rfl (Ev.pos (by simp; omega) ?_)))
   exact (ih (i + 1) _ h3 (by simp; omega) (by omega)).to (by simp [escL, ho])
  ·refine Ev.neg ho (Ev.pos (by omega) ?_)
   exact (ih (i + 1) _ h3 (by simp; omega) (by omega)).to (by simp [escL, ho])
theorem specEscape_ev (a b c d : Int) (s : ByteArray) (hs : s.size ≤ 1048576) : Ev (fun k => F85.f k a b c d s) (strOfNums (escL a b c d (bytesOf s))) :=
 (specEscape_loop a b c d s hs _ 0 [] rfl (by simp) (by omega)).to (by simp)
theorem implEscaped_loop (a b c d : Int) (s : ByteArray) (hs : s.size ≤ 1048576) : ∀ (l : List Int) (i : Nat) (p : List Int), (bytesOf s).drop i = l → p.length ≤ 2 * i → i ≤ s.size →
  Ev (fun k => F73.l0 k s p (s.size : Int) (i : Int) a b c d) (strOfNums (p ++ escL a b c d l)) := by
 intro l
 induction l with
 | nil =>
  intro i p h hp hi
  have h0 := drop_nil h
  exact Ev.step (fun k => F73.l0.eq_2 ..) (Ev.neg (by omega) (Ev.ret (by simp [escL])))
 | cons x r ih =>
  intro i p h hp hi
  obtain ⟨h1, h2, h3, h4, h5⟩ := drop_cons h
  have hw : wrap64 ((i : Int) + 1) = ((i + 1 : Nat) : Int) := by rw [wrap_id (by omega) (by omega)]; omega
  refine Ev.step (fun k => F73.l0.eq_2 ..) (Ev.pos h1 (Ev.pos (by omega) (Ev.pos h1 ?_)))
  rw [h2, hw]
  refine Ev.bind (isOne_ev a b c d x h4 h5) ?_
  by_cases ho : ownP a b c d x = true
  ·refine Ev.pos ho (Ev.pos (by omega) (Ev.bindc rfl (Ev.pos (by simp; omega) ?_)))
   exact (ih (i + 1) _ h3 (by simp; omega) (by omega)).to (by simp [escL, ho])
  ·refine Ev.neg ho (Ev.pos (by omega) ?_)
   exact (ih (i + 1) _ h3 (by simp; omega) (by omega)).to (by simp [escL, ho])
theorem implEscaped_ev (a b c d : Int) (s : ByteArray) (hs : s.size ≤ 1048576) : Ev (fun k => F73.f k a b c d s) (strOfNums (escL a b c d (bytesOf s))) :=
 (implEscaped_loop a b c d s hs _ 0 [] rfl (by simp) (by omega)).to (by simp)
theorem cut_esc (a b c d m : Int) (hd : m ≠ d) (h2d : d % 256 = d) (hm : ownP a b c d m = true) (rest : List Int) (h : List Int) (t : List (List Int)) (he : cutL d m rest = h :: t) : ∀ l : List Int, cutL d m (escL a b c d l ++ rest) = (escL a b c d l ++ h) :: t
 | [] => by simpa [escL] using he
 | x :: r => by
  have ih := cut_esc a b c d m hd h2d hm rest h t he r
  unfold escL
  split
  ·rw [List.cons_append, List.cons_append, cutL_rel d m _ _ _ h2d, ih]
   rfl
  ·rename_i ho
   have h1 : x ≠ d := fun e => ho (by rw [e]; exact ownP_d a b c d)
   have h2 : x ≠ m := fun e => ho (by rw [e]; exact hm)
   rw [List.cons_append, cutL_else d m x _ h1 h2, ih]
   rfl
theorem un_esc (a b c d : Int) (h2d : d % 256 = d) : ∀ (l : List Int) (i : Int), unL a b c d (escL a b c d l) i = .inr l
 | [], i => rfl
 | x :: r, i => by
  unfold escL
  split
  ·rename_i ho
   have := un_esc a b c d h2d r (i + 2)
   rw [h2d]
   simp only [unL, ownP_d, if_true, ho, this]
   rfl
  ·rename_i ho
   rw [unL_plain a b c d x _ i (by simpa using ho), un_esc a b c d h2d r (i + 1)]
   rfl
theorem esc_mem (a b c d : Int) {y : Int} : ∀ l : List Int, y ∈ escL a b c d l → y = d % 256 ∨ y ∈ l
 | x :: r, h => by
  unfold escL at h
  split at h
  ·simp only [List.mem_cons] at h ⊢
   rcases h with h | h | h
   ·exact .inl h
   ·exact .inr (.inl h)
   ·rcases esc_mem a b c d r h with e | e
    ·exact .inl e
    ·exact .inr (.inr e)
  ·simp only [List.mem_cons] at h ⊢
   rcases h with h | h
   ·exact .inr (.inl h)
   ·rcases esc_mem a b c d r h with e | e
    ·exact .inl e
    ·exact .inr (.inr e)
theorem wi_ {i : Nat} (h : (i : Int) ≤ 4611686018427387904) : wrap64 ((i : Int) + 1) = ((i + 1 : Nat) : Int) := by rw [wrap_id (by omega) (by omega)]; omega
theorem specCut_loop (a b c d m : Int) (s : ByteArray) (hs : s.size ≤ 1048576) : ∀ (n : Nat) (l : List Int) (i f : Nat) (acc : List ByteArray), l.length ≤ n → (bytesOf s).drop i = l → f ≤ i → f ≤ s.size → i ≤ s.size + 1 → acc.length ≤ i →
  Ev (fun k => F68.l0 k s m acc (f : Int) (i : Int) a b c d) (acc ++ (hdP (((bytesOf s).take i).drop f) (cutL d m l)).map strOfNums) := by
 have hend : ∀ (i f : Nat) (acc : List ByteArray), (bytesOf s).drop i = [] → f ≤ i → f ≤ s.size → i ≤ s.size + 1 → acc.length ≤ i → Ev (fun k => F68.l0 k s m acc (f : Int) (i : Int) a b c d) (acc ++ (hdP (((bytesOf s).take i).drop f) (cutL d m [])).map strOfNums) := by
  intro i f acc h hf hf' hi ha
  have h0 := drop_nil h
  refine Ev.step (fun k => F68.l0.eq_2 ..) (Ev.neg (by omega) (Ev.pos (by omega) (Ev.pos (by omega) (Ev.pos (by omega) (Ev.ret ?_)))))
  rw [Int.toNat_natCast, extract_eq]
  rw [List.take_of_length_le (by rw [length_bytesOf]; omega), List.take_of_length_le (by rw [length_bytesOf]; omega)]
  simp [hdP, cutL]
 intro n
 induction n using Nat.strongRecOn with
 | _ n ih =>
  intro l i f acc hn h hf hf' hi ha
  match l, h, hn with
  | [], h, hn => exact hend i f acc h hf hf' hi ha
  | x :: r, h, hn =>
   obtain ⟨h1, h2, h3, h4, h5⟩ := drop_cons h
   have hw : wrap64 ((i : Int) + 1) = ((i + 1 : Nat) : Int) := by rw [wrap_id (by omega) (by omega)]; omega
   have hw2 : wrap64 (((i + 1 : Nat) : Int) + 1) = ((i + 2 : Nat) : Int) := by rw [wrap_id (by omega) (by omega)]; omega
   simp only [List.length_cons] at hn
   refine Ev.step (fun k => F68.l0.eq_2 ..) ?_
   refine Ev.pos h1 ?_
   refine Ev.pos (Int.natCast_nonneg i) ?_
   rw [h2, wrap_id (x := x) (by omega) (by omega), hw, hw2]
   clear hw hw2
   have e1 := seg_take (bytesOf s) f i x r h hf
   refine Ev.ite (fun g1 => ?_) (fun g1 => Ev.ite (fun g2 => ?_) (fun g2 => ?_))
   ·cases r with
    | nil =>
     have h6 : (bytesOf s).drop (i + 2) = [] := by
      have := drop_nil h3
      rw [List.drop_eq_nil_iff, length_bytesOf]; omega
     have h7 := hend (i + 2) f acc h6 (by omega) hf' (by omega) (by omega)
     refine h7.to ?_
     have e2 : (bytesOf s).take (i + 2) = (bytesOf s).take (i + 1) := by
      have := drop_nil h3
      rw [List.take_of_length_le (by rw [length_bytesOf]; omega), List.take_of_length_le (by rw [length_bytesOf]; omega)]
     rw [e2, e1]
     simp [cutL, g1, hdP]
    | cons y r' =>
     obtain ⟨g3, g4, g5, _, _⟩ := drop_cons h3
     simp only [List.length_cons] at hn
     have h7 := ih (n - 2) (by omega) r' (i + 2) f acc (by omega) g5 (by omega) hf' (by omega) (by omega)
     refine h7.to ?_
     have e2 := seg_take (bytesOf s) f (i + 1) y r' h3 (by omega)
     rw [e2, e1, cutL_rel d m x y r' g1, hdP_hdP]
     simp
   ·refine Ev.pos (Int.natCast_nonneg f) ?_
    refine Ev.pos (show (f : Int) ≤ (i : Int) by omega) ?_
    refine Ev.pos (show (i : Int) ≤ (s.size : Int) by omega) ?_
    refine Ev.pos (show acc.length < 8796093022208 by omega) ?_
    have h7 := ih (n - 1) (by omega) r (i + 1) (i + 1) (acc ++ [s.extract (f : Int).toNat (i : Int).toNat]) (by omega) h3 (by omega) (by omega) (by omega) (by simp; omega)
    refine h7.to ?_
    rw [cutL_by d m x r g1 g2, Int.toNat_natCast, Int.toNat_natCast, extract_eq]
    have e3 : ((bytesOf s).take (i + 1)).drop (i + 1) = [] := by rw [List.drop_eq_nil_iff]; simp; omega
    rw [e3, hdP_nil (cutL_ne d m r)]
    simp [hdP]
   ·have h7 := ih (n - 1) (by omega) r (i + 1) f acc (by omega) h3 (by omega) hf' (by omega) (by omega)
    refine h7.to ?_
    rw [e1, cutL_else d m x r g1 g2, hdP_hdP]
theorem specCut_ev (a b c d m : Int) (s : ByteArray) (hs : s.size ≤ 1048576) : Ev (fun k => F68.f k a b c d s m) ((cutL d m (bytesOf s)).map strOfNums) :=
 (specCut_loop a b c d m s hs _ _ 0 0 [] (Nat.le_refl _) rfl (by omega) (by omega) (by omega) (by simp)).to (by simp [hdP_nil (cutL_ne d m _)])
theorem specUn_loop (a b c d : Int) (s : ByteArray) (hs : s.size ≤ 1048576) : ∀ (n : Nat) (l : List Int) (i : Nat) (p : List Int), l.length ≤ n → (bytesOf s).drop i = l → i ≤ s.size → p.length ≤ i →
  Ev (fun k => F18.l0 k s p (i : Int) a b c d) (match unL a b c d l (i : Int) with | .inl q => ((⟨#[]⟩ : ByteArray), q, 3) | .inr t => (strOfNums (p ++ t), 0, 0)) := by
 intro n
 induction n using Nat.strongRecOn with
 | _ n ih =>
  intro l i p hn h hi hp
  match l, h, hn with
  | [], h, hn =>
   have h0 := drop_nil h
   exact Ev.step (fun k => F18.l0.eq_2 ..) (Ev.neg (by omega) (Ev.ret (by simp [unL])))
  | x :: r, h, hn =>
   obtain ⟨h1, h2, h3, h4, h5⟩ := drop_cons h
   have hw : wrap64 ((i : Int) + 1) = ((i + 1 : Nat) : Int) := by rw [wrap_id (by omega) (by omega)]; omega
   have hw2 : wrap64 (((i + 1 : Nat) : Int) + 1) = ((i + 2 : Nat) : Int) := by rw [wrap_id (by omega) (by omega)]; omega
   have hw3 : wrap64 (((i + 1 : Nat) : Int) - 1) = (i : Int) := by rw [wrap_id (by omega) (by omega)]; omega
   simp only [List.length_cons] at hn
   have plain : ownP a b c d x = false → Ev (fun k => if p.length < 140737488355328 then (F18.l0 k s (p ++ [x]) ((i + 1 : Nat) : Int) a b c d) else none) (match unL a b c d (x :: r) (i : Int) with | .inl q => ((⟨#[]⟩ : ByteArray), q, 3) | .inr t => (strOfNums (p ++ t), 0, 0)) := by
    intro ho
    refine Ev.pos (by omega) ?_
    have := ih (n - 1) (by omega) r (i + 1) (p ++ [x]) (by omega) h3 (by omega) (by simp; omega)
    refine this.to ?_
    rw [unL_plain a b c d x r (i : Int) ho, show ((i + 1 : Nat) : Int) = (i : Int) + 1 by omega]
    cases unL a b c d r ((i : Int) + 1) <;> simp
   have rel : x = d → Ev (fun k => if ((i + 1 : Nat) : Int) = (s.size : Int) then (some ((⟨#[]⟩ : ByteArray), (i : Int), 3)) else (if 0 ≤ ((i + 1 : Nat) : Int) then (if ((i + 1 : Nat) : Int) < (s.size : Int) then ((F62.f a b c d (bt s ((i + 1 : Nat) : Int))).bind fun t => (if t = true then (if p.length < 140737488355328 then (F18.l0 k s (p ++ [bt s ((i + 1 : Nat) : Int)]) ((i + 2 : Nat) : Int) a b c d) else (none)) else (some ((⟨#[]⟩ : ByteArray), (i : Int), 3)))) else (none)) else (none))) (match unL a b c d (x :: r) (i : Int) with | .inl q => ((⟨#[]⟩ : ByteArray), q, 3) | .inr t => (strOfNums (p ++ t), 0, 0)) := by
    intro g1
    have ho : ownP a b c d x = true := by rw [g1]; exact ownP_d a b c d
    match r, h3, hn, h with
    | [], h3, hn, h =>
     have := drop_nil h3
     exact Ev.pos (by omega) (Ev.ret (by simp [unL, ho]))
    | y :: r', h3, hn, h =>
     obtain ⟨g3, g4, g5, g6, g7⟩ := drop_cons h3
     simp only [List.length_cons] at hn
     refine Ev.neg (by omega) (Ev.pos (by omega) (Ev.pos (by omega) ?_))
     rw [g4]
     refine Ev.bindc (l01Own_eq a b c d y g6 g7) ?_
     refine Ev.ite (fun g8 => Ev.pos (by omega) ?_) (fun g8 => Ev.ret (by simp [unL, ho, g1, g8, ownP_d]))
     refine (ih (n - 2) (by omega) r' (i + 2) (p ++ [y]) (by omega) g5 (by omega) (by simp; omega)).to ?_
     simp only [unL, ho, g1, g8, if_true]
     rw [show ((i + 2 : Nat) : Int) = (i : Int) + 2 by omega, show ownP a b c d d = true from ownP_d a b c d]
     simp only [if_true]
     cases unL a b c d r' ((i : Int) + 2) <;> simp
   refine Ev.step (fun k => F18.l0.eq_2 ..) (Ev.pos h1 (Ev.pos (by omega) ?_))
   rw [h2, wrap_id (x := x) (by omega) (by omega), hw, hw2]
   refine Ev.bindc (l01Own_eq a b c d x h4 h5) (Ev.ite (fun ho => Ev.ite (fun g1 => rel g1) (fun g1 => Ev.ret ?_)) (fun ho => plain (by simpa using ho)))
   cases r <;> simp [unL, ho, g1]
theorem specUn_ev (a b c d : Int) (s : ByteArray) (hs : s.size ≤ 1048576) (hr : synP a b c d = true) (hl : ¬ (s.size : Int) > 20000) : Ev (fun k => F18.f k a b c d s) (match unL a b c d (bytesOf s) 0 with | .inl q => ((⟨#[]⟩ : ByteArray), q, 3) | .inr t => (strOfNums t, 0, 0)) := by
 unfold F18.f
 refine Ev.neg hl (Ev.bind (specSyntaxRight_ev a b c d) (Ev.pos hr ?_))
 refine (specUn_loop a b c d s hs _ _ 0 [] (Nat.le_refl _) rfl (by omega) (by simp)).to ?_
 rw [List.drop_zero]
 cases h : unL a b c d (bytesOf s) ((0 : Nat) : Int) <;> simp at h <;> simp [h]
theorem implCut_loop (a b c d m : Int) (s : ByteArray) (hs : s.size ≤ 1048576) : ∀ (n : Nat) (l : List Int) (i f : Nat) (acc : List ByteArray), l.length ≤ n → (bytesOf s).drop i = l → f ≤ i → f ≤ s.size → i ≤ s.size + 1 → acc.length ≤ i →
  Ev (fun k => F69.l0 k s m acc (f : Int) (i : Int) a b c d) (acc ++ (hdP (((bytesOf s).take i).drop f) (cutL d m l)).map strOfNums) := by
 have hend : ∀ (i f : Nat) (acc : List ByteArray), (bytesOf s).drop i = [] → f ≤ i → f ≤ s.size → i ≤ s.size + 1 → acc.length ≤ i → Ev (fun k => F69.l0 k s m acc (f : Int) (i : Int) a b c d) (acc ++ (hdP (((bytesOf s).take i).drop f) (cutL d m [])).map strOfNums) := by
  intro i f acc h hf hf' hi ha
  have h0 := drop_nil h
  refine Ev.step (fun k => F69.l0.eq_2 ..) (Ev.neg (by omega) (Ev.pos (by omega) (Ev.pos (by omega) (Ev.pos (by omega) (Ev.ret ?_)))))
  rw [Int.toNat_natCast, extract_eq]
  rw [List.take_of_length_le (by rw [length_bytesOf]; omega), List.take_of_length_le (by rw [length_bytesOf]; omega)]
  simp [hdP, cutL]
 intro n
 induction n using Nat.strongRecOn with
 | _ n ih =>
  intro l i f acc hn h hf hf' hi ha
  match l, h, hn with
  | [], h, hn => exact hend i f acc h hf hf' hi ha
  | x :: r, h, hn =>
   obtain ⟨h1, h2, h3, h4, h5⟩ := drop_cons h
   have hw : wrap64 ((i : Int) + 1) = ((i + 1 : Nat) : Int) := by rw [wrap_id (by omega) (by omega)]; omega
   have hw2 : wrap64 (((i + 1 : Nat) : Int) + 1) = ((i + 2 : Nat) : Int) := by rw [wrap_id (by omega) (by omega)]; omega
   simp only [List.length_cons] at hn
   refine Ev.step (fun k => F69.l0.eq_2 ..) ?_
   refine Ev.pos h1 ?_
   refine Ev.pos (Int.natCast_nonneg i) ?_
   rw [h2, wrap_id (x := x) (by omega) (by omega), hw, hw2]
   clear hw hw2
   have e1 := seg_take (bytesOf s) f i x r h hf
   refine Ev.ite (fun g1 => ?_) (fun g1 => Ev.ite (fun g2 => ?_) (fun g2 => ?_))
   ·cases r with
    | nil =>
     have h6 : (bytesOf s).drop (i + 2) = [] := by
      have := drop_nil h3
      rw [List.drop_eq_nil_iff, length_bytesOf]; omega
     have h7 := hend (i + 2) f acc h6 (by omega) hf' (by omega) (by omega)
     refine h7.to ?_
     have e2 : (bytesOf s).take (i + 2) = (bytesOf s).take (i + 1) := by
      have := drop_nil h3
      rw [List.take_of_length_le (by rw [length_bytesOf]; omega), List.take_of_length_le (by rw [length_bytesOf]; omega)]
     rw [e2, e1]
     simp [cutL, g1, hdP]
    | cons y r' =>
     obtain ⟨g3, g4, g5, _, _⟩ := drop_cons h3
     simp only [List.length_cons] at hn
     have h7 := ih (n - 2) (by omega) r' (i + 2) f acc (by omega) g5 (by omega) hf' (by omega) (by omega)
     refine h7.to ?_
     have e2 := seg_take (bytesOf s) f (i + 1) y r' h3 (by omega)
     rw [e2, e1, cutL_rel d m x y r' g1, hdP_hdP]
     simp
   ·refine Ev.pos (Int.natCast_nonneg f) ?_
    refine Ev.pos (show (f : Int) ≤ (i : Int) by omega) ?_
    refine Ev.pos (show (i : Int) ≤ (s.size : Int) by omega) ?_
    refine Ev.pos (show acc.length < 8796093022208 by omega) ?_
    have h7 := ih (n - 1) (by omega) r (i + 1) (i + 1) (acc ++ [s.extract (f : Int).toNat (i : Int).toNat]) (by omega) h3 (by omega) (by omega) (by omega) (by simp; omega)
    refine h7.to ?_
    rw [cutL_by d m x r g1 g2, Int.toNat_natCast, Int.toNat_natCast, extract_eq]
    have e3 : ((bytesOf s).take (i + 1)).drop (i + 1) = [] := by rw [List.drop_eq_nil_iff]; simp; omega
    rw [e3, hdP_nil (cutL_ne d m r)]
    simp [hdP]
   ·have h7 := ih (n - 1) (by omega) r (i + 1) f acc (by omega) h3 (by omega) hf' (by omega) (by omega)
    refine h7.to ?_
    rw [e1, cutL_else d m x r g1 g2, hdP_hdP]
theorem implCut_ev (a b c d m : Int) (s : ByteArray) (hs : s.size ≤ 1048576) : Ev (fun k => F69.f k a b c d s m) ((cutL d m (bytesOf s)).map strOfNums) :=
 (implCut_loop a b c d m s hs _ _ 0 0 [] (Nat.le_refl _) rfl (by omega) (by omega) (by omega) (by simp)).to (by simp [hdP_nil (cutL_ne d m _)])
theorem implUn_loop (a b c d : Int) (s : ByteArray) (hs : s.size ≤ 1048576) : ∀ (n : Nat) (l : List Int) (i : Nat) (p : List Int), l.length ≤ n → (bytesOf s).drop i = l → i ≤ s.size → p.length ≤ i →
  Ev (fun k => F63.l0 k s p (i : Int) a b c d) (match unL a b c d l (i : Int) with | .inl q => ((⟨#[]⟩ : ByteArray), q) | .inr t => (strOfNums (p ++ t), (-1))) := by
 intro n
 induction n using Nat.strongRecOn with
 | _ n ih =>
  intro l i p hn h hi hp
  match l, h, hn with
  | [], h, hn =>
   have h0 := drop_nil h
   exact Ev.step (fun k => F63.l0.eq_2 ..) (Ev.neg (by omega) (Ev.ret (by simp [unL])))
  | x :: r, h, hn =>
   obtain ⟨h1, h2, h3, h4, h5⟩ := drop_cons h
   have hw : wrap64 ((i : Int) + 1) = ((i + 1 : Nat) : Int) := by rw [wrap_id (by omega) (by omega)]; omega
   have hw2 : wrap64 (((i + 1 : Nat) : Int) + 1) = ((i + 2 : Nat) : Int) := by rw [wrap_id (by omega) (by omega)]; omega
   have hw3 : wrap64 (((i + 1 : Nat) : Int) - 1) = (i : Int) := by rw [wrap_id (by omega) (by omega)]; omega
   simp only [List.length_cons] at hn
   have plain : ownP a b c d x = false → Ev (fun k => if p.length < 140737488355328 then (F63.l0 k s (p ++ [x]) ((i + 1 : Nat) : Int) a b c d) else none) (match unL a b c d (x :: r) (i : Int) with | .inl q => ((⟨#[]⟩ : ByteArray), q) | .inr t => (strOfNums (p ++ t), (-1))) := by
    intro ho
    refine Ev.pos (by omega) ?_
    have := ih (n - 1) (by omega) r (i + 1) (p ++ [x]) (by omega) h3 (by omega) (by simp; omega)
    refine this.to ?_
    rw [unL_plain a b c d x r (i : Int) ho, show ((i + 1 : Nat) : Int) = (i : Int) + 1 by omega]
    cases unL a b c d r ((i : Int) + 1) <;> simp
   have rel : x = d → Ev (fun k => if ((i + 1 : Nat) : Int) = (s.size : Int) then (some ((⟨#[]⟩ : ByteArray), (i : Int))) else (if 0 ≤ ((i + 1 : Nat) : Int) then (if ((i + 1 : Nat) : Int) < (s.size : Int) then ((F106.f k a b c d (bt s ((i + 1 : Nat) : Int))).bind fun t => (if t = true then (if p.length < 140737488355328 then (F63.l0 k s (p ++ [bt s ((i + 1 : Nat) : Int)]) ((i + 2 : Nat) : Int) a b c d) else (none)) else (some ((⟨#[]⟩ : ByteArray), (i : Int))))) else (none)) else (none))) (match unL a b c d (x :: r) (i : Int) with | .inl q => ((⟨#[]⟩ : ByteArray), q) | .inr t => (strOfNums (p ++ t), (-1))) := by
    intro g1
    have ho : ownP a b c d x = true := by rw [g1]; exact ownP_d a b c d
    match r, h3, hn, h with
    | [], h3, hn, h =>
     have := drop_nil h3
     exact Ev.pos (by omega) (Ev.ret (by simp [unL, ho]))
    | y :: r', h3, hn, h =>
     obtain ⟨g3, g4, g5, g6, g7⟩ := drop_cons h3
     simp only [List.length_cons] at hn
     refine Ev.neg (by omega) (Ev.pos (by omega) (Ev.pos (by omega) ?_))
     rw [g4]
     refine Ev.bind (isOne_ev a b c d y g6 g7) ?_
     refine Ev.ite (fun g8 => Ev.pos (by omega) ?_) (fun g8 => Ev.ret (by simp [unL, ho, g1, g8, ownP_d]))
     refine (ih (n - 2) (by omega) r' (i + 2) (p ++ [y]) (by omega) g5 (by omega) (by simp; omega)).to ?_
     simp only [unL, ho, g1, g8, if_true]
     rw [show ((i + 2 : Nat) : Int) = (i : Int) + 2 by omega, show ownP a b c d d = true from ownP_d a b c d]
     simp only [if_true]
     cases unL a b c d r' ((i : Int) + 2) <;> simp
   refine Ev.step (fun k => F63.l0.eq_2 ..) (Ev.pos h1 (Ev.pos (by omega) ?_))
   rw [h2, wrap_id (x := x) (by omega) (by omega), hw, hw2, hw3]
   refine Ev.ite (fun g1 => rel g1) (fun g1 => Ev.bind (isOne_ev a b c d x h4 h5) (Ev.ite (fun ho => Ev.ret ?_) (fun ho => plain (by simpa using ho))))
   cases r <;> simp [unL, ho, g1]
theorem implUn_ev (a b c d : Int) (s : ByteArray) (hs : s.size ≤ 1048576) : Ev (fun k => F63.f k a b c d s) (match unL a b c d (bytesOf s) 0 with | .inl q => ((⟨#[]⟩ : ByteArray), q) | .inr t => (strOfNums t, (-1))) := by
 refine (implUn_loop a b c d s hs _ _ 0 [] (Nat.le_refl _) rfl (by omega) (by simp)).to ?_
 rw [List.drop_zero]
 cases h : unL a b c d (bytesOf s) ((0 : Nat) : Int) <;> simp at h <;> simp [h]
theorem unL_at (a b c d : Int) : ∀ (n : Nat) (l : List Int) (i q : Int), l.length ≤ n → unL a b c d l i = .inl q → i ≤ q ∧ q < i + (l.length : Int) := by
 intro n
 induction n using Nat.strongRecOn with
 | _ n ih =>
  intro l i q hn h
  match l, h, hn with
  | [], h, hn => simp [unL] at h
  | [x], h, hn =>
   simp only [unL] at h
   split at h
   ·have : i = q := by simpa using h
    subst this; simp; omega
   ·simp at h
  | x :: y :: r, h, hn =>
   simp only [List.length_cons] at hn ⊢
   simp only [unL] at h
   have hin : ∀ {z : Int}, (Sum.inl z : Int ⊕ List Int) = .inl q → z = q := fun e => by simpa using e
   split at h
   ·split at h
    ·split at h
     ·cases h2 : unL a b c d r (i + 2) with
      | inl z =>
       rw [h2] at h
       have := ih (n - 2) (by omega) r (i + 2) z (by omega) h2
       have hz : z = q := by simpa using h
       omega
      | inr t => rw [h2] at h; simp at h
     ·have := hin h; omega
    ·have := hin h; omega
   ·cases h2 : unL a b c d (y :: r) (i + 1) with
    | inl z =>
     rw [h2] at h
     have h3 := ih (n - 1) (by omega) (y :: r) (i + 1) z (by simp; omega) h2
     simp only [List.length_cons] at h3
     have hz : z = q := by simpa using h
     omega
    | inr t => rw [h2] at h; simp at h
def printB (c : Int) : Bool := decide (32 ≤ c ∧ c ≤ 126)
def partB (s : ByteArray) : Bool := decide (s.size ≤ 40) && (bytesOf s).all printB
def tagB (s : ByteArray) : Bool := decide (s.size = 3) && (bytesOf s).all great
theorem specPart_loop (s : ByteArray) (hs : s.size ≤ 1048576) : ∀ (l : List Int) (i : Nat), (bytesOf s).drop i = l → Ev (fun k => F76.l0 k s (i : Int)) (l.all printB) := by
 intro l
 induction l with
 | nil =>
  intro i h
  have h0 := drop_nil h
  exact Ev.step (fun k => F76.l0.eq_2 ..) (Ev.neg (by omega) (Ev.now _))
 | cons c r ih =>
  intro i h
  obtain ⟨h1, h2, h3, h4, h5⟩ := drop_cons h
  refine Ev.step (fun k => F76.l0.eq_2 ..) (Ev.pos h1 (Ev.pos (by omega) ?_))
  rw [h2, wrap_id (x := (i : Int) + 1) (by omega) (by omega), show (i : Int) + 1 = ((i + 1 : Nat) : Int) by omega]
  refine Ev.ite (fun g => Ev.ret ?_) (fun g => Ev.ite (fun g2 => Ev.ret ?_) (fun g2 => (ih (i + 1) h3).to ?_))
  ·have : printB c = false := by simp [printB]; omega
   simp [this]
  ·have : printB c = false := by simp [printB]; omega
   simp [this]
  ·have : printB c = true := by simp [printB]; omega
   simp [this]
theorem specPart_ev (s : ByteArray) (hs : s.size ≤ 1048576) : Ev (fun k => F76.f k s) (partB s) := by
 unfold F76.f
 refine Ev.ite (fun g => Ev.ret ?_) (fun g => (specPart_loop s hs _ 0 rfl).to ?_)
 ·have : decide (s.size ≤ 40) = false := by simp; omega
  simp [partB, this]
 ·have : decide (s.size ≤ 40) = true := by simp; omega
  simp [partB, this]
theorem implPrinted_loop (s : ByteArray) (hs : s.size ≤ 1048576) : ∀ (l : List Int) (i : Nat), (bytesOf s).drop i = l → Ev (fun k => F112.l0 k s (s.size : Int) (i : Int)) (l.all printB) := by
 intro l
 induction l with
 | nil =>
  intro i h
  have h0 := drop_nil h
  exact Ev.step (fun k => F112.l0.eq_2 ..) (Ev.neg (by omega) (Ev.now _))
 | cons c r ih =>
  intro i h
  obtain ⟨h1, h2, h3, h4, h5⟩ := drop_cons h
  refine Ev.step (fun k => F112.l0.eq_2 ..) (Ev.pos h1 (Ev.pos (by omega) (Ev.pos h1 ?_)))
  rw [h2, wrap_id (x := (i : Int) + 1) (by omega) (by omega), show (i : Int) + 1 = ((i + 1 : Nat) : Int) by omega]
  refine Ev.ite (fun g => Ev.ret ?_) (fun g => Ev.ite (fun g2 => Ev.ret ?_) (fun g2 => (ih (i + 1) h3).to ?_))
  ·have : printB c = false := by simp [printB]; omega
   simp [this]
  ·have : printB c = false := by simp [printB]; omega
   simp [this]
  ·have : printB c = true := by simp [printB]; omega
   simp [this]
theorem implPart_ev (s : ByteArray) (hs : s.size ≤ 1048576) : Ev (fun k => F82.f k s) (partB s) := by
 unfold F82.f
 refine Ev.ite (fun g => ?_) (fun g => Ev.ret ?_)
 ·have h2 : decide (s.size ≤ 40) = true := by simp; omega
  refine Ev.bind (show Ev (fun k => F112.f k s) ((bytesOf s).all printB) from implPrinted_loop s hs _ 0 rfl) (Ev.ret ?_)
  simp [partB, h2]
 ·have : decide (s.size ≤ 40) = false := by simp; omega
  simp [partB, this]
theorem specTag_loop (s : ByteArray) (hs : s.size = 3) : ∀ (l : List Int) (i : Nat), (bytesOf s).drop i = l → Ev (fun k => F75.l0 k s (i : Int)) (l.all great) := by
 intro l
 induction l with
 | nil =>
  intro i h
  have h0 := drop_nil h
  exact Ev.step (fun k => F75.l0.eq_2 ..) (Ev.neg (by omega) (Ev.now _))
 | cons c r ih =>
  intro i h
  obtain ⟨h1, h2, h3, h4, h5⟩ := drop_cons h
  refine Ev.step (fun k => F75.l0.eq_2 ..) (Ev.pos (by omega) (Ev.pos (by omega) (Ev.pos h1 ?_)))
  rw [h2, wrap_id (x := (i : Int) + 1) (by omega) (by omega), show (i : Int) + 1 = ((i + 1 : Nat) : Int) by omega]
  refine Ev.ite (fun g => Ev.ret ?_) (fun g => Ev.ite (fun g2 => Ev.ret ?_) (fun g2 => (ih (i + 1) h3).to ?_))
  ·have : great c = false := by simp [great]; omega
   simp [this]
  ·have : great c = false := by simp [great]; omega
   simp [this]
  ·have : great c = true := by simp [great]; omega
   simp [this]
theorem specTag_ev (s : ByteArray) : Ev (fun k => F75.f k s) (tagB s) := by
 unfold F75.f
 refine Ev.ite (fun g => (specTag_loop s (by omega) _ 0 rfl).to ?_) (fun g => Ev.ret ?_)
 ·have : decide (s.size = 3) = true := by simp; omega
  simp [tagB, this]
 ·have : decide (s.size = 3) = false := by simp; omega
  simp [tagB, this]
theorem isTag_eq (s : ByteArray) : F83.f s = some (tagB s) := by
 unfold F83.f
 by_cases h : s.size = 3
 ·obtain ⟨a, b, c, hb⟩ : ∃ a b c, bytesOf s = [a, b, c] := by
   have := length_bytesOf s
   rw [h] at this
   match bytesOf s, this with
   | [a, b, c], _ => exact ⟨a, b, c, rfl⟩
  obtain ⟨h0, e0, d0, _⟩ := drop_cons (i := 0) (s := s) (c := a) (r := [b, c]) (by simpa using hb)
  obtain ⟨h1, e1, d1, _⟩ := drop_cons (i := 1) (s := s) d0
  obtain ⟨h2, e2, d2, _⟩ := drop_cons (i := 2) (s := s) d1
  have e0 : bt s 0 = a := e0
  have e1 : bt s 1 = b := e1
  have e2 : bt s 2 = c := e2
  rw [if_pos (by omega), if_pos (by omega), if_pos (by omega), if_pos (by omega), e0, e1, e2, isGreat_eq, isGreat_eq, isGreat_eq]
  have : decide (s.size = 3) = true := by simpa using h
  cases ha : great a <;> cases hb2 : great b <;> simp [tagB, this, hb, ha, hb2]
 ·rw [if_neg (by omega)]
  have : decide (s.size = 3) = false := by simpa using h
  simp [tagB, this]
def lastE (p : List ByteArray) : Bool := ((rdOf ByteArray.empty p (wrap64 ((p.length : Int) - 1))).toList == ([] : List UInt8))
def emptyE (p : List ByteArray) : Bool := decide (p.length = 1) && lastE p
def elP (p : List ByteArray) : Bool := decide (1 ≤ p.length ∧ p.length ≤ 4) && !(decide (p.length > 1) && lastE p) && p.all partB
def lastEl (L : List S102) : Bool := match L.getLast? with | none => false | some e => emptyE e.f0
def segL : List S102 → Bool
 | [] => true
 | [e] => elP e.f0 && !emptyE e.f0
 | e :: e' :: r => elP e.f0 && segL (e' :: r)
theorem segL_eq : ∀ L : List S102, segL L = (L.all (fun e => elP e.f0) && !lastEl L)
 | [] => rfl
 | [e] => by simp [segL, lastEl]
 | e :: e' :: r => by
  have := segL_eq (e' :: r)
  have h2 : lastEl (e :: e' :: r) = lastEl (e' :: r) := by simp [lastEl]
  rw [segL, this, h2]
  simp [Bool.and_assoc]
def segB (s : ByteArray) (L : List S102) : Bool := tagB s && decide (L.length ≤ 10) && segL L
def bEl (p : List ByteArray) : Prop := p.length ≤ 1048576 ∧ ∀ s ∈ p, s.size ≤ 1048576
theorem rdlast (L : List S102) (h : 0 < L.length) (h1 : L.length ≤ 1048576) : 0 ≤ wrap64 ((L.length : Int) - 1) ∧ wrap64 ((L.length : Int) - 1) < (L.length : Int) ∧ lastEl L = emptyE (rd_T102 L (wrap64 ((L.length : Int) - 1))).f0 := by
 rw [wrap_id (by omega) (by omega)]
 refine ⟨by omega, by omega, ?_⟩
 unfold rd_T102 lastEl
 rw [List.getLast?_eq_getElem?, List.getD_eq_getElem?_getD, show ((L.length : Int) - 1).toNat = L.length - 1 by omega, List.getElem?_eq_getElem (by omega)]
 rfl
theorem l02Empty_eq (p : List ByteArray) : F77.f p = some (emptyE p) := by
 unfold F77.f emptyE
 by_cases h : p.length = 1
 ·rw [if_pos (by omega), if_pos (by omega)]
  have hw : wrap64 ((p.length : Int) - 1) = 0 := by rw [wrap_id (by omega) (by omega)]; omega
  unfold lastE
  rw [hw]
  simp [h]
 ·rw [if_neg (by omega)]
  simp [h]
theorem spec1_loop (s : ByteArray) (L : List S102) (p : List ByteArray) (hp : bEl p) (x : Int) (R : Bool) (hR : Ev (fun k => F34.l0 k (wrap64 (x + 1)) s L) R) : ∀ (r : List ByteArray) (j : Nat), p.drop j = r → Ev (fun k => F34.l1 k x p (j : Int) s L) (r.all partB && R) := by
 have hl := hp.1
 intro r
 induction r with
 | nil =>
  intro j h
  have h0 := ldrop_nil h
  exact Ev.step (fun k => F34.l1.eq_2 ..) (Ev.neg (by omega) (hR.to (by simp)))
 | cons c r ih =>
  intro j h
  obtain ⟨h1, h2, h3⟩ := rdOf_cons ByteArray.empty h
  have hm : c ∈ p := List.mem_of_mem_drop (by rw [h]; exact List.mem_cons_self)
  have hw := wi_ (i := j) (by omega)
  refine Ev.step (fun k => F34.l1.eq_2 ..) (Ev.pos h1 (Ev.pos (by omega) ?_))
  rw [h2, hw]
  refine Ev.bind (specPart_ev c (hp.2 c hm)) (Ev.ite (fun g => (ih (j + 1) h3).to (by simp [g])) (fun g => Ev.ret (by simp [g])))
theorem specSeg_loop (s : ByteArray) (L : List S102) (hL : L.length ≤ 1048576) (hE : ∀ e ∈ L, bEl e.f0) : ∀ (r : List S102) (i : Nat), L.drop i = r → Ev (fun k => F34.l0 k (i : Int) s L) (r.all (fun e => elP e.f0) && !lastEl L) := by
 intro r
 induction r with
 | nil =>
  intro i h
  have h0 := ldrop_nil h
  refine Ev.step (fun k => F34.l0.eq_2 ..) (Ev.neg (by omega) (Ev.ite (fun g => Ev.ret ?_) (fun g => ?_)))
  ·have : L = [] := List.length_eq_zero_iff.1 (by omega)
   rw [this]; rfl
  ·obtain ⟨h1, h2, h3⟩ := rdlast L (by omega) hL
   exact Ev.pos h1 (Ev.pos h2 (Ev.bindc (l02Empty_eq _) (Ev.ret (by rw [h3]; simp))))
 | cons e r ih =>
  intro i h
  obtain ⟨h1, h2, h3⟩ := ldrop_cons z102 h
  have hr : rd_T102 L (i : Int) = e := h2
  have hb := hE e (List.mem_of_mem_drop (by rw [h]; exact List.mem_cons_self))
  have hbl := hb.1
  have hw := wi_ (i := i) (by omega)
  have hi := ih (i + 1) h3
  rw [← hw] at hi
  have inner : Ev (fun k => F34.l1 k (i : Int) e.f0 0 s L) (e.f0.all partB && (r.all (fun e => elP e.f0) && !lastEl L)) := spec1_loop s L e.f0 hb (i : Int) _ hi _ 0 rfl
  have hw2 : wrap64 ((e.f0.length : Int) - 1) = (e.f0.length : Int) - 1 := wrap_id (by omega) (by omega)
  refine Ev.step (fun k => F34.l0.eq_2 ..) (Ev.pos h1 (Ev.pos (by omega) ?_))
  rw [hr]
  refine Ev.ite (fun g => ?_) (fun g => Ev.ite (fun g2 => ?_) (fun g2 => Ev.ite (fun g3 => Ev.pos (by rw [hw2]; omega) (Ev.pos (by rw [hw2]; omega) ?_)) (fun g3 => ?_)))
  ·have : elP e.f0 = false := by simp [elP]; omega
   exact Ev.step (fun k => F34.j2.eq_2 ..) (Ev.pos rfl (Ev.ret (by simp [this])))
  ·have : elP e.f0 = false := by simp [elP]; omega
   exact Ev.step (fun k => F34.j2.eq_2 ..) (Ev.pos rfl (Ev.ret (by simp [this])))
  ·refine Ev.step (fun k => F34.j2.eq_2 ..) (Ev.ite (fun g4 => Ev.ret ?_) (fun g4 => inner.to ?_))
   ·have : elP e.f0 = false := by
     have h4 : lastE e.f0 = true := g4
     have h5 : decide (e.f0.length > 1) = true := by simp; omega
     simp [elP, h4, h5]
    simp [this]
   ·have : elP e.f0 = e.f0.all partB := by
     have h4 : lastE e.f0 = false := by simpa [lastE] using g4
     have h5 : decide (1 ≤ e.f0.length ∧ e.f0.length ≤ 4) = true := by simp; omega
     simp only [elP, h4, h5]; simp
    simp [this, Bool.and_assoc]
  ·refine Ev.step (fun k => F34.j2.eq_2 ..) (Ev.neg (by simp) (inner.to ?_))
   have : elP e.f0 = e.f0.all partB := by
    have h4 : decide (e.f0.length > 1) = false := by simp; omega
    have h5 : decide (1 ≤ e.f0.length ∧ e.f0.length ≤ 4) = true := by simp; omega
    simp only [elP, h4, h5]; simp
   simp [this, Bool.and_assoc]
theorem specSeg_ev (s : ByteArray) (L : List S102) (hL : L.length ≤ 1048576) (hE : ∀ e ∈ L, bEl e.f0) : Ev (fun k => F34.f k s L) (segB s L) := by
 unfold F34.f
 have h0 : Ev (fun k => F34.l0 k 0 s L) (segL L) := (specSeg_loop s L hL hE L 0 rfl).to (segL_eq L).symm
 refine Ev.bind (specTag_ev s) (Ev.ite (fun g => Ev.step (fun k => F34.j0.eq_2 ..) (Ev.ite (fun g2 => Ev.ret ?_) (fun g2 => h0.to ?_))) (fun g => Ev.step (fun k => F34.j0.eq_2 ..) (Ev.pos rfl (Ev.ret ?_))))
 ·have : decide (L.length ≤ 10) = false := by have := of_decide_eq_true g2; simp; omega
  simp [segB, this]
 ·have : decide (L.length ≤ 10) = true := by simp at g2; simp; omega
  simp only [segB, g, this]; simp
 ·simp [segB, g]
theorem partsIdx_loop (p : List ByteArray) (hp : bEl p) : ∀ (r : List ByteArray) (i : Nat), p.drop i = r → ∃ x : Int, Ev (fun k => F111.l0 k p (p.length : Int) (i : Int)) x ∧ decide (x ≥ 0) = !(r.all partB) := by
 have hl := hp.1
 intro r
 induction r with
 | nil =>
  intro i h
  have h0 := ldrop_nil h
  exact ⟨-1, Ev.step (fun k => F111.l0.eq_2 ..) (Ev.neg (by omega) (Ev.now _)), by simp⟩
 | cons c r ih =>
  intro i h
  obtain ⟨h1, h2, h3⟩ := rdOf_cons ByteArray.empty h
  have hm : c ∈ p := List.mem_of_mem_drop (by rw [h]; exact List.mem_cons_self)
  have hw := wi_ (i := i) (by omega)
  obtain ⟨x, hx, he⟩ := ih (i + 1) h3
  have h1c : Ev (fun k => F81.f k c) (!partB c) := by
   unfold F81.f
   exact Ev.bind (implPart_ev c (hp.2 c hm)) (Ev.now _)
  cases hc : partB c with
  | false =>
   refine ⟨i, Ev.step (fun k => F111.l0.eq_2 ..) (Ev.pos h1 (Ev.pos (by omega) (Ev.pos h1 ?_))), by simp [hc]⟩
   rw [h2]
   exact Ev.bind h1c (Ev.pos (by simp [hc]) (Ev.now _))
  | true =>
   refine ⟨x, Ev.step (fun k => F111.l0.eq_2 ..) (Ev.pos h1 (Ev.pos (by omega) (Ev.pos h1 ?_))), by rw [he]; simp [hc]⟩
   rw [h2, hw]
   exact Ev.bind h1c (Ev.neg (by simp [hc]) hx)
theorem partsAny_ev (p : List ByteArray) (hp : bEl p) : Ev (fun k => F80.f k p) (!(p.all partB)) := by
 obtain ⟨x, hx, he⟩ := partsIdx_loop p hp p 0 rfl
 unfold F80.f
 refine Ev.bind (show Ev (fun k => F111.f k p) x from hx) ?_
 exact Ev.ret he
theorem implSeg_loop (s : ByteArray) (L : List S102) (hL : L.length ≤ 1048576) (hE : ∀ e ∈ L, bEl e.f0) : ∀ (r : List S102) (i : Nat), L.drop i = r → Ev (fun k => F36.l0 k L (L.length : Int) (i : Int) s L) (segL r && (tagB s && decide (L.length ≤ 10))) := by
 intro r
 induction r with
 | nil =>
  intro i h
  have h0 := ldrop_nil h
  refine Ev.step (fun k => F36.l0.eq_2 ..) (Ev.neg (by omega) (Ev.bindc (isTag_eq s) (Ev.ite (fun g => Ev.ret ?_) (fun g => Ev.ret ?_))))
  ·simp only [segL, g, Bool.true_and]
   simp only [decide_eq_decide]; omega
  ·simp [g]
 | cons e r ih =>
  intro i h
  obtain ⟨h1, h2, h3⟩ := ldrop_cons z102 h
  have hr : rd_T102 L (i : Int) = e := h2
  have hb := hE e (List.mem_of_mem_drop (by rw [h]; exact List.mem_cons_self))
  have hbl := hb.1
  have hw := wi_ (i := i) (by omega)
  have hi := ih (i + 1) h3
  have hrl : r.length + (i + 1) = L.length := by
   have := congrArg List.length h3
   rw [List.length_drop] at this
   omega
  have hw2 : wrap64 ((e.f0.length : Int) - 1) = (e.f0.length : Int) - 1 := wrap_id (by omega) (by omega)
  have hw3 : wrap64 ((L.length : Int) - 1) = (L.length : Int) - 1 := wrap_id (by omega) (by omega)
  have hno : elP e.f0 = false → (segL (e :: r) && (tagB s && decide (L.length ≤ 10))) = false := by
   intro h0
   cases r <;> simp [segL, h0]
  refine Ev.step (fun k => F36.l0.eq_2 ..) (Ev.pos h1 (Ev.pos (by omega) (Ev.pos h1 (Ev.bindc (within_eq _ _ _) ?_))))
  rw [hr]
  refine Ev.ite (fun g => Ev.bind (partsAny_ev e.f0 hb) (Ev.step (fun k => F36.j1.eq_2 ..) (Ev.ite (fun g2 => Ev.ret ?_) (fun g2 => ?_)))) (fun g => Ev.step (fun k => F36.j1.eq_2 ..) (Ev.pos rfl (Ev.ret ?_)))
  ·refine (hno ?_).symm
   have g3 : e.f0.all partB = false := by simpa using g2
   unfold elP; rw [g3]; simp
  ·have g3 : e.f0.all partB = true := by simpa using g2
   have gw : 1 ≤ e.f0.length ∧ e.f0.length ≤ 4 := by simp [withinP] at g; omega
   refine Ev.pos (by rw [hw2]; omega) (Ev.pos (by rw [hw2]; omega) (Ev.ite (fun g4 => Ev.ite (fun g5 => Ev.ret ?_) (fun g5 => Ev.ite (fun g6 => Ev.ret ?_) (fun g6 => ?_))) (fun g4 => ?_)))
   ·refine (hno ?_).symm
    have h4 : lastE e.f0 = true := by simpa [lastE] using g4
    have h5 : decide (e.f0.length > 1) = true := by simp; omega
    simp [elP, h4, h5]
   ·have h4 : lastE e.f0 = true := by simpa [lastE] using g4
    have : r = [] := List.length_eq_zero_iff.1 (by rw [hw3] at g6; omega)
    subst this
    have h5 : emptyE e.f0 = true := by
     unfold emptyE
     rw [h4]
     simp; omega
    simp [segL, h5]
   ·rw [hw]
    refine hi.to ?_
    have h4 : elP e.f0 = true := by
     have h5 : decide (e.f0.length > 1) = false := by simp; omega
     have h6 : decide (1 ≤ e.f0.length ∧ e.f0.length ≤ 4) = true := by simpa using gw
     simp only [elP, h5, h6, g3]; simp
    match r, hrl with
    | [], hrl => exact absurd (show (i : Int) = wrap64 ((L.length : Int) - 1) by rw [hw3]; simp at hrl; omega) g6
    | e' :: r', _ => simp [segL, h4]
   ·rw [hw]
    refine hi.to ?_
    have h7 : lastE e.f0 = false := by simpa [lastE] using g4
    have h4 : elP e.f0 = true := by
     have h6 : decide (1 ≤ e.f0.length ∧ e.f0.length ≤ 4) = true := by simpa using gw
     simp only [elP, h7, h6, g3]; simp
    have h8 : emptyE e.f0 = false := by simp [emptyE, h7]
    match r with
    | [] => simp [segL, h4, h8]
    | e' :: r' => simp [segL, h4]
  ·refine (hno ?_).symm
   have : decide (1 ≤ e.f0.length ∧ e.f0.length ≤ 4) = false := by simp [withinP] at g; simp; omega
   unfold elP; rw [this]; simp
theorem implSeg_ev (s : ByteArray) (L : List S102) (hL : L.length ≤ 1048576) (hE : ∀ e ∈ L, bEl e.f0) : Ev (fun k => F36.f k s L) (segB s L) := by
 unfold F36.f
 refine (implSeg_loop s L hL hE L 0 rfl).to ?_
 unfold segB
 rw [Bool.and_comm]
def Tr (d m : Int) (v : List Int) : Prop := ∀ (rest h : List Int) (t : List (List Int)), cutL d m rest = h :: t → cutL d m (v ++ rest) = (v ++ h) :: t
theorem Tr.nil (d m : Int) : Tr d m [] := fun _ _ _ h => h
theorem Tr.app {d m : Int} {u v : List Int} (hu : Tr d m u) (hv : Tr d m v) : Tr d m (u ++ v) := by
 intro rest h t he
 rw [List.append_assoc, hu _ _ _ (hv _ _ _ he), List.append_assoc]
theorem Tr.one {d m x : Int} (h1 : x ≠ d) (h2 : x ≠ m) : Tr d m [x] := by
 intro rest h t he
 rw [List.singleton_append, cutL_else d m x rest h1 h2, he]
 rfl
theorem Tr.cons {d m x : Int} {v : List Int} (h1 : x ≠ d) (h2 : x ≠ m) (hv : Tr d m v) : Tr d m (x :: v) := Tr.app (u := [x]) (Tr.one h1 h2) hv
theorem Tr.all {d m : Int} : ∀ l : List Int, (∀ x ∈ l, x ≠ d ∧ x ≠ m) → Tr d m l
 | [], _ => Tr.nil d m
 | x :: r, h => Tr.cons (h x (by simp)).1 (h x (by simp)).2 (Tr.all r (fun y hy => h y (by simp [hy])))
theorem Tr.esc (a b c d m : Int) (hd : m ≠ d) (h2d : d % 256 = d) (hm : ownP a b c d m = true) (l : List Int) : Tr d m (escL a b c d l) := fun rest h t he => cut_esc a b c d m hd h2d hm rest h t he l
theorem Tr.done {d m : Int} {v : List Int} (h : Tr d m v) : cutL d m v = [v] := by
 have := h [] [] [] (by simp [cutL])
 simpa using this
theorem Tr.by {d m : Int} {v : List Int} (h : Tr d m v) (hd : m ≠ d) (rest : List Int) : cutL d m (v ++ m :: rest) = v :: cutL d m rest := by
 have := h (m :: rest) [] _ (cutL_by d m m rest hd rfl)
 simpa using this
def partsT (a b c d : Int) : Bool → List ByteArray → List Int
 | _, [] => []
 | f, q :: r => (if f then [] else [c]) ++ (escL a b c d (bytesOf q) ++ partsT a b c d false r)
def elsT (a b c d : Int) : List S102 → List Int
 | [] => []
 | e :: r => b :: (partsT a b c d true e.f0 ++ elsT a b c d r)
def segBody (a b c d : Int) (s : ByteArray) (L : List S102) : List Int := bytesOf s ++ elsT a b c d L
def segT (a b c d : Int) (s : ByteArray) (L : List S102) : List Int := segBody a b c d s L ++ [a]
structure Four (a b c d : Int) : Prop where
 ma : 33 ≤ a ∧ a ≤ 126 ∧ ¬ (65 ≤ a ∧ a ≤ 90)
 mb : 33 ≤ b ∧ b ≤ 126 ∧ ¬ (65 ≤ b ∧ b ≤ 90)
 mc : 33 ≤ c ∧ c ≤ 126 ∧ ¬ (65 ≤ c ∧ c ≤ 90)
 md : 33 ≤ d ∧ d ≤ 126 ∧ ¬ (65 ≤ d ∧ d ≤ 90)
 ne : a ≠ b ∧ a ≠ c ∧ b ≠ c ∧ a ≠ d ∧ b ≠ d ∧ c ≠ d
theorem four_of {a b c d : Int} (h : synP a b c d = true) : Four a b c d := by
 obtain ⟨ma, mb, mc, md, h1, h2, h3, h4, h5, h6⟩ := synP_iff.1 h
 have xa := markP_iff.1 ma
 have xb := markP_iff.1 mb
 have xc := markP_iff.1 mc
 have xd := markP_iff.1 md
 exact ⟨⟨xa.1, xa.2.1, xa.2.2.2.1⟩, ⟨xb.1, xb.2.1, xb.2.2.2.1⟩, ⟨xc.1, xc.2.1, xc.2.2.2.1⟩, ⟨xd.1, xd.2.1, xd.2.2.2.1⟩, h1, h2, h3, h4, h5, h6⟩
theorem Four.a256 {a b c d : Int} (h : Four a b c d) : a % 256 = a := by have := h.ma; omega
theorem Four.b256 {a b c d : Int} (h : Four a b c d) : b % 256 = b := by have := h.mb; omega
theorem Four.c256 {a b c d : Int} (h : Four a b c d) : c % 256 = c := by have := h.mc; omega
theorem Four.d256 {a b c d : Int} (h : Four a b c d) : d % 256 = d := by have := h.md; omega
theorem esc_rng {a b c d : Int} (h : Four a b c d) (q : ByteArray) : ∀ y ∈ escL a b c d (bytesOf q), 0 ≤ y ∧ y ≤ 255 := by
 intro y hy
 rcases esc_mem a b c d _ hy with e | e
 ·have := h.d256; have := h.md; omega
 ·exact mem_bytesOf e
theorem parts_rng {a b c d : Int} (h : Four a b c d) : ∀ (p : List ByteArray) (f : Bool), ∀ y ∈ partsT a b c d f p, 0 ≤ y ∧ y ≤ 255
 | [], f, y, hy => by simp [partsT] at hy
 | q :: r, f, y, hy => by
  unfold partsT at hy
  rcases List.mem_append.1 hy with e | e
  ·cases f <;> simp at e
   have := h.mc; omega
  ·rcases List.mem_append.1 e with e | e
   ·exact esc_rng h q y e
   ·exact parts_rng h r false y e
theorem els_rng {a b c d : Int} (h : Four a b c d) : ∀ (L : List S102), ∀ y ∈ elsT a b c d L, 0 ≤ y ∧ y ≤ 255
 | [], y, hy => by simp [elsT] at hy
 | e :: r, y, hy => by
  unfold elsT at hy
  rcases List.mem_cons.1 hy with x | x
  ·have := h.mb; omega
  ·rcases List.mem_append.1 x with x | x
   ·exact parts_rng h _ _ y x
   ·exact els_rng h r y x
theorem body_rng {a b c d : Int} (h : Four a b c d) (s : ByteArray) (L : List S102) : ∀ y ∈ segBody a b c d s L, 0 ≤ y ∧ y ≤ 255 := by
 intro y hy
 rcases List.mem_append.1 hy with e | e
 ·exact mem_bytesOf e
 ·exact els_rng h L y e
theorem seg_rng {a b c d : Int} (h : Four a b c d) (s : ByteArray) (L : List S102) : ∀ y ∈ segT a b c d s L, 0 ≤ y ∧ y ≤ 255 := by
 intro y hy
 rcases List.mem_append.1 hy with e | e
 ·exact body_rng h s L y e
 ·simp at e; have := h.ma; omega
theorem parts_tr {a b c d m : Int} (h : Four a b c d) (hm : m = a ∨ m = b) : ∀ (p : List ByteArray) (f : Bool), Tr d m (partsT a b c d f p)
 | [], f => Tr.nil d m
 | q :: r, f => by
  have hmd : m ≠ d := by have := h.ne; omega
  have hcm : c ≠ m := by have := h.ne; omega
  have ho : ownP a b c d m = true := by simp [ownP]; omega
  unfold partsT
  refine Tr.app ?_ (Tr.app (Tr.esc a b c d m hmd h.d256 ho _) (parts_tr h hm r false))
  cases f
  ·exact Tr.one (by have := h.ne; omega) hcm
  ·exact Tr.nil d m
theorem els_tr {a b c d : Int} (h : Four a b c d) : ∀ L : List S102, Tr d a (elsT a b c d L)
 | [] => Tr.nil d a
 | e :: r => by
  unfold elsT
  exact Tr.cons (by have := h.ne; omega) (by have := h.ne; omega) (Tr.app (parts_tr h (.inl rfl) e.f0 true) (els_tr h r))
theorem tag_tr {a b c d m : Int} (h : Four a b c d) (hm : m = a ∨ m = b ∨ m = c) {s : ByteArray} (hs : tagB s = true) : Tr d m (bytesOf s) := by
 refine Tr.all _ (fun x hx => ?_)
 simp only [tagB, Bool.and_eq_true, List.all_eq_true] at hs
 have hg := hs.2 x hx
 simp only [great, decide_eq_true_eq] at hg
 have h1 := h.ma.2.2; have h2 := h.mb.2.2; have h3 := h.mc.2.2; have h4 := h.md.2.2
 omega
theorem cut_seg {a b c d : Int} (h : Four a b c d) {s : ByteArray} (hs : tagB s = true) (L : List S102) (rest : List Int) : cutL d a (segT a b c d s L ++ rest) = segBody a b c d s L :: cutL d a rest := by
 unfold segT
 rw [List.append_assoc]
 exact Tr.by (Tr.app (tag_tr h (.inl rfl) hs) (els_tr h L)) (by have := h.ne; omega) rest
theorem cut_els {a b c d : Int} (h : Four a b c d) : ∀ (L : List S102) (v : List Int), Tr d b v → cutL d b (v ++ elsT a b c d L) = v :: L.map (fun e => partsT a b c d true e.f0)
 | [], v, hv => by simpa [elsT] using hv.done
 | e :: r, v, hv => by
  unfold elsT
  rw [Tr.by hv (by have := h.ne; omega), cut_els h r _ (parts_tr h (.inr rfl) e.f0 true)]
  rfl
theorem cut_body {a b c d : Int} (h : Four a b c d) {s : ByteArray} (hs : tagB s = true) (L : List S102) : cutL d b (segBody a b c d s L) = bytesOf s :: L.map (fun e => partsT a b c d true e.f0) := cut_els h L _ (tag_tr h (.inr (.inl rfl)) hs)
theorem cut_partsF {a b c d : Int} (h : Four a b c d) : ∀ (r : List ByteArray) (v : List Int), Tr d c v → cutL d c (v ++ partsT a b c d false r) = v :: r.map (fun q => escL a b c d (bytesOf q))
 | [], v, hv => by simpa [partsT] using hv.done
 | q :: r, v, hv => by
  have ho : ownP a b c d c = true := by simp [ownP]
  unfold partsT
  simp only [Bool.false_eq_true, if_false, List.singleton_append]
  rw [Tr.by hv (by have := h.ne; omega), cut_partsF h r _ (Tr.esc a b c d c (by have := h.ne; omega) h.d256 ho _)]
  rfl
theorem cut_parts {a b c d : Int} (h : Four a b c d) (q : ByteArray) (r : List ByteArray) : cutL d c (partsT a b c d true (q :: r)) = (q :: r).map (fun q => escL a b c d (bytesOf q)) := by
 have ho : ownP a b c d c = true := by simp [ownP]
 unfold partsT
 simp only [if_true, List.nil_append]
 exact cut_partsF h r _ (Tr.esc a b c d c (by have := h.ne; omega) h.d256 ho _)
theorem parts_len (a b c d : Int) : ∀ (p : List ByteArray) (f : Bool), (∀ q ∈ p, q.size ≤ 40) → (partsT a b c d f p).length ≤ 81 * p.length
 | [], f, _ => by simp [partsT]
 | q :: r, f, h => by
  have h1 := parts_len a b c d r false (fun x hx => h x (by simp [hx]))
  have h2 := escL_length a b c d (bytesOf q)
  rw [length_bytesOf] at h2
  have h3 := h q (by simp)
  unfold partsT
  cases f <;> simp only [List.length_append, List.length_cons, List.length_nil, Bool.false_eq_true, if_false, if_true] <;> omega
theorem els_len (a b c d : Int) : ∀ (L : List S102), (∀ e ∈ L, e.f0.length ≤ 4 ∧ ∀ q ∈ e.f0, q.size ≤ 40) → (elsT a b c d L).length ≤ 325 * L.length
 | [], _ => by simp [elsT]
 | e :: r, h => by
  have h1 := els_len a b c d r (fun x hx => h x (by simp [hx]))
  have h2 := parts_len a b c d e.f0 true (h e (by simp)).2
  have h3 := (h e (by simp)).1
  unfold elsT
  simp only [List.length_append, List.length_cons]
  omega
theorem segInT (a b c d : Int) (hF : Four a b c d) (s : ByteArray) (L : List S102) (Z : List Int) (i : Nat) (hi : i < L.length) (hL : L.length ≤ 10) (p : List ByteArray) (hp : (rd_T102 L (i : Int)).f0 = p) (hpl : p.length ≤ 4) (hps : ∀ q ∈ p, q.size ≤ 40)
  (hnext : ∀ x : List Int, x.length ≤ 1000 + 400 * (i + 1) → Ev (fun k => F38.l0 k (strOfNums x) ((i + 1 : Nat) : Int) a b c d s L) (strOfNums (x ++ Z)) ∧ Ev (fun k => F86.l0 k x L (L.length : Int) ((i + 1 : Nat) : Int) a b c d) (strOfNums (x ++ Z))) :
  ∀ (r : List ByteArray) (j : Nat) (x : List Int), p.drop j = r → j ≤ p.length → x.length ≤ 1001 + 400 * i + 81 * j → Ev (fun k => F38.l1 k (strOfNums x) (i : Int) (j : Int) a b c d s L) (strOfNums (x ++ (partsT a b c d (decide (j = 0)) r ++ Z))) ∧ Ev (fun k => F86.l1 k x L (L.length : Int) (i : Int) p (p.length : Int) (j : Int) a b c d) (strOfNums (x ++ (partsT a b c d (decide (j = 0)) r ++ Z))) := by
 intro r
 induction r with
 | nil =>
  intro j x h hj hx
  have h0 := ldrop_nil h
  obtain ⟨r1, r2⟩ := hnext x (by omega)
  rw [← wi_ (by omega)] at r1 r2
  simp only [partsT, List.nil_append]
  refine ⟨Ev.step (fun k => F38.l1.eq_2 ..) (Ev.pos (by omega) (Ev.pos (by omega) ?_)), Ev.step (fun k => F86.l1.eq_2 ..) (Ev.neg (by omega) r2)⟩
  rw [hp]
  exact Ev.neg (by omega) r1
 | cons q r ih =>
  intro j x h hj hx
  obtain ⟨h1, h2, h3⟩ := ldrop_cons ByteArray.empty h
  have hq : rdOf ByteArray.empty p (j : Int) = q := h2
  have hqs := hps q (List.mem_of_mem_drop (by rw [h]; exact List.mem_cons_self))
  have hw := wi_ (i := j) (by omega)
  have e1 := specEscape_ev a b c d q (by omega)
  have e2 := implEscaped_ev a b c d q (by omega)
  have hel := escL_length a b c d (bytesOf q)
  rw [length_bytesOf] at hel
  obtain ⟨u, hu⟩ : ∃ u, u = strOfNums (escL a b c d (bytesOf q)) := ⟨_, rfl⟩
  have hub : bytesOf u = escL a b c d (bytesOf q) := by rw [hu]; exact bytesOf_strOf _ (esc_rng hF q)
  have hus : u.size ≤ 80 := by rw [hu, size_strOf]; omega
  rw [← hu] at e1 e2
  have hz : (strOfNums [c % 256]).size = 1 := by rw [size_strOf]; rfl
  have hc := hF.c256
  by_cases g : (j : Int) > 0
  ·obtain ⟨r1, r2⟩ := ih (j + 1) (x ++ [c % 256] ++ bytesOf u) h3 (by omega) (by simp only [List.length_append, List.length_singleton, length_bytesOf]; omega)
   rw [← hw] at r1 r2
   have hE : x ++ [c % 256] ++ bytesOf u ++ (partsT a b c d (decide (j + 1 = 0)) r ++ Z) = x ++ (partsT a b c d (decide (j = 0)) (q :: r) ++ Z) := by
    have hj0 : decide (j = 0) = false := by simp; omega
    have hj1 : decide (j + 1 = 0) = false := by simp
    rw [hj0, hj1, hub, hc]
    simp [partsT]
   rw [hE] at r1 r2
   rw [strOf_append (x ++ [c % 256]), strOf_append x, strOf_bytesOf] at r1
   refine ⟨Ev.step (fun k => F38.l1.eq_2 ..) (Ev.pos (by omega) (Ev.pos (by omega) ?_)), Ev.step (fun k => F86.l1.eq_2 ..) (Ev.pos h1 (Ev.pos (by omega) (Ev.pos h1 (Ev.pos g (Ev.pos (by omega) (Ev.bindc rfl ?_))))))⟩
   ·rw [hp, hq]
    exact Ev.pos h1 (Ev.pos g (Ev.bindc rfl (Ev.pos (by rw [hz, size_strOf]; omega) (Ev.pos (by omega) (Ev.bind e1 (Ev.pos (by rw [size_append, hz, size_strOf]; omega) r1))))))
   ·rw [hq]
    exact Ev.bind e2 (Ev.pos (by simp only [List.length_append, List.length_singleton]; omega) r2)
  ·obtain ⟨r1, r2⟩ := ih (j + 1) (x ++ bytesOf u) h3 (by omega) (by simp only [List.length_append, length_bytesOf]; omega)
   rw [← hw] at r1 r2
   have hE : x ++ bytesOf u ++ (partsT a b c d (decide (j + 1 = 0)) r ++ Z) = x ++ (partsT a b c d (decide (j = 0)) (q :: r) ++ Z) := by
    have hj0 : decide (j = 0) = true := by simp; omega
    have hj1 : decide (j + 1 = 0) = false := by simp
    rw [hj0, hj1, hub]
    simp [partsT]
   rw [hE] at r1 r2
   rw [strOf_append x, strOf_bytesOf] at r1
   refine ⟨Ev.step (fun k => F38.l1.eq_2 ..) (Ev.pos (by omega) (Ev.pos (by omega) ?_)), Ev.step (fun k => F86.l1.eq_2 ..) (Ev.pos h1 (Ev.pos (by omega) (Ev.pos h1 (Ev.neg g ?_))))⟩
   ·rw [hp, hq]
    exact Ev.pos h1 (Ev.neg g (Ev.pos (by omega) (Ev.bind e1 (Ev.pos (by rw [size_strOf]; omega) r1))))
   ·rw [hq]
    exact Ev.bind e2 (Ev.pos (by omega) r2)
theorem segOutT (a b c d : Int) (hF : Four a b c d) (s : ByteArray) (L : List S102) (hL : L.length ≤ 10) (hE : ∀ e ∈ L, e.f0.length ≤ 4 ∧ ∀ q ∈ e.f0, q.size ≤ 40) : ∀ (r : List S102) (i : Nat) (x : List Int), L.drop i = r → i ≤ L.length → x.length ≤ 1000 + 400 * i → Ev (fun k => F38.l0 k (strOfNums x) (i : Int) a b c d s L) (strOfNums (x ++ (elsT a b c d r ++ [a]))) ∧ Ev (fun k => F86.l0 k x L (L.length : Int) (i : Int) a b c d) (strOfNums (x ++ (elsT a b c d r ++ [a]))) := by
 intro r
 induction r with
 | nil =>
  intro i x h hi hx
  have h0 := ldrop_nil h
  have hz : (strOfNums [a % 256]).size = 1 := by rw [size_strOf]; rfl
  have hE : strOfNums x ++ strOfNums [a % 256] = strOfNums (x ++ (elsT a b c d [] ++ [a])) := by rw [← strOf_append, hF.a256]; rfl
  exact ⟨Ev.step (fun k => F38.l0.eq_2 ..) (Ev.neg (by omega) (Ev.bindc rfl (Ev.pos (by rw [hz, size_strOf]; omega) (Ev.ret hE)))), Ev.step (fun k => F86.l0.eq_2 ..) (Ev.neg (by omega) (Ev.pos (by omega) (Ev.ret (by rw [← hE, strOf_append]))))⟩
 | cons e r ih =>
  intro i x h hi hx
  obtain ⟨h1, h2, h3⟩ := ldrop_cons z102 h
  have hr : rd_T102 L (i : Int) = e := h2
  have hz : (strOfNums [b % 256]).size = 1 := by rw [size_strOf]; rfl
  obtain ⟨hl, hs⟩ := hE e (List.mem_of_mem_drop (by rw [h]; exact List.mem_cons_self))
  obtain ⟨r1, r2⟩ := segInT a b c d hF s L (elsT a b c d r ++ [a]) i (by omega) hL e.f0 (by rw [hr]) hl hs (fun y hy => ih (i + 1) y h3 (by omega) hy) e.f0 0 (x ++ [b % 256]) rfl (by omega) (by simp; omega)
  have hX : x ++ [b % 256] ++ (partsT a b c d (decide (0 = 0)) e.f0 ++ (elsT a b c d r ++ [a])) = x ++ (elsT a b c d (e :: r) ++ [a]) := by
   rw [hF.b256]
   simp [elsT]
  rw [hX] at r1 r2
  rw [strOf_append x] at r1
  refine ⟨Ev.step (fun k => F38.l0.eq_2 ..) (Ev.pos h1 (Ev.bindc rfl (Ev.pos (by rw [hz, size_strOf]; omega) r1))), Ev.step (fun k => F86.l0.eq_2 ..) (Ev.pos h1 (Ev.pos (by omega) (Ev.pos h1 (Ev.pos (by omega) ?_))))⟩
  rw [hr]
  exact r2
theorem segB_bounds {s : ByteArray} {L : List S102} (h : segB s L = true) : s.size = 3 ∧ L.length ≤ 10 ∧ ∀ e ∈ L, e.f0.length ≤ 4 ∧ ∀ q ∈ e.f0, q.size ≤ 40 := by
 unfold segB tagB at h
 rw [segL_eq] at h
 simp only [Bool.and_eq_true, decide_eq_true_eq, List.all_eq_true] at h
 obtain ⟨⟨⟨h1, _⟩, h2⟩, h3, _⟩ := h
 refine ⟨h1, h2, fun e he => ?_⟩
 have g := h3 e he
 unfold elP at g
 simp only [Bool.and_eq_true, decide_eq_true_eq, List.all_eq_true] at g
 refine ⟨g.1.1.2, fun q hq => ?_⟩
 have := g.2 q hq
 unfold partB at this
 simp only [Bool.and_eq_true, decide_eq_true_eq] at this
 exact this.1
theorem segT_len {a b c d : Int} {s : ByteArray} {L : List S102} (h : segB s L = true) : (segT a b c d s L).length ≤ 6000 ∧ 4 ≤ (segT a b c d s L).length := by
 obtain ⟨b1, b2, b3⟩ := segB_bounds h
 have := els_len a b c d L b3
 unfold segT segBody
 simp only [List.length_append, length_bytesOf, List.length_singleton]
 omega
theorem segOneT (a b c d : Int) (s : ByteArray) (L : List S102) (hs : synP a b c d = true) (hL : L.length ≤ 1048576) (hE : ∀ e ∈ L, bEl e.f0) (hb : segB s L = true) : Ev (fun k => F38.f k a b c d s L) (strOfNums (segT a b c d s L)) ∧ Ev (fun k => F86.f k a b c d s L) (strOfNums (segT a b c d s L)) := by
 have r1 := specSeg_ev s L hL hE
 rw [hb] at r1
 obtain ⟨b1, b2, b3⟩ := segB_bounds hb
 obtain ⟨q1, q2⟩ := segOutT a b c d (four_of hs) s L b2 b3 L 0 (bytesOf s) rfl (by omega) (by rw [length_bytesOf]; omega)
 rw [strOf_bytesOf] at q1
 have hX : bytesOf s ++ (elsT a b c d L ++ [a]) = segT a b c d s L := by simp [segT, segBody]
 rw [hX] at q1 q2
 refine ⟨?_, by unfold F86.f; exact Ev.pos (by omega) q2⟩
 unfold F38.f
 exact Ev.bind (specSyntaxRight_ev a b c d) (Ev.pos hs (Ev.bind r1 (Ev.step (fun k => F38.j0.eq_2 ..) (Ev.neg (by simp) q1))))
theorem u64_id {x : Int} (h0 : 0 ≤ x) (h1 : x < 18446744073709551616) : IntKind.u64.wrap x = x := by
 unfold IntKind.wrap
 simp [IntKind.bits, IntKind.signed]
 omega
theorem u64_ge (x : Int) : 0 ≤ IntKind.u64.wrap x := by
 unfold IntKind.wrap
 simp [IntKind.bits, IntKind.signed]
 omega
theorem u64_mod (x : Int) {m : Int} (h0 : 2 ≤ m) (h1 : m ≤ 9223372036854775807) : 0 ≤ wrap64 (Int.tmod (IntKind.u64.wrap x) (IntKind.u64.wrap m)) ∧ wrap64 (Int.tmod (IntKind.u64.wrap x) (IntKind.u64.wrap m)) < m := by
 rw [u64_id (x := m) (by omega) (by omega)]
 have h := u64_ge x
 generalize IntKind.u64.wrap x = y at h
 rw [Int.tmod_eq_emod_of_nonneg h]
 have h2 := Int.emod_nonneg y (show m ≠ 0 by omega)
 have h3 := Int.emod_lt_of_pos y (show 0 < m by omega)
 rw [wrap_id (by omega) (by omega)]
 exact ⟨h2, h3⟩
theorem src_n (b : List Int) (p mix size m : Int) (hb : b.length ≤ 1048576) (h0 : 0 ≤ p) (h1 : p ≤ (b.length : Int)) (hm : 2 ≤ m) (hm2 : m ≤ 9223372036854775807) : ∃ r p' mix', F72.f b p mix size m = some (r, p', mix', size) ∧ 0 ≤ p' ∧ p' ≤ (b.length : Int) ∧ 0 ≤ r ∧ r < m := by
 unfold F72.f
 have hne : ¬ IntKind.u64.wrap m = 0 := by rw [u64_id (by omega) (by omega)]; omega
 rw [if_neg (by omega)]
 by_cases h : p < (b.length : Int)
 ·rw [if_pos h, if_pos h0, if_neg hne]
  have hw : wrap64 (p + 1) = p + 1 := wrap_id (by omega) (by omega)
  rw [hw]
  exact ⟨_, _, _, rfl, by omega, by omega, (u64_mod _ hm hm2).1, (u64_mod _ hm hm2).2⟩
 ·rw [if_neg h, if_neg hne]
  exact ⟨_, _, _, rfl, by omega, by omega, (u64_mod _ hm hm2).1, (u64_mod _ hm hm2).2⟩
theorem src_one (b : List Int) (p mix size m : Int) (hb : b.length ≤ 1048576) (h0 : 0 ≤ p) (h1 : p ≤ (b.length : Int)) (hm : 2 ≤ m) (hm2 : m ≤ 9223372036854775807) : ∃ r p' mix', F98.f b p mix size m = some (r, p', mix', size) ∧ 0 ≤ p' ∧ p' ≤ (b.length : Int) := by
 obtain ⟨r, p', mix', h, h2, h3, _, _⟩ := src_n b p mix size m hb h0 h1 hm hm2
 unfold F98.f
 rw [h]
 exact ⟨_, _, _, rfl, h2, h3⟩
theorem source_loop (L : List Int) (hl : L.length ≤ 1048576) : ∀ (d i : Nat) (mix : Int), 64 - i = d → i ≤ 64 → ∃ mix' size', Ev (fun k => F64.l0 k L (i : Int) L 0 mix 0) (L, 0, mix', size')
 | 0, i, mix, hd, hi => by
  by_cases h : (i : Int) < (L.length : Int)
  ·by_cases g : wrap64 ((L.length : Int) / 20) > 12
   ·exact ⟨_, _, Ev.step (fun k => F64.l0.eq_2 ..) (Ev.pos h (Ev.neg (by omega) (Ev.pos g (Ev.now _))))⟩
   ·exact ⟨_, _, Ev.step (fun k => F64.l0.eq_2 ..) (Ev.pos h (Ev.neg (by omega) (Ev.neg g (Ev.now _))))⟩
  ·by_cases g : wrap64 ((L.length : Int) / 20) > 12
   ·exact ⟨_, _, Ev.step (fun k => F64.l0.eq_2 ..) (Ev.neg h (Ev.pos g (Ev.now _)))⟩
   ·exact ⟨_, _, Ev.step (fun k => F64.l0.eq_2 ..) (Ev.neg h (Ev.neg g (Ev.now _)))⟩
 | d + 1, i, mix, hd, hi => by
  by_cases h : (i : Int) < (L.length : Int)
  ·have hw : wrap64 ((i : Int) + 1) = ((i + 1 : Nat) : Int) := by rw [wrap_id (by omega) (by omega)]; omega
   obtain ⟨m', s', e⟩ := source_loop L hl d (i + 1) (IntKind.u64.wrap ((Go.bits .xor .u64 mix (IntKind.u64.wrap (rd L (i : Int)))) * 1099511628211)) (by omega) (by omega)
   rw [← hw] at e
   exact ⟨m', s', Ev.step (fun k => F64.l0.eq_2 ..) (Ev.pos h (Ev.pos (by omega) (Ev.pos (by omega) e)))⟩
  ·by_cases g : wrap64 ((L.length : Int) / 20) > 12
   ·exact ⟨_, _, Ev.step (fun k => F64.l0.eq_2 ..) (Ev.neg h (Ev.pos g (Ev.now _)))⟩
   ·exact ⟨_, _, Ev.step (fun k => F64.l0.eq_2 ..) (Ev.neg h (Ev.neg g (Ev.now _)))⟩
theorem source_ev (L : List Int) (hl : L.length ≤ 1048576) : ∃ mix size, Ev (fun k => F64.f k L) (L, 0, mix, size) :=
 source_loop L hl 64 0 _ rfl (by omega)
theorem src_edge (b : List Int) (p mix size : Int) (hb : b.length ≤ 1048576) (h0 : 0 ≤ p) (h1 : p ≤ (b.length : Int)) : ∃ r p' mix', F108.f b p mix size = some (r, p', mix', size) ∧ 0 ≤ p' ∧ p' ≤ (b.length : Int) := by
 obtain ⟨r, p', mix', h, h2, h3, h4, h5⟩ := src_n b p mix size 14 hb h0 h1 (by omega) (by omega)
 unfold F108.f
 simp only [Option.bind_some, h]
 rw [if_pos h4, if_pos (by simp; omega)]
 exact ⟨_, _, _, rfl, h2, h3⟩
theorem syntax_j0 (b : List Int) (p mix size x0 x1 x2 x3 : Int) (hb : b.length ≤ 1048576) (h0 : 0 ≤ p) (h1 : p ≤ (b.length : Int)) : ∃ y0 y1 y2 y3 p' mix', Ev (fun k => F65.j0 k b p mix size x0 x1 x2 x3) (y0, y1, y2, y3, p', mix', size) ∧ 0 ≤ p' ∧ p' ≤ (b.length : Int) := by
 obtain ⟨r1, p1, m1, e1, a1, b1⟩ := src_one b p mix size 30 hb h0 h1 (by omega) (by omega)
 cases r1 with
 | false => exact ⟨_, _, _, _, _, _, Ev.step (fun k => F65.j0.eq_2 ..) (Ev.bindc e1 (Ev.neg (by simp) (Ev.now _))), a1, b1⟩
 | true =>
  obtain ⟨r2, p2, m2, e2, a2, b2, c2, d2⟩ := src_n b p1 m1 size 3 hb a1 b1 (by omega) (by omega)
  by_cases g0 : r2 = 0
  ·exact ⟨_, _, _, _, _, _, Ev.step (fun k => F65.j0.eq_2 ..) (Ev.bindc e1 (Ev.pos rfl (Ev.bindc e2 (Ev.pos g0 (Ev.now _))))), a2, b2⟩
  ·by_cases g1 : r2 = 1
   ·obtain ⟨r3, p3, m3, e3, a3, b3, c3, d3⟩ := src_n b p2 m2 size 6 hb a2 b2 (by omega) (by omega)
    exact ⟨_, _, _, _, _, _, Ev.step (fun k => F65.j0.eq_2 ..) (Ev.bindc e1 (Ev.pos rfl (Ev.bindc e2 (Ev.neg g0 (Ev.pos g1 (Ev.bindc rfl (Ev.bindc e3 (Ev.pos c3 (Ev.pos (show r3 < (([32, 127, 65, 48, 45, 300] : List Int).length : Int) by simp; omega) (Ev.now _)))))))))), a3, b3⟩
   ·obtain ⟨r3, p3, m3, e3, a3, b3⟩ := src_edge b p2 m2 size hb a2 b2
    exact ⟨_, _, _, _, _, _, Ev.step (fun k => F65.j0.eq_2 ..) (Ev.bindc e1 (Ev.pos rfl (Ev.bindc e2 (Ev.neg g0 (Ev.neg g1 (Ev.bindc e3 (Ev.now _))))))), a3, b3⟩
theorem syntax_draw (b : List Int) (p mix size : Int) (hb : b.length ≤ 1048576) (h0 : 0 ≤ p) (h1 : p ≤ (b.length : Int)) : ∃ y0 y1 y2 y3 p' mix', Ev (fun k => F65.f k b p mix size) (y0, y1, y2, y3, p', mix', size) ∧ 0 ≤ p' ∧ p' ≤ (b.length : Int) := by
 unfold F65.f
 obtain ⟨r1, p1, m1, e1, a1, b1⟩ := src_one b p mix size 4 hb h0 h1 (by omega) (by omega)
 cases r1 with
 | false =>
  obtain ⟨y0, y1, y2, y3, p2, m2, e2, a2, b2⟩ := syntax_j0 b p1 m1 size 39 43 58 63 hb a1 b1
  exact ⟨_, _, _, _, _, _, Ev.bindc (show F107.f = some (39, 43, 58, 63) from rfl) (Ev.bindc e1 (Ev.neg (by simp) e2)), a2, b2⟩
 | true =>
  obtain ⟨r2, p2, m2, e2, a2, b2, c2, d2⟩ := src_n b p1 m1 size 9 hb a1 b1 (by omega) (by omega)
  have w1 : wrap64 (r2 + 1) = r2 + 1 := wrap_id (by omega) (by omega)
  have w2 : wrap64 (r2 + 2) = r2 + 2 := wrap_id (by omega) (by omega)
  have w3 : wrap64 (r2 + 3) = r2 + 3 := wrap_id (by omega) (by omega)
  obtain ⟨y0, y1, y2, y3, p3, m3, e3, a3, b3⟩ := syntax_j0 b p2 m2 size (rd [33, 35, 36, 37, 38, 42, 47, 61, 64, 94, 124, 126] r2) (rd [33, 35, 36, 37, 38, 42, 47, 61, 64, 94, 124, 126] (wrap64 (r2 + 1))) (rd [33, 35, 36, 37, 38, 42, 47, 61, 64, 94, 124, 126] (wrap64 (r2 + 2))) (rd [33, 35, 36, 37, 38, 42, 47, 61, 64, 94, 124, 126] (wrap64 (r2 + 3))) hb a2 b2
  have l12 : (([33, 35, 36, 37, 38, 42, 47, 61, 64, 94, 124, 126] : List Int).length : Int) = 12 := rfl
  exact ⟨_, _, _, _, _, _, Ev.bindc (show F107.f = some (39, 43, 58, 63) from rfl) (Ev.bindc e1 (Ev.pos rfl (Ev.bindc rfl (Ev.bindc e2 (Ev.pos c2 (Ev.pos (by rw [l12]; omega) (Ev.pos (by rw [w1]; omega) (Ev.pos (by rw [w1, l12]; omega) (Ev.pos (by rw [w2]; omega) (Ev.pos (by rw [w2, l12]; omega) (Ev.pos (by rw [w3]; omega) (Ev.pos (by rw [w3, l12]; omega) e3)))))))))))), a3, b3⟩
theorem words_loop (b : List Int) (size a0 a1 a2 a3 : Int) (hb : b.length ≤ 1048576) : ∀ (n : Nat) (p mix : Int) (acc : List Int), 0 ≤ p → p ≤ (b.length : Int) → acc.length + n ≤ 1000 → ∃ s p' mix', Ev (fun k => F71.l0 k (n : Int) acc b p mix size a0 a1 a2 a3) (s, p', mix', size) ∧ s.size = acc.length + n ∧ 0 ≤ p' ∧ p' ≤ (b.length : Int)
 | 0, p, mix, acc, h0, h1, hn => ⟨_, _, _, Ev.step (fun k => F71.l0.eq_2 ..) (Ev.neg (by omega) (Ev.now _)), by rw [size_strOf]; rfl, h0, h1⟩
 | n + 1, p, mix, acc, h0, h1, hn => by
  obtain ⟨r, p1, m1, e1, q0, q1, q2, q3⟩ := src_n b p mix size 6 hb h0 h1 (by omega) (by omega)
  have hw : wrap64 (((n + 1 : Nat) : Int) - 1) = (n : Int) := by rw [wrap_id (by omega) (by omega)]; omega
  have stp : ∀ (c p2 m2 : Int), 0 ≤ p2 → p2 ≤ (b.length : Int) → ∃ s p' mix', Ev (fun k => if acc.length < 140737488355328 then (F71.l0 k (wrap64 (((n + 1 : Nat) : Int) - 1)) (acc ++ [c]) b p2 m2 size a0 a1 a2 a3) else none) (s, p', mix', size) ∧ s.size = acc.length + (n + 1) ∧ 0 ≤ p' ∧ p' ≤ (b.length : Int) := by
   intro c p2 m2 g0 g1
   obtain ⟨s, p', m', e, f1, f2, f3⟩ := words_loop b size a0 a1 a2 a3 hb n p2 m2 (acc ++ [c]) g0 g1 (by simp; omega)
   rw [hw]
   exact ⟨s, p', m', Ev.pos (by omega) e, by rw [f1]; simp; omega, f2, f3⟩
  by_cases g0 : r = 0
  ·obtain ⟨s, p', m', e, f⟩ := stp (a0 % 256) p1 m1 q0 q1
   exact ⟨s, p', m', Ev.step (fun k => F71.l0.eq_2 ..) (Ev.pos (by omega) (Ev.bindc e1 (Ev.pos g0 e))), f⟩
  by_cases g1 : r = 1
  ·obtain ⟨s, p', m', e, f⟩ := stp (a1 % 256) p1 m1 q0 q1
   exact ⟨s, p', m', Ev.step (fun k => F71.l0.eq_2 ..) (Ev.pos (by omega) (Ev.bindc e1 (Ev.neg g0 (Ev.pos g1 e)))), f⟩
  by_cases g2 : r = 2
  ·obtain ⟨s, p', m', e, f⟩ := stp (a2 % 256) p1 m1 q0 q1
   exact ⟨s, p', m', Ev.step (fun k => F71.l0.eq_2 ..) (Ev.pos (by omega) (Ev.bindc e1 (Ev.neg g0 (Ev.neg g1 (Ev.pos g2 e))))), f⟩
  by_cases g3 : r = 3
  ·obtain ⟨s, p', m', e, f⟩ := stp (a3 % 256) p1 m1 q0 q1
   exact ⟨s, p', m', Ev.step (fun k => F71.l0.eq_2 ..) (Ev.pos (by omega) (Ev.bindc e1 (Ev.neg g0 (Ev.neg g1 (Ev.neg g2 (Ev.pos g3 e)))))), f⟩
  obtain ⟨r2, p2, m2, e2, s0, s1, s2, s3⟩ := src_n b p1 m1 size 6 hb q0 q1 (by omega) (by omega)
  obtain ⟨s, p', m', e, f⟩ := stp (bt (⟨#[65, 66, 99, 32, 49, 45]⟩ : ByteArray) r2) p2 m2 s0 s1
  exact ⟨s, p', m', Ev.step (fun k => F71.l0.eq_2 ..) (Ev.pos (by omega) (Ev.bindc e1 (Ev.neg g0 (Ev.neg g1 (Ev.neg g2 (Ev.neg g3 (Ev.bindc e2 (Ev.pos s2 (Ev.pos s3 e))))))))), f⟩
theorem words_ev (b : List Int) (p mix size a0 a1 a2 a3 n : Int) (hb : b.length ≤ 1048576) (h0 : 0 ≤ p) (h1 : p ≤ (b.length : Int)) (hn : 0 ≤ n) (hn2 : n ≤ 100) : ∃ s p' mix', Ev (fun k => F71.f k b p mix size a0 a1 a2 a3 n) (s, p', mix', size) ∧ (s.size : Int) = n ∧ 0 ≤ p' ∧ p' ≤ (b.length : Int) := by
 obtain ⟨m, rfl⟩ := Int.eq_ofNat_of_zero_le hn
 obtain ⟨s, p', m', e, f1, f2, f3⟩ := words_loop b size a0 a1 a2 a3 hb m p mix [] h0 h1 (by simp; omega)
 exact ⟨s, p', m', e, by rw [f1]; simp, f2, f3⟩
theorem src_pick (b : List Int) (p mix size : Int) (l : List ByteArray) (hb : b.length ≤ 1048576) (h0 : 0 ≤ p) (h1 : p ≤ (b.length : Int)) (hl : 2 ≤ l.length) (hl2 : l.length ≤ 100) (hs : ∀ x ∈ l, x.size ≤ 100) : ∃ t p' mix', F119.f b p mix size l = some (t, p', mix', size) ∧ 0 ≤ p' ∧ p' ≤ (b.length : Int) ∧ t.size ≤ 100 := by
 obtain ⟨r, p', mix', h, h2, h3, h4, h5⟩ := src_n b p mix size (l.length : Int) hb h0 h1 (by omega) (by omega)
 refine ⟨rdOf ByteArray.empty l r, p', mix', ?_, h2, h3, ?_⟩
 ·unfold F119.f
  rw [h]
  simp only [Option.bind_some]
  rw [if_pos h4, if_pos h5]
 ·have hm : rdOf ByteArray.empty l r ∈ l := by
   unfold rdOf
   rw [List.getD_eq_getElem?_getD, List.getElem?_eq_getElem (by omega)]
   exact List.getElem_mem _
  exact hs _ hm
def SegD (b : List Int) (size : Int) (g : Nat → Option (ByteArray × (List S102) × Int × Int × Int)) : Prop := ∃ s L p' mix', Ev g (s, L, p', mix', size) ∧ L.length ≤ 13 ∧ (∀ e ∈ L, bEl e.f0) ∧ 0 ≤ p' ∧ p' ≤ (b.length : Int)
theorem SegD.of {b : List Int} {size : Int} {g g' : Nat → Option (ByteArray × (List S102) × Int × Int × Int)} (h : SegD b size g) (f : ∀ r, Ev g r → Ev g' r) : SegD b size g' := by
 obtain ⟨s, L, p', m', e, h⟩ := h
 exact ⟨s, L, p', m', f _ e, h⟩
theorem bEl_snoc {L : List S102} {e : S102} (h : ∀ e ∈ L, bEl e.f0) (he : bEl e.f0) : ∀ x ∈ L ++ [e], bEl x.f0 := by
 intro x hx
 rcases List.mem_append.1 hx with h1 | h1
 ·exact h x h1
 ·simp at h1; subst h1; exact he
theorem seg_j4 (b : List Int) (p mix size : Int) (t : ByteArray) (L : List S102) (hb : b.length ≤ 1048576) (h0 : 0 ≤ p) (h1 : p ≤ (b.length : Int)) (hL : L.length ≤ 12) (hE : ∀ e ∈ L, bEl e.f0) : SegD b size (fun k => F97.j4 k b p mix size t L) := by
 obtain ⟨r1, p1, m1, e1, a1, b1⟩ := src_one b p mix size 20 hb h0 h1 (by omega) (by omega)
 cases r1 with
 | false => exact ⟨_, _, _, _, Ev.step (fun k => F97.j4.eq_2 ..) (Ev.bindc e1 (Ev.neg (by simp) (Ev.now _))), by omega, hE, a1, b1⟩
 | true =>
  obtain ⟨r2, p2, m2, e2, a2, b2, c2, d2⟩ := src_n b p1 m1 size 3 hb a1 b1 (by omega) (by omega)
  by_cases g0 : r2 = 0
  ·obtain ⟨u, p3, m3, e3, a3, b3, _⟩ := src_pick b p2 m2 size [(⟨#[]⟩ : ByteArray), (⟨#[65, 66]⟩ : ByteArray), (⟨#[65, 66, 67, 68]⟩ : ByteArray), (⟨#[65, 66, 49]⟩ : ByteArray), (⟨#[97, 98, 99]⟩ : ByteArray)] hb a2 b2 (by simp) (by simp) (by intro x hx; simp at hx; rcases hx with h | h | h | h | h <;> subst h <;> decide)
   exact ⟨_, _, _, _, Ev.step (fun k => F97.j4.eq_2 ..) (Ev.bindc e1 (Ev.pos rfl (Ev.bindc e2 (Ev.pos g0 (Ev.bindc e3 (Ev.now _)))))), by omega, hE, a3, b3⟩
  ·by_cases g1 : r2 = 1
   ·exact ⟨_, _, _, _, Ev.step (fun k => F97.j4.eq_2 ..) (Ev.bindc e1 (Ev.pos rfl (Ev.bindc e2 (Ev.neg g0 (Ev.pos g1 (Ev.pos (by omega) (Ev.now _))))))), by simp; omega, bEl_snoc hE ⟨by simp, by simp⟩, a2, b2⟩
   ·obtain ⟨u, p3, m3, e3, a3, b3, c3⟩ := src_pick b p2 m2 size [(⟨#[10]⟩ : ByteArray), (⟨#[255]⟩ : ByteArray), (⟨#[97]⟩ : ByteArray)] hb a2 b2 (by simp) (by simp) (by intro x hx; simp at hx; rcases hx with h | h | h <;> subst h <;> decide)
    obtain ⟨v, p4, m4, e4, a4, b4, c4⟩ := src_pick b p3 m3 size [(⟨#[]⟩ : ByteArray), (⟨#[98]⟩ : ByteArray)] hb a3 b3 (by simp) (by simp) (by intro x hx; simp at hx; rcases hx with h | h <;> subst h <;> decide)
    refine ⟨_, _, _, _, Ev.step (fun k => F97.j4.eq_2 ..) (Ev.bindc e1 (Ev.pos rfl (Ev.bindc e2 (Ev.neg g0 (Ev.neg g1 (Ev.bindc e3 (Ev.bindc e4 (Ev.pos (by omega) (Ev.now _))))))))), by simp; omega, bEl_snoc hE ⟨by simp, ?_⟩, a4, b4⟩
    intro x hx
    simp at hx
    rcases hx with h | h <;> subst h <;> omega
theorem seg_l2 (b : List Int) (size : Int) (t : ByteArray) (hb : b.length ≤ 1048576) : ∀ (n : Nat) (p mix : Int) (L : List S102), L.length = n → n ≤ 12 → (∀ e ∈ L, bEl e.f0) → 0 ≤ p → p ≤ (b.length : Int) → SegD b size (fun k => F97.l2 k b p mix size t L)
 | 0, p, mix, L, hn, hl, hE, h0, h1 => (seg_j4 b p mix size t L hb h0 h1 (by omega) hE).of (fun r e => Ev.step (fun k => F97.l2.eq_2 ..) (Ev.neg (by omega) e))
 | n + 1, p, mix, L, hn, hl, hE, h0, h1 => by
  have hw : wrap64 ((L.length : Int) - 1) = (n : Int) := by rw [wrap_id (by omega) (by omega)]; omega
  cases hm : emptyE (rd_T102 L (wrap64 ((L.length : Int) - 1))).f0 with
  | false => exact (seg_j4 b p mix size t L hb h0 h1 (by omega) hE).of (fun r e => Ev.step (fun k => F97.l2.eq_2 ..) (Ev.pos (by omega) (Ev.pos (by omega) (Ev.pos (by omega) (Ev.bindc (l02Empty_eq _) (Ev.neg (by simp [hm]) e))))))
  | true =>
   obtain ⟨r1, p1, m1, e1, a1, b1⟩ := src_one b p mix size 20 hb h0 h1 (by omega) (by omega)
   cases r1 with
   | true => exact (seg_j4 b p1 m1 size t L hb a1 b1 (by omega) hE).of (fun r e => Ev.step (fun k => F97.l2.eq_2 ..) (Ev.pos (by omega) (Ev.pos (by omega) (Ev.pos (by omega) (Ev.bindc (l02Empty_eq _) (Ev.pos hm (Ev.bindc e1 (Ev.pos rfl e))))))))
   | false =>
    have ht : (L.take (wrap64 ((L.length : Int) - 1)).toNat).length = n := by rw [hw]; simp; omega
    exact (seg_l2 b size t hb n p1 m1 _ ht (by omega) (fun e he => hE e (List.mem_of_mem_take he)) a1 b1).of (fun r e => Ev.step (fun k => F97.l2.eq_2 ..) (Ev.pos (by omega) (Ev.pos (by omega) (Ev.pos (by omega) (Ev.bindc (l02Empty_eq _) (Ev.pos hm (Ev.bindc e1 (Ev.neg (by simp) (Ev.pos (by omega) e)))))))))
theorem seg_l1 (b : List Int) (size x0 x1 x2 x3 x5 : Int) (t : ByteArray) (hb : b.length ≤ 1048576) (L : List S102) (hL : L.length ≤ 12)
  (hnext : ∀ (p mix : Int) (e : S102), bEl e.f0 → 0 ≤ p → p ≤ (b.length : Int) → SegD b size (fun k => F97.l0 k (wrap64 (x5 - 1)) b p mix size x0 x1 x2 x3 t (L ++ [e]))) :
  ∀ (n : Nat) (p mix : Int) (acc : List ByteArray), 1 ≤ acc.length + n → acc.length + n ≤ 10 → (∀ s ∈ acc, s.size ≤ 100) → 0 ≤ p → p ≤ (b.length : Int) → SegD b size (fun k => F97.l1 k x5 (n : Int) b p mix size x0 x1 x2 x3 t L acc)
 | 0, p, mix, acc, ha, ha2, hs, h0, h1 => by
  obtain ⟨r1, p1, m1, e1, a1, b1⟩ := src_one b p mix size 60 hb h0 h1 (by omega) (by omega)
  have hacc : bEl acc := ⟨by omega, fun s h => by have := hs s h; omega⟩
  cases r1 with
  | false => exact (hnext p1 m1 ⟨acc⟩ hacc a1 b1).of (fun r e => Ev.step (fun k => F97.l1.eq_2 ..) (Ev.neg (by omega) (Ev.bindc e1 (Ev.neg (by simp) (Ev.pos (by omega) e)))))
  | true =>
   obtain ⟨r2, p2, m2, e2, a2, b2, c2, d2⟩ := src_n b p1 m1 size 3 hb a1 b1 (by omega) (by omega)
   have hw : wrap64 (39 + r2) = 39 + r2 := wrap_id (by omega) (by omega)
   obtain ⟨s, p3, m3, e3, hs3, a3, b3⟩ := words_ev b p2 m2 size x0 x1 x2 x3 (39 + r2) hb a2 b2 (by omega) (by omega)
   rw [← hw] at e3
   have hset : bEl (acc.set (0 : Int).toNat s) := by
    refine ⟨by rw [List.length_set]; omega, fun q hq => ?_⟩
    rcases List.mem_or_eq_of_mem_set hq with h | h
    ·have := hs q h; omega
    ·subst h; omega
   exact (hnext p3 m3 ⟨acc.set (0 : Int).toNat s⟩ hset a3 b3).of (fun r e => Ev.step (fun k => F97.l1.eq_2 ..) (Ev.neg (by omega) (Ev.bindc e1 (Ev.pos rfl (Ev.bindc e2 (Ev.bind e3 (Ev.pos (by omega) (Ev.pos (by omega) e))))))))
 | n + 1, p, mix, acc, ha, ha2, hs, h0, h1 => by
  obtain ⟨r1, p1, m1, e1, a1, b1, c1, d1⟩ := src_n b p mix size 6 hb h0 h1 (by omega) (by omega)
  obtain ⟨s, p2, m2, e2, hs2, a2, b2⟩ := words_ev b p1 m1 size x0 x1 x2 x3 r1 hb a1 b1 c1 (by omega)
  have hw : wrap64 (((n + 1 : Nat) : Int) - 1) = (n : Int) := by rw [wrap_id (by omega) (by omega)]; omega
  have ih := seg_l1 b size x0 x1 x2 x3 x5 t hb L hL hnext n p2 m2 (acc ++ [s]) (by simp; omega) (by simp; omega) (fun q hq => by
   rcases List.mem_append.1 hq with h | h
   ·exact hs q h
   ·simp at h; subst h; omega) a2 b2
  rw [← hw] at ih
  exact ih.of (fun r e => Ev.step (fun k => F97.l1.eq_2 ..) (Ev.pos (by omega) (Ev.bindc e1 (Ev.bind e2 (Ev.pos (by omega) e)))))
theorem seg_l0 (b : List Int) (size x0 x1 x2 x3 : Int) (t : ByteArray) (hb : b.length ≤ 1048576) : ∀ (n : Nat) (p mix : Int) (L : List S102), L.length + n ≤ 12 → (∀ e ∈ L, bEl e.f0) → 0 ≤ p → p ≤ (b.length : Int) → SegD b size (fun k => F97.l0 k (n : Int) b p mix size x0 x1 x2 x3 t L)
 | 0, p, mix, L, hn, hE, h0, h1 => (seg_l2 b size t hb _ p mix L rfl (by omega) hE h0 h1).of (fun r e => Ev.step (fun k => F97.l0.eq_2 ..) (Ev.neg (by omega) e))
 | n + 1, p, mix, L, hn, hE, h0, h1 => by
  obtain ⟨r1, p1, m1, e1, a1, b1, c1, d1⟩ := src_n b p mix size 2 hb h0 h1 (by omega) (by omega)
  obtain ⟨r2, p2, m2, e2, a2, b2, c2, d2⟩ := src_n b p1 m1 size 4 hb a1 b1 (by omega) (by omega)
  have hw : wrap64 (((n + 1 : Nat) : Int) - 1) = (n : Int) := by rw [wrap_id (by omega) (by omega)]; omega
  obtain ⟨m, hm, hm2⟩ : ∃ m : Nat, wrap64 (1 + wrap64 (r1 * r2)) = ((m + 1 : Nat) : Int) ∧ m ≤ 3 := by
   rcases (show r1 = 0 ∨ r1 = 1 by omega) with h | h
   ·exact ⟨0, by rw [h, Int.zero_mul, wrap_id (x := 0) (by omega) (by omega), wrap_id (by omega) (by omega)]; rfl, by omega⟩
   ·refine ⟨r2.toNat, ?_, by omega⟩
    rw [h, Int.one_mul, wrap_id (x := r2) (by omega) (by omega), wrap_id (by omega) (by omega)]
    omega
  have ih := seg_l1 b size x0 x1 x2 x3 ((n + 1 : Nat) : Int) t hb L (by omega) (fun p mix e he h0 h1 => by
   rw [hw]
   exact seg_l0 b size x0 x1 x2 x3 t hb n p mix (L ++ [e]) (by simp; omega) (bEl_snoc hE he) h0 h1) (m + 1) p2 m2 [] (by simp) (by simp; omega) (by simp) a2 b2
  rw [← hm] at ih
  exact ih.of (fun r e => Ev.step (fun k => F97.l0.eq_2 ..) (Ev.pos (by omega) (Ev.bindc e1 (Ev.bindc e2 e))))
theorem seg_draw (b : List Int) (p mix size : Int) (hb : b.length ≤ 1048576) (h0 : 0 ≤ p) (h1 : p ≤ (b.length : Int)) : SegD b size (fun k => F97.f k b p mix size) := by
 unfold F97.f
 obtain ⟨t, p1, m1, e1, a1, b1, _⟩ := src_pick b p mix size [(⟨#[68, 79, 67]⟩ : ByteArray), (⟨#[76, 73, 78]⟩ : ByteArray), (⟨#[78, 79, 84]⟩ : ByteArray), (⟨#[65, 66, 67]⟩ : ByteArray), (⟨#[73, 88, 72]⟩ : ByteArray)] hb h0 h1 (by simp) (by simp) (by intro x hx; simp at hx; rcases hx with h | h | h | h | h <;> subst h <;> decide)
 obtain ⟨r2, p2, m2, e2, a2, b2, c2, d2⟩ := src_n b p1 m1 size 5 hb a1 b1 (by omega) (by omega)
 obtain ⟨r3, p3, m3, e3, a3, b3⟩ := src_one b p2 m2 size 40 hb a2 b2 (by omega) (by omega)
 have j0 : ∀ (n : Int) (p mix : Int), 0 ≤ n → n ≤ 12 → 0 ≤ p → p ≤ (b.length : Int) → SegD b size (fun k => F97.j0 k n b p mix size 39 43 58 63 t) := by
  intro n p mix h0 h1 h2 h3
  obtain ⟨m, rfl⟩ := Int.eq_ofNat_of_zero_le h0
  exact (seg_l0 b size 39 43 58 63 t hb m p mix [] (by simp; omega) (by simp) h2 h3).of (fun r e => Ev.step (fun k => F97.j0.eq_2 ..) e)
 have pl : F107.f = some (39, 43, 58, 63) := rfl
 cases r3 with
 | false => exact (j0 r2 p3 m3 c2 (by omega) a3 b3).of (fun r e => Ev.bindc pl (Ev.bindc e1 (Ev.bindc e2 (Ev.bindc e3 (Ev.neg (by simp) e)))))
 | true =>
  obtain ⟨r4, p4, m4, e4, a4, b4, c4, d4⟩ := src_n b p3 m3 size 3 hb a3 b3 (by omega) (by omega)
  have hw : wrap64 (9 + r4) = 9 + r4 := wrap_id (by omega) (by omega)
  have h := j0 (9 + r4) p4 m4 (by omega) (by omega) a4 b4
  rw [← hw] at h
  exact h.of (fun r e => Ev.bindc pl (Ev.bindc e1 (Ev.bindc e2 (Ev.bindc e3 (Ev.pos rfl (Ev.bindc e4 e))))))
def partsR (a b c d : Int) : List (List Int) → Int → Int ⊕ List ByteArray
 | [], _ => .inr []
 | p :: r, pl => match unL a b c d p 0 with
  | .inl q => .inl (pl + q)
  | .inr t => if partB (strOfNums t) then (match partsR a b c d r (pl + (p.length : Int) + 1) with | .inl q => .inl q | .inr l => .inr (strOfNums t :: l)) else .inl pl
def elR (a b c d : Int) (t : List Int) (at_ : Int) : Int ⊕ List ByteArray :=
 if (cutL d c t).length > 4 then .inl at_ else match partsR a b c d (cutL d c t) at_ with
  | .inl q => .inl q
  | .inr l => if (cutL d c t).length > 1 ∧ lastE l = true then .inl at_ else .inr l
def elsR (a b c d : Int) : Nat → List (List Int) → Int → Int ⊕ List S102
 | _, [], _ => .inr []
 | i, p :: r, at_ => if i = 10 then .inl at_ else match elR a b c d p at_ with
  | .inl q => .inl q
  | .inr l => if r = [] ∧ emptyE l = true then .inl at_ else (match elsR a b c d (i + 1) r (at_ + (p.length : Int) + 1) with | .inl q => .inl q | .inr L => .inr (⟨l⟩ :: L))
def segR (a b c d : Int) (t : List Int) : ByteArray × (List S102) × Int × Int × Int :=
 if t = [] then ((⟨#[]⟩ : ByteArray), [], 0, 0, 6) else
 match cutL d a t with
 | h :: _ :: _ => (match cutL d b h with
  | g :: r => if tagB (strOfNums g) then (match elsR a b c d 0 r ((g.length : Int) + 1) with | .inl q => ((⟨#[]⟩ : ByteArray), [], 0, q, 3) | .inr L => (strOfNums g, L, (h.length : Int) + 1, 0, 0)) else ((⟨#[]⟩ : ByteArray), [], 0, 0, 3)
  | [] => ((⟨#[]⟩ : ByteArray), [], 0, 0, 3))
 | _ => ((⟨#[]⟩ : ByteArray), [], 0, 0, 4)
theorem hdP_len (v : List Int) (L : List (List Int)) (h : L ≠ []) : ∀ p ∈ hdP v L, ∃ q ∈ L, p = q ∨ p = v ++ q := by
 cases L with
 | nil => exact absurd rfl h
 | cons x t =>
  intro p hp
  simp only [hdP, List.mem_cons] at hp
  rcases hp with h | h
  ·exact ⟨x, by simp, .inr h⟩
  ·exact ⟨p, by simp [h], .inl rfl⟩
def tot : List (List Int) → Nat
 | [] => 0
 | h :: t => h.length + 1 + tot t
theorem tot_hdP (v : List Int) (L : List (List Int)) (h : L ≠ []) : tot (hdP v L) = v.length + tot L := by
 cases L with
 | nil => exact absurd rfl h
 | cons x t => simp [hdP, tot]; omega
theorem tot_cut (d m : Int) : ∀ (n : Nat) (l : List Int), l.length ≤ n → tot (cutL d m l) = l.length + 1 := by
 intro n
 induction n using Nat.strongRecOn with
 | _ n ih =>
  intro l hn
  match l, hn with
  | [], _ => simp [cutL, tot]
  | [x], _ =>
   unfold cutL
   split
   ·simp [tot]
   ·split <;> simp [tot]
  | x :: y :: r, hn =>
   simp only [List.length_cons] at hn ⊢
   unfold cutL
   split
   ·rw [tot_hdP _ _ (cutL_ne d m r), ih (n - 2) (by omega) r (by omega)]
    simp; omega
   ·split
    ·simp only [tot, List.length_nil]
     rw [ih (n - 1) (by omega) (y :: r) (by simp; omega)]
     simp; omega
    ·rw [tot_hdP _ _ (cutL_ne d m (y :: r)), ih (n - 1) (by omega) (y :: r) (by simp; omega)]
     simp; omega
theorem tot_mem {p : List Int} : ∀ {L : List (List Int)}, p ∈ L → p.length + 1 ≤ tot L
 | h :: t, hp => by
  simp only [tot]
  rcases List.mem_cons.1 hp with e | e
  ·subst e; omega
  ·have := tot_mem e; omega
theorem tot_len : ∀ L : List (List Int), L.length ≤ tot L
 | [] => by simp [tot]
 | h :: t => by have := tot_len t; simp [tot]; omega
theorem cut_mem (d m : Int) {c : Int} : ∀ (n : Nat) (l : List Int), l.length ≤ n → ∀ p ∈ cutL d m l, c ∈ p → c ∈ l := by
 intro n
 induction n using Nat.strongRecOn with
 | _ n ih =>
  intro l hn p hp hc
  match l, hn with
  | [], _ => simp [cutL] at hp; subst hp; simp at hc
  | [x], _ =>
   unfold cutL at hp
   split at hp
   ·simp at hp; subst hp; exact hc
   ·split at hp <;> simp at hp <;> (try subst hp) <;> simp_all
  | x :: y :: r, hn =>
   simp only [List.length_cons] at hn
   unfold cutL at hp
   split at hp
   ·obtain ⟨q, hq, e⟩ := hdP_len _ _ (cutL_ne d m r) p hp
    have := ih (n - 2) (by omega) r (by omega) q hq
    rcases e with e | e <;> subst e
    ·simp [this hc]
    ·rcases List.mem_append.1 hc with h | h
     ·simp at h; rcases h with h | h <;> simp [h]
     ·simp [this h]
   ·split at hp
    ·rcases List.mem_cons.1 hp with e | e
     ·subst e; simp at hc
     ·have := ih (n - 1) (by omega) (y :: r) (by simp; omega) p e hc
      exact List.mem_cons_of_mem _ this
    ·obtain ⟨q, hq, e⟩ := hdP_len _ _ (cutL_ne d m (y :: r)) p hp
     have := ih (n - 1) (by omega) (y :: r) (by simp; omega) q hq
     rcases e with e | e <;> subst e
     ·exact List.mem_cons_of_mem _ (this hc)
     ·rcases List.mem_append.1 hc with h | h
      ·simp at h; simp [h]
      ·exact List.mem_cons_of_mem _ (this h)
theorem cut_bytes (d m : Int) (s : ByteArray) : ((cutL d m (bytesOf s)).map strOfNums).map bytesOf = cutL d m (bytesOf s) := by
 rw [List.map_map]
 have : ∀ p ∈ cutL d m (bytesOf s), (bytesOf ∘ strOfNums) p = p := by
  intro p hp
  exact bytesOf_strOf p (fun x hx => mem_bytesOf (cut_mem d m _ _ (Nat.le_refl _) p hp hx))
 rw [List.map_congr_left this]
 exact List.map_id' _
theorem unL_len (a b c d : Int) : ∀ (n : Nat) (l : List Int) (i : Int) (t : List Int), l.length ≤ n → unL a b c d l i = .inr t → t.length ≤ l.length := by
 intro n
 induction n using Nat.strongRecOn with
 | _ n ih =>
  intro l i t hn h
  match l, h, hn with
  | [], h, hn => simp [unL] at h; subst h; simp
  | [x], h, hn =>
   simp only [unL] at h
   split at h
   ·simp at h
   ·have : [x] = t := by simpa using h
    subst this; simp
  | x :: y :: r, h, hn =>
   simp only [List.length_cons] at hn ⊢
   simp only [unL] at h
   split at h
   ·split at h
    ·split at h
     ·cases h2 : unL a b c d r (i + 2) with
      | inl z => rw [h2] at h; simp at h
      | inr u =>
       rw [h2] at h
       have := ih (n - 2) (by omega) r (i + 2) u (by omega) h2
       have e : y :: u = t := by simpa using h
       subst e; simp; omega
     ·simp at h
    ·simp at h
   ·cases h2 : unL a b c d (y :: r) (i + 1) with
    | inl z => rw [h2] at h; simp at h
    | inr u =>
     rw [h2] at h
     have := ih (n - 1) (by omega) (y :: r) (i + 1) u (by simp; omega) h2
     have e : x :: u = t := by simpa using h
     subst e
     simp only [List.length_cons] at this ⊢
     omega
theorem partsR_at (a b c d : Int) : ∀ (P : List (List Int)) (pl q : Int), partsR a b c d P pl = .inl q → pl ≤ q ∧ q ≤ pl + (tot P : Int)
 | [], pl, q, h => by simp [partsR] at h
 | p :: r, pl, q, h => by
  simp only [partsR] at h
  simp only [tot]
  cases hu : unL a b c d p 0 with
  | inl z =>
   rw [hu] at h
   have h1 := unL_at a b c d _ p 0 z (Nat.le_refl _) hu
   have : pl + z = q := by simpa using h
   omega
  | inr t =>
   rw [hu] at h
   dsimp only at h
   split at h
   ·cases hr : partsR a b c d r (pl + (p.length : Int) + 1) with
    | inl z =>
     rw [hr] at h
     have h1 := partsR_at a b c d r _ z hr
     have : z = q := by simpa using h
     omega
    | inr l => rw [hr] at h; simp at h
   ·have : pl = q := by simpa using h
    omega
theorem partsR_len (a b c d : Int) : ∀ (P : List (List Int)) (pl : Int) (l : List ByteArray), partsR a b c d P pl = .inr l → l.length = P.length
 | [], pl, l, h => by simp [partsR] at h; subst h; rfl
 | p :: r, pl, l, h => by
  simp only [partsR] at h
  cases hu : unL a b c d p 0 with
  | inl z => rw [hu] at h; simp at h
  | inr t =>
   rw [hu] at h
   dsimp only at h
   split at h
   ·cases hr : partsR a b c d r (pl + (p.length : Int) + 1) with
    | inl z => rw [hr] at h; simp at h
    | inr l2 =>
     rw [hr] at h
     have h1 := partsR_len a b c d r _ l2 hr
     have e : strOfNums t :: l2 = l := by simpa using h
     subst e; simp [h1]
   ·simp at h
theorem elR_at (a b c d : Int) (t : List Int) (at_ q : Int) (h : elR a b c d t at_ = .inl q) : at_ ≤ q ∧ q ≤ at_ + (t.length : Int) + 1 := by
 have ht := tot_cut d c _ t (Nat.le_refl _)
 unfold elR at h
 split at h
 ·have : at_ = q := by simpa using h
  omega
 ·cases hp : partsR a b c d (cutL d c t) at_ with
  | inl z =>
   rw [hp] at h
   have h1 := partsR_at a b c d _ _ _ hp
   have : z = q := by simpa using h
   omega
  | inr l =>
   rw [hp] at h
   dsimp only at h
   split at h
   ·have : at_ = q := by simpa using h
    omega
   ·simp at h
theorem implEl_loop (a b c d at_ : Int) (P : List ByteArray) (hP : P.length ≤ 4) (hs : ∀ p ∈ P, p.size ≤ 20000) : ∀ (r : List ByteArray) (i : Nat) (acc : List ByteArray) (pl : Int), P.drop i = r → acc.length = i → i ≤ P.length → 0 ≤ pl → pl ≤ 100000 + 30000 * (i : Int) →
  ∃ e f, Ev (fun k => F88.l0 k at_ P pl P (P.length : Int) (i : Int) a b c d acc) (e, f) ∧ (match partsR a b c d (r.map bytesOf) pl with | .inl q => f = q | .inr l => e = acc ++ l ∧ f = if P.length > 1 ∧ lastE (acc ++ l) = true then at_ else -1) := by
 intro r
 induction r with
 | nil =>
  intro i acc pl h ha hi h0 h1
  have e0 := ldrop_nil h
  refine ⟨acc, if P.length > 1 ∧ lastE acc = true then at_ else -1, Ev.step (fun k => F88.l0.eq_2 ..) (Ev.neg (by omega) ?_), by simp [partsR]⟩
  by_cases g : P.length > 1
  ·have hw : wrap64 ((P.length : Int) - 1) = (P.length : Int) - 1 := wrap_id (by omega) (by omega)
   have hla : (acc.length : Int) = (P.length : Int) := by omega
   refine Ev.pos (by omega) (Ev.pos (by omega) (Ev.pos (by omega) ?_))
   have hE : lastE acc = ((rdOf ByteArray.empty acc (wrap64 ((P.length : Int) - 1))).toList == ([] : List UInt8)) := by unfold lastE; rw [hla]
   by_cases g2 : (rdOf ByteArray.empty acc (wrap64 ((P.length : Int) - 1))).toList = ([] : List UInt8)
   ·exact Ev.pos g2 (Ev.ret (by rw [if_pos ⟨g, by rw [hE]; simpa using g2⟩]))
   ·exact Ev.neg g2 (Ev.ret (by rw [if_neg (fun h => g2 (by have := h.2; rw [hE] at this; simpa using this))]))
  ·exact Ev.neg (by omega) (Ev.ret (by rw [if_neg (fun h => g h.1)]))
 | cons p r ih =>
  intro i acc pl h ha hi h0 h1
  obtain ⟨h2, h3, h4⟩ := ldrop_cons ByteArray.empty h
  have hp : rdOf ByteArray.empty P (i : Int) = p := h3
  have hps := hs p (List.mem_of_mem_drop (by rw [h]; exact List.mem_cons_self))
  have hu := implUn_ev a b c d p (by omega)
  simp only [List.map_cons, partsR, length_bytesOf]
  have st : ∀ {R}, Ev (fun k => ((F63.f k a b c d (rdOf ByteArray.empty P (i : Int))).bind fun bt555 => (if bt555.2 ≥ 0 then (some (acc, wrap64 (pl + bt555.2))) else ((F82.f k bt555.1).bind fun t557 => (if t557 = true then (if acc.length < 8796093022208 then (F88.l0 k at_ P (wrap64 (pl + (wrap64 (((rdOf ByteArray.empty P (i : Int)).size : Int) + 1)))) P (P.length : Int) (wrap64 ((i : Int) + 1)) a b c d (acc ++ [bt555.1])) else (none)) else (some (acc, pl))))))) R → Ev (fun k => F88.l0 k at_ P pl P (P.length : Int) (i : Int) a b c d acc) R := fun e => Ev.step (fun k => F88.l0.eq_2 ..) (Ev.pos h2 (Ev.pos (by omega) (Ev.pos h2 e)))
  cases hq : unL a b c d (bytesOf p) 0 with
  | inl q =>
   rw [hq] at hu
   have hb := unL_at a b c d _ (bytesOf p) 0 q (Nat.le_refl _) hq
   rw [length_bytesOf] at hb
   exact ⟨acc, pl + q, st (by rw [hp]; exact Ev.bind hu (Ev.pos hb.1 (Ev.ret (show (acc, wrap64 (pl + q)) = (acc, pl + q) by rw [wrap_id (by omega) (by omega)])))), rfl⟩
  | inr t =>
   rw [hq] at hu
   have ht := unL_len a b c d _ (bytesOf p) 0 t (Nat.le_refl _) hq
   rw [length_bytesOf] at ht
   have hpart := implPart_ev (strOfNums t) (by rw [size_strOf]; omega)
   dsimp only
   by_cases g : partB (strOfNums t) = true
   ·obtain ⟨e, f, e1, e2⟩ := ih (i + 1) (acc ++ [strOfNums t]) (pl + (p.size : Int) + 1) h4 (by simp; omega) (by omega) (by omega) (by omega)
    have hw : wrap64 (pl + wrap64 ((p.size : Int) + 1)) = pl + (p.size : Int) + 1 := by rw [wrap_id (x := (p.size : Int) + 1) (by omega) (by omega), wrap_id (by omega) (by omega)]; omega
    rw [← hw, ← wi_ (by omega)] at e1
    refine ⟨e, f, st (by rw [hp]; exact Ev.bind hu (Ev.neg (by simp) (Ev.bind hpart (Ev.pos g (Ev.pos (by omega) e1))))), ?_⟩
    rw [if_pos g]
    cases hr : partsR a b c d (r.map bytesOf) (pl + (p.size : Int) + 1) with
    | inl z => rw [hr] at e2; exact e2
    | inr l => rw [hr] at e2; simpa using e2
   ·refine ⟨acc, pl, st (by rw [hp]; exact Ev.bind hu (Ev.neg (by simp) (Ev.bind hpart (Ev.neg g (Ev.now _))))), ?_⟩
    rw [if_neg g]
theorem implEl_ev (a b c d : Int) (s : ByteArray) (at_ : Int) (hs : s.size ≤ 20000) (h0 : 0 ≤ at_) (h1 : at_ ≤ 100000) : ∃ e f, Ev (fun k => F88.f k a b c d s at_) (e, f) ∧ (match elR a b c d (bytesOf s) at_ with | .inl q => f = q | .inr l => e = l ∧ f = -1) := by
 have hc := implCut_ev a b c d c s (by omega)
 have ht := tot_cut d c _ (bytesOf s) (Nat.le_refl _)
 rw [length_bytesOf] at ht
 unfold F88.f elR
 by_cases g : (cutL d c (bytesOf s)).length > 4
 ·exact ⟨_, _, Ev.bind hc (Ev.pos (by rw [List.length_map]; omega) (Ev.now _)), by rw [if_pos g]⟩
 ·have hsz : ∀ p ∈ (cutL d c (bytesOf s)).map strOfNums, p.size ≤ 20000 := by
   intro p hp
   obtain ⟨q, hq, rfl⟩ := List.mem_map.1 hp
   have := tot_mem hq
   rw [size_strOf]; omega
  obtain ⟨e, f, e1, e2⟩ := implEl_loop a b c d at_ _ (by rw [List.length_map]; omega) hsz _ 0 [] at_ rfl rfl (by omega) h0 (by omega)
  refine ⟨e, f, Ev.bind hc (Ev.neg (by rw [List.length_map]; omega) e1), ?_⟩
  rw [if_neg g]
  rw [List.drop_zero, cut_bytes] at e2
  simp only [List.length_map, List.nil_append] at e2
  cases hr : partsR a b c d (cutL d c (bytesOf s)) at_ with
  | inl z => rw [hr] at e2; exact e2
  | inr l =>
   rw [hr] at e2
   dsimp only at e2 ⊢
   obtain ⟨e3, e4⟩ := e2
   by_cases g3 : (cutL d c (bytesOf s)).length > 1 ∧ lastE l = true
   ·rw [if_pos g3] at e4
    simp only [if_pos g3]
    exact e4
   ·rw [if_neg g3] at e4
    simp only [if_neg g3]
    exact ⟨e3, e4⟩
theorem implSegR_loop (a b c d : Int) (t : ByteArray) (A P0 : List ByteArray) (P : List ByteArray) (u : ByteArray) (hA0 : 0 < A.length) (hAs : (rdOf ByteArray.empty A 0).size ≤ 20000) (hP0 : P0.length = P.length + 1) (hP : (tot (P.map bytesOf)) ≤ 20001) : ∀ (r : List ByteArray) (i : Nat) (acc : List S102) (at_ : Int), P.drop i = r → acc.length = i → i ≤ P.length → 0 ≤ at_ → at_ + (tot (r.map bytesOf) : Int) ≤ 50000 →
  Ev (fun k => F41.l0 k A P0 at_ P (P.length : Int) (i : Int) a b c d u acc) (match elsR a b c d i (r.map bytesOf) at_ with | .inl q => ((⟨#[]⟩ : ByteArray), [], 0, q, 3) | .inr L => (u, acc ++ L, ((rdOf ByteArray.empty A 0).size : Int) + 1, 0, 0)) := by
 have hPl := tot_len (P.map bytesOf)
 rw [List.length_map] at hPl
 intro r
 induction r with
 | nil =>
  intro i acc at_ h ha hi h0 h1
  have e0 := ldrop_nil h
  exact Ev.step (fun k => F41.l0.eq_2 ..) (Ev.neg (by omega) (Ev.pos (by omega) (Ev.ret (by simp only [List.map_nil, elsR, List.append_nil]; rw [wrap_id (by omega) (by omega)]))))
 | cons p r ih =>
  intro i acc at_ h ha hi h0 h1
  obtain ⟨h2, h3, h4⟩ := ldrop_cons ByteArray.empty h
  have hp : rdOf ByteArray.empty P (i : Int) = p := h3
  simp only [List.map_cons, elsR, tot, length_bytesOf] at h1 ⊢
  have hil : (i : Int) + 1 ≤ (P.length : Int) := by omega
  have hpm := tot_mem (p := bytesOf p) (L := P.map bytesOf) (List.mem_map.2 ⟨p, List.mem_of_mem_drop (by rw [h]; exact List.mem_cons_self), rfl⟩)
  rw [length_bytesOf] at hpm
  have hr0 : r = [] ↔ (i : Int) + 1 = (P.length : Int) := by
   constructor
   ·intro e; subst e; have := ldrop_nil h4; omega
   ·intro e
    have : P.drop (i + 1) = [] := by rw [List.drop_eq_nil_iff]; omega
    rw [h4] at this; exact this
  refine Ev.step (fun k => F41.l0.eq_2 ..) (Ev.pos h2 (Ev.pos (by omega) (Ev.pos h2 ?_)))
  by_cases g : i = 10
  ·refine Ev.pos (by omega) (Ev.ret ?_)
   rw [if_pos g]
  ·refine Ev.neg (by omega) ?_
   obtain ⟨e, f, e1, e2⟩ := implEl_ev a b c d p at_ (by omega) h0 (by omega)
   rw [hp]
   refine Ev.bind e1 ?_
   rw [if_neg g]
   have hw2 : wrap64 ((P0.length : Int) - 2) = (P.length : Int) - 1 := by rw [wrap_id (by omega) (by omega)]; omega
   have hwa : wrap64 (at_ + wrap64 ((p.size : Int) + 1)) = at_ + (p.size : Int) + 1 := by rw [wrap_id (x := (p.size : Int) + 1) (by omega) (by omega), wrap_id (by omega) (by omega)]; omega
   cases hE : elR a b c d (bytesOf p) at_ with
   | inl q =>
    rw [hE] at e2
    have hq := elR_at a b c d _ _ _ hE
    dsimp only at e2 ⊢
    subst e2
    exact Ev.neg (by omega) (Ev.step (fun k => F41.j1.eq_2 ..) (Ev.neg (by simp) (Ev.pos (by omega) (Ev.now _))))
   | inr l =>
    rw [hE] at e2
    dsimp only at e2 ⊢
    obtain ⟨e3, e4⟩ := e2
    subst e3
    subst e4
    have good : ¬ (r = [] ∧ emptyE e = true) → Ev (fun k => F41.j1 k A P0 at_ p (-1) P (P.length : Int) (i : Int) false a b c d u acc e) (match (if r = [] ∧ emptyE e = true then Sum.inl at_ else (match elsR a b c d (i + 1) (r.map bytesOf) (at_ + (p.size : Int) + 1) with | .inl q => .inl q | .inr L => .inr ((⟨e⟩ : S102) :: L))) with | .inl q => ((⟨#[]⟩ : ByteArray), [], 0, q, 3) | .inr L => (u, acc ++ L, ((rdOf ByteArray.empty A 0).size : Int) + 1, 0, 0)) := by
     intro g2
     rw [if_neg g2]
     have h5 := ih (i + 1) (acc ++ [⟨e⟩]) (at_ + (p.size : Int) + 1) h4 (by simp; omega) (by omega) (by omega) (by omega)
     rw [← hwa, ← wi_ (by omega)] at h5
     refine Ev.step (fun k => F41.j1.eq_2 ..) (Ev.neg (by simp) (Ev.neg (by omega) (Ev.pos (by omega) (h5.to ?_))))
     rw [hwa]
     cases elsR a b c d (i + 1) (r.map bytesOf) (at_ + (p.size : Int) + 1) with
     | inl z => rfl
     | inr L => simp
    have hrm : (r.map bytesOf = [] ∧ emptyE e = true) ↔ (r = [] ∧ emptyE e = true) := by rw [List.map_eq_nil_iff]
    simp only [hrm]
    by_cases g1 : (i : Int) = (P.length : Int) - 1
    ·have hr1 : r = [] := hr0.2 (by omega)
     by_cases g2 : (e.length : Int) = 1
     ·have hl1 : e.length = 1 := by omega
      have hEe : emptyE e = ((rdOf ByteArray.empty e 0).toList == ([] : List UInt8)) := by
       unfold emptyE lastE
       rw [hl1]
       have : wrap64 (((1 : Nat) : Int) - 1) = 0 := by rw [wrap_id (by omega) (by omega)]; rfl
       rw [this]; simp
      refine Ev.pos (by omega) (Ev.pos (by rw [hw2]; exact g1) (Ev.pos g2 (Ev.pos (by omega) ?_)))
      rw [← hEe]
      cases hm : emptyE e with
      | true => exact Ev.step (fun k => F41.j1.eq_2 ..) (Ev.pos rfl (Ev.pos (by omega) (Ev.ret (by rw [if_pos ⟨hr1, rfl⟩]))))
      | false => have := good (by rw [hm]; simp); rw [hm] at this; exact this
     ·have hm : emptyE e = false := by unfold emptyE; simp; omega
      exact Ev.pos (by omega) (Ev.pos (by rw [hw2]; exact g1) (Ev.neg g2 (good (by rw [hm]; simp))))
    ·exact Ev.pos (by omega) (Ev.neg (by rw [hw2]; exact g1) (good (fun h => g1 (by have := hr0.1 h.1; omega))))
def capR (n : Nat) (s : Bool) (R : ByteArray × (List S102) × Int × Int × Int) : ByteArray × (List S102) × Int × Int × Int := if n > 20000 then ((⟨#[]⟩ : ByteArray), [], 0, 0, 2) else if s then R else ((⟨#[]⟩ : ByteArray), [], 0, 0, 1)
theorem implSegRead_ev (a b c d : Int) (t : ByteArray) : Ev (fun k => F41.f k a b c d t) (capR t.size (synP a b c d) (segR a b c d (bytesOf t))) := by
 unfold F41.f capR
 by_cases g : (t.size : Int) > 20000
 ·exact Ev.bind (longText_ev t) (Ev.pos (by simpa using g) (Ev.ret (by rw [if_pos (by omega)])))
 have ht : ¬ t.size > 20000 := by omega
 simp only [if_neg ht]
 refine Ev.bind (longText_ev t) (Ev.neg (by simpa using g) (Ev.bind (implSyntaxRight_ev a b c d) ?_))
 cases hs : synP a b c d with
 | false => exact Ev.neg (by simp) (Ev.now _)
 | true =>
  refine Ev.pos rfl ?_
  rw [if_pos rfl]
  unfold segR
  by_cases g0 : t.toList = ([] : List UInt8)
  ·have : t = (⟨#[]⟩ : ByteArray) := toList_inj.1 (by rw [g0, ByteArray.toList_eq])
   subst this
   have hb : bytesOf (⟨#[]⟩ : ByteArray) = [] := rfl
   exact Ev.pos g0 (Ev.ret (by rw [if_pos hb]))
  have hne : bytesOf t ≠ [] := by
   intro h
   apply g0
   have : t.size = 0 := by rw [← length_bytesOf, h]; rfl
   have h2 : t = (⟨#[]⟩ : ByteArray) := bytesOf_inj (by rw [h]; rfl)
   rw [h2, ByteArray.toList_eq]
  refine Ev.neg g0 ?_
  rw [if_neg hne]
  have hc := implCut_ev a b c d a t (by omega)
  have htot := tot_cut d a _ (bytesOf t) (Nat.le_refl _)
  rw [length_bytesOf] at htot
  refine Ev.bind hc ?_
  have hcb := cut_bytes d a t
  match hL : cutL d a (bytesOf t) with
  | [] => exact absurd hL (cutL_ne d a _)
  | [h] => exact Ev.pos (by simp) (Ev.now _)
  | h :: h2 :: L =>
   rw [hL] at htot hcb
   simp only [tot] at htot
   have hbh : bytesOf (strOfNums h) = h := (List.cons.inj hcb).1
   have hsz : (strOfNums h).size = h.length := size_strOf h
   have hr : rdOf ByteArray.empty ((h :: h2 :: L).map strOfNums) 0 = strOfNums h := rfl
   refine Ev.neg (by simp only [List.length_map, List.length_cons]; omega) (Ev.pos (by simp only [List.length_map, List.length_cons]; omega) ?_)
   rw [hr]
   have hc2 := implCut_ev a b c d b (strOfNums h) (by omega)
   have htot2 := tot_cut d b _ (bytesOf (strOfNums h)) (Nat.le_refl _)
   have hcb2 := cut_bytes d b (strOfNums h)
   rw [hbh] at hc2 htot2 hcb2
   refine Ev.bind hc2 ?_
   dsimp only
   match hL2 : cutL d b h with
   | [] => exact absurd hL2 (cutL_ne d b _)
   | g :: r =>
    rw [hL2] at htot2 hcb2
    simp only [tot] at htot2
    have hr2 : rdOf ByteArray.empty ((g :: r).map strOfNums) 0 = strOfNums g := rfl
    refine Ev.pos (by simp only [List.length_map, List.length_cons]; omega) ?_
    rw [hr2]
    refine Ev.bindc (isTag_eq _) ?_
    dsimp only
    by_cases gt : tagB (strOfNums g) = true
    ·refine Ev.pos gt ?_
     rw [if_pos gt]
     refine Ev.pos (by simp only [List.length_map, List.length_cons]; omega) (Ev.bindc rfl ?_)
     have hmr : (r.map strOfNums).map bytesOf = r := (List.cons.inj hcb2).2
     have hlen : 1 ≤ ((g :: r).map strOfNums).length := by simp
     have h6 := implSegR_loop a b c d t ((h :: h2 :: L).map strOfNums) ((g :: r).map strOfNums) (r.map strOfNums) (strOfNums g) (by simp) (by rw [hr]; omega) (by simp) (by rw [hmr]; omega) (r.map strOfNums) 0 [] ((g.length : Int) + 1) rfl rfl (by omega) (by omega) (by rw [hmr]; omega)
     rw [hmr, hr, hsz] at h6
     have hw : wrap64 (((strOfNums g).size : Int) + 1) = (g.length : Int) + 1 := by rw [size_strOf, wrap_id (by omega) (by omega)]
     have hd : ((g :: r).map strOfNums).drop 1 = r.map strOfNums := rfl
     rw [hd, hw]
     simpa using h6
    ·rw [if_neg gt]
     exact Ev.neg gt (Ev.now _)
theorem partsR_esc {a b c d : Int} (h : Four a b c d) : ∀ (p : List ByteArray) (pl : Int), (∀ q ∈ p, partB q = true) → partsR a b c d (p.map (fun q => escL a b c d (bytesOf q))) pl = .inr p
 | [], pl, _ => rfl
 | q :: r, pl, hq => by
  have h1 := partsR_esc h r (pl + ((escL a b c d (bytesOf q)).length : Int) + 1) (fun x hx => hq x (by simp [hx]))
  have h2 := hq q (by simp)
  simp only [List.map_cons, partsR, un_esc a b c d h.d256, strOf_bytesOf, h1]
  rw [if_pos h2]
theorem elR_text {a b c d : Int} (h : Four a b c d) (p : List ByteArray) (at_ : Int) (hp : elP p = true) : elR a b c d (partsT a b c d true p) at_ = .inr p := by
 unfold elP at hp
 simp only [Bool.and_eq_true, decide_eq_true_eq, List.all_eq_true, Bool.not_eq_true'] at hp
 obtain ⟨⟨h1, h2⟩, h3⟩ := hp
 match p, h1, h2, h3 with
 | q :: r, h1, h2, h3 =>
  unfold elR
  rw [cut_parts h q r, partsR_esc h _ _ h3]
  rw [if_neg (by rw [List.length_map]; omega)]
  dsimp only
  rw [if_neg]
  intro h4
  rw [List.length_map] at h4
  have : (decide ((q :: r).length > 1) && lastE (q :: r)) = true := by rw [Bool.and_eq_true]; exact ⟨decide_eq_true h4.1, h4.2⟩
  rw [this] at h2
  cases h2
theorem elsR_text {a b c d : Int} (h : Four a b c d) : ∀ (L : List S102) (i : Nat) (at_ : Int), i + L.length ≤ 10 → segL L = true → elsR a b c d i (L.map (fun e => partsT a b c d true e.f0)) at_ = .inr L
 | [], i, at_, _, _ => rfl
 | [e], i, at_, hi, hs => by
  simp only [segL, Bool.and_eq_true, Bool.not_eq_true'] at hs
  simp only [List.length_cons, List.length_nil] at hi
  simp only [List.map_cons, List.map_nil, elsR, elR_text h e.f0 at_ hs.1]
  rw [if_neg (by omega), if_neg (by rw [hs.2]; simp)]
 | e :: e' :: r, i, at_, hi, hs => by
  simp only [segL, Bool.and_eq_true] at hs
  simp only [List.length_cons] at hi
  have ih := elsR_text h (e' :: r) (i + 1) (at_ + ((partsT a b c d true e.f0).length : Int) + 1) (by simp only [List.length_cons]; omega) hs.2
  rw [List.map_cons, elsR, elR_text h e.f0 at_ hs.1]
  dsimp only
  rw [if_neg (by omega), if_neg (by simp), ih]
theorem segR_text {a b c d : Int} (h : Four a b c d) {s : ByteArray} {L : List S102} (hb : segB s L = true) (rest : List Int) : segR a b c d (segT a b c d s L ++ rest) = (s, L, ((segT a b c d s L).length : Int), 0, 0) := by
 have hb2 := hb
 unfold segB at hb2
 simp only [Bool.and_eq_true, decide_eq_true_eq] at hb2
 obtain ⟨⟨h1, h2⟩, h3⟩ := hb2
 have hc := cut_seg h h1 L rest
 unfold segR
 rw [if_neg (by have := (segT_len (a := a) (b := b) (c := c) (d := d) hb).2; intro e; rw [List.append_eq_nil_iff] at e; rw [e.1] at this; simp at this), hc]
 cases hr : cutL d a rest with
 | nil => exact absurd hr (cutL_ne d a rest)
 | cons x y =>
  dsimp only
  rw [cut_body h h1 L]
  dsimp only
  rw [strOf_bytesOf, if_pos h1, elsR_text h L 0 _ (by omega) h3]
  dsimp only
  simp [segT]
theorem lwSeg_l1 (s u : ByteArray) (L : List S102) (hL : L.length ≤ 1048576) (i : Nat) (hi : i < L.length) (p : List ByteArray) (hp : (rd_T102 L (i : Int)).f0 = p) (hpl : p.length ≤ 1048576) {R : Bool} (hn : Ev (fun k => F56.l0 k ((i + 1 : Nat) : Int) s L u L) R) : ∀ (r : List ByteArray) (j : Nat), p.drop j = r → Ev (fun k => F56.l1 k (i : Int) (j : Int) s L u L) R := by
 intro r
 induction r with
 | nil =>
  intro j h
  have h0 := ldrop_nil h
  rw [← wi_ (by omega)] at hn
  refine Ev.step (fun k => F56.l1.eq_2 ..) (Ev.pos (by omega) (Ev.pos (by omega) (Ev.neg (by rw [hp]; omega) hn)))
 | cons q r ih =>
  intro j h
  obtain ⟨h1, h2, h3⟩ := ldrop_cons ByteArray.empty h
  have h4 := ih (j + 1) h3
  rw [← wi_ (by omega)] at h4
  exact Ev.step (fun k => F56.l1.eq_2 ..) (Ev.pos (by omega) (Ev.pos (by omega) (Ev.pos (by rw [hp]; omega) (Ev.pos (by omega) (Ev.pos (by omega) (Ev.pos (by rw [hp]; omega) (Ev.pos rfl h4)))))))
theorem lwSeg_l0 (s u : ByteArray) (L : List S102) (hL : L.length ≤ 1048576) (hE : ∀ e ∈ L, e.f0.length ≤ 1048576) : ∀ (r : List S102) (i : Nat), L.drop i = r → Ev (fun k => F56.l0 k (i : Int) s L u L) true := by
 intro r
 induction r with
 | nil =>
  intro i h
  have h0 := ldrop_nil h
  exact Ev.step (fun k => F56.l0.eq_2 ..) (Ev.neg (by omega) (Ev.now _))
 | cons e r ih =>
  intro i h
  obtain ⟨h1, h2, h3⟩ := ldrop_cons z102 h
  have hr : rd_T102 L (i : Int) = e := h2
  have hm := hE e (List.mem_of_mem_drop (by rw [h]; exact List.mem_cons_self))
  exact Ev.step (fun k => F56.l0.eq_2 ..) (Ev.pos h1 (Ev.pos (by omega) (Ev.pos h1 (Ev.pos rfl (lwSeg_l1 s u L hL i (by omega) e.f0 (by rw [hr]) hm (ih (i + 1) h3) e.f0 0 rfl)))))
theorem lwSeg_ev (s : ByteArray) (L : List S102) (hL : L.length ≤ 1048576) (hE : ∀ e ∈ L, e.f0.length ≤ 1048576) : Ev (fun k => F56.f k s L s L) true := by
 unfold F56.f
 refine Ev.pos rfl (Ev.step (fun k => F56.j0.eq_2 ..) (Ev.neg (by simp) (lwSeg_l0 s s L hL hE L 0 rfl)))
def joinL (m : Int) : Bool → List (List Int) → List Int
 | _, [] => []
 | f, h :: t => (if f then [] else [m]) ++ (h ++ joinL m false t)
theorem joinL_hdP (m : Int) (v : List Int) : ∀ L : List (List Int), joinL m true (hdP v L) = v ++ joinL m true L
 | [] => by simp [hdP, joinL]
 | h :: t => by simp [hdP, joinL]
theorem joinL_false (m : Int) : ∀ L : List (List Int), L ≠ [] → joinL m false L = m :: joinL m true L
 | [], h => absurd rfl h
 | h :: t, _ => by simp [joinL]
theorem joinL_cut (d m : Int) : ∀ (n : Nat) (l : List Int), l.length ≤ n → joinL m true (cutL d m l) = l := by
 intro n
 induction n using Nat.strongRecOn with
 | _ n ih =>
  intro l hl
  match l, hl with
  | [], _ => simp [cutL, joinL]
  | [x], _ =>
   unfold cutL
   split
   ·simp [joinL]
   ·split
    ·rename_i h; simp [joinL, h]
    ·simp [joinL]
  | x :: y :: r, hl =>
   simp only [List.length_cons] at hl
   unfold cutL
   split
   ·rw [joinL_hdP, ih (n - 2) (by omega) r (by omega)]; rfl
   ·split
    ·rename_i h
     have := ih (n - 1) (by omega) (y :: r) (by simp; omega)
     rw [joinL, joinL_false m _ (cutL_ne d m _), this, h]
     rfl
    ·rw [joinL_hdP, ih (n - 1) (by omega) (y :: r) (by simp; omega)]; rfl
theorem un_inv {a b c d : Int} (h2d : d % 256 = d) : ∀ (n : Nat) (l : List Int) (i : Int) (t : List Int), l.length ≤ n → unL a b c d l i = .inr t → escL a b c d t = l := by
 intro n
 induction n using Nat.strongRecOn with
 | _ n ih =>
  intro l i t hn h
  match l, h, hn with
  | [], h, hn => simp [unL] at h; subst h; rfl
  | [x], h, hn =>
   simp only [unL] at h
   split at h
   ·simp at h
   ·rename_i ho
    have e : [x] = t := by simpa using h
    subst e; simp [escL, ho]
  | x :: y :: r, h, hn =>
   simp only [List.length_cons] at hn
   simp only [unL] at h
   split at h
   ·split at h
    ·rename_i hx
     split at h
     ·rename_i hy
      cases h2 : unL a b c d r (i + 2) with
      | inl z => rw [h2] at h; simp at h
      | inr u =>
       rw [h2] at h
       have e : y :: u = t := by simpa using h
       have := ih (n - 2) (by omega) r (i + 2) u (by omega) h2
       subst e
       simp [escL, hy, this, h2d, hx]
     ·simp at h
    ·simp at h
   ·rename_i ho
    cases h2 : unL a b c d (y :: r) (i + 1) with
    | inl z => rw [h2] at h; simp at h
    | inr u =>
     rw [h2] at h
     have e : x :: u = t := by simpa using h
     have := ih (n - 1) (by omega) (y :: r) (i + 1) u (by simp; omega) h2
     subst e
     simp [escL, ho, this]
theorem esc_mem2 (a b c d : Int) {y : Int} : ∀ l : List Int, y ∈ l → y ∈ escL a b c d l
 | x :: r, h => by
  unfold escL
  rcases List.mem_cons.1 h with e | e
  ·subst e; split <;> simp
  ·have := esc_mem2 a b c d r e
   split <;> simp [this]
theorem un_bytes {a b c d : Int} (h2d : d % 256 = d) {p t : List Int} (hp : ∀ x ∈ p, 0 ≤ x ∧ x ≤ 255) (h : unL a b c d p 0 = .inr t) : bytesOf (strOfNums t) = t := by
 have e := un_inv h2d _ p 0 t (Nat.le_refl _) h
 exact bytesOf_strOf t (fun x hx => hp x (by rw [← e]; exact esc_mem2 a b c d t hx))
theorem partsR_inv {a b c d : Int} (h2d : d % 256 = d) : ∀ (P : List (List Int)) (pl : Int) (l : List ByteArray), (∀ p ∈ P, ∀ x ∈ p, 0 ≤ x ∧ x ≤ 255) → partsR a b c d P pl = .inr l → l.map (fun q => escL a b c d (bytesOf q)) = P ∧ ∀ q ∈ l, partB q = true
 | [], pl, l, _, h => by simp [partsR] at h; subst h; simp
 | p :: r, pl, l, hp, h => by
  simp only [partsR] at h
  cases hu : unL a b c d p 0 with
  | inl z => rw [hu] at h; simp at h
  | inr t =>
   rw [hu] at h
   dsimp only at h
   split at h
   ·rename_i hb
    cases hr : partsR a b c d r (pl + (p.length : Int) + 1) with
    | inl z => rw [hr] at h; simp at h
    | inr l2 =>
     rw [hr] at h
     obtain ⟨h1, h2⟩ := partsR_inv h2d r _ l2 (fun q hq => hp q (by simp [hq])) hr
     have e : strOfNums t :: l2 = l := by simpa using h
     subst e
     have h3 := un_inv h2d _ p 0 t (Nat.le_refl _) hu
     refine ⟨?_, ?_⟩
     ·rw [List.map_cons, h1, un_bytes h2d (hp p (by simp)) hu, h3]
     ·intro q hq
      rcases List.mem_cons.1 hq with e | e
      ·rw [e]; exact hb
      ·exact h2 q e
   ·simp at h
theorem partsT_join (a b c d : Int) : ∀ (l : List ByteArray) (f : Bool), partsT a b c d f l = joinL c f (l.map (fun q => escL a b c d (bytesOf q)))
 | [], f => rfl
 | q :: r, f => by
  simp only [partsT, List.map_cons, joinL, partsT_join a b c d r false]
theorem elR_inv {a b c d : Int} (h2d : d % 256 = d) (t : List Int) (at_ : Int) (l : List ByteArray) (ht : ∀ x ∈ t, 0 ≤ x ∧ x ≤ 255) (h : elR a b c d t at_ = .inr l) : partsT a b c d true l = t ∧ elP l = true := by
 unfold elR at h
 split at h
 ·simp at h
 ·rename_i hlen
  cases hp : partsR a b c d (cutL d c t) at_ with
  | inl z => rw [hp] at h; simp at h
  | inr l2 =>
   rw [hp] at h
   dsimp only at h
   split at h
   ·simp at h
   ·rename_i hno
    have e : l2 = l := by simpa using h
    subst e
    obtain ⟨h1, h2⟩ := partsR_inv h2d (cutL d c t) at_ l2 (fun p hp x hx => ht x (cut_mem d c _ t (Nat.le_refl _) p hp hx)) hp
    have hl := partsR_len a b c d _ _ _ hp
    have hpos : 0 < (cutL d c t).length := List.length_pos_iff.2 (cutL_ne d c t)
    refine ⟨by rw [partsT_join, h1]; exact joinL_cut d c _ t (Nat.le_refl _), ?_⟩
    unfold elP
    simp only [Bool.and_eq_true, decide_eq_true_eq, List.all_eq_true, Bool.not_eq_true']
    refine ⟨⟨by omega, ?_⟩, h2⟩
    cases hE : lastE l2 with
    | false => simp
    | true =>
     have : ¬ l2.length > 1 := fun h3 => hno ⟨by omega, hE⟩
     simp; omega
theorem elsT_join (a b c d : Int) : ∀ (L : List S102), elsT a b c d L = joinL b false (L.map (fun e => partsT a b c d true e.f0))
 | [] => rfl
 | e :: r => by
  simp [elsT, joinL, elsT_join a b c d r]
theorem elsR_inv {a b c d : Int} (h2d : d % 256 = d) : ∀ (P : List (List Int)) (i : Nat) (at_ : Int) (L : List S102), i ≤ 10 → (∀ p ∈ P, ∀ x ∈ p, 0 ≤ x ∧ x ≤ 255) → elsR a b c d i P at_ = .inr L → L.map (fun e => partsT a b c d true e.f0) = P ∧ segL L = true ∧ i + L.length ≤ 10
 | [], i, at_, L, hi, _, h => by
  simp [elsR] at h
  subst h
  exact ⟨rfl, rfl, by simpa using hi⟩
 | p :: r, i, at_, L, hi, hp, h => by
  simp only [elsR] at h
  split at h
  ·simp at h
  ·rename_i h10
   cases he : elR a b c d p at_ with
   | inl z => rw [he] at h; simp at h
   | inr l =>
    rw [he] at h
    dsimp only at h
    split at h
    ·simp at h
    ·rename_i hne
     cases hr : elsR a b c d (i + 1) r (at_ + (p.length : Int) + 1) with
     | inl z => rw [hr] at h; simp at h
     | inr L2 =>
      rw [hr] at h
      have e : (⟨l⟩ : S102) :: L2 = L := by simpa using h
      subst e
      obtain ⟨h1, h2, h3⟩ := elsR_inv h2d r (i + 1) _ L2 (by omega) (fun q hq => hp q (by simp [hq])) hr
      obtain ⟨h4, h5⟩ := elR_inv h2d p at_ l (hp p (by simp)) he
      refine ⟨by simp [h1, h4], ?_, by simp; omega⟩
      cases L2 with
      | nil =>
       have hr0 : r = [] := by simpa using h1.symm
       have : emptyE l = false := by
        cases hE : emptyE l with
        | false => rfl
        | true => exact absurd ⟨hr0, hE⟩ hne
       simp [segL, h5, this]
      | cons e2 L3 => simp [segL, h5, h2]
theorem segR_inv {a b c d : Int} (hF : Four a b c d) (t : List Int) (ht : ∀ x ∈ t, 0 ≤ x ∧ x ≤ 255) (s : ByteArray) (L : List S102) (u v : Int) (h : segR a b c d t = (s, L, u, v, 0)) : segB s L = true ∧ u = ((segT a b c d s L).length : Int) ∧ t.take (segT a b c d s L).length = segT a b c d s L := by
 unfold segR at h
 split at h
 ·simp at h
 ·rename_i hne
  match hc : cutL d a t with
  | [] => exact absurd hc (cutL_ne d a t)
  | [x] => rw [hc] at h; simp at h
  | x :: y :: z =>
   rw [hc] at h
   dsimp only at h
   match hc2 : cutL d b x with
   | [] => exact absurd hc2 (cutL_ne d b x)
   | g :: r =>
    rw [hc2] at h
    dsimp only at h
    split at h
    ·rename_i htag
     cases he : elsR a b c d 0 r ((g.length : Int) + 1) with
     | inl q => rw [he] at h; simp at h
     | inr L2 =>
      rw [he] at h
      simp only [Prod.mk.injEq] at h
      obtain ⟨e1, e2, e3, _, _⟩ := h
      subst e1; subst e2; subst e3
      have hxr : ∀ w ∈ x, 0 ≤ w ∧ w ≤ 255 := fun w hw => ht w (cut_mem d a _ t (Nat.le_refl _) x (by rw [hc]; simp) hw)
      have hpr : ∀ p ∈ g :: r, ∀ w ∈ p, 0 ≤ w ∧ w ≤ 255 := fun p hp w hw => hxr w (cut_mem d b _ x (Nat.le_refl _) p (by rw [hc2]; exact hp) hw)
      obtain ⟨h1, h2, h3⟩ := elsR_inv hF.d256 r 0 _ L2 (by omega) (fun p hp => hpr p (by simp [hp])) he
      have hgb : bytesOf (strOfNums g) = g := bytesOf_strOf g (hpr g (by simp))
      have hj := joinL_cut d a _ t (Nat.le_refl _)
      rw [hc] at hj
      simp only [joinL, if_true, List.nil_append, Bool.false_eq_true, if_false] at hj
      have hj2 := joinL_cut d b _ x (Nat.le_refl _)
      rw [hc2] at hj2
      simp only [joinL, if_true, List.nil_append] at hj2
      have hbody : segBody a b c d (strOfNums g) L2 = x := by
       unfold segBody
       rw [hgb, elsT_join, h1]
       exact hj2
      have hseg : segT a b c d (strOfNums g) L2 = x ++ [a] := by unfold segT; rw [hbody]
      refine ⟨?_, ?_, ?_⟩
      ·unfold segB
       rw [htag, h2]
       simp; omega
      ·rw [hseg]; simp
      ·have hcut : ∀ Z : List Int, List.take (x ++ [a]).length (x ++ a :: Z) = x ++ [a] := fun Z => by
        rw [show x ++ a :: Z = (x ++ [a]) ++ Z by simp, List.take_left]
       rw [hseg, ← hj]
       exact hcut _
    ·simp at h
theorem esc_nil (a b c d : Int) (x : List Int) : escL a b c d x = [] ↔ x = [] := by
 cases x with
 | nil => simp [escL]
 | cons y r => unfold escL; split <;> simp
theorem str_nil (x : List Int) : (strOfNums x).toList = ([] : List UInt8) ↔ x = [] := by
 constructor
 ·intro h
  have h2 : strOfNums x = (⟨#[]⟩ : ByteArray) := toList_inj.1 (by rw [h, ByteArray.toList_eq])
  have h3 := size_strOf x
  rw [h2] at h3
  exact List.length_eq_zero_iff.1 h3.symm
 ·intro h; subst h; rw [ByteArray.toList_eq]; rfl
theorem bytes_nil (q : ByteArray) : q.toList = ([] : List UInt8) ↔ bytesOf q = [] := by
 have := str_nil (bytesOf q)
 rwa [strOf_bytesOf] at this
theorem lastE_pieces (a b c d : Int) (l P : List ByteArray) (h : l.map (fun q => escL a b c d (bytesOf q)) = P.map bytesOf) (h0 : 0 < l.length) (h1 : l.length ≤ 1000) : lastE l = ((rdOf ByteArray.empty P (wrap64 ((P.length : Int) - 1))).toList == ([] : List UInt8)) := by
 have hl : l.length = P.length := by have := congrArg List.length h; simpa using this
 have hw : wrap64 ((l.length : Int) - 1) = (((l.length - 1 : Nat)) : Int) := by rw [wrap_id (by omega) (by omega)]; omega
 unfold lastE
 rw [← hl, hw]
 unfold rdOf
 rw [Int.toNat_natCast, List.getD_eq_getElem?_getD, List.getD_eq_getElem?_getD, List.getElem?_eq_getElem (by omega), List.getElem?_eq_getElem (by omega)]
 simp only [Option.getD_some]
 have he : escL a b c d (bytesOf (l[l.length - 1]'(by omega))) = bytesOf (P[l.length - 1]'(by omega)) := by
  have := congrArg (fun z => z[l.length - 1]?) h
  simp only [List.getElem?_map] at this
  rw [List.getElem?_eq_getElem (by omega), List.getElem?_eq_getElem (by omega)] at this
  simpa using this
 rw [Bool.eq_iff_iff]
 simp only [beq_iff_eq]
 rw [bytes_nil, bytes_nil, ← he, esc_nil]
def wrongR (q : Int) : ByteArray × (List S102) × Int × Int × Int := ((⟨#[]⟩ : ByteArray), [], 0, q, 3)
theorem specEl_loop {a b c d : Int} (hs : synP a b c d = true) (e5 at_ : Int) (E P : List ByteArray) (u : ByteArray) (L : List S102) (I : Int) (hI0 : 0 ≤ I) (hI1 : I < (E.length : Int)) (hI2 : (E.length : Int) ≤ 30000) (hL : L.length ≤ 20) (hP1 : P.length ≤ 4) (hP0 : 0 < P.length) (hps : ∀ p ∈ P, p.size ≤ 20000) (ha0 : 0 ≤ at_) (ha1 : at_ ≤ 50000) (hEs : (rdOf ByteArray.empty E I).size ≤ 20000) (F : List ByteArray → ByteArray × (List S102) × Int × Int × Int)
  (hF : ∀ e, Ev (fun k => F87.l1 k e5 E (at_ + ((rdOf ByteArray.empty E I).size : Int) + 1) (I + 1) a b c d u (L ++ [⟨e⟩])) (F e)) : ∀ (r : List ByteArray) (k : Nat) (acc : List ByteArray) (pl : Int), P.drop k = r → acc.length = k → acc.map (fun q => escL a b c d (bytesOf q)) = (P.take k).map bytesOf → k ≤ P.length → 0 ≤ pl → pl ≤ 100000 + 30000 * (k : Int) →
  Ev (fun n => F87.l2 n e5 E at_ I P pl (k : Int) a b c d u L acc) (match partsR a b c d (r.map bytesOf) pl with | .inl q => wrongR q | .inr l => if P.length > 1 ∧ lastE (acc ++ l) = true then wrongR at_ else if I + 1 = (E.length : Int) ∧ emptyE (acc ++ l) = true then wrongR at_ else F (acc ++ l)) := by
 have h2d := (four_of hs).d256
 intro r
 induction r with
 | nil =>
  intro k acc pl h ha hm hk h0 h1
  have e0 := ldrop_nil h
  have hkl : k = P.length := by omega
  simp only [List.map_nil, partsR, List.append_nil]
  rw [hkl, List.take_length] at hm
  have hlE := lastE_pieces a b c d acc P hm (by omega) (by omega)
  have hw : wrap64 ((P.length : Int) - 1) = (P.length : Int) - 1 := wrap_id (by omega) (by omega)
  have hwE : wrap64 ((E.length : Int) - 1) = (E.length : Int) - 1 := wrap_id (by omega) (by omega)
  have hwa : wrap64 (wrap64 (at_ + ((rdOf ByteArray.empty E I).size : Int)) + 1) = at_ + ((rdOf ByteArray.empty E I).size : Int) + 1 := by rw [wrap_id (x := at_ + ((rdOf ByteArray.empty E I).size : Int)) (by omega) (by omega), wrap_id (by omega) (by omega)]
  have hwi : wrap64 (I + 1) = I + 1 := wrap_id (by omega) (by omega)
  have app : Ev (fun n => (if L.length < 5864062014805 then (if 0 ≤ I then (if I < (E.length : Int) then (F87.l1 n e5 E (wrap64 ((wrap64 (at_ + ((rdOf ByteArray.empty E I).size : Int))) + 1)) (wrap64 (I + 1)) a b c d u (L ++ [(⟨acc⟩ : S102)])) else (none)) else (none)) else (none))) (F acc) := by
   rw [hwa, hwi]
   exact Ev.pos (by omega) (Ev.pos (by omega) (Ev.pos (by omega) (hF acc)))
  have nxt : ∀ W, Ev (fun n => (if L.length < 5864062014805 then (if 0 ≤ I then (if I < (E.length : Int) then (F87.l1 n e5 E (wrap64 ((wrap64 (at_ + ((rdOf ByteArray.empty E I).size : Int))) + 1)) (wrap64 (I + 1)) a b c d u (L ++ [(⟨acc⟩ : S102)])) else (none)) else (none)) else (none))) W → Ev (fun n => (if I = (wrap64 ((E.length : Int) - 1)) then ((F77.f acc).bind fun t290 => (if t290 = true then ((F114.f at_).bind fun bt291 => (some (bt291.1, bt291.2.1, bt291.2.2.1, bt291.2.2.2.1, bt291.2.2.2.2))) else (if L.length < 5864062014805 then (if 0 ≤ I then (if I < (E.length : Int) then (F87.l1 n e5 E (wrap64 ((wrap64 (at_ + ((rdOf ByteArray.empty E I).size : Int))) + 1)) (wrap64 (I + 1)) a b c d u (L ++ [(⟨acc⟩ : S102)])) else (none)) else (none)) else (none)))) else (if L.length < 5864062014805 then (if 0 ≤ I then (if I < (E.length : Int) then (F87.l1 n e5 E (wrap64 ((wrap64 (at_ + ((rdOf ByteArray.empty E I).size : Int))) + 1)) (wrap64 (I + 1)) a b c d u (L ++ [(⟨acc⟩ : S102)])) else (none)) else (none)) else (none)))) (if I + 1 = (E.length : Int) ∧ emptyE acc = true then wrongR at_ else W) := by
   intro W hWv
   by_cases g1 : I = (E.length : Int) - 1
   ·refine Ev.pos (by rw [hwE]; exact g1) (Ev.bindc (l02Empty_eq acc) ?_)
    cases hm : emptyE acc with
    | true => exact Ev.pos rfl (Ev.bindc rfl (Ev.ret (by rw [if_pos ⟨by omega, rfl⟩]; rfl)))
    | false => exact Ev.neg (by simp) (hWv.to (by rw [if_neg (by simp)]))
   ·exact Ev.neg (by rw [hwE]; exact g1) (hWv.to (by rw [if_neg (fun h => g1 (by have := h.1; omega))]))
  refine Ev.step (fun n => F87.l2.eq_2 ..) (Ev.neg (by omega) ?_)
  by_cases g : P.length > 1
  ·refine Ev.pos (by omega) (Ev.pos (by omega) (Ev.pos (by omega) ?_))
   by_cases g2 : (rdOf ByteArray.empty P (wrap64 ((P.length : Int) - 1))).toList = ([] : List UInt8)
   ·exact Ev.pos g2 (Ev.bindc rfl (Ev.ret (by rw [if_pos ⟨g, by rw [hlE]; simpa using g2⟩]; rfl)))
   ·refine Ev.neg g2 ((nxt _ app).to ?_)
    rw [if_neg (c := P.length > 1 ∧ lastE acc = true) (fun h => g2 (by have := h.2; rw [hlE] at this; simpa using this))]
  ·refine Ev.neg (by omega) ((nxt _ app).to ?_)
   rw [if_neg (c := P.length > 1 ∧ lastE acc = true) (fun h => g h.1)]
 | cons p r ih =>
  intro k acc pl h ha hm hk h0 h1
  obtain ⟨h2, h3, h4⟩ := ldrop_cons ByteArray.empty h
  have hp : rdOf ByteArray.empty P (k : Int) = p := h3
  have hpm : p ∈ P := List.mem_of_mem_drop (by rw [h]; exact List.mem_cons_self)
  have hsz := hps p hpm
  have hu := specUn_ev a b c d p (by omega) hs (by omega)
  simp only [List.map_cons, partsR, length_bytesOf]
  have hkl : k + 1 ≤ P.length := by omega
  have htk : P.take (k + 1) = P.take k ++ [p] := by
   have hkl2 : k < P.length := by omega
   rw [List.take_succ_eq_append_getElem hkl2]
   have := List.drop_eq_getElem_cons hkl2
   rw [h] at this
   rw [(List.cons.inj this).1]
  refine Ev.step (fun n => F87.l2.eq_2 ..) (Ev.pos h2 (Ev.pos (by omega) ?_))
  rw [hp]
  cases hq : unL a b c d (bytesOf p) 0 with
  | inl q =>
   rw [hq] at hu
   have hb := unL_at a b c d _ (bytesOf p) 0 q (Nat.le_refl _) hq
   rw [length_bytesOf] at hb
   refine Ev.bind hu (Ev.neg (by simp) (Ev.bindc rfl (Ev.ret ?_)))
   show ((⟨#[]⟩ : ByteArray), [], 0, wrap64 (pl + q), 3) = wrongR (pl + q)
   rw [wrap_id (by omega) (by omega)]; rfl
  | inr t =>
   rw [hq] at hu
   have ht := unL_len a b c d _ (bytesOf p) 0 t (Nat.le_refl _) hq
   rw [length_bytesOf] at ht
   have hpart := specPart_ev (strOfNums t) (by rw [size_strOf]; omega)
   dsimp only
   by_cases g : partB (strOfNums t) = true
   ·have hun := un_bytes h2d (fun x hx => mem_bytesOf hx) hq
    have hinv := un_inv h2d _ (bytesOf p) 0 t (Nat.le_refl _) hq
    have h5 := ih (k + 1) (acc ++ [strOfNums t]) (pl + (p.size : Int) + 1) h4 (by simp; omega) (by rw [List.map_append, hm, htk, List.map_append]; simp [hun, hinv]) (by omega) (by omega) (by omega)
    have hw : wrap64 (wrap64 (pl + (p.size : Int)) + 1) = pl + (p.size : Int) + 1 := by rw [wrap_id (x := pl + (p.size : Int)) (by omega) (by omega), wrap_id (by omega) (by omega)]
    rw [← hw, ← wi_ (by omega)] at h5
    refine Ev.bind hu (Ev.pos rfl (Ev.bind hpart (Ev.pos g (Ev.pos (by omega) (h5.to ?_)))))
    rw [if_pos g, hw]
    cases partsR a b c d (r.map bytesOf) (pl + (p.size : Int) + 1) with
    | inl z => rfl
    | inr l => simp
   ·refine Ev.bind hu (Ev.pos rfl (Ev.bind hpart (Ev.neg g (Ev.bindc rfl (Ev.ret ?_)))))
    rw [if_neg g]
    rfl
theorem specEls_loop {a b c d : Int} (hs : synP a b c d = true) (e5 : Int) (he0 : 0 ≤ e5) (he1 : e5 ≤ 20000) (E : List ByteArray) (u : ByteArray) (hE : tot (E.map bytesOf) ≤ 20001) : ∀ (r : List ByteArray) (i : Nat) (L : List S102) (at_ : Int), E.drop (i + 1) = r → L.length = i → i ≤ 10 → i + 1 ≤ E.length → 0 ≤ at_ → at_ + (tot (r.map bytesOf) : Int) ≤ 50000 →
  Ev (fun k => F87.l1 k e5 E at_ ((i + 1 : Nat) : Int) a b c d u L) (match elsR a b c d i (r.map bytesOf) at_ with | .inl q => wrongR q | .inr Z => (u, L ++ Z, e5 + 1, 0, 0)) := by
 have hEl := tot_len (E.map bytesOf)
 rw [List.length_map] at hEl
 intro r
 induction r with
 | nil =>
  intro i L at_ h hl hi hiE h0 h1
  have e0 := ldrop_nil h
  exact Ev.step (fun k => F87.l1.eq_2 ..) (Ev.neg (by omega) (Ev.ret (by simp only [List.map_nil, elsR, List.append_nil]; rw [wrap_id (by omega) (by omega)])))
 | cons p r ih =>
  intro i L at_ h hl hi hiE h0 h1
  obtain ⟨h2, h3, h4⟩ := ldrop_cons ByteArray.empty h
  have hp : rdOf ByteArray.empty E ((i + 1 : Nat) : Int) = p := h3
  have hpm := tot_mem (p := bytesOf p) (L := E.map bytesOf) (List.mem_map.2 ⟨p, List.mem_of_mem_drop (by rw [h]; exact List.mem_cons_self), rfl⟩)
  rw [length_bytesOf] at hpm
  simp only [List.map_cons, elsR, tot, length_bytesOf] at h1 ⊢
  have hr0 : r = [] ↔ i + 2 = E.length := by
   constructor
   ·intro e; subst e; have := ldrop_nil h4; omega
   ·intro e
    have : E.drop (i + 1 + 1) = [] := by rw [List.drop_eq_nil_iff]; omega
    rw [h4] at this; exact this
  have hc := specCut_ev a b c d c p (by omega)
  have htc := tot_cut d c _ (bytesOf p) (Nat.le_refl _)
  rw [length_bytesOf] at htc
  have hcb := cut_bytes d c p
  have hwr : Ev (fun k => (F114.f at_).bind fun bt250 => (some (bt250.1, bt250.2.1, bt250.2.2.1, bt250.2.2.2.1, bt250.2.2.2.2))) (wrongR at_) := Ev.bindc rfl (Ev.now _)
  refine Ev.step (fun k => F87.l1.eq_2 ..) (Ev.pos h2 (Ev.pos (by omega) ?_))
  rw [hp]
  refine Ev.bind hc ?_
  by_cases g : i = 10
  ·rw [if_pos g]
   exact Ev.pos (by omega) (Ev.step (fun k => F87.j3.eq_2 ..) (Ev.pos rfl hwr))
  rw [if_neg g]
  refine Ev.neg (by omega) (Ev.step (fun k => F87.j3.eq_2 ..) ?_)
  unfold elR
  by_cases g4 : (cutL d c (bytesOf p)).length > 4
  ·rw [if_pos g4]
   exact Ev.pos (by rw [List.length_map]; simp; omega) hwr
  rw [if_neg g4]
  refine Ev.neg (by rw [List.length_map]; simp; omega) ?_
  have hps : ∀ q ∈ (cutL d c (bytesOf p)).map strOfNums, q.size ≤ 20000 := by
   intro q hq
   obtain ⟨z, hz, rfl⟩ := List.mem_map.1 hq
   have := tot_mem hz
   rw [size_strOf]; omega
  have hpos : 0 < (cutL d c (bytesOf p)).length := List.length_pos_iff.2 (cutL_ne d c _)
  have h7 := specEl_loop hs e5 at_ E ((cutL d c (bytesOf p)).map strOfNums) u L ((i + 1 : Nat) : Int) (by omega) (by omega) (by omega) (by omega) (by rw [List.length_map]; omega) (by rw [List.length_map]; omega) hps h0 (by omega) (by rw [hp]; omega) (fun e => match elsR a b c d (i + 1) (r.map bytesOf) (at_ + (p.size : Int) + 1) with | .inl q => wrongR q | .inr Z => (u, (L ++ [⟨e⟩]) ++ Z, e5 + 1, 0, 0))
   (fun e => by rw [hp]; exact ih (i + 1) (L ++ [⟨e⟩]) (at_ + (p.size : Int) + 1) h4 (by simp; omega) (by omega) (by omega) (by omega) (by omega)) _ 0 [] at_ rfl rfl rfl (by omega) h0 (by omega)
  refine h7.to ?_
  rw [List.drop_zero, hcb]
  simp only [List.length_map, List.nil_append]
  cases partsR a b c d (cutL d c (bytesOf p)) at_ with
  | inl q => rfl
  | inr l =>
   dsimp only
   by_cases g5 : (cutL d c (bytesOf p)).length > 1 ∧ lastE l = true
   ·rw [if_pos g5]
    simp only [if_pos g5]
   ·rw [if_neg g5]
    simp only [if_neg g5]
    have hi2 : i + 2 = E.length ↔ ((i + 1 : Nat) : Int) + 1 = (E.length : Int) := by omega
    have hrm : (r.map bytesOf = [] ∧ emptyE l = true) ↔ (((i + 1 : Nat) : Int) + 1 = (E.length : Int) ∧ emptyE l = true) := by rw [List.map_eq_nil_iff, hr0, hi2]
    by_cases g6 : ((i + 1 : Nat) : Int) + 1 = (E.length : Int) ∧ emptyE l = true
    ·rw [if_pos g6, if_pos (hrm.2 g6)]
    ·rw [if_neg g6, if_neg (fun h => g6 (hrm.1 h))]
     cases elsR a b c d (i + 1) (r.map bytesOf) (at_ + (p.size : Int) + 1) with
     | inl q => rfl
     | inr Z => simp
def endOf (d a : Int) (l : List Int) (i : Nat) : Int := match cutL d a l with | h :: _ :: _ => (i : Int) + (h.length : Int) | _ => -1
theorem endOf_hdP (d a : Int) (v l : List Int) (i j : Nat) (hj : j = i + v.length) : (match hdP v (cutL d a l) with | h :: _ :: _ => (i : Int) + (h.length : Int) | _ => -1) = endOf d a l j := by
 unfold endOf
 match hc : cutL d a l with
 | [] => exact absurd hc (cutL_ne d a l)
 | [x] => simp [hdP]
 | x :: y :: z =>
  show (i : Int) + ((v ++ x).length : Int) = (j : Int) + (x.length : Int)
  rw [List.length_append]; omega
theorem spec_scan (a b c d : Int) (t : ByteArray) (ht : t.size ≤ 20000) : ∀ (n : Nat) (l : List Int) (i : Nat) (R : ByteArray × (List S102) × Int × Int × Int), l.length ≤ n → (bytesOf t).drop i = l → i ≤ t.size + 1 → (∀ x6, Ev (fun k => F87.j1 k t (endOf d a l i) x6 false a b c d) R) → Ev (fun k => F87.l0 k t (-1) (i : Int) a b c d) R := by
 intro n
 induction n using Nat.strongRecOn with
 | _ n ih =>
  intro l i R hn h hi hR
  match l, h, hn with
  | [], h, hn =>
   have h0 := drop_nil h
   have hE : endOf d a [] i = -1 := by simp [endOf, cutL]
   rw [hE] at hR
   exact Ev.step (fun k => F87.l0.eq_2 ..) (Ev.neg (by omega) (hR _))
  | x :: r, h, hn =>
   obtain ⟨h1, h2, h3, h4, h5⟩ := drop_cons h
   simp only [List.length_cons] at hn
   have hw : wrap64 ((i : Int) + 1) = ((i + 1 : Nat) : Int) := by rw [wrap_id (by omega) (by omega)]; omega
   have hw2 : wrap64 (((i + 1 : Nat) : Int) + 1) = ((i + 2 : Nat) : Int) := by rw [wrap_id (by omega) (by omega)]; omega
   refine Ev.step (fun k => F87.l0.eq_2 ..) (Ev.pos h1 (Ev.step (fun k => F87.j1.eq_2 ..) (Ev.pos (by decide) (Ev.pos (by omega) (Ev.pos h1 ?_)))))
   rw [h2, wrap_id (x := x) (by omega) (by omega), hw, hw2]
   by_cases g1 : x = d
   ·refine Ev.pos g1 ?_
    match r, h3, hn, hR with
    | [], h3, hn, hR =>
     have h0 := drop_nil h3
     have h6 : (bytesOf t).drop (i + 2) = [] := by rw [List.drop_eq_nil_iff, length_bytesOf]; omega
     have hE : endOf d a [x] i = endOf d a [] (i + 2) := by simp [endOf, cutL, g1]
     rw [hE] at hR
     exact ih (n - 1) (by omega) [] (i + 2) R (by simp) h6 (by omega) hR
    | y :: r', h3, hn, hR =>
     obtain ⟨g3, g4, g5, _, _⟩ := drop_cons h3
     simp only [List.length_cons] at hn
     have hE : endOf d a (x :: y :: r') i = endOf d a r' (i + 2) := by
      rw [← endOf_hdP d a [x, y] r' i (i + 2) rfl, ← cutL_rel d a x y r' g1]; rfl
     rw [hE] at hR
     exact ih (n - 2) (by omega) r' (i + 2) R (by omega) g5 (by omega) hR
   ·refine Ev.neg g1 ?_
    by_cases g2 : x = a
    ·have hE : endOf d a (x :: r) i = (i : Int) := by
      unfold endOf
      rw [cutL_by d a x r g1 g2]
      cases hc : cutL d a r with
      | nil => exact absurd hc (cutL_ne d a r)
      | cons u v => simp
     rw [hE] at hR
     refine Ev.pos g2 (Ev.step (fun k => F87.l0.eq_2 ..) ?_)
     have hdec : decide ((i : Int) < 0) = false := by simp
     rw [hdec]
     by_cases g3 : ((i + 1 : Nat) : Int) < (t.size : Int)
     ·exact Ev.pos g3 (hR _)
     ·exact Ev.neg g3 (hR _)
    ·have hE : endOf d a (x :: r) i = endOf d a r (i + 1) := by
      rw [← endOf_hdP d a [x] r i (i + 1) rfl, ← cutL_else d a x r g1 g2]; rfl
     rw [hE] at hR
     exact Ev.neg g2 (ih (n - 1) (by omega) r (i + 1) R (by omega) h3 (by omega) hR)
theorem spec_l02Read_ev {a b c d : Int} (hs : synP a b c d = true) (t : ByteArray) (ht : t.size ≤ 20000) : Ev (fun k => F87.f k a b c d t) (segR a b c d (bytesOf t)) := by
 unfold F87.f segR
 by_cases g0 : t.toList = ([] : List UInt8)
 ·exact Ev.pos g0 (Ev.ret (by rw [if_pos ((bytes_nil t).1 g0)]))
 have hne : ¬ bytesOf t = [] := fun h => g0 ((bytes_nil t).2 h)
 rw [if_neg hne]
 refine Ev.neg g0 (spec_scan a b c d t ht _ _ 0 _ (Nat.le_refl _) rfl (by omega) (fun x6 => ?_))
 rw [List.drop_zero]
 have htot := tot_cut d a _ (bytesOf t) (Nat.le_refl _)
 rw [length_bytesOf] at htot
 have hj := joinL_cut d a _ (bytesOf t) (Nat.le_refl _)
 match hL : cutL d a (bytesOf t) with
 | [] => exact absurd hL (cutL_ne d a _)
 | [h] =>
  have hE : endOf d a (bytesOf t) 0 = -1 := by simp [endOf, hL]
  rw [hE]
  exact Ev.step (fun k => F87.j1.eq_2 ..) (Ev.neg (by simp) (Ev.pos (by omega) (Ev.now _)))
 | h :: h2 :: Z =>
  rw [hL] at htot hj
  simp only [tot] at htot
  simp only [joinL, if_true, List.nil_append] at hj
  have hE : endOf d a (bytesOf t) 0 = (h.length : Int) := by simp [endOf, hL]
  rw [hE]
  have hex : t.extract 0 ((h.length : Int)).toNat = strOfNums h := by
   apply bytesOf_inj
   rw [bytesOf_extract, Int.toNat_natCast, List.drop_zero, ← hj, List.take_left, bytesOf_strOf h (fun x hx => mem_bytesOf (by rw [← hj]; simp [hx]))]
  have hbh : bytesOf (strOfNums h) = h := bytesOf_strOf h (fun x hx => mem_bytesOf (s := t) (by rw [← hj]; simp [hx]))
  refine Ev.step (fun k => F87.j1.eq_2 ..) (Ev.neg (by simp) (Ev.neg (by omega) (Ev.pos (by omega) (Ev.pos (by omega) ?_))))
  rw [hex]
  have hc2 := specCut_ev a b c d b (strOfNums h) (by rw [size_strOf]; omega)
  have hcb2 := cut_bytes d b (strOfNums h)
  have htot2 := tot_cut d b _ (bytesOf (strOfNums h)) (Nat.le_refl _)
  rw [hbh] at hc2 hcb2 htot2
  refine Ev.bind hc2 ?_
  dsimp only
  match hL2 : cutL d b h with
  | [] => exact absurd hL2 (cutL_ne d b _)
  | g :: r =>
   rw [hL2] at htot2 hcb2
   simp only [tot] at htot2
   have hr2 : rdOf ByteArray.empty ((g :: r).map strOfNums) 0 = strOfNums g := rfl
   refine Ev.pos (by simp only [List.length_map, List.length_cons]; omega) ?_
   rw [hr2]
   refine Ev.bind (specTag_ev _) ?_
   dsimp only
   by_cases gt : tagB (strOfNums g) = true
   ·refine Ev.pos gt ?_
    rw [if_pos gt]
    have hmr : (r.map strOfNums).map bytesOf = r := (List.cons.inj hcb2).2
    have h6 := specEls_loop hs (h.length : Int) (by omega) (by omega) ((g :: r).map strOfNums) (strOfNums g) (by rw [hcb2]; simp only [tot]; omega) (r.map strOfNums) 0 [] ((g.length : Int) + 1) rfl rfl (by omega) (by simp only [List.length_map, List.length_cons]; omega) (by omega) (by rw [hmr]; omega)
    rw [hmr] at h6
    have hw : wrap64 (((strOfNums g).size : Int) + 1) = (g.length : Int) + 1 := by rw [size_strOf, wrap_id (by omega) (by omega)]
    rw [hw]
    refine h6.to ?_
    cases elsR a b c d 0 r ((g.length : Int) + 1) with
    | inl q => rfl
    | inr L => simp
   ·rw [if_neg gt]
    exact Ev.neg gt (Ev.bindc rfl (Ev.now _))
theorem specSegRead_ev (a b c d : Int) (t : ByteArray) : Ev (fun k => F40.f k a b c d t) (capR t.size (synP a b c d) (segR a b c d (bytesOf t))) := by
 unfold F40.f capR
 by_cases g : (t.size : Int) > 20000
 ·exact Ev.pos g (Ev.ret (by rw [if_pos (by omega)]))
 have ht : ¬ t.size > 20000 := by omega
 simp only [if_neg ht]
 refine Ev.neg g (Ev.bind (specSyntaxRight_ev a b c d) ?_)
 cases hs : synP a b c d with
 | false => exact Ev.neg (by simp) (Ev.now _)
 | true => exact Ev.pos rfl (Ev.bind (spec_l02Read_ev hs t (by omega)) (Ev.ret (by rw [if_pos rfl])))
theorem src_n1 (b : List Int) (p mix size m : Int) (hb : b.length ≤ 1048576) (h0 : 0 ≤ p) (h1 : p ≤ (b.length : Int)) (hm : 1 ≤ m) (hm2 : m ≤ 9223372036854775807) : ∃ r p' mix', F72.f b p mix size m = some (r, p', mix', size) ∧ 0 ≤ p' ∧ p' ≤ (b.length : Int) ∧ 0 ≤ r ∧ r < m := by
 by_cases h : m ≤ 1
 ·refine ⟨0, p, mix, ?_, h0, h1, by omega, by omega⟩
  unfold F72.f
  rw [if_pos h]
 ·exact src_n b p mix size m hb h0 h1 (by omega) hm2
theorem size_extract (s : ByteArray) (i j : Nat) : (s.extract i j).size ≤ s.size := by
 have := length_bytesOf (s.extract i j)
 rw [bytesOf_extract] at this
 simp only [List.length_drop, List.length_take, length_bytesOf] at this
 omega
theorem spoil_ev (b : List Int) (p mix size : Int) (t : ByteArray) (hb : b.length ≤ 1048576) (h0 : 0 ≤ p) (h1 : p ≤ (b.length : Int)) (ht : t.size ≤ 1000000) : ∃ u p' mix', Ev (fun k => F99.f k b p mix size t) (u, p', mix', size) ∧ 0 ≤ p' ∧ p' ≤ (b.length : Int) ∧ u.size ≤ 3 * t.size + 1 := by
 unfold F99.f
 have hw : wrap64 ((t.size : Int) + 1) = (t.size : Int) + 1 := wrap_id (by omega) (by omega)
 obtain ⟨r1, p1, m1, e1, a1, b1, c1, d1⟩ := src_n1 b p mix size (wrap64 ((t.size : Int) + 1)) hb h0 h1 (by omega) (by omega)
 obtain ⟨r2, p2, m2, e2, a2, b2, c2, d2⟩ := src_n b p1 m1 size 17 hb a1 b1 (by omega) (by omega)
 obtain ⟨y, hy⟩ : ∃ y : ByteArray, y = strOfNums [bt (⟨#[32, 10, 48, 97, 45, 110, 44, 58, 93, 255, 40, 120, 126, 49, 128, 225, 59]⟩ : ByteArray) r2] := ⟨_, rfl⟩
 have hys : y.size = 1 := by rw [hy, size_strOf]; rfl
 have x1 := size_extract t 0 r1.toNat
 have x2 := size_extract t r1.toNat t.size
 have x3 := size_extract t (wrap64 (r1 + 1)).toNat t.size
 have jT : ∀ (p mix : Int), 0 ≤ p → p ≤ (b.length : Int) → ∃ u p' mix', Ev (fun k => F99.j0 k t r1 y true b p mix size) (u, p', mix', size) ∧ 0 ≤ p' ∧ p' ≤ (b.length : Int) ∧ u.size ≤ 3 * t.size + 1 := by
  intro p mix q0 q1
  exact ⟨_, _, _, Ev.step (fun k => F99.j0.eq_2 ..) (Ev.pos rfl (Ev.pos c1 (Ev.pos (by omega) (Ev.pos (by omega) (Ev.pos (by rw [size_append]; omega) (Ev.now _)))))), q0, q1, by rw [size_append, size_append]; omega⟩
 have jF : r1 ≠ (t.size : Int) → ∀ (p mix : Int), 0 ≤ p → p ≤ (b.length : Int) → ∃ u p' mix', Ev (fun k => F99.j0 k t r1 y false b p mix size) (u, p', mix', size) ∧ 0 ≤ p' ∧ p' ≤ (b.length : Int) ∧ u.size ≤ 3 * t.size + 1 := by
  intro hne p mix q0 q1
  have hw1 : wrap64 (r1 + 1) = r1 + 1 := wrap_id (by omega) (by omega)
  obtain ⟨r3, p3, m3, e3, a3, b3⟩ := src_one b p mix size 2 hb q0 q1 (by omega) (by omega)
  cases r3 with
  | true => exact ⟨_, _, _, Ev.step (fun k => F99.j0.eq_2 ..) (Ev.neg (by simp) (Ev.bindc e3 (Ev.pos rfl (Ev.pos c1 (Ev.pos (by omega) (Ev.pos (by omega) (Ev.pos (by omega) (Ev.pos (by omega) (Ev.now _)))))))) ), a3, b3, by rw [size_append]; omega⟩
  | false => exact ⟨_, _, _, Ev.step (fun k => F99.j0.eq_2 ..) (Ev.neg (by simp) (Ev.bindc e3 (Ev.neg (by simp) (Ev.pos c1 (Ev.pos (by omega) (Ev.pos (by omega) (Ev.pos (by omega) (Ev.pos (by omega) (Ev.pos (by rw [size_append]; omega) (Ev.now _)))))))))), a3, b3, by rw [size_append, size_append]; omega⟩
 have hb0 : Ev (fun _ => (some ([bt (⟨#[32, 10, 48, 97, 45, 110, 44, 58, 93, 255, 40, 120, 126, 49, 128, 225, 59]⟩ : ByteArray) r2] : List Int) : Option (List Int))) _ := Ev.now _
 by_cases g : r1 = (t.size : Int)
 ·obtain ⟨u, p', m', e, f⟩ := jT p2 m2 a2 b2
  rw [hy] at e
  exact ⟨u, p', m', Ev.bindc e1 (Ev.bindc e2 (Ev.pos c2 (Ev.pos d2 (Ev.bindc rfl (Ev.pos g e))))), f⟩
 ·obtain ⟨r3, p3, m3, e3, a3, b3⟩ := src_one b p2 m2 size 3 hb a2 b2 (by omega) (by omega)
  have hj : ∃ u p' mix', Ev (fun k => F99.j0 k t r1 y r3 b p3 m3 size) (u, p', mix', size) ∧ 0 ≤ p' ∧ p' ≤ (b.length : Int) ∧ u.size ≤ 3 * t.size + 1 := by
   cases r3 with
   | true => exact jT p3 m3 a3 b3
   | false => exact jF g p3 m3 a3 b3
  obtain ⟨u, p', m', e, f⟩ := hj
  rw [hy] at e
  exact ⟨u, p', m', Ev.bindc e1 (Ev.bindc e2 (Ev.pos c2 (Ev.pos d2 (Ev.bindc rfl (Ev.neg g (Ev.bindc e3 e)))))), f⟩
theorem specText_any (a b c d : Int) (s : ByteArray) (L : List S102) (hL : L.length ≤ 1048576) (hE : ∀ e ∈ L, bEl e.f0) : ∃ R, Ev (fun k => F38.f k a b c d s L) R ∧ R.size ≤ 6000 := by
 by_cases hs : synP a b c d = true
 ·cases hb : segB s L with
  | true =>
   refine ⟨_, (segOneT a b c d s L hs hL hE hb).1, ?_⟩
   rw [size_strOf]
   exact (segT_len hb).1
  | false =>
   have r1 := specSeg_ev s L hL hE
   rw [hb] at r1
   refine ⟨(⟨#[]⟩ : ByteArray), ?_, by simp [ByteArray.size]⟩
   unfold F38.f
   exact Ev.bind (specSyntaxRight_ev a b c d) (Ev.pos hs (Ev.bind r1 (Ev.step (fun k => F38.j0.eq_2 ..) (Ev.pos rfl (Ev.now _)))))
 ·refine ⟨(⟨#[]⟩ : ByteArray), ?_, by simp [ByteArray.size]⟩
  unfold F38.f
  exact Ev.bind (specSyntaxRight_ev a b c d) (Ev.neg hs (Ev.step (fun k => F38.j0.eq_2 ..) (Ev.pos rfl (Ev.now _))))
theorem drawSegRead_ev (L : List Int) (hb : L.length ≤ 1048576) : ∃ a b c d t, Ev (fun k => F57.f k L) (a, b, c, d, t) ∧ t.size ≤ 100000 := by
 obtain ⟨mix, size, e0⟩ := source_ev L hb
 obtain ⟨a, b, c, d, p1, m1, e1, a1, b1⟩ := syntax_draw L 0 mix size hb (by omega) (by omega)
 obtain ⟨s, E, p2, m2, e2, hL, hE, a2, b2⟩ := seg_draw L p1 m1 size hb a1 b1
 obtain ⟨R, e3, hR⟩ := specText_any a b c d s E (by omega) hE
 obtain ⟨r4, p4, m4, e4, a4, b4⟩ := src_one L p2 m2 size 2 hb a2 b2 (by omega) (by omega)
 have j0 : ∀ (u : ByteArray) (p mix : Int), u.size ≤ 50000 → 0 ≤ p → p ≤ (L.length : Int) → ∃ t, Ev (fun k => F57.j0 k u L p mix size a b c d) (a, b, c, d, t) ∧ t.size ≤ 100000 := by
  intro u p mix hu q0 q1
  obtain ⟨r5, p5, m5, e5, a5, b5⟩ := src_one L p mix size 4 hb q0 q1 (by omega) (by omega)
  cases r5 with
  | false => exact ⟨u, Ev.step (fun k => F57.j0.eq_2 ..) (Ev.bindc e5 (Ev.neg (by simp) (Ev.now _))), by omega⟩
  | true =>
   obtain ⟨r6, p6, m6, e6, a6, b6, c6, d6⟩ := src_n L p5 m5 size 16 hb a5 b5 (by omega) (by omega)
   obtain ⟨w, p7, m7, e7, hw7, a7, b7⟩ := words_ev L p6 m6 size a b c d r6 hb a6 b6 c6 (by omega)
   have hz : ((⟨#[65, 66, 67]⟩ : ByteArray)).size = 3 := rfl
   exact ⟨_, Ev.step (fun k => F57.j0.eq_2 ..) (Ev.bindc e5 (Ev.pos rfl (Ev.bindc e6 (Ev.bind e7 (Ev.pos (by dsimp only; omega) (Ev.now _)))))), by dsimp only; rw [size_append, hz]; omega⟩
 unfold F57.f
 cases r4 with
 | false =>
  obtain ⟨t, e, h⟩ := j0 R p4 m4 (by omega) a4 b4
  exact ⟨a, b, c, d, t, Ev.bind e0 (Ev.bind e1 (Ev.bind e2 (Ev.bind e3 (Ev.bindc e4 (Ev.neg (by simp) e))))), h⟩
 | true =>
  obtain ⟨u, p5, m5, e5, a5, b5, hu⟩ := spoil_ev L p4 m4 size R hb a4 b4 (by omega)
  obtain ⟨t, e, h⟩ := j0 u p5 m5 (by omega) a5 b5
  exact ⟨a, b, c, d, t, Ev.bind e0 (Ev.bind e1 (Ev.bind e2 (Ev.bind e3 (Ev.bindc e4 (Ev.pos rfl (Ev.bind e5 e)))))), h⟩
theorem implText_of {a b c d : Int} (s : ByteArray) (L : List S102) (hs : synP a b c d = true) (hb : segB s L = true) : Ev (fun k => F39.f k a b c d s L) (strOfNums (segT a b c d s L)) := by
 obtain ⟨b1, b2, b3⟩ := segB_bounds hb
 have hE : ∀ e ∈ L, bEl e.f0 := fun e he => ⟨by have := (b3 e he).1; omega, fun q hq => by have := (b3 e he).2 q hq; omega⟩
 have r2 := implSeg_ev s L (by omega) hE
 rw [hb] at r2
 unfold F39.f
 exact Ev.bind (implSyntaxRight_ev a b c d) (Ev.pos hs (Ev.bind r2 (Ev.pos rfl (Ev.bind (segOneT a b c d s L hs (by omega) hE hb).2 (Ev.now _)))))
theorem FnSegmentBack : F14.Pure := by
 intro L L2 hl _ _ hl2 _ _
 refine Ev.rounds (g := fun k => F14.f k L L2) ?_
 unfold F14.f
 have jT : Ev (fun k => F14.j0 k L L2 true) true := Ev.step (fun k => F14.j0.eq_2 ..) (Ev.pos rfl (Ev.now _))
 refine Ev.ite (fun _ => jT) (fun g1 => ?_)
 by_cases g2 : (L2.length : Int) > 1048576
 ·rw [decide_eq_true g2]; exact jT
 rw [decide_eq_false g2]
 have J2 : Ev (fun k => F14.j2 k L2) true := by
  obtain ⟨a, b, c, d, t, e0, ht⟩ := drawSegRead_ev L2 (by omega)
  have x1 := implSegRead_ev a b c d t
  have x2 := specSegRead_ev a b c d t
  refine Ev.step (fun k => F14.j2.eq_2 ..) (Ev.bind e0 (Ev.bind x1 (Ev.bind x2 (Ev.pos rfl ?_))))
  by_cases hz : t.size > 20000
  ·have hc : capR t.size (synP a b c d) (segR a b c d (bytesOf t)) = ((⟨#[]⟩ : ByteArray), [], 0, 0, 2) := if_pos hz
   rw [hc]
   exact Ev.neg (by decide) (Ev.now _)
  cases hs : synP a b c d with
  | false =>
   have hc : capR t.size false (segR a b c d (bytesOf t)) = ((⟨#[]⟩ : ByteArray), [], 0, 0, 1) := by unfold capR; rw [if_neg hz]; rfl
   rw [hc]
   exact Ev.neg (by decide) (Ev.now _)
  | true =>
   have hc : capR t.size true (segR a b c d (bytesOf t)) = segR a b c d (bytesOf t) := by unfold capR; rw [if_neg hz]; rfl
   rw [hc]
   obtain ⟨s, E, u, v, w, hR⟩ : ∃ s E u v w, segR a b c d (bytesOf t) = (s, E, u, v, w) := ⟨_, _, _, _, _, rfl⟩
   rw [hR]
   by_cases hw : w = 0
   ·subst hw
    obtain ⟨hB, hu, htk⟩ := segR_inv (four_of hs) (bytesOf t) (fun x hx => mem_bytesOf hx) s E u v hR
    have hlen := (segT_len (a := a) (b := b) (c := c) (d := d) hB).2
    have hle : (segT a b c d s E).length ≤ t.size := by
     have := congrArg List.length htk
     rw [List.length_take, length_bytesOf] at this
     omega
    have hex : t.extract 0 (u : Int).toNat = strOfNums (segT a b c d s E) := by
     apply bytesOf_inj
     rw [bytesOf_extract, hu, Int.toNat_natCast, List.drop_zero, htk, bytesOf_strOf _ (seg_rng (four_of hs) s E)]
    refine Ev.pos rfl (Ev.pos (by dsimp only; omega) (Ev.pos (by dsimp only; omega) (Ev.bind (implText_of s E hs hB) (Ev.pos (by dsimp only; omega) (Ev.ret ?_)))))
    dsimp only
    rw [hex]
    simp
   ·exact Ev.neg hw (Ev.now _)
 have J1F : ∀ a b c d s E, Ev (fun k => F14.j1 k L2 false a b c d s E) true := fun a b c d s E => Ev.step (fun k => F14.j1.eq_2 ..) (Ev.neg (by simp) J2)
 obtain ⟨mix, size, e0⟩ := source_ev L (by omega)
 obtain ⟨a, b, c, d, p1, m1, e1, a1, b1⟩ := syntax_draw L 0 mix size (by omega) (by omega) (by omega)
 obtain ⟨s, E, p2, m2, e2, hL, hE, _, _⟩ := seg_draw L p1 m1 size (by omega) a1 b1
 have ed : Ev (fun k => F55.f k L) (a, b, c, d, s, E) := by
  unfold F55.f
  exact Ev.bind e0 (Ev.bind e1 (Ev.bind e2 (Ev.now _)))
 refine Ev.step (fun k => F14.j0.eq_2 ..) (Ev.neg (by simp) (Ev.bind ed (Ev.bind (specSyntaxRight_ev a b c d) (Ev.ite (fun hs => ?_) (fun _ => J1F _ _ _ _ _ _)))))
 have hsr := specSeg_ev s E (by omega) hE
 refine Ev.bind hsr ?_
 cases hB : segB s E with
 | false => exact J1F _ _ _ _ _ _
 | true =>
  have hF := four_of hs
  have hlen := segT_len (a := a) (b := b) (c := c) (d := d) hB
  have hz2 : ((⟨#[65, 66]⟩ : ByteArray)).size = 2 := rfl
  have hz : (strOfNums (segT a b c d s E)).size = (segT a b c d s E).length := size_strOf _
  have hby : bytesOf (strOfNums (segT a b c d s E) ++ (⟨#[65, 66]⟩ : ByteArray)) = segT a b c d s E ++ [65, 66] := by
   rw [bytesOf_append, bytesOf_strOf _ (seg_rng hF s E)]; rfl
  have hr := implSegRead_ev a b c d (strOfNums (segT a b c d s E) ++ (⟨#[65, 66]⟩ : ByteArray))
  have hcap : capR (strOfNums (segT a b c d s E) ++ (⟨#[65, 66]⟩ : ByteArray)).size (synP a b c d) (segR a b c d (bytesOf (strOfNums (segT a b c d s E) ++ (⟨#[65, 66]⟩ : ByteArray)))) = (s, E, ((segT a b c d s E).length : Int), 0, 0) := by
   unfold capR
   rw [if_neg (by rw [size_append, hz, hz2]; omega), if_pos hs, hby, segR_text hF hB]
  rw [hcap] at hr
  have hlw := lwSeg_ev s E (by omega) (fun e he => (hE e he).1)
  exact Ev.step (fun k => F14.j1.eq_2 ..) (Ev.pos rfl (Ev.bind (implText_of s E hs hB) (Ev.pos (by rw [hz]; omega) (Ev.bind hr (Ev.pos rfl (Ev.pos (by dsimp only; rw [hz]) (Ev.bind hlw (Ev.pos rfl J2))))))))
end Go.Proofs.Ytchoalagkcdbhaa.Pure
