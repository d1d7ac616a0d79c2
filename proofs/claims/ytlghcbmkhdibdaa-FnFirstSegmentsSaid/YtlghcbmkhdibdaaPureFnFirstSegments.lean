/- The law FirstSegments of the program, over numbers and lists.
Conditions: none. -/
import Derived.Test.YtlghcbmkhdibdaaPFnFirstSegmentsx
import Derived.Test.YtlghcbmkhdibdaaVFnFirstSegments
namespace Go.Proofs.Ytlghcbmkhdibdaa.Pure
open Go.RowKit Go.Proofs.Ytlghcbmkhdibdaa.PFnFirstSegments Go.Proofs.YtlghcbmkhdibdaaW.PrintWords Go.Proofs.YtlghcbmkhdibdaaW.PrintLast Go.Proofs.YtlghcbmkhdibdaaW.PrintMore Go.Proofs.YtlghcbmkhdibdaaW.Pl
set_option linter.unusedVariables false
set_option linter.unusedSimpArgs false

theorem within_eq (a b c : Int) : F61.f a b c = some (withinP a b c) := by
  unfold F61.f withinP
  split
  · congr 1; simp only [decide_eq_decide]; omega
  · congr 1; symm; simp only [decide_eq_false_iff_not]; omega

theorem isGreat_eq (c : Int) : F83.f c = some (great c) := by
  unfold F83.f great
  split
  · congr 1; simp only [decide_eq_decide]; omega
  · congr 1; symm; simp only [decide_eq_false_iff_not]; omega
theorem isDigit_eq (c : Int) : F84.f c = some (digit c) := by
  unfold F84.f digit
  split
  · congr 1; simp only [decide_eq_decide]; omega
  · congr 1; symm; simp only [decide_eq_false_iff_not]; omega

theorem index_loop (l : List Int) (v : Int) (hl : (l.length : Int) ≤ 4611686018427387904) : ∀ (r : List Int) (i : Nat), l.drop i = r → ∃ x : Int, Ev (fun k => F105.l0 k l v (l.length : Int) (i : Int)) x ∧ decide (x ≥ 0) = r.contains v := by
  intro r
  induction r with
  | nil =>
    intro i h
    have h0 := ldrop_nil h
    exact ⟨-1, Ev.step (fun k => F105.l0.eq_2 ..) (Ev.neg (by omega) (Ev.now _)), by simp⟩
  | cons c r ih =>
    intro i h
    obtain ⟨h1, h2, h3⟩ := rd_cons h
    have hw : wrap64 ((i : Int) + 1) = ((i + 1 : Nat) : Int) := by rw [wrap_id (by omega) (by omega)]; omega
    obtain ⟨x, hx, he⟩ := ih (i + 1) h3
    by_cases hv : v = c
    · refine ⟨i, Ev.step (fun k => F105.l0.eq_2 ..) (Ev.pos h1 (Ev.pos (by omega) (Ev.pos h1 ?_))), by simp [hv]⟩
      rw [h2]
      exact Ev.pos hv (Ev.now _)
    · refine ⟨x, Ev.step (fun k => F105.l0.eq_2 ..) (Ev.pos h1 (Ev.pos (by omega) (Ev.pos h1 ?_))), by rw [he]; simp [hv]⟩
      rw [h2, hw]
      exact Ev.neg hv hx
theorem contains_ev (l : List Int) (v : Int) (hl : (l.length : Int) ≤ 4611686018427387904) : Ev (fun k => F82.f k l v) (l.contains v) := by
  obtain ⟨x, hx, he⟩ := index_loop l v hl l 0 rfl
  unfold F82.f
  refine Ev.bind (show Ev (fun k => F105.f k l v) x from hx) ?_
  exact Ev.ret he

theorem l01Mark_eq (c : Int) : F76.f c = some (markP c) := by
  have hf : ∀ {b : Bool}, markP c = b → some b = some (markP c) := fun h => by rw [h]
  have ht : 33 ≤ c → c ≤ 126 → c ≠ 45 → ¬ (65 ≤ c ∧ c ≤ 90) → ¬ (97 ≤ c ∧ c ≤ 122) → ¬ (48 ≤ c ∧ c ≤ 57) → markP c = true := fun h1 h2 h3 h4 h5 h6 => markP_iff.2 ⟨h1, h2, h3, h4, h5, h6⟩
  have hn : ¬ (33 ≤ c ∧ c ≤ 126 ∧ c ≠ 45 ∧ ¬ (65 ≤ c ∧ c ≤ 90) ∧ ¬ (97 ≤ c ∧ c ≤ 122) ∧ ¬ (48 ≤ c ∧ c ≤ 57)) → markP c = false := markP_not.2
  unfold F76.f
  repeat' split
  all_goals (apply hf; first | exact hn (by omega) | exact ht (by omega) (by omega) (by omega) (by omega) (by omega) (by omega) | (simp only [Bool.not_true, Bool.not_false]; first | exact hn (by omega) | exact ht (by omega) (by omega) (by omega) (by omega) (by omega) (by omega)) | skip)
  all_goals
    by_cases h57 : c ≤ 57
    · rw [decide_eq_true h57]; exact hn (by omega)
    · rw [decide_eq_false h57]; exact ht (by omega) (by omega) (by omega) (by omega) (by omega) (by omega)

section
variable (a b c d : Int)
theorem sA (i : Int) (x : Int) {r : Bool} (h0 : 0 ≤ i) (h4 : i < 4) (hx : rd [a, b, c, d] i = x) (hm : markP x = true) (h : Ev (fun k => F43.l1 k [a, b, c, d] i 0) r) : Ev (fun k => F43.l0 k [a, b, c, d] i) r := by
  refine Ev.step (fun k => F43.l0.eq_2 ..) (Ev.pos h4 (Ev.pos h0 (Ev.pos (by simp; omega) ?_)))
  rw [hx]
  exact Ev.bindc (l01Mark_eq x) (Ev.pos hm h)
theorem sA' (i : Int) (x : Int) (h0 : 0 ≤ i) (h4 : i < 4) (hx : rd [a, b, c, d] i = x) (hm : markP x = false) : Ev (fun k => F43.l0 k [a, b, c, d] i) false := by
  refine Ev.step (fun k => F43.l0.eq_2 ..) (Ev.pos h4 (Ev.pos h0 (Ev.pos (by simp; omega) ?_)))
  rw [hx]
  exact Ev.bindc (l01Mark_eq x) (Ev.neg (by simp [hm]) (Ev.now _))
theorem sA4 : Ev (fun k => F43.l0 k [a, b, c, d] 4) true := Ev.step (fun k => F43.l0.eq_2 ..) (Ev.neg (by omega) (Ev.now _))
theorem sB (i j : Int) (x y : Int) {r : Bool} (h0 : 0 ≤ j) (h : j < i) (h4 : i < 4) (hx : rd [a, b, c, d] j = x) (hy : rd [a, b, c, d] i = y) (hm : x ≠ y) (hn : Ev (fun k => F43.l1 k [a, b, c, d] i (j + 1)) r) : Ev (fun k => F43.l1 k [a, b, c, d] i j) r := by
  refine Ev.step (fun k => F43.l1.eq_2 ..) (Ev.pos h (Ev.pos h0 (Ev.pos (by simp; omega) (Ev.pos (by omega) (Ev.pos (by simp; omega) ?_)))))
  rw [hx, hy, wrap_id (by omega) (by omega)]
  exact Ev.neg hm hn
theorem sB' (i j : Int) (x y : Int) (h0 : 0 ≤ j) (h : j < i) (h4 : i < 4) (hx : rd [a, b, c, d] j = x) (hy : rd [a, b, c, d] i = y) (hm : x = y) : Ev (fun k => F43.l1 k [a, b, c, d] i j) false := by
  refine Ev.step (fun k => F43.l1.eq_2 ..) (Ev.pos h (Ev.pos h0 (Ev.pos (by simp; omega) (Ev.pos (by omega) (Ev.pos (by simp; omega) ?_)))))
  rw [hx, hy]
  exact Ev.pos hm (Ev.now _)
theorem sBe (i : Int) {r : Bool} (h0 : 0 ≤ i) (h4 : i < 4) (hn : Ev (fun k => F43.l0 k [a, b, c, d] (i + 1)) r) : Ev (fun k => F43.l1 k [a, b, c, d] i i) r := by
  refine Ev.step (fun k => F43.l1.eq_2 ..) (Ev.neg (by omega) ?_)
  rw [wrap_id (by omega) (by omega)]
  exact hn
theorem specSyntaxRight_ev : Ev (fun k => F43.f k a b c d) (synP a b c d) := by
  show Ev (fun k => F43.l0 k [a, b, c, d] 0) _
  have no_ : ∀ {g : Nat → Option Bool}, synP a b c d = false → Ev g false → Ev g (synP a b c d) := fun h e => by rw [h]; exact e
  by_cases m0 : markP a = true
  rotate_left
  · exact no_ (by simp [synP, m0]) (sA' a b c d 0 a (by omega) (by omega) rfl (by simpa using m0))
  refine sA a b c d 0 a (by omega) (by omega) rfl m0 (sBe a b c d 0 (by omega) (by omega) ?_)
  by_cases m1 : markP b = true
  rotate_left
  · exact no_ (by simp [synP, m1]) (sA' a b c d 1 b (by omega) (by omega) rfl (by simpa using m1))
  refine sA a b c d 1 b (by omega) (by omega) rfl m1 ?_
  by_cases e01 : a = b
  · exact no_ (by simp [synP, e01]) (sB' a b c d 1 0 a b (by omega) (by omega) (by omega) rfl rfl e01)
  refine sB a b c d 1 0 a b (by omega) (by omega) (by omega) rfl rfl e01 (sBe a b c d 1 (by omega) (by omega) ?_)
  by_cases m2 : markP c = true
  rotate_left
  · exact no_ (by simp [synP, m2]) (sA' a b c d 2 c (by omega) (by omega) rfl (by simpa using m2))
  refine sA a b c d 2 c (by omega) (by omega) rfl m2 ?_
  by_cases e02 : a = c
  · exact no_ (by simp [synP, e02]) (sB' a b c d 2 0 a c (by omega) (by omega) (by omega) rfl rfl e02)
  refine sB a b c d 2 0 a c (by omega) (by omega) (by omega) rfl rfl e02 ?_
  by_cases e12 : b = c
  · exact no_ (by simp [synP, e12]) (sB' a b c d 2 1 b c (by omega) (by omega) (by omega) rfl rfl e12)
  refine sB a b c d 2 1 b c (by omega) (by omega) (by omega) rfl rfl e12 (sBe a b c d 2 (by omega) (by omega) ?_)
  by_cases m3 : markP d = true
  rotate_left
  · exact no_ (by simp [synP, m3]) (sA' a b c d 3 d (by omega) (by omega) rfl (by simpa using m3))
  refine sA a b c d 3 d (by omega) (by omega) rfl m3 ?_
  by_cases e03 : a = d
  · exact no_ (by simp [synP, e03]) (sB' a b c d 3 0 a d (by omega) (by omega) (by omega) rfl rfl e03)
  refine sB a b c d 3 0 a d (by omega) (by omega) (by omega) rfl rfl e03 ?_
  by_cases e13 : b = d
  · exact no_ (by simp [synP, e13]) (sB' a b c d 3 1 b d (by omega) (by omega) (by omega) rfl rfl e13)
  refine sB a b c d 3 1 b d (by omega) (by omega) (by omega) rfl rfl e13 ?_
  by_cases e23 : c = d
  · exact no_ (by simp [synP, e23]) (sB' a b c d 3 2 c d (by omega) (by omega) (by omega) rfl rfl e23)
  refine sB a b c d 3 2 c d (by omega) (by omega) (by omega) rfl rfl e23 (sBe a b c d 3 (by omega) (by omega) ?_)
  rw [synP_iff.2 ⟨m0, m1, m2, m3, e01, e02, e12, e03, e13, e23⟩]
  exact sA4 a b c d
end

section
variable (a b c d : Int)
/-- One round of the program's loop: the byte is a mark, and none ahead is it. -/
theorem iA (i : Int) (x : Int) (pre : List Int) {r : Bool} (h0 : 0 ≤ i) (h4 : i < 4) (hx : rd [a, b, c, d] i = x) (hp : [a, b, c, d].take i.toNat = pre) (hm : markP x = true) (hc : pre.contains x = false) (h : Ev (fun k => F46.l0 k [a, b, c, d] [a, b, c, d] 4 (i + 1)) r) :
    Ev (fun k => F46.l0 k [a, b, c, d] [a, b, c, d] 4 i) r := by
  have hm' := markP_iff.1 hm
  refine Ev.step (fun k => F46.l0.eq_2 ..) (Ev.pos h4 (Ev.pos h0 (Ev.pos (by simp; omega) ?_)))
  rw [hx, hp]
  refine Ev.bindc (within_eq _ _ _) (Ev.pos (by simp [withinP]; omega) (Ev.pos (by simp; omega) ?_))
  refine Ev.bind (contains_ev pre x (by rw [← hp]; simp; omega)) ?_
  rw [hc]
  refine Ev.step (fun k => F46.j1.eq_2 ..) (Ev.neg (by simp) ?_)
  have e : x % 256 = x := by omega
  rw [e, wrap_id (by omega) (by omega)]
  refine Ev.bindc (isGreat_eq x) (Ev.neg (by simp [great]; omega) ?_)
  refine Ev.ite (fun _ => Ev.neg (by omega) ?_) (fun _ => ?_)
  · exact Ev.bindc (isDigit_eq x) (Ev.neg (by simp [digit]; omega) (Ev.neg (by omega) h))
  · exact Ev.bindc (isDigit_eq x) (Ev.neg (by simp [digit]; omega) (Ev.neg (by omega) h))
theorem iA' (i : Int) (x : Int) (pre : List Int) (h0 : 0 ≤ i) (h4 : i < 4) (hx : rd [a, b, c, d] i = x) (hp : [a, b, c, d].take i.toNat = pre) (hm : markP x = false ∨ pre.contains x = true) :
    Ev (fun k => F46.l0 k [a, b, c, d] [a, b, c, d] 4 i) false := by
  refine Ev.step (fun k => F46.l0.eq_2 ..) (Ev.pos h4 (Ev.pos h0 (Ev.pos (by simp; omega) ?_)))
  rw [hx, hp]
  have hj : Ev (fun k => F46.j1 k [a, b, c, d] x [a, b, c, d] 4 i true) false := Ev.step (fun k => F46.j1.eq_2 ..) (Ev.pos rfl (Ev.now _))
  refine Ev.bindc (within_eq _ _ _) (Ev.ite (fun w => ?_) (fun _ => hj))
  simp only [withinP, decide_eq_true_eq] at w
  refine Ev.pos (by simp; omega) (Ev.bind (contains_ev pre x (by rw [← hp]; simp; omega)) ?_)
  by_cases hc : pre.contains x = true
  · rw [hc]; exact hj
  · have hm0 : markP x = false := by
      rcases hm with h | h
      · exact h
      · exact absurd h hc
    rw [show pre.contains x = false from by simpa using hc]
    have hn : ¬ (33 ≤ x ∧ x ≤ 126 ∧ x ≠ 45 ∧ ¬ (65 ≤ x ∧ x ≤ 90) ∧ ¬ (97 ≤ x ∧ x ≤ 122) ∧ ¬ (48 ≤ x ∧ x ≤ 57)) := markP_not.1 hm0
    have e : x % 256 = x := by omega
    refine Ev.step (fun k => F46.j1.eq_2 ..) (Ev.neg (by simp) ?_)
    rw [e]
    refine Ev.bindc (isGreat_eq x) (Ev.ite (fun _ => Ev.now _) (fun g1 => ?_))
    simp only [great, decide_eq_true_eq] at g1
    refine Ev.ite (fun g2 => Ev.ite (fun _ => Ev.now _) (fun g3 => ?_)) (fun g2 => ?_)
    · refine Ev.bindc (isDigit_eq x) (Ev.ite (fun _ => Ev.now _) (fun g4 => Ev.ite (fun _ => Ev.now _) (fun g5 => ?_)))
      simp only [digit, decide_eq_true_eq] at g4
      exact absurd (show 33 ≤ x ∧ x ≤ 126 ∧ x ≠ 45 ∧ ¬ (65 ≤ x ∧ x ≤ 90) ∧ ¬ (97 ≤ x ∧ x ≤ 122) ∧ ¬ (48 ≤ x ∧ x ≤ 57) by omega) hn
    · refine Ev.bindc (isDigit_eq x) (Ev.ite (fun _ => Ev.now _) (fun g4 => Ev.ite (fun _ => Ev.now _) (fun g5 => ?_)))
      simp only [digit, decide_eq_true_eq] at g4
      exact absurd (show 33 ≤ x ∧ x ≤ 126 ∧ x ≠ 45 ∧ ¬ (65 ≤ x ∧ x ≤ 90) ∧ ¬ (97 ≤ x ∧ x ≤ 122) ∧ ¬ (48 ≤ x ∧ x ≤ 57) by omega) hn
theorem implSyntaxRight_ev : Ev (fun k => F46.f k a b c d) (synP a b c d) := by
  unfold F46.f
  refine Ev.bindc (show F81.f a b c d = some [a, b, c, d] from rfl) ?_
  show Ev (fun k => F46.l0 k [a, b, c, d] [a, b, c, d] 4 0) _
  have no_ : ∀ {g : Nat → Option Bool}, synP a b c d = false → Ev g false → Ev g (synP a b c d) := fun h e => by rw [h]; exact e
  by_cases m0 : markP a = true
  rotate_left
  · exact no_ (by simp [synP, m0]) (iA' a b c d 0 a [] (by omega) (by omega) rfl rfl (.inl (by simpa using m0)))
  refine iA a b c d 0 a [] (by omega) (by omega) rfl rfl m0 rfl ?_
  by_cases m1 : markP b = true ∧ a ≠ b
  rotate_left
  · exact no_ (by simp only [not_and, Decidable.not_not] at m1; simp only [synP, Bool.and_eq_false_iff, decide_eq_false_iff_not]; by_cases h : markP b = true <;> simp_all) (iA' a b c d 1 b [a] (by omega) (by omega) rfl rfl (by by_cases h : markP b = true <;> simp_all))
  refine iA a b c d 1 b [a] (by omega) (by omega) rfl rfl m1.1 (by simpa using fun h => m1.2 h.symm) ?_
  by_cases m2 : markP c = true ∧ a ≠ c ∧ b ≠ c
  rotate_left
  · exact no_ (by by_cases h : markP c = true <;> by_cases h1 : a = c <;> by_cases h2 : b = c <;> simp_all [synP]) (iA' a b c d 2 c [a, b] (by omega) (by omega) rfl rfl (by by_cases h : markP c = true <;> by_cases h1 : a = c <;> by_cases h2 : b = c <;> simp_all))
  refine iA a b c d 2 c [a, b] (by omega) (by omega) rfl rfl m2.1 (by simpa using ⟨fun h => m2.2.1 h.symm, fun h => m2.2.2 h.symm⟩) ?_
  by_cases m3 : markP d = true ∧ a ≠ d ∧ b ≠ d ∧ c ≠ d
  rotate_left
  · exact no_ (by by_cases h : markP d = true <;> by_cases h1 : a = d <;> by_cases h2 : b = d <;> by_cases h3 : c = d <;> simp_all [synP]) (iA' a b c d 3 d [a, b, c] (by omega) (by omega) rfl rfl (by by_cases h : markP d = true <;> by_cases h1 : a = d <;> by_cases h2 : b = d <;> by_cases h3 : c = d <;> simp_all))
  refine iA a b c d 3 d [a, b, c] (by omega) (by omega) rfl rfl m3.1 (by simpa using ⟨fun h => m3.2.1 h.symm, fun h => m3.2.2.1 h.symm, fun h => m3.2.2.2 h.symm⟩) ?_
  rw [synP_iff.2 ⟨m0, m1.1, m2.1, m3.1, m1.2, m2.2.1, m2.2.2, m3.2.1, m3.2.2.1, m3.2.2.2⟩]
  exact Ev.step (fun k => F46.l0.eq_2 ..) (Ev.neg (by omega) (Ev.now _))
end

theorem longText_loop (l : List ByteArray) (hl : (l.length : Int) ≤ 4611686018427387904) : ∀ (r : List ByteArray) (i : Nat), l.drop i = r → ∃ x : Int, Ev (fun k => F106a.l0 k l (l.length : Int) (i : Int)) x ∧ decide (x ≥ 0) = r.any (fun s => decide ((s.size : Int) > 20000)) := by
  intro r
  induction r with
  | nil =>
    intro i h
    have h0 := ldrop_nil h
    exact ⟨-1, Ev.step (fun k => F106a.l0.eq_2 ..) (Ev.neg (by omega) (Ev.now _)), by simp⟩
  | cons c r ih =>
    intro i h
    obtain ⟨h1, h2, h3⟩ := rdOf_cons ByteArray.empty h
    have hw : wrap64 ((i : Int) + 1) = ((i + 1 : Nat) : Int) := by rw [wrap_id (by omega) (by omega)]; omega
    obtain ⟨x, hx, he⟩ := ih (i + 1) h3
    by_cases hv : (c.size : Int) > 20000
    · refine ⟨i, Ev.step (fun k => F106a.l0.eq_2 ..) (Ev.pos h1 (Ev.pos (by omega) (Ev.pos h1 ?_))), by simp [hv]⟩
      rw [h2]
      exact Ev.bindc (show F92.f c = some true from by simp [F92.f, hv]) (Ev.pos rfl (Ev.now _))
    · refine ⟨x, Ev.step (fun k => F106a.l0.eq_2 ..) (Ev.pos h1 (Ev.pos (by omega) (Ev.pos h1 ?_))), by rw [he]; simp [hv]⟩
      rw [h2, hw]
      exact Ev.bindc (show F92.f c = some false from by simp only [F92.f, decide_eq_false hv]) (Ev.neg (by simp) hx)
theorem longText_any (l : List ByteArray) (hl : (l.length : Int) ≤ 4611686018427387904) : Ev (fun k => F51.f k l) (l.any (fun s => decide ((s.size : Int) > 20000))) := by
  obtain ⟨x, h1, h2⟩ := longText_loop l hl l 0 rfl
  unfold F51.f F86a.f
  exact Ev.bind (Ev.bind (show Ev (fun k => F106a.f k l) x from h1) (Ev.now _)) (Ev.ret h2)
theorem longText_ev (s : ByteArray) : Ev (fun k => F51.f k [s]) (decide ((s.size : Int) > 20000)) := (longText_any [s] (by simp)).to (by simp)

/-- Is it one of the four? -/
def ownP (a b c d x : Int) : Bool := decide (x = a ∨ x = b ∨ x = c ∨ x = d)
theorem isOne_ev (a b c d x : Int) (h0 : 0 ≤ x) (h1 : x ≤ 255) : Ev (fun k => F119.f k a b c d x) (ownP a b c d x) := by
  unfold F119.f
  refine Ev.bindc (show F81.f a b c d = some [a, b, c, d] from rfl) ?_
  rw [wrap_id (by omega) (by omega)]
  refine Ev.bind (contains_ev [a, b, c, d] x (by simp)) (Ev.ret ?_)
  by_cases h : x = a
  · simp [ownP, h]
  · by_cases h2 : x = b
    · simp [ownP, h2]
    · by_cases h3 : x = c <;> by_cases h4 : x = d <;> simp [ownP, h, h2, h3, h4]

theorem l01Own_eq (a b c d x : Int) (h0 : 0 ≤ x) (h1 : x ≤ 255) : F104.f a b c d x = some (ownP a b c d x) := by
  unfold F104.f ownP
  rw [wrap_id (by omega) (by omega)]
  by_cases h : x = a
  · simp [h]
  · by_cases h2 : x = b
    · simp [h2]
    · by_cases h3 : x = c
      · simp [h3]
      · simp only [h, h2, h3, if_false, false_or]
        congr 1

/-- A text without what releases: the place of its fault, or the text. -/
def unL (a b c d : Int) : List Int → Int → Int ⊕ List Int
  | [], _ => .inr []
  | [x], i => if ownP a b c d x then .inl i else .inr [x]
  | x :: y :: r, i => if ownP a b c d x then (if x = d then (if ownP a b c d y then (unL a b c d r (i + 2)).map id (y :: ·) else .inl i) else .inl i) else (unL a b c d (y :: r) (i + 1)).map id (x :: ·)
theorem unL_plain (a b c d x : Int) (r : List Int) (i : Int) (h : ownP a b c d x = false) : unL a b c d (x :: r) i = (unL a b c d r (i + 1)).map id (x :: ·) := by
  cases r <;> simp [unL, h]
theorem ownP_d (a b c d : Int) : ownP a b c d d = true := by simp [ownP]

/-- A piece put ahead of the first of some pieces. -/
def hdP (v : List Int) : List (List Int) → List (List Int)
  | [] => [v]
  | h :: t => (v ++ h) :: t
/-- The pieces of a text between bytes that are not released. -/
def cutL (d m : Int) : List Int → List (List Int)
  | [] => [[]]
  | [x] => if x = d then [[x]] else if x = m then [[], []] else [[x]]
  | x :: y :: r => if x = d then hdP [x, y] (cutL d m r) else if x = m then [] :: cutL d m (y :: r) else hdP [x] (cutL d m (y :: r))
theorem hdP_ne (v : List Int) (L : List (List Int)) : hdP v L ≠ [] := by cases L <;> simp [hdP]
theorem cutL_ne (d m : Int) : ∀ l, cutL d m l ≠ []
  | [] => by simp [cutL]
  | [x] => by unfold cutL; split <;> (try split) <;> simp
  | x :: y :: r => by
    unfold cutL
    split
    · exact hdP_ne _ _
    · split
      · simp
      · exact hdP_ne _ _
theorem hdP_nil {L : List (List Int)} (h : L ≠ []) : hdP [] L = L := by
  cases L with
  | nil => exact absurd rfl h
  | cons a t => simp [hdP]
theorem hdP_hdP (u v : List Int) {L : List (List Int)} : hdP u (hdP v L) = hdP (u ++ v) L := by
  cases L <;> simp [hdP]
theorem cutL_rel (d m x y : Int) (r : List Int) (h : x = d) : cutL d m (x :: y :: r) = hdP [x, y] (cutL d m r) := by simp [cutL, h]
theorem cutL_by (d m x : Int) (r : List Int) (h : x ≠ d) (h2 : x = m) : cutL d m (x :: r) = [] :: cutL d m r := by
  cases r <;> simp [cutL, h, h2] <;> (intro e; exact absurd (h2.trans e) h)
theorem cutL_else (d m x : Int) (r : List Int) (h : x ≠ d) (h2 : x ≠ m) : cutL d m (x :: r) = hdP [x] (cutL d m r) := by
  cases r <;> simp [cutL, h, h2, hdP]
theorem seg_take (l : List Int) (f i : Nat) (x : Int) (r : List Int) (h : l.drop i = x :: r) (hf : f ≤ i) : (l.take (i + 1)).drop f = (l.take i).drop f ++ [x] := by
  have hl : i < l.length := by
    by_cases hl : i < l.length
    · exact hl
    · rw [List.drop_eq_nil_of_le (by omega)] at h; cases h
  have h1 := List.drop_eq_getElem_cons hl
  rw [h] at h1
  have hx : l[i] = x := (List.cons.inj h1).1.symm
  rw [List.take_succ_eq_append_getElem hl, List.drop_append_of_le_length (by simp; omega), hx]
theorem extract_eq (s : ByteArray) (f i : Nat) : s.extract f i = strOfNums (((bytesOf s).take i).drop f) := by
  apply bytesOf_inj
  rw [bytesOf_extract, bytesOf_strOf]
  intro c hc
  exact mem_bytesOf (List.mem_of_mem_take (List.mem_of_mem_drop hc))

/-- A text with what releases ahead of each of the four. -/
def escL (a b c d : Int) : List Int → List Int
  | [] => []
  | x :: r => if ownP a b c d x then d % 256 :: x :: escL a b c d r else x :: escL a b c d r
theorem escL_length (a b c d : Int) : ∀ l : List Int, (escL a b c d l).length ≤ 2 * l.length
  | [] => by simp [escL]
  | x :: r => by
    have := escL_length a b c d r
    unfold escL
    split <;> simp <;> omega

theorem specEscape_loop (a b c d : Int) (s : ByteArray) (hs : s.size ≤ 1048576) : ∀ (l : List Int) (i : Nat) (p : List Int), (bytesOf s).drop i = l → p.length ≤ 2 * i → i ≤ s.size →
    Ev (fun k => F80.l0 k s p (i : Int) a b c d) (strOfNums (p ++ escL a b c d l)) := by
  intro l
  induction l with
  | nil =>
    intro i p h hp hi
    have h0 := drop_nil h
    exact Ev.step (fun k => F80.l0.eq_2 ..) (Ev.neg (by omega) (Ev.ret (by simp [escL])))
  | cons x r ih =>
    intro i p h hp hi
    obtain ⟨h1, h2, h3, h4, h5⟩ := drop_cons h
    have hw : wrap64 ((i : Int) + 1) = ((i + 1 : Nat) : Int) := by rw [wrap_id (by omega) (by omega)]; omega
    refine Ev.step (fun k => F80.l0.eq_2 ..) (Ev.pos h1 (Ev.pos (by omega) ?_))
    rw [h2, hw]
    refine Ev.bindc (l01Own_eq a b c d x h4 h5) ?_
    by_cases ho : ownP a b c d x = true
    · refine Ev.pos ho (Ev.pos (by omega) (Ev.bindc rfl (Ev.pos (by simp; omega) ?_)))
      exact (ih (i + 1) _ h3 (by simp; omega) (by omega)).to (by simp [escL, ho])
    · refine Ev.neg ho (Ev.pos (by omega) ?_)
      exact (ih (i + 1) _ h3 (by simp; omega) (by omega)).to (by simp [escL, ho])
theorem specEscape_ev (a b c d : Int) (s : ByteArray) (hs : s.size ≤ 1048576) : Ev (fun k => F80.f k a b c d s) (strOfNums (escL a b c d (bytesOf s))) :=
  (specEscape_loop a b c d s hs _ 0 [] rfl (by simp) (by omega)).to (by simp)

theorem implEscaped_loop (a b c d : Int) (s : ByteArray) (hs : s.size ≤ 1048576) : ∀ (l : List Int) (i : Nat) (p : List Int), (bytesOf s).drop i = l → p.length ≤ 2 * i → i ≤ s.size →
    Ev (fun k => F108.l0 k s p (s.size : Int) (i : Int) a b c d) (strOfNums (p ++ escL a b c d l)) := by
  intro l
  induction l with
  | nil =>
    intro i p h hp hi
    have h0 := drop_nil h
    exact Ev.step (fun k => F108.l0.eq_2 ..) (Ev.neg (by omega) (Ev.ret (by simp [escL])))
  | cons x r ih =>
    intro i p h hp hi
    obtain ⟨h1, h2, h3, h4, h5⟩ := drop_cons h
    have hw : wrap64 ((i : Int) + 1) = ((i + 1 : Nat) : Int) := by rw [wrap_id (by omega) (by omega)]; omega
    refine Ev.step (fun k => F108.l0.eq_2 ..) (Ev.pos h1 (Ev.pos (by omega) (Ev.pos h1 ?_)))
    rw [h2, hw]
    refine Ev.bind (isOne_ev a b c d x h4 h5) ?_
    by_cases ho : ownP a b c d x = true
    · refine Ev.pos ho (Ev.pos (by omega) (Ev.bindc rfl (Ev.pos (by simp; omega) ?_)))
      exact (ih (i + 1) _ h3 (by simp; omega) (by omega)).to (by simp [escL, ho])
    · refine Ev.neg ho (Ev.pos (by omega) ?_)
      exact (ih (i + 1) _ h3 (by simp; omega) (by omega)).to (by simp [escL, ho])
theorem implEscaped_ev (a b c d : Int) (s : ByteArray) (hs : s.size ≤ 1048576) : Ev (fun k => F108.f k a b c d s) (strOfNums (escL a b c d (bytesOf s))) :=
  (implEscaped_loop a b c d s hs _ 0 [] rfl (by simp) (by omega)).to (by simp)

/-- A text that has its releases, ahead of what is cut. -/
theorem cut_esc (a b c d m : Int) (hd : m ≠ d) (h2d : d % 256 = d) (hm : ownP a b c d m = true) (rest : List Int) (h : List Int) (t : List (List Int)) (he : cutL d m rest = h :: t) : ∀ l : List Int, cutL d m (escL a b c d l ++ rest) = (escL a b c d l ++ h) :: t
  | [] => by simpa [escL] using he
  | x :: r => by
    have ih := cut_esc a b c d m hd h2d hm rest h t he r
    unfold escL
    split
    · rw [List.cons_append, List.cons_append, cutL_rel d m _ _ _ h2d, ih]
      rfl
    · rename_i ho
      have h1 : x ≠ d := fun e => ho (by rw [e]; exact ownP_d a b c d)
      have h2 : x ≠ m := fun e => ho (by rw [e]; exact hm)
      rw [List.cons_append, cutL_else d m x _ h1 h2, ih]
      rfl
theorem un_esc (a b c d : Int) (h2d : d % 256 = d) : ∀ (l : List Int) (i : Int), unL a b c d (escL a b c d l) i = .inr l
  | [], i => rfl
  | x :: r, i => by
    unfold escL
    split
    · rename_i ho
      have := un_esc a b c d h2d r (i + 2)
      rw [h2d]
      simp only [unL, ownP_d, if_true, ho, this]
      rfl
    · rename_i ho
      rw [unL_plain a b c d x _ i (by simpa using ho), un_esc a b c d h2d r (i + 1)]
      rfl
theorem esc_mem (a b c d : Int) {y : Int} : ∀ l : List Int, y ∈ escL a b c d l → y = d % 256 ∨ y ∈ l
  | x :: r, h => by
    unfold escL at h
    split at h
    · simp only [List.mem_cons] at h ⊢
      rcases h with h | h | h
      · exact .inl h
      · exact .inr (.inl h)
      · rcases esc_mem a b c d r h with e | e
        · exact .inl e
        · exact .inr (.inr e)
    · simp only [List.mem_cons] at h ⊢
      rcases h with h | h
      · exact .inr (.inl h)
      · rcases esc_mem a b c d r h with e | e
        · exact .inl e
        · exact .inr (.inr e)

theorem wi_ {i : Nat} (h : (i : Int) ≤ 4611686018427387904) : wrap64 ((i : Int) + 1) = ((i + 1 : Nat) : Int) := by rw [wrap_id (by omega) (by omega)]; omega
/-- A list that is copied into a new one, place by place. -/
theorem tos_list {α β : Type} (z : α) (g : α → β) (T : Nat → List α → List β → Int → Option (List β)) (L : List α)
    (hT : ∀ (D : List β) (i : Nat) (r : List β), i < L.length → D.length = L.length → Ev (fun k => T k L (D.set i (g (L.getD i z))) ((i + 1 : Nat) : Int)) r → Ev (fun k => T k L D (i : Int)) r)
    (hT0 : ∀ (D : List β) (i : Nat), L.length ≤ i → Ev (fun k => T k L D (i : Int)) D) :
    ∀ (d : Nat) (D : List β) (i : Nat), L.length - i = d → D.length = L.length → (∀ j, j < i → D[j]? = (L.map g)[j]?) → Ev (fun k => T k L D (i : Int)) (L.map g)
  | 0, D, i, hd, hl, hp => by
    have e : D = L.map g := by
      apply List.ext_getElem?
      intro j
      by_cases h : j < i
      · exact hp j h
      · rw [List.getElem?_eq_none (by omega), List.getElem?_eq_none (by rw [List.length_map]; omega)]
    subst e
    exact hT0 _ i (by omega)
  | d + 1, D, i, hd, hl, hp => by
    refine hT D i _ (by omega) hl (tos_list z g T L hT hT0 d _ (i + 1) (by omega) (by rw [List.length_set]; exact hl) (fun j hj => ?_))
    by_cases h : j = i
    · subst h
      rw [List.getElem?_set_self (by omega), List.getElem?_map, List.getD_eq_getElem?_getD, List.getElem?_eq_getElem (by omega : j < L.length)]
      rfl
    · rw [List.getElem?_set_ne (by omega)]
      exact hp j (by omega)
/-- A list is measured, place by place: it is too great, or each element is bounded. -/
theorem sz_list {α : Type} (z : α) (P : α → Prop) (Z : Nat → List α → Int → Int → Option Int) (L : List α)
    (hs : ∀ (i : Nat) (x : Int), i < L.length → 0 ≤ x → x ≤ 1048576 → Ev (fun k => Z k L x (i : Int)) (-1) ∨ ∃ x', 0 ≤ x' ∧ x' ≤ x ∧ P (L.getD i z) ∧ ∀ r, Ev (fun k => Z k L x' ((i + 1 : Nat) : Int)) r → Ev (fun k => Z k L x (i : Int)) r)
    (h0 : ∀ (i : Nat) (x : Int), L.length ≤ i → Ev (fun k => Z k L x (i : Int)) x) :
    ∀ (d i : Nat) (x : Int), L.length - i = d → 0 ≤ x → x ≤ 1048576 → ∃ w, Ev (fun k => Z k L x (i : Int)) w ∧ (w = -1 ∨ (0 ≤ w ∧ w ≤ x ∧ ∀ j, i ≤ j → j < L.length → P (L.getD j z)))
  | 0, i, x, hd, h1, h2 => ⟨x, h0 i x (by omega), .inr ⟨h1, by omega, fun j _ _ => by omega⟩⟩
  | d + 1, i, x, hd, h1, h2 => by
    rcases hs i x (by omega) h1 h2 with h | ⟨x', g1, g2, g3, g4⟩
    · exact ⟨-1, h, .inl rfl⟩
    · obtain ⟨w, e1, e2⟩ := sz_list z P Z L hs h0 d (i + 1) x' (by omega) g1 (by omega)
      refine ⟨w, g4 w e1, ?_⟩
      rcases e2 with e2 | ⟨e2, e3, e4⟩
      · exact .inl e2
      · refine .inr ⟨e2, by omega, fun j hj hl => ?_⟩
        by_cases h : j = i
        · subst h; exact g3
        · exact e4 j (by omega) hl
theorem sz_all {α : Type} (z : α) (P : α → Prop) (L : List α) (h : ∀ j, 0 ≤ j → j < L.length → P (L.getD j z)) : ∀ x ∈ L, P x := by
  intro x hx
  obtain ⟨j, hj, rfl⟩ := List.getElem_of_mem hx
  have := h j (by omega) hj
  rwa [List.getD_eq_getElem?_getD, List.getElem?_eq_getElem hj] at this
theorem getD_mem {α : Type} {L : List α} {i : Nat} (z : α) (h : i < L.length) : L.getD i z ∈ L := by
  rw [List.getD_eq_getElem?_getD, List.getElem?_eq_getElem h]
  exact List.getElem_mem h
/-- A text that is bounded; a list of them. -/
def bT (s : ByteArray) : Prop := s.size ≤ 1048576
def bTs (l : List ByteArray) : Prop := l.length ≤ 1048576 ∧ ∀ s ∈ l, bT s

theorem implCut_loop (a b c d m : Int) (s : ByteArray) (hs : s.size ≤ 1048576) : ∀ (n : Nat) (l : List Int) (i f : Nat) (acc : List ByteArray), l.length ≤ n → (bytesOf s).drop i = l → f ≤ i → f ≤ s.size → i ≤ s.size + 1 → acc.length ≤ i →
    Ev (fun k => F93.l0 k s m acc (f : Int) (i : Int) a b c d) (acc ++ (hdP (((bytesOf s).take i).drop f) (cutL d m l)).map strOfNums) := by
  have hend : ∀ (i f : Nat) (acc : List ByteArray), (bytesOf s).drop i = [] → f ≤ i → f ≤ s.size → i ≤ s.size + 1 → acc.length ≤ i → Ev (fun k => F93.l0 k s m acc (f : Int) (i : Int) a b c d) (acc ++ (hdP (((bytesOf s).take i).drop f) (cutL d m [])).map strOfNums) := by
    intro i f acc h hf hf' hi ha
    have h0 := drop_nil h
    refine Ev.step (fun k => F93.l0.eq_2 ..) (Ev.neg (by omega) (Ev.pos (by omega) (Ev.pos (by omega) (Ev.pos (by omega) (Ev.ret ?_)))))
    rw [Int.toNat_natCast, extract_eq]
    rw [List.take_of_length_le (by rw [length_bytesOf]; omega), List.take_of_length_le (by rw [length_bytesOf]; omega)]
    simp [hdP, cutL]
  intro n
  induction n using Nat.strongRecOn with
  | _ n ih =>
    intro l i f acc hn h hf hf' hi ha
    match l, h, hn with
    | [], h, hn => exact hend i f acc h hf hf' hi ha
    | x :: r, h, hn =>
      obtain ⟨h1, h2, h3, h4, h5⟩ := drop_cons h
      have hw : wrap64 ((i : Int) + 1) = ((i + 1 : Nat) : Int) := by rw [wrap_id (by omega) (by omega)]; omega
      have hw2 : wrap64 (((i + 1 : Nat) : Int) + 1) = ((i + 2 : Nat) : Int) := by rw [wrap_id (by omega) (by omega)]; omega
      simp only [List.length_cons] at hn
      refine Ev.step (fun k => F93.l0.eq_2 ..) ?_
      refine Ev.pos h1 ?_
      refine Ev.pos (Int.natCast_nonneg i) ?_
      rw [h2, wrap_id (x := x) (by omega) (by omega), hw, hw2]
      clear hw hw2
      have e1 := seg_take (bytesOf s) f i x r h hf
      refine Ev.ite (fun g1 => ?_) (fun g1 => Ev.ite (fun g2 => ?_) (fun g2 => ?_))
      · cases r with
        | nil =>
          have h6 : (bytesOf s).drop (i + 2) = [] := by
            have := drop_nil h3
            rw [List.drop_eq_nil_iff, length_bytesOf]; omega
          have h7 := hend (i + 2) f acc h6 (by omega) hf' (by omega) (by omega)
          refine h7.to ?_
          have e2 : (bytesOf s).take (i + 2) = (bytesOf s).take (i + 1) := by
            have := drop_nil h3
            rw [List.take_of_length_le (by rw [length_bytesOf]; omega), List.take_of_length_le (by rw [length_bytesOf]; omega)]
          rw [e2, e1]
          simp [cutL, g1, hdP]
        | cons y r' =>
          obtain ⟨g3, g4, g5, _, _⟩ := drop_cons h3
          simp only [List.length_cons] at hn
          have h7 := ih (n - 2) (by omega) r' (i + 2) f acc (by omega) g5 (by omega) hf' (by omega) (by omega)
          refine h7.to ?_
          have e2 := seg_take (bytesOf s) f (i + 1) y r' h3 (by omega)
          rw [e2, e1, cutL_rel d m x y r' g1, hdP_hdP]
          simp
      · refine Ev.pos (Int.natCast_nonneg f) ?_
        refine Ev.pos (show (f : Int) ≤ (i : Int) by omega) ?_
        refine Ev.pos (show (i : Int) ≤ (s.size : Int) by omega) ?_
        refine Ev.pos (show acc.length < 8796093022208 by omega) ?_
        have h7 := ih (n - 1) (by omega) r (i + 1) (i + 1) (acc ++ [s.extract (f : Int).toNat (i : Int).toNat]) (by omega) h3 (by omega) (by omega) (by omega) (by simp; omega)
        refine h7.to ?_
        rw [cutL_by d m x r g1 g2, Int.toNat_natCast, Int.toNat_natCast, extract_eq]
        have e3 : ((bytesOf s).take (i + 1)).drop (i + 1) = [] := by rw [List.drop_eq_nil_iff]; simp; omega
        rw [e3, hdP_nil (cutL_ne d m r)]
        simp [hdP]
      · have h7 := ih (n - 1) (by omega) r (i + 1) f acc (by omega) h3 (by omega) hf' (by omega) (by omega)
        refine h7.to ?_
        rw [e1, cutL_else d m x r g1 g2, hdP_hdP]
/-- The pieces of a text. -/
theorem implCut_ev (a b c d m : Int) (s : ByteArray) (hs : s.size ≤ 1048576) : Ev (fun k => F93.f k a b c d s m) ((cutL d m (bytesOf s)).map strOfNums) :=
  (implCut_loop a b c d m s hs _ _ 0 0 [] (Nat.le_refl _) rfl (by omega) (by omega) (by omega) (by simp)).to (by simp [hdP_nil (cutL_ne d m _)])

theorem implUn_loop (a b c d : Int) (s : ByteArray) (hs : s.size ≤ 1048576) : ∀ (n : Nat) (l : List Int) (i : Nat) (p : List Int), l.length ≤ n → (bytesOf s).drop i = l → i ≤ s.size → p.length ≤ i →
    Ev (fun k => F112.l0 k s p (i : Int) a b c d) (match unL a b c d l (i : Int) with | .inl q => ((⟨#[]⟩ : ByteArray), q) | .inr t => (strOfNums (p ++ t), (-1))) := by
  intro n
  induction n using Nat.strongRecOn with
  | _ n ih =>
    intro l i p hn h hi hp
    match l, h, hn with
    | [], h, hn =>
      have h0 := drop_nil h
      exact Ev.step (fun k => F112.l0.eq_2 ..) (Ev.neg (by omega) (Ev.ret (by simp [unL])))
    | x :: r, h, hn =>
      obtain ⟨h1, h2, h3, h4, h5⟩ := drop_cons h
      have hw : wrap64 ((i : Int) + 1) = ((i + 1 : Nat) : Int) := by rw [wrap_id (by omega) (by omega)]; omega
      have hw2 : wrap64 (((i + 1 : Nat) : Int) + 1) = ((i + 2 : Nat) : Int) := by rw [wrap_id (by omega) (by omega)]; omega
      have hw3 : wrap64 (((i + 1 : Nat) : Int) - 1) = (i : Int) := by rw [wrap_id (by omega) (by omega)]; omega
      simp only [List.length_cons] at hn
      have plain : ownP a b c d x = false → Ev (fun k => if p.length < 140737488355328 then (F112.l0 k s (p ++ [x]) ((i + 1 : Nat) : Int) a b c d) else none) (match unL a b c d (x :: r) (i : Int) with | .inl q => ((⟨#[]⟩ : ByteArray), q) | .inr t => (strOfNums (p ++ t), (-1))) := by
        intro ho
        refine Ev.pos (by omega) ?_
        have := ih (n - 1) (by omega) r (i + 1) (p ++ [x]) (by omega) h3 (by omega) (by simp; omega)
        refine this.to ?_
        rw [unL_plain a b c d x r (i : Int) ho, show ((i + 1 : Nat) : Int) = (i : Int) + 1 by omega]
        cases unL a b c d r ((i : Int) + 1) <;> simp
      have rel : x = d → Ev (fun k => if ((i + 1 : Nat) : Int) = (s.size : Int) then (some ((⟨#[]⟩ : ByteArray), (i : Int))) else (if 0 ≤ ((i + 1 : Nat) : Int) then (if ((i + 1 : Nat) : Int) < (s.size : Int) then ((F119.f k a b c d (bt s ((i + 1 : Nat) : Int))).bind fun t => (if t = true then (if p.length < 140737488355328 then (F112.l0 k s (p ++ [bt s ((i + 1 : Nat) : Int)]) ((i + 2 : Nat) : Int) a b c d) else (none)) else (some ((⟨#[]⟩ : ByteArray), (i : Int))))) else (none)) else (none))) (match unL a b c d (x :: r) (i : Int) with | .inl q => ((⟨#[]⟩ : ByteArray), q) | .inr t => (strOfNums (p ++ t), (-1))) := by
        intro g1
        have ho : ownP a b c d x = true := by rw [g1]; exact ownP_d a b c d
        match r, h3, hn, h with
        | [], h3, hn, h =>
          have := drop_nil h3
          exact Ev.pos (by omega) (Ev.ret (by simp [unL, ho]))
        | y :: r', h3, hn, h =>
          obtain ⟨g3, g4, g5, g6, g7⟩ := drop_cons h3
          simp only [List.length_cons] at hn
          refine Ev.neg (by omega) (Ev.pos (by omega) (Ev.pos (by omega) ?_))
          rw [g4]
          refine Ev.bind (isOne_ev a b c d y g6 g7) ?_
          refine Ev.ite (fun g8 => Ev.pos (by omega) ?_) (fun g8 => Ev.ret (by simp [unL, ho, g1, g8, ownP_d]))
          refine (ih (n - 2) (by omega) r' (i + 2) (p ++ [y]) (by omega) g5 (by omega) (by simp; omega)).to ?_
          simp only [unL, ho, g1, g8, if_true]
          rw [show ((i + 2 : Nat) : Int) = (i : Int) + 2 by omega, show ownP a b c d d = true from ownP_d a b c d]
          simp only [if_true]
          cases unL a b c d r' ((i : Int) + 2) <;> simp
      refine Ev.step (fun k => F112.l0.eq_2 ..) (Ev.pos h1 (Ev.pos (by omega) ?_))
      rw [h2, wrap_id (x := x) (by omega) (by omega), hw, hw2, hw3]
      refine Ev.ite (fun g1 => rel g1) (fun g1 => Ev.bind (isOne_ev a b c d x h4 h5) (Ev.ite (fun ho => Ev.ret ?_) (fun ho => plain (by simpa using ho))))
      cases r <;> simp [unL, ho, g1]
theorem implUn_ev (a b c d : Int) (s : ByteArray) (hs : s.size ≤ 1048576) : Ev (fun k => F112.f k a b c d s) (match unL a b c d (bytesOf s) 0 with | .inl q => ((⟨#[]⟩ : ByteArray), q) | .inr t => (strOfNums t, (-1))) := by
  refine (implUn_loop a b c d s hs _ _ 0 [] (Nat.le_refl _) rfl (by omega) (by simp)).to ?_
  rw [List.drop_zero]
  cases h : unL a b c d (bytesOf s) ((0 : Nat) : Int) <;> simp at h <;> simp [h]
theorem unL_at (a b c d : Int) : ∀ (n : Nat) (l : List Int) (i q : Int), l.length ≤ n → unL a b c d l i = .inl q → i ≤ q ∧ q < i + (l.length : Int) := by
  intro n
  induction n using Nat.strongRecOn with
  | _ n ih =>
    intro l i q hn h
    match l, h, hn with
    | [], h, hn => simp [unL] at h
    | [x], h, hn =>
      simp only [unL] at h
      split at h
      · have : i = q := by simpa using h
        subst this; simp; omega
      · simp at h
    | x :: y :: r, h, hn =>
      simp only [List.length_cons] at hn ⊢
      simp only [unL] at h
      have hin : ∀ {z : Int}, (Sum.inl z : Int ⊕ List Int) = .inl q → z = q := fun e => by simpa using e
      split at h
      · split at h
        · split at h
          · cases h2 : unL a b c d r (i + 2) with
            | inl z =>
              rw [h2] at h
              have := ih (n - 2) (by omega) r (i + 2) z (by omega) h2
              have hz : z = q := by simpa using h
              omega
            | inr t => rw [h2] at h; simp at h
          · have := hin h; omega
        · have := hin h; omega
      · cases h2 : unL a b c d (y :: r) (i + 1) with
        | inl z =>
          rw [h2] at h
          have h3 := ih (n - 1) (by omega) (y :: r) (i + 1) z (by simp; omega) h2
          simp only [List.length_cons] at h3
          have hz : z = q := by simpa using h
          omega
        | inr t => rw [h2] at h; simp at h

/-! parts of a segment: printed, at most forty; a tag: three great letters -/
def printB (c : Int) : Bool := decide (32 ≤ c ∧ c ≤ 126)
def partB (s : ByteArray) : Bool := decide (s.size ≤ 40) && (bytesOf s).all printB
def tagB (s : ByteArray) : Bool := decide (s.size = 3) && (bytesOf s).all great
theorem specPart_loop (s : ByteArray) (hs : s.size ≤ 1048576) : ∀ (l : List Int) (i : Nat), (bytesOf s).drop i = l → Ev (fun k => F78.l0 k s (i : Int)) (l.all printB) := by
  intro l
  induction l with
  | nil =>
    intro i h
    have h0 := drop_nil h
    exact Ev.step (fun k => F78.l0.eq_2 ..) (Ev.neg (by omega) (Ev.now _))
  | cons c r ih =>
    intro i h
    obtain ⟨h1, h2, h3, h4, h5⟩ := drop_cons h
    refine Ev.step (fun k => F78.l0.eq_2 ..) (Ev.pos h1 (Ev.pos (by omega) ?_))
    rw [h2, wrap_id (x := (i : Int) + 1) (by omega) (by omega), show (i : Int) + 1 = ((i + 1 : Nat) : Int) by omega]
    refine Ev.ite (fun g => Ev.ret ?_) (fun g => Ev.ite (fun g2 => Ev.ret ?_) (fun g2 => (ih (i + 1) h3).to ?_))
    · have : printB c = false := by simp [printB]; omega
      simp [this]
    · have : printB c = false := by simp [printB]; omega
      simp [this]
    · have : printB c = true := by simp [printB]; omega
      simp [this]
theorem specPart_ev (s : ByteArray) (hs : s.size ≤ 1048576) : Ev (fun k => F78.f k s) (partB s) := by
  unfold F78.f
  refine Ev.ite (fun g => Ev.ret ?_) (fun g => (specPart_loop s hs _ 0 rfl).to ?_)
  · have : decide (s.size ≤ 40) = false := by simp; omega
    simp [partB, this]
  · have : decide (s.size ≤ 40) = true := by simp; omega
    simp [partB, this]
theorem implPrinted_loop (s : ByteArray) (hs : s.size ≤ 1048576) : ∀ (l : List Int) (i : Nat), (bytesOf s).drop i = l → Ev (fun k => F107.l0 k s (s.size : Int) (i : Int)) (l.all printB) := by
  intro l
  induction l with
  | nil =>
    intro i h
    have h0 := drop_nil h
    exact Ev.step (fun k => F107.l0.eq_2 ..) (Ev.neg (by omega) (Ev.now _))
  | cons c r ih =>
    intro i h
    obtain ⟨h1, h2, h3, h4, h5⟩ := drop_cons h
    refine Ev.step (fun k => F107.l0.eq_2 ..) (Ev.pos h1 (Ev.pos (by omega) (Ev.pos h1 ?_)))
    rw [h2, wrap_id (x := (i : Int) + 1) (by omega) (by omega), show (i : Int) + 1 = ((i + 1 : Nat) : Int) by omega]
    refine Ev.ite (fun g => Ev.ret ?_) (fun g => Ev.ite (fun g2 => Ev.ret ?_) (fun g2 => (ih (i + 1) h3).to ?_))
    · have : printB c = false := by simp [printB]; omega
      simp [this]
    · have : printB c = false := by simp [printB]; omega
      simp [this]
    · have : printB c = true := by simp [printB]; omega
      simp [this]
theorem implPart_ev (s : ByteArray) (hs : s.size ≤ 1048576) : Ev (fun k => F88.f k s) (partB s) := by
  unfold F88.f
  refine Ev.ite (fun g => ?_) (fun g => Ev.ret ?_)
  · have h2 : decide (s.size ≤ 40) = true := by simp; omega
    refine Ev.bind (show Ev (fun k => F107.f k s) ((bytesOf s).all printB) from implPrinted_loop s hs _ 0 rfl) (Ev.ret ?_)
    simp [partB, h2]
  · have : decide (s.size ≤ 40) = false := by simp; omega
    simp [partB, this]
theorem specTag_loop (s : ByteArray) (hs : s.size = 3) : ∀ (l : List Int) (i : Nat), (bytesOf s).drop i = l → Ev (fun k => F77.l0 k s (i : Int)) (l.all great) := by
  intro l
  induction l with
  | nil =>
    intro i h
    have h0 := drop_nil h
    exact Ev.step (fun k => F77.l0.eq_2 ..) (Ev.neg (by omega) (Ev.now _))
  | cons c r ih =>
    intro i h
    obtain ⟨h1, h2, h3, h4, h5⟩ := drop_cons h
    refine Ev.step (fun k => F77.l0.eq_2 ..) (Ev.pos (by omega) (Ev.pos (by omega) (Ev.pos h1 ?_)))
    rw [h2, wrap_id (x := (i : Int) + 1) (by omega) (by omega), show (i : Int) + 1 = ((i + 1 : Nat) : Int) by omega]
    refine Ev.ite (fun g => Ev.ret ?_) (fun g => Ev.ite (fun g2 => Ev.ret ?_) (fun g2 => (ih (i + 1) h3).to ?_))
    · have : great c = false := by simp [great]; omega
      simp [this]
    · have : great c = false := by simp [great]; omega
      simp [this]
    · have : great c = true := by simp [great]; omega
      simp [this]
theorem specTag_ev (s : ByteArray) : Ev (fun k => F77.f k s) (tagB s) := by
  unfold F77.f
  refine Ev.ite (fun g => (specTag_loop s (by omega) _ 0 rfl).to ?_) (fun g => Ev.ret ?_)
  · have : decide (s.size = 3) = true := by simp; omega
    simp [tagB, this]
  · have : decide (s.size = 3) = false := by simp; omega
    simp [tagB, this]
theorem isTag_eq (s : ByteArray) : F89.f s = some (tagB s) := by
  unfold F89.f
  by_cases h : s.size = 3
  · obtain ⟨a, b, c, hb⟩ : ∃ a b c, bytesOf s = [a, b, c] := by
      have := length_bytesOf s
      rw [h] at this
      match bytesOf s, this with
      | [a, b, c], _ => exact ⟨a, b, c, rfl⟩
    obtain ⟨h0, e0, d0, _⟩ := drop_cons (i := 0) (s := s) (c := a) (r := [b, c]) (by simpa using hb)
    obtain ⟨h1, e1, d1, _⟩ := drop_cons (i := 1) (s := s) d0
    obtain ⟨h2, e2, d2, _⟩ := drop_cons (i := 2) (s := s) d1
    have e0 : bt s 0 = a := e0
    have e1 : bt s 1 = b := e1
    have e2 : bt s 2 = c := e2
    rw [if_pos (by omega), if_pos (by omega), if_pos (by omega), if_pos (by omega), e0, e1, e2, isGreat_eq, isGreat_eq, isGreat_eq]
    have : decide (s.size = 3) = true := by simpa using h
    cases ha : great a <;> cases hb2 : great b <;> simp [tagB, this, hb, ha, hb2]
  · rw [if_neg (by omega)]
    have : decide (s.size = 3) = false := by simpa using h
    simp [tagB, this]

/-! a right segment -/
def lastE (p : List ByteArray) : Bool := ((rdOf ByteArray.empty p (wrap64 ((p.length : Int) - 1))).toList == ([] : List UInt8))
def emptyE (p : List ByteArray) : Bool := decide (p.length = 1) && lastE p
def elP (p : List ByteArray) : Bool := decide (1 ≤ p.length ∧ p.length ≤ 4) && !(decide (p.length > 1) && lastE p) && p.all partB
def lastEl (L : List S122) : Bool := match L.getLast? with | none => false | some e => emptyE e.f0
/-- A list's elements, the last one apart. -/
def segL : List S122 → Bool
  | [] => true
  | [e] => elP e.f0 && !emptyE e.f0
  | e :: e' :: r => elP e.f0 && segL (e' :: r)
theorem segL_eq : ∀ L : List S122, segL L = (L.all (fun e => elP e.f0) && !lastEl L)
  | [] => rfl
  | [e] => by simp [segL, lastEl]
  | e :: e' :: r => by
    have := segL_eq (e' :: r)
    have h2 : lastEl (e :: e' :: r) = lastEl (e' :: r) := by simp [lastEl]
    rw [segL, this, h2]
    simp [Bool.and_assoc]
def segB (s : ByteArray) (L : List S122) : Bool := tagB s && decide (L.length ≤ 10) && segL L
def bEl (p : List ByteArray) : Prop := p.length ≤ 1048576 ∧ ∀ s ∈ p, s.size ≤ 1048576
theorem rdlast (L : List S122) (h : 0 < L.length) (h1 : L.length ≤ 1048576) : 0 ≤ wrap64 ((L.length : Int) - 1) ∧ wrap64 ((L.length : Int) - 1) < (L.length : Int) ∧ lastEl L = emptyE (rd_T122 L (wrap64 ((L.length : Int) - 1))).f0 := by
  rw [wrap_id (by omega) (by omega)]
  refine ⟨by omega, by omega, ?_⟩
  unfold rd_T122 lastEl
  rw [List.getLast?_eq_getElem?, List.getD_eq_getElem?_getD, show ((L.length : Int) - 1).toNat = L.length - 1 by omega, List.getElem?_eq_getElem (by omega)]
  rfl
theorem l02Empty_eq (p : List ByteArray) : F79.f p = some (emptyE p) := by
  unfold F79.f emptyE
  by_cases h : p.length = 1
  · rw [if_pos (by omega), if_pos (by omega)]
    have hw : wrap64 ((p.length : Int) - 1) = 0 := by rw [wrap_id (by omega) (by omega)]; omega
    unfold lastE
    rw [hw]
    simp [h]
  · rw [if_neg (by omega)]
    simp [h]
theorem spec1_loop (s : ByteArray) (L : List S122) (p : List ByteArray) (hp : bEl p) (x : Int) (R : Bool) (hR : Ev (fun k => F44.l0 k (wrap64 (x + 1)) s L) R) : ∀ (r : List ByteArray) (j : Nat), p.drop j = r → Ev (fun k => F44.l1 k x p (j : Int) s L) (r.all partB && R) := by
  have hl := hp.1
  intro r
  induction r with
  | nil =>
    intro j h
    have h0 := ldrop_nil h
    exact Ev.step (fun k => F44.l1.eq_2 ..) (Ev.neg (by omega) (hR.to (by simp)))
  | cons c r ih =>
    intro j h
    obtain ⟨h1, h2, h3⟩ := rdOf_cons ByteArray.empty h
    have hm : c ∈ p := List.mem_of_mem_drop (by rw [h]; exact List.mem_cons_self)
    have hw := wi_ (i := j) (by omega)
    refine Ev.step (fun k => F44.l1.eq_2 ..) (Ev.pos h1 (Ev.pos (by omega) ?_))
    rw [h2, hw]
    refine Ev.bind (specPart_ev c (hp.2 c hm)) (Ev.ite (fun g => (ih (j + 1) h3).to (by simp [g])) (fun g => Ev.ret (by simp [g])))
theorem specSeg_loop (s : ByteArray) (L : List S122) (hL : L.length ≤ 1048576) (hE : ∀ e ∈ L, bEl e.f0) : ∀ (r : List S122) (i : Nat), L.drop i = r → Ev (fun k => F44.l0 k (i : Int) s L) (r.all (fun e => elP e.f0) && !lastEl L) := by
  intro r
  induction r with
  | nil =>
    intro i h
    have h0 := ldrop_nil h
    refine Ev.step (fun k => F44.l0.eq_2 ..) (Ev.neg (by omega) (Ev.ite (fun g => Ev.ret ?_) (fun g => ?_)))
    · have : L = [] := List.length_eq_zero_iff.1 (by omega)
      rw [this]; rfl
    · obtain ⟨h1, h2, h3⟩ := rdlast L (by omega) hL
      exact Ev.pos h1 (Ev.pos h2 (Ev.bindc (l02Empty_eq _) (Ev.ret (by rw [h3]; simp))))
  | cons e r ih =>
    intro i h
    obtain ⟨h1, h2, h3⟩ := ldrop_cons z122 h
    have hr : rd_T122 L (i : Int) = e := h2
    have hb := hE e (List.mem_of_mem_drop (by rw [h]; exact List.mem_cons_self))
    have hbl := hb.1
    have hw := wi_ (i := i) (by omega)
    have hi := ih (i + 1) h3
    rw [← hw] at hi
    have inner : Ev (fun k => F44.l1 k (i : Int) e.f0 0 s L) (e.f0.all partB && (r.all (fun e => elP e.f0) && !lastEl L)) := spec1_loop s L e.f0 hb (i : Int) _ hi _ 0 rfl
    have hw2 : wrap64 ((e.f0.length : Int) - 1) = (e.f0.length : Int) - 1 := wrap_id (by omega) (by omega)
    refine Ev.step (fun k => F44.l0.eq_2 ..) (Ev.pos h1 (Ev.pos (by omega) ?_))
    rw [hr]
    refine Ev.ite (fun g => ?_) (fun g => Ev.ite (fun g2 => ?_) (fun g2 => Ev.ite (fun g3 => Ev.pos (by rw [hw2]; omega) (Ev.pos (by rw [hw2]; omega) ?_)) (fun g3 => ?_)))
    · have : elP e.f0 = false := by simp [elP]; omega
      exact Ev.step (fun k => F44.j2.eq_2 ..) (Ev.pos rfl (Ev.ret (by simp [this])))
    · have : elP e.f0 = false := by simp [elP]; omega
      exact Ev.step (fun k => F44.j2.eq_2 ..) (Ev.pos rfl (Ev.ret (by simp [this])))
    · refine Ev.step (fun k => F44.j2.eq_2 ..) (Ev.ite (fun g4 => Ev.ret ?_) (fun g4 => inner.to ?_))
      · have : elP e.f0 = false := by
          have h4 : lastE e.f0 = true := g4
          have h5 : decide (e.f0.length > 1) = true := by simp; omega
          simp [elP, h4, h5]
        simp [this]
      · have : elP e.f0 = e.f0.all partB := by
          have h4 : lastE e.f0 = false := by simpa [lastE] using g4
          have h5 : decide (1 ≤ e.f0.length ∧ e.f0.length ≤ 4) = true := by simp; omega
          simp only [elP, h4, h5]; simp
        simp [this, Bool.and_assoc]
    · refine Ev.step (fun k => F44.j2.eq_2 ..) (Ev.neg (by simp) (inner.to ?_))
      have : elP e.f0 = e.f0.all partB := by
        have h4 : decide (e.f0.length > 1) = false := by simp; omega
        have h5 : decide (1 ≤ e.f0.length ∧ e.f0.length ≤ 4) = true := by simp; omega
        simp only [elP, h4, h5]; simp
      simp [this, Bool.and_assoc]
theorem specSeg_ev (s : ByteArray) (L : List S122) (hL : L.length ≤ 1048576) (hE : ∀ e ∈ L, bEl e.f0) : Ev (fun k => F44.f k s L) (segB s L) := by
  unfold F44.f
  have h0 : Ev (fun k => F44.l0 k 0 s L) (segL L) := (specSeg_loop s L hL hE L 0 rfl).to (segL_eq L).symm
  refine Ev.bind (specTag_ev s) (Ev.ite (fun g => Ev.step (fun k => F44.j0.eq_2 ..) (Ev.ite (fun g2 => Ev.ret ?_) (fun g2 => h0.to ?_))) (fun g => Ev.step (fun k => F44.j0.eq_2 ..) (Ev.pos rfl (Ev.ret ?_))))
  · have : decide (L.length ≤ 10) = false := by have := of_decide_eq_true g2; simp; omega
    simp [segB, this]
  · have : decide (L.length ≤ 10) = true := by simp at g2; simp; omega
    simp only [segB, g, this]; simp
  · simp [segB, g]
theorem partsIdx_loop (p : List ByteArray) (hp : bEl p) : ∀ (r : List ByteArray) (i : Nat), p.drop i = r → ∃ x : Int, Ev (fun k => F106.l0 k p (p.length : Int) (i : Int)) x ∧ decide (x ≥ 0) = !(r.all partB) := by
  have hl := hp.1
  intro r
  induction r with
  | nil =>
    intro i h
    have h0 := ldrop_nil h
    exact ⟨-1, Ev.step (fun k => F106.l0.eq_2 ..) (Ev.neg (by omega) (Ev.now _)), by simp⟩
  | cons c r ih =>
    intro i h
    obtain ⟨h1, h2, h3⟩ := rdOf_cons ByteArray.empty h
    have hm : c ∈ p := List.mem_of_mem_drop (by rw [h]; exact List.mem_cons_self)
    have hw := wi_ (i := i) (by omega)
    obtain ⟨x, hx, he⟩ := ih (i + 1) h3
    have h1c : Ev (fun k => F87.f k c) (!partB c) := by
      unfold F87.f
      exact Ev.bind (implPart_ev c (hp.2 c hm)) (Ev.now _)
    cases hc : partB c with
    | false =>
      refine ⟨i, Ev.step (fun k => F106.l0.eq_2 ..) (Ev.pos h1 (Ev.pos (by omega) (Ev.pos h1 ?_))), by simp [hc]⟩
      rw [h2]
      exact Ev.bind h1c (Ev.pos (by simp [hc]) (Ev.now _))
    | true =>
      refine ⟨x, Ev.step (fun k => F106.l0.eq_2 ..) (Ev.pos h1 (Ev.pos (by omega) (Ev.pos h1 ?_))), by rw [he]; simp [hc]⟩
      rw [h2, hw]
      exact Ev.bind h1c (Ev.neg (by simp [hc]) hx)
theorem partsAny_ev (p : List ByteArray) (hp : bEl p) : Ev (fun k => F86.f k p) (!(p.all partB)) := by
  obtain ⟨x, hx, he⟩ := partsIdx_loop p hp p 0 rfl
  unfold F86.f
  refine Ev.bind (show Ev (fun k => F106.f k p) x from hx) ?_
  exact Ev.ret he
theorem implSeg_loop (s : ByteArray) (L : List S122) (hL : L.length ≤ 1048576) (hE : ∀ e ∈ L, bEl e.f0) : ∀ (r : List S122) (i : Nat), L.drop i = r → Ev (fun k => F49.l0 k L (L.length : Int) (i : Int) s L) (segL r && (tagB s && decide (L.length ≤ 10))) := by
  intro r
  induction r with
  | nil =>
    intro i h
    have h0 := ldrop_nil h
    refine Ev.step (fun k => F49.l0.eq_2 ..) (Ev.neg (by omega) (Ev.bindc (isTag_eq s) (Ev.ite (fun g => Ev.ret ?_) (fun g => Ev.ret ?_))))
    · simp only [segL, g, Bool.true_and]
      simp only [decide_eq_decide]; omega
    · simp [g]
  | cons e r ih =>
    intro i h
    obtain ⟨h1, h2, h3⟩ := ldrop_cons z122 h
    have hr : rd_T122 L (i : Int) = e := h2
    have hb := hE e (List.mem_of_mem_drop (by rw [h]; exact List.mem_cons_self))
    have hbl := hb.1
    have hw := wi_ (i := i) (by omega)
    have hi := ih (i + 1) h3
    have hrl : r.length + (i + 1) = L.length := by
      have := congrArg List.length h3
      rw [List.length_drop] at this
      omega
    have hw2 : wrap64 ((e.f0.length : Int) - 1) = (e.f0.length : Int) - 1 := wrap_id (by omega) (by omega)
    have hw3 : wrap64 ((L.length : Int) - 1) = (L.length : Int) - 1 := wrap_id (by omega) (by omega)
    have hno : elP e.f0 = false → (segL (e :: r) && (tagB s && decide (L.length ≤ 10))) = false := by
      intro h0
      cases r <;> simp [segL, h0]
    refine Ev.step (fun k => F49.l0.eq_2 ..) (Ev.pos h1 (Ev.pos (by omega) (Ev.pos h1 (Ev.bindc (within_eq _ _ _) ?_))))
    rw [hr]
    refine Ev.ite (fun g => Ev.bind (partsAny_ev e.f0 hb) (Ev.step (fun k => F49.j1.eq_2 ..) (Ev.ite (fun g2 => Ev.ret ?_) (fun g2 => ?_)))) (fun g => Ev.step (fun k => F49.j1.eq_2 ..) (Ev.pos rfl (Ev.ret ?_)))
    · refine (hno ?_).symm
      have g3 : e.f0.all partB = false := by simpa using g2
      unfold elP; rw [g3]; simp
    · have g3 : e.f0.all partB = true := by simpa using g2
      have gw : 1 ≤ e.f0.length ∧ e.f0.length ≤ 4 := by simp [withinP] at g; omega
      refine Ev.pos (by rw [hw2]; omega) (Ev.pos (by rw [hw2]; omega) (Ev.ite (fun g4 => Ev.ite (fun g5 => Ev.ret ?_) (fun g5 => Ev.ite (fun g6 => Ev.ret ?_) (fun g6 => ?_))) (fun g4 => ?_)))
      · refine (hno ?_).symm
        have h4 : lastE e.f0 = true := by simpa [lastE] using g4
        have h5 : decide (e.f0.length > 1) = true := by simp; omega
        simp [elP, h4, h5]
      · have h4 : lastE e.f0 = true := by simpa [lastE] using g4
        have : r = [] := List.length_eq_zero_iff.1 (by rw [hw3] at g6; omega)
        subst this
        have h5 : emptyE e.f0 = true := by
          unfold emptyE
          rw [h4]
          simp; omega
        simp [segL, h5]
      · rw [hw]
        refine hi.to ?_
        have h4 : elP e.f0 = true := by
          have h5 : decide (e.f0.length > 1) = false := by simp; omega
          have h6 : decide (1 ≤ e.f0.length ∧ e.f0.length ≤ 4) = true := by simpa using gw
          simp only [elP, h5, h6, g3]; simp
        match r, hrl with
        | [], hrl => exact absurd (show (i : Int) = wrap64 ((L.length : Int) - 1) by rw [hw3]; simp at hrl; omega) g6
        | e' :: r', _ => simp [segL, h4]
      · rw [hw]
        refine hi.to ?_
        have h7 : lastE e.f0 = false := by simpa [lastE] using g4
        have h4 : elP e.f0 = true := by
          have h6 : decide (1 ≤ e.f0.length ∧ e.f0.length ≤ 4) = true := by simpa using gw
          simp only [elP, h7, h6, g3]; simp
        have h8 : emptyE e.f0 = false := by simp [emptyE, h7]
        match r with
        | [] => simp [segL, h4, h8]
        | e' :: r' => simp [segL, h4]
    · refine (hno ?_).symm
      have : decide (1 ≤ e.f0.length ∧ e.f0.length ≤ 4) = false := by simp [withinP] at g; simp; omega
      unfold elP; rw [this]; simp
theorem implSeg_ev (s : ByteArray) (L : List S122) (hL : L.length ≤ 1048576) (hE : ∀ e ∈ L, bEl e.f0) : Ev (fun k => F49.f k s L) (segB s L) := by
  unfold F49.f
  refine (implSeg_loop s L hL hE L 0 rfl).to ?_
  unfold segB
  rw [Bool.and_comm]

/-! what a cut goes through -/
def Tr (d m : Int) (v : List Int) : Prop := ∀ (rest h : List Int) (t : List (List Int)), cutL d m rest = h :: t → cutL d m (v ++ rest) = (v ++ h) :: t
theorem Tr.nil (d m : Int) : Tr d m [] := fun _ _ _ h => h
theorem Tr.app {d m : Int} {u v : List Int} (hu : Tr d m u) (hv : Tr d m v) : Tr d m (u ++ v) := by
  intro rest h t he
  rw [List.append_assoc, hu _ _ _ (hv _ _ _ he), List.append_assoc]
theorem Tr.one {d m x : Int} (h1 : x ≠ d) (h2 : x ≠ m) : Tr d m [x] := by
  intro rest h t he
  rw [List.singleton_append, cutL_else d m x rest h1 h2, he]
  rfl
theorem Tr.cons {d m x : Int} {v : List Int} (h1 : x ≠ d) (h2 : x ≠ m) (hv : Tr d m v) : Tr d m (x :: v) := Tr.app (u := [x]) (Tr.one h1 h2) hv
theorem Tr.all {d m : Int} : ∀ l : List Int, (∀ x ∈ l, x ≠ d ∧ x ≠ m) → Tr d m l
  | [], _ => Tr.nil d m
  | x :: r, h => Tr.cons (h x (by simp)).1 (h x (by simp)).2 (Tr.all r (fun y hy => h y (by simp [hy])))
theorem Tr.esc (a b c d m : Int) (hd : m ≠ d) (h2d : d % 256 = d) (hm : ownP a b c d m = true) (l : List Int) : Tr d m (escL a b c d l) := fun rest h t he => cut_esc a b c d m hd h2d hm rest h t he l
theorem Tr.done {d m : Int} {v : List Int} (h : Tr d m v) : cutL d m v = [v] := by
  have := h [] [] [] (by simp [cutL])
  simpa using this
theorem Tr.by {d m : Int} {v : List Int} (h : Tr d m v) (hd : m ≠ d) (rest : List Int) : cutL d m (v ++ m :: rest) = v :: cutL d m rest := by
  have := h (m :: rest) [] _ (cutL_by d m m rest hd rfl)
  simpa using this
/-! the text of a segment, as a list -/
def partsT (a b c d : Int) : Bool → List ByteArray → List Int
  | _, [] => []
  | f, q :: r => (if f then [] else [c]) ++ (escL a b c d (bytesOf q) ++ partsT a b c d false r)
def elsT (a b c d : Int) : List S122 → List Int
  | [] => []
  | e :: r => b :: (partsT a b c d true e.f0 ++ elsT a b c d r)
def segBody (a b c d : Int) (s : ByteArray) (L : List S122) : List Int := bytesOf s ++ elsT a b c d L
def segT (a b c d : Int) (s : ByteArray) (L : List S122) : List Int := segBody a b c d s L ++ [a]
/-- What holds of the four of a right syntax. -/
structure Four (a b c d : Int) : Prop where
  ma : 33 ≤ a ∧ a ≤ 126 ∧ ¬ (65 ≤ a ∧ a ≤ 90)
  mb : 33 ≤ b ∧ b ≤ 126 ∧ ¬ (65 ≤ b ∧ b ≤ 90)
  mc : 33 ≤ c ∧ c ≤ 126 ∧ ¬ (65 ≤ c ∧ c ≤ 90)
  md : 33 ≤ d ∧ d ≤ 126 ∧ ¬ (65 ≤ d ∧ d ≤ 90)
  ne : a ≠ b ∧ a ≠ c ∧ b ≠ c ∧ a ≠ d ∧ b ≠ d ∧ c ≠ d
theorem four_of {a b c d : Int} (h : synP a b c d = true) : Four a b c d := by
  obtain ⟨ma, mb, mc, md, h1, h2, h3, h4, h5, h6⟩ := synP_iff.1 h
  have xa := markP_iff.1 ma
  have xb := markP_iff.1 mb
  have xc := markP_iff.1 mc
  have xd := markP_iff.1 md
  exact ⟨⟨xa.1, xa.2.1, xa.2.2.2.1⟩, ⟨xb.1, xb.2.1, xb.2.2.2.1⟩, ⟨xc.1, xc.2.1, xc.2.2.2.1⟩, ⟨xd.1, xd.2.1, xd.2.2.2.1⟩, h1, h2, h3, h4, h5, h6⟩
theorem Four.a256 {a b c d : Int} (h : Four a b c d) : a % 256 = a := by have := h.ma; omega
theorem Four.b256 {a b c d : Int} (h : Four a b c d) : b % 256 = b := by have := h.mb; omega
theorem Four.c256 {a b c d : Int} (h : Four a b c d) : c % 256 = c := by have := h.mc; omega
theorem Four.d256 {a b c d : Int} (h : Four a b c d) : d % 256 = d := by have := h.md; omega
theorem esc_rng {a b c d : Int} (h : Four a b c d) (q : ByteArray) : ∀ y ∈ escL a b c d (bytesOf q), 0 ≤ y ∧ y ≤ 255 := by
  intro y hy
  rcases esc_mem a b c d _ hy with e | e
  · have := h.d256; have := h.md; omega
  · exact mem_bytesOf e
theorem parts_rng {a b c d : Int} (h : Four a b c d) : ∀ (p : List ByteArray) (f : Bool), ∀ y ∈ partsT a b c d f p, 0 ≤ y ∧ y ≤ 255
  | [], f, y, hy => by simp [partsT] at hy
  | q :: r, f, y, hy => by
    unfold partsT at hy
    rcases List.mem_append.1 hy with e | e
    · cases f <;> simp at e
      have := h.mc; omega
    · rcases List.mem_append.1 e with e | e
      · exact esc_rng h q y e
      · exact parts_rng h r false y e
theorem els_rng {a b c d : Int} (h : Four a b c d) : ∀ (L : List S122), ∀ y ∈ elsT a b c d L, 0 ≤ y ∧ y ≤ 255
  | [], y, hy => by simp [elsT] at hy
  | e :: r, y, hy => by
    unfold elsT at hy
    rcases List.mem_cons.1 hy with x | x
    · have := h.mb; omega
    · rcases List.mem_append.1 x with x | x
      · exact parts_rng h _ _ y x
      · exact els_rng h r y x
theorem body_rng {a b c d : Int} (h : Four a b c d) (s : ByteArray) (L : List S122) : ∀ y ∈ segBody a b c d s L, 0 ≤ y ∧ y ≤ 255 := by
  intro y hy
  rcases List.mem_append.1 hy with e | e
  · exact mem_bytesOf e
  · exact els_rng h L y e
theorem seg_rng {a b c d : Int} (h : Four a b c d) (s : ByteArray) (L : List S122) : ∀ y ∈ segT a b c d s L, 0 ≤ y ∧ y ≤ 255 := by
  intro y hy
  rcases List.mem_append.1 hy with e | e
  · exact body_rng h s L y e
  · simp at e; have := h.ma; omega
/-- Parts are gone through by a cut at another mark. -/
theorem parts_tr {a b c d m : Int} (h : Four a b c d) (hm : m = a ∨ m = b) : ∀ (p : List ByteArray) (f : Bool), Tr d m (partsT a b c d f p)
  | [], f => Tr.nil d m
  | q :: r, f => by
    have hmd : m ≠ d := by have := h.ne; omega
    have hcm : c ≠ m := by have := h.ne; omega
    have ho : ownP a b c d m = true := by simp [ownP]; omega
    unfold partsT
    refine Tr.app ?_ (Tr.app (Tr.esc a b c d m hmd h.d256 ho _) (parts_tr h hm r false))
    cases f
    · exact Tr.one (by have := h.ne; omega) hcm
    · exact Tr.nil d m
theorem els_tr {a b c d : Int} (h : Four a b c d) : ∀ L : List S122, Tr d a (elsT a b c d L)
  | [] => Tr.nil d a
  | e :: r => by
    unfold elsT
    exact Tr.cons (by have := h.ne; omega) (by have := h.ne; omega) (Tr.app (parts_tr h (.inl rfl) e.f0 true) (els_tr h r))
theorem tag_tr {a b c d m : Int} (h : Four a b c d) (hm : m = a ∨ m = b ∨ m = c) {s : ByteArray} (hs : tagB s = true) : Tr d m (bytesOf s) := by
  refine Tr.all _ (fun x hx => ?_)
  simp only [tagB, Bool.and_eq_true, List.all_eq_true] at hs
  have hg := hs.2 x hx
  simp only [great, decide_eq_true_eq] at hg
  have h1 := h.ma.2.2; have h2 := h.mb.2.2; have h3 := h.mc.2.2; have h4 := h.md.2.2
  omega
/-- A text that begins with a right segment's is cut at its end. -/
theorem cut_seg {a b c d : Int} (h : Four a b c d) {s : ByteArray} (hs : tagB s = true) (L : List S122) (rest : List Int) : cutL d a (segT a b c d s L ++ rest) = segBody a b c d s L :: cutL d a rest := by
  unfold segT
  rw [List.append_assoc]
  exact Tr.by (Tr.app (tag_tr h (.inl rfl) hs) (els_tr h L)) (by have := h.ne; omega) rest
theorem cut_els {a b c d : Int} (h : Four a b c d) : ∀ (L : List S122) (v : List Int), Tr d b v → cutL d b (v ++ elsT a b c d L) = v :: L.map (fun e => partsT a b c d true e.f0)
  | [], v, hv => by simpa [elsT] using hv.done
  | e :: r, v, hv => by
    unfold elsT
    rw [Tr.by hv (by have := h.ne; omega), cut_els h r _ (parts_tr h (.inr rfl) e.f0 true)]
    rfl
theorem cut_body {a b c d : Int} (h : Four a b c d) {s : ByteArray} (hs : tagB s = true) (L : List S122) : cutL d b (segBody a b c d s L) = bytesOf s :: L.map (fun e => partsT a b c d true e.f0) := cut_els h L _ (tag_tr h (.inr (.inl rfl)) hs)
theorem cut_partsF {a b c d : Int} (h : Four a b c d) : ∀ (r : List ByteArray) (v : List Int), Tr d c v → cutL d c (v ++ partsT a b c d false r) = v :: r.map (fun q => escL a b c d (bytesOf q))
  | [], v, hv => by simpa [partsT] using hv.done
  | q :: r, v, hv => by
    have ho : ownP a b c d c = true := by simp [ownP]
    unfold partsT
    simp only [Bool.false_eq_true, if_false, List.singleton_append]
    rw [Tr.by hv (by have := h.ne; omega), cut_partsF h r _ (Tr.esc a b c d c (by have := h.ne; omega) h.d256 ho _)]
    rfl
theorem cut_parts {a b c d : Int} (h : Four a b c d) (q : ByteArray) (r : List ByteArray) : cutL d c (partsT a b c d true (q :: r)) = (q :: r).map (fun q => escL a b c d (bytesOf q)) := by
  have ho : ownP a b c d c = true := by simp [ownP]
  unfold partsT
  simp only [if_true, List.nil_append]
  exact cut_partsF h r _ (Tr.esc a b c d c (by have := h.ne; omega) h.d256 ho _)
theorem parts_len (a b c d : Int) : ∀ (p : List ByteArray) (f : Bool), (∀ q ∈ p, q.size ≤ 40) → (partsT a b c d f p).length ≤ 81 * p.length
  | [], f, _ => by simp [partsT]
  | q :: r, f, h => by
    have h1 := parts_len a b c d r false (fun x hx => h x (by simp [hx]))
    have h2 := escL_length a b c d (bytesOf q)
    rw [length_bytesOf] at h2
    have h3 := h q (by simp)
    unfold partsT
    cases f <;> simp only [List.length_append, List.length_cons, List.length_nil, Bool.false_eq_true, if_false, if_true] <;> omega
theorem els_len (a b c d : Int) : ∀ (L : List S122), (∀ e ∈ L, e.f0.length ≤ 4 ∧ ∀ q ∈ e.f0, q.size ≤ 40) → (elsT a b c d L).length ≤ 325 * L.length
  | [], _ => by simp [elsT]
  | e :: r, h => by
    have h1 := els_len a b c d r (fun x hx => h x (by simp [hx]))
    have h2 := parts_len a b c d e.f0 true (h e (by simp)).2
    have h3 := (h e (by simp)).1
    unfold elsT
    simp only [List.length_append, List.length_cons]
    omega

/-! the text of a segment, told -/
theorem segInT (a b c d : Int) (hF : Four a b c d) (s : ByteArray) (L : List S122) (Z : List Int) (i : Nat) (hi : i < L.length) (hL : L.length ≤ 10) (p : List ByteArray) (hp : (rd_T122 L (i : Int)).f0 = p) (hpl : p.length ≤ 4) (hps : ∀ q ∈ p, q.size ≤ 40)
    (hnext : ∀ x : List Int, x.length ≤ 1000 + 400 * (i + 1) → Ev (fun k => F45.l0 k (strOfNums x) ((i + 1 : Nat) : Int) a b c d s L) (strOfNums (x ++ Z)) ∧ Ev (fun k => F90.l0 k x L (L.length : Int) ((i + 1 : Nat) : Int) a b c d) (strOfNums (x ++ Z))) :
    ∀ (r : List ByteArray) (j : Nat) (x : List Int), p.drop j = r → j ≤ p.length → x.length ≤ 1001 + 400 * i + 81 * j → Ev (fun k => F45.l1 k (strOfNums x) (i : Int) (j : Int) a b c d s L) (strOfNums (x ++ (partsT a b c d (decide (j = 0)) r ++ Z))) ∧ Ev (fun k => F90.l1 k x L (L.length : Int) (i : Int) p (p.length : Int) (j : Int) a b c d) (strOfNums (x ++ (partsT a b c d (decide (j = 0)) r ++ Z))) := by
  intro r
  induction r with
  | nil =>
    intro j x h hj hx
    have h0 := ldrop_nil h
    obtain ⟨r1, r2⟩ := hnext x (by omega)
    rw [← wi_ (by omega)] at r1 r2
    simp only [partsT, List.nil_append]
    refine ⟨Ev.step (fun k => F45.l1.eq_2 ..) (Ev.pos (by omega) (Ev.pos (by omega) ?_)), Ev.step (fun k => F90.l1.eq_2 ..) (Ev.neg (by omega) r2)⟩
    rw [hp]
    exact Ev.neg (by omega) r1
  | cons q r ih =>
    intro j x h hj hx
    obtain ⟨h1, h2, h3⟩ := ldrop_cons ByteArray.empty h
    have hq : rdOf ByteArray.empty p (j : Int) = q := h2
    have hqs := hps q (List.mem_of_mem_drop (by rw [h]; exact List.mem_cons_self))
    have hw := wi_ (i := j) (by omega)
    have e1 := specEscape_ev a b c d q (by omega)
    have e2 := implEscaped_ev a b c d q (by omega)
    have hel := escL_length a b c d (bytesOf q)
    rw [length_bytesOf] at hel
    obtain ⟨u, hu⟩ : ∃ u, u = strOfNums (escL a b c d (bytesOf q)) := ⟨_, rfl⟩
    have hub : bytesOf u = escL a b c d (bytesOf q) := by rw [hu]; exact bytesOf_strOf _ (esc_rng hF q)
    have hus : u.size ≤ 80 := by rw [hu, size_strOf]; omega
    rw [← hu] at e1 e2
    have hz : (strOfNums [c % 256]).size = 1 := by rw [size_strOf]; rfl
    have hc := hF.c256
    by_cases g : (j : Int) > 0
    · obtain ⟨r1, r2⟩ := ih (j + 1) (x ++ [c % 256] ++ bytesOf u) h3 (by omega) (by simp only [List.length_append, List.length_singleton, length_bytesOf]; omega)
      rw [← hw] at r1 r2
      have hE : x ++ [c % 256] ++ bytesOf u ++ (partsT a b c d (decide (j + 1 = 0)) r ++ Z) = x ++ (partsT a b c d (decide (j = 0)) (q :: r) ++ Z) := by
        have hj0 : decide (j = 0) = false := by simp; omega
        have hj1 : decide (j + 1 = 0) = false := by simp
        rw [hj0, hj1, hub, hc]
        simp [partsT]
      rw [hE] at r1 r2
      rw [strOf_append (x ++ [c % 256]), strOf_append x, strOf_bytesOf] at r1
      refine ⟨Ev.step (fun k => F45.l1.eq_2 ..) (Ev.pos (by omega) (Ev.pos (by omega) ?_)), Ev.step (fun k => F90.l1.eq_2 ..) (Ev.pos h1 (Ev.pos (by omega) (Ev.pos h1 (Ev.pos g (Ev.pos (by omega) (Ev.bindc rfl ?_))))))⟩
      · rw [hp, hq]
        exact Ev.pos h1 (Ev.pos g (Ev.bindc rfl (Ev.pos (by rw [hz, size_strOf]; omega) (Ev.pos (by omega) (Ev.bind e1 (Ev.pos (by rw [size_append, hz, size_strOf]; omega) r1))))))
      · rw [hq]
        exact Ev.bind e2 (Ev.pos (by simp only [List.length_append, List.length_singleton]; omega) r2)
    · obtain ⟨r1, r2⟩ := ih (j + 1) (x ++ bytesOf u) h3 (by omega) (by simp only [List.length_append, length_bytesOf]; omega)
      rw [← hw] at r1 r2
      have hE : x ++ bytesOf u ++ (partsT a b c d (decide (j + 1 = 0)) r ++ Z) = x ++ (partsT a b c d (decide (j = 0)) (q :: r) ++ Z) := by
        have hj0 : decide (j = 0) = true := by simp; omega
        have hj1 : decide (j + 1 = 0) = false := by simp
        rw [hj0, hj1, hub]
        simp [partsT]
      rw [hE] at r1 r2
      rw [strOf_append x, strOf_bytesOf] at r1
      refine ⟨Ev.step (fun k => F45.l1.eq_2 ..) (Ev.pos (by omega) (Ev.pos (by omega) ?_)), Ev.step (fun k => F90.l1.eq_2 ..) (Ev.pos h1 (Ev.pos (by omega) (Ev.pos h1 (Ev.neg g ?_))))⟩
      · rw [hp, hq]
        exact Ev.pos h1 (Ev.neg g (Ev.pos (by omega) (Ev.bind e1 (Ev.pos (by rw [size_strOf]; omega) r1))))
      · rw [hq]
        exact Ev.bind e2 (Ev.pos (by omega) r2)
theorem segOutT (a b c d : Int) (hF : Four a b c d) (s : ByteArray) (L : List S122) (hL : L.length ≤ 10) (hE : ∀ e ∈ L, e.f0.length ≤ 4 ∧ ∀ q ∈ e.f0, q.size ≤ 40) : ∀ (r : List S122) (i : Nat) (x : List Int), L.drop i = r → i ≤ L.length → x.length ≤ 1000 + 400 * i → Ev (fun k => F45.l0 k (strOfNums x) (i : Int) a b c d s L) (strOfNums (x ++ (elsT a b c d r ++ [a]))) ∧ Ev (fun k => F90.l0 k x L (L.length : Int) (i : Int) a b c d) (strOfNums (x ++ (elsT a b c d r ++ [a]))) := by
  intro r
  induction r with
  | nil =>
    intro i x h hi hx
    have h0 := ldrop_nil h
    have hz : (strOfNums [a % 256]).size = 1 := by rw [size_strOf]; rfl
    have hE : strOfNums x ++ strOfNums [a % 256] = strOfNums (x ++ (elsT a b c d [] ++ [a])) := by rw [← strOf_append, hF.a256]; rfl
    exact ⟨Ev.step (fun k => F45.l0.eq_2 ..) (Ev.neg (by omega) (Ev.bindc rfl (Ev.pos (by rw [hz, size_strOf]; omega) (Ev.ret hE)))), Ev.step (fun k => F90.l0.eq_2 ..) (Ev.neg (by omega) (Ev.pos (by omega) (Ev.ret (by rw [← hE, strOf_append]))))⟩
  | cons e r ih =>
    intro i x h hi hx
    obtain ⟨h1, h2, h3⟩ := ldrop_cons z122 h
    have hr : rd_T122 L (i : Int) = e := h2
    have hz : (strOfNums [b % 256]).size = 1 := by rw [size_strOf]; rfl
    obtain ⟨hl, hs⟩ := hE e (List.mem_of_mem_drop (by rw [h]; exact List.mem_cons_self))
    obtain ⟨r1, r2⟩ := segInT a b c d hF s L (elsT a b c d r ++ [a]) i (by omega) hL e.f0 (by rw [hr]) hl hs (fun y hy => ih (i + 1) y h3 (by omega) hy) e.f0 0 (x ++ [b % 256]) rfl (by omega) (by simp; omega)
    have hX : x ++ [b % 256] ++ (partsT a b c d (decide (0 = 0)) e.f0 ++ (elsT a b c d r ++ [a])) = x ++ (elsT a b c d (e :: r) ++ [a]) := by
      rw [hF.b256]
      simp [elsT]
    rw [hX] at r1 r2
    rw [strOf_append x] at r1
    refine ⟨Ev.step (fun k => F45.l0.eq_2 ..) (Ev.pos h1 (Ev.bindc rfl (Ev.pos (by rw [hz, size_strOf]; omega) r1))), Ev.step (fun k => F90.l0.eq_2 ..) (Ev.pos h1 (Ev.pos (by omega) (Ev.pos h1 (Ev.pos (by omega) ?_))))⟩
    rw [hr]
    exact r2
theorem segB_bounds {s : ByteArray} {L : List S122} (h : segB s L = true) : s.size = 3 ∧ L.length ≤ 10 ∧ ∀ e ∈ L, e.f0.length ≤ 4 ∧ ∀ q ∈ e.f0, q.size ≤ 40 := by
  unfold segB tagB at h
  rw [segL_eq] at h
  simp only [Bool.and_eq_true, decide_eq_true_eq, List.all_eq_true] at h
  obtain ⟨⟨⟨h1, _⟩, h2⟩, h3, _⟩ := h
  refine ⟨h1, h2, fun e he => ?_⟩
  have g := h3 e he
  unfold elP at g
  simp only [Bool.and_eq_true, decide_eq_true_eq, List.all_eq_true] at g
  refine ⟨g.1.1.2, fun q hq => ?_⟩
  have := g.2 q hq
  unfold partB at this
  simp only [Bool.and_eq_true, decide_eq_true_eq] at this
  exact this.1
theorem segT_len {a b c d : Int} {s : ByteArray} {L : List S122} (h : segB s L = true) : (segT a b c d s L).length ≤ 6000 ∧ 4 ≤ (segT a b c d s L).length := by
  obtain ⟨b1, b2, b3⟩ := segB_bounds h
  have := els_len a b c d L b3
  unfold segT segBody
  simp only [List.length_append, length_bytesOf, List.length_singleton]
  omega
/-- The text of a right segment. -/
theorem segOneT (a b c d : Int) (s : ByteArray) (L : List S122) (hs : synP a b c d = true) (hL : L.length ≤ 1048576) (hE : ∀ e ∈ L, bEl e.f0) (hb : segB s L = true) : Ev (fun k => F45.f k a b c d s L) (strOfNums (segT a b c d s L)) ∧ Ev (fun k => F90.f k a b c d s L) (strOfNums (segT a b c d s L)) := by
  have r1 := specSeg_ev s L hL hE
  rw [hb] at r1
  obtain ⟨b1, b2, b3⟩ := segB_bounds hb
  obtain ⟨q1, q2⟩ := segOutT a b c d (four_of hs) s L b2 b3 L 0 (bytesOf s) rfl (by omega) (by rw [length_bytesOf]; omega)
  rw [strOf_bytesOf] at q1
  have hX : bytesOf s ++ (elsT a b c d L ++ [a]) = segT a b c d s L := by simp [segT, segBody]
  rw [hX] at q1 q2
  refine ⟨?_, by unfold F90.f; exact Ev.pos (by omega) q2⟩
  unfold F45.f
  exact Ev.bind (specSyntaxRight_ev a b c d) (Ev.pos hs (Ev.bind r1 (Ev.step (fun k => F45.j0.eq_2 ..) (Ev.neg (by simp) q1))))

/-! the texts of segments -/
theorem join_flat : ∀ L : List (List UInt8), Lib.join L [] = L.flatten
  | [] => rfl
  | [x] => by simp [Lib.join, List.intercalate]
  | x :: y :: r => by
    have ih := join_flat (y :: r)
    simp only [Lib.join, List.intercalate, List.intersperse, List.flatten_cons, List.nil_append] at ih ⊢
    rw [ih]
theorem text_nil : F91.text [] (⟨#[]⟩ : ByteArray) = (⟨#[]⟩ : ByteArray) := rfl
theorem text_snoc (X : List ByteArray) (R : ByteArray) : F91.text (X ++ [R]) (⟨#[]⟩ : ByteArray) = F91.text X (⟨#[]⟩ : ByteArray) ++ R := by
  have h : (F91.text (X ++ [R]) (⟨#[]⟩ : ByteArray)).data.toList = (F91.text X (⟨#[]⟩ : ByteArray) ++ R).data.toList := by
    unfold F91.text
    have e : (⟨#[]⟩ : ByteArray).data.toList = [] := rfl
    rw [e, join_flat, join_flat]
    simp
  exact toList_inj.1 (by rwa [ByteArray.toList_eq, ByteArray.toList_eq])
abbrev bSg (g : S88) : Prop := g.f1.length ≤ 1048576 ∧ ∀ e ∈ g.f1, bEl e.f0
theorem segsIdx_loop (G : List S88) (hG : G.length ≤ 1048576) (hB : ∀ g ∈ G, bSg g) : ∀ (r : List S88) (i : Nat), G.drop i = r → ∃ x : Int, Ev (fun k => F85.l0 k G (G.length : Int) (i : Int)) x ∧ decide (x ≥ 0) = !(r.all (fun g => segB g.f0 g.f1)) := by
  intro r
  induction r with
  | nil =>
    intro i h
    have h0 := ldrop_nil h
    exact ⟨-1, Ev.step (fun k => F85.l0.eq_2 ..) (Ev.neg (by omega) (Ev.now _)), by simp⟩
  | cons g r ih =>
    intro i h
    obtain ⟨h1, h2, h3⟩ := ldrop_cons z88 h
    have hr : rd_T88 G (i : Int) = g := h2
    have hw := wi_ (i := i) (by omega)
    obtain ⟨y, hy, hy2⟩ := ih (i + 1) h3
    rw [← hw] at hy
    have hb := hB g (List.mem_of_mem_drop (by rw [h]; exact List.mem_cons_self))
    have hc : Ev (fun k => F48.f k g.f0 g.f1) (!(segB g.f0 g.f1)) := by unfold F48.f; exact Ev.bind (implSeg_ev g.f0 g.f1 hb.1 hb.2) (Ev.now _)
    by_cases q : segB g.f0 g.f1 = true
    · refine ⟨y, Ev.step (fun k => F85.l0.eq_2 ..) (Ev.pos h1 (Ev.pos (by omega) (Ev.pos h1 ?_))), by rw [hy2]; simp [q]⟩
      rw [hr]; exact Ev.bind hc (Ev.neg (by simp [q]) hy)
    · refine ⟨i, Ev.step (fun k => F85.l0.eq_2 ..) (Ev.pos h1 (Ev.pos (by omega) (Ev.pos h1 ?_))), by simp [q]⟩
      rw [hr]; exact Ev.bind hc (Ev.pos (by simp [q]) (Ev.now _))
/-- The reference stops at the first that is not right. -/
theorem specSegs_bad (a b c d : Int) (hs : synP a b c d = true) (G : List S88) (hG : G.length ≤ 200) (hB : ∀ g ∈ G, bSg g) : ∀ (r : List S88) (i : Nat) (t : ByteArray), G.drop i = r → i ≤ G.length → t.size ≤ 6000 * i → r.all (fun g => segB g.f0 g.f1) = false → Ev (fun k => F19.l0 k G t (i : Int) a b c d) (⟨#[]⟩ : ByteArray) := by
  intro r
  induction r with
  | nil => intro i t h hi ht hr; simp at hr
  | cons g r ih =>
    intro i t h hi ht hr
    obtain ⟨h1, h2, h3⟩ := ldrop_cons z88 h
    have hg : rd_T88 G (i : Int) = g := h2
    have hb := hB g (List.mem_of_mem_drop (by rw [h]; exact List.mem_cons_self))
    have r1 := specSeg_ev g.f0 g.f1 hb.1 hb.2
    refine Ev.step (fun k => F19.l0.eq_2 ..) (Ev.pos h1 (Ev.pos (by omega) ?_))
    rw [hg]
    by_cases q : segB g.f0 g.f1 = true
    · obtain ⟨q1, q2⟩ := segOneT a b c d g.f0 g.f1 hs hb.1 hb.2 q
      have q3 := (segT_len (a := a) (b := b) (c := c) (d := d) q).1
      obtain ⟨R, hR⟩ : ∃ R, R = strOfNums (segT a b c d g.f0 g.f1) := ⟨_, rfl⟩
      have q3 : R.size ≤ 6000 := by rw [hR, size_strOf]; exact q3
      rw [← hR] at q1 q2
      have hn := ih (i + 1) (t ++ R) h3 (by omega) (by rw [size_append]; omega) (by simpa [q] using hr)
      rw [← wi_ (by omega)] at hn
      exact Ev.bind r1 (Ev.pos q (Ev.bind q1 (Ev.pos (by omega) hn)))
    · exact Ev.bind r1 (Ev.neg q (Ev.now _))
def segsT (a b c d : Int) : List S88 → List Int
  | [] => []
  | g :: r => segT a b c d g.f0 g.f1 ++ segsT a b c d r
def capT (x : List Int) : ByteArray := if x.length > 20000 then (⟨#[]⟩ : ByteArray) else strOfNums x
theorem segsGood (a b c d : Int) (hs : synP a b c d = true) (G : List S88) (hG : G.length ≤ 200) (hB : ∀ g ∈ G, bSg g) (hA : ∀ g ∈ G, segB g.f0 g.f1 = true) : ∀ (r : List S88) (i : Nat) (X : List ByteArray) (x : List Int), G.drop i = r → i ≤ G.length → X.length = i → F91.text X (⟨#[]⟩ : ByteArray) = strOfNums x → x.length ≤ 6000 * i → Ev (fun k => F19.l0 k G (strOfNums x) (i : Int) a b c d) (capT (x ++ segsT a b c d r)) ∧ Ev (fun k => F50.l0 k G X G (G.length : Int) (i : Int) a b c d) (capT (x ++ segsT a b c d r)) := by
  intro r
  induction r with
  | nil =>
    intro i X x h hi hX hx ht
    have h0 := ldrop_nil h
    have hj : F91.f X (⟨#[]⟩ : ByteArray) = some (strOfNums x) := by
      unfold F91.f
      rw [if_pos (by rw [hx, size_strOf]; omega), if_pos (by omega), hx]
    have hz : ((strOfNums x).size : Int) = (x.length : Int) := by rw [size_strOf]
    simp only [segsT, List.append_nil]
    by_cases g : x.length > 20000
    · have he : capT x = (⟨#[]⟩ : ByteArray) := if_pos g
      rw [he]
      exact ⟨Ev.step (fun k => F19.l0.eq_2 ..) (Ev.neg (by omega) (Ev.pos (by rw [hz]; omega) (Ev.now _))), Ev.step (fun k => F50.l0.eq_2 ..) (Ev.neg (by omega) (Ev.bindc hj (Ev.neg (by omega) (Ev.bind (longText_ev _) (Ev.pos (by rw [hz]; simp; omega) (Ev.now _))))))⟩
    · have he : capT x = strOfNums x := if_neg g
      rw [he]
      exact ⟨Ev.step (fun k => F19.l0.eq_2 ..) (Ev.neg (by omega) (Ev.neg (by rw [hz]; omega) (Ev.now _))), Ev.step (fun k => F50.l0.eq_2 ..) (Ev.neg (by omega) (Ev.bindc hj (Ev.neg (by omega) (Ev.bind (longText_ev _) (Ev.neg (by rw [hz]; simp; omega) (Ev.now _))))))⟩
  | cons g r ih =>
    intro i X x h hi hX hx ht
    obtain ⟨h1, h2, h3⟩ := ldrop_cons z88 h
    have hg : rd_T88 G (i : Int) = g := h2
    have hm : g ∈ G := List.mem_of_mem_drop (by rw [h]; exact List.mem_cons_self)
    have hb := hB g hm
    have q := hA g hm
    have r1 := specSeg_ev g.f0 g.f1 hb.1 hb.2
    rw [q] at r1
    obtain ⟨q1, q2⟩ := segOneT a b c d g.f0 g.f1 hs hb.1 hb.2 q
    have q3 := (segT_len (a := a) (b := b) (c := c) (d := d) q).1
    obtain ⟨t1, t2⟩ := ih (i + 1) (X ++ [strOfNums (segT a b c d g.f0 g.f1)]) (x ++ segT a b c d g.f0 g.f1) h3 (by omega) (by simp; omega) (by rw [text_snoc, hx, strOf_append]) (by simp only [List.length_append]; omega)
    rw [← wi_ (by omega)] at t1 t2
    have hE : x ++ segT a b c d g.f0 g.f1 ++ segsT a b c d r = x ++ segsT a b c d (g :: r) := by simp [segsT]
    rw [hE] at t1 t2
    rw [strOf_append x] at t1
    refine ⟨Ev.step (fun k => F19.l0.eq_2 ..) (Ev.pos h1 (Ev.pos (by omega) ?_)), Ev.step (fun k => F50.l0.eq_2 ..) (Ev.pos h1 (Ev.pos (by omega) (Ev.pos h1 ?_)))⟩
    · rw [hg]
      exact Ev.bind r1 (Ev.pos rfl (Ev.bind q1 (Ev.pos (by rw [size_strOf, size_strOf]; omega) t1)))
    · rw [hg]
      exact Ev.bind q2 (Ev.pos (by omega) t2)
/-- What both answer. -/
theorem segsText_told (a b c d : Int) (G : List S88) (hG : G.length ≤ 1048576) (hB : ∀ g ∈ G, bSg g) : ∃ R, Ev (fun k => F19.f k a b c d G) R ∧ Ev (fun k => F20.f k a b c d G) R ∧ (R = (⟨#[]⟩ : ByteArray) ∨ (synP a b c d = true ∧ G.length ≤ 200 ∧ (∀ g ∈ G, segB g.f0 g.f1 = true) ∧ R = strOfNums (segsT a b c d G) ∧ (segsT a b c d G).length ≤ 20000)) := by
  have sT : ∀ t, Ev (fun k => F19.j0 k G t true a b c d) t := fun t => Ev.step (fun k => F19.j0.eq_2 ..) (Ev.pos rfl (Ev.now _))
  unfold F19.f F20.f
  by_cases hs : synP a b c d = true
  · by_cases hl : (G.length : Int) > 200
    · refine ⟨_, Ev.bind (specSyntaxRight_ev a b c d) (Ev.pos hs ?_), Ev.bind (implSyntaxRight_ev a b c d) (Ev.pos hs (Ev.pos hl (Ev.now _))), .inl rfl⟩
      rw [decide_eq_true hl]
      exact sT _
    · obtain ⟨x, x1, x2⟩ := segsIdx_loop G hG hB G 0 rfl
      have hc : Ev (fun k => F47.f k G) (!(G.all (fun g => segB g.f0 g.f1))) := by
        unfold F47.f
        exact Ev.bind (show Ev (fun k => F85.f k G) x from x1) (Ev.ret x2)
      have hj : ∀ R, Ev (fun k => F19.l0 k G (⟨#[]⟩ : ByteArray) 0 a b c d) R → Ev (fun k => F19.j0 k G (⟨#[]⟩ : ByteArray) (decide ((G.length : Int) > 200)) a b c d) R := fun R h => by
        rw [decide_eq_false hl]
        exact Ev.step (fun k => F19.j0.eq_2 ..) (Ev.neg (by simp) h)
      by_cases hA : G.all (fun g => segB g.f0 g.f1) = true
      · have hA2 : ∀ g ∈ G, segB g.f0 g.f1 = true := fun g hg => List.all_eq_true.1 hA g hg
        obtain ⟨t1, t2⟩ := segsGood a b c d hs G (by omega) hB hA2 G 0 [] [] rfl (by omega) rfl (by rw [text_nil]; rfl) (by simp)
        rw [hA] at hc
        rw [List.nil_append] at t1 t2
        refine ⟨_, Ev.bind (specSyntaxRight_ev a b c d) (Ev.pos hs (hj _ t1)), Ev.bind (implSyntaxRight_ev a b c d) (Ev.pos hs (Ev.neg hl (Ev.bind hc (Ev.neg (by simp) (Ev.bind (show Ev (fun k => F50.f k a b c d G) _ from t2) (Ev.now _)))))), ?_⟩
        by_cases g : (segsT a b c d G).length > 20000
        · exact .inl (if_pos g)
        · exact .inr ⟨hs, by omega, hA2, if_neg g, by omega⟩
      · rw [Bool.not_eq_true] at hA
        have hbad := specSegs_bad a b c d hs G (by omega) hB G 0 (⟨#[]⟩ : ByteArray) rfl (by omega) (by simp [ByteArray.size]) hA
        rw [hA] at hc
        exact ⟨_, Ev.bind (specSyntaxRight_ev a b c d) (Ev.pos hs (hj _ hbad)), Ev.bind (implSyntaxRight_ev a b c d) (Ev.pos hs (Ev.neg hl (Ev.bind hc (Ev.pos rfl (Ev.now _))))), .inl rfl⟩
  · exact ⟨_, Ev.bind (specSyntaxRight_ev a b c d) (Ev.neg hs (sT _)), Ev.bind (implSyntaxRight_ev a b c d) (Ev.neg hs (Ev.now _)), .inl rfl⟩

/-! what the draws give -/
theorem u64_id {x : Int} (h0 : 0 ≤ x) (h1 : x < 18446744073709551616) : IntKind.u64.wrap x = x := by
  unfold IntKind.wrap
  simp [IntKind.bits, IntKind.signed]
  omega
theorem u64_ge (x : Int) : 0 ≤ IntKind.u64.wrap x := by
  unfold IntKind.wrap
  simp [IntKind.bits, IntKind.signed]
  omega
theorem u64_mod (x : Int) {m : Int} (h0 : 2 ≤ m) (h1 : m ≤ 9223372036854775807) : 0 ≤ wrap64 (Int.tmod (IntKind.u64.wrap x) (IntKind.u64.wrap m)) ∧ wrap64 (Int.tmod (IntKind.u64.wrap x) (IntKind.u64.wrap m)) < m := by
  rw [u64_id (x := m) (by omega) (by omega)]
  have h := u64_ge x
  generalize IntKind.u64.wrap x = y at h
  rw [Int.tmod_eq_emod_of_nonneg h]
  have h2 := Int.emod_nonneg y (show m ≠ 0 by omega)
  have h3 := Int.emod_lt_of_pos y (show 0 < m by omega)
  rw [wrap_id (by omega) (by omega)]
  exact ⟨h2, h3⟩
theorem src_n (b : List Int) (p mix size m : Int) (hb : b.length ≤ 1048576) (h0 : 0 ≤ p) (h1 : p ≤ (b.length : Int)) (hm : 2 ≤ m) (hm2 : m ≤ 9223372036854775807) : ∃ r p' mix', F73.f b p mix size m = some (r, p', mix', size) ∧ 0 ≤ p' ∧ p' ≤ (b.length : Int) ∧ 0 ≤ r ∧ r < m := by
  unfold F73.f
  have hne : ¬ IntKind.u64.wrap m = 0 := by rw [u64_id (by omega) (by omega)]; omega
  rw [if_neg (by omega)]
  by_cases h : p < (b.length : Int)
  · rw [if_pos h, if_pos h0, if_neg hne]
    have hw : wrap64 (p + 1) = p + 1 := wrap_id (by omega) (by omega)
    rw [hw]
    exact ⟨_, _, _, rfl, by omega, by omega, (u64_mod _ hm hm2).1, (u64_mod _ hm hm2).2⟩
  · rw [if_neg h, if_neg hne]
    exact ⟨_, _, _, rfl, by omega, by omega, (u64_mod _ hm hm2).1, (u64_mod _ hm hm2).2⟩
theorem src_one (b : List Int) (p mix size m : Int) (hb : b.length ≤ 1048576) (h0 : 0 ≤ p) (h1 : p ≤ (b.length : Int)) (hm : 2 ≤ m) (hm2 : m ≤ 9223372036854775807) : ∃ r p' mix', F72.f b p mix size m = some (r, p', mix', size) ∧ 0 ≤ p' ∧ p' ≤ (b.length : Int) := by
  obtain ⟨r, p', mix', h, h2, h3, _, _⟩ := src_n b p mix size m hb h0 h1 hm hm2
  unfold F72.f
  rw [h]
  exact ⟨_, _, _, rfl, h2, h3⟩
theorem source_loop (L : List Int) (hl : L.length ≤ 1048576) : ∀ (d i : Nat) (mix : Int), 64 - i = d → i ≤ 64 → ∃ mix' size', Ev (fun k => F40.l0 k L (i : Int) L 0 mix 0) (L, 0, mix', size')
  | 0, i, mix, hd, hi => by
    by_cases h : (i : Int) < (L.length : Int)
    · by_cases g : wrap64 ((L.length : Int) / 20) > 12
      · exact ⟨_, _, Ev.step (fun k => F40.l0.eq_2 ..) (Ev.pos h (Ev.neg (by omega) (Ev.pos g (Ev.now _))))⟩
      · exact ⟨_, _, Ev.step (fun k => F40.l0.eq_2 ..) (Ev.pos h (Ev.neg (by omega) (Ev.neg g (Ev.now _))))⟩
    · by_cases g : wrap64 ((L.length : Int) / 20) > 12
      · exact ⟨_, _, Ev.step (fun k => F40.l0.eq_2 ..) (Ev.neg h (Ev.pos g (Ev.now _)))⟩
      · exact ⟨_, _, Ev.step (fun k => F40.l0.eq_2 ..) (Ev.neg h (Ev.neg g (Ev.now _)))⟩
  | d + 1, i, mix, hd, hi => by
    by_cases h : (i : Int) < (L.length : Int)
    · have hw : wrap64 ((i : Int) + 1) = ((i + 1 : Nat) : Int) := by rw [wrap_id (by omega) (by omega)]; omega
      obtain ⟨m', s', e⟩ := source_loop L hl d (i + 1) (IntKind.u64.wrap ((Go.bits .xor .u64 mix (IntKind.u64.wrap (rd L (i : Int)))) * 1099511628211)) (by omega) (by omega)
      rw [← hw] at e
      exact ⟨m', s', Ev.step (fun k => F40.l0.eq_2 ..) (Ev.pos h (Ev.pos (by omega) (Ev.pos (by omega) e)))⟩
    · by_cases g : wrap64 ((L.length : Int) / 20) > 12
      · exact ⟨_, _, Ev.step (fun k => F40.l0.eq_2 ..) (Ev.neg h (Ev.pos g (Ev.now _)))⟩
      · exact ⟨_, _, Ev.step (fun k => F40.l0.eq_2 ..) (Ev.neg h (Ev.neg g (Ev.now _)))⟩
theorem source_ev (L : List Int) (hl : L.length ≤ 1048576) : ∃ mix size, Ev (fun k => F40.f k L) (L, 0, mix, size) :=
  source_loop L hl 64 0 _ rfl (by omega)

theorem src_edge (b : List Int) (p mix size : Int) (hb : b.length ≤ 1048576) (h0 : 0 ≤ p) (h1 : p ≤ (b.length : Int)) : ∃ r p' mix', F74.f b p mix size = some (r, p', mix', size) ∧ 0 ≤ p' ∧ p' ≤ (b.length : Int) := by
  obtain ⟨r, p', mix', h, h2, h3, h4, h5⟩ := src_n b p mix size 14 hb h0 h1 (by omega) (by omega)
  unfold F74.f
  simp only [Option.bind_some, h]
  rw [if_pos h4, if_pos (by simp; omega)]
  exact ⟨_, _, _, rfl, h2, h3⟩

/-! numbers that are drawn -/
theorem source_loop2 (L : List Int) (hl : L.length ≤ 1048576) : ∀ (d i : Nat) (mix : Int), 64 - i = d → i ≤ 64 → ∃ mix' size', Ev (fun k => F40.l0 k L (i : Int) L 0 mix 0) (L, 0, mix', size') ∧ 0 ≤ size' ∧ size' ≤ 12 := by
  have w0 : wrap64 ((L.length : Int) / 20) = (L.length : Int) / 20 := wrap_id (by omega) (by omega)
  intro d
  induction d with
  | zero =>
    intro i mix hd hi
    by_cases h : (i : Int) < (L.length : Int)
    · by_cases g : wrap64 ((L.length : Int) / 20) > 12
      · exact ⟨_, _, Ev.step (fun k => F40.l0.eq_2 ..) (Ev.pos h (Ev.neg (by omega) (Ev.pos g (Ev.now _)))), by omega, by omega⟩
      · exact ⟨_, _, Ev.step (fun k => F40.l0.eq_2 ..) (Ev.pos h (Ev.neg (by omega) (Ev.neg g (Ev.now _)))), by omega, by omega⟩
    · by_cases g : wrap64 ((L.length : Int) / 20) > 12
      · exact ⟨_, _, Ev.step (fun k => F40.l0.eq_2 ..) (Ev.neg h (Ev.pos g (Ev.now _))), by omega, by omega⟩
      · exact ⟨_, _, Ev.step (fun k => F40.l0.eq_2 ..) (Ev.neg h (Ev.neg g (Ev.now _))), by omega, by omega⟩
  | succ d ih =>
    intro i mix hd hi
    by_cases h : (i : Int) < (L.length : Int)
    · have hw : wrap64 ((i : Int) + 1) = ((i + 1 : Nat) : Int) := by rw [wrap_id (by omega) (by omega)]; omega
      obtain ⟨m', s', e, b⟩ := ih (i + 1) (IntKind.u64.wrap ((Go.bits .xor .u64 mix (IntKind.u64.wrap (rd L (i : Int)))) * 1099511628211)) (by omega) (by omega)
      rw [← hw] at e
      exact ⟨m', s', Ev.step (fun k => F40.l0.eq_2 ..) (Ev.pos h (Ev.pos (by omega) (Ev.pos (by omega) e))), b⟩
    · by_cases g : wrap64 ((L.length : Int) / 20) > 12
      · exact ⟨_, _, Ev.step (fun k => F40.l0.eq_2 ..) (Ev.neg h (Ev.pos g (Ev.now _))), by omega, by omega⟩
      · exact ⟨_, _, Ev.step (fun k => F40.l0.eq_2 ..) (Ev.neg h (Ev.neg g (Ev.now _))), by omega, by omega⟩
theorem source_ev2 (L : List Int) (hl : L.length ≤ 1048576) : ∃ mix size, Ev (fun k => F40.f k L) (L, 0, mix, size) ∧ 0 ≤ size ∧ size ≤ 12 :=
  source_loop2 L hl 64 0 _ rfl (by omega)

theorem syntax_j0 (b : List Int) (p mix size x0 x1 x2 x3 : Int) (hb : b.length ≤ 1048576) (h0 : 0 ≤ p) (h1 : p ≤ (b.length : Int)) : ∃ y0 y1 y2 y3 p' mix', Ev (fun k => F41.j0 k b p mix size x0 x1 x2 x3) (y0, y1, y2, y3, p', mix', size) ∧ 0 ≤ p' ∧ p' ≤ (b.length : Int) := by
  obtain ⟨r1, p1, m1, e1, a1, b1⟩ := src_one b p mix size 30 hb h0 h1 (by omega) (by omega)
  cases r1 with
  | false => exact ⟨_, _, _, _, _, _, Ev.step (fun k => F41.j0.eq_2 ..) (Ev.bindc e1 (Ev.neg (by simp) (Ev.now _))), a1, b1⟩
  | true =>
    obtain ⟨r2, p2, m2, e2, a2, b2, c2, d2⟩ := src_n b p1 m1 size 3 hb a1 b1 (by omega) (by omega)
    by_cases g0 : r2 = 0
    · exact ⟨_, _, _, _, _, _, Ev.step (fun k => F41.j0.eq_2 ..) (Ev.bindc e1 (Ev.pos rfl (Ev.bindc e2 (Ev.pos g0 (Ev.now _))))), a2, b2⟩
    · by_cases g1 : r2 = 1
      · obtain ⟨r3, p3, m3, e3, a3, b3, c3, d3⟩ := src_n b p2 m2 size 6 hb a2 b2 (by omega) (by omega)
        exact ⟨_, _, _, _, _, _, Ev.step (fun k => F41.j0.eq_2 ..) (Ev.bindc e1 (Ev.pos rfl (Ev.bindc e2 (Ev.neg g0 (Ev.pos g1 (Ev.bindc rfl (Ev.bindc e3 (Ev.pos c3 (Ev.pos (show r3 < (([32, 127, 65, 48, 45, 300] : List Int).length : Int) by simp; omega) (Ev.now _)))))))))), a3, b3⟩
      · obtain ⟨r3, p3, m3, e3, a3, b3⟩ := src_edge b p2 m2 size hb a2 b2
        exact ⟨_, _, _, _, _, _, Ev.step (fun k => F41.j0.eq_2 ..) (Ev.bindc e1 (Ev.pos rfl (Ev.bindc e2 (Ev.neg g0 (Ev.neg g1 (Ev.bindc e3 (Ev.now _))))))), a3, b3⟩
theorem syntax_draw (b : List Int) (p mix size : Int) (hb : b.length ≤ 1048576) (h0 : 0 ≤ p) (h1 : p ≤ (b.length : Int)) : ∃ y0 y1 y2 y3 p' mix', Ev (fun k => F41.f k b p mix size) (y0, y1, y2, y3, p', mix', size) ∧ 0 ≤ p' ∧ p' ≤ (b.length : Int) := by
  unfold F41.f
  obtain ⟨r1, p1, m1, e1, a1, b1⟩ := src_one b p mix size 4 hb h0 h1 (by omega) (by omega)
  cases r1 with
  | false =>
    obtain ⟨y0, y1, y2, y3, p2, m2, e2, a2, b2⟩ := syntax_j0 b p1 m1 size 39 43 58 63 hb a1 b1
    exact ⟨_, _, _, _, _, _, Ev.bindc (show F71.f = some (39, 43, 58, 63) from rfl) (Ev.bindc e1 (Ev.neg (by simp) e2)), a2, b2⟩
  | true =>
    obtain ⟨r2, p2, m2, e2, a2, b2, c2, d2⟩ := src_n b p1 m1 size 9 hb a1 b1 (by omega) (by omega)
    have w1 : wrap64 (r2 + 1) = r2 + 1 := wrap_id (by omega) (by omega)
    have w2 : wrap64 (r2 + 2) = r2 + 2 := wrap_id (by omega) (by omega)
    have w3 : wrap64 (r2 + 3) = r2 + 3 := wrap_id (by omega) (by omega)
    obtain ⟨y0, y1, y2, y3, p3, m3, e3, a3, b3⟩ := syntax_j0 b p2 m2 size (rd [33, 35, 36, 37, 38, 42, 47, 61, 64, 94, 124, 126] r2) (rd [33, 35, 36, 37, 38, 42, 47, 61, 64, 94, 124, 126] (wrap64 (r2 + 1))) (rd [33, 35, 36, 37, 38, 42, 47, 61, 64, 94, 124, 126] (wrap64 (r2 + 2))) (rd [33, 35, 36, 37, 38, 42, 47, 61, 64, 94, 124, 126] (wrap64 (r2 + 3))) hb a2 b2
    have l12 : (([33, 35, 36, 37, 38, 42, 47, 61, 64, 94, 124, 126] : List Int).length : Int) = 12 := rfl
    exact ⟨_, _, _, _, _, _, Ev.bindc (show F71.f = some (39, 43, 58, 63) from rfl) (Ev.bindc e1 (Ev.pos rfl (Ev.bindc rfl (Ev.bindc e2 (Ev.pos c2 (Ev.pos (by rw [l12]; omega) (Ev.pos (by rw [w1]; omega) (Ev.pos (by rw [w1, l12]; omega) (Ev.pos (by rw [w2]; omega) (Ev.pos (by rw [w2, l12]; omega) (Ev.pos (by rw [w3]; omega) (Ev.pos (by rw [w3, l12]; omega) e3)))))))))))), a3, b3⟩

/-! words that are drawn -/
theorem words_loop (b : List Int) (size a0 a1 a2 a3 : Int) (hb : b.length ≤ 1048576) : ∀ (n : Nat) (p mix : Int) (acc : List Int), 0 ≤ p → p ≤ (b.length : Int) → acc.length + n ≤ 1000 → ∃ s p' mix', Ev (fun k => F103.l0 k (n : Int) acc b p mix size a0 a1 a2 a3) (s, p', mix', size) ∧ s.size = acc.length + n ∧ 0 ≤ p' ∧ p' ≤ (b.length : Int)
  | 0, p, mix, acc, h0, h1, hn => ⟨_, _, _, Ev.step (fun k => F103.l0.eq_2 ..) (Ev.neg (by omega) (Ev.now _)), by rw [size_strOf]; rfl, h0, h1⟩
  | n + 1, p, mix, acc, h0, h1, hn => by
    obtain ⟨r, p1, m1, e1, q0, q1, q2, q3⟩ := src_n b p mix size 6 hb h0 h1 (by omega) (by omega)
    have hw : wrap64 (((n + 1 : Nat) : Int) - 1) = (n : Int) := by rw [wrap_id (by omega) (by omega)]; omega
    have stp : ∀ (c p2 m2 : Int), 0 ≤ p2 → p2 ≤ (b.length : Int) → ∃ s p' mix', Ev (fun k => if acc.length < 140737488355328 then (F103.l0 k (wrap64 (((n + 1 : Nat) : Int) - 1)) (acc ++ [c]) b p2 m2 size a0 a1 a2 a3) else none) (s, p', mix', size) ∧ s.size = acc.length + (n + 1) ∧ 0 ≤ p' ∧ p' ≤ (b.length : Int) := by
      intro c p2 m2 g0 g1
      obtain ⟨s, p', m', e, f1, f2, f3⟩ := words_loop b size a0 a1 a2 a3 hb n p2 m2 (acc ++ [c]) g0 g1 (by simp; omega)
      rw [hw]
      exact ⟨s, p', m', Ev.pos (by omega) e, by rw [f1]; simp; omega, f2, f3⟩
    by_cases g0 : r = 0
    · obtain ⟨s, p', m', e, f⟩ := stp (a0 % 256) p1 m1 q0 q1
      exact ⟨s, p', m', Ev.step (fun k => F103.l0.eq_2 ..) (Ev.pos (by omega) (Ev.bindc e1 (Ev.pos g0 e))), f⟩
    by_cases g1 : r = 1
    · obtain ⟨s, p', m', e, f⟩ := stp (a1 % 256) p1 m1 q0 q1
      exact ⟨s, p', m', Ev.step (fun k => F103.l0.eq_2 ..) (Ev.pos (by omega) (Ev.bindc e1 (Ev.neg g0 (Ev.pos g1 e)))), f⟩
    by_cases g2 : r = 2
    · obtain ⟨s, p', m', e, f⟩ := stp (a2 % 256) p1 m1 q0 q1
      exact ⟨s, p', m', Ev.step (fun k => F103.l0.eq_2 ..) (Ev.pos (by omega) (Ev.bindc e1 (Ev.neg g0 (Ev.neg g1 (Ev.pos g2 e))))), f⟩
    by_cases g3 : r = 3
    · obtain ⟨s, p', m', e, f⟩ := stp (a3 % 256) p1 m1 q0 q1
      exact ⟨s, p', m', Ev.step (fun k => F103.l0.eq_2 ..) (Ev.pos (by omega) (Ev.bindc e1 (Ev.neg g0 (Ev.neg g1 (Ev.neg g2 (Ev.pos g3 e)))))), f⟩
    obtain ⟨r2, p2, m2, e2, s0, s1, s2, s3⟩ := src_n b p1 m1 size 6 hb q0 q1 (by omega) (by omega)
    obtain ⟨s, p', m', e, f⟩ := stp (bt (⟨#[65, 66, 99, 32, 49, 45]⟩ : ByteArray) r2) p2 m2 s0 s1
    exact ⟨s, p', m', Ev.step (fun k => F103.l0.eq_2 ..) (Ev.pos (by omega) (Ev.bindc e1 (Ev.neg g0 (Ev.neg g1 (Ev.neg g2 (Ev.neg g3 (Ev.bindc e2 (Ev.pos s2 (Ev.pos s3 e))))))))), f⟩
theorem words_ev (b : List Int) (p mix size a0 a1 a2 a3 n : Int) (hb : b.length ≤ 1048576) (h0 : 0 ≤ p) (h1 : p ≤ (b.length : Int)) (hn : 0 ≤ n) (hn2 : n ≤ 100) : ∃ s p' mix', Ev (fun k => F103.f k b p mix size a0 a1 a2 a3 n) (s, p', mix', size) ∧ (s.size : Int) = n ∧ 0 ≤ p' ∧ p' ≤ (b.length : Int) := by
  obtain ⟨m, rfl⟩ := Int.eq_ofNat_of_zero_le hn
  obtain ⟨s, p', m', e, f1, f2, f3⟩ := words_loop b size a0 a1 a2 a3 hb m p mix [] h0 h1 (by simp; omega)
  exact ⟨s, p', m', e, by rw [f1]; simp, f2, f3⟩

/-! segments that are drawn -/
theorem src_pick (b : List Int) (p mix size : Int) (l : List ByteArray) (hb : b.length ≤ 1048576) (h0 : 0 ≤ p) (h1 : p ≤ (b.length : Int)) (hl : 2 ≤ l.length) (hl2 : l.length ≤ 100) (hs : ∀ x ∈ l, x.size ≤ 100) : ∃ t p' mix', F102.f b p mix size l = some (t, p', mix', size) ∧ 0 ≤ p' ∧ p' ≤ (b.length : Int) ∧ t.size ≤ 100 := by
  obtain ⟨r, p', mix', h, h2, h3, h4, h5⟩ := src_n b p mix size (l.length : Int) hb h0 h1 (by omega) (by omega)
  refine ⟨rdOf ByteArray.empty l r, p', mix', ?_, h2, h3, ?_⟩
  · unfold F102.f
    rw [h]
    simp only [Option.bind_some]
    rw [if_pos h4, if_pos h5]
  · have hm : rdOf ByteArray.empty l r ∈ l := by
      unfold rdOf
      rw [List.getD_eq_getElem?_getD, List.getElem?_eq_getElem (by omega)]
      exact List.getElem_mem _
    exact hs _ hm
/-- What a segment that is drawn is. -/
def SegD (b : List Int) (size : Int) (g : Nat → Option (ByteArray × (List S122) × Int × Int × Int)) : Prop := ∃ s L p' mix', Ev g (s, L, p', mix', size) ∧ L.length ≤ 13 ∧ (∀ e ∈ L, bEl e.f0) ∧ 0 ≤ p' ∧ p' ≤ (b.length : Int)
theorem SegD.of {b : List Int} {size : Int} {g g' : Nat → Option (ByteArray × (List S122) × Int × Int × Int)} (h : SegD b size g) (f : ∀ r, Ev g r → Ev g' r) : SegD b size g' := by
  obtain ⟨s, L, p', m', e, h⟩ := h
  exact ⟨s, L, p', m', f _ e, h⟩
theorem bEl_snoc {L : List S122} {e : S122} (h : ∀ e ∈ L, bEl e.f0) (he : bEl e.f0) : ∀ x ∈ L ++ [e], bEl x.f0 := by
  intro x hx
  rcases List.mem_append.1 hx with h1 | h1
  · exact h x h1
  · simp at h1; subst h1; exact he
theorem seg_j4 (b : List Int) (p mix size : Int) (t : ByteArray) (L : List S122) (hb : b.length ≤ 1048576) (h0 : 0 ≤ p) (h1 : p ≤ (b.length : Int)) (hL : L.length ≤ 12) (hE : ∀ e ∈ L, bEl e.f0) : SegD b size (fun k => F75.j4 k b p mix size t L) := by
  obtain ⟨r1, p1, m1, e1, a1, b1⟩ := src_one b p mix size 20 hb h0 h1 (by omega) (by omega)
  cases r1 with
  | false => exact ⟨_, _, _, _, Ev.step (fun k => F75.j4.eq_2 ..) (Ev.bindc e1 (Ev.neg (by simp) (Ev.now _))), by omega, hE, a1, b1⟩
  | true =>
    obtain ⟨r2, p2, m2, e2, a2, b2, c2, d2⟩ := src_n b p1 m1 size 3 hb a1 b1 (by omega) (by omega)
    by_cases g0 : r2 = 0
    · obtain ⟨u, p3, m3, e3, a3, b3, _⟩ := src_pick b p2 m2 size [(⟨#[]⟩ : ByteArray), (⟨#[65, 66]⟩ : ByteArray), (⟨#[65, 66, 67, 68]⟩ : ByteArray), (⟨#[65, 66, 49]⟩ : ByteArray), (⟨#[97, 98, 99]⟩ : ByteArray)] hb a2 b2 (by simp) (by simp) (by intro x hx; simp at hx; rcases hx with h | h | h | h | h <;> subst h <;> decide)
      exact ⟨_, _, _, _, Ev.step (fun k => F75.j4.eq_2 ..) (Ev.bindc e1 (Ev.pos rfl (Ev.bindc e2 (Ev.pos g0 (Ev.bindc e3 (Ev.now _)))))), by omega, hE, a3, b3⟩
    · by_cases g1 : r2 = 1
      · exact ⟨_, _, _, _, Ev.step (fun k => F75.j4.eq_2 ..) (Ev.bindc e1 (Ev.pos rfl (Ev.bindc e2 (Ev.neg g0 (Ev.pos g1 (Ev.pos (by omega) (Ev.now _))))))), by simp; omega, bEl_snoc hE ⟨by simp, by simp⟩, a2, b2⟩
      · obtain ⟨u, p3, m3, e3, a3, b3, c3⟩ := src_pick b p2 m2 size [(⟨#[10]⟩ : ByteArray), (⟨#[255]⟩ : ByteArray), (⟨#[97]⟩ : ByteArray)] hb a2 b2 (by simp) (by simp) (by intro x hx; simp at hx; rcases hx with h | h | h <;> subst h <;> decide)
        obtain ⟨v, p4, m4, e4, a4, b4, c4⟩ := src_pick b p3 m3 size [(⟨#[]⟩ : ByteArray), (⟨#[98]⟩ : ByteArray)] hb a3 b3 (by simp) (by simp) (by intro x hx; simp at hx; rcases hx with h | h <;> subst h <;> decide)
        refine ⟨_, _, _, _, Ev.step (fun k => F75.j4.eq_2 ..) (Ev.bindc e1 (Ev.pos rfl (Ev.bindc e2 (Ev.neg g0 (Ev.neg g1 (Ev.bindc e3 (Ev.bindc e4 (Ev.pos (by omega) (Ev.now _))))))))), by simp; omega, bEl_snoc hE ⟨by simp, ?_⟩, a4, b4⟩
        intro x hx
        simp at hx
        rcases hx with h | h <;> subst h <;> omega
theorem seg_l2 (b : List Int) (size : Int) (t : ByteArray) (hb : b.length ≤ 1048576) : ∀ (n : Nat) (p mix : Int) (L : List S122), L.length = n → n ≤ 12 → (∀ e ∈ L, bEl e.f0) → 0 ≤ p → p ≤ (b.length : Int) → SegD b size (fun k => F75.l2 k b p mix size t L)
  | 0, p, mix, L, hn, hl, hE, h0, h1 => (seg_j4 b p mix size t L hb h0 h1 (by omega) hE).of (fun r e => Ev.step (fun k => F75.l2.eq_2 ..) (Ev.neg (by omega) e))
  | n + 1, p, mix, L, hn, hl, hE, h0, h1 => by
    have hw : wrap64 ((L.length : Int) - 1) = (n : Int) := by rw [wrap_id (by omega) (by omega)]; omega
    cases hm : emptyE (rd_T122 L (wrap64 ((L.length : Int) - 1))).f0 with
    | false => exact (seg_j4 b p mix size t L hb h0 h1 (by omega) hE).of (fun r e => Ev.step (fun k => F75.l2.eq_2 ..) (Ev.pos (by omega) (Ev.pos (by omega) (Ev.pos (by omega) (Ev.bindc (l02Empty_eq _) (Ev.neg (by simp [hm]) e))))))
    | true =>
      obtain ⟨r1, p1, m1, e1, a1, b1⟩ := src_one b p mix size 20 hb h0 h1 (by omega) (by omega)
      cases r1 with
      | true => exact (seg_j4 b p1 m1 size t L hb a1 b1 (by omega) hE).of (fun r e => Ev.step (fun k => F75.l2.eq_2 ..) (Ev.pos (by omega) (Ev.pos (by omega) (Ev.pos (by omega) (Ev.bindc (l02Empty_eq _) (Ev.pos hm (Ev.bindc e1 (Ev.pos rfl e))))))))
      | false =>
        have ht : (L.take (wrap64 ((L.length : Int) - 1)).toNat).length = n := by rw [hw]; simp; omega
        exact (seg_l2 b size t hb n p1 m1 _ ht (by omega) (fun e he => hE e (List.mem_of_mem_take he)) a1 b1).of (fun r e => Ev.step (fun k => F75.l2.eq_2 ..) (Ev.pos (by omega) (Ev.pos (by omega) (Ev.pos (by omega) (Ev.bindc (l02Empty_eq _) (Ev.pos hm (Ev.bindc e1 (Ev.neg (by simp) (Ev.pos (by omega) e)))))))))
theorem seg_l1 (b : List Int) (size x0 x1 x2 x3 x5 : Int) (t : ByteArray) (hb : b.length ≤ 1048576) (L : List S122) (hL : L.length ≤ 12)
    (hnext : ∀ (p mix : Int) (e : S122), bEl e.f0 → 0 ≤ p → p ≤ (b.length : Int) → SegD b size (fun k => F75.l0 k (wrap64 (x5 - 1)) b p mix size x0 x1 x2 x3 t (L ++ [e]))) :
    ∀ (n : Nat) (p mix : Int) (acc : List ByteArray), 1 ≤ acc.length + n → acc.length + n ≤ 10 → (∀ s ∈ acc, s.size ≤ 100) → 0 ≤ p → p ≤ (b.length : Int) → SegD b size (fun k => F75.l1 k x5 (n : Int) b p mix size x0 x1 x2 x3 t L acc)
  | 0, p, mix, acc, ha, ha2, hs, h0, h1 => by
    obtain ⟨r1, p1, m1, e1, a1, b1⟩ := src_one b p mix size 60 hb h0 h1 (by omega) (by omega)
    have hacc : bEl acc := ⟨by omega, fun s h => by have := hs s h; omega⟩
    cases r1 with
    | false => exact (hnext p1 m1 ⟨acc⟩ hacc a1 b1).of (fun r e => Ev.step (fun k => F75.l1.eq_2 ..) (Ev.neg (by omega) (Ev.bindc e1 (Ev.neg (by simp) (Ev.pos (by omega) e)))))
    | true =>
      obtain ⟨r2, p2, m2, e2, a2, b2, c2, d2⟩ := src_n b p1 m1 size 3 hb a1 b1 (by omega) (by omega)
      have hw : wrap64 (39 + r2) = 39 + r2 := wrap_id (by omega) (by omega)
      obtain ⟨s, p3, m3, e3, hs3, a3, b3⟩ := words_ev b p2 m2 size x0 x1 x2 x3 (39 + r2) hb a2 b2 (by omega) (by omega)
      rw [← hw] at e3
      have hset : bEl (acc.set (0 : Int).toNat s) := by
        refine ⟨by rw [List.length_set]; omega, fun q hq => ?_⟩
        rcases List.mem_or_eq_of_mem_set hq with h | h
        · have := hs q h; omega
        · subst h; omega
      exact (hnext p3 m3 ⟨acc.set (0 : Int).toNat s⟩ hset a3 b3).of (fun r e => Ev.step (fun k => F75.l1.eq_2 ..) (Ev.neg (by omega) (Ev.bindc e1 (Ev.pos rfl (Ev.bindc e2 (Ev.bind e3 (Ev.pos (by omega) (Ev.pos (by omega) e))))))))
  | n + 1, p, mix, acc, ha, ha2, hs, h0, h1 => by
    obtain ⟨r1, p1, m1, e1, a1, b1, c1, d1⟩ := src_n b p mix size 6 hb h0 h1 (by omega) (by omega)
    obtain ⟨s, p2, m2, e2, hs2, a2, b2⟩ := words_ev b p1 m1 size x0 x1 x2 x3 r1 hb a1 b1 c1 (by omega)
    have hw : wrap64 (((n + 1 : Nat) : Int) - 1) = (n : Int) := by rw [wrap_id (by omega) (by omega)]; omega
    have ih := seg_l1 b size x0 x1 x2 x3 x5 t hb L hL hnext n p2 m2 (acc ++ [s]) (by simp; omega) (by simp; omega) (fun q hq => by
      rcases List.mem_append.1 hq with h | h
      · exact hs q h
      · simp at h; subst h; omega) a2 b2
    rw [← hw] at ih
    exact ih.of (fun r e => Ev.step (fun k => F75.l1.eq_2 ..) (Ev.pos (by omega) (Ev.bindc e1 (Ev.bind e2 (Ev.pos (by omega) e)))))
theorem seg_l0 (b : List Int) (size x0 x1 x2 x3 : Int) (t : ByteArray) (hb : b.length ≤ 1048576) : ∀ (n : Nat) (p mix : Int) (L : List S122), L.length + n ≤ 12 → (∀ e ∈ L, bEl e.f0) → 0 ≤ p → p ≤ (b.length : Int) → SegD b size (fun k => F75.l0 k (n : Int) b p mix size x0 x1 x2 x3 t L)
  | 0, p, mix, L, hn, hE, h0, h1 => (seg_l2 b size t hb _ p mix L rfl (by omega) hE h0 h1).of (fun r e => Ev.step (fun k => F75.l0.eq_2 ..) (Ev.neg (by omega) e))
  | n + 1, p, mix, L, hn, hE, h0, h1 => by
    obtain ⟨r1, p1, m1, e1, a1, b1, c1, d1⟩ := src_n b p mix size 2 hb h0 h1 (by omega) (by omega)
    obtain ⟨r2, p2, m2, e2, a2, b2, c2, d2⟩ := src_n b p1 m1 size 4 hb a1 b1 (by omega) (by omega)
    have hw : wrap64 (((n + 1 : Nat) : Int) - 1) = (n : Int) := by rw [wrap_id (by omega) (by omega)]; omega
    obtain ⟨m, hm, hm2⟩ : ∃ m : Nat, wrap64 (1 + wrap64 (r1 * r2)) = ((m + 1 : Nat) : Int) ∧ m ≤ 3 := by
      rcases (show r1 = 0 ∨ r1 = 1 by omega) with h | h
      · exact ⟨0, by rw [h, Int.zero_mul, wrap_id (x := 0) (by omega) (by omega), wrap_id (by omega) (by omega)]; rfl, by omega⟩
      · refine ⟨r2.toNat, ?_, by omega⟩
        rw [h, Int.one_mul, wrap_id (x := r2) (by omega) (by omega), wrap_id (by omega) (by omega)]
        omega
    have ih := seg_l1 b size x0 x1 x2 x3 ((n + 1 : Nat) : Int) t hb L (by omega) (fun p mix e he h0 h1 => by
      rw [hw]
      exact seg_l0 b size x0 x1 x2 x3 t hb n p mix (L ++ [e]) (by simp; omega) (bEl_snoc hE he) h0 h1) (m + 1) p2 m2 [] (by simp) (by simp; omega) (by simp) a2 b2
    rw [← hm] at ih
    exact ih.of (fun r e => Ev.step (fun k => F75.l0.eq_2 ..) (Ev.pos (by omega) (Ev.bindc e1 (Ev.bindc e2 e))))
theorem seg_draw (b : List Int) (p mix size : Int) (hb : b.length ≤ 1048576) (h0 : 0 ≤ p) (h1 : p ≤ (b.length : Int)) : SegD b size (fun k => F75.f k b p mix size) := by
  unfold F75.f
  obtain ⟨t, p1, m1, e1, a1, b1, _⟩ := src_pick b p mix size [(⟨#[68, 79, 67]⟩ : ByteArray), (⟨#[76, 73, 78]⟩ : ByteArray), (⟨#[78, 79, 84]⟩ : ByteArray), (⟨#[65, 66, 67]⟩ : ByteArray), (⟨#[73, 88, 72]⟩ : ByteArray)] hb h0 h1 (by simp) (by simp) (by intro x hx; simp at hx; rcases hx with h | h | h | h | h <;> subst h <;> decide)
  obtain ⟨r2, p2, m2, e2, a2, b2, c2, d2⟩ := src_n b p1 m1 size 5 hb a1 b1 (by omega) (by omega)
  obtain ⟨r3, p3, m3, e3, a3, b3⟩ := src_one b p2 m2 size 40 hb a2 b2 (by omega) (by omega)
  have j0 : ∀ (n : Int) (p mix : Int), 0 ≤ n → n ≤ 12 → 0 ≤ p → p ≤ (b.length : Int) → SegD b size (fun k => F75.j0 k n b p mix size 39 43 58 63 t) := by
    intro n p mix h0 h1 h2 h3
    obtain ⟨m, rfl⟩ := Int.eq_ofNat_of_zero_le h0
    exact (seg_l0 b size 39 43 58 63 t hb m p mix [] (by simp; omega) (by simp) h2 h3).of (fun r e => Ev.step (fun k => F75.j0.eq_2 ..) e)
  have pl : F71.f = some (39, 43, 58, 63) := rfl
  cases r3 with
  | false => exact (j0 r2 p3 m3 c2 (by omega) a3 b3).of (fun r e => Ev.bindc pl (Ev.bindc e1 (Ev.bindc e2 (Ev.bindc e3 (Ev.neg (by simp) e)))))
  | true =>
    obtain ⟨r4, p4, m4, e4, a4, b4, c4, d4⟩ := src_n b p3 m3 size 3 hb a3 b3 (by omega) (by omega)
    have hw : wrap64 (9 + r4) = 9 + r4 := wrap_id (by omega) (by omega)
    have h := j0 (9 + r4) p4 m4 (by omega) (by omega) a4 b4
    rw [← hw] at h
    exact h.of (fun r e => Ev.bindc pl (Ev.bindc e1 (Ev.bindc e2 (Ev.bindc e3 (Ev.pos rfl (Ev.bindc e4 e))))))

/-! lists of segments that are drawn -/
def SegsD (b : List Int) (size : Int) (g : Nat → Option ((List S88) × Int × Int × Int)) : Prop := ∃ G p' mix', Ev g (G, p', mix', size) ∧ G.length ≤ 300 ∧ (∀ g ∈ G, bSg g) ∧ 0 ≤ p' ∧ p' ≤ (b.length : Int)
theorem SegsD.of {b : List Int} {size : Int} {g g' : Nat → Option ((List S88) × Int × Int × Int)} (h : SegsD b size g) (f : ∀ r, Ev g r → Ev g' r) : SegsD b size g' := by
  obtain ⟨L, p', m', e, h⟩ := h
  exact ⟨L, p', m', f _ e, h⟩
theorem bSg_snoc {L : List S88} {e : S88} (h : ∀ e ∈ L, bSg e) (he : bSg e) : ∀ x ∈ L ++ [e], bSg x := by
  intro x hx
  rcases List.mem_append.1 hx with h1 | h1
  · exact h x h1
  · simp at h1; subst h1; exact he
theorem segs_l0 (b : List Int) (p mix size : Int) (h0 : 0 ≤ p) (h1 : p ≤ (b.length : Int)) : ∀ (n : Nat) (G : List S88), G.length + n ≤ 300 → (∀ g ∈ G, bSg g) → SegsD b size (fun k => F42.l0 k G (n : Int) b p mix size)
  | 0, G, hn, hG => ⟨_, _, _, Ev.step (fun k => F42.l0.eq_2 ..) (Ev.neg (by omega) (Ev.now _)), by omega, hG, h0, h1⟩
  | n + 1, G, hn, hG => by
    have hw : wrap64 (((n + 1 : Nat) : Int) - 1) = (n : Int) := by rw [wrap_id (by omega) (by omega)]; omega
    have ih := segs_l0 b p mix size h0 h1 n (G ++ [⟨(⟨#[65, 66, 67]⟩ : ByteArray), []⟩]) (by simp; omega) (bSg_snoc hG ⟨by simp, by simp⟩)
    rw [← hw] at ih
    exact ih.of (fun r e => Ev.step (fun k => F42.l0.eq_2 ..) (Ev.pos (by omega) (Ev.pos (by omega) e)))
theorem segs_l1 (b : List Int) (size : Int) (hb : b.length ≤ 1048576) : ∀ (n : Nat) (p mix : Int) (G : List S88), G.length + n ≤ 300 → (∀ g ∈ G, bSg g) → 0 ≤ p → p ≤ (b.length : Int) → SegsD b size (fun k => F42.l1 k G (n : Int) b p mix size)
  | 0, p, mix, G, hn, hG, h0, h1 => ⟨_, _, _, Ev.step (fun k => F42.l1.eq_2 ..) (Ev.neg (by omega) (Ev.now _)), by omega, hG, h0, h1⟩
  | n + 1, p, mix, G, hn, hG, h0, h1 => by
    have hw : wrap64 (((n + 1 : Nat) : Int) - 1) = (n : Int) := by rw [wrap_id (by omega) (by omega)]; omega
    obtain ⟨s, L, p1, m1, e1, hL, hE, a1, b1⟩ := seg_draw b p mix size hb h0 h1
    have hr := specSeg_ev s L (by omega) hE
    have hg : bSg (⟨s, L⟩ : S88) := ⟨by show L.length ≤ _; omega, hE⟩
    have next : ∀ p m, 0 ≤ p → p ≤ (b.length : Int) → ∀ G' : List S88, G'.length + n ≤ 300 → (∀ g ∈ G', bSg g) → SegsD b size (fun k => F42.l1 k G' (wrap64 (((n + 1 : Nat) : Int) - 1)) b p m size) := by
      intro p m h0 h1 G' hn' hG'
      rw [hw]
      exact segs_l1 b size hb n p m G' hn' hG' h0 h1
    cases hB : segB s L with
    | true =>
      rw [hB] at hr
      exact (next p1 m1 a1 b1 (G ++ [⟨s, L⟩]) (by simp; omega) (bSg_snoc hG hg)).of (fun r e => Ev.step (fun k => F42.l1.eq_2 ..) (Ev.pos (by omega) (Ev.bind e1 (Ev.bind hr (Ev.pos rfl (Ev.pos (by omega) e))))))
    | false =>
      rw [hB] at hr
      obtain ⟨r2, p2, m2, e2, a2, b2⟩ := src_one b p1 m1 size 30 hb a1 b1 (by omega) (by omega)
      cases r2 with
      | true => exact (next p2 m2 a2 b2 (G ++ [⟨s, L⟩]) (by simp; omega) (bSg_snoc hG hg)).of (fun r e => Ev.step (fun k => F42.l1.eq_2 ..) (Ev.pos (by omega) (Ev.bind e1 (Ev.bind hr (Ev.neg (by simp) (Ev.bindc e2 (Ev.pos rfl (Ev.pos (by omega) e))))))))
      | false => exact (next p2 m2 a2 b2 G (by omega) hG).of (fun r e => Ev.step (fun k => F42.l1.eq_2 ..) (Ev.pos (by omega) (Ev.bind e1 (Ev.bind hr (Ev.neg (by simp) (Ev.bindc e2 (Ev.neg (by simp) e)))))))
theorem segs_draw (b : List Int) (p mix size : Int) (hb : b.length ≤ 1048576) (h0 : 0 ≤ p) (h1 : p ≤ (b.length : Int)) (z0 : 0 ≤ size) (z1 : size ≤ 12) : SegsD b size (fun k => F42.f k b p mix size) := by
  unfold F42.f
  have hw : wrap64 (4 + size) = 4 + size := wrap_id (by omega) (by omega)
  obtain ⟨r1, p1, m1, e1, a1, b1, c1, d1⟩ := src_n b p mix size (wrap64 (4 + size)) hb h0 h1 (by omega) (by omega)
  obtain ⟨r2, p2, m2, e2, a2, b2⟩ := src_one b p1 m1 size 60 hb a1 b1 (by omega) (by omega)
  cases r2 with
  | true =>
    obtain ⟨r3, p3, m3, e3, a3, b3, c3, d3⟩ := src_n b p2 m2 size 3 hb a2 b2 (by omega) (by omega)
    have hw2 : wrap64 (199 + r3) = ((199 + r3).toNat : Int) := by rw [wrap_id (by omega) (by omega)]; omega
    have h := segs_l0 b p3 m3 size a3 b3 (199 + r3).toNat [] (by simp; omega) (by simp)
    rw [← hw2] at h
    exact h.of (fun r e => Ev.bindc rfl (Ev.bindc e1 (Ev.bindc e2 (Ev.pos rfl (Ev.bindc e3 e)))))
  | false =>
    obtain ⟨n, rfl⟩ := Int.eq_ofNat_of_zero_le c1
    exact (segs_l1 b size hb n p2 m2 [] (by simp; omega) (by simp) a2 b2).of (fun r e => Ev.bindc rfl (Ev.bindc e1 (Ev.bindc e2 (Ev.neg (by simp) e))))
theorem drawSegs_ev (L : List Int) (hb : L.length ≤ 1048576) : ∃ a b c d G, Ev (fun k => F18.f k L) (a, b, c, d, G) ∧ G.length ≤ 300 ∧ (∀ g ∈ G, bSg g) := by
  obtain ⟨mix, size, e0, z0, z1⟩ := source_ev2 L hb
  obtain ⟨a, b, c, d, p, mx, e1, g0, g1⟩ := syntax_draw L 0 mix size hb (by omega) (by omega)
  obtain ⟨G, p2, m2, e2, h1, h2, _, _⟩ := segs_draw L p mx size hb g0 g1 z0 z1
  refine ⟨a, b, c, d, G, ?_, h1, h2⟩
  unfold F18.f
  exact Ev.bind e0 (Ev.bind e1 (Ev.bind e2 (Ev.now _)))

/-! segments that are read -/
def partsR (a b c d : Int) : List (List Int) → Int → Int ⊕ List ByteArray
  | [], _ => .inr []
  | p :: r, pl => match unL a b c d p 0 with
    | .inl q => .inl (pl + q)
    | .inr t => if partB (strOfNums t) then (match partsR a b c d r (pl + (p.length : Int) + 1) with | .inl q => .inl q | .inr l => .inr (strOfNums t :: l)) else .inl pl
def elR (a b c d : Int) (t : List Int) (at_ : Int) : Int ⊕ List ByteArray :=
  if (cutL d c t).length > 4 then .inl at_ else match partsR a b c d (cutL d c t) at_ with
    | .inl q => .inl q
    | .inr l => if (cutL d c t).length > 1 ∧ lastE l = true then .inl at_ else .inr l
def elsR (a b c d : Int) : Nat → List (List Int) → Int → Int ⊕ List S122
  | _, [], _ => .inr []
  | i, p :: r, at_ => if i = 10 then .inl at_ else match elR a b c d p at_ with
    | .inl q => .inl q
    | .inr l => if r = [] ∧ emptyE l = true then .inl at_ else (match elsR a b c d (i + 1) r (at_ + (p.length : Int) + 1) with | .inl q => .inl q | .inr L => .inr (⟨l⟩ :: L))
def segR (a b c d : Int) (t : List Int) : ByteArray × (List S122) × Int × Int × Int :=
  if t = [] then ((⟨#[]⟩ : ByteArray), [], 0, 0, 6) else
  match cutL d a t with
  | h :: _ :: _ => (match cutL d b h with
    | g :: r => if tagB (strOfNums g) then (match elsR a b c d 0 r ((g.length : Int) + 1) with | .inl q => ((⟨#[]⟩ : ByteArray), [], 0, q, 3) | .inr L => (strOfNums g, L, (h.length : Int) + 1, 0, 0)) else ((⟨#[]⟩ : ByteArray), [], 0, 0, 3)
    | [] => ((⟨#[]⟩ : ByteArray), [], 0, 0, 3))
  | _ => ((⟨#[]⟩ : ByteArray), [], 0, 0, 4)
theorem hdP_len (v : List Int) (L : List (List Int)) (h : L ≠ []) : ∀ p ∈ hdP v L, ∃ q ∈ L, p = q ∨ p = v ++ q := by
  cases L with
  | nil => exact absurd rfl h
  | cons x t =>
    intro p hp
    simp only [hdP, List.mem_cons] at hp
    rcases hp with h | h
    · exact ⟨x, by simp, .inr h⟩
    · exact ⟨p, by simp [h], .inl rfl⟩
/-- How long the pieces are, all together. -/
def tot : List (List Int) → Nat
  | [] => 0
  | h :: t => h.length + 1 + tot t
theorem tot_hdP (v : List Int) (L : List (List Int)) (h : L ≠ []) : tot (hdP v L) = v.length + tot L := by
  cases L with
  | nil => exact absurd rfl h
  | cons x t => simp [hdP, tot]; omega
theorem tot_cut (d m : Int) : ∀ (n : Nat) (l : List Int), l.length ≤ n → tot (cutL d m l) = l.length + 1 := by
  intro n
  induction n using Nat.strongRecOn with
  | _ n ih =>
    intro l hn
    match l, hn with
    | [], _ => simp [cutL, tot]
    | [x], _ =>
      unfold cutL
      split
      · simp [tot]
      · split <;> simp [tot]
    | x :: y :: r, hn =>
      simp only [List.length_cons] at hn ⊢
      unfold cutL
      split
      · rw [tot_hdP _ _ (cutL_ne d m r), ih (n - 2) (by omega) r (by omega)]
        simp; omega
      · split
        · simp only [tot, List.length_nil]
          rw [ih (n - 1) (by omega) (y :: r) (by simp; omega)]
          simp; omega
        · rw [tot_hdP _ _ (cutL_ne d m (y :: r)), ih (n - 1) (by omega) (y :: r) (by simp; omega)]
          simp; omega
theorem tot_mem {p : List Int} : ∀ {L : List (List Int)}, p ∈ L → p.length + 1 ≤ tot L
  | h :: t, hp => by
    simp only [tot]
    rcases List.mem_cons.1 hp with e | e
    · subst e; omega
    · have := tot_mem e; omega
theorem tot_len : ∀ L : List (List Int), L.length ≤ tot L
  | [] => by simp [tot]
  | h :: t => by have := tot_len t; simp [tot]; omega
theorem cut_mem (d m : Int) {c : Int} : ∀ (n : Nat) (l : List Int), l.length ≤ n → ∀ p ∈ cutL d m l, c ∈ p → c ∈ l := by
  intro n
  induction n using Nat.strongRecOn with
  | _ n ih =>
    intro l hn p hp hc
    match l, hn with
    | [], _ => simp [cutL] at hp; subst hp; simp at hc
    | [x], _ =>
      unfold cutL at hp
      split at hp
      · simp at hp; subst hp; exact hc
      · split at hp <;> simp at hp <;> (try subst hp) <;> simp_all
    | x :: y :: r, hn =>
      simp only [List.length_cons] at hn
      unfold cutL at hp
      split at hp
      · obtain ⟨q, hq, e⟩ := hdP_len _ _ (cutL_ne d m r) p hp
        have := ih (n - 2) (by omega) r (by omega) q hq
        rcases e with e | e <;> subst e
        · simp [this hc]
        · rcases List.mem_append.1 hc with h | h
          · simp at h; rcases h with h | h <;> simp [h]
          · simp [this h]
      · split at hp
        · rcases List.mem_cons.1 hp with e | e
          · subst e; simp at hc
          · have := ih (n - 1) (by omega) (y :: r) (by simp; omega) p e hc
            exact List.mem_cons_of_mem _ this
        · obtain ⟨q, hq, e⟩ := hdP_len _ _ (cutL_ne d m (y :: r)) p hp
          have := ih (n - 1) (by omega) (y :: r) (by simp; omega) q hq
          rcases e with e | e <;> subst e
          · exact List.mem_cons_of_mem _ (this hc)
          · rcases List.mem_append.1 hc with h | h
            · simp at h; simp [h]
            · exact List.mem_cons_of_mem _ (this h)
/-- The pieces of a text, as texts: their bytes. -/
theorem cut_bytes (d m : Int) (s : ByteArray) : ((cutL d m (bytesOf s)).map strOfNums).map bytesOf = cutL d m (bytesOf s) := by
  rw [List.map_map]
  have : ∀ p ∈ cutL d m (bytesOf s), (bytesOf ∘ strOfNums) p = p := by
    intro p hp
    exact bytesOf_strOf p (fun x hx => mem_bytesOf (cut_mem d m _ _ (Nat.le_refl _) p hp hx))
  rw [List.map_congr_left this]
  exact List.map_id' _
theorem unL_len (a b c d : Int) : ∀ (n : Nat) (l : List Int) (i : Int) (t : List Int), l.length ≤ n → unL a b c d l i = .inr t → t.length ≤ l.length := by
  intro n
  induction n using Nat.strongRecOn with
  | _ n ih =>
    intro l i t hn h
    match l, h, hn with
    | [], h, hn => simp [unL] at h; subst h; simp
    | [x], h, hn =>
      simp only [unL] at h
      split at h
      · simp at h
      · have : [x] = t := by simpa using h
        subst this; simp
    | x :: y :: r, h, hn =>
      simp only [List.length_cons] at hn ⊢
      simp only [unL] at h
      split at h
      · split at h
        · split at h
          · cases h2 : unL a b c d r (i + 2) with
            | inl z => rw [h2] at h; simp at h
            | inr u =>
              rw [h2] at h
              have := ih (n - 2) (by omega) r (i + 2) u (by omega) h2
              have e : y :: u = t := by simpa using h
              subst e; simp; omega
          · simp at h
        · simp at h
      · cases h2 : unL a b c d (y :: r) (i + 1) with
        | inl z => rw [h2] at h; simp at h
        | inr u =>
          rw [h2] at h
          have := ih (n - 1) (by omega) (y :: r) (i + 1) u (by simp; omega) h2
          have e : x :: u = t := by simpa using h
          subst e
          simp only [List.length_cons] at this ⊢
          omega
theorem partsR_at (a b c d : Int) : ∀ (P : List (List Int)) (pl q : Int), partsR a b c d P pl = .inl q → pl ≤ q ∧ q ≤ pl + (tot P : Int)
  | [], pl, q, h => by simp [partsR] at h
  | p :: r, pl, q, h => by
    simp only [partsR] at h
    simp only [tot]
    cases hu : unL a b c d p 0 with
    | inl z =>
      rw [hu] at h
      have h1 := unL_at a b c d _ p 0 z (Nat.le_refl _) hu
      have : pl + z = q := by simpa using h
      omega
    | inr t =>
      rw [hu] at h
      dsimp only at h
      split at h
      · cases hr : partsR a b c d r (pl + (p.length : Int) + 1) with
        | inl z =>
          rw [hr] at h
          have h1 := partsR_at a b c d r _ z hr
          have : z = q := by simpa using h
          omega
        | inr l => rw [hr] at h; simp at h
      · have : pl = q := by simpa using h
        omega
theorem partsR_len (a b c d : Int) : ∀ (P : List (List Int)) (pl : Int) (l : List ByteArray), partsR a b c d P pl = .inr l → l.length = P.length
  | [], pl, l, h => by simp [partsR] at h; subst h; rfl
  | p :: r, pl, l, h => by
    simp only [partsR] at h
    cases hu : unL a b c d p 0 with
    | inl z => rw [hu] at h; simp at h
    | inr t =>
      rw [hu] at h
      dsimp only at h
      split at h
      · cases hr : partsR a b c d r (pl + (p.length : Int) + 1) with
        | inl z => rw [hr] at h; simp at h
        | inr l2 =>
          rw [hr] at h
          have h1 := partsR_len a b c d r _ l2 hr
          have e : strOfNums t :: l2 = l := by simpa using h
          subst e; simp [h1]
      · simp at h
theorem elR_at (a b c d : Int) (t : List Int) (at_ q : Int) (h : elR a b c d t at_ = .inl q) : at_ ≤ q ∧ q ≤ at_ + (t.length : Int) + 1 := by
  have ht := tot_cut d c _ t (Nat.le_refl _)
  unfold elR at h
  split at h
  · have : at_ = q := by simpa using h
    omega
  · cases hp : partsR a b c d (cutL d c t) at_ with
    | inl z =>
      rw [hp] at h
      have h1 := partsR_at a b c d _ _ _ hp
      have : z = q := by simpa using h
      omega
    | inr l =>
      rw [hp] at h
      dsimp only at h
      split at h
      · have : at_ = q := by simpa using h
        omega
      · simp at h

/-! the program's element -/
theorem implEl_loop (a b c d at_ : Int) (P : List ByteArray) (hP : P.length ≤ 4) (hs : ∀ p ∈ P, p.size ≤ 20000) : ∀ (r : List ByteArray) (i : Nat) (acc : List ByteArray) (pl : Int), P.drop i = r → acc.length = i → i ≤ P.length → 0 ≤ pl → pl ≤ 100000 + 30000 * (i : Int) →
    ∃ e f, Ev (fun k => F94.l0 k at_ P pl P (P.length : Int) (i : Int) a b c d acc) (e, f) ∧ (match partsR a b c d (r.map bytesOf) pl with | .inl q => f = q | .inr l => e = acc ++ l ∧ f = if P.length > 1 ∧ lastE (acc ++ l) = true then at_ else -1) := by
  intro r
  induction r with
  | nil =>
    intro i acc pl h ha hi h0 h1
    have e0 := ldrop_nil h
    refine ⟨acc, if P.length > 1 ∧ lastE acc = true then at_ else -1, Ev.step (fun k => F94.l0.eq_2 ..) (Ev.neg (by omega) ?_), by simp [partsR]⟩
    by_cases g : P.length > 1
    · have hw : wrap64 ((P.length : Int) - 1) = (P.length : Int) - 1 := wrap_id (by omega) (by omega)
      have hla : (acc.length : Int) = (P.length : Int) := by omega
      refine Ev.pos (by omega) (Ev.pos (by omega) (Ev.pos (by omega) ?_))
      have hE : lastE acc = ((rdOf ByteArray.empty acc (wrap64 ((P.length : Int) - 1))).toList == ([] : List UInt8)) := by unfold lastE; rw [hla]
      by_cases g2 : (rdOf ByteArray.empty acc (wrap64 ((P.length : Int) - 1))).toList = ([] : List UInt8)
      · exact Ev.pos g2 (Ev.ret (by rw [if_pos ⟨g, by rw [hE]; simpa using g2⟩]))
      · exact Ev.neg g2 (Ev.ret (by rw [if_neg (fun h => g2 (by have := h.2; rw [hE] at this; simpa using this))]))
    · exact Ev.neg (by omega) (Ev.ret (by rw [if_neg (fun h => g h.1)]))
  | cons p r ih =>
    intro i acc pl h ha hi h0 h1
    obtain ⟨h2, h3, h4⟩ := ldrop_cons ByteArray.empty h
    have hp : rdOf ByteArray.empty P (i : Int) = p := h3
    have hps := hs p (List.mem_of_mem_drop (by rw [h]; exact List.mem_cons_self))
    have hu := implUn_ev a b c d p (by omega)
    simp only [List.map_cons, partsR, length_bytesOf]
    have st : ∀ {R}, Ev (fun k => ((F112.f k a b c d (rdOf ByteArray.empty P (i : Int))).bind fun bt555 => (if bt555.2 ≥ 0 then (some (acc, wrap64 (pl + bt555.2))) else ((F88.f k bt555.1).bind fun t557 => (if t557 = true then (if acc.length < 8796093022208 then (F94.l0 k at_ P (wrap64 (pl + (wrap64 (((rdOf ByteArray.empty P (i : Int)).size : Int) + 1)))) P (P.length : Int) (wrap64 ((i : Int) + 1)) a b c d (acc ++ [bt555.1])) else (none)) else (some (acc, pl))))))) R → Ev (fun k => F94.l0 k at_ P pl P (P.length : Int) (i : Int) a b c d acc) R := fun e => Ev.step (fun k => F94.l0.eq_2 ..) (Ev.pos h2 (Ev.pos (by omega) (Ev.pos h2 e)))
    cases hq : unL a b c d (bytesOf p) 0 with
    | inl q =>
      rw [hq] at hu
      have hb := unL_at a b c d _ (bytesOf p) 0 q (Nat.le_refl _) hq
      rw [length_bytesOf] at hb
      exact ⟨acc, pl + q, st (by rw [hp]; exact Ev.bind hu (Ev.pos hb.1 (Ev.ret (show (acc, wrap64 (pl + q)) = (acc, pl + q) by rw [wrap_id (by omega) (by omega)])))), rfl⟩
    | inr t =>
      rw [hq] at hu
      have ht := unL_len a b c d _ (bytesOf p) 0 t (Nat.le_refl _) hq
      rw [length_bytesOf] at ht
      have hpart := implPart_ev (strOfNums t) (by rw [size_strOf]; omega)
      dsimp only
      by_cases g : partB (strOfNums t) = true
      · obtain ⟨e, f, e1, e2⟩ := ih (i + 1) (acc ++ [strOfNums t]) (pl + (p.size : Int) + 1) h4 (by simp; omega) (by omega) (by omega) (by omega)
        have hw : wrap64 (pl + wrap64 ((p.size : Int) + 1)) = pl + (p.size : Int) + 1 := by rw [wrap_id (x := (p.size : Int) + 1) (by omega) (by omega), wrap_id (by omega) (by omega)]; omega
        rw [← hw, ← wi_ (by omega)] at e1
        refine ⟨e, f, st (by rw [hp]; exact Ev.bind hu (Ev.neg (by simp) (Ev.bind hpart (Ev.pos g (Ev.pos (by omega) e1))))), ?_⟩
        rw [if_pos g]
        cases hr : partsR a b c d (r.map bytesOf) (pl + (p.size : Int) + 1) with
        | inl z => rw [hr] at e2; exact e2
        | inr l => rw [hr] at e2; simpa using e2
      · refine ⟨acc, pl, st (by rw [hp]; exact Ev.bind hu (Ev.neg (by simp) (Ev.bind hpart (Ev.neg g (Ev.now _))))), ?_⟩
        rw [if_neg g]
theorem implEl_ev (a b c d : Int) (s : ByteArray) (at_ : Int) (hs : s.size ≤ 20000) (h0 : 0 ≤ at_) (h1 : at_ ≤ 100000) : ∃ e f, Ev (fun k => F94.f k a b c d s at_) (e, f) ∧ (match elR a b c d (bytesOf s) at_ with | .inl q => f = q | .inr l => e = l ∧ f = -1) := by
  have hc := implCut_ev a b c d c s (by omega)
  have ht := tot_cut d c _ (bytesOf s) (Nat.le_refl _)
  rw [length_bytesOf] at ht
  unfold F94.f elR
  by_cases g : (cutL d c (bytesOf s)).length > 4
  · exact ⟨_, _, Ev.bind hc (Ev.pos (by rw [List.length_map]; omega) (Ev.now _)), by rw [if_pos g]⟩
  · have hsz : ∀ p ∈ (cutL d c (bytesOf s)).map strOfNums, p.size ≤ 20000 := by
      intro p hp
      obtain ⟨q, hq, rfl⟩ := List.mem_map.1 hp
      have := tot_mem hq
      rw [size_strOf]; omega
    obtain ⟨e, f, e1, e2⟩ := implEl_loop a b c d at_ _ (by rw [List.length_map]; omega) hsz _ 0 [] at_ rfl rfl (by omega) h0 (by omega)
    refine ⟨e, f, Ev.bind hc (Ev.neg (by rw [List.length_map]; omega) e1), ?_⟩
    rw [if_neg g]
    rw [List.drop_zero, cut_bytes] at e2
    simp only [List.length_map, List.nil_append] at e2
    cases hr : partsR a b c d (cutL d c (bytesOf s)) at_ with
    | inl z => rw [hr] at e2; exact e2
    | inr l =>
      rw [hr] at e2
      dsimp only at e2 ⊢
      obtain ⟨e3, e4⟩ := e2
      by_cases g3 : (cutL d c (bytesOf s)).length > 1 ∧ lastE l = true
      · rw [if_pos g3] at e4
        simp only [if_pos g3]
        exact e4
      · rw [if_neg g3] at e4
        simp only [if_neg g3]
        exact ⟨e3, e4⟩

/-! the program's segment, read -/
theorem elsR_at (a b c d : Int) : ∀ (P : List (List Int)) (i : Nat) (at_ q : Int), elsR a b c d i P at_ = .inl q → at_ ≤ q ∧ q ≤ at_ + (tot P : Int)
  | [], i, at_, q, h => by simp [elsR] at h
  | p :: r, i, at_, q, h => by
    simp only [elsR] at h
    simp only [tot]
    split at h
    · have : at_ = q := by simpa using h
      omega
    · cases he : elR a b c d p at_ with
      | inl z =>
        rw [he] at h
        have h1 := elR_at a b c d p at_ z he
        have : z = q := by simpa using h
        omega
      | inr l =>
        rw [he] at h
        dsimp only at h
        split at h
        · have : at_ = q := by simpa using h
          omega
        · cases hr : elsR a b c d (i + 1) r (at_ + (p.length : Int) + 1) with
          | inl z =>
            rw [hr] at h
            have h1 := elsR_at a b c d r _ _ z hr
            have : z = q := by simpa using h
            omega
          | inr L => rw [hr] at h; simp at h
theorem implSegR_loop (a b c d : Int) (t : ByteArray) (A P0 : List ByteArray) (P : List ByteArray) (u : ByteArray) (hA0 : 0 < A.length) (hAs : (rdOf ByteArray.empty A 0).size ≤ 20000) (hP0 : P0.length = P.length + 1) (hP : (tot (P.map bytesOf)) ≤ 20001) : ∀ (r : List ByteArray) (i : Nat) (acc : List S122) (at_ : Int), P.drop i = r → acc.length = i → i ≤ P.length → 0 ≤ at_ → at_ + (tot (r.map bytesOf) : Int) ≤ 50000 →
    Ev (fun k => F52.l0 k A P0 at_ P (P.length : Int) (i : Int) a b c d u acc) (match elsR a b c d i (r.map bytesOf) at_ with | .inl q => ((⟨#[]⟩ : ByteArray), [], 0, q, 3) | .inr L => (u, acc ++ L, ((rdOf ByteArray.empty A 0).size : Int) + 1, 0, 0)) := by
  have hPl := tot_len (P.map bytesOf)
  rw [List.length_map] at hPl
  intro r
  induction r with
  | nil =>
    intro i acc at_ h ha hi h0 h1
    have e0 := ldrop_nil h
    exact Ev.step (fun k => F52.l0.eq_2 ..) (Ev.neg (by omega) (Ev.pos (by omega) (Ev.ret (by simp only [List.map_nil, elsR, List.append_nil]; rw [wrap_id (by omega) (by omega)]))))
  | cons p r ih =>
    intro i acc at_ h ha hi h0 h1
    obtain ⟨h2, h3, h4⟩ := ldrop_cons ByteArray.empty h
    have hp : rdOf ByteArray.empty P (i : Int) = p := h3
    simp only [List.map_cons, elsR, tot, length_bytesOf] at h1 ⊢
    have hil : (i : Int) + 1 ≤ (P.length : Int) := by omega
    have hpm := tot_mem (p := bytesOf p) (L := P.map bytesOf) (List.mem_map.2 ⟨p, List.mem_of_mem_drop (by rw [h]; exact List.mem_cons_self), rfl⟩)
    rw [length_bytesOf] at hpm
    have hr0 : r = [] ↔ (i : Int) + 1 = (P.length : Int) := by
      constructor
      · intro e; subst e; have := ldrop_nil h4; omega
      · intro e
        have : P.drop (i + 1) = [] := by rw [List.drop_eq_nil_iff]; omega
        rw [h4] at this; exact this
    refine Ev.step (fun k => F52.l0.eq_2 ..) (Ev.pos h2 (Ev.pos (by omega) (Ev.pos h2 ?_)))
    by_cases g : i = 10
    · refine Ev.pos (by omega) (Ev.ret ?_)
      rw [if_pos g]
    · refine Ev.neg (by omega) ?_
      obtain ⟨e, f, e1, e2⟩ := implEl_ev a b c d p at_ (by omega) h0 (by omega)
      rw [hp]
      refine Ev.bind e1 ?_
      rw [if_neg g]
      have hw2 : wrap64 ((P0.length : Int) - 2) = (P.length : Int) - 1 := by rw [wrap_id (by omega) (by omega)]; omega
      have hwa : wrap64 (at_ + wrap64 ((p.size : Int) + 1)) = at_ + (p.size : Int) + 1 := by rw [wrap_id (x := (p.size : Int) + 1) (by omega) (by omega), wrap_id (by omega) (by omega)]; omega
      cases hE : elR a b c d (bytesOf p) at_ with
      | inl q =>
        rw [hE] at e2
        have hq := elR_at a b c d _ _ _ hE
        dsimp only at e2 ⊢
        subst e2
        exact Ev.neg (by omega) (Ev.step (fun k => F52.j1.eq_2 ..) (Ev.neg (by simp) (Ev.pos (by omega) (Ev.now _))))
      | inr l =>
        rw [hE] at e2
        dsimp only at e2 ⊢
        obtain ⟨e3, e4⟩ := e2
        subst e3
        subst e4
        have good : ¬ (r = [] ∧ emptyE e = true) → Ev (fun k => F52.j1 k A P0 at_ p (-1) P (P.length : Int) (i : Int) false a b c d u acc e) (match (if r = [] ∧ emptyE e = true then Sum.inl at_ else (match elsR a b c d (i + 1) (r.map bytesOf) (at_ + (p.size : Int) + 1) with | .inl q => .inl q | .inr L => .inr ((⟨e⟩ : S122) :: L))) with | .inl q => ((⟨#[]⟩ : ByteArray), [], 0, q, 3) | .inr L => (u, acc ++ L, ((rdOf ByteArray.empty A 0).size : Int) + 1, 0, 0)) := by
          intro g2
          rw [if_neg g2]
          have h5 := ih (i + 1) (acc ++ [⟨e⟩]) (at_ + (p.size : Int) + 1) h4 (by simp; omega) (by omega) (by omega) (by omega)
          rw [← hwa, ← wi_ (by omega)] at h5
          refine Ev.step (fun k => F52.j1.eq_2 ..) (Ev.neg (by simp) (Ev.neg (by omega) (Ev.pos (by omega) (h5.to ?_))))
          rw [hwa]
          cases elsR a b c d (i + 1) (r.map bytesOf) (at_ + (p.size : Int) + 1) with
          | inl z => rfl
          | inr L => simp
        have hrm : (r.map bytesOf = [] ∧ emptyE e = true) ↔ (r = [] ∧ emptyE e = true) := by rw [List.map_eq_nil_iff]
        simp only [hrm]
        by_cases g1 : (i : Int) = (P.length : Int) - 1
        · have hr1 : r = [] := hr0.2 (by omega)
          by_cases g2 : (e.length : Int) = 1
          · have hl1 : e.length = 1 := by omega
            have hEe : emptyE e = ((rdOf ByteArray.empty e 0).toList == ([] : List UInt8)) := by
              unfold emptyE lastE
              rw [hl1]
              have : wrap64 (((1 : Nat) : Int) - 1) = 0 := by rw [wrap_id (by omega) (by omega)]; rfl
              rw [this]; simp
            refine Ev.pos (by omega) (Ev.pos (by rw [hw2]; exact g1) (Ev.pos g2 (Ev.pos (by omega) ?_)))
            rw [← hEe]
            cases hm : emptyE e with
            | true => exact Ev.step (fun k => F52.j1.eq_2 ..) (Ev.pos rfl (Ev.pos (by omega) (Ev.ret (by rw [if_pos ⟨hr1, rfl⟩]))))
            | false => have := good (by rw [hm]; simp); rw [hm] at this; exact this
          · have hm : emptyE e = false := by unfold emptyE; simp; omega
            exact Ev.pos (by omega) (Ev.pos (by rw [hw2]; exact g1) (Ev.neg g2 (good (by rw [hm]; simp))))
        · exact Ev.pos (by omega) (Ev.neg (by rw [hw2]; exact g1) (good (fun h => g1 (by have := hr0.1 h.1; omega))))
def capR (n : Nat) (s : Bool) (R : ByteArray × (List S122) × Int × Int × Int) : ByteArray × (List S122) × Int × Int × Int := if n > 20000 then ((⟨#[]⟩ : ByteArray), [], 0, 0, 2) else if s then R else ((⟨#[]⟩ : ByteArray), [], 0, 0, 1)
theorem implSegRead_ev (a b c d : Int) (t : ByteArray) : Ev (fun k => F52.f k a b c d t) (capR t.size (synP a b c d) (segR a b c d (bytesOf t))) := by
  unfold F52.f capR
  by_cases g : (t.size : Int) > 20000
  · exact Ev.bind (longText_ev t) (Ev.pos (by simpa using g) (Ev.ret (by rw [if_pos (by omega)])))
  have ht : ¬ t.size > 20000 := by omega
  simp only [if_neg ht]
  refine Ev.bind (longText_ev t) (Ev.neg (by simpa using g) (Ev.bind (implSyntaxRight_ev a b c d) ?_))
  cases hs : synP a b c d with
  | false => exact Ev.neg (by simp) (Ev.now _)
  | true =>
    refine Ev.pos rfl ?_
    rw [if_pos rfl]
    unfold segR
    by_cases g0 : t.toList = ([] : List UInt8)
    · have : t = (⟨#[]⟩ : ByteArray) := toList_inj.1 (by rw [g0, ByteArray.toList_eq])
      subst this
      have hb : bytesOf (⟨#[]⟩ : ByteArray) = [] := rfl
      exact Ev.pos g0 (Ev.ret (by rw [if_pos hb]))
    have hne : bytesOf t ≠ [] := by
      intro h
      apply g0
      have : t.size = 0 := by rw [← length_bytesOf, h]; rfl
      have h2 : t = (⟨#[]⟩ : ByteArray) := bytesOf_inj (by rw [h]; rfl)
      rw [h2, ByteArray.toList_eq]
    refine Ev.neg g0 ?_
    rw [if_neg hne]
    have hc := implCut_ev a b c d a t (by omega)
    have htot := tot_cut d a _ (bytesOf t) (Nat.le_refl _)
    rw [length_bytesOf] at htot
    refine Ev.bind hc ?_
    have hcb := cut_bytes d a t
    match hL : cutL d a (bytesOf t) with
    | [] => exact absurd hL (cutL_ne d a _)
    | [h] => exact Ev.pos (by simp) (Ev.now _)
    | h :: h2 :: L =>
      rw [hL] at htot hcb
      simp only [tot] at htot
      have hbh : bytesOf (strOfNums h) = h := (List.cons.inj hcb).1
      have hsz : (strOfNums h).size = h.length := size_strOf h
      have hr : rdOf ByteArray.empty ((h :: h2 :: L).map strOfNums) 0 = strOfNums h := rfl
      refine Ev.neg (by simp only [List.length_map, List.length_cons]; omega) (Ev.pos (by simp only [List.length_map, List.length_cons]; omega) ?_)
      rw [hr]
      have hc2 := implCut_ev a b c d b (strOfNums h) (by omega)
      have htot2 := tot_cut d b _ (bytesOf (strOfNums h)) (Nat.le_refl _)
      have hcb2 := cut_bytes d b (strOfNums h)
      rw [hbh] at hc2 htot2 hcb2
      refine Ev.bind hc2 ?_
      dsimp only
      match hL2 : cutL d b h with
      | [] => exact absurd hL2 (cutL_ne d b _)
      | g :: r =>
        rw [hL2] at htot2 hcb2
        simp only [tot] at htot2
        have hr2 : rdOf ByteArray.empty ((g :: r).map strOfNums) 0 = strOfNums g := rfl
        refine Ev.pos (by simp only [List.length_map, List.length_cons]; omega) ?_
        rw [hr2]
        refine Ev.bindc (isTag_eq _) ?_
        dsimp only
        by_cases gt : tagB (strOfNums g) = true
        · refine Ev.pos gt ?_
          rw [if_pos gt]
          refine Ev.pos (by simp only [List.length_map, List.length_cons]; omega) (Ev.bindc rfl ?_)
          have hmr : (r.map strOfNums).map bytesOf = r := (List.cons.inj hcb2).2
          have hlen : 1 ≤ ((g :: r).map strOfNums).length := by simp
          have h6 := implSegR_loop a b c d t ((h :: h2 :: L).map strOfNums) ((g :: r).map strOfNums) (r.map strOfNums) (strOfNums g) (by simp) (by rw [hr]; omega) (by simp) (by rw [hmr]; omega) (r.map strOfNums) 0 [] ((g.length : Int) + 1) rfl rfl (by omega) (by omega) (by rw [hmr]; omega)
          rw [hmr, hr, hsz] at h6
          have hw : wrap64 (((strOfNums g).size : Int) + 1) = (g.length : Int) + 1 := by rw [size_strOf, wrap_id (by omega) (by omega)]
          have hd : ((g :: r).map strOfNums).drop 1 = r.map strOfNums := rfl
          rw [hd, hw]
          simpa using h6
        · rw [if_neg gt]
          exact Ev.neg gt (Ev.now _)

/-! texts of right segments are read back -/
theorem partsR_esc {a b c d : Int} (h : Four a b c d) : ∀ (p : List ByteArray) (pl : Int), (∀ q ∈ p, partB q = true) → partsR a b c d (p.map (fun q => escL a b c d (bytesOf q))) pl = .inr p
  | [], pl, _ => rfl
  | q :: r, pl, hq => by
    have h1 := partsR_esc h r (pl + ((escL a b c d (bytesOf q)).length : Int) + 1) (fun x hx => hq x (by simp [hx]))
    have h2 := hq q (by simp)
    simp only [List.map_cons, partsR, un_esc a b c d h.d256, strOf_bytesOf, h1]
    rw [if_pos h2]
theorem elR_text {a b c d : Int} (h : Four a b c d) (p : List ByteArray) (at_ : Int) (hp : elP p = true) : elR a b c d (partsT a b c d true p) at_ = .inr p := by
  unfold elP at hp
  simp only [Bool.and_eq_true, decide_eq_true_eq, List.all_eq_true, Bool.not_eq_true'] at hp
  obtain ⟨⟨h1, h2⟩, h3⟩ := hp
  match p, h1, h2, h3 with
  | q :: r, h1, h2, h3 =>
    unfold elR
    rw [cut_parts h q r, partsR_esc h _ _ h3]
    rw [if_neg (by rw [List.length_map]; omega)]
    dsimp only
    rw [if_neg]
    intro h4
    rw [List.length_map] at h4
    have : (decide ((q :: r).length > 1) && lastE (q :: r)) = true := by rw [Bool.and_eq_true]; exact ⟨decide_eq_true h4.1, h4.2⟩
    rw [this] at h2
    cases h2
theorem elsR_text {a b c d : Int} (h : Four a b c d) : ∀ (L : List S122) (i : Nat) (at_ : Int), i + L.length ≤ 10 → segL L = true → elsR a b c d i (L.map (fun e => partsT a b c d true e.f0)) at_ = .inr L
  | [], i, at_, _, _ => rfl
  | [e], i, at_, hi, hs => by
    simp only [segL, Bool.and_eq_true, Bool.not_eq_true'] at hs
    simp only [List.length_cons, List.length_nil] at hi
    simp only [List.map_cons, List.map_nil, elsR, elR_text h e.f0 at_ hs.1]
    rw [if_neg (by omega), if_neg (by rw [hs.2]; simp)]
  | e :: e' :: r, i, at_, hi, hs => by
    simp only [segL, Bool.and_eq_true] at hs
    simp only [List.length_cons] at hi
    have ih := elsR_text h (e' :: r) (i + 1) (at_ + ((partsT a b c d true e.f0).length : Int) + 1) (by simp only [List.length_cons]; omega) hs.2
    rw [List.map_cons, elsR, elR_text h e.f0 at_ hs.1]
    dsimp only
    rw [if_neg (by omega), if_neg (by simp), ih]
theorem segR_text {a b c d : Int} (h : Four a b c d) {s : ByteArray} {L : List S122} (hb : segB s L = true) (rest : List Int) : segR a b c d (segT a b c d s L ++ rest) = (s, L, ((segT a b c d s L).length : Int), 0, 0) := by
  have hb2 := hb
  unfold segB at hb2
  simp only [Bool.and_eq_true, decide_eq_true_eq] at hb2
  obtain ⟨⟨h1, h2⟩, h3⟩ := hb2
  have hc := cut_seg h h1 L rest
  unfold segR
  rw [if_neg (by have := (segT_len (a := a) (b := b) (c := c) (d := d) hb).2; intro e; rw [List.append_eq_nil_iff] at e; rw [e.1] at this; simp at this), hc]
  cases hr : cutL d a rest with
  | nil => exact absurd hr (cutL_ne d a rest)
  | cons x y =>
    dsimp only
    rw [cut_body h h1 L]
    dsimp only
    rw [strOf_bytesOf, if_pos h1, elsR_text h L 0 _ (by omega) h3]
    dsimp only
    simp [segT]
/-- .. one behind the other. -/
theorem implSegsR_loop {a b c d : Int} (hs : synP a b c d = true) (G : List S88) (hG : G.length ≤ 200) (hA : ∀ g ∈ G, segB g.f0 g.f1 = true) (hZ : (segsT a b c d G).length ≤ 20000) : ∀ (r : List S88) (acc : List S88) (i : Nat), acc ++ r = G → (segsT a b c d G).drop i = segsT a b c d r → i ≤ (segsT a b c d G).length → Ev (fun k => F21.l0 k (strOfNums (segsT a b c d G)) acc (i : Int) a b c d) (G, 0, 0, 0) := by
  have hF := four_of hs
  have hrng : ∀ (T : List S88), ∀ y ∈ segsT a b c d T, 0 ≤ y ∧ y ≤ 255 := by
    intro T
    induction T with
    | nil => intro y hy; simp [segsT] at hy
    | cons g r ih =>
      intro y hy
      rcases List.mem_append.1 hy with e | e
      · exact seg_rng hF _ _ y e
      · exact ih y e
  have hsz : ((strOfNums (segsT a b c d G)).size : Int) = ((segsT a b c d G).length : Int) := by rw [size_strOf]
  intro r
  induction r with
  | nil =>
    intro acc i ha hd hi
    have h0 : (segsT a b c d G).drop i = [] := hd
    rw [List.drop_eq_nil_iff] at h0
    refine Ev.step (fun k => F21.l0.eq_2 ..) (Ev.neg (by rw [hsz]; omega) (Ev.ret ?_))
    rw [← ha, List.append_nil]
  | cons g r ih =>
    intro acc i ha hd hi
    have hg : segB g.f0 g.f1 = true := hA g (by rw [← ha]; simp)
    have hl := (segT_len (a := a) (b := b) (c := c) (d := d) hg)
    have hlen := congrArg List.length hd
    simp only [segsT, List.length_append, List.length_drop] at hlen
    have hal : acc.length < 200 := by have := congrArg List.length ha; simp only [List.length_append, List.length_cons] at this; omega
    have hbt : bytesOf ((strOfNums (segsT a b c d G)).extract (i : Int).toNat (strOfNums (segsT a b c d G)).size) = segT a b c d g.f0 g.f1 ++ segsT a b c d r := by
      rw [bytesOf_extract, bytesOf_strOf _ (hrng G), size_strOf, List.take_length, Int.toNat_natCast, hd]
      rfl
    have hr := implSegRead_ev a b c d ((strOfNums (segsT a b c d G)).extract (i : Int).toNat (strOfNums (segsT a b c d G)).size)
    have hz2 : ((strOfNums (segsT a b c d G)).extract (i : Int).toNat (strOfNums (segsT a b c d G)).size).size ≤ 20000 := by
      rw [← length_bytesOf, hbt, List.length_append]; omega
    rw [hbt, segR_text hF hg, hs] at hr
    unfold capR at hr
    rw [if_neg (by omega), if_pos rfl] at hr
    have hd2 : (segsT a b c d G).drop (i + (segT a b c d g.f0 g.f1).length) = segsT a b c d r := by
      rw [← List.drop_drop, hd]
      simp [segsT]
    have h5 := ih (acc ++ [g]) (i + (segT a b c d g.f0 g.f1).length) (by rw [← ha]; simp) hd2 (by omega)
    have hw : wrap64 ((i : Int) + ((segT a b c d g.f0 g.f1).length : Int)) = ((i + (segT a b c d g.f0 g.f1).length : Nat) : Int) := by rw [wrap_id (by omega) (by omega)]; omega
    rw [← hw] at h5
    exact Ev.step (fun k => F21.l0.eq_2 ..) (Ev.pos (by rw [hsz]; omega) (Ev.pos (by omega) (Ev.pos (by rw [hsz]; omega) (Ev.bind hr (Ev.neg (by omega) (Ev.pos rfl (Ev.pos (by omega) h5)))))))
theorem implSegsRead_ev {a b c d : Int} (hs : synP a b c d = true) (G : List S88) (hG : G.length ≤ 200) (hA : ∀ g ∈ G, segB g.f0 g.f1 = true) (hZ : (segsT a b c d G).length ≤ 20000) : Ev (fun k => F21.f k a b c d (strOfNums (segsT a b c d G))) (G, 0, 0, 0) := by
  unfold F21.f
  refine Ev.bind (longText_ev _) (Ev.neg (by rw [size_strOf]; simp; omega) (Ev.bind (implSyntaxRight_ev a b c d) (Ev.pos hs ?_)))
  exact implSegsR_loop hs G hG hA hZ G [] 0 rfl rfl (by omega)

/-! a segment is the same as itself -/
theorem lwSeg_l1 (s u : ByteArray) (L : List S122) (hL : L.length ≤ 1048576) (i : Nat) (hi : i < L.length) (p : List ByteArray) (hp : (rd_T122 L (i : Int)).f0 = p) (hpl : p.length ≤ 1048576) {R : Bool} (hn : Ev (fun k => F53.l0 k ((i + 1 : Nat) : Int) s L u L) R) : ∀ (r : List ByteArray) (j : Nat), p.drop j = r → Ev (fun k => F53.l1 k (i : Int) (j : Int) s L u L) R := by
  intro r
  induction r with
  | nil =>
    intro j h
    have h0 := ldrop_nil h
    rw [← wi_ (by omega)] at hn
    refine Ev.step (fun k => F53.l1.eq_2 ..) (Ev.pos (by omega) (Ev.pos (by omega) (Ev.neg (by rw [hp]; omega) hn)))
  | cons q r ih =>
    intro j h
    obtain ⟨h1, h2, h3⟩ := ldrop_cons ByteArray.empty h
    have h4 := ih (j + 1) h3
    rw [← wi_ (by omega)] at h4
    exact Ev.step (fun k => F53.l1.eq_2 ..) (Ev.pos (by omega) (Ev.pos (by omega) (Ev.pos (by rw [hp]; omega) (Ev.pos (by omega) (Ev.pos (by omega) (Ev.pos (by rw [hp]; omega) (Ev.pos rfl h4)))))))
theorem lwSeg_l0 (s u : ByteArray) (L : List S122) (hL : L.length ≤ 1048576) (hE : ∀ e ∈ L, e.f0.length ≤ 1048576) : ∀ (r : List S122) (i : Nat), L.drop i = r → Ev (fun k => F53.l0 k (i : Int) s L u L) true := by
  intro r
  induction r with
  | nil =>
    intro i h
    have h0 := ldrop_nil h
    exact Ev.step (fun k => F53.l0.eq_2 ..) (Ev.neg (by omega) (Ev.now _))
  | cons e r ih =>
    intro i h
    obtain ⟨h1, h2, h3⟩ := ldrop_cons z122 h
    have hr : rd_T122 L (i : Int) = e := h2
    have hm := hE e (List.mem_of_mem_drop (by rw [h]; exact List.mem_cons_self))
    exact Ev.step (fun k => F53.l0.eq_2 ..) (Ev.pos h1 (Ev.pos (by omega) (Ev.pos h1 (Ev.pos rfl (lwSeg_l1 s u L hL i (by omega) e.f0 (by rw [hr]) hm (ih (i + 1) h3) e.f0 0 rfl)))))
theorem lwSeg_ev (s : ByteArray) (L : List S122) (hL : L.length ≤ 1048576) (hE : ∀ e ∈ L, e.f0.length ≤ 1048576) : Ev (fun k => F53.f k s L s L) true := by
  unfold F53.f
  refine Ev.pos rfl (Ev.step (fun k => F53.j0.eq_2 ..) (Ev.neg (by simp) (lwSeg_l0 s s L hL hE L 0 rfl)))
theorem lwSegs_l0 (G : List S88) (hG : G.length ≤ 1048576) (hE : ∀ g ∈ G, g.f1.length ≤ 1048576 ∧ ∀ e ∈ g.f1, e.f0.length ≤ 1048576) : ∀ (r : List S88) (i : Nat), G.drop i = r → Ev (fun k => F22.l0 k G G (i : Int)) true := by
  intro r
  induction r with
  | nil =>
    intro i h
    have h0 := ldrop_nil h
    exact Ev.step (fun k => F22.l0.eq_2 ..) (Ev.neg (by omega) (Ev.now _))
  | cons g r ih =>
    intro i h
    obtain ⟨h1, h2, h3⟩ := ldrop_cons z88 h
    have hr : rd_T88 G (i : Int) = g := h2
    have hm := hE g (List.mem_of_mem_drop (by rw [h]; exact List.mem_cons_self))
    have h4 := ih (i + 1) h3
    rw [← wi_ (by omega)] at h4
    refine Ev.step (fun k => F22.l0.eq_2 ..) (Ev.pos h1 (Ev.pos (by omega) (Ev.pos h1 ?_)))
    rw [hr]
    exact Ev.bind (lwSeg_ev g.f0 g.f1 hm.1 hm.2) (Ev.pos rfl h4)
theorem lwSegs_ev (G : List S88) (hG : G.length ≤ 1048576) (hE : ∀ g ∈ G, g.f1.length ≤ 1048576 ∧ ∀ e ∈ g.f1, e.f0.length ≤ 1048576) : Ev (fun k => F22.f k G G) true := by
  unfold F22.f
  exact Ev.pos rfl (lwSegs_l0 G hG hE G 0 rfl)

theorem u8_of {x : Int} (h : (Lit.int .u8 x).wf = true) : 0 ≤ x ∧ x ≤ 255 := by
  have h2 : IntKind.u8.min ≤ x ∧ x ≤ IntKind.u8.max := by simpa [Lit.wf] using h
  exact h2
/-- A place below a bound, out of some bytes. -/
theorem lwAt_ev (l : List Int) (m : Int) (hl : ∀ x ∈ l, (Lit.int .u8 x).wf = true) (hm : 1 ≤ m) (hm2 : m ≤ 1000000) : ∃ r, F23.f l 0 m = some r ∧ 0 ≤ r ∧ r < m := by
  unfold F23.f
  by_cases h1 : m ≤ 1
  · exact ⟨0, by rw [if_pos h1], by omega, by omega⟩
  rw [if_neg h1]
  by_cases h2 : (l.length : Int) = 0
  · exact ⟨0, by rw [if_pos h2], by omega, by omega⟩
  rw [if_neg h2, Int.zero_tmod, if_pos (by omega), if_pos (by omega), if_neg (by omega)]
  have hx : 0 ≤ rd l 0 ∧ rd l 0 ≤ 255 := by
    have hm : rd l 0 ∈ l := by
      unfold rd
      rw [List.getD_eq_getElem?_getD, List.getElem?_eq_getElem (by show 0 < l.length; omega)]
      exact List.getElem_mem _
    exact u8_of (hl _ hm)
  rw [wrap_id (by omega) (by omega), Int.tmod_eq_emod_of_nonneg hx.1]
  exact ⟨_, rfl, Int.emod_nonneg _ (by omega), Int.emod_lt_of_pos _ (by omega)⟩

theorem toList_nil_iff {s : ByteArray} : s.toList = ([] : List UInt8) ↔ s = (⟨#[]⟩ : ByteArray) := by
  constructor
  · intro h; exact toList_inj.1 (by rw [h, ByteArray.toList_eq])
  · intro h; rw [h, ByteArray.toList_eq]
theorem implSegsText_good {a b c d : Int} (hs : synP a b c d = true) (G : List S88) (hG : G.length ≤ 200) (hB : ∀ g ∈ G, bSg g) (hA : ∀ g ∈ G, segB g.f0 g.f1 = true) : Ev (fun k => F20.f k a b c d G) (capT (segsT a b c d G)) := by
  unfold F20.f
  obtain ⟨x, x1, x2⟩ := segsIdx_loop G (by omega) hB G 0 rfl
  have hall : G.all (fun g => segB g.f0 g.f1) = true := List.all_eq_true.2 hA
  have hc : Ev (fun k => F47.f k G) false := by
    unfold F47.f
    exact Ev.bind (show Ev (fun k => F85.f k G) x from x1) (Ev.ret (by rw [x2, hall]; rfl))
  obtain ⟨_, t2⟩ := segsGood a b c d hs G hG hB hA G 0 [] [] rfl (by omega) rfl (by rw [text_nil]; rfl) (by simp)
  rw [List.nil_append] at t2
  exact Ev.bind (implSyntaxRight_ev a b c d) (Ev.pos hs (Ev.neg (by omega) (Ev.bind hc (Ev.neg (by simp) (Ev.bind (show Ev (fun k => F50.f k a b c d G) _ from t2) (Ev.now _))))))
theorem segsT_app (a b c d : Int) : ∀ X Y : List S88, segsT a b c d (X ++ Y) = segsT a b c d X ++ segsT a b c d Y
  | [], Y => rfl
  | g :: X, Y => by simp [segsT, segsT_app a b c d X Y]
theorem segs_range {a b c d : Int} (hF : Four a b c d) : ∀ (T : List S88), ∀ y ∈ segsT a b c d T, 0 ≤ y ∧ y ≤ 255
  | [], y, hy => by simp [segsT] at hy
  | g :: r, y, hy => by
    rcases List.mem_append.1 hy with e | e
    · exact seg_rng hF _ _ y e
    · exact segs_range hF r y e
theorem FnFirstSegments : F6.Pure := by
  intro L L2 hl _ _ hl2 _ hw2
  refine Ev.rounds (g := fun k => F6.f k L L2) ?_
  unfold F6.f
  have jT : Ev (fun k => F6.j0 k L L2 true) true := Ev.step (fun k => F6.j0.eq_2 ..) (Ev.pos rfl (Ev.now _))
  refine Ev.ite (fun _ => jT) (fun g1 => ?_)
  by_cases g2 : (L2.length : Int) > 1048576
  · rw [decide_eq_true g2]; exact jT
  rw [decide_eq_false g2]
  obtain ⟨a, b, c, d, G, e0, h1, h2⟩ := drawSegs_ev L (by omega)
  obtain ⟨R, r1, _, hR⟩ := segsText_told a b c d G (by omega) h2
  refine Ev.step (fun k => F6.j0.eq_2 ..) (Ev.neg (by simp) (Ev.bind e0 (Ev.bind r1 ?_)))
  by_cases g : R.toList = ([] : List UInt8)
  · exact Ev.pos g (Ev.now _)
  rcases hR with hR | ⟨hs, h3, h4, h5, h6⟩
  · exact absurd (toList_nil_iff.2 hR) g
  have hF := four_of hs
  have hw : wrap64 ((G.length : Int) + 1) = (G.length : Int) + 1 := wrap_id (by omega) (by omega)
  obtain ⟨r, hr, hr0, hr1⟩ := lwAt_ev L2 (wrap64 ((G.length : Int) + 1)) hw2 (by omega) (by omega)
  have hrn : r.toNat ≤ G.length := by omega
  obtain ⟨T, hT⟩ : ∃ T, T = G.take r.toNat := ⟨_, rfl⟩
  have hTG : G = T ++ G.drop r.toNat := by rw [hT]; exact (List.take_append_drop _ _).symm
  have hTl : T.length = r.toNat := by rw [hT, List.length_take]; omega
  have hTm : ∀ g ∈ T, g ∈ G := fun g hg => by rw [hT] at hg; exact List.mem_of_mem_take hg
  have hTz : (segsT a b c d T).length ≤ 20000 := by
    have := congrArg List.length (congrArg (segsT a b c d) hTG)
    rw [segsT_app, List.length_append] at this
    omega
  have p1 := implSegsText_good hs T (by omega) (fun g hg => h2 g (hTm g hg)) (fun g hg => h4 g (hTm g hg))
  have hcap : capT (segsT a b c d T) = strOfNums (segsT a b c d T) := if_neg (by omega)
  rw [hcap] at p1
  have p2 := implSegsRead_ev hs T (by omega) (fun g hg => h4 g (hTm g hg)) hTz
  have p3 := lwSegs_ev T (by omega) (fun g hg => ⟨(h2 g (hTm g hg)).1, fun e he => ((h2 g (hTm g hg)).2 e he).1⟩)
  have hz1 : ((strOfNums (segsT a b c d T)).size : Int) = ((segsT a b c d T).length : Int) := by rw [size_strOf]
  have hz2 : (R.size : Int) = ((segsT a b c d G).length : Int) := by rw [h5, size_strOf]
  have hle : (segsT a b c d T).length ≤ (segsT a b c d G).length := by
    have := congrArg List.length (congrArg (segsT a b c d) hTG)
    rw [segsT_app, List.length_append] at this
    omega
  have hpre : R.extract 0 ((strOfNums (segsT a b c d T)).size : Int).toNat = strOfNums (segsT a b c d T) := by
    apply bytesOf_inj
    rw [bytesOf_extract, h5, bytesOf_strOf _ (segs_range hF G), bytesOf_strOf _ (segs_range hF T), hz1, Int.toNat_natCast, List.drop_zero]
    have := congrArg (segsT a b c d) hTG
    rw [segsT_app] at this
    rw [this, List.take_left]
  refine Ev.neg g (Ev.bindc hr (Ev.bindc rfl (Ev.pos hr0 (Ev.pos (by dsimp only; omega) (Ev.bindc rfl ?_)))))
  dsimp only
  rw [List.nil_append, ← hT]
  refine Ev.pos (by simp only [List.length_nil]; omega) (Ev.bind p1 (Ev.neg (by rw [hz1, hz2]; omega) (Ev.pos (by omega) (Ev.pos (by rw [hz1, hz2]; omega) ?_))))
  rw [hpre]
  have hne : ((strOfNums (segsT a b c d T)).toList != (strOfNums (segsT a b c d T)).toList) = false := by simp
  rw [hne]
  refine Ev.step (fun k => F6.j1.eq_2 ..) (Ev.neg (by simp) (Ev.bind p2 (Ev.pos rfl (Ev.pos (by dsimp only; omega) (Ev.pos hr0 (Ev.pos (by omega) ?_))))))
  rw [← hT]
  exact Ev.bind p3 (Ev.now _)

end Go.Proofs.Ytlghcbmkhdibdaa.Pure
