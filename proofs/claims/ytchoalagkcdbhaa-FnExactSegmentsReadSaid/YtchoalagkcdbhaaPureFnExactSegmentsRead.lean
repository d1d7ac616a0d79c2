/- The program's SegmentsRead answers as the reference's: the law, over numbers and lists.
Conditions: none. -/
import Derived.Test.YtchoalagkcdbhaaPFnExactSegmentsReadx
import Derived.Test.YtchoalagkcdbhaaVFnExactSegmentsRead
namespace Go.Proofs.Ytchoalagkcdbhaa.Pure
open Go.RowKit Go.Proofs.Ytchoalagkcdbhaa.PFnExactSegmentsRead Go.Proofs.YtchoalagkcdbhaaW.PrintWords Go.Proofs.YtchoalagkcdbhaaW.PrintLast Go.Proofs.YtchoalagkcdbhaaW.PrintMore Go.Proofs.YtchoalagkcdbhaaW.Pl
set_option linter.unusedVariables false
set_option linter.unusedSimpArgs false

theorem within_eq (a b c : Int) : F79.f a b c = some (withinP a b c) := by
  unfold F79.f withinP
  split
  · congr 1; simp only [decide_eq_decide]; omega
  · congr 1; symm; simp only [decide_eq_false_iff_not]; omega

theorem isGreat_eq (c : Int) : F104.f c = some (great c) := by
  unfold F104.f great
  split
  · congr 1; simp only [decide_eq_decide]; omega
  · congr 1; symm; simp only [decide_eq_false_iff_not]; omega
theorem isDigit_eq (c : Int) : F105.f c = some (digit c) := by
  unfold F105.f digit
  split
  · congr 1; simp only [decide_eq_decide]; omega
  · congr 1; symm; simp only [decide_eq_false_iff_not]; omega

theorem index_loop (l : List Int) (v : Int) (hl : (l.length : Int) ≤ 4611686018427387904) : ∀ (r : List Int) (i : Nat), l.drop i = r → ∃ x : Int, Ev (fun k => F120.l0 k l v (l.length : Int) (i : Int)) x ∧ decide (x ≥ 0) = r.contains v := by
  intro r
  induction r with
  | nil =>
    intro i h
    have h0 := ldrop_nil h
    exact ⟨-1, Ev.step (fun k => F120.l0.eq_2 ..) (Ev.neg (by omega) (Ev.now _)), by simp⟩
  | cons c r ih =>
    intro i h
    obtain ⟨h1, h2, h3⟩ := rd_cons h
    have hw : wrap64 ((i : Int) + 1) = ((i + 1 : Nat) : Int) := by rw [wrap_id (by omega) (by omega)]; omega
    obtain ⟨x, hx, he⟩ := ih (i + 1) h3
    by_cases hv : v = c
    · refine ⟨i, Ev.step (fun k => F120.l0.eq_2 ..) (Ev.pos h1 (Ev.pos (by omega) (Ev.pos h1 ?_))), by simp [hv]⟩
      rw [h2]
      exact Ev.pos hv (Ev.now _)
    · refine ⟨x, Ev.step (fun k => F120.l0.eq_2 ..) (Ev.pos h1 (Ev.pos (by omega) (Ev.pos h1 ?_))), by rw [he]; simp [hv]⟩
      rw [h2, hw]
      exact Ev.neg hv hx
theorem contains_ev (l : List Int) (v : Int) (hl : (l.length : Int) ≤ 4611686018427387904) : Ev (fun k => F103.f k l v) (l.contains v) := by
  obtain ⟨x, hx, he⟩ := index_loop l v hl l 0 rfl
  unfold F103.f
  refine Ev.bind (show Ev (fun k => F120.f k l v) x from hx) ?_
  exact Ev.ret he

theorem l01Mark_eq (c : Int) : F66.f c = some (markP c) := by
  have hf : ∀ {b : Bool}, markP c = b → some b = some (markP c) := fun h => by rw [h]
  have ht : 33 ≤ c → c ≤ 126 → c ≠ 45 → ¬ (65 ≤ c ∧ c ≤ 90) → ¬ (97 ≤ c ∧ c ≤ 122) → ¬ (48 ≤ c ∧ c ≤ 57) → markP c = true := fun h1 h2 h3 h4 h5 h6 => markP_iff.2 ⟨h1, h2, h3, h4, h5, h6⟩
  have hn : ¬ (33 ≤ c ∧ c ≤ 126 ∧ c ≠ 45 ∧ ¬ (65 ≤ c ∧ c ≤ 90) ∧ ¬ (97 ≤ c ∧ c ≤ 122) ∧ ¬ (48 ≤ c ∧ c ≤ 57)) → markP c = false := markP_not.2
  unfold F66.f
  repeat' split
  all_goals (apply hf; first | exact hn (by omega) | exact ht (by omega) (by omega) (by omega) (by omega) (by omega) (by omega) | (simp only [Bool.not_true, Bool.not_false]; first | exact hn (by omega) | exact ht (by omega) (by omega) (by omega) (by omega) (by omega) (by omega)) | skip)
  all_goals
    by_cases h57 : c ≤ 57
    · rw [decide_eq_true h57]; exact hn (by omega)
    · rw [decide_eq_false h57]; exact ht (by omega) (by omega) (by omega) (by omega) (by omega) (by omega)

section
variable (a b c d : Int)
theorem sA (i : Int) (x : Int) {r : Bool} (h0 : 0 ≤ i) (h4 : i < 4) (hx : rd [a, b, c, d] i = x) (hm : markP x = true) (h : Ev (fun k => F23.l1 k [a, b, c, d] i 0) r) : Ev (fun k => F23.l0 k [a, b, c, d] i) r := by
  refine Ev.step (fun k => F23.l0.eq_2 ..) (Ev.pos h4 (Ev.pos h0 (Ev.pos (by simp; omega) ?_)))
  rw [hx]
  exact Ev.bindc (l01Mark_eq x) (Ev.pos hm h)
theorem sA' (i : Int) (x : Int) (h0 : 0 ≤ i) (h4 : i < 4) (hx : rd [a, b, c, d] i = x) (hm : markP x = false) : Ev (fun k => F23.l0 k [a, b, c, d] i) false := by
  refine Ev.step (fun k => F23.l0.eq_2 ..) (Ev.pos h4 (Ev.pos h0 (Ev.pos (by simp; omega) ?_)))
  rw [hx]
  exact Ev.bindc (l01Mark_eq x) (Ev.neg (by simp [hm]) (Ev.now _))
theorem sA4 : Ev (fun k => F23.l0 k [a, b, c, d] 4) true := Ev.step (fun k => F23.l0.eq_2 ..) (Ev.neg (by omega) (Ev.now _))
theorem sB (i j : Int) (x y : Int) {r : Bool} (h0 : 0 ≤ j) (h : j < i) (h4 : i < 4) (hx : rd [a, b, c, d] j = x) (hy : rd [a, b, c, d] i = y) (hm : x ≠ y) (hn : Ev (fun k => F23.l1 k [a, b, c, d] i (j + 1)) r) : Ev (fun k => F23.l1 k [a, b, c, d] i j) r := by
  refine Ev.step (fun k => F23.l1.eq_2 ..) (Ev.pos h (Ev.pos h0 (Ev.pos (by simp; omega) (Ev.pos (by omega) (Ev.pos (by simp; omega) ?_)))))
  rw [hx, hy, wrap_id (by omega) (by omega)]
  exact Ev.neg hm hn
theorem sB' (i j : Int) (x y : Int) (h0 : 0 ≤ j) (h : j < i) (h4 : i < 4) (hx : rd [a, b, c, d] j = x) (hy : rd [a, b, c, d] i = y) (hm : x = y) : Ev (fun k => F23.l1 k [a, b, c, d] i j) false := by
  refine Ev.step (fun k => F23.l1.eq_2 ..) (Ev.pos h (Ev.pos h0 (Ev.pos (by simp; omega) (Ev.pos (by omega) (Ev.pos (by simp; omega) ?_)))))
  rw [hx, hy]
  exact Ev.pos hm (Ev.now _)
theorem sBe (i : Int) {r : Bool} (h0 : 0 ≤ i) (h4 : i < 4) (hn : Ev (fun k => F23.l0 k [a, b, c, d] (i + 1)) r) : Ev (fun k => F23.l1 k [a, b, c, d] i i) r := by
  refine Ev.step (fun k => F23.l1.eq_2 ..) (Ev.neg (by omega) ?_)
  rw [wrap_id (by omega) (by omega)]
  exact hn
theorem specSyntaxRight_ev : Ev (fun k => F23.f k a b c d) (synP a b c d) := by
  show Ev (fun k => F23.l0 k [a, b, c, d] 0) _
  have no_ : ∀ {g : Nat → Option Bool}, synP a b c d = false → Ev g false → Ev g (synP a b c d) := fun h e => by rw [h]; exact e
  by_cases m0 : markP a = true
  rotate_left
  · exact no_ (by simp [synP, m0]) (sA' a b c d 0 a (by omega) (by omega) rfl (by simpa using m0))
  refine sA a b c d 0 a (by omega) (by omega) rfl m0 (sBe a b c d 0 (by omega) (by omega) ?_)
  by_cases m1 : markP b = true
  rotate_left
  · exact no_ (by simp [synP, m1]) (sA' a b c d 1 b (by omega) (by omega) rfl (by simpa using m1))
  refine sA a b c d 1 b (by omega) (by omega) rfl m1 ?_
  by_cases e01 : a = b
  · exact no_ (by simp [synP, e01]) (sB' a b c d 1 0 a b (by omega) (by omega) (by omega) rfl rfl e01)
  refine sB a b c d 1 0 a b (by omega) (by omega) (by omega) rfl rfl e01 (sBe a b c d 1 (by omega) (by omega) ?_)
  by_cases m2 : markP c = true
  rotate_left
  · exact no_ (by simp [synP, m2]) (sA' a b c d 2 c (by omega) (by omega) rfl (by simpa using m2))
  refine sA a b c d 2 c (by omega) (by omega) rfl m2 ?_
  by_cases e02 : a = c
  · exact no_ (by simp [synP, e02]) (sB' a b c d 2 0 a c (by omega) (by omega) (by omega) rfl rfl e02)
  refine sB a b c d 2 0 a c (by omega) (by omega) (by omega) rfl rfl e02 ?_
  by_cases e12 : b = c
  · exact no_ (by simp [synP, e12]) (sB' a b c d 2 1 b c (by omega) (by omega) (by omega) rfl rfl e12)
  refine sB a b c d 2 1 b c (by omega) (by omega) (by omega) rfl rfl e12 (sBe a b c d 2 (by omega) (by omega) ?_)
  by_cases m3 : markP d = true
  rotate_left
  · exact no_ (by simp [synP, m3]) (sA' a b c d 3 d (by omega) (by omega) rfl (by simpa using m3))
  refine sA a b c d 3 d (by omega) (by omega) rfl m3 ?_
  by_cases e03 : a = d
  · exact no_ (by simp [synP, e03]) (sB' a b c d 3 0 a d (by omega) (by omega) (by omega) rfl rfl e03)
  refine sB a b c d 3 0 a d (by omega) (by omega) (by omega) rfl rfl e03 ?_
  by_cases e13 : b = d
  · exact no_ (by simp [synP, e13]) (sB' a b c d 3 1 b d (by omega) (by omega) (by omega) rfl rfl e13)
  refine sB a b c d 3 1 b d (by omega) (by omega) (by omega) rfl rfl e13 ?_
  by_cases e23 : c = d
  · exact no_ (by simp [synP, e23]) (sB' a b c d 3 2 c d (by omega) (by omega) (by omega) rfl rfl e23)
  refine sB a b c d 3 2 c d (by omega) (by omega) (by omega) rfl rfl e23 (sBe a b c d 3 (by omega) (by omega) ?_)
  rw [synP_iff.2 ⟨m0, m1, m2, m3, e01, e02, e12, e03, e13, e23⟩]
  exact sA4 a b c d
end

section
variable (a b c d : Int)
/-- One round of the program's loop: the byte is a mark, and none ahead is it. -/
theorem iA (i : Int) (x : Int) (pre : List Int) {r : Bool} (h0 : 0 ≤ i) (h4 : i < 4) (hx : rd [a, b, c, d] i = x) (hp : [a, b, c, d].take i.toNat = pre) (hm : markP x = true) (hc : pre.contains x = false) (h : Ev (fun k => F60.l0 k [a, b, c, d] [a, b, c, d] 4 (i + 1)) r) :
    Ev (fun k => F60.l0 k [a, b, c, d] [a, b, c, d] 4 i) r := by
  have hm' := markP_iff.1 hm
  refine Ev.step (fun k => F60.l0.eq_2 ..) (Ev.pos h4 (Ev.pos h0 (Ev.pos (by simp; omega) ?_)))
  rw [hx, hp]
  refine Ev.bindc (within_eq _ _ _) (Ev.pos (by simp [withinP]; omega) (Ev.pos (by simp; omega) ?_))
  refine Ev.bind (contains_ev pre x (by rw [← hp]; simp; omega)) ?_
  rw [hc]
  refine Ev.step (fun k => F60.j1.eq_2 ..) (Ev.neg (by simp) ?_)
  have e : x % 256 = x := by omega
  rw [e, wrap_id (by omega) (by omega)]
  refine Ev.bindc (isGreat_eq x) (Ev.neg (by simp [great]; omega) ?_)
  refine Ev.ite (fun _ => Ev.neg (by omega) ?_) (fun _ => ?_)
  · exact Ev.bindc (isDigit_eq x) (Ev.neg (by simp [digit]; omega) (Ev.neg (by omega) h))
  · exact Ev.bindc (isDigit_eq x) (Ev.neg (by simp [digit]; omega) (Ev.neg (by omega) h))
theorem iA' (i : Int) (x : Int) (pre : List Int) (h0 : 0 ≤ i) (h4 : i < 4) (hx : rd [a, b, c, d] i = x) (hp : [a, b, c, d].take i.toNat = pre) (hm : markP x = false ∨ pre.contains x = true) :
    Ev (fun k => F60.l0 k [a, b, c, d] [a, b, c, d] 4 i) false := by
  refine Ev.step (fun k => F60.l0.eq_2 ..) (Ev.pos h4 (Ev.pos h0 (Ev.pos (by simp; omega) ?_)))
  rw [hx, hp]
  have hj : Ev (fun k => F60.j1 k [a, b, c, d] x [a, b, c, d] 4 i true) false := Ev.step (fun k => F60.j1.eq_2 ..) (Ev.pos rfl (Ev.now _))
  refine Ev.bindc (within_eq _ _ _) (Ev.ite (fun w => ?_) (fun _ => hj))
  simp only [withinP, decide_eq_true_eq] at w
  refine Ev.pos (by simp; omega) (Ev.bind (contains_ev pre x (by rw [← hp]; simp; omega)) ?_)
  by_cases hc : pre.contains x = true
  · rw [hc]; exact hj
  · have hm0 : markP x = false := by
      rcases hm with h | h
      · exact h
      · exact absurd h hc
    rw [show pre.contains x = false from by simpa using hc]
    have hn : ¬ (33 ≤ x ∧ x ≤ 126 ∧ x ≠ 45 ∧ ¬ (65 ≤ x ∧ x ≤ 90) ∧ ¬ (97 ≤ x ∧ x ≤ 122) ∧ ¬ (48 ≤ x ∧ x ≤ 57)) := markP_not.1 hm0
    have e : x % 256 = x := by omega
    refine Ev.step (fun k => F60.j1.eq_2 ..) (Ev.neg (by simp) ?_)
    rw [e]
    refine Ev.bindc (isGreat_eq x) (Ev.ite (fun _ => Ev.now _) (fun g1 => ?_))
    simp only [great, decide_eq_true_eq] at g1
    refine Ev.ite (fun g2 => Ev.ite (fun _ => Ev.now _) (fun g3 => ?_)) (fun g2 => ?_)
    · refine Ev.bindc (isDigit_eq x) (Ev.ite (fun _ => Ev.now _) (fun g4 => Ev.ite (fun _ => Ev.now _) (fun g5 => ?_)))
      simp only [digit, decide_eq_true_eq] at g4
      exact absurd (show 33 ≤ x ∧ x ≤ 126 ∧ x ≠ 45 ∧ ¬ (65 ≤ x ∧ x ≤ 90) ∧ ¬ (97 ≤ x ∧ x ≤ 122) ∧ ¬ (48 ≤ x ∧ x ≤ 57) by omega) hn
    · refine Ev.bindc (isDigit_eq x) (Ev.ite (fun _ => Ev.now _) (fun g4 => Ev.ite (fun _ => Ev.now _) (fun g5 => ?_)))
      simp only [digit, decide_eq_true_eq] at g4
      exact absurd (show 33 ≤ x ∧ x ≤ 126 ∧ x ≠ 45 ∧ ¬ (65 ≤ x ∧ x ≤ 90) ∧ ¬ (97 ≤ x ∧ x ≤ 122) ∧ ¬ (48 ≤ x ∧ x ≤ 57) by omega) hn
theorem implSyntaxRight_ev : Ev (fun k => F60.f k a b c d) (synP a b c d) := by
  unfold F60.f
  refine Ev.bindc (show F102.f a b c d = some [a, b, c, d] from rfl) ?_
  show Ev (fun k => F60.l0 k [a, b, c, d] [a, b, c, d] 4 0) _
  have no_ : ∀ {g : Nat → Option Bool}, synP a b c d = false → Ev g false → Ev g (synP a b c d) := fun h e => by rw [h]; exact e
  by_cases m0 : markP a = true
  rotate_left
  · exact no_ (by simp [synP, m0]) (iA' a b c d 0 a [] (by omega) (by omega) rfl rfl (.inl (by simpa using m0)))
  refine iA a b c d 0 a [] (by omega) (by omega) rfl rfl m0 rfl ?_
  by_cases m1 : markP b = true ∧ a ≠ b
  rotate_left
  · exact no_ (by simp only [not_and, Decidable.not_not] at m1; simp only [synP, Bool.and_eq_false_iff, decide_eq_false_iff_not]; by_cases h : markP b = true <;> simp_all) (iA' a b c d 1 b [a] (by omega) (by omega) rfl rfl (by by_cases h : markP b = true <;> simp_all))
  refine iA a b c d 1 b [a] (by omega) (by omega) rfl rfl m1.1 (by simpa using fun h => m1.2 h.symm) ?_
  by_cases m2 : markP c = true ∧ a ≠ c ∧ b ≠ c
  rotate_left
  · exact no_ (by by_cases h : markP c = true <;> by_cases h1 : a = c <;> by_cases h2 : b = c <;> simp_all [synP]) (iA' a b c d 2 c [a, b] (by omega) (by omega) rfl rfl (by by_cases h : markP c = true <;> by_cases h1 : a = c <;> by_cases h2 : b = c <;> simp_all))
  refine iA a b c d 2 c [a, b] (by omega) (by omega) rfl rfl m2.1 (by simpa using ⟨fun h => m2.2.1 h.symm, fun h => m2.2.2 h.symm⟩) ?_
  by_cases m3 : markP d = true ∧ a ≠ d ∧ b ≠ d ∧ c ≠ d
  rotate_left
  · exact no_ (by by_cases h : markP d = true <;> by_cases h1 : a = d <;> by_cases h2 : b = d <;> by_cases h3 : c = d <;> simp_all [synP]) (iA' a b c d 3 d [a, b, c] (by omega) (by omega) rfl rfl (by by_cases h : markP d = true <;> by_cases h1 : a = d <;> by_cases h2 : b = d <;> by_cases h3 : c = d <;> simp_all))
  refine iA a b c d 3 d [a, b, c] (by omega) (by omega) rfl rfl m3.1 (by simpa using ⟨fun h => m3.2.1 h.symm, fun h => m3.2.2.1 h.symm, fun h => m3.2.2.2 h.symm⟩) ?_
  rw [synP_iff.2 ⟨m0, m1.1, m2.1, m3.1, m1.2, m2.2.1, m2.2.2, m3.2.1, m3.2.2.1, m3.2.2.2⟩]
  exact Ev.step (fun k => F60.l0.eq_2 ..) (Ev.neg (by omega) (Ev.now _))
end

theorem longText_loop (l : List ByteArray) (hl : (l.length : Int) ≤ 4611686018427387904) : ∀ (r : List ByteArray) (i : Nat), l.drop i = r → ∃ x : Int, Ev (fun k => F111.l0 k l (l.length : Int) (i : Int)) x ∧ decide (x ≥ 0) = r.any (fun s => decide ((s.size : Int) > 20000)) := by
  intro r
  induction r with
  | nil =>
    intro i h
    have h0 := ldrop_nil h
    exact ⟨-1, Ev.step (fun k => F111.l0.eq_2 ..) (Ev.neg (by omega) (Ev.now _)), by simp⟩
  | cons c r ih =>
    intro i h
    obtain ⟨h1, h2, h3⟩ := rdOf_cons ByteArray.empty h
    have hw : wrap64 ((i : Int) + 1) = ((i + 1 : Nat) : Int) := by rw [wrap_id (by omega) (by omega)]; omega
    obtain ⟨x, hx, he⟩ := ih (i + 1) h3
    by_cases hv : (c.size : Int) > 20000
    · refine ⟨i, Ev.step (fun k => F111.l0.eq_2 ..) (Ev.pos h1 (Ev.pos (by omega) (Ev.pos h1 ?_))), by simp [hv]⟩
      rw [h2]
      exact Ev.bindc (show F100.f c = some true from by simp [F100.f, hv]) (Ev.pos rfl (Ev.now _))
    · refine ⟨x, Ev.step (fun k => F111.l0.eq_2 ..) (Ev.pos h1 (Ev.pos (by omega) (Ev.pos h1 ?_))), by rw [he]; simp [hv]⟩
      rw [h2, hw]
      exact Ev.bindc (show F100.f c = some false from by simp only [F100.f, decide_eq_false hv]) (Ev.neg (by simp) hx)
theorem longText_any (l : List ByteArray) (hl : (l.length : Int) ≤ 4611686018427387904) : Ev (fun k => F58.f k l) (l.any (fun s => decide ((s.size : Int) > 20000))) := by
  obtain ⟨x, h1, h2⟩ := longText_loop l hl l 0 rfl
  unfold F58.f F80.f
  exact Ev.bind (Ev.bind (show Ev (fun k => F111.f k l) x from h1) (Ev.now _)) (Ev.ret h2)
theorem longText_ev (s : ByteArray) : Ev (fun k => F58.f k [s]) (decide ((s.size : Int) > 20000)) := (longText_any [s] (by simp)).to (by simp)

/-- Is it one of the four? -/
def ownP (a b c d x : Int) : Bool := decide (x = a ∨ x = b ∨ x = c ∨ x = d)
theorem isOne_ev (a b c d x : Int) (h0 : 0 ≤ x) (h1 : x ≤ 255) : Ev (fun k => F106.f k a b c d x) (ownP a b c d x) := by
  unfold F106.f
  refine Ev.bindc (show F102.f a b c d = some [a, b, c, d] from rfl) ?_
  rw [wrap_id (by omega) (by omega)]
  refine Ev.bind (contains_ev [a, b, c, d] x (by simp)) (Ev.ret ?_)
  by_cases h : x = a
  · simp [ownP, h]
  · by_cases h2 : x = b
    · simp [ownP, h2]
    · by_cases h3 : x = c <;> by_cases h4 : x = d <;> simp [ownP, h, h2, h3, h4]

theorem l01Own_eq (a b c d x : Int) (h0 : 0 ≤ x) (h1 : x ≤ 255) : F62.f a b c d x = some (ownP a b c d x) := by
  unfold F62.f ownP
  rw [wrap_id (by omega) (by omega)]
  by_cases h : x = a
  · simp [h]
  · by_cases h2 : x = b
    · simp [h2]
    · by_cases h3 : x = c
      · simp [h3]
      · simp only [h, h2, h3, if_false, false_or]
        congr 1

/-- A text without what releases: the place of its fault, or the text. -/
def unL (a b c d : Int) : List Int → Int → Int ⊕ List Int
  | [], _ => .inr []
  | [x], i => if ownP a b c d x then .inl i else .inr [x]
  | x :: y :: r, i => if ownP a b c d x then (if x = d then (if ownP a b c d y then (unL a b c d r (i + 2)).map id (y :: ·) else .inl i) else .inl i) else (unL a b c d (y :: r) (i + 1)).map id (x :: ·)
theorem unL_plain (a b c d x : Int) (r : List Int) (i : Int) (h : ownP a b c d x = false) : unL a b c d (x :: r) i = (unL a b c d r (i + 1)).map id (x :: ·) := by
  cases r <;> simp [unL, h]
theorem ownP_d (a b c d : Int) : ownP a b c d d = true := by simp [ownP]

/-- A piece put ahead of the first of some pieces. -/
def hdP (v : List Int) : List (List Int) → List (List Int)
  | [] => [v]
  | h :: t => (v ++ h) :: t
/-- The pieces of a text between bytes that are not released. -/
def cutL (d m : Int) : List Int → List (List Int)
  | [] => [[]]
  | [x] => if x = d then [[x]] else if x = m then [[], []] else [[x]]
  | x :: y :: r => if x = d then hdP [x, y] (cutL d m r) else if x = m then [] :: cutL d m (y :: r) else hdP [x] (cutL d m (y :: r))
theorem hdP_ne (v : List Int) (L : List (List Int)) : hdP v L ≠ [] := by cases L <;> simp [hdP]
theorem cutL_ne (d m : Int) : ∀ l, cutL d m l ≠ []
  | [] => by simp [cutL]
  | [x] => by unfold cutL; split <;> (try split) <;> simp
  | x :: y :: r => by
    unfold cutL
    split
    · exact hdP_ne _ _
    · split
      · simp
      · exact hdP_ne _ _
theorem hdP_nil {L : List (List Int)} (h : L ≠ []) : hdP [] L = L := by
  cases L with
  | nil => exact absurd rfl h
  | cons a t => simp [hdP]
theorem hdP_hdP (u v : List Int) {L : List (List Int)} : hdP u (hdP v L) = hdP (u ++ v) L := by
  cases L <;> simp [hdP]
theorem cutL_rel (d m x y : Int) (r : List Int) (h : x = d) : cutL d m (x :: y :: r) = hdP [x, y] (cutL d m r) := by simp [cutL, h]
theorem cutL_by (d m x : Int) (r : List Int) (h : x ≠ d) (h2 : x = m) : cutL d m (x :: r) = [] :: cutL d m r := by
  cases r <;> simp [cutL, h, h2] <;> (intro e; exact absurd (h2.trans e) h)
theorem cutL_else (d m x : Int) (r : List Int) (h : x ≠ d) (h2 : x ≠ m) : cutL d m (x :: r) = hdP [x] (cutL d m r) := by
  cases r <;> simp [cutL, h, h2, hdP]
theorem seg_take (l : List Int) (f i : Nat) (x : Int) (r : List Int) (h : l.drop i = x :: r) (hf : f ≤ i) : (l.take (i + 1)).drop f = (l.take i).drop f ++ [x] := by
  have hl : i < l.length := by
    by_cases hl : i < l.length
    · exact hl
    · rw [List.drop_eq_nil_of_le (by omega)] at h; cases h
  have h1 := List.drop_eq_getElem_cons hl
  rw [h] at h1
  have hx : l[i] = x := (List.cons.inj h1).1.symm
  rw [List.take_succ_eq_append_getElem hl, List.drop_append_of_le_length (by simp; omega), hx]
theorem extract_eq (s : ByteArray) (f i : Nat) : s.extract f i = strOfNums (((bytesOf s).take i).drop f) := by
  apply bytesOf_inj
  rw [bytesOf_extract, bytesOf_strOf]
  intro c hc
  exact mem_bytesOf (List.mem_of_mem_take (List.mem_of_mem_drop hc))

theorem wi_ {i : Nat} (h : (i : Int) ≤ 4611686018427387904) : wrap64 ((i : Int) + 1) = ((i + 1 : Nat) : Int) := by rw [wrap_id (by omega) (by omega)]; omega
/-- A list that is copied into a new one, place by place. -/
theorem tos_list {α β : Type} (z : α) (g : α → β) (T : Nat → List α → List β → Int → Option (List β)) (L : List α)
    (hT : ∀ (D : List β) (i : Nat) (r : List β), i < L.length → D.length = L.length → Ev (fun k => T k L (D.set i (g (L.getD i z))) ((i + 1 : Nat) : Int)) r → Ev (fun k => T k L D (i : Int)) r)
    (hT0 : ∀ (D : List β) (i : Nat), L.length ≤ i → Ev (fun k => T k L D (i : Int)) D) :
    ∀ (d : Nat) (D : List β) (i : Nat), L.length - i = d → D.length = L.length → (∀ j, j < i → D[j]? = (L.map g)[j]?) → Ev (fun k => T k L D (i : Int)) (L.map g)
  | 0, D, i, hd, hl, hp => by
    have e : D = L.map g := by
      apply List.ext_getElem?
      intro j
      by_cases h : j < i
      · exact hp j h
      · rw [List.getElem?_eq_none (by omega), List.getElem?_eq_none (by rw [List.length_map]; omega)]
    subst e
    exact hT0 _ i (by omega)
  | d + 1, D, i, hd, hl, hp => by
    refine hT D i _ (by omega) hl (tos_list z g T L hT hT0 d _ (i + 1) (by omega) (by rw [List.length_set]; exact hl) (fun j hj => ?_))
    by_cases h : j = i
    · subst h
      rw [List.getElem?_set_self (by omega), List.getElem?_map, List.getD_eq_getElem?_getD, List.getElem?_eq_getElem (by omega : j < L.length)]
      rfl
    · rw [List.getElem?_set_ne (by omega)]
      exact hp j (by omega)
/-- A list is measured, place by place: it is too great, or each element is bounded. -/
theorem sz_list {α : Type} (z : α) (P : α → Prop) (Z : Nat → List α → Int → Int → Option Int) (L : List α)
    (hs : ∀ (i : Nat) (x : Int), i < L.length → 0 ≤ x → x ≤ 1048576 → Ev (fun k => Z k L x (i : Int)) (-1) ∨ ∃ x', 0 ≤ x' ∧ x' ≤ x ∧ P (L.getD i z) ∧ ∀ r, Ev (fun k => Z k L x' ((i + 1 : Nat) : Int)) r → Ev (fun k => Z k L x (i : Int)) r)
    (h0 : ∀ (i : Nat) (x : Int), L.length ≤ i → Ev (fun k => Z k L x (i : Int)) x) :
    ∀ (d i : Nat) (x : Int), L.length - i = d → 0 ≤ x → x ≤ 1048576 → ∃ w, Ev (fun k => Z k L x (i : Int)) w ∧ (w = -1 ∨ (0 ≤ w ∧ w ≤ x ∧ ∀ j, i ≤ j → j < L.length → P (L.getD j z)))
  | 0, i, x, hd, h1, h2 => ⟨x, h0 i x (by omega), .inr ⟨h1, by omega, fun j _ _ => by omega⟩⟩
  | d + 1, i, x, hd, h1, h2 => by
    rcases hs i x (by omega) h1 h2 with h | ⟨x', g1, g2, g3, g4⟩
    · exact ⟨-1, h, .inl rfl⟩
    · obtain ⟨w, e1, e2⟩ := sz_list z P Z L hs h0 d (i + 1) x' (by omega) g1 (by omega)
      refine ⟨w, g4 w e1, ?_⟩
      rcases e2 with e2 | ⟨e2, e3, e4⟩
      · exact .inl e2
      · refine .inr ⟨e2, by omega, fun j hj hl => ?_⟩
        by_cases h : j = i
        · subst h; exact g3
        · exact e4 j (by omega) hl
theorem sz_all {α : Type} (z : α) (P : α → Prop) (L : List α) (h : ∀ j, 0 ≤ j → j < L.length → P (L.getD j z)) : ∀ x ∈ L, P x := by
  intro x hx
  obtain ⟨j, hj, rfl⟩ := List.getElem_of_mem hx
  have := h j (by omega) hj
  rwa [List.getD_eq_getElem?_getD, List.getElem?_eq_getElem hj] at this
theorem getD_mem {α : Type} {L : List α} {i : Nat} (z : α) (h : i < L.length) : L.getD i z ∈ L := by
  rw [List.getD_eq_getElem?_getD, List.getElem?_eq_getElem h]
  exact List.getElem_mem h
/-- A text that is bounded; a list of them. -/
def bT (s : ByteArray) : Prop := s.size ≤ 1048576
def bTs (l : List ByteArray) : Prop := l.length ≤ 1048576 ∧ ∀ s ∈ l, bT s

/-- A comparison of lists, place by place: of one list with itself. -/
theorem eqs_refl {α : Type} (Q : Nat → List α → List α → Int → Option Bool) (L : List α) (hs : ∀ i : Nat, i < L.length → Ev (fun k => Q k L L ((i + 1 : Nat) : Int)) true → Ev (fun k => Q k L L (i : Int)) true) (h0 : ∀ i : Nat, L.length ≤ i → Ev (fun k => Q k L L (i : Int)) true) : ∀ (d i : Nat), L.length - i = d → Ev (fun k => Q k L L (i : Int)) true
  | 0, i, h => h0 i (by omega)
  | d + 1, i, h => hs i (by omega) (eqs_refl Q L hs h0 d (i + 1) (by omega))

theorem eqStringS_refl (l : List ByteArray) (hl : (l.length : Int) ≤ 4611686018427387904) : Ev (fun k => F27.f k l l) true := by
  unfold F27.f
  refine Ev.pos rfl (eqs_refl F27.l0 l (fun i hi h => ?_) (fun i hi => ?_) l.length 0 (by omega))
  · refine Ev.step (fun k => F27.l0.eq_2 ..) (Ev.pos (by omega) (Ev.pos (by omega) (Ev.pos (by omega) (Ev.pos rfl ?_))))
    rw [wi_ (by omega)]
    exact h
  · exact Ev.step (fun k => F27.l0.eq_2 ..) (Ev.neg (by omega) (Ev.now _))

theorem eqElement_refl (a0 : List ByteArray) (h0 : (a0.length : Int) ≤ 4611686018427387904) : Ev (fun k => F113.f k a0 a0) true := by
  unfold F113.f
  exact Ev.bind (eqStringS_refl a0 h0) (Ev.pos rfl (Ev.now _))

/-- Of a Element: its lists are bounded. -/
def eElement (x : S102) : Prop := (x.f0.length : Int) ≤ 4611686018427387904
theorem eqElementS_refl (l : List S102) (hl : (l.length : Int) ≤ 4611686018427387904) (hb : ∀ y ∈ l, eElement y) : Ev (fun k => F84.f k l l) true := by
  unfold F84.f
  refine Ev.pos rfl (eqs_refl F84.l0 l (fun i hi h => ?_) (fun i hi => ?_) l.length 0 (by omega))
  · have hr : rd_T102 l (i : Int) = l.getD i z102 := by unfold rd_T102; rw [Int.toNat_natCast]
    refine Ev.step (fun k => F84.l0.eq_2 ..) (Ev.pos (by omega) (Ev.pos (by omega) (Ev.pos (by omega) ?_)))
    rw [hr, wi_ (by omega)]
    exact Ev.bind (eqElement_refl (l.getD i z102).f0 (hb _ (getD_mem z102 hi))) (Ev.pos rfl h)
  · exact Ev.step (fun k => F84.l0.eq_2 ..) (Ev.neg (by omega) (Ev.now _))

theorem eqSegment_refl (a0 : ByteArray) (a1 : List S102) (h1 : ((a1.length : Int) ≤ 4611686018427387904 ∧ ∀ y ∈ a1, eElement y)) : Ev (fun k => F37.f k a0 a1 a0 a1) true := by
  unfold F37.f
  exact Ev.pos rfl (Ev.bind (eqElementS_refl a1 h1.1 h1.2) (Ev.pos rfl (Ev.now _)))

/-- Of a Segment: its lists are bounded. -/
def eSegment (x : S59) : Prop := ((x.f1.length : Int) ≤ 4611686018427387904 ∧ ∀ y ∈ x.f1, eElement y)
theorem eqSegmentS_refl (l : List S59) (hl : (l.length : Int) ≤ 4611686018427387904) (hb : ∀ y ∈ l, eSegment y) : Ev (fun k => F49.f k l l) true := by
  unfold F49.f
  refine Ev.pos rfl (eqs_refl F49.l0 l (fun i hi h => ?_) (fun i hi => ?_) l.length 0 (by omega))
  · have hr : rd_T59 l (i : Int) = l.getD i z59 := by unfold rd_T59; rw [Int.toNat_natCast]
    refine Ev.step (fun k => F49.l0.eq_2 ..) (Ev.pos (by omega) (Ev.pos (by omega) (Ev.pos (by omega) ?_)))
    rw [hr, wi_ (by omega)]
    exact Ev.bind (eqSegment_refl (l.getD i z59).f0 (l.getD i z59).f1 (hb _ (getD_mem z59 hi))) (Ev.pos rfl h)
  · exact Ev.step (fun k => F49.l0.eq_2 ..) (Ev.neg (by omega) (Ev.now _))

/-- A list is marked, place by place, and then held. -/
theorem mark_held {α : Type} (z : α) (M : Nat → List α → Int → Int → Option (Int × List α)) (H : Nat → List α → Int → Int → Option Int) (E : Int → α → α) (st : Int) (hst : 0 ≤ st)
    (hM : ∀ (L : List α) (i : Nat) (x : Int) (r : Int × List α), (L.length : Int) ≤ 4611686018427387904 → i < L.length → 0 ≤ x → x + st ≤ 4611686018427387904 → Ev (fun k => M k (L.set i (E x (L.getD i z))) (x + st) ((i + 1 : Nat) : Int)) r → Ev (fun k => M k L x (i : Int)) r)
    (hM0 : ∀ (L : List α) (i : Nat) (x : Int), L.length ≤ i → Ev (fun k => M k L x (i : Int)) (x, L))
    (hH : ∀ (F : List α) (i : Nat) (x : Int) (y : α) (r : Int), (F.length : Int) ≤ 4611686018427387904 → i < F.length → 0 ≤ x → x + st ≤ 4611686018427387904 → F.getD i z = E x y → Ev (fun k => H k F (x + st) ((i + 1 : Nat) : Int)) r → Ev (fun k => H k F x (i : Int)) r)
    (hH0 : ∀ (F : List α) (i : Nat) (x : Int), F.length ≤ i → Ev (fun k => H k F x (i : Int)) x) :
    ∀ (d : Nat) (L : List α) (i : Nat) (x : Int), (L.length : Int) ≤ 4611686018427387904 → L.length - i = d → 0 ≤ x → x + st * (d : Int) ≤ 4611686018427387904 →
      ∃ F m, Ev (fun k => M k L x (i : Int)) (m, F) ∧ F.length = L.length ∧ (∀ j, j < i → F.getD j z = L.getD j z) ∧ Ev (fun k => H k F x (i : Int)) m ∧ x ≤ m ∧ m = x + st * (d : Int) := by
  intro d
  induction d with
  | zero =>
    intro L i x hl hd h0 h1
    exact ⟨L, x, hM0 L i x (by omega), rfl, fun _ _ => rfl, hH0 L i x (by omega), by omega, by simp⟩
  | succ d ih =>
    intro L i x hl hd h0 h1
    have hm : st * ((d + 1 : Nat) : Int) = st * (d : Int) + st := by
      have : ((d + 1 : Nat) : Int) = (d : Int) + 1 := by omega
      rw [this, Int.mul_add, Int.mul_one]
    rw [hm] at h1
    have hp : 0 ≤ st * (d : Int) := Int.mul_nonneg hst (by omega)
    obtain ⟨F, m, e1, e2, e3, e4, e5, e6⟩ := ih (L.set i (E x (L.getD i z))) (i + 1) (x + st) (by rw [List.length_set]; omega) (by rw [List.length_set]; omega) (by omega) (by omega)
    rw [List.length_set] at e2
    refine ⟨F, m, hM L i x _ hl (by omega) h0 (by omega) e1, e2, fun j hj => ?_, ?_, by omega, by rw [hm]; omega⟩
    · rw [e3 j (by omega)]
      simp only [List.getD_eq_getElem?_getD]
      rw [List.getElem?_set_ne (by omega)]
    · refine hH F i x (L.getD i z) m (by omega) (by omega) h0 (by omega) ?_ e4
      rw [e3 i (by omega)]
      simp only [List.getD_eq_getElem?_getD]
      rw [List.getElem?_set_self (by omega)]
      rfl
theorem mark_held0 {α : Type} (z : α) (M : Nat → List α → Int → Int → Option (Int × List α)) (H : Nat → List α → Int → Int → Option Int) (E : Int → α → α) (st : Int) (hst : 0 ≤ st)
    (hM : ∀ (L : List α) (i : Nat) (x : Int) (r : Int × List α), (L.length : Int) ≤ 4611686018427387904 → i < L.length → 0 ≤ x → x + st ≤ 4611686018427387904 → Ev (fun k => M k (L.set i (E x (L.getD i z))) (x + st) ((i + 1 : Nat) : Int)) r → Ev (fun k => M k L x (i : Int)) r)
    (hM0 : ∀ (L : List α) (i : Nat) (x : Int), L.length ≤ i → Ev (fun k => M k L x (i : Int)) (x, L))
    (hH : ∀ (F : List α) (i : Nat) (x : Int) (y : α) (r : Int), (F.length : Int) ≤ 4611686018427387904 → i < F.length → 0 ≤ x → x + st ≤ 4611686018427387904 → F.getD i z = E x y → Ev (fun k => H k F (x + st) ((i + 1 : Nat) : Int)) r → Ev (fun k => H k F x (i : Int)) r)
    (hH0 : ∀ (F : List α) (i : Nat) (x : Int), F.length ≤ i → Ev (fun k => H k F x (i : Int)) x) (L : List α) (x : Int) (hl : (L.length : Int) ≤ 4611686018427387904) (h0 : 0 ≤ x) (hb : x + st * (L.length : Int) ≤ 4611686018427387904) :
    ∃ F m, Ev (fun k => M k L x 0) (m, F) ∧ Ev (fun k => H k F x 0) m ∧ x ≤ m ∧ m = x + st * (L.length : Int) := by
  obtain ⟨F, m, e1, _, _, e4, e5, e6⟩ := mark_held z M H E st hst hM hM0 hH hH0 L.length L 0 x hl (by omega) h0 hb
  exact ⟨F, m, e1, e4, e5, e6⟩

theorem markText_loop : ∀ (d : Nat) (n : Int) (s : ByteArray), 0 ≤ n → n.toNat ≤ d → (s.size : Int) + n ≤ 4611686018427387904 → ∃ t, Ev (fun k => F70.l0 k n s) t := by
  intro d
  induction d with
  | zero =>
    intro n s h0 hd hs
    refine ⟨_, Ev.step (fun k => F70.l0.eq_2 ..) (Ev.neg (by omega) (Ev.pos (by omega) (Ev.now _)))⟩
  | succ d ih =>
    intro n s h0 hd hs
    by_cases h : n > 0
    · have e : Int.tdiv n 10 = n / 10 := Int.tdiv_eq_ediv_of_nonneg h0
      have hw : wrap64 (Int.tdiv n 10) = n / 10 := by rw [e, wrap_id (by omega) (by omega)]
      obtain ⟨t, ht⟩ := ih (n / 10) (strOfNums [(wrap64 (48 + Int.tmod n 10)) % 256] ++ s) (by omega) (by omega) (by rw [size_append, size_strOf]; simp; omega)
      refine ⟨t, Ev.step (fun k => F70.l0.eq_2 ..) (Ev.pos h (Ev.bindc rfl (Ev.pos (by rw [size_strOf]; simp; omega) ?_)))⟩
      rw [hw]
      exact ht
    · exact ⟨_, Ev.step (fun k => F70.l0.eq_2 ..) (Ev.neg h (Ev.pos (by omega) (Ev.now _)))⟩
theorem markText_some (n : Int) (h1 : n ≤ 4611686018427387904) : ∃ t, Ev (fun k => F70.f k n) t := by
  by_cases h : n ≤ 0
  · exact ⟨_, Ev.pos h (Ev.now _)⟩
  · obtain ⟨t, ht⟩ := markText_loop n.toNat n ⟨#[]⟩ (by omega) (by omega) (by have : (⟨#[]⟩ : ByteArray).size = 0 := rfl; rw [this]; omega)
    exact ⟨t, Ev.neg h ht⟩
/-- The text of a mark. -/
noncomputable def mt (n : Int) : ByteArray := @Classical.epsilon ByteArray ⟨⟨#[]⟩⟩ (fun t => Ev (fun k => F70.f k n) t)
theorem mt_ev (n : Int) (h1 : n ≤ 4611686018427387904) : Ev (fun k => F70.f k n) (mt n) := by
  exact Classical.epsilon_spec (p := fun t => Ev (fun k => F70.f k n) t) (markText_some n h1)

theorem markStringS_held (L : List ByteArray) (x : Int) (h0 : 0 ≤ x) (h1 : x ≤ 2305843009213693952) (hl : (L.length : Int) ≤ 1152921504606846976) : ∃ F m, Ev (fun k => F28.f k L x) (m, F) ∧ Ev (fun k => F29.f k F x) m ∧ x ≤ m ∧ m = x + 1 * (L.length : Int) := by
  refine mark_held0 ByteArray.empty F28.l0 F29.l0 (fun x y => mt x) 1 (by omega) (fun L i x r hl' hi h0 h1 h => ?_) (fun L i x hi => ?_) (fun F i x y r hl' hi h0 h1 he h => ?_) (fun F i x hi => ?_) L x (by omega) (by omega) (by omega)
  · have w1 : wrap64 (x + 1) = x + 1 := wrap_id (by omega) (by omega)
    have wi : wrap64 ((i : Int) + 1) = ((i + 1 : Nat) : Int) := by rw [wrap_id (by omega) (by omega)]; omega
    refine Ev.step (fun k => F28.l0.eq_2 ..) (Ev.pos (by omega) (Ev.bind (mt_ev x (by omega)) (Ev.pos (by omega) ?_)))
    rw [w1, wi, Int.toNat_natCast]
    exact h
  · exact Ev.step (fun k => F28.l0.eq_2 ..) (Ev.neg (by omega) (Ev.now _))
  · have w1 : wrap64 (x + 1) = x + 1 := wrap_id (by omega) (by omega)
    have wi : wrap64 ((i : Int) + 1) = ((i + 1 : Nat) : Int) := by rw [wrap_id (by omega) (by omega)]; omega
    have hr : rdOf ByteArray.empty F (i : Int) = mt x := by unfold rdOf; rw [Int.toNat_natCast, he]
    refine Ev.step (fun k => F29.l0.eq_2 ..) (Ev.pos (by omega) (Ev.pos (by omega) (Ev.bind (mt_ev x (by omega)) ?_)))
    rw [hr, w1, wi]
    exact Ev.pos rfl h
  · exact Ev.step (fun k => F29.l0.eq_2 ..) (Ev.neg (by omega) (Ev.now _))

theorem specCut_loop (a b c d m : Int) (s : ByteArray) (hs : s.size ≤ 1048576) : ∀ (n : Nat) (l : List Int) (i f : Nat) (acc : List ByteArray), l.length ≤ n → (bytesOf s).drop i = l → f ≤ i → f ≤ s.size → i ≤ s.size + 1 → acc.length ≤ i →
    Ev (fun k => F68.l0 k s m acc (f : Int) (i : Int) a b c d) (acc ++ (hdP (((bytesOf s).take i).drop f) (cutL d m l)).map strOfNums) := by
  have hend : ∀ (i f : Nat) (acc : List ByteArray), (bytesOf s).drop i = [] → f ≤ i → f ≤ s.size → i ≤ s.size + 1 → acc.length ≤ i → Ev (fun k => F68.l0 k s m acc (f : Int) (i : Int) a b c d) (acc ++ (hdP (((bytesOf s).take i).drop f) (cutL d m [])).map strOfNums) := by
    intro i f acc h hf hf' hi ha
    have h0 := drop_nil h
    refine Ev.step (fun k => F68.l0.eq_2 ..) (Ev.neg (by omega) (Ev.pos (by omega) (Ev.pos (by omega) (Ev.pos (by omega) (Ev.ret ?_)))))
    rw [Int.toNat_natCast, extract_eq]
    rw [List.take_of_length_le (by rw [length_bytesOf]; omega), List.take_of_length_le (by rw [length_bytesOf]; omega)]
    simp [hdP, cutL]
  intro n
  induction n using Nat.strongRecOn with
  | _ n ih =>
    intro l i f acc hn h hf hf' hi ha
    match l, h, hn with
    | [], h, hn => exact hend i f acc h hf hf' hi ha
    | x :: r, h, hn =>
      obtain ⟨h1, h2, h3, h4, h5⟩ := drop_cons h
      have hw : wrap64 ((i : Int) + 1) = ((i + 1 : Nat) : Int) := by rw [wrap_id (by omega) (by omega)]; omega
      have hw2 : wrap64 (((i + 1 : Nat) : Int) + 1) = ((i + 2 : Nat) : Int) := by rw [wrap_id (by omega) (by omega)]; omega
      simp only [List.length_cons] at hn
      refine Ev.step (fun k => F68.l0.eq_2 ..) ?_
      refine Ev.pos h1 ?_
      refine Ev.pos (Int.natCast_nonneg i) ?_
      rw [h2, wrap_id (x := x) (by omega) (by omega), hw, hw2]
      clear hw hw2
      have e1 := seg_take (bytesOf s) f i x r h hf
      refine Ev.ite (fun g1 => ?_) (fun g1 => Ev.ite (fun g2 => ?_) (fun g2 => ?_))
      · cases r with
        | nil =>
          have h6 : (bytesOf s).drop (i + 2) = [] := by
            have := drop_nil h3
            rw [List.drop_eq_nil_iff, length_bytesOf]; omega
          have h7 := hend (i + 2) f acc h6 (by omega) hf' (by omega) (by omega)
          refine h7.to ?_
          have e2 : (bytesOf s).take (i + 2) = (bytesOf s).take (i + 1) := by
            have := drop_nil h3
            rw [List.take_of_length_le (by rw [length_bytesOf]; omega), List.take_of_length_le (by rw [length_bytesOf]; omega)]
          rw [e2, e1]
          simp [cutL, g1, hdP]
        | cons y r' =>
          obtain ⟨g3, g4, g5, _, _⟩ := drop_cons h3
          simp only [List.length_cons] at hn
          have h7 := ih (n - 2) (by omega) r' (i + 2) f acc (by omega) g5 (by omega) hf' (by omega) (by omega)
          refine h7.to ?_
          have e2 := seg_take (bytesOf s) f (i + 1) y r' h3 (by omega)
          rw [e2, e1, cutL_rel d m x y r' g1, hdP_hdP]
          simp
      · refine Ev.pos (Int.natCast_nonneg f) ?_
        refine Ev.pos (show (f : Int) ≤ (i : Int) by omega) ?_
        refine Ev.pos (show (i : Int) ≤ (s.size : Int) by omega) ?_
        refine Ev.pos (show acc.length < 8796093022208 by omega) ?_
        have h7 := ih (n - 1) (by omega) r (i + 1) (i + 1) (acc ++ [s.extract (f : Int).toNat (i : Int).toNat]) (by omega) h3 (by omega) (by omega) (by omega) (by simp; omega)
        refine h7.to ?_
        rw [cutL_by d m x r g1 g2, Int.toNat_natCast, Int.toNat_natCast, extract_eq]
        have e3 : ((bytesOf s).take (i + 1)).drop (i + 1) = [] := by rw [List.drop_eq_nil_iff]; simp; omega
        rw [e3, hdP_nil (cutL_ne d m r)]
        simp [hdP]
      · have h7 := ih (n - 1) (by omega) r (i + 1) f acc (by omega) h3 (by omega) hf' (by omega) (by omega)
        refine h7.to ?_
        rw [e1, cutL_else d m x r g1 g2, hdP_hdP]
/-- The pieces of a text. -/
theorem specCut_ev (a b c d m : Int) (s : ByteArray) (hs : s.size ≤ 1048576) : Ev (fun k => F68.f k a b c d s m) ((cutL d m (bytesOf s)).map strOfNums) :=
  (specCut_loop a b c d m s hs _ _ 0 0 [] (Nat.le_refl _) rfl (by omega) (by omega) (by omega) (by simp)).to (by simp [hdP_nil (cutL_ne d m _)])

theorem specUn_loop (a b c d : Int) (s : ByteArray) (hs : s.size ≤ 1048576) : ∀ (n : Nat) (l : List Int) (i : Nat) (p : List Int), l.length ≤ n → (bytesOf s).drop i = l → i ≤ s.size → p.length ≤ i →
    Ev (fun k => F18.l0 k s p (i : Int) a b c d) (match unL a b c d l (i : Int) with | .inl q => ((⟨#[]⟩ : ByteArray), q, 3) | .inr t => (strOfNums (p ++ t), 0, 0)) := by
  intro n
  induction n using Nat.strongRecOn with
  | _ n ih =>
    intro l i p hn h hi hp
    match l, h, hn with
    | [], h, hn =>
      have h0 := drop_nil h
      exact Ev.step (fun k => F18.l0.eq_2 ..) (Ev.neg (by omega) (Ev.ret (by simp [unL])))
    | x :: r, h, hn =>
      obtain ⟨h1, h2, h3, h4, h5⟩ := drop_cons h
      have hw : wrap64 ((i : Int) + 1) = ((i + 1 : Nat) : Int) := by rw [wrap_id (by omega) (by omega)]; omega
      have hw2 : wrap64 (((i + 1 : Nat) : Int) + 1) = ((i + 2 : Nat) : Int) := by rw [wrap_id (by omega) (by omega)]; omega
      have hw3 : wrap64 (((i + 1 : Nat) : Int) - 1) = (i : Int) := by rw [wrap_id (by omega) (by omega)]; omega
      simp only [List.length_cons] at hn
      have plain : ownP a b c d x = false → Ev (fun k => if p.length < 140737488355328 then (F18.l0 k s (p ++ [x]) ((i + 1 : Nat) : Int) a b c d) else none) (match unL a b c d (x :: r) (i : Int) with | .inl q => ((⟨#[]⟩ : ByteArray), q, 3) | .inr t => (strOfNums (p ++ t), 0, 0)) := by
        intro ho
        refine Ev.pos (by omega) ?_
        have := ih (n - 1) (by omega) r (i + 1) (p ++ [x]) (by omega) h3 (by omega) (by simp; omega)
        refine this.to ?_
        rw [unL_plain a b c d x r (i : Int) ho, show ((i + 1 : Nat) : Int) = (i : Int) + 1 by omega]
        cases unL a b c d r ((i : Int) + 1) <;> simp
      have rel : x = d → Ev (fun k => if ((i + 1 : Nat) : Int) = (s.size : Int) then (some ((⟨#[]⟩ : ByteArray), (i : Int), 3)) else (if 0 ≤ ((i + 1 : Nat) : Int) then (if ((i + 1 : Nat) : Int) < (s.size : Int) then ((F62.f a b c d (bt s ((i + 1 : Nat) : Int))).bind fun t => (if t = true then (if p.length < 140737488355328 then (F18.l0 k s (p ++ [bt s ((i + 1 : Nat) : Int)]) ((i + 2 : Nat) : Int) a b c d) else (none)) else (some ((⟨#[]⟩ : ByteArray), (i : Int), 3)))) else (none)) else (none))) (match unL a b c d (x :: r) (i : Int) with | .inl q => ((⟨#[]⟩ : ByteArray), q, 3) | .inr t => (strOfNums (p ++ t), 0, 0)) := by
        intro g1
        have ho : ownP a b c d x = true := by rw [g1]; exact ownP_d a b c d
        match r, h3, hn, h with
        | [], h3, hn, h =>
          have := drop_nil h3
          exact Ev.pos (by omega) (Ev.ret (by simp [unL, ho]))
        | y :: r', h3, hn, h =>
          obtain ⟨g3, g4, g5, g6, g7⟩ := drop_cons h3
          simp only [List.length_cons] at hn
          refine Ev.neg (by omega) (Ev.pos (by omega) (Ev.pos (by omega) ?_))
          rw [g4]
          refine Ev.bindc (l01Own_eq a b c d y g6 g7) ?_
          refine Ev.ite (fun g8 => Ev.pos (by omega) ?_) (fun g8 => Ev.ret (by simp [unL, ho, g1, g8, ownP_d]))
          refine (ih (n - 2) (by omega) r' (i + 2) (p ++ [y]) (by omega) g5 (by omega) (by simp; omega)).to ?_
          simp only [unL, ho, g1, g8, if_true]
          rw [show ((i + 2 : Nat) : Int) = (i : Int) + 2 by omega, show ownP a b c d d = true from ownP_d a b c d]
          simp only [if_true]
          cases unL a b c d r' ((i : Int) + 2) <;> simp
      refine Ev.step (fun k => F18.l0.eq_2 ..) (Ev.pos h1 (Ev.pos (by omega) ?_))
      rw [h2, wrap_id (x := x) (by omega) (by omega), hw, hw2]
      refine Ev.bindc (l01Own_eq a b c d x h4 h5) (Ev.ite (fun ho => Ev.ite (fun g1 => rel g1) (fun g1 => Ev.ret ?_)) (fun ho => plain (by simpa using ho)))
      cases r <;> simp [unL, ho, g1]
theorem specUn_ev (a b c d : Int) (s : ByteArray) (hs : s.size ≤ 1048576) (hr : synP a b c d = true) (hl : ¬ (s.size : Int) > 20000) : Ev (fun k => F18.f k a b c d s) (match unL a b c d (bytesOf s) 0 with | .inl q => ((⟨#[]⟩ : ByteArray), q, 3) | .inr t => (strOfNums t, 0, 0)) := by
  unfold F18.f
  refine Ev.neg hl (Ev.bind (specSyntaxRight_ev a b c d) (Ev.pos hr ?_))
  refine (specUn_loop a b c d s hs _ _ 0 [] (Nat.le_refl _) rfl (by omega) (by simp)).to ?_
  rw [List.drop_zero]
  cases h : unL a b c d (bytesOf s) ((0 : Nat) : Int) <;> simp at h <;> simp [h]

theorem implCut_loop (a b c d m : Int) (s : ByteArray) (hs : s.size ≤ 1048576) : ∀ (n : Nat) (l : List Int) (i f : Nat) (acc : List ByteArray), l.length ≤ n → (bytesOf s).drop i = l → f ≤ i → f ≤ s.size → i ≤ s.size + 1 → acc.length ≤ i →
    Ev (fun k => F69.l0 k s m acc (f : Int) (i : Int) a b c d) (acc ++ (hdP (((bytesOf s).take i).drop f) (cutL d m l)).map strOfNums) := by
  have hend : ∀ (i f : Nat) (acc : List ByteArray), (bytesOf s).drop i = [] → f ≤ i → f ≤ s.size → i ≤ s.size + 1 → acc.length ≤ i → Ev (fun k => F69.l0 k s m acc (f : Int) (i : Int) a b c d) (acc ++ (hdP (((bytesOf s).take i).drop f) (cutL d m [])).map strOfNums) := by
    intro i f acc h hf hf' hi ha
    have h0 := drop_nil h
    refine Ev.step (fun k => F69.l0.eq_2 ..) (Ev.neg (by omega) (Ev.pos (by omega) (Ev.pos (by omega) (Ev.pos (by omega) (Ev.ret ?_)))))
    rw [Int.toNat_natCast, extract_eq]
    rw [List.take_of_length_le (by rw [length_bytesOf]; omega), List.take_of_length_le (by rw [length_bytesOf]; omega)]
    simp [hdP, cutL]
  intro n
  induction n using Nat.strongRecOn with
  | _ n ih =>
    intro l i f acc hn h hf hf' hi ha
    match l, h, hn with
    | [], h, hn => exact hend i f acc h hf hf' hi ha
    | x :: r, h, hn =>
      obtain ⟨h1, h2, h3, h4, h5⟩ := drop_cons h
      have hw : wrap64 ((i : Int) + 1) = ((i + 1 : Nat) : Int) := by rw [wrap_id (by omega) (by omega)]; omega
      have hw2 : wrap64 (((i + 1 : Nat) : Int) + 1) = ((i + 2 : Nat) : Int) := by rw [wrap_id (by omega) (by omega)]; omega
      simp only [List.length_cons] at hn
      refine Ev.step (fun k => F69.l0.eq_2 ..) ?_
      refine Ev.pos h1 ?_
      refine Ev.pos (Int.natCast_nonneg i) ?_
      rw [h2, wrap_id (x := x) (by omega) (by omega), hw, hw2]
      clear hw hw2
      have e1 := seg_take (bytesOf s) f i x r h hf
      refine Ev.ite (fun g1 => ?_) (fun g1 => Ev.ite (fun g2 => ?_) (fun g2 => ?_))
      · cases r with
        | nil =>
          have h6 : (bytesOf s).drop (i + 2) = [] := by
            have := drop_nil h3
            rw [List.drop_eq_nil_iff, length_bytesOf]; omega
          have h7 := hend (i + 2) f acc h6 (by omega) hf' (by omega) (by omega)
          refine h7.to ?_
          have e2 : (bytesOf s).take (i + 2) = (bytesOf s).take (i + 1) := by
            have := drop_nil h3
            rw [List.take_of_length_le (by rw [length_bytesOf]; omega), List.take_of_length_le (by rw [length_bytesOf]; omega)]
          rw [e2, e1]
          simp [cutL, g1, hdP]
        | cons y r' =>
          obtain ⟨g3, g4, g5, _, _⟩ := drop_cons h3
          simp only [List.length_cons] at hn
          have h7 := ih (n - 2) (by omega) r' (i + 2) f acc (by omega) g5 (by omega) hf' (by omega) (by omega)
          refine h7.to ?_
          have e2 := seg_take (bytesOf s) f (i + 1) y r' h3 (by omega)
          rw [e2, e1, cutL_rel d m x y r' g1, hdP_hdP]
          simp
      · refine Ev.pos (Int.natCast_nonneg f) ?_
        refine Ev.pos (show (f : Int) ≤ (i : Int) by omega) ?_
        refine Ev.pos (show (i : Int) ≤ (s.size : Int) by omega) ?_
        refine Ev.pos (show acc.length < 8796093022208 by omega) ?_
        have h7 := ih (n - 1) (by omega) r (i + 1) (i + 1) (acc ++ [s.extract (f : Int).toNat (i : Int).toNat]) (by omega) h3 (by omega) (by omega) (by omega) (by simp; omega)
        refine h7.to ?_
        rw [cutL_by d m x r g1 g2, Int.toNat_natCast, Int.toNat_natCast, extract_eq]
        have e3 : ((bytesOf s).take (i + 1)).drop (i + 1) = [] := by rw [List.drop_eq_nil_iff]; simp; omega
        rw [e3, hdP_nil (cutL_ne d m r)]
        simp [hdP]
      · have h7 := ih (n - 1) (by omega) r (i + 1) f acc (by omega) h3 (by omega) hf' (by omega) (by omega)
        refine h7.to ?_
        rw [e1, cutL_else d m x r g1 g2, hdP_hdP]
/-- The pieces of a text. -/
theorem implCut_ev (a b c d m : Int) (s : ByteArray) (hs : s.size ≤ 1048576) : Ev (fun k => F69.f k a b c d s m) ((cutL d m (bytesOf s)).map strOfNums) :=
  (implCut_loop a b c d m s hs _ _ 0 0 [] (Nat.le_refl _) rfl (by omega) (by omega) (by omega) (by simp)).to (by simp [hdP_nil (cutL_ne d m _)])

theorem implUn_loop (a b c d : Int) (s : ByteArray) (hs : s.size ≤ 1048576) : ∀ (n : Nat) (l : List Int) (i : Nat) (p : List Int), l.length ≤ n → (bytesOf s).drop i = l → i ≤ s.size → p.length ≤ i →
    Ev (fun k => F63.l0 k s p (i : Int) a b c d) (match unL a b c d l (i : Int) with | .inl q => ((⟨#[]⟩ : ByteArray), q) | .inr t => (strOfNums (p ++ t), (-1))) := by
  intro n
  induction n using Nat.strongRecOn with
  | _ n ih =>
    intro l i p hn h hi hp
    match l, h, hn with
    | [], h, hn =>
      have h0 := drop_nil h
      exact Ev.step (fun k => F63.l0.eq_2 ..) (Ev.neg (by omega) (Ev.ret (by simp [unL])))
    | x :: r, h, hn =>
      obtain ⟨h1, h2, h3, h4, h5⟩ := drop_cons h
      have hw : wrap64 ((i : Int) + 1) = ((i + 1 : Nat) : Int) := by rw [wrap_id (by omega) (by omega)]; omega
      have hw2 : wrap64 (((i + 1 : Nat) : Int) + 1) = ((i + 2 : Nat) : Int) := by rw [wrap_id (by omega) (by omega)]; omega
      have hw3 : wrap64 (((i + 1 : Nat) : Int) - 1) = (i : Int) := by rw [wrap_id (by omega) (by omega)]; omega
      simp only [List.length_cons] at hn
      have plain : ownP a b c d x = false → Ev (fun k => if p.length < 140737488355328 then (F63.l0 k s (p ++ [x]) ((i + 1 : Nat) : Int) a b c d) else none) (match unL a b c d (x :: r) (i : Int) with | .inl q => ((⟨#[]⟩ : ByteArray), q) | .inr t => (strOfNums (p ++ t), (-1))) := by
        intro ho
        refine Ev.pos (by omega) ?_
        have := ih (n - 1) (by omega) r (i + 1) (p ++ [x]) (by omega) h3 (by omega) (by simp; omega)
        refine this.to ?_
        rw [unL_plain a b c d x r (i : Int) ho, show ((i + 1 : Nat) : Int) = (i : Int) + 1 by omega]
        cases unL a b c d r ((i : Int) + 1) <;> simp
      have rel : x = d → Ev (fun k => if ((i + 1 : Nat) : Int) = (s.size : Int) then (some ((⟨#[]⟩ : ByteArray), (i : Int))) else (if 0 ≤ ((i + 1 : Nat) : Int) then (if ((i + 1 : Nat) : Int) < (s.size : Int) then ((F106.f k a b c d (bt s ((i + 1 : Nat) : Int))).bind fun t => (if t = true then (if p.length < 140737488355328 then (F63.l0 k s (p ++ [bt s ((i + 1 : Nat) : Int)]) ((i + 2 : Nat) : Int) a b c d) else (none)) else (some ((⟨#[]⟩ : ByteArray), (i : Int))))) else (none)) else (none))) (match unL a b c d (x :: r) (i : Int) with | .inl q => ((⟨#[]⟩ : ByteArray), q) | .inr t => (strOfNums (p ++ t), (-1))) := by
        intro g1
        have ho : ownP a b c d x = true := by rw [g1]; exact ownP_d a b c d
        match r, h3, hn, h with
        | [], h3, hn, h =>
          have := drop_nil h3
          exact Ev.pos (by omega) (Ev.ret (by simp [unL, ho]))
        | y :: r', h3, hn, h =>
          obtain ⟨g3, g4, g5, g6, g7⟩ := drop_cons h3
          simp only [List.length_cons] at hn
          refine Ev.neg (by omega) (Ev.pos (by omega) (Ev.pos (by omega) ?_))
          rw [g4]
          refine Ev.bind (isOne_ev a b c d y g6 g7) ?_
          refine Ev.ite (fun g8 => Ev.pos (by omega) ?_) (fun g8 => Ev.ret (by simp [unL, ho, g1, g8, ownP_d]))
          refine (ih (n - 2) (by omega) r' (i + 2) (p ++ [y]) (by omega) g5 (by omega) (by simp; omega)).to ?_
          simp only [unL, ho, g1, g8, if_true]
          rw [show ((i + 2 : Nat) : Int) = (i : Int) + 2 by omega, show ownP a b c d d = true from ownP_d a b c d]
          simp only [if_true]
          cases unL a b c d r' ((i : Int) + 2) <;> simp
      refine Ev.step (fun k => F63.l0.eq_2 ..) (Ev.pos h1 (Ev.pos (by omega) ?_))
      rw [h2, wrap_id (x := x) (by omega) (by omega), hw, hw2, hw3]
      refine Ev.ite (fun g1 => rel g1) (fun g1 => Ev.bind (isOne_ev a b c d x h4 h5) (Ev.ite (fun ho => Ev.ret ?_) (fun ho => plain (by simpa using ho))))
      cases r <;> simp [unL, ho, g1]
theorem implUn_ev (a b c d : Int) (s : ByteArray) (hs : s.size ≤ 1048576) : Ev (fun k => F63.f k a b c d s) (match unL a b c d (bytesOf s) 0 with | .inl q => ((⟨#[]⟩ : ByteArray), q) | .inr t => (strOfNums t, (-1))) := by
  refine (implUn_loop a b c d s hs _ _ 0 [] (Nat.le_refl _) rfl (by omega) (by simp)).to ?_
  rw [List.drop_zero]
  cases h : unL a b c d (bytesOf s) ((0 : Nat) : Int) <;> simp at h <;> simp [h]
theorem unL_at (a b c d : Int) : ∀ (n : Nat) (l : List Int) (i q : Int), l.length ≤ n → unL a b c d l i = .inl q → i ≤ q ∧ q < i + (l.length : Int) := by
  intro n
  induction n using Nat.strongRecOn with
  | _ n ih =>
    intro l i q hn h
    match l, h, hn with
    | [], h, hn => simp [unL] at h
    | [x], h, hn =>
      simp only [unL] at h
      split at h
      · have : i = q := by simpa using h
        subst this; simp; omega
      · simp at h
    | x :: y :: r, h, hn =>
      simp only [List.length_cons] at hn ⊢
      simp only [unL] at h
      have hin : ∀ {z : Int}, (Sum.inl z : Int ⊕ List Int) = .inl q → z = q := fun e => by simpa using e
      split at h
      · split at h
        · split at h
          · cases h2 : unL a b c d r (i + 2) with
            | inl z =>
              rw [h2] at h
              have := ih (n - 2) (by omega) r (i + 2) z (by omega) h2
              have hz : z = q := by simpa using h
              omega
            | inr t => rw [h2] at h; simp at h
          · have := hin h; omega
        · have := hin h; omega
      · cases h2 : unL a b c d (y :: r) (i + 1) with
        | inl z =>
          rw [h2] at h
          have h3 := ih (n - 1) (by omega) (y :: r) (i + 1) z (by simp; omega) h2
          simp only [List.length_cons] at h3
          have hz : z = q := by simpa using h
          omega
        | inr t => rw [h2] at h; simp at h

/-- A text with what releases ahead of each of the four. -/
def escL (a b c d : Int) : List Int → List Int
  | [] => []
  | x :: r => if ownP a b c d x then d % 256 :: x :: escL a b c d r else x :: escL a b c d r
theorem escL_length (a b c d : Int) : ∀ l : List Int, (escL a b c d l).length ≤ 2 * l.length
  | [] => by simp [escL]
  | x :: r => by
    have := escL_length a b c d r
    unfold escL
    split <;> simp <;> omega

/-- A text that has its releases, ahead of what is cut. -/
theorem cut_esc (a b c d m : Int) (hd : m ≠ d) (h2d : d % 256 = d) (hm : ownP a b c d m = true) (rest : List Int) (h : List Int) (t : List (List Int)) (he : cutL d m rest = h :: t) : ∀ l : List Int, cutL d m (escL a b c d l ++ rest) = (escL a b c d l ++ h) :: t
  | [] => by simpa [escL] using he
  | x :: r => by
    have ih := cut_esc a b c d m hd h2d hm rest h t he r
    unfold escL
    split
    · rw [List.cons_append, List.cons_append, cutL_rel d m _ _ _ h2d, ih]
      rfl
    · rename_i ho
      have h1 : x ≠ d := fun e => ho (by rw [e]; exact ownP_d a b c d)
      have h2 : x ≠ m := fun e => ho (by rw [e]; exact hm)
      rw [List.cons_append, cutL_else d m x _ h1 h2, ih]
      rfl
theorem un_esc (a b c d : Int) (h2d : d % 256 = d) : ∀ (l : List Int) (i : Int), unL a b c d (escL a b c d l) i = .inr l
  | [], i => rfl
  | x :: r, i => by
    unfold escL
    split
    · rename_i ho
      have := un_esc a b c d h2d r (i + 2)
      rw [h2d]
      simp only [unL, ownP_d, if_true, ho, this]
      rfl
    · rename_i ho
      rw [unL_plain a b c d x _ i (by simpa using ho), un_esc a b c d h2d r (i + 1)]
      rfl
theorem esc_mem (a b c d : Int) {y : Int} : ∀ l : List Int, y ∈ escL a b c d l → y = d % 256 ∨ y ∈ l
  | x :: r, h => by
    unfold escL at h
    split at h
    · simp only [List.mem_cons] at h ⊢
      rcases h with h | h | h
      · exact .inl h
      · exact .inr (.inl h)
      · rcases esc_mem a b c d r h with e | e
        · exact .inl e
        · exact .inr (.inr e)
    · simp only [List.mem_cons] at h ⊢
      rcases h with h | h
      · exact .inr (.inl h)
      · rcases esc_mem a b c d r h with e | e
        · exact .inl e
        · exact .inr (.inr e)

/-! parts of a segment: printed, at most forty; a tag: three great letters -/
def printB (c : Int) : Bool := decide (32 ≤ c ∧ c ≤ 126)
def partB (s : ByteArray) : Bool := decide (s.size ≤ 40) && (bytesOf s).all printB
def tagB (s : ByteArray) : Bool := decide (s.size = 3) && (bytesOf s).all great
theorem specPart_loop (s : ByteArray) (hs : s.size ≤ 1048576) : ∀ (l : List Int) (i : Nat), (bytesOf s).drop i = l → Ev (fun k => F76.l0 k s (i : Int)) (l.all printB) := by
  intro l
  induction l with
  | nil =>
    intro i h
    have h0 := drop_nil h
    exact Ev.step (fun k => F76.l0.eq_2 ..) (Ev.neg (by omega) (Ev.now _))
  | cons c r ih =>
    intro i h
    obtain ⟨h1, h2, h3, h4, h5⟩ := drop_cons h
    refine Ev.step (fun k => F76.l0.eq_2 ..) (Ev.pos h1 (Ev.pos (by omega) ?_))
    rw [h2, wrap_id (x := (i : Int) + 1) (by omega) (by omega), show (i : Int) + 1 = ((i + 1 : Nat) : Int) by omega]
    refine Ev.ite (fun g => Ev.ret ?_) (fun g => Ev.ite (fun g2 => Ev.ret ?_) (fun g2 => (ih (i + 1) h3).to ?_))
    · have : printB c = false := by simp [printB]; omega
      simp [this]
    · have : printB c = false := by simp [printB]; omega
      simp [this]
    · have : printB c = true := by simp [printB]; omega
      simp [this]
theorem specPart_ev (s : ByteArray) (hs : s.size ≤ 1048576) : Ev (fun k => F76.f k s) (partB s) := by
  unfold F76.f
  refine Ev.ite (fun g => Ev.ret ?_) (fun g => (specPart_loop s hs _ 0 rfl).to ?_)
  · have : decide (s.size ≤ 40) = false := by simp; omega
    simp [partB, this]
  · have : decide (s.size ≤ 40) = true := by simp; omega
    simp [partB, this]
theorem implPrinted_loop (s : ByteArray) (hs : s.size ≤ 1048576) : ∀ (l : List Int) (i : Nat), (bytesOf s).drop i = l → Ev (fun k => F112.l0 k s (s.size : Int) (i : Int)) (l.all printB) := by
  intro l
  induction l with
  | nil =>
    intro i h
    have h0 := drop_nil h
    exact Ev.step (fun k => F112.l0.eq_2 ..) (Ev.neg (by omega) (Ev.now _))
  | cons c r ih =>
    intro i h
    obtain ⟨h1, h2, h3, h4, h5⟩ := drop_cons h
    refine Ev.step (fun k => F112.l0.eq_2 ..) (Ev.pos h1 (Ev.pos (by omega) (Ev.pos h1 ?_)))
    rw [h2, wrap_id (x := (i : Int) + 1) (by omega) (by omega), show (i : Int) + 1 = ((i + 1 : Nat) : Int) by omega]
    refine Ev.ite (fun g => Ev.ret ?_) (fun g => Ev.ite (fun g2 => Ev.ret ?_) (fun g2 => (ih (i + 1) h3).to ?_))
    · have : printB c = false := by simp [printB]; omega
      simp [this]
    · have : printB c = false := by simp [printB]; omega
      simp [this]
    · have : printB c = true := by simp [printB]; omega
      simp [this]
theorem implPart_ev (s : ByteArray) (hs : s.size ≤ 1048576) : Ev (fun k => F82.f k s) (partB s) := by
  unfold F82.f
  refine Ev.ite (fun g => ?_) (fun g => Ev.ret ?_)
  · have h2 : decide (s.size ≤ 40) = true := by simp; omega
    refine Ev.bind (show Ev (fun k => F112.f k s) ((bytesOf s).all printB) from implPrinted_loop s hs _ 0 rfl) (Ev.ret ?_)
    simp [partB, h2]
  · have : decide (s.size ≤ 40) = false := by simp; omega
    simp [partB, this]
theorem specTag_loop (s : ByteArray) (hs : s.size = 3) : ∀ (l : List Int) (i : Nat), (bytesOf s).drop i = l → Ev (fun k => F75.l0 k s (i : Int)) (l.all great) := by
  intro l
  induction l with
  | nil =>
    intro i h
    have h0 := drop_nil h
    exact Ev.step (fun k => F75.l0.eq_2 ..) (Ev.neg (by omega) (Ev.now _))
  | cons c r ih =>
    intro i h
    obtain ⟨h1, h2, h3, h4, h5⟩ := drop_cons h
    refine Ev.step (fun k => F75.l0.eq_2 ..) (Ev.pos (by omega) (Ev.pos (by omega) (Ev.pos h1 ?_)))
    rw [h2, wrap_id (x := (i : Int) + 1) (by omega) (by omega), show (i : Int) + 1 = ((i + 1 : Nat) : Int) by omega]
    refine Ev.ite (fun g => Ev.ret ?_) (fun g => Ev.ite (fun g2 => Ev.ret ?_) (fun g2 => (ih (i + 1) h3).to ?_))
    · have : great c = false := by simp [great]; omega
      simp [this]
    · have : great c = false := by simp [great]; omega
      simp [this]
    · have : great c = true := by simp [great]; omega
      simp [this]
theorem specTag_ev (s : ByteArray) : Ev (fun k => F75.f k s) (tagB s) := by
  unfold F75.f
  refine Ev.ite (fun g => (specTag_loop s (by omega) _ 0 rfl).to ?_) (fun g => Ev.ret ?_)
  · have : decide (s.size = 3) = true := by simp; omega
    simp [tagB, this]
  · have : decide (s.size = 3) = false := by simp; omega
    simp [tagB, this]
theorem isTag_eq (s : ByteArray) : F83.f s = some (tagB s) := by
  unfold F83.f
  by_cases h : s.size = 3
  · obtain ⟨a, b, c, hb⟩ : ∃ a b c, bytesOf s = [a, b, c] := by
      have := length_bytesOf s
      rw [h] at this
      match bytesOf s, this with
      | [a, b, c], _ => exact ⟨a, b, c, rfl⟩
    obtain ⟨h0, e0, d0, _⟩ := drop_cons (i := 0) (s := s) (c := a) (r := [b, c]) (by simpa using hb)
    obtain ⟨h1, e1, d1, _⟩ := drop_cons (i := 1) (s := s) d0
    obtain ⟨h2, e2, d2, _⟩ := drop_cons (i := 2) (s := s) d1
    have e0 : bt s 0 = a := e0
    have e1 : bt s 1 = b := e1
    have e2 : bt s 2 = c := e2
    rw [if_pos (by omega), if_pos (by omega), if_pos (by omega), if_pos (by omega), e0, e1, e2, isGreat_eq, isGreat_eq, isGreat_eq]
    have : decide (s.size = 3) = true := by simpa using h
    cases ha : great a <;> cases hb2 : great b <;> simp [tagB, this, hb, ha, hb2]
  · rw [if_neg (by omega)]
    have : decide (s.size = 3) = false := by simpa using h
    simp [tagB, this]

/-! an element is empty -/
def lastE (p : List ByteArray) : Bool := ((rdOf ByteArray.empty p (wrap64 ((p.length : Int) - 1))).toList == ([] : List UInt8))
def emptyE (p : List ByteArray) : Bool := decide (p.length = 1) && lastE p
theorem l02Empty_eq (p : List ByteArray) : F77.f p = some (emptyE p) := by
  unfold F77.f emptyE
  by_cases h : p.length = 1
  · rw [if_pos (by omega), if_pos (by omega)]
    have hw : wrap64 ((p.length : Int) - 1) = 0 := by rw [wrap_id (by omega) (by omega)]; omega
    unfold lastE
    rw [hw]
    simp [h]
  · rw [if_neg (by omega)]
    simp [h]

/-! what a cut goes through -/
def Tr (d m : Int) (v : List Int) : Prop := ∀ (rest h : List Int) (t : List (List Int)), cutL d m rest = h :: t → cutL d m (v ++ rest) = (v ++ h) :: t
theorem Tr.nil (d m : Int) : Tr d m [] := fun _ _ _ h => h
theorem Tr.app {d m : Int} {u v : List Int} (hu : Tr d m u) (hv : Tr d m v) : Tr d m (u ++ v) := by
  intro rest h t he
  rw [List.append_assoc, hu _ _ _ (hv _ _ _ he), List.append_assoc]
theorem Tr.one {d m x : Int} (h1 : x ≠ d) (h2 : x ≠ m) : Tr d m [x] := by
  intro rest h t he
  rw [List.singleton_append, cutL_else d m x rest h1 h2, he]
  rfl
theorem Tr.cons {d m x : Int} {v : List Int} (h1 : x ≠ d) (h2 : x ≠ m) (hv : Tr d m v) : Tr d m (x :: v) := Tr.app (u := [x]) (Tr.one h1 h2) hv
theorem Tr.all {d m : Int} : ∀ l : List Int, (∀ x ∈ l, x ≠ d ∧ x ≠ m) → Tr d m l
  | [], _ => Tr.nil d m
  | x :: r, h => Tr.cons (h x (by simp)).1 (h x (by simp)).2 (Tr.all r (fun y hy => h y (by simp [hy])))
theorem Tr.esc (a b c d m : Int) (hd : m ≠ d) (h2d : d % 256 = d) (hm : ownP a b c d m = true) (l : List Int) : Tr d m (escL a b c d l) := fun rest h t he => cut_esc a b c d m hd h2d hm rest h t he l
theorem Tr.done {d m : Int} {v : List Int} (h : Tr d m v) : cutL d m v = [v] := by
  have := h [] [] [] (by simp [cutL])
  simpa using this
theorem Tr.by {d m : Int} {v : List Int} (h : Tr d m v) (hd : m ≠ d) (rest : List Int) : cutL d m (v ++ m :: rest) = v :: cutL d m rest := by
  have := h (m :: rest) [] _ (cutL_by d m m rest hd rfl)
  simpa using this
/-! the text of a segment, as a list -/
def partsT (a b c d : Int) : Bool → List ByteArray → List Int
  | _, [] => []
  | f, q :: r => (if f then [] else [c]) ++ (escL a b c d (bytesOf q) ++ partsT a b c d false r)
def elsT (a b c d : Int) : List S102 → List Int
  | [] => []
  | e :: r => b :: (partsT a b c d true e.f0 ++ elsT a b c d r)
def segBody (a b c d : Int) (s : ByteArray) (L : List S102) : List Int := bytesOf s ++ elsT a b c d L
def segT (a b c d : Int) (s : ByteArray) (L : List S102) : List Int := segBody a b c d s L ++ [a]
/-- What holds of the four of a right syntax. -/
structure Four (a b c d : Int) : Prop where
  ma : 33 ≤ a ∧ a ≤ 126 ∧ ¬ (65 ≤ a ∧ a ≤ 90)
  mb : 33 ≤ b ∧ b ≤ 126 ∧ ¬ (65 ≤ b ∧ b ≤ 90)
  mc : 33 ≤ c ∧ c ≤ 126 ∧ ¬ (65 ≤ c ∧ c ≤ 90)
  md : 33 ≤ d ∧ d ≤ 126 ∧ ¬ (65 ≤ d ∧ d ≤ 90)
  ne : a ≠ b ∧ a ≠ c ∧ b ≠ c ∧ a ≠ d ∧ b ≠ d ∧ c ≠ d
theorem four_of {a b c d : Int} (h : synP a b c d = true) : Four a b c d := by
  obtain ⟨ma, mb, mc, md, h1, h2, h3, h4, h5, h6⟩ := synP_iff.1 h
  have xa := markP_iff.1 ma
  have xb := markP_iff.1 mb
  have xc := markP_iff.1 mc
  have xd := markP_iff.1 md
  exact ⟨⟨xa.1, xa.2.1, xa.2.2.2.1⟩, ⟨xb.1, xb.2.1, xb.2.2.2.1⟩, ⟨xc.1, xc.2.1, xc.2.2.2.1⟩, ⟨xd.1, xd.2.1, xd.2.2.2.1⟩, h1, h2, h3, h4, h5, h6⟩
theorem Four.a256 {a b c d : Int} (h : Four a b c d) : a % 256 = a := by have := h.ma; omega
theorem Four.b256 {a b c d : Int} (h : Four a b c d) : b % 256 = b := by have := h.mb; omega
theorem Four.c256 {a b c d : Int} (h : Four a b c d) : c % 256 = c := by have := h.mc; omega
theorem Four.d256 {a b c d : Int} (h : Four a b c d) : d % 256 = d := by have := h.md; omega
theorem esc_rng {a b c d : Int} (h : Four a b c d) (q : ByteArray) : ∀ y ∈ escL a b c d (bytesOf q), 0 ≤ y ∧ y ≤ 255 := by
  intro y hy
  rcases esc_mem a b c d _ hy with e | e
  · have := h.d256; have := h.md; omega
  · exact mem_bytesOf e
theorem parts_rng {a b c d : Int} (h : Four a b c d) : ∀ (p : List ByteArray) (f : Bool), ∀ y ∈ partsT a b c d f p, 0 ≤ y ∧ y ≤ 255
  | [], f, y, hy => by simp [partsT] at hy
  | q :: r, f, y, hy => by
    unfold partsT at hy
    rcases List.mem_append.1 hy with e | e
    · cases f <;> simp at e
      have := h.mc; omega
    · rcases List.mem_append.1 e with e | e
      · exact esc_rng h q y e
      · exact parts_rng h r false y e
theorem els_rng {a b c d : Int} (h : Four a b c d) : ∀ (L : List S102), ∀ y ∈ elsT a b c d L, 0 ≤ y ∧ y ≤ 255
  | [], y, hy => by simp [elsT] at hy
  | e :: r, y, hy => by
    unfold elsT at hy
    rcases List.mem_cons.1 hy with x | x
    · have := h.mb; omega
    · rcases List.mem_append.1 x with x | x
      · exact parts_rng h _ _ y x
      · exact els_rng h r y x
theorem body_rng {a b c d : Int} (h : Four a b c d) (s : ByteArray) (L : List S102) : ∀ y ∈ segBody a b c d s L, 0 ≤ y ∧ y ≤ 255 := by
  intro y hy
  rcases List.mem_append.1 hy with e | e
  · exact mem_bytesOf e
  · exact els_rng h L y e
theorem seg_rng {a b c d : Int} (h : Four a b c d) (s : ByteArray) (L : List S102) : ∀ y ∈ segT a b c d s L, 0 ≤ y ∧ y ≤ 255 := by
  intro y hy
  rcases List.mem_append.1 hy with e | e
  · exact body_rng h s L y e
  · simp at e; have := h.ma; omega
/-- Parts are gone through by a cut at another mark. -/
theorem parts_tr {a b c d m : Int} (h : Four a b c d) (hm : m = a ∨ m = b) : ∀ (p : List ByteArray) (f : Bool), Tr d m (partsT a b c d f p)
  | [], f => Tr.nil d m
  | q :: r, f => by
    have hmd : m ≠ d := by have := h.ne; omega
    have hcm : c ≠ m := by have := h.ne; omega
    have ho : ownP a b c d m = true := by simp [ownP]; omega
    unfold partsT
    refine Tr.app ?_ (Tr.app (Tr.esc a b c d m hmd h.d256 ho _) (parts_tr h hm r false))
    cases f
    · exact Tr.one (by have := h.ne; omega) hcm
    · exact Tr.nil d m
theorem els_tr {a b c d : Int} (h : Four a b c d) : ∀ L : List S102, Tr d a (elsT a b c d L)
  | [] => Tr.nil d a
  | e :: r => by
    unfold elsT
    exact Tr.cons (by have := h.ne; omega) (by have := h.ne; omega) (Tr.app (parts_tr h (.inl rfl) e.f0 true) (els_tr h r))
theorem tag_tr {a b c d m : Int} (h : Four a b c d) (hm : m = a ∨ m = b ∨ m = c) {s : ByteArray} (hs : tagB s = true) : Tr d m (bytesOf s) := by
  refine Tr.all _ (fun x hx => ?_)
  simp only [tagB, Bool.and_eq_true, List.all_eq_true] at hs
  have hg := hs.2 x hx
  simp only [great, decide_eq_true_eq] at hg
  have h1 := h.ma.2.2; have h2 := h.mb.2.2; have h3 := h.mc.2.2; have h4 := h.md.2.2
  omega
/-- A text that begins with a right segment's is cut at its end. -/
theorem cut_seg {a b c d : Int} (h : Four a b c d) {s : ByteArray} (hs : tagB s = true) (L : List S102) (rest : List Int) : cutL d a (segT a b c d s L ++ rest) = segBody a b c d s L :: cutL d a rest := by
  unfold segT
  rw [List.append_assoc]
  exact Tr.by (Tr.app (tag_tr h (.inl rfl) hs) (els_tr h L)) (by have := h.ne; omega) rest
theorem cut_els {a b c d : Int} (h : Four a b c d) : ∀ (L : List S102) (v : List Int), Tr d b v → cutL d b (v ++ elsT a b c d L) = v :: L.map (fun e => partsT a b c d true e.f0)
  | [], v, hv => by simpa [elsT] using hv.done
  | e :: r, v, hv => by
    unfold elsT
    rw [Tr.by hv (by have := h.ne; omega), cut_els h r _ (parts_tr h (.inr rfl) e.f0 true)]
    rfl
theorem cut_body {a b c d : Int} (h : Four a b c d) {s : ByteArray} (hs : tagB s = true) (L : List S102) : cutL d b (segBody a b c d s L) = bytesOf s :: L.map (fun e => partsT a b c d true e.f0) := cut_els h L _ (tag_tr h (.inr (.inl rfl)) hs)
theorem cut_partsF {a b c d : Int} (h : Four a b c d) : ∀ (r : List ByteArray) (v : List Int), Tr d c v → cutL d c (v ++ partsT a b c d false r) = v :: r.map (fun q => escL a b c d (bytesOf q))
  | [], v, hv => by simpa [partsT] using hv.done
  | q :: r, v, hv => by
    have ho : ownP a b c d c = true := by simp [ownP]
    unfold partsT
    simp only [Bool.false_eq_true, if_false, List.singleton_append]
    rw [Tr.by hv (by have := h.ne; omega), cut_partsF h r _ (Tr.esc a b c d c (by have := h.ne; omega) h.d256 ho _)]
    rfl
theorem cut_parts {a b c d : Int} (h : Four a b c d) (q : ByteArray) (r : List ByteArray) : cutL d c (partsT a b c d true (q :: r)) = (q :: r).map (fun q => escL a b c d (bytesOf q)) := by
  have ho : ownP a b c d c = true := by simp [ownP]
  unfold partsT
  simp only [if_true, List.nil_append]
  exact cut_partsF h r _ (Tr.esc a b c d c (by have := h.ne; omega) h.d256 ho _)
theorem parts_len (a b c d : Int) : ∀ (p : List ByteArray) (f : Bool), (∀ q ∈ p, q.size ≤ 40) → (partsT a b c d f p).length ≤ 81 * p.length
  | [], f, _ => by simp [partsT]
  | q :: r, f, h => by
    have h1 := parts_len a b c d r false (fun x hx => h x (by simp [hx]))
    have h2 := escL_length a b c d (bytesOf q)
    rw [length_bytesOf] at h2
    have h3 := h q (by simp)
    unfold partsT
    cases f <;> simp only [List.length_append, List.length_cons, List.length_nil, Bool.false_eq_true, if_false, if_true] <;> omega
theorem els_len (a b c d : Int) : ∀ (L : List S102), (∀ e ∈ L, e.f0.length ≤ 4 ∧ ∀ q ∈ e.f0, q.size ≤ 40) → (elsT a b c d L).length ≤ 325 * L.length
  | [], _ => by simp [elsT]
  | e :: r, h => by
    have h1 := els_len a b c d r (fun x hx => h x (by simp [hx]))
    have h2 := parts_len a b c d e.f0 true (h e (by simp)).2
    have h3 := (h e (by simp)).1
    unfold elsT
    simp only [List.length_append, List.length_cons]
    omega

/-! segments that are read -/
def partsR (a b c d : Int) : List (List Int) → Int → Int ⊕ List ByteArray
  | [], _ => .inr []
  | p :: r, pl => match unL a b c d p 0 with
    | .inl q => .inl (pl + q)
    | .inr t => if partB (strOfNums t) then (match partsR a b c d r (pl + (p.length : Int) + 1) with | .inl q => .inl q | .inr l => .inr (strOfNums t :: l)) else .inl pl
def elR (a b c d : Int) (t : List Int) (at_ : Int) : Int ⊕ List ByteArray :=
  if (cutL d c t).length > 4 then .inl at_ else match partsR a b c d (cutL d c t) at_ with
    | .inl q => .inl q
    | .inr l => if (cutL d c t).length > 1 ∧ lastE l = true then .inl at_ else .inr l
def elsR (a b c d : Int) : Nat → List (List Int) → Int → Int ⊕ List S102
  | _, [], _ => .inr []
  | i, p :: r, at_ => if i = 10 then .inl at_ else match elR a b c d p at_ with
    | .inl q => .inl q
    | .inr l => if r = [] ∧ emptyE l = true then .inl at_ else (match elsR a b c d (i + 1) r (at_ + (p.length : Int) + 1) with | .inl q => .inl q | .inr L => .inr (⟨l⟩ :: L))
def segR (a b c d : Int) (t : List Int) : ByteArray × (List S102) × Int × Int × Int :=
  if t = [] then ((⟨#[]⟩ : ByteArray), [], 0, 0, 6) else
  match cutL d a t with
  | h :: _ :: _ => (match cutL d b h with
    | g :: r => if tagB (strOfNums g) then (match elsR a b c d 0 r ((g.length : Int) + 1) with | .inl q => ((⟨#[]⟩ : ByteArray), [], 0, q, 3) | .inr L => (strOfNums g, L, (h.length : Int) + 1, 0, 0)) else ((⟨#[]⟩ : ByteArray), [], 0, 0, 3)
    | [] => ((⟨#[]⟩ : ByteArray), [], 0, 0, 3))
  | _ => ((⟨#[]⟩ : ByteArray), [], 0, 0, 4)
theorem hdP_len (v : List Int) (L : List (List Int)) (h : L ≠ []) : ∀ p ∈ hdP v L, ∃ q ∈ L, p = q ∨ p = v ++ q := by
  cases L with
  | nil => exact absurd rfl h
  | cons x t =>
    intro p hp
    simp only [hdP, List.mem_cons] at hp
    rcases hp with h | h
    · exact ⟨x, by simp, .inr h⟩
    · exact ⟨p, by simp [h], .inl rfl⟩
/-- How long the pieces are, all together. -/
def tot : List (List Int) → Nat
  | [] => 0
  | h :: t => h.length + 1 + tot t
theorem tot_hdP (v : List Int) (L : List (List Int)) (h : L ≠ []) : tot (hdP v L) = v.length + tot L := by
  cases L with
  | nil => exact absurd rfl h
  | cons x t => simp [hdP, tot]; omega
theorem tot_cut (d m : Int) : ∀ (n : Nat) (l : List Int), l.length ≤ n → tot (cutL d m l) = l.length + 1 := by
  intro n
  induction n using Nat.strongRecOn with
  | _ n ih =>
    intro l hn
    match l, hn with
    | [], _ => simp [cutL, tot]
    | [x], _ =>
      unfold cutL
      split
      · simp [tot]
      · split <;> simp [tot]
    | x :: y :: r, hn =>
      simp only [List.length_cons] at hn ⊢
      unfold cutL
      split
      · rw [tot_hdP _ _ (cutL_ne d m r), ih (n - 2) (by omega) r (by omega)]
        simp; omega
      · split
        · simp only [tot, List.length_nil]
          rw [ih (n - 1) (by omega) (y :: r) (by simp; omega)]
          simp; omega
        · rw [tot_hdP _ _ (cutL_ne d m (y :: r)), ih (n - 1) (by omega) (y :: r) (by simp; omega)]
          simp; omega
theorem tot_mem {p : List Int} : ∀ {L : List (List Int)}, p ∈ L → p.length + 1 ≤ tot L
  | h :: t, hp => by
    simp only [tot]
    rcases List.mem_cons.1 hp with e | e
    · subst e; omega
    · have := tot_mem e; omega
theorem tot_len : ∀ L : List (List Int), L.length ≤ tot L
  | [] => by simp [tot]
  | h :: t => by have := tot_len t; simp [tot]; omega
theorem cut_mem (d m : Int) {c : Int} : ∀ (n : Nat) (l : List Int), l.length ≤ n → ∀ p ∈ cutL d m l, c ∈ p → c ∈ l := by
  intro n
  induction n using Nat.strongRecOn with
  | _ n ih =>
    intro l hn p hp hc
    match l, hn with
    | [], _ => simp [cutL] at hp; subst hp; simp at hc
    | [x], _ =>
      unfold cutL at hp
      split at hp
      · simp at hp; subst hp; exact hc
      · split at hp <;> simp at hp <;> (try subst hp) <;> simp_all
    | x :: y :: r, hn =>
      simp only [List.length_cons] at hn
      unfold cutL at hp
      split at hp
      · obtain ⟨q, hq, e⟩ := hdP_len _ _ (cutL_ne d m r) p hp
        have := ih (n - 2) (by omega) r (by omega) q hq
        rcases e with e | e <;> subst e
        · simp [this hc]
        · rcases List.mem_append.1 hc with h | h
          · simp at h; rcases h with h | h <;> simp [h]
          · simp [this h]
      · split at hp
        · rcases List.mem_cons.1 hp with e | e
          · subst e; simp at hc
          · have := ih (n - 1) (by omega) (y :: r) (by simp; omega) p e hc
            exact List.mem_cons_of_mem _ this
        · obtain ⟨q, hq, e⟩ := hdP_len _ _ (cutL_ne d m (y :: r)) p hp
          have := ih (n - 1) (by omega) (y :: r) (by simp; omega) q hq
          rcases e with e | e <;> subst e
          · exact List.mem_cons_of_mem _ (this hc)
          · rcases List.mem_append.1 hc with h | h
            · simp at h; simp [h]
            · exact List.mem_cons_of_mem _ (this h)
/-- The pieces of a text, as texts: their bytes. -/
theorem cut_bytes (d m : Int) (s : ByteArray) : ((cutL d m (bytesOf s)).map strOfNums).map bytesOf = cutL d m (bytesOf s) := by
  rw [List.map_map]
  have : ∀ p ∈ cutL d m (bytesOf s), (bytesOf ∘ strOfNums) p = p := by
    intro p hp
    exact bytesOf_strOf p (fun x hx => mem_bytesOf (cut_mem d m _ _ (Nat.le_refl _) p hp hx))
  rw [List.map_congr_left this]
  exact List.map_id' _
theorem unL_len (a b c d : Int) : ∀ (n : Nat) (l : List Int) (i : Int) (t : List Int), l.length ≤ n → unL a b c d l i = .inr t → t.length ≤ l.length := by
  intro n
  induction n using Nat.strongRecOn with
  | _ n ih =>
    intro l i t hn h
    match l, h, hn with
    | [], h, hn => simp [unL] at h; subst h; simp
    | [x], h, hn =>
      simp only [unL] at h
      split at h
      · simp at h
      · have : [x] = t := by simpa using h
        subst this; simp
    | x :: y :: r, h, hn =>
      simp only [List.length_cons] at hn ⊢
      simp only [unL] at h
      split at h
      · split at h
        · split at h
          · cases h2 : unL a b c d r (i + 2) with
            | inl z => rw [h2] at h; simp at h
            | inr u =>
              rw [h2] at h
              have := ih (n - 2) (by omega) r (i + 2) u (by omega) h2
              have e : y :: u = t := by simpa using h
              subst e; simp; omega
          · simp at h
        · simp at h
      · cases h2 : unL a b c d (y :: r) (i + 1) with
        | inl z => rw [h2] at h; simp at h
        | inr u =>
          rw [h2] at h
          have := ih (n - 1) (by omega) (y :: r) (i + 1) u (by simp; omega) h2
          have e : x :: u = t := by simpa using h
          subst e
          simp only [List.length_cons] at this ⊢
          omega
theorem partsR_at (a b c d : Int) : ∀ (P : List (List Int)) (pl q : Int), partsR a b c d P pl = .inl q → pl ≤ q ∧ q ≤ pl + (tot P : Int)
  | [], pl, q, h => by simp [partsR] at h
  | p :: r, pl, q, h => by
    simp only [partsR] at h
    simp only [tot]
    cases hu : unL a b c d p 0 with
    | inl z =>
      rw [hu] at h
      have h1 := unL_at a b c d _ p 0 z (Nat.le_refl _) hu
      have : pl + z = q := by simpa using h
      omega
    | inr t =>
      rw [hu] at h
      dsimp only at h
      split at h
      · cases hr : partsR a b c d r (pl + (p.length : Int) + 1) with
        | inl z =>
          rw [hr] at h
          have h1 := partsR_at a b c d r _ z hr
          have : z = q := by simpa using h
          omega
        | inr l => rw [hr] at h; simp at h
      · have : pl = q := by simpa using h
        omega
theorem partsR_len (a b c d : Int) : ∀ (P : List (List Int)) (pl : Int) (l : List ByteArray), partsR a b c d P pl = .inr l → l.length = P.length
  | [], pl, l, h => by simp [partsR] at h; subst h; rfl
  | p :: r, pl, l, h => by
    simp only [partsR] at h
    cases hu : unL a b c d p 0 with
    | inl z => rw [hu] at h; simp at h
    | inr t =>
      rw [hu] at h
      dsimp only at h
      split at h
      · cases hr : partsR a b c d r (pl + (p.length : Int) + 1) with
        | inl z => rw [hr] at h; simp at h
        | inr l2 =>
          rw [hr] at h
          have h1 := partsR_len a b c d r _ l2 hr
          have e : strOfNums t :: l2 = l := by simpa using h
          subst e; simp [h1]
      · simp at h
theorem elR_at (a b c d : Int) (t : List Int) (at_ q : Int) (h : elR a b c d t at_ = .inl q) : at_ ≤ q ∧ q ≤ at_ + (t.length : Int) + 1 := by
  have ht := tot_cut d c _ t (Nat.le_refl _)
  unfold elR at h
  split at h
  · have : at_ = q := by simpa using h
    omega
  · cases hp : partsR a b c d (cutL d c t) at_ with
    | inl z =>
      rw [hp] at h
      have h1 := partsR_at a b c d _ _ _ hp
      have : z = q := by simpa using h
      omega
    | inr l =>
      rw [hp] at h
      dsimp only at h
      split at h
      · have : at_ = q := by simpa using h
        omega
      · simp at h

/-! the program's element -/
theorem implEl_loop (a b c d at_ : Int) (P : List ByteArray) (hP : P.length ≤ 4) (hs : ∀ p ∈ P, p.size ≤ 20000) : ∀ (r : List ByteArray) (i : Nat) (acc : List ByteArray) (pl : Int), P.drop i = r → acc.length = i → i ≤ P.length → 0 ≤ pl → pl ≤ 100000 + 30000 * (i : Int) →
    ∃ e f, Ev (fun k => F88.l0 k at_ P pl P (P.length : Int) (i : Int) a b c d acc) (e, f) ∧ (match partsR a b c d (r.map bytesOf) pl with | .inl q => f = q | .inr l => e = acc ++ l ∧ f = if P.length > 1 ∧ lastE (acc ++ l) = true then at_ else -1) := by
  intro r
  induction r with
  | nil =>
    intro i acc pl h ha hi h0 h1
    have e0 := ldrop_nil h
    refine ⟨acc, if P.length > 1 ∧ lastE acc = true then at_ else -1, Ev.step (fun k => F88.l0.eq_2 ..) (Ev.neg (by omega) ?_), by simp [partsR]⟩
    by_cases g : P.length > 1
    · have hw : wrap64 ((P.length : Int) - 1) = (P.length : Int) - 1 := wrap_id (by omega) (by omega)
      have hla : (acc.length : Int) = (P.length : Int) := by omega
      refine Ev.pos (by omega) (Ev.pos (by omega) (Ev.pos (by omega) ?_))
      have hE : lastE acc = ((rdOf ByteArray.empty acc (wrap64 ((P.length : Int) - 1))).toList == ([] : List UInt8)) := by unfold lastE; rw [hla]
      by_cases g2 : (rdOf ByteArray.empty acc (wrap64 ((P.length : Int) - 1))).toList = ([] : List UInt8)
      · exact Ev.pos g2 (Ev.ret (by rw [if_pos ⟨g, by rw [hE]; simpa using g2⟩]))
      · exact Ev.neg g2 (Ev.ret (by rw [if_neg (fun h => g2 (by have := h.2; rw [hE] at this; simpa using this))]))
    · exact Ev.neg (by omega) (Ev.ret (by rw [if_neg (fun h => g h.1)]))
  | cons p r ih =>
    intro i acc pl h ha hi h0 h1
    obtain ⟨h2, h3, h4⟩ := ldrop_cons ByteArray.empty h
    have hp : rdOf ByteArray.empty P (i : Int) = p := h3
    have hps := hs p (List.mem_of_mem_drop (by rw [h]; exact List.mem_cons_self))
    have hu := implUn_ev a b c d p (by omega)
    simp only [List.map_cons, partsR, length_bytesOf]
    have st : ∀ {R}, Ev (fun k => ((F63.f k a b c d (rdOf ByteArray.empty P (i : Int))).bind fun bt555 => (if bt555.2 ≥ 0 then (some (acc, wrap64 (pl + bt555.2))) else ((F82.f k bt555.1).bind fun t557 => (if t557 = true then (if acc.length < 8796093022208 then (F88.l0 k at_ P (wrap64 (pl + (wrap64 (((rdOf ByteArray.empty P (i : Int)).size : Int) + 1)))) P (P.length : Int) (wrap64 ((i : Int) + 1)) a b c d (acc ++ [bt555.1])) else (none)) else (some (acc, pl))))))) R → Ev (fun k => F88.l0 k at_ P pl P (P.length : Int) (i : Int) a b c d acc) R := fun e => Ev.step (fun k => F88.l0.eq_2 ..) (Ev.pos h2 (Ev.pos (by omega) (Ev.pos h2 e)))
    cases hq : unL a b c d (bytesOf p) 0 with
    | inl q =>
      rw [hq] at hu
      have hb := unL_at a b c d _ (bytesOf p) 0 q (Nat.le_refl _) hq
      rw [length_bytesOf] at hb
      exact ⟨acc, pl + q, st (by rw [hp]; exact Ev.bind hu (Ev.pos hb.1 (Ev.ret (show (acc, wrap64 (pl + q)) = (acc, pl + q) by rw [wrap_id (by omega) (by omega)])))), rfl⟩
    | inr t =>
      rw [hq] at hu
      have ht := unL_len a b c d _ (bytesOf p) 0 t (Nat.le_refl _) hq
      rw [length_bytesOf] at ht
      have hpart := implPart_ev (strOfNums t) (by rw [size_strOf]; omega)
      dsimp only
      by_cases g : partB (strOfNums t) = true
      · obtain ⟨e, f, e1, e2⟩ := ih (i + 1) (acc ++ [strOfNums t]) (pl + (p.size : Int) + 1) h4 (by simp; omega) (by omega) (by omega) (by omega)
        have hw : wrap64 (pl + wrap64 ((p.size : Int) + 1)) = pl + (p.size : Int) + 1 := by rw [wrap_id (x := (p.size : Int) + 1) (by omega) (by omega), wrap_id (by omega) (by omega)]; omega
        rw [← hw, ← wi_ (by omega)] at e1
        refine ⟨e, f, st (by rw [hp]; exact Ev.bind hu (Ev.neg (by simp) (Ev.bind hpart (Ev.pos g (Ev.pos (by omega) e1))))), ?_⟩
        rw [if_pos g]
        cases hr : partsR a b c d (r.map bytesOf) (pl + (p.size : Int) + 1) with
        | inl z => rw [hr] at e2; exact e2
        | inr l => rw [hr] at e2; simpa using e2
      · refine ⟨acc, pl, st (by rw [hp]; exact Ev.bind hu (Ev.neg (by simp) (Ev.bind hpart (Ev.neg g (Ev.now _))))), ?_⟩
        rw [if_neg g]
theorem implEl_ev (a b c d : Int) (s : ByteArray) (at_ : Int) (hs : s.size ≤ 20000) (h0 : 0 ≤ at_) (h1 : at_ ≤ 100000) : ∃ e f, Ev (fun k => F88.f k a b c d s at_) (e, f) ∧ (match elR a b c d (bytesOf s) at_ with | .inl q => f = q | .inr l => e = l ∧ f = -1) := by
  have hc := implCut_ev a b c d c s (by omega)
  have ht := tot_cut d c _ (bytesOf s) (Nat.le_refl _)
  rw [length_bytesOf] at ht
  unfold F88.f elR
  by_cases g : (cutL d c (bytesOf s)).length > 4
  · exact ⟨_, _, Ev.bind hc (Ev.pos (by rw [List.length_map]; omega) (Ev.now _)), by rw [if_pos g]⟩
  · have hsz : ∀ p ∈ (cutL d c (bytesOf s)).map strOfNums, p.size ≤ 20000 := by
      intro p hp
      obtain ⟨q, hq, rfl⟩ := List.mem_map.1 hp
      have := tot_mem hq
      rw [size_strOf]; omega
    obtain ⟨e, f, e1, e2⟩ := implEl_loop a b c d at_ _ (by rw [List.length_map]; omega) hsz _ 0 [] at_ rfl rfl (by omega) h0 (by omega)
    refine ⟨e, f, Ev.bind hc (Ev.neg (by rw [List.length_map]; omega) e1), ?_⟩
    rw [if_neg g]
    rw [List.drop_zero, cut_bytes] at e2
    simp only [List.length_map, List.nil_append] at e2
    cases hr : partsR a b c d (cutL d c (bytesOf s)) at_ with
    | inl z => rw [hr] at e2; exact e2
    | inr l =>
      rw [hr] at e2
      dsimp only at e2 ⊢
      obtain ⟨e3, e4⟩ := e2
      by_cases g3 : (cutL d c (bytesOf s)).length > 1 ∧ lastE l = true
      · rw [if_pos g3] at e4
        simp only [if_pos g3]
        exact e4
      · rw [if_neg g3] at e4
        simp only [if_neg g3]
        exact ⟨e3, e4⟩

/-! the program's segment, read -/
theorem elsR_at (a b c d : Int) : ∀ (P : List (List Int)) (i : Nat) (at_ q : Int), elsR a b c d i P at_ = .inl q → at_ ≤ q ∧ q ≤ at_ + (tot P : Int)
  | [], i, at_, q, h => by simp [elsR] at h
  | p :: r, i, at_, q, h => by
    simp only [elsR] at h
    simp only [tot]
    split at h
    · have : at_ = q := by simpa using h
      omega
    · cases he : elR a b c d p at_ with
      | inl z =>
        rw [he] at h
        have h1 := elR_at a b c d p at_ z he
        have : z = q := by simpa using h
        omega
      | inr l =>
        rw [he] at h
        dsimp only at h
        split at h
        · have : at_ = q := by simpa using h
          omega
        · cases hr : elsR a b c d (i + 1) r (at_ + (p.length : Int) + 1) with
          | inl z =>
            rw [hr] at h
            have h1 := elsR_at a b c d r _ _ z hr
            have : z = q := by simpa using h
            omega
          | inr L => rw [hr] at h; simp at h
theorem implSegR_loop (a b c d : Int) (t : ByteArray) (A P0 : List ByteArray) (P : List ByteArray) (u : ByteArray) (hA0 : 0 < A.length) (hAs : (rdOf ByteArray.empty A 0).size ≤ 20000) (hP0 : P0.length = P.length + 1) (hP : (tot (P.map bytesOf)) ≤ 20001) : ∀ (r : List ByteArray) (i : Nat) (acc : List S102) (at_ : Int), P.drop i = r → acc.length = i → i ≤ P.length → 0 ≤ at_ → at_ + (tot (r.map bytesOf) : Int) ≤ 50000 →
    Ev (fun k => F41.l0 k A P0 at_ P (P.length : Int) (i : Int) a b c d u acc) (match elsR a b c d i (r.map bytesOf) at_ with | .inl q => ((⟨#[]⟩ : ByteArray), [], 0, q, 3) | .inr L => (u, acc ++ L, ((rdOf ByteArray.empty A 0).size : Int) + 1, 0, 0)) := by
  have hPl := tot_len (P.map bytesOf)
  rw [List.length_map] at hPl
  intro r
  induction r with
  | nil =>
    intro i acc at_ h ha hi h0 h1
    have e0 := ldrop_nil h
    exact Ev.step (fun k => F41.l0.eq_2 ..) (Ev.neg (by omega) (Ev.pos (by omega) (Ev.ret (by simp only [List.map_nil, elsR, List.append_nil]; rw [wrap_id (by omega) (by omega)]))))
  | cons p r ih =>
    intro i acc at_ h ha hi h0 h1
    obtain ⟨h2, h3, h4⟩ := ldrop_cons ByteArray.empty h
    have hp : rdOf ByteArray.empty P (i : Int) = p := h3
    simp only [List.map_cons, elsR, tot, length_bytesOf] at h1 ⊢
    have hil : (i : Int) + 1 ≤ (P.length : Int) := by omega
    have hpm := tot_mem (p := bytesOf p) (L := P.map bytesOf) (List.mem_map.2 ⟨p, List.mem_of_mem_drop (by rw [h]; exact List.mem_cons_self), rfl⟩)
    rw [length_bytesOf] at hpm
    have hr0 : r = [] ↔ (i : Int) + 1 = (P.length : Int) := by
      constructor
      · intro e; subst e; have := ldrop_nil h4; omega
      · intro e
        have : P.drop (i + 1) = [] := by rw [List.drop_eq_nil_iff]; omega
        rw [h4] at this; exact this
    refine Ev.step (fun k => F41.l0.eq_2 ..) (Ev.pos h2 (Ev.pos (by omega) (Ev.pos h2 ?_)))
    by_cases g : i = 10
    · refine Ev.pos (by omega) (Ev.ret ?_)
      rw [if_pos g]
    · refine Ev.neg (by omega) ?_
      obtain ⟨e, f, e1, e2⟩ := implEl_ev a b c d p at_ (by omega) h0 (by omega)
      rw [hp]
      refine Ev.bind e1 ?_
      rw [if_neg g]
      have hw2 : wrap64 ((P0.length : Int) - 2) = (P.length : Int) - 1 := by rw [wrap_id (by omega) (by omega)]; omega
      have hwa : wrap64 (at_ + wrap64 ((p.size : Int) + 1)) = at_ + (p.size : Int) + 1 := by rw [wrap_id (x := (p.size : Int) + 1) (by omega) (by omega), wrap_id (by omega) (by omega)]; omega
      cases hE : elR a b c d (bytesOf p) at_ with
      | inl q =>
        rw [hE] at e2
        have hq := elR_at a b c d _ _ _ hE
        dsimp only at e2 ⊢
        subst e2
        exact Ev.neg (by omega) (Ev.step (fun k => F41.j1.eq_2 ..) (Ev.neg (by simp) (Ev.pos (by omega) (Ev.now _))))
      | inr l =>
        rw [hE] at e2
        dsimp only at e2 ⊢
        obtain ⟨e3, e4⟩ := e2
        subst e3
        subst e4
        have good : ¬ (r = [] ∧ emptyE e = true) → Ev (fun k => F41.j1 k A P0 at_ p (-1) P (P.length : Int) (i : Int) false a b c d u acc e) (match (if r = [] ∧ emptyE e = true then Sum.inl at_ else (match elsR a b c d (i + 1) (r.map bytesOf) (at_ + (p.size : Int) + 1) with | .inl q => .inl q | .inr L => .inr ((⟨e⟩ : S102) :: L))) with | .inl q => ((⟨#[]⟩ : ByteArray), [], 0, q, 3) | .inr L => (u, acc ++ L, ((rdOf ByteArray.empty A 0).size : Int) + 1, 0, 0)) := by
          intro g2
          rw [if_neg g2]
          have h5 := ih (i + 1) (acc ++ [⟨e⟩]) (at_ + (p.size : Int) + 1) h4 (by simp; omega) (by omega) (by omega) (by omega)
          rw [← hwa, ← wi_ (by omega)] at h5
          refine Ev.step (fun k => F41.j1.eq_2 ..) (Ev.neg (by simp) (Ev.neg (by omega) (Ev.pos (by omega) (h5.to ?_))))
          rw [hwa]
          cases elsR a b c d (i + 1) (r.map bytesOf) (at_ + (p.size : Int) + 1) with
          | inl z => rfl
          | inr L => simp
        have hrm : (r.map bytesOf = [] ∧ emptyE e = true) ↔ (r = [] ∧ emptyE e = true) := by rw [List.map_eq_nil_iff]
        simp only [hrm]
        by_cases g1 : (i : Int) = (P.length : Int) - 1
        · have hr1 : r = [] := hr0.2 (by omega)
          by_cases g2 : (e.length : Int) = 1
          · have hl1 : e.length = 1 := by omega
            have hEe : emptyE e = ((rdOf ByteArray.empty e 0).toList == ([] : List UInt8)) := by
              unfold emptyE lastE
              rw [hl1]
              have : wrap64 (((1 : Nat) : Int) - 1) = 0 := by rw [wrap_id (by omega) (by omega)]; rfl
              rw [this]; simp
            refine Ev.pos (by omega) (Ev.pos (by rw [hw2]; exact g1) (Ev.pos g2 (Ev.pos (by omega) ?_)))
            rw [← hEe]
            cases hm : emptyE e with
            | true => exact Ev.step (fun k => F41.j1.eq_2 ..) (Ev.pos rfl (Ev.pos (by omega) (Ev.ret (by rw [if_pos ⟨hr1, rfl⟩]))))
            | false => have := good (by rw [hm]; simp); rw [hm] at this; exact this
          · have hm : emptyE e = false := by unfold emptyE; simp; omega
            exact Ev.pos (by omega) (Ev.pos (by rw [hw2]; exact g1) (Ev.neg g2 (good (by rw [hm]; simp))))
        · exact Ev.pos (by omega) (Ev.neg (by rw [hw2]; exact g1) (good (fun h => g1 (by have := hr0.1 h.1; omega))))
def capR (n : Nat) (s : Bool) (R : ByteArray × (List S102) × Int × Int × Int) : ByteArray × (List S102) × Int × Int × Int := if n > 20000 then ((⟨#[]⟩ : ByteArray), [], 0, 0, 2) else if s then R else ((⟨#[]⟩ : ByteArray), [], 0, 0, 1)
theorem implSegRead_ev (a b c d : Int) (t : ByteArray) : Ev (fun k => F41.f k a b c d t) (capR t.size (synP a b c d) (segR a b c d (bytesOf t))) := by
  unfold F41.f capR
  by_cases g : (t.size : Int) > 20000
  · exact Ev.bind (longText_ev t) (Ev.pos (by simpa using g) (Ev.ret (by rw [if_pos (by omega)])))
  have ht : ¬ t.size > 20000 := by omega
  simp only [if_neg ht]
  refine Ev.bind (longText_ev t) (Ev.neg (by simpa using g) (Ev.bind (implSyntaxRight_ev a b c d) ?_))
  cases hs : synP a b c d with
  | false => exact Ev.neg (by simp) (Ev.now _)
  | true =>
    refine Ev.pos rfl ?_
    rw [if_pos rfl]
    unfold segR
    by_cases g0 : t.toList = ([] : List UInt8)
    · have : t = (⟨#[]⟩ : ByteArray) := toList_inj.1 (by rw [g0, ByteArray.toList_eq])
      subst this
      have hb : bytesOf (⟨#[]⟩ : ByteArray) = [] := rfl
      exact Ev.pos g0 (Ev.ret (by rw [if_pos hb]))
    have hne : bytesOf t ≠ [] := by
      intro h
      apply g0
      have : t.size = 0 := by rw [← length_bytesOf, h]; rfl
      have h2 : t = (⟨#[]⟩ : ByteArray) := bytesOf_inj (by rw [h]; rfl)
      rw [h2, ByteArray.toList_eq]
    refine Ev.neg g0 ?_
    rw [if_neg hne]
    have hc := implCut_ev a b c d a t (by omega)
    have htot := tot_cut d a _ (bytesOf t) (Nat.le_refl _)
    rw [length_bytesOf] at htot
    refine Ev.bind hc ?_
    have hcb := cut_bytes d a t
    match hL : cutL d a (bytesOf t) with
    | [] => exact absurd hL (cutL_ne d a _)
    | [h] => exact Ev.pos (by simp) (Ev.now _)
    | h :: h2 :: L =>
      rw [hL] at htot hcb
      simp only [tot] at htot
      have hbh : bytesOf (strOfNums h) = h := (List.cons.inj hcb).1
      have hsz : (strOfNums h).size = h.length := size_strOf h
      have hr : rdOf ByteArray.empty ((h :: h2 :: L).map strOfNums) 0 = strOfNums h := rfl
      refine Ev.neg (by simp only [List.length_map, List.length_cons]; omega) (Ev.pos (by simp only [List.length_map, List.length_cons]; omega) ?_)
      rw [hr]
      have hc2 := implCut_ev a b c d b (strOfNums h) (by omega)
      have htot2 := tot_cut d b _ (bytesOf (strOfNums h)) (Nat.le_refl _)
      have hcb2 := cut_bytes d b (strOfNums h)
      rw [hbh] at hc2 htot2 hcb2
      refine Ev.bind hc2 ?_
      dsimp only
      match hL2 : cutL d b h with
      | [] => exact absurd hL2 (cutL_ne d b _)
      | g :: r =>
        rw [hL2] at htot2 hcb2
        simp only [tot] at htot2
        have hr2 : rdOf ByteArray.empty ((g :: r).map strOfNums) 0 = strOfNums g := rfl
        refine Ev.pos (by simp only [List.length_map, List.length_cons]; omega) ?_
        rw [hr2]
        refine Ev.bindc (isTag_eq _) ?_
        dsimp only
        by_cases gt : tagB (strOfNums g) = true
        · refine Ev.pos gt ?_
          rw [if_pos gt]
          refine Ev.pos (by simp only [List.length_map, List.length_cons]; omega) (Ev.bindc rfl ?_)
          have hmr : (r.map strOfNums).map bytesOf = r := (List.cons.inj hcb2).2
          have hlen : 1 ≤ ((g :: r).map strOfNums).length := by simp
          have h6 := implSegR_loop a b c d t ((h :: h2 :: L).map strOfNums) ((g :: r).map strOfNums) (r.map strOfNums) (strOfNums g) (by simp) (by rw [hr]; omega) (by simp) (by rw [hmr]; omega) (r.map strOfNums) 0 [] ((g.length : Int) + 1) rfl rfl (by omega) (by omega) (by rw [hmr]; omega)
          rw [hmr, hr, hsz] at h6
          have hw : wrap64 (((strOfNums g).size : Int) + 1) = (g.length : Int) + 1 := by rw [size_strOf, wrap_id (by omega) (by omega)]
          have hd : ((g :: r).map strOfNums).drop 1 = r.map strOfNums := rfl
          rw [hd, hw]
          simpa using h6
        · rw [if_neg gt]
          exact Ev.neg gt (Ev.now _)

/-- Pieces put together again, a mark between them. -/
def joinL (m : Int) : Bool → List (List Int) → List Int
  | _, [] => []
  | f, h :: t => (if f then [] else [m]) ++ (h ++ joinL m false t)
theorem joinL_hdP (m : Int) (v : List Int) : ∀ L : List (List Int), joinL m true (hdP v L) = v ++ joinL m true L
  | [] => by simp [hdP, joinL]
  | h :: t => by simp [hdP, joinL]
theorem joinL_false (m : Int) : ∀ L : List (List Int), L ≠ [] → joinL m false L = m :: joinL m true L
  | [], h => absurd rfl h
  | h :: t, _ => by simp [joinL]
theorem joinL_cut (d m : Int) : ∀ (n : Nat) (l : List Int), l.length ≤ n → joinL m true (cutL d m l) = l := by
  intro n
  induction n using Nat.strongRecOn with
  | _ n ih =>
    intro l hl
    match l, hl with
    | [], _ => simp [cutL, joinL]
    | [x], _ =>
      unfold cutL
      split
      · simp [joinL]
      · split
        · rename_i h; simp [joinL, h]
        · simp [joinL]
    | x :: y :: r, hl =>
      simp only [List.length_cons] at hl
      unfold cutL
      split
      · rw [joinL_hdP, ih (n - 2) (by omega) r (by omega)]; rfl
      · split
        · rename_i h
          have := ih (n - 1) (by omega) (y :: r) (by simp; omega)
          rw [joinL, joinL_false m _ (cutL_ne d m _), this, h]
          rfl
        · rw [joinL_hdP, ih (n - 1) (by omega) (y :: r) (by simp; omega)]; rfl
theorem joinL_mem (m : Int) {c : Int} {p : List Int} (hc : c ∈ p) : ∀ (L : List (List Int)) (f : Bool), p ∈ L → c ∈ joinL m f L
  | h :: t, f, hp => by
    unfold joinL
    rcases List.mem_cons.1 hp with e | e
    · subst e; simp [hc]
    · have := joinL_mem m hc t false e
      simp [this]

/-! what is read is the text that was read -/
theorem un_inv {a b c d : Int} (h2d : d % 256 = d) : ∀ (n : Nat) (l : List Int) (i : Int) (t : List Int), l.length ≤ n → unL a b c d l i = .inr t → escL a b c d t = l := by
  intro n
  induction n using Nat.strongRecOn with
  | _ n ih =>
    intro l i t hn h
    match l, h, hn with
    | [], h, hn => simp [unL] at h; subst h; rfl
    | [x], h, hn =>
      simp only [unL] at h
      split at h
      · simp at h
      · rename_i ho
        have e : [x] = t := by simpa using h
        subst e; simp [escL, ho]
    | x :: y :: r, h, hn =>
      simp only [List.length_cons] at hn
      simp only [unL] at h
      split at h
      · split at h
        · rename_i hx
          split at h
          · rename_i hy
            cases h2 : unL a b c d r (i + 2) with
            | inl z => rw [h2] at h; simp at h
            | inr u =>
              rw [h2] at h
              have e : y :: u = t := by simpa using h
              have := ih (n - 2) (by omega) r (i + 2) u (by omega) h2
              subst e
              simp [escL, hy, this, h2d, hx]
          · simp at h
        · simp at h
      · rename_i ho
        cases h2 : unL a b c d (y :: r) (i + 1) with
        | inl z => rw [h2] at h; simp at h
        | inr u =>
          rw [h2] at h
          have e : x :: u = t := by simpa using h
          have := ih (n - 1) (by omega) (y :: r) (i + 1) u (by simp; omega) h2
          subst e
          simp [escL, ho, this]
theorem esc_mem2 (a b c d : Int) {y : Int} : ∀ l : List Int, y ∈ l → y ∈ escL a b c d l
  | x :: r, h => by
    unfold escL
    rcases List.mem_cons.1 h with e | e
    · subst e; split <;> simp
    · have := esc_mem2 a b c d r e
      split <;> simp [this]
theorem un_bytes {a b c d : Int} (h2d : d % 256 = d) {p t : List Int} (hp : ∀ x ∈ p, 0 ≤ x ∧ x ≤ 255) (h : unL a b c d p 0 = .inr t) : bytesOf (strOfNums t) = t := by
  have e := un_inv h2d _ p 0 t (Nat.le_refl _) h
  exact bytesOf_strOf t (fun x hx => hp x (by rw [← e]; exact esc_mem2 a b c d t hx))

/-! the reference's segment, read -/
theorem esc_nil (a b c d : Int) (x : List Int) : escL a b c d x = [] ↔ x = [] := by
  cases x with
  | nil => simp [escL]
  | cons y r => unfold escL; split <;> simp
theorem str_nil (x : List Int) : (strOfNums x).toList = ([] : List UInt8) ↔ x = [] := by
  constructor
  · intro h
    have h2 : strOfNums x = (⟨#[]⟩ : ByteArray) := toList_inj.1 (by rw [h, ByteArray.toList_eq])
    have h3 := size_strOf x
    rw [h2] at h3
    exact List.length_eq_zero_iff.1 h3.symm
  · intro h; subst h; rw [ByteArray.toList_eq]; rfl
theorem bytes_nil (q : ByteArray) : q.toList = ([] : List UInt8) ↔ bytesOf q = [] := by
  have := str_nil (bytesOf q)
  rwa [strOf_bytesOf] at this
theorem lastE_pieces (a b c d : Int) (l P : List ByteArray) (h : l.map (fun q => escL a b c d (bytesOf q)) = P.map bytesOf) (h0 : 0 < l.length) (h1 : l.length ≤ 1000) : lastE l = ((rdOf ByteArray.empty P (wrap64 ((P.length : Int) - 1))).toList == ([] : List UInt8)) := by
  have hl : l.length = P.length := by have := congrArg List.length h; simpa using this
  have hw : wrap64 ((l.length : Int) - 1) = (((l.length - 1 : Nat)) : Int) := by rw [wrap_id (by omega) (by omega)]; omega
  unfold lastE
  rw [← hl, hw]
  unfold rdOf
  rw [Int.toNat_natCast, List.getD_eq_getElem?_getD, List.getD_eq_getElem?_getD, List.getElem?_eq_getElem (by omega), List.getElem?_eq_getElem (by omega)]
  simp only [Option.getD_some]
  have he : escL a b c d (bytesOf (l[l.length - 1]'(by omega))) = bytesOf (P[l.length - 1]'(by omega)) := by
    have := congrArg (fun z => z[l.length - 1]?) h
    simp only [List.getElem?_map] at this
    rw [List.getElem?_eq_getElem (by omega), List.getElem?_eq_getElem (by omega)] at this
    simpa using this
  rw [Bool.eq_iff_iff]
  simp only [beq_iff_eq]
  rw [bytes_nil, bytes_nil, ← he, esc_nil]
/-- How a fault is told. -/
def wrongR (q : Int) : ByteArray × (List S102) × Int × Int × Int := ((⟨#[]⟩ : ByteArray), [], 0, q, 3)
theorem specEl_loop {a b c d : Int} (hs : synP a b c d = true) (e5 at_ : Int) (E P : List ByteArray) (u : ByteArray) (L : List S102) (I : Int) (hI0 : 0 ≤ I) (hI1 : I < (E.length : Int)) (hI2 : (E.length : Int) ≤ 30000) (hL : L.length ≤ 20) (hP1 : P.length ≤ 4) (hP0 : 0 < P.length) (hps : ∀ p ∈ P, p.size ≤ 20000) (ha0 : 0 ≤ at_) (ha1 : at_ ≤ 50000) (hEs : (rdOf ByteArray.empty E I).size ≤ 20000) (F : List ByteArray → ByteArray × (List S102) × Int × Int × Int)
    (hF : ∀ e, Ev (fun k => F87.l1 k e5 E (at_ + ((rdOf ByteArray.empty E I).size : Int) + 1) (I + 1) a b c d u (L ++ [⟨e⟩])) (F e)) : ∀ (r : List ByteArray) (k : Nat) (acc : List ByteArray) (pl : Int), P.drop k = r → acc.length = k → acc.map (fun q => escL a b c d (bytesOf q)) = (P.take k).map bytesOf → k ≤ P.length → 0 ≤ pl → pl ≤ 100000 + 30000 * (k : Int) →
    Ev (fun n => F87.l2 n e5 E at_ I P pl (k : Int) a b c d u L acc) (match partsR a b c d (r.map bytesOf) pl with | .inl q => wrongR q | .inr l => if P.length > 1 ∧ lastE (acc ++ l) = true then wrongR at_ else if I + 1 = (E.length : Int) ∧ emptyE (acc ++ l) = true then wrongR at_ else F (acc ++ l)) := by
  have h2d := (four_of hs).d256
  intro r
  induction r with
  | nil =>
    intro k acc pl h ha hm hk h0 h1
    have e0 := ldrop_nil h
    have hkl : k = P.length := by omega
    simp only [List.map_nil, partsR, List.append_nil]
    rw [hkl, List.take_length] at hm
    have hlE := lastE_pieces a b c d acc P hm (by omega) (by omega)
    have hw : wrap64 ((P.length : Int) - 1) = (P.length : Int) - 1 := wrap_id (by omega) (by omega)
    have hwE : wrap64 ((E.length : Int) - 1) = (E.length : Int) - 1 := wrap_id (by omega) (by omega)
    have hwa : wrap64 (wrap64 (at_ + ((rdOf ByteArray.empty E I).size : Int)) + 1) = at_ + ((rdOf ByteArray.empty E I).size : Int) + 1 := by rw [wrap_id (x := at_ + ((rdOf ByteArray.empty E I).size : Int)) (by omega) (by omega), wrap_id (by omega) (by omega)]
    have hwi : wrap64 (I + 1) = I + 1 := wrap_id (by omega) (by omega)
    have app : Ev (fun n => (if L.length < 5864062014805 then (if 0 ≤ I then (if I < (E.length : Int) then (F87.l1 n e5 E (wrap64 ((wrap64 (at_ + ((rdOf ByteArray.empty E I).size : Int))) + 1)) (wrap64 (I + 1)) a b c d u (L ++ [(⟨acc⟩ : S102)])) else (none)) else (none)) else (none))) (F acc) := by
      rw [hwa, hwi]
      exact Ev.pos (by omega) (Ev.pos (by omega) (Ev.pos (by omega) (hF acc)))
    have nxt : ∀ W, Ev (fun n => (if L.length < 5864062014805 then (if 0 ≤ I then (if I < (E.length : Int) then (F87.l1 n e5 E (wrap64 ((wrap64 (at_ + ((rdOf ByteArray.empty E I).size : Int))) + 1)) (wrap64 (I + 1)) a b c d u (L ++ [(⟨acc⟩ : S102)])) else (none)) else (none)) else (none))) W → Ev (fun n => (if I = (wrap64 ((E.length : Int) - 1)) then ((F77.f acc).bind fun t290 => (if t290 = true then ((F114.f at_).bind fun bt291 => (some (bt291.1, bt291.2.1, bt291.2.2.1, bt291.2.2.2.1, bt291.2.2.2.2))) else (if L.length < 5864062014805 then (if 0 ≤ I then (if I < (E.length : Int) then (F87.l1 n e5 E (wrap64 ((wrap64 (at_ + ((rdOf ByteArray.empty E I).size : Int))) + 1)) (wrap64 (I + 1)) a b c d u (L ++ [(⟨acc⟩ : S102)])) else (none)) else (none)) else (none)))) else (if L.length < 5864062014805 then (if 0 ≤ I then (if I < (E.length : Int) then (F87.l1 n e5 E (wrap64 ((wrap64 (at_ + ((rdOf ByteArray.empty E I).size : Int))) + 1)) (wrap64 (I + 1)) a b c d u (L ++ [(⟨acc⟩ : S102)])) else (none)) else (none)) else (none)))) (if I + 1 = (E.length : Int) ∧ emptyE acc = true then wrongR at_ else W) := by
      intro W hWv
      by_cases g1 : I = (E.length : Int) - 1
      · refine Ev.pos (by rw [hwE]; exact g1) (Ev.bindc (l02Empty_eq acc) ?_)
        cases hm : emptyE acc with
        | true => exact Ev.pos rfl (Ev.bindc rfl (Ev.ret (by rw [if_pos ⟨by omega, rfl⟩]; rfl)))
        | false => exact Ev.neg (by simp) (hWv.to (by rw [if_neg (by simp)]))
      · exact Ev.neg (by rw [hwE]; exact g1) (hWv.to (by rw [if_neg (fun h => g1 (by have := h.1; omega))]))
    refine Ev.step (fun n => F87.l2.eq_2 ..) (Ev.neg (by omega) ?_)
    by_cases g : P.length > 1
    · refine Ev.pos (by omega) (Ev.pos (by omega) (Ev.pos (by omega) ?_))
      by_cases g2 : (rdOf ByteArray.empty P (wrap64 ((P.length : Int) - 1))).toList = ([] : List UInt8)
      · exact Ev.pos g2 (Ev.bindc rfl (Ev.ret (by rw [if_pos ⟨g, by rw [hlE]; simpa using g2⟩]; rfl)))
      · refine Ev.neg g2 ((nxt _ app).to ?_)
        rw [if_neg (c := P.length > 1 ∧ lastE acc = true) (fun h => g2 (by have := h.2; rw [hlE] at this; simpa using this))]
    · refine Ev.neg (by omega) ((nxt _ app).to ?_)
      rw [if_neg (c := P.length > 1 ∧ lastE acc = true) (fun h => g h.1)]
  | cons p r ih =>
    intro k acc pl h ha hm hk h0 h1
    obtain ⟨h2, h3, h4⟩ := ldrop_cons ByteArray.empty h
    have hp : rdOf ByteArray.empty P (k : Int) = p := h3
    have hpm : p ∈ P := List.mem_of_mem_drop (by rw [h]; exact List.mem_cons_self)
    have hsz := hps p hpm
    have hu := specUn_ev a b c d p (by omega) hs (by omega)
    simp only [List.map_cons, partsR, length_bytesOf]
    have hkl : k + 1 ≤ P.length := by omega
    have htk : P.take (k + 1) = P.take k ++ [p] := by
      have hkl2 : k < P.length := by omega
      rw [List.take_succ_eq_append_getElem hkl2]
      have := List.drop_eq_getElem_cons hkl2
      rw [h] at this
      rw [(List.cons.inj this).1]
    refine Ev.step (fun n => F87.l2.eq_2 ..) (Ev.pos h2 (Ev.pos (by omega) ?_))
    rw [hp]
    cases hq : unL a b c d (bytesOf p) 0 with
    | inl q =>
      rw [hq] at hu
      have hb := unL_at a b c d _ (bytesOf p) 0 q (Nat.le_refl _) hq
      rw [length_bytesOf] at hb
      refine Ev.bind hu (Ev.neg (by simp) (Ev.bindc rfl (Ev.ret ?_)))
      show ((⟨#[]⟩ : ByteArray), [], 0, wrap64 (pl + q), 3) = wrongR (pl + q)
      rw [wrap_id (by omega) (by omega)]; rfl
    | inr t =>
      rw [hq] at hu
      have ht := unL_len a b c d _ (bytesOf p) 0 t (Nat.le_refl _) hq
      rw [length_bytesOf] at ht
      have hpart := specPart_ev (strOfNums t) (by rw [size_strOf]; omega)
      dsimp only
      by_cases g : partB (strOfNums t) = true
      · have hun := un_bytes h2d (fun x hx => mem_bytesOf hx) hq
        have hinv := un_inv h2d _ (bytesOf p) 0 t (Nat.le_refl _) hq
        have h5 := ih (k + 1) (acc ++ [strOfNums t]) (pl + (p.size : Int) + 1) h4 (by simp; omega) (by rw [List.map_append, hm, htk, List.map_append]; simp [hun, hinv]) (by omega) (by omega) (by omega)
        have hw : wrap64 (wrap64 (pl + (p.size : Int)) + 1) = pl + (p.size : Int) + 1 := by rw [wrap_id (x := pl + (p.size : Int)) (by omega) (by omega), wrap_id (by omega) (by omega)]
        rw [← hw, ← wi_ (by omega)] at h5
        refine Ev.bind hu (Ev.pos rfl (Ev.bind hpart (Ev.pos g (Ev.pos (by omega) (h5.to ?_)))))
        rw [if_pos g, hw]
        cases partsR a b c d (r.map bytesOf) (pl + (p.size : Int) + 1) with
        | inl z => rfl
        | inr l => simp
      · refine Ev.bind hu (Ev.pos rfl (Ev.bind hpart (Ev.neg g (Ev.bindc rfl (Ev.ret ?_)))))
        rw [if_neg g]
        rfl
theorem specEls_loop {a b c d : Int} (hs : synP a b c d = true) (e5 : Int) (he0 : 0 ≤ e5) (he1 : e5 ≤ 20000) (E : List ByteArray) (u : ByteArray) (hE : tot (E.map bytesOf) ≤ 20001) : ∀ (r : List ByteArray) (i : Nat) (L : List S102) (at_ : Int), E.drop (i + 1) = r → L.length = i → i ≤ 10 → i + 1 ≤ E.length → 0 ≤ at_ → at_ + (tot (r.map bytesOf) : Int) ≤ 50000 →
    Ev (fun k => F87.l1 k e5 E at_ ((i + 1 : Nat) : Int) a b c d u L) (match elsR a b c d i (r.map bytesOf) at_ with | .inl q => wrongR q | .inr Z => (u, L ++ Z, e5 + 1, 0, 0)) := by
  have hEl := tot_len (E.map bytesOf)
  rw [List.length_map] at hEl
  intro r
  induction r with
  | nil =>
    intro i L at_ h hl hi hiE h0 h1
    have e0 := ldrop_nil h
    exact Ev.step (fun k => F87.l1.eq_2 ..) (Ev.neg (by omega) (Ev.ret (by simp only [List.map_nil, elsR, List.append_nil]; rw [wrap_id (by omega) (by omega)])))
  | cons p r ih =>
    intro i L at_ h hl hi hiE h0 h1
    obtain ⟨h2, h3, h4⟩ := ldrop_cons ByteArray.empty h
    have hp : rdOf ByteArray.empty E ((i + 1 : Nat) : Int) = p := h3
    have hpm := tot_mem (p := bytesOf p) (L := E.map bytesOf) (List.mem_map.2 ⟨p, List.mem_of_mem_drop (by rw [h]; exact List.mem_cons_self), rfl⟩)
    rw [length_bytesOf] at hpm
    simp only [List.map_cons, elsR, tot, length_bytesOf] at h1 ⊢
    have hr0 : r = [] ↔ i + 2 = E.length := by
      constructor
      · intro e; subst e; have := ldrop_nil h4; omega
      · intro e
        have : E.drop (i + 1 + 1) = [] := by rw [List.drop_eq_nil_iff]; omega
        rw [h4] at this; exact this
    have hc := specCut_ev a b c d c p (by omega)
    have htc := tot_cut d c _ (bytesOf p) (Nat.le_refl _)
    rw [length_bytesOf] at htc
    have hcb := cut_bytes d c p
    have hwr : Ev (fun k => (F114.f at_).bind fun bt250 => (some (bt250.1, bt250.2.1, bt250.2.2.1, bt250.2.2.2.1, bt250.2.2.2.2))) (wrongR at_) := Ev.bindc rfl (Ev.now _)
    refine Ev.step (fun k => F87.l1.eq_2 ..) (Ev.pos h2 (Ev.pos (by omega) ?_))
    rw [hp]
    refine Ev.bind hc ?_
    by_cases g : i = 10
    · rw [if_pos g]
      exact Ev.pos (by omega) (Ev.step (fun k => F87.j3.eq_2 ..) (Ev.pos rfl hwr))
    rw [if_neg g]
    refine Ev.neg (by omega) (Ev.step (fun k => F87.j3.eq_2 ..) ?_)
    unfold elR
    by_cases g4 : (cutL d c (bytesOf p)).length > 4
    · rw [if_pos g4]
      exact Ev.pos (by rw [List.length_map]; simp; omega) hwr
    rw [if_neg g4]
    refine Ev.neg (by rw [List.length_map]; simp; omega) ?_
    have hps : ∀ q ∈ (cutL d c (bytesOf p)).map strOfNums, q.size ≤ 20000 := by
      intro q hq
      obtain ⟨z, hz, rfl⟩ := List.mem_map.1 hq
      have := tot_mem hz
      rw [size_strOf]; omega
    have hpos : 0 < (cutL d c (bytesOf p)).length := List.length_pos_iff.2 (cutL_ne d c _)
    have h7 := specEl_loop hs e5 at_ E ((cutL d c (bytesOf p)).map strOfNums) u L ((i + 1 : Nat) : Int) (by omega) (by omega) (by omega) (by omega) (by rw [List.length_map]; omega) (by rw [List.length_map]; omega) hps h0 (by omega) (by rw [hp]; omega) (fun e => match elsR a b c d (i + 1) (r.map bytesOf) (at_ + (p.size : Int) + 1) with | .inl q => wrongR q | .inr Z => (u, (L ++ [⟨e⟩]) ++ Z, e5 + 1, 0, 0))
      (fun e => by rw [hp]; exact ih (i + 1) (L ++ [⟨e⟩]) (at_ + (p.size : Int) + 1) h4 (by simp; omega) (by omega) (by omega) (by omega) (by omega)) _ 0 [] at_ rfl rfl rfl (by omega) h0 (by omega)
    refine h7.to ?_
    rw [List.drop_zero, hcb]
    simp only [List.length_map, List.nil_append]
    cases partsR a b c d (cutL d c (bytesOf p)) at_ with
    | inl q => rfl
    | inr l =>
      dsimp only
      by_cases g5 : (cutL d c (bytesOf p)).length > 1 ∧ lastE l = true
      · rw [if_pos g5]
        simp only [if_pos g5]
      · rw [if_neg g5]
        simp only [if_neg g5]
        have hi2 : i + 2 = E.length ↔ ((i + 1 : Nat) : Int) + 1 = (E.length : Int) := by omega
        have hrm : (r.map bytesOf = [] ∧ emptyE l = true) ↔ (((i + 1 : Nat) : Int) + 1 = (E.length : Int) ∧ emptyE l = true) := by rw [List.map_eq_nil_iff, hr0, hi2]
        by_cases g6 : ((i + 1 : Nat) : Int) + 1 = (E.length : Int) ∧ emptyE l = true
        · rw [if_pos g6, if_pos (hrm.2 g6)]
        · rw [if_neg g6, if_neg (fun h => g6 (hrm.1 h))]
          cases elsR a b c d (i + 1) (r.map bytesOf) (at_ + (p.size : Int) + 1) with
          | inl q => rfl
          | inr Z => simp
/-- Where the first piece ends, or -1. -/
def endOf (d a : Int) (l : List Int) (i : Nat) : Int := match cutL d a l with | h :: _ :: _ => (i : Int) + (h.length : Int) | _ => -1
theorem endOf_hdP (d a : Int) (v l : List Int) (i j : Nat) (hj : j = i + v.length) : (match hdP v (cutL d a l) with | h :: _ :: _ => (i : Int) + (h.length : Int) | _ => -1) = endOf d a l j := by
  unfold endOf
  match hc : cutL d a l with
  | [] => exact absurd hc (cutL_ne d a l)
  | [x] => simp [hdP]
  | x :: y :: z =>
    show (i : Int) + ((v ++ x).length : Int) = (j : Int) + (x.length : Int)
    rw [List.length_append]; omega
theorem spec_scan (a b c d : Int) (t : ByteArray) (ht : t.size ≤ 20000) : ∀ (n : Nat) (l : List Int) (i : Nat) (R : ByteArray × (List S102) × Int × Int × Int), l.length ≤ n → (bytesOf t).drop i = l → i ≤ t.size + 1 → (∀ x6, Ev (fun k => F87.j1 k t (endOf d a l i) x6 false a b c d) R) → Ev (fun k => F87.l0 k t (-1) (i : Int) a b c d) R := by
  intro n
  induction n using Nat.strongRecOn with
  | _ n ih =>
    intro l i R hn h hi hR
    match l, h, hn with
    | [], h, hn =>
      have h0 := drop_nil h
      have hE : endOf d a [] i = -1 := by simp [endOf, cutL]
      rw [hE] at hR
      exact Ev.step (fun k => F87.l0.eq_2 ..) (Ev.neg (by omega) (hR _))
    | x :: r, h, hn =>
      obtain ⟨h1, h2, h3, h4, h5⟩ := drop_cons h
      simp only [List.length_cons] at hn
      have hw : wrap64 ((i : Int) + 1) = ((i + 1 : Nat) : Int) := by rw [wrap_id (by omega) (by omega)]; omega
      have hw2 : wrap64 (((i + 1 : Nat) : Int) + 1) = ((i + 2 : Nat) : Int) := by rw [wrap_id (by omega) (by omega)]; omega
      refine Ev.step (fun k => F87.l0.eq_2 ..) (Ev.pos h1 (Ev.step (fun k => F87.j1.eq_2 ..) (Ev.pos (by decide) (Ev.pos (by omega) (Ev.pos h1 ?_)))))
      rw [h2, wrap_id (x := x) (by omega) (by omega), hw, hw2]
      by_cases g1 : x = d
      · refine Ev.pos g1 ?_
        match r, h3, hn, hR with
        | [], h3, hn, hR =>
          have h0 := drop_nil h3
          have h6 : (bytesOf t).drop (i + 2) = [] := by rw [List.drop_eq_nil_iff, length_bytesOf]; omega
          have hE : endOf d a [x] i = endOf d a [] (i + 2) := by simp [endOf, cutL, g1]
          rw [hE] at hR
          exact ih (n - 1) (by omega) [] (i + 2) R (by simp) h6 (by omega) hR
        | y :: r', h3, hn, hR =>
          obtain ⟨g3, g4, g5, _, _⟩ := drop_cons h3
          simp only [List.length_cons] at hn
          have hE : endOf d a (x :: y :: r') i = endOf d a r' (i + 2) := by
            rw [← endOf_hdP d a [x, y] r' i (i + 2) rfl, ← cutL_rel d a x y r' g1]; rfl
          rw [hE] at hR
          exact ih (n - 2) (by omega) r' (i + 2) R (by omega) g5 (by omega) hR
      · refine Ev.neg g1 ?_
        by_cases g2 : x = a
        · have hE : endOf d a (x :: r) i = (i : Int) := by
            unfold endOf
            rw [cutL_by d a x r g1 g2]
            cases hc : cutL d a r with
            | nil => exact absurd hc (cutL_ne d a r)
            | cons u v => simp
          rw [hE] at hR
          refine Ev.pos g2 (Ev.step (fun k => F87.l0.eq_2 ..) ?_)
          have hdec : decide ((i : Int) < 0) = false := by simp
          rw [hdec]
          by_cases g3 : ((i + 1 : Nat) : Int) < (t.size : Int)
          · exact Ev.pos g3 (hR _)
          · exact Ev.neg g3 (hR _)
        · have hE : endOf d a (x :: r) i = endOf d a r (i + 1) := by
            rw [← endOf_hdP d a [x] r i (i + 1) rfl, ← cutL_else d a x r g1 g2]; rfl
          rw [hE] at hR
          exact Ev.neg g2 (ih (n - 1) (by omega) r (i + 1) R (by omega) h3 (by omega) hR)
theorem spec_l02Read_ev {a b c d : Int} (hs : synP a b c d = true) (t : ByteArray) (ht : t.size ≤ 20000) : Ev (fun k => F87.f k a b c d t) (segR a b c d (bytesOf t)) := by
  unfold F87.f segR
  by_cases g0 : t.toList = ([] : List UInt8)
  · exact Ev.pos g0 (Ev.ret (by rw [if_pos ((bytes_nil t).1 g0)]))
  have hne : ¬ bytesOf t = [] := fun h => g0 ((bytes_nil t).2 h)
  rw [if_neg hne]
  refine Ev.neg g0 (spec_scan a b c d t ht _ _ 0 _ (Nat.le_refl _) rfl (by omega) (fun x6 => ?_))
  rw [List.drop_zero]
  have htot := tot_cut d a _ (bytesOf t) (Nat.le_refl _)
  rw [length_bytesOf] at htot
  have hj := joinL_cut d a _ (bytesOf t) (Nat.le_refl _)
  match hL : cutL d a (bytesOf t) with
  | [] => exact absurd hL (cutL_ne d a _)
  | [h] =>
    have hE : endOf d a (bytesOf t) 0 = -1 := by simp [endOf, hL]
    rw [hE]
    exact Ev.step (fun k => F87.j1.eq_2 ..) (Ev.neg (by simp) (Ev.pos (by omega) (Ev.now _)))
  | h :: h2 :: Z =>
    rw [hL] at htot hj
    simp only [tot] at htot
    simp only [joinL, if_true, List.nil_append] at hj
    have hE : endOf d a (bytesOf t) 0 = (h.length : Int) := by simp [endOf, hL]
    rw [hE]
    have hex : t.extract 0 ((h.length : Int)).toNat = strOfNums h := by
      apply bytesOf_inj
      rw [bytesOf_extract, Int.toNat_natCast, List.drop_zero, ← hj, List.take_left, bytesOf_strOf h (fun x hx => mem_bytesOf (by rw [← hj]; simp [hx]))]
    have hbh : bytesOf (strOfNums h) = h := bytesOf_strOf h (fun x hx => mem_bytesOf (s := t) (by rw [← hj]; simp [hx]))
    refine Ev.step (fun k => F87.j1.eq_2 ..) (Ev.neg (by simp) (Ev.neg (by omega) (Ev.pos (by omega) (Ev.pos (by omega) ?_))))
    rw [hex]
    have hc2 := specCut_ev a b c d b (strOfNums h) (by rw [size_strOf]; omega)
    have hcb2 := cut_bytes d b (strOfNums h)
    have htot2 := tot_cut d b _ (bytesOf (strOfNums h)) (Nat.le_refl _)
    rw [hbh] at hc2 hcb2 htot2
    refine Ev.bind hc2 ?_
    dsimp only
    match hL2 : cutL d b h with
    | [] => exact absurd hL2 (cutL_ne d b _)
    | g :: r =>
      rw [hL2] at htot2 hcb2
      simp only [tot] at htot2
      have hr2 : rdOf ByteArray.empty ((g :: r).map strOfNums) 0 = strOfNums g := rfl
      refine Ev.pos (by simp only [List.length_map, List.length_cons]; omega) ?_
      rw [hr2]
      refine Ev.bind (specTag_ev _) ?_
      dsimp only
      by_cases gt : tagB (strOfNums g) = true
      · refine Ev.pos gt ?_
        rw [if_pos gt]
        have hmr : (r.map strOfNums).map bytesOf = r := (List.cons.inj hcb2).2
        have h6 := specEls_loop hs (h.length : Int) (by omega) (by omega) ((g :: r).map strOfNums) (strOfNums g) (by rw [hcb2]; simp only [tot]; omega) (r.map strOfNums) 0 [] ((g.length : Int) + 1) rfl rfl (by omega) (by simp only [List.length_map, List.length_cons]; omega) (by omega) (by rw [hmr]; omega)
        rw [hmr] at h6
        have hw : wrap64 (((strOfNums g).size : Int) + 1) = (g.length : Int) + 1 := by rw [size_strOf, wrap_id (by omega) (by omega)]
        rw [hw]
        refine h6.to ?_
        cases elsR a b c d 0 r ((g.length : Int) + 1) with
        | inl q => rfl
        | inr L => simp
      · rw [if_neg gt]
        exact Ev.neg gt (Ev.bindc rfl (Ev.now _))

/-! what is read of a segment is small -/
theorem elsR_bnd (a b c d : Int) : ∀ (P : List (List Int)) (i : Nat) (at_ : Int) (L : List S102), i ≤ 10 → elsR a b c d i P at_ = .inr L → L.length + i ≤ 10 ∧ ∀ e ∈ L, e.f0.length ≤ 4
  | [], i, at_, L, hi, h => by
    have : [] = L := by simpa [elsR] using h
    subst this
    exact ⟨by simpa using hi, fun e he => by simp at he⟩
  | p :: r, i, at_, L, hi, h => by
    simp only [elsR] at h
    split at h
    · simp at h
    · rename_i g
      cases he : elR a b c d p at_ with
      | inl z => rw [he] at h; simp at h
      | inr l =>
        rw [he] at h
        dsimp only at h
        split at h
        · simp at h
        · cases hr : elsR a b c d (i + 1) r (at_ + (p.length : Int) + 1) with
          | inl z => rw [hr] at h; simp at h
          | inr K =>
            rw [hr] at h
            dsimp only at h
            have hk := Sum.inr.inj h
            obtain ⟨h1, h2⟩ := elsR_bnd a b c d r (i + 1) _ K (by omega) hr
            have hl : l.length ≤ 4 := by
              unfold elR at he
              split at he
              · simp at he
              · rename_i g4
                cases hp : partsR a b c d (cutL d c p) at_ with
                | inl z => rw [hp] at he; simp at he
                | inr M =>
                  rw [hp] at he
                  dsimp only at he
                  split at he
                  · simp at he
                  · have := Sum.inr.inj he
                    have := partsR_len a b c d _ _ _ hp
                    subst M
                    omega
            subst hk
            refine ⟨by simp only [List.length_cons]; omega, fun e hm => ?_⟩
            rcases List.mem_cons.1 hm with rfl | hm
            · exact hl
            · exact h2 e hm
/-- At most ten elements, each of at most four parts. -/
def sBnd (R : ByteArray × (List S102) × Int × Int × Int) : Prop := R.2.1.length ≤ 10 ∧ ∀ e ∈ R.2.1, e.f0.length ≤ 4
theorem sBnd_nil (u : ByteArray) (x y z : Int) : sBnd (u, [], x, y, z) := ⟨Nat.zero_le _, fun e he => by simp at he⟩
theorem segR_bnd (a b c d : Int) (t : List Int) : sBnd (segR a b c d t) := by
  unfold segR
  split
  · exact sBnd_nil _ _ _ _
  · split
    · split
      · split
        · split
          · exact sBnd_nil _ _ _ _
          · rename_i L hL
            obtain ⟨h1, h2⟩ := elsR_bnd a b c d _ 0 _ L (by omega) hL
            exact ⟨h1, h2⟩
        · exact sBnd_nil _ _ _ _
      · exact sBnd_nil _ _ _ _
    · exact sBnd_nil _ _ _ _
theorem capR_bnd (a b c d : Int) (t : List Int) (n : Nat) (s : Bool) : sBnd (capR n s (segR a b c d t)) := by
  unfold capR
  split
  · exact sBnd_nil _ _ _ _
  · split
    · exact segR_bnd a b c d t
    · exact sBnd_nil _ _ _ _

/-! segments, read one behind the other -/
/-- What a segment read has used and where its fault lies, bounded. -/
theorem segR_rng (a b c d : Int) (t : List Int) (ht : t.length ≤ 20000) : 0 ≤ (segR a b c d t).2.2.1 ∧ (segR a b c d t).2.2.1 ≤ (t.length : Int) ∧ 0 ≤ (segR a b c d t).2.2.2.1 ∧ (segR a b c d t).2.2.2.1 ≤ 50000 := by
  unfold segR
  split
  · exact ⟨by dsimp only; omega, by dsimp only; omega, by dsimp only; omega, by dsimp only; omega⟩
  · have h1 := tot_cut d a _ t (Nat.le_refl _)
    split
    · rename_i h x r hc
      rw [hc] at h1
      simp only [tot] at h1
      have h2 := tot_cut d b _ h (Nat.le_refl _)
      split
      · rename_i g r2 hc2
        rw [hc2] at h2
        simp only [tot] at h2
        split
        · split
          · rename_i q hq
            have h3 := elsR_at a b c d r2 0 _ q hq
            exact ⟨by dsimp only; omega, by dsimp only; omega, by dsimp only; omega, by dsimp only; omega⟩
          · exact ⟨by dsimp only; omega, by dsimp only; omega, by dsimp only; omega, by dsimp only; omega⟩
        · exact ⟨by dsimp only; omega, by dsimp only; omega, by dsimp only; omega, by dsimp only; omega⟩
      · exact ⟨by dsimp only; omega, by dsimp only; omega, by dsimp only; omega, by dsimp only; omega⟩
    · exact ⟨by dsimp only; omega, by dsimp only; omega, by dsimp only; omega, by dsimp only; omega⟩
/-- Segments, read: as many as there is fuel for. -/
def segsR (a b c d : Int) : Nat → List Int → List S59 → Int → (List S59) × Int × Int × Int
  | 0, _, acc, _ => (acc, 0, 0, 0)
  | f + 1, l, acc, at_ => if l = [] then (acc, 0, 0, 0) else if acc.length = 200 then ([], at_, 200, 7) else
    if (segR a b c d l).2.2.2.2 = 0 then segsR a b c d f (l.drop (segR a b c d l).2.2.1.toNat) (acc ++ [⟨(segR a b c d l).1, (segR a b c d l).2.1⟩]) (at_ + (segR a b c d l).2.2.1)
    else ([], at_ + (segR a b c d l).2.2.2.1, (acc.length : Int), (segR a b c d l).2.2.2.2)
theorem tail_bytes (t : ByteArray) (x : Int) (h0 : 0 ≤ x) (h1 : x ≤ (t.size : Int)) : bytesOf (t.extract x.toNat t.size) = (bytesOf t).drop x.toNat := by
  rw [bytesOf_extract]
  rw [List.take_of_length_le (by rw [length_bytesOf]; exact Nat.le_refl _)]
theorem implSegs_loop {a b c d : Int} (hs : synP a b c d = true) (t : ByteArray) (ht : t.size ≤ 20000) : ∀ (f : Nat) (acc : List S59) (x : Int), acc.length + f ≥ 201 → acc.length ≤ 200 → 0 ≤ x → x ≤ (t.size : Int) →
    Ev (fun k => F51.l0 k t acc x a b c d) (segsR a b c d f ((bytesOf t).drop x.toNat) acc x) := by
  intro f
  induction f with
  | zero => intro acc x h1 h2; omega
  | succ f ih =>
    intro acc x h1 h2 h3 h4
    have hl : ((bytesOf t).drop x.toNat).length = t.size - x.toNat := by rw [List.length_drop, length_bytesOf]
    unfold segsR
    by_cases g : x < (t.size : Int)
    · have hne : (bytesOf t).drop x.toNat ≠ [] := by intro h; rw [h] at hl; simp at hl; omega
      rw [if_neg hne]
      have hr := implSegRead_ev a b c d (t.extract x.toNat t.size)
      have hz : (t.extract x.toNat t.size).size = t.size - x.toNat := by rw [← length_bytesOf, tail_bytes t x h3 h4, hl]
      have hcap : capR (t.extract x.toNat t.size).size (synP a b c d) (segR a b c d (bytesOf (t.extract x.toNat t.size))) = segR a b c d ((bytesOf t).drop x.toNat) := by
        unfold capR
        rw [if_neg (by rw [hz]; omega), if_pos hs, tail_bytes t x h3 h4]
      rw [hcap] at hr
      have hg := segR_rng a b c d ((bytesOf t).drop x.toNat) (by rw [hl]; omega)
      refine Ev.step (fun k => F51.l0.eq_2 ..) (Ev.pos g (Ev.pos h3 (Ev.pos h4 (Ev.bind hr ?_))))
      by_cases g2 : acc.length = 200
      · rw [if_pos g2]
        refine Ev.pos (by omega) (Ev.neg (by decide) (Ev.ret ?_))
        rw [wrap_id (by omega) (by omega), g2, Int.add_zero]
        rfl
      · rw [if_neg g2]
        refine Ev.neg (by omega) ?_
        by_cases g3 : (segR a b c d ((bytesOf t).drop x.toNat)).2.2.2.2 = 0
        · rw [if_pos g3]
          refine Ev.pos g3 (Ev.pos (by omega) ?_)
          rw [wrap_id (by omega) (by omega)]
          have h5 := ih (acc ++ [⟨(segR a b c d ((bytesOf t).drop x.toNat)).1, (segR a b c d ((bytesOf t).drop x.toNat)).2.1⟩]) (x + (segR a b c d ((bytesOf t).drop x.toNat)).2.2.1) (by simp; omega) (by simp; omega) (by omega) (by rw [hl] at hg; omega)
          refine h5.to ?_
          rw [List.drop_drop, show (x + (segR a b c d ((bytesOf t).drop x.toNat)).2.2.1).toNat = x.toNat + (segR a b c d ((bytesOf t).drop x.toNat)).2.2.1.toNat from by omega]
        · rw [if_neg g3]
          refine Ev.neg g3 (Ev.ret ?_)
          rw [wrap_id (by omega) (by omega)]
    · have he : (bytesOf t).drop x.toNat = [] := List.length_eq_zero_iff.1 (by omega)
      rw [if_pos he]
      exact Ev.step (fun k => F51.l0.eq_2 ..) (Ev.neg g (Ev.now _))
theorem specSegs_loop {a b c d : Int} (hs : synP a b c d = true) (t : ByteArray) (ht : t.size ≤ 20000) : ∀ (f : Nat) (acc : List S59) (x : Int), acc.length + f ≥ 201 → acc.length ≤ 200 → 0 ≤ x → x ≤ (t.size : Int) →
    Ev (fun k => F94.l0 k t x a b c d acc 0 0 0) (segsR a b c d f ((bytesOf t).drop x.toNat) acc x) := by
  intro f
  induction f with
  | zero => intro acc x h1 h2; omega
  | succ f ih =>
    intro acc x h1 h2 h3 h4
    have hl : ((bytesOf t).drop x.toNat).length = t.size - x.toNat := by rw [List.length_drop, length_bytesOf]
    unfold segsR
    by_cases g : x < (t.size : Int)
    · have hne : (bytesOf t).drop x.toNat ≠ [] := by intro h; rw [h] at hl; simp at hl; omega
      rw [if_neg hne]
      have hz : (t.extract x.toNat t.size).size = t.size - x.toNat := by rw [← length_bytesOf, tail_bytes t x h3 h4, hl]
      have hr := spec_l02Read_ev hs (t.extract x.toNat t.size) (by rw [hz]; omega)
      rw [tail_bytes t x h3 h4] at hr
      have hg := segR_rng a b c d ((bytesOf t).drop x.toNat) (by rw [hl]; omega)
      refine Ev.step (fun k => F94.l0.eq_2 ..) (Ev.pos g ?_)
      by_cases g2 : acc.length = 200
      · rw [if_pos g2]
        refine Ev.pos (by omega) (Ev.ret ?_)
        rw [g2]
        rfl
      · rw [if_neg g2]
        refine Ev.neg (by omega) (Ev.pos h3 (Ev.pos h4 (Ev.bind hr ?_)))
        by_cases g3 : (segR a b c d ((bytesOf t).drop x.toNat)).2.2.2.2 = 0
        · rw [if_pos g3]
          refine Ev.pos g3 (Ev.pos (by omega) ?_)
          rw [wrap_id (by omega) (by omega)]
          have h5 := ih (acc ++ [⟨(segR a b c d ((bytesOf t).drop x.toNat)).1, (segR a b c d ((bytesOf t).drop x.toNat)).2.1⟩]) (x + (segR a b c d ((bytesOf t).drop x.toNat)).2.2.1) (by simp; omega) (by simp; omega) (by omega) (by rw [hl] at hg; omega)
          refine h5.to ?_
          rw [List.drop_drop, show (x + (segR a b c d ((bytesOf t).drop x.toNat)).2.2.1).toNat = x.toNat + (segR a b c d ((bytesOf t).drop x.toNat)).2.2.1.toNat from by omega]
        · rw [if_neg g3]
          refine Ev.neg g3 (Ev.ret ?_)
          rw [wrap_id (by omega) (by omega)]
    · have he : (bytesOf t).drop x.toNat = [] := List.length_eq_zero_iff.1 (by omega)
      rw [if_pos he]
      exact Ev.step (fun k => F94.l0.eq_2 ..) (Ev.neg g (Ev.now _))
/-- .. with what is ahead of it. -/
def capsR (n : Nat) (s : Bool) (R : (List S59) × Int × Int × Int) : (List S59) × Int × Int × Int := if n > 20000 then ([], 0, 0, 2) else if s then R else ([], 0, 0, 1)
theorem implSegsRead_ev (a b c d : Int) (t : ByteArray) : Ev (fun k => F51.f k a b c d t) (capsR t.size (synP a b c d) (segsR a b c d 201 (bytesOf t) [] 0)) := by
  unfold F51.f capsR
  by_cases g : (t.size : Int) > 20000
  · exact Ev.bind (longText_ev t) (Ev.pos (by simpa using g) (Ev.ret (by rw [if_pos (by omega)])))
  have ht : ¬ t.size > 20000 := by omega
  simp only [if_neg ht]
  refine Ev.bind (longText_ev t) (Ev.neg (by simpa using g) (Ev.bind (implSyntaxRight_ev a b c d) ?_))
  cases hs : synP a b c d with
  | false => exact Ev.neg (by simp) (Ev.now _)
  | true =>
    have h := implSegs_loop hs t (by omega) 201 [] 0 (by simp) (by simp) (by omega) (by omega)
    exact Ev.pos rfl (h.to (by rw [if_pos rfl]; rfl))
theorem specSegsRead_ev (a b c d : Int) (t : ByteArray) : Ev (fun k => F50.f k a b c d t) (capsR t.size (synP a b c d) (segsR a b c d 201 (bytesOf t) [] 0)) := by
  unfold F50.f capsR
  by_cases g : (t.size : Int) > 20000
  · exact Ev.pos g (Ev.ret (by rw [if_pos (by omega)]))
  have ht : ¬ t.size > 20000 := by omega
  simp only [if_neg ht]
  refine Ev.neg g (Ev.bind (specSyntaxRight_ev a b c d) ?_)
  cases hs : synP a b c d with
  | false => exact Ev.neg (by simp) (Ev.now _)
  | true =>
    have h := specSegs_loop hs t (by omega) 201 [] 0 (by simp) (by simp) (by omega) (by omega)
    exact Ev.pos rfl (Ev.bind (h.to (r' := segsR a b c d 201 (bytesOf t) [] 0) rfl) (Ev.ret (by rw [if_pos rfl])))
/-- At most two hundred segments, each small. -/
def sgB (R : (List S59) × Int × Int × Int) : Prop := R.1.length ≤ 200 ∧ ∀ g ∈ R.1, g.f1.length ≤ 10 ∧ ∀ e ∈ g.f1, e.f0.length ≤ 4
theorem segsR_bnd (a b c d : Int) : ∀ (f : Nat) (l : List Int) (acc : List S59) (x : Int), sgB (acc, 0, 0, 0) → sgB (segsR a b c d f l acc x)
  | 0, _, _, _, h => h
  | f + 1, l, acc, x, h => by
    unfold segsR
    split
    · exact h
    · split
      · exact ⟨Nat.zero_le _, fun g hg => by simp at hg⟩
      · rename_i g2
        split
        · refine segsR_bnd a b c d f _ _ _ ⟨?_, fun g hg => ?_⟩
          · have := h.1
            simp only [List.length_append, List.length_cons, List.length_nil] at this ⊢
            omega
          · rcases List.mem_append.1 hg with hg | hg
            · exact h.2 g hg
            · rw [List.mem_singleton.1 hg]
              exact segR_bnd a b c d l
        · exact ⟨Nat.zero_le _, fun g hg => by simp at hg⟩
theorem capsR_bnd (a b c d : Int) (l : List Int) (n : Nat) (s : Bool) : sgB (capsR n s (segsR a b c d 201 l [] 0)) := by
  have h0 : sgB (([] : List S59), 0, 0, 0) := ⟨Nat.zero_le _, fun g hg => by simp at hg⟩
  unfold capsR
  split
  · exact ⟨Nat.zero_le _, fun g hg => by simp at hg⟩
  · split
    · exact segsR_bnd a b c d 201 l [] 0 h0
    · exact ⟨Nat.zero_le _, fun g hg => by simp at hg⟩

/-! elements, marked and held -/
theorem markEls_held : ∀ (n : Nat) (L : List S102) (i : Nat) (x : Int), L.length - i = n → L.length ≤ 1000 → (∀ j, i ≤ j → j < L.length → (L.getD j z102).f0.length ≤ 4) → 0 ≤ x → x + 4 * (n : Int) ≤ 100000 →
    ∃ F m, Ev (fun k => F115.l0 k L x (i : Int)) (m, F) ∧ F.length = L.length ∧ (∀ j, j < i → F.getD j z102 = L.getD j z102) ∧ Ev (fun k => F116.l0 k F x (i : Int)) m ∧ x ≤ m ∧ m ≤ x + 4 * (n : Int) := by
  intro n
  induction n with
  | zero =>
    intro L i x hn hl _ h0 _
    exact ⟨L, x, Ev.step (fun k => F115.l0.eq_2 ..) (Ev.neg (by omega) (Ev.now _)), rfl, fun _ _ => rfl, Ev.step (fun k => F116.l0.eq_2 ..) (Ev.neg (by omega) (Ev.now _)), by omega, by omega⟩
  | succ n ih =>
    intro L i x hn hl hb h0 h1
    have hi : i < L.length := by omega
    have hr : rd_T102 L (i : Int) = L.getD i z102 := by unfold rd_T102; rw [Int.toNat_natCast]
    have h4 := hb i (by omega) hi
    obtain ⟨G, y, g1, g2, g3, g4⟩ := markStringS_held (L.getD i z102).f0 x (by omega) (by omega) (by omega)
    have hwi : wrap64 ((i : Int) + 1) = ((i + 1 : Nat) : Int) := by rw [wrap_id (by omega) (by omega)]; omega
    obtain ⟨F, m, e1, e2, e3, e4, e5, e6⟩ := ih (L.set i ⟨G⟩) (i + 1) y (by rw [List.length_set]; omega) (by rw [List.length_set]; omega) (fun j hj hj2 => by
      rw [List.length_set] at hj2
      have := hb j (by omega) hj2
      simp only [List.getD_eq_getElem?_getD] at this ⊢
      rw [List.getElem?_set_ne (by omega)]
      exact this) (by omega) (by omega)
    rw [List.length_set] at e2
    have hF : rd_T102 F (i : Int) = ⟨G⟩ := by
      unfold rd_T102
      rw [Int.toNat_natCast, e3 i (by omega)]
      simp only [List.getD_eq_getElem?_getD]
      rw [List.getElem?_set_self (by omega)]
      rfl
    refine ⟨F, m, Ev.step (fun k => F115.l0.eq_2 ..) (Ev.pos (by omega) (Ev.pos (by omega) ?_)), e2, fun j hj => ?_, Ev.step (fun k => F116.l0.eq_2 ..) (Ev.pos (by omega) (Ev.pos (by omega) ?_)), by omega, by omega⟩
    · rw [hr, hwi, Int.toNat_natCast]
      exact Ev.bind g1 e1
    · rw [e3 j (by omega)]
      simp only [List.getD_eq_getElem?_getD]
      rw [List.getElem?_set_ne (by omega)]
    · rw [hF, hwi]
      exact Ev.bind g2 (Ev.neg (by omega) e4)

/-! segments, marked and held -/
theorem markSegs_held : ∀ (n : Nat) (L : List S59) (i : Nat) (x : Int), L.length - i = n → L.length ≤ 1000 → (∀ j, i ≤ j → j < L.length → (L.getD j z59).f1.length ≤ 10 ∧ ∀ e ∈ (L.getD j z59).f1, e.f0.length ≤ 4) → 0 ≤ x → x + 41 * (n : Int) ≤ 100000 →
    ∃ F m, Ev (fun k => F95.l0 k L x (i : Int)) (m, F) ∧ F.length = L.length ∧ (∀ j, j < i → F.getD j z59 = L.getD j z59) ∧ Ev (fun k => F96.l0 k F x (i : Int)) m ∧ x ≤ m := by
  intro n
  induction n with
  | zero =>
    intro L i x hn hl _ h0 _
    exact ⟨L, x, Ev.step (fun k => F95.l0.eq_2 ..) (Ev.neg (by omega) (Ev.now _)), rfl, fun _ _ => rfl, Ev.step (fun k => F96.l0.eq_2 ..) (Ev.neg (by omega) (Ev.now _)), by omega⟩
  | succ n ih =>
    intro L i x hn hl hb h0 h1
    have hi : i < L.length := by omega
    have hr : rd_T59 L (i : Int) = L.getD i z59 := by unfold rd_T59; rw [Int.toNat_natCast]
    obtain ⟨h4, h5⟩ := hb i (by omega) hi
    have hw1 : wrap64 (x + 1) = x + 1 := wrap_id (by omega) (by omega)
    obtain ⟨G, y, g1, _, _, g2, g3, g4⟩ := markEls_held (L.getD i z59).f1.length (L.getD i z59).f1 0 (x + 1) rfl (by omega) (fun j _ hj => h5 _ (getD_mem z102 hj)) (by omega) (by omega)
    have hwi : wrap64 ((i : Int) + 1) = ((i + 1 : Nat) : Int) := by rw [wrap_id (by omega) (by omega)]; omega
    obtain ⟨F, m, e1, e2, e3, e4, e5⟩ := ih (L.set i ⟨mt x, G⟩) (i + 1) y (by rw [List.length_set]; omega) (by rw [List.length_set]; omega) (fun j hj hj2 => by
      rw [List.length_set] at hj2
      have := hb j (by omega) hj2
      simp only [List.getD_eq_getElem?_getD] at this ⊢
      rw [List.getElem?_set_ne (by omega)]
      exact this) (by omega) (by omega)
    rw [List.length_set] at e2
    have hF : rd_T59 F (i : Int) = ⟨mt x, G⟩ := by
      unfold rd_T59
      rw [Int.toNat_natCast, e3 i (by omega)]
      simp only [List.getD_eq_getElem?_getD]
      rw [List.getElem?_set_self (by omega)]
      rfl
    refine ⟨F, m, Ev.step (fun k => F95.l0.eq_2 ..) (Ev.pos (by omega) (Ev.pos (by omega) (Ev.bind (mt_ev x (by omega)) ?_))), e2, fun j hj => ?_, Ev.step (fun k => F96.l0.eq_2 ..) (Ev.pos (by omega) (Ev.pos (by omega) (Ev.bind (mt_ev x (by omega)) ?_))), by omega⟩
    · rw [hr, hw1, hwi, Int.toNat_natCast]
      exact Ev.bind g1 e1
    · rw [e3 j (by omega)]
      simp only [List.getD_eq_getElem?_getD]
      rw [List.getElem?_set_ne (by omega)]
    · rw [hF, hw1, hwi]
      exact Ev.pos rfl (Ev.bind g2 (Ev.neg (by omega) e4))

theorem FnExactSegmentsRead : F13.Pure := by
  intro a b c d t _ _ _ _ _
  refine Ev.rounds (g := fun k => F13.f k a b c d t) ?_
  unfold F13.f
  refine Ev.ite (fun _ => Ev.now _) (fun _ => ?_)
  have x1 := implSegsRead_ev a b c d t
  have x2 := specSegsRead_ev a b c d t
  have hB := capsR_bnd a b c d (bytesOf t) t.size (synP a b c d)
  obtain ⟨L, u, v, w, hR⟩ : ∃ L u v w, capsR t.size (synP a b c d) (segsR a b c d 201 (bytesOf t) [] 0) = (L, u, v, w) := ⟨_, _, _, _, rfl⟩
  rw [hR] at x1 x2 hB
  obtain ⟨b1, b2⟩ := hB
  dsimp only at b1 b2
  have he : Ev (fun k => F52.f k L u v w L u v w) true := Ev.bind (eqSegmentS_refl L (by omega) (fun g hg => ⟨by have := (b2 g hg).1; omega, fun y hy => by have := (b2 g hg).2 y hy; show (y.f0.length : Int) ≤ _; omega⟩)) (Ev.pos rfl (Ev.pos rfl (Ev.pos rfl (Ev.pos rfl (Ev.now _)))))
  obtain ⟨F, m, m1, _, _, m2, m3⟩ := markSegs_held L.length L 0 1 rfl (by omega) (fun j _ hj => b2 _ (getD_mem z59 hj)) (by omega) (by omega)
  have m1' : Ev (fun k => F53.f k L u v w 1) (m, F) := m1
  have m2' : Ev (fun k => F54.f k F u v w 1) m := Ev.bind m2 (Ev.neg (by omega) (Ev.now _))
  exact Ev.bindc rfl (Ev.bind x2 (Ev.bindc rfl (Ev.bind x1 (Ev.bind he (Ev.pos rfl (Ev.bind m1' (Ev.bind m2' (Ev.neg (by omega) (Ev.pos rfl (Ev.bindc rfl (Ev.bind x1 (Ev.bind he (Ev.pos rfl (Ev.bind m2' (Ev.neg (by omega) (Ev.pos rfl (Ev.now _)))))))))))))))))

end Go.Proofs.Ytchoalagkcdbhaa.Pure
