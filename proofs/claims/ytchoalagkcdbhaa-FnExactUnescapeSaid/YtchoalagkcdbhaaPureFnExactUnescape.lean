/- Unescape: the two answers are one
Conditions: none. -/
import Derived.Test.YtchoalagkcdbhaaPFnExactUnescapex
import Derived.Test.YtchoalagkcdbhaaPl
namespace Go.Proofs.Ytchoalagkcdbhaa.Pure
open Go.RowKit Go.Proofs.Ytchoalagkcdbhaa.PFnExactUnescape Go.Proofs.YtchoalagkcdbhaaW.PrintWords Go.Proofs.YtchoalagkcdbhaaW.PrintLast Go.Proofs.YtchoalagkcdbhaaW.PrintMore Go.Proofs.YtchoalagkcdbhaaW.Pl
set_option linter.unusedVariables false
set_option linter.unusedSimpArgs false

theorem within_eq (a b c : Int) : impl_within.f a b c = some (withinP a b c) := by
  unfold impl_within.f withinP
  split
  · congr 1; simp only [decide_eq_decide]; omega
  · congr 1; symm; simp only [decide_eq_false_iff_not]; omega

theorem isGreat_eq (c : Int) : impl_isGreat.f c = some (great c) := by
  unfold impl_isGreat.f great
  split
  · congr 1; simp only [decide_eq_decide]; omega
  · congr 1; symm; simp only [decide_eq_false_iff_not]; omega
theorem isDigit_eq (c : Int) : impl_isDigit.f c = some (digit c) := by
  unfold impl_isDigit.f digit
  split
  · congr 1; simp only [decide_eq_decide]; omega
  · congr 1; symm; simp only [decide_eq_false_iff_not]; omega

theorem index_loop (l : List Int) (v : Int) (hl : (l.length : Int) ≤ 4611686018427387904) : ∀ (r : List Int) (i : Nat), l.drop i = r → ∃ x : Int, Ev (fun k => slices_Index_int64_int64.l0 k l v (l.length : Int) (i : Int)) x ∧ decide (x ≥ 0) = r.contains v := by
  intro r
  induction r with
  | nil =>
    intro i h
    have h0 := ldrop_nil h
    exact ⟨-1, Ev.step (fun k => slices_Index_int64_int64.l0.eq_2 ..) (Ev.neg (by omega) (Ev.now _)), by simp⟩
  | cons c r ih =>
    intro i h
    obtain ⟨h1, h2, h3⟩ := rd_cons h
    have hw : wrap64 ((i : Int) + 1) = ((i + 1 : Nat) : Int) := by rw [wrap_id (by omega) (by omega)]; omega
    obtain ⟨x, hx, he⟩ := ih (i + 1) h3
    by_cases hv : v = c
    · refine ⟨i, Ev.step (fun k => slices_Index_int64_int64.l0.eq_2 ..) (Ev.pos h1 (Ev.pos (by omega) (Ev.pos h1 ?_))), by simp [hv]⟩
      rw [h2]
      exact Ev.pos hv (Ev.now _)
    · refine ⟨x, Ev.step (fun k => slices_Index_int64_int64.l0.eq_2 ..) (Ev.pos h1 (Ev.pos (by omega) (Ev.pos h1 ?_))), by rw [he]; simp [hv]⟩
      rw [h2, hw]
      exact Ev.neg hv hx
theorem contains_ev (l : List Int) (v : Int) (hl : (l.length : Int) ≤ 4611686018427387904) : Ev (fun k => slices_Contains_int64_int64.f k l v) (l.contains v) := by
  obtain ⟨x, hx, he⟩ := index_loop l v hl l 0 rfl
  unfold slices_Contains_int64_int64.f
  refine Ev.bind (show Ev (fun k => slices_Index_int64_int64.f k l v) x from hx) ?_
  exact Ev.ret he

theorem l01Mark_eq (c : Int) : spec_l01Mark.f c = some (markP c) := by
  have hf : ∀ {b : Bool}, markP c = b → some b = some (markP c) := fun h => by rw [h]
  have ht : 33 ≤ c → c ≤ 126 → c ≠ 45 → ¬ (65 ≤ c ∧ c ≤ 90) → ¬ (97 ≤ c ∧ c ≤ 122) → ¬ (48 ≤ c ∧ c ≤ 57) → markP c = true := fun h1 h2 h3 h4 h5 h6 => markP_iff.2 ⟨h1, h2, h3, h4, h5, h6⟩
  have hn : ¬ (33 ≤ c ∧ c ≤ 126 ∧ c ≠ 45 ∧ ¬ (65 ≤ c ∧ c ≤ 90) ∧ ¬ (97 ≤ c ∧ c ≤ 122) ∧ ¬ (48 ≤ c ∧ c ≤ 57)) → markP c = false := markP_not.2
  unfold spec_l01Mark.f
  repeat' split
  all_goals (apply hf; first | exact hn (by omega) | exact ht (by omega) (by omega) (by omega) (by omega) (by omega) (by omega) | (simp only [Bool.not_true, Bool.not_false]; first | exact hn (by omega) | exact ht (by omega) (by omega) (by omega) (by omega) (by omega) (by omega)) | skip)
  all_goals
    by_cases h57 : c ≤ 57
    · rw [decide_eq_true h57]; exact hn (by omega)
    · rw [decide_eq_false h57]; exact ht (by omega) (by omega) (by omega) (by omega) (by omega) (by omega)

section
variable (a b c d : Int)
theorem sA (i : Int) (x : Int) {r : Bool} (h0 : 0 ≤ i) (h4 : i < 4) (hx : rd [a, b, c, d] i = x) (hm : markP x = true) (h : Ev (fun k => spec_SyntaxRight.l1 k [a, b, c, d] i 0) r) : Ev (fun k => spec_SyntaxRight.l0 k [a, b, c, d] i) r := by
  refine Ev.step (fun k => spec_SyntaxRight.l0.eq_2 ..) (Ev.pos h4 (Ev.pos h0 (Ev.pos (by simp; omega) ?_)))
  rw [hx]
  exact Ev.bindc (l01Mark_eq x) (Ev.pos hm h)
theorem sA' (i : Int) (x : Int) (h0 : 0 ≤ i) (h4 : i < 4) (hx : rd [a, b, c, d] i = x) (hm : markP x = false) : Ev (fun k => spec_SyntaxRight.l0 k [a, b, c, d] i) false := by
  refine Ev.step (fun k => spec_SyntaxRight.l0.eq_2 ..) (Ev.pos h4 (Ev.pos h0 (Ev.pos (by simp; omega) ?_)))
  rw [hx]
  exact Ev.bindc (l01Mark_eq x) (Ev.neg (by simp [hm]) (Ev.now _))
theorem sA4 : Ev (fun k => spec_SyntaxRight.l0 k [a, b, c, d] 4) true := Ev.step (fun k => spec_SyntaxRight.l0.eq_2 ..) (Ev.neg (by omega) (Ev.now _))
theorem sB (i j : Int) (x y : Int) {r : Bool} (h0 : 0 ≤ j) (h : j < i) (h4 : i < 4) (hx : rd [a, b, c, d] j = x) (hy : rd [a, b, c, d] i = y) (hm : x ≠ y) (hn : Ev (fun k => spec_SyntaxRight.l1 k [a, b, c, d] i (j + 1)) r) : Ev (fun k => spec_SyntaxRight.l1 k [a, b, c, d] i j) r := by
  refine Ev.step (fun k => spec_SyntaxRight.l1.eq_2 ..) (Ev.pos h (Ev.pos h0 (Ev.pos (by simp; omega) (Ev.pos (by omega) (Ev.pos (by simp; omega) ?_)))))
  rw [hx, hy, wrap_id (by omega) (by omega)]
  exact Ev.neg hm hn
theorem sB' (i j : Int) (x y : Int) (h0 : 0 ≤ j) (h : j < i) (h4 : i < 4) (hx : rd [a, b, c, d] j = x) (hy : rd [a, b, c, d] i = y) (hm : x = y) : Ev (fun k => spec_SyntaxRight.l1 k [a, b, c, d] i j) false := by
  refine Ev.step (fun k => spec_SyntaxRight.l1.eq_2 ..) (Ev.pos h (Ev.pos h0 (Ev.pos (by simp; omega) (Ev.pos (by omega) (Ev.pos (by simp; omega) ?_)))))
  rw [hx, hy]
  exact Ev.pos hm (Ev.now _)
theorem sBe (i : Int) {r : Bool} (h0 : 0 ≤ i) (h4 : i < 4) (hn : Ev (fun k => spec_SyntaxRight.l0 k [a, b, c, d] (i + 1)) r) : Ev (fun k => spec_SyntaxRight.l1 k [a, b, c, d] i i) r := by
  refine Ev.step (fun k => spec_SyntaxRight.l1.eq_2 ..) (Ev.neg (by omega) ?_)
  rw [wrap_id (by omega) (by omega)]
  exact hn
theorem specSyntaxRight_ev : Ev (fun k => spec_SyntaxRight.f k a b c d) (synP a b c d) := by
  show Ev (fun k => spec_SyntaxRight.l0 k [a, b, c, d] 0) _
  have no_ : ∀ {g : Nat → Option Bool}, synP a b c d = false → Ev g false → Ev g (synP a b c d) := fun h e => by rw [h]; exact e
  by_cases m0 : markP a = true
  rotate_left
  · exact no_ (by simp [synP, m0]) (sA' a b c d 0 a (by omega) (by omega) rfl (by simpa using m0))
  refine sA a b c d 0 a (by omega) (by omega) rfl m0 (sBe a b c d 0 (by omega) (by omega) ?_)
  by_cases m1 : markP b = true
  rotate_left
  · exact no_ (by simp [synP, m1]) (sA' a b c d 1 b (by omega) (by omega) rfl (by simpa using m1))
  refine sA a b c d 1 b (by omega) (by omega) rfl m1 ?_
  by_cases e01 : a = b
  · exact no_ (by simp [synP, e01]) (sB' a b c d 1 0 a b (by omega) (by omega) (by omega) rfl rfl e01)
  refine sB a b c d 1 0 a b (by omega) (by omega) (by omega) rfl rfl e01 (sBe a b c d 1 (by omega) (by omega) ?_)
  by_cases m2 : markP c = true
  rotate_left
  · exact no_ (by simp [synP, m2]) (sA' a b c d 2 c (by omega) (by omega) rfl (by simpa using m2))
  refine sA a b c d 2 c (by omega) (by omega) rfl m2 ?_
  by_cases e02 : a = c
  · exact no_ (by simp [synP, e02]) (sB' a b c d 2 0 a c (by omega) (by omega) (by omega) rfl rfl e02)
  refine sB a b c d 2 0 a c (by omega) (by omega) (by omega) rfl rfl e02 ?_
  by_cases e12 : b = c
  · exact no_ (by simp [synP, e12]) (sB' a b c d 2 1 b c (by omega) (by omega) (by omega) rfl rfl e12)
  refine sB a b c d 2 1 b c (by omega) (by omega) (by omega) rfl rfl e12 (sBe a b c d 2 (by omega) (by omega) ?_)
  by_cases m3 : markP d = true
  rotate_left
  · exact no_ (by simp [synP, m3]) (sA' a b c d 3 d (by omega) (by omega) rfl (by simpa using m3))
  refine sA a b c d 3 d (by omega) (by omega) rfl m3 ?_
  by_cases e03 : a = d
  · exact no_ (by simp [synP, e03]) (sB' a b c d 3 0 a d (by omega) (by omega) (by omega) rfl rfl e03)
  refine sB a b c d 3 0 a d (by omega) (by omega) (by omega) rfl rfl e03 ?_
  by_cases e13 : b = d
  · exact no_ (by simp [synP, e13]) (sB' a b c d 3 1 b d (by omega) (by omega) (by omega) rfl rfl e13)
  refine sB a b c d 3 1 b d (by omega) (by omega) (by omega) rfl rfl e13 ?_
  by_cases e23 : c = d
  · exact no_ (by simp [synP, e23]) (sB' a b c d 3 2 c d (by omega) (by omega) (by omega) rfl rfl e23)
  refine sB a b c d 3 2 c d (by omega) (by omega) (by omega) rfl rfl e23 (sBe a b c d 3 (by omega) (by omega) ?_)
  rw [synP_iff.2 ⟨m0, m1, m2, m3, e01, e02, e12, e03, e13, e23⟩]
  exact sA4 a b c d
end

section
variable (a b c d : Int)
/-- One round of the program's loop: the byte is a mark, and none ahead is it. -/
theorem iA (i : Int) (x : Int) (pre : List Int) {r : Bool} (h0 : 0 ≤ i) (h4 : i < 4) (hx : rd [a, b, c, d] i = x) (hp : [a, b, c, d].take i.toNat = pre) (hm : markP x = true) (hc : pre.contains x = false) (h : Ev (fun k => impl_SyntaxRight.l0 k [a, b, c, d] [a, b, c, d] 4 (i + 1)) r) :
    Ev (fun k => impl_SyntaxRight.l0 k [a, b, c, d] [a, b, c, d] 4 i) r := by
  have hm' := markP_iff.1 hm
  refine Ev.step (fun k => impl_SyntaxRight.l0.eq_2 ..) (Ev.pos h4 (Ev.pos h0 (Ev.pos (by simp; omega) ?_)))
  rw [hx, hp]
  refine Ev.bindc (within_eq _ _ _) (Ev.pos (by simp [withinP]; omega) (Ev.pos (by simp; omega) ?_))
  refine Ev.bind (contains_ev pre x (by rw [← hp]; simp; omega)) ?_
  rw [hc]
  refine Ev.step (fun k => impl_SyntaxRight.j1.eq_2 ..) (Ev.neg (by simp) ?_)
  have e : x % 256 = x := by omega
  rw [e, wrap_id (by omega) (by omega)]
  refine Ev.bindc (isGreat_eq x) (Ev.neg (by simp [great]; omega) ?_)
  refine Ev.ite (fun _ => Ev.neg (by omega) ?_) (fun _ => ?_)
  · exact Ev.bindc (isDigit_eq x) (Ev.neg (by simp [digit]; omega) (Ev.neg (by omega) h))
  · exact Ev.bindc (isDigit_eq x) (Ev.neg (by simp [digit]; omega) (Ev.neg (by omega) h))
theorem iA' (i : Int) (x : Int) (pre : List Int) (h0 : 0 ≤ i) (h4 : i < 4) (hx : rd [a, b, c, d] i = x) (hp : [a, b, c, d].take i.toNat = pre) (hm : markP x = false ∨ pre.contains x = true) :
    Ev (fun k => impl_SyntaxRight.l0 k [a, b, c, d] [a, b, c, d] 4 i) false := by
  refine Ev.step (fun k => impl_SyntaxRight.l0.eq_2 ..) (Ev.pos h4 (Ev.pos h0 (Ev.pos (by simp; omega) ?_)))
  rw [hx, hp]
  have hj : Ev (fun k => impl_SyntaxRight.j1 k [a, b, c, d] x [a, b, c, d] 4 i true) false := Ev.step (fun k => impl_SyntaxRight.j1.eq_2 ..) (Ev.pos rfl (Ev.now _))
  refine Ev.bindc (within_eq _ _ _) (Ev.ite (fun w => ?_) (fun _ => hj))
  simp only [withinP, decide_eq_true_eq] at w
  refine Ev.pos (by simp; omega) (Ev.bind (contains_ev pre x (by rw [← hp]; simp; omega)) ?_)
  by_cases hc : pre.contains x = true
  · rw [hc]; exact hj
  · have hm0 : markP x = false := by
      rcases hm with h | h
      · exact h
      · exact absurd h hc
    rw [show pre.contains x = false from by simpa using hc]
    have hn : ¬ (33 ≤ x ∧ x ≤ 126 ∧ x ≠ 45 ∧ ¬ (65 ≤ x ∧ x ≤ 90) ∧ ¬ (97 ≤ x ∧ x ≤ 122) ∧ ¬ (48 ≤ x ∧ x ≤ 57)) := markP_not.1 hm0
    have e : x % 256 = x := by omega
    refine Ev.step (fun k => impl_SyntaxRight.j1.eq_2 ..) (Ev.neg (by simp) ?_)
    rw [e]
    refine Ev.bindc (isGreat_eq x) (Ev.ite (fun _ => Ev.now _) (fun g1 => ?_))
    simp only [great, decide_eq_true_eq] at g1
    refine Ev.ite (fun g2 => Ev.ite (fun _ => Ev.now _) (fun g3 => ?_)) (fun g2 => ?_)
    · refine Ev.bindc (isDigit_eq x) (Ev.ite (fun _ => Ev.now _) (fun g4 => Ev.ite (fun _ => Ev.now _) (fun g5 => ?_)))
      simp only [digit, decide_eq_true_eq] at g4
      exact absurd (show 33 ≤ x ∧ x ≤ 126 ∧ x ≠ 45 ∧ ¬ (65 ≤ x ∧ x ≤ 90) ∧ ¬ (97 ≤ x ∧ x ≤ 122) ∧ ¬ (48 ≤ x ∧ x ≤ 57) by omega) hn
    · refine Ev.bindc (isDigit_eq x) (Ev.ite (fun _ => Ev.now _) (fun g4 => Ev.ite (fun _ => Ev.now _) (fun g5 => ?_)))
      simp only [digit, decide_eq_true_eq] at g4
      exact absurd (show 33 ≤ x ∧ x ≤ 126 ∧ x ≠ 45 ∧ ¬ (65 ≤ x ∧ x ≤ 90) ∧ ¬ (97 ≤ x ∧ x ≤ 122) ∧ ¬ (48 ≤ x ∧ x ≤ 57) by omega) hn
theorem implSyntaxRight_ev : Ev (fun k => impl_SyntaxRight.f k a b c d) (synP a b c d) := by
  unfold impl_SyntaxRight.f
  refine Ev.bindc (show impl_Syntax_fields.f a b c d = some [a, b, c, d] from rfl) ?_
  show Ev (fun k => impl_SyntaxRight.l0 k [a, b, c, d] [a, b, c, d] 4 0) _
  have no_ : ∀ {g : Nat → Option Bool}, synP a b c d = false → Ev g false → Ev g (synP a b c d) := fun h e => by rw [h]; exact e
  by_cases m0 : markP a = true
  rotate_left
  · exact no_ (by simp [synP, m0]) (iA' a b c d 0 a [] (by omega) (by omega) rfl rfl (.inl (by simpa using m0)))
  refine iA a b c d 0 a [] (by omega) (by omega) rfl rfl m0 rfl ?_
  by_cases m1 : markP b = true ∧ a ≠ b
  rotate_left
  · exact no_ (by simp only [not_and, Decidable.not_not] at m1; simp only [synP, Bool.and_eq_false_iff, decide_eq_false_iff_not]; by_cases h : markP b = true <;> simp_all) (iA' a b c d 1 b [a] (by omega) (by omega) rfl rfl (by by_cases h : markP b = true <;> simp_all))
  refine iA a b c d 1 b [a] (by omega) (by omega) rfl rfl m1.1 (by simpa using fun h => m1.2 h.symm) ?_
  by_cases m2 : markP c = true ∧ a ≠ c ∧ b ≠ c
  rotate_left
  · exact no_ (by by_cases h : markP c = true <;> by_cases h1 : a = c <;> by_cases h2 : b = c <;> simp_all [synP]) (iA' a b c d 2 c [a, b] (by omega) (by omega) rfl rfl (by by_cases h : markP c = true <;> by_cases h1 : a = c <;> by_cases h2 : b = c <;> simp_all))
  refine iA a b c d 2 c [a, b] (by omega) (by omega) rfl rfl m2.1 (by simpa using ⟨fun h => m2.2.1 h.symm, fun h => m2.2.2 h.symm⟩) ?_
  by_cases m3 : markP d = true ∧ a ≠ d ∧ b ≠ d ∧ c ≠ d
  rotate_left
  · exact no_ (by by_cases h : markP d = true <;> by_cases h1 : a = d <;> by_cases h2 : b = d <;> by_cases h3 : c = d <;> simp_all [synP]) (iA' a b c d 3 d [a, b, c] (by omega) (by omega) rfl rfl (by by_cases h : markP d = true <;> by_cases h1 : a = d <;> by_cases h2 : b = d <;> by_cases h3 : c = d <;> simp_all))
  refine iA a b c d 3 d [a, b, c] (by omega) (by omega) rfl rfl m3.1 (by simpa using ⟨fun h => m3.2.1 h.symm, fun h => m3.2.2.1 h.symm, fun h => m3.2.2.2 h.symm⟩) ?_
  rw [synP_iff.2 ⟨m0, m1.1, m2.1, m3.1, m1.2, m2.2.1, m2.2.2, m3.2.1, m3.2.2.1, m3.2.2.2⟩]
  exact Ev.step (fun k => impl_SyntaxRight.l0.eq_2 ..) (Ev.neg (by omega) (Ev.now _))
end

theorem longText_loop (l : List ByteArray) (hl : (l.length : Int) ≤ 4611686018427387904) : ∀ (r : List ByteArray) (i : Nat), l.drop i = r → ∃ x : Int, Ev (fun k => slices_IndexFunc_string_string__impl_longText_1.l0 k l (l.length : Int) (i : Int)) x ∧ decide (x ≥ 0) = r.any (fun s => decide ((s.size : Int) > 20000)) := by
  intro r
  induction r with
  | nil =>
    intro i h
    have h0 := ldrop_nil h
    exact ⟨-1, Ev.step (fun k => slices_IndexFunc_string_string__impl_longText_1.l0.eq_2 ..) (Ev.neg (by omega) (Ev.now _)), by simp⟩
  | cons c r ih =>
    intro i h
    obtain ⟨h1, h2, h3⟩ := rdOf_cons ByteArray.empty h
    have hw : wrap64 ((i : Int) + 1) = ((i + 1 : Nat) : Int) := by rw [wrap_id (by omega) (by omega)]; omega
    obtain ⟨x, hx, he⟩ := ih (i + 1) h3
    by_cases hv : (c.size : Int) > 20000
    · refine ⟨i, Ev.step (fun k => slices_IndexFunc_string_string__impl_longText_1.l0.eq_2 ..) (Ev.pos h1 (Ev.pos (by omega) (Ev.pos h1 ?_))), by simp [hv]⟩
      rw [h2]
      exact Ev.bindc (show impl_longText_1.f c = some true from by simp [impl_longText_1.f, hv]) (Ev.pos rfl (Ev.now _))
    · refine ⟨x, Ev.step (fun k => slices_IndexFunc_string_string__impl_longText_1.l0.eq_2 ..) (Ev.pos h1 (Ev.pos (by omega) (Ev.pos h1 ?_))), by rw [he]; simp [hv]⟩
      rw [h2, hw]
      exact Ev.bindc (show impl_longText_1.f c = some false from by simp only [impl_longText_1.f, decide_eq_false hv]) (Ev.neg (by simp) hx)
theorem longText_any (l : List ByteArray) (hl : (l.length : Int) ≤ 4611686018427387904) : Ev (fun k => impl_longText.f k l) (l.any (fun s => decide ((s.size : Int) > 20000))) := by
  obtain ⟨x, h1, h2⟩ := longText_loop l hl l 0 rfl
  unfold impl_longText.f slices_ContainsFunc_string_string__impl_longText_1.f
  exact Ev.bind (Ev.bind (show Ev (fun k => slices_IndexFunc_string_string__impl_longText_1.f k l) x from h1) (Ev.now _)) (Ev.ret h2)
theorem longText_ev (s : ByteArray) : Ev (fun k => impl_longText.f k [s]) (decide ((s.size : Int) > 20000)) := (longText_any [s] (by simp)).to (by simp)

/-- Is it one of the four? -/
def ownP (a b c d x : Int) : Bool := decide (x = a ∨ x = b ∨ x = c ∨ x = d)
theorem l01Own_eq (a b c d x : Int) (h0 : 0 ≤ x) (h1 : x ≤ 255) : spec_l01Own.f a b c d x = some (ownP a b c d x) := by
  unfold spec_l01Own.f ownP
  rw [wrap_id (by omega) (by omega)]
  by_cases h : x = a
  · simp [h]
  · by_cases h2 : x = b
    · simp [h2]
    · by_cases h3 : x = c
      · simp [h3]
      · simp only [h, h2, h3, if_false, false_or]
        congr 1
theorem isOne_ev (a b c d x : Int) (h0 : 0 ≤ x) (h1 : x ≤ 255) : Ev (fun k => impl_Syntax_isOne.f k a b c d x) (ownP a b c d x) := by
  unfold impl_Syntax_isOne.f
  refine Ev.bindc (show impl_Syntax_fields.f a b c d = some [a, b, c, d] from rfl) ?_
  rw [wrap_id (by omega) (by omega)]
  refine Ev.bind (contains_ev [a, b, c, d] x (by simp)) (Ev.ret ?_)
  by_cases h : x = a
  · simp [ownP, h]
  · by_cases h2 : x = b
    · simp [ownP, h2]
    · by_cases h3 : x = c <;> by_cases h4 : x = d <;> simp [ownP, h, h2, h3, h4]

/-- A text without what releases: the place of its fault, or the text. -/
def unL (a b c d : Int) : List Int → Int → Int ⊕ List Int
  | [], _ => .inr []
  | [x], i => if ownP a b c d x then .inl i else .inr [x]
  | x :: y :: r, i => if ownP a b c d x then (if x = d then (if ownP a b c d y then (unL a b c d r (i + 2)).map id (y :: ·) else .inl i) else .inl i) else (unL a b c d (y :: r) (i + 1)).map id (x :: ·)
theorem unL_plain (a b c d x : Int) (r : List Int) (i : Int) (h : ownP a b c d x = false) : unL a b c d (x :: r) i = (unL a b c d r (i + 1)).map id (x :: ·) := by
  cases r <;> simp [unL, h]
theorem ownP_d (a b c d : Int) : ownP a b c d d = true := by simp [ownP]

theorem specUn_loop (a b c d : Int) (s : ByteArray) (hs : s.size ≤ 1048576) : ∀ (n : Nat) (l : List Int) (i : Nat) (p : List Int), l.length ≤ n → (bytesOf s).drop i = l → i ≤ s.size → p.length ≤ i →
    Ev (fun k => spec_Unescape.l0 k s p (i : Int) a b c d) (match unL a b c d l (i : Int) with | .inl q => ((⟨#[]⟩ : ByteArray), q, 3) | .inr t => (strOfNums (p ++ t), 0, 0)) := by
  intro n
  induction n using Nat.strongRecOn with
  | _ n ih =>
    intro l i p hn h hi hp
    match l, h, hn with
    | [], h, hn =>
      have h0 := drop_nil h
      exact Ev.step (fun k => spec_Unescape.l0.eq_2 ..) (Ev.neg (by omega) (Ev.ret (by simp [unL])))
    | x :: r, h, hn =>
      obtain ⟨h1, h2, h3, h4, h5⟩ := drop_cons h
      have hw : wrap64 ((i : Int) + 1) = ((i + 1 : Nat) : Int) := by rw [wrap_id (by omega) (by omega)]; omega
      have hw2 : wrap64 (((i + 1 : Nat) : Int) + 1) = ((i + 2 : Nat) : Int) := by rw [wrap_id (by omega) (by omega)]; omega
      have hw3 : wrap64 (((i + 1 : Nat) : Int) - 1) = (i : Int) := by rw [wrap_id (by omega) (by omega)]; omega
      simp only [List.length_cons] at hn
      have plain : ownP a b c d x = false → Ev (fun k => if p.length < 140737488355328 then (spec_Unescape.l0 k s (p ++ [x]) ((i + 1 : Nat) : Int) a b c d) else none) (match unL a b c d (x :: r) (i : Int) with | .inl q => ((⟨#[]⟩ : ByteArray), q, 3) | .inr t => (strOfNums (p ++ t), 0, 0)) := by
        intro ho
        refine Ev.pos (by omega) ?_
        have := ih (n - 1) (by omega) r (i + 1) (p ++ [x]) (by omega) h3 (by omega) (by simp; omega)
        refine this.to ?_
        rw [unL_plain a b c d x r (i : Int) ho, show ((i + 1 : Nat) : Int) = (i : Int) + 1 by omega]
        cases unL a b c d r ((i : Int) + 1) <;> simp
      have rel : x = d → Ev (fun k => if ((i + 1 : Nat) : Int) = (s.size : Int) then (some ((⟨#[]⟩ : ByteArray), (i : Int), 3)) else (if 0 ≤ ((i + 1 : Nat) : Int) then (if ((i + 1 : Nat) : Int) < (s.size : Int) then ((spec_l01Own.f a b c d (bt s ((i + 1 : Nat) : Int))).bind fun t => (if t = true then (if p.length < 140737488355328 then (spec_Unescape.l0 k s (p ++ [bt s ((i + 1 : Nat) : Int)]) ((i + 2 : Nat) : Int) a b c d) else (none)) else (some ((⟨#[]⟩ : ByteArray), (i : Int), 3)))) else (none)) else (none))) (match unL a b c d (x :: r) (i : Int) with | .inl q => ((⟨#[]⟩ : ByteArray), q, 3) | .inr t => (strOfNums (p ++ t), 0, 0)) := by
        intro g1
        have ho : ownP a b c d x = true := by rw [g1]; exact ownP_d a b c d
        match r, h3, hn, h with
        | [], h3, hn, h =>
          have := drop_nil h3
          exact Ev.pos (by omega) (Ev.ret (by simp [unL, ho]))
        | y :: r', h3, hn, h =>
          obtain ⟨g3, g4, g5, g6, g7⟩ := drop_cons h3
          simp only [List.length_cons] at hn
          refine Ev.neg (by omega) (Ev.pos (by omega) (Ev.pos (by omega) ?_))
          rw [g4]
          refine Ev.bindc (l01Own_eq a b c d y g6 g7) ?_
          refine Ev.ite (fun g8 => Ev.pos (by omega) ?_) (fun g8 => Ev.ret (by simp [unL, ho, g1, g8, ownP_d]))
          refine (ih (n - 2) (by omega) r' (i + 2) (p ++ [y]) (by omega) g5 (by omega) (by simp; omega)).to ?_
          simp only [unL, ho, g1, g8, if_true]
          rw [show ((i + 2 : Nat) : Int) = (i : Int) + 2 by omega, show ownP a b c d d = true from ownP_d a b c d]
          simp only [if_true]
          cases unL a b c d r' ((i : Int) + 2) <;> simp
      refine Ev.step (fun k => spec_Unescape.l0.eq_2 ..) (Ev.pos h1 (Ev.pos (by omega) ?_))
      rw [h2, wrap_id (x := x) (by omega) (by omega), hw, hw2]
      refine Ev.bindc (l01Own_eq a b c d x h4 h5) (Ev.ite (fun ho => Ev.ite (fun g1 => rel g1) (fun g1 => Ev.ret ?_)) (fun ho => plain (by simpa using ho)))
      cases r <;> simp [unL, ho, g1]
theorem specUn_ev (a b c d : Int) (s : ByteArray) (hs : s.size ≤ 1048576) (hr : synP a b c d = true) (hl : ¬ (s.size : Int) > 20000) : Ev (fun k => spec_Unescape.f k a b c d s) (match unL a b c d (bytesOf s) 0 with | .inl q => ((⟨#[]⟩ : ByteArray), q, 3) | .inr t => (strOfNums t, 0, 0)) := by
  unfold spec_Unescape.f
  refine Ev.neg hl (Ev.bind (specSyntaxRight_ev a b c d) (Ev.pos hr ?_))
  refine (specUn_loop a b c d s hs _ _ 0 [] (Nat.le_refl _) rfl (by omega) (by simp)).to ?_
  rw [List.drop_zero]
  cases h : unL a b c d (bytesOf s) ((0 : Nat) : Int) <;> simp at h <;> simp [h]

theorem implUn_loop (a b c d : Int) (s : ByteArray) (hs : s.size ≤ 1048576) : ∀ (n : Nat) (l : List Int) (i : Nat) (p : List Int), l.length ≤ n → (bytesOf s).drop i = l → i ≤ s.size → p.length ≤ i →
    Ev (fun k => impl_Syntax_unescaped.l0 k s p (i : Int) a b c d) (match unL a b c d l (i : Int) with | .inl q => ((⟨#[]⟩ : ByteArray), q) | .inr t => (strOfNums (p ++ t), (-1))) := by
  intro n
  induction n using Nat.strongRecOn with
  | _ n ih =>
    intro l i p hn h hi hp
    match l, h, hn with
    | [], h, hn =>
      have h0 := drop_nil h
      exact Ev.step (fun k => impl_Syntax_unescaped.l0.eq_2 ..) (Ev.neg (by omega) (Ev.ret (by simp [unL])))
    | x :: r, h, hn =>
      obtain ⟨h1, h2, h3, h4, h5⟩ := drop_cons h
      have hw : wrap64 ((i : Int) + 1) = ((i + 1 : Nat) : Int) := by rw [wrap_id (by omega) (by omega)]; omega
      have hw2 : wrap64 (((i + 1 : Nat) : Int) + 1) = ((i + 2 : Nat) : Int) := by rw [wrap_id (by omega) (by omega)]; omega
      have hw3 : wrap64 (((i + 1 : Nat) : Int) - 1) = (i : Int) := by rw [wrap_id (by omega) (by omega)]; omega
      simp only [List.length_cons] at hn
      have plain : ownP a b c d x = false → Ev (fun k => if p.length < 140737488355328 then (impl_Syntax_unescaped.l0 k s (p ++ [x]) ((i + 1 : Nat) : Int) a b c d) else none) (match unL a b c d (x :: r) (i : Int) with | .inl q => ((⟨#[]⟩ : ByteArray), q) | .inr t => (strOfNums (p ++ t), (-1))) := by
        intro ho
        refine Ev.pos (by omega) ?_
        have := ih (n - 1) (by omega) r (i + 1) (p ++ [x]) (by omega) h3 (by omega) (by simp; omega)
        refine this.to ?_
        rw [unL_plain a b c d x r (i : Int) ho, show ((i + 1 : Nat) : Int) = (i : Int) + 1 by omega]
        cases unL a b c d r ((i : Int) + 1) <;> simp
      have rel : x = d → Ev (fun k => if ((i + 1 : Nat) : Int) = (s.size : Int) then (some ((⟨#[]⟩ : ByteArray), (i : Int))) else (if 0 ≤ ((i + 1 : Nat) : Int) then (if ((i + 1 : Nat) : Int) < (s.size : Int) then ((impl_Syntax_isOne.f k a b c d (bt s ((i + 1 : Nat) : Int))).bind fun t => (if t = true then (if p.length < 140737488355328 then (impl_Syntax_unescaped.l0 k s (p ++ [bt s ((i + 1 : Nat) : Int)]) ((i + 2 : Nat) : Int) a b c d) else (none)) else (some ((⟨#[]⟩ : ByteArray), (i : Int))))) else (none)) else (none))) (match unL a b c d (x :: r) (i : Int) with | .inl q => ((⟨#[]⟩ : ByteArray), q) | .inr t => (strOfNums (p ++ t), (-1))) := by
        intro g1
        have ho : ownP a b c d x = true := by rw [g1]; exact ownP_d a b c d
        match r, h3, hn, h with
        | [], h3, hn, h =>
          have := drop_nil h3
          exact Ev.pos (by omega) (Ev.ret (by simp [unL, ho]))
        | y :: r', h3, hn, h =>
          obtain ⟨g3, g4, g5, g6, g7⟩ := drop_cons h3
          simp only [List.length_cons] at hn
          refine Ev.neg (by omega) (Ev.pos (by omega) (Ev.pos (by omega) ?_))
          rw [g4]
          refine Ev.bind (isOne_ev a b c d y g6 g7) ?_
          refine Ev.ite (fun g8 => Ev.pos (by omega) ?_) (fun g8 => Ev.ret (by simp [unL, ho, g1, g8, ownP_d]))
          refine (ih (n - 2) (by omega) r' (i + 2) (p ++ [y]) (by omega) g5 (by omega) (by simp; omega)).to ?_
          simp only [unL, ho, g1, g8, if_true]
          rw [show ((i + 2 : Nat) : Int) = (i : Int) + 2 by omega, show ownP a b c d d = true from ownP_d a b c d]
          simp only [if_true]
          cases unL a b c d r' ((i : Int) + 2) <;> simp
      refine Ev.step (fun k => impl_Syntax_unescaped.l0.eq_2 ..) (Ev.pos h1 (Ev.pos (by omega) ?_))
      rw [h2, wrap_id (x := x) (by omega) (by omega), hw, hw2, hw3]
      refine Ev.ite (fun g1 => rel g1) (fun g1 => Ev.bind (isOne_ev a b c d x h4 h5) (Ev.ite (fun ho => Ev.ret ?_) (fun ho => plain (by simpa using ho))))
      cases r <;> simp [unL, ho, g1]
theorem implUn_ev (a b c d : Int) (s : ByteArray) (hs : s.size ≤ 1048576) : Ev (fun k => impl_Syntax_unescaped.f k a b c d s) (match unL a b c d (bytesOf s) 0 with | .inl q => ((⟨#[]⟩ : ByteArray), q) | .inr t => (strOfNums t, (-1))) := by
  refine (implUn_loop a b c d s hs _ _ 0 [] (Nat.le_refl _) rfl (by omega) (by simp)).to ?_
  rw [List.drop_zero]
  cases h : unL a b c d (bytesOf s) ((0 : Nat) : Int) <;> simp at h <;> simp [h]
theorem unL_at (a b c d : Int) : ∀ (n : Nat) (l : List Int) (i q : Int), l.length ≤ n → unL a b c d l i = .inl q → i ≤ q ∧ q < i + (l.length : Int) := by
  intro n
  induction n using Nat.strongRecOn with
  | _ n ih =>
    intro l i q hn h
    match l, h, hn with
    | [], h, hn => simp [unL] at h
    | [x], h, hn =>
      simp only [unL] at h
      split at h
      · have : i = q := by simpa using h
        subst this; simp; omega
      · simp at h
    | x :: y :: r, h, hn =>
      simp only [List.length_cons] at hn ⊢
      simp only [unL] at h
      have hin : ∀ {z : Int}, (Sum.inl z : Int ⊕ List Int) = .inl q → z = q := fun e => by simpa using e
      split at h
      · split at h
        · split at h
          · cases h2 : unL a b c d r (i + 2) with
            | inl z =>
              rw [h2] at h
              have := ih (n - 2) (by omega) r (i + 2) z (by omega) h2
              have hz : z = q := by simpa using h
              omega
            | inr t => rw [h2] at h; simp at h
          · have := hin h; omega
        · have := hin h; omega
      · cases h2 : unL a b c d (y :: r) (i + 1) with
        | inl z =>
          rw [h2] at h
          have h3 := ih (n - 1) (by omega) (y :: r) (i + 1) z (by simp; omega) h2
          simp only [List.length_cons] at h3
          have hz : z = q := by simpa using h
          omega
        | inr t => rw [h2] at h; simp at h

theorem FnExactUnescape : laws_FnExactUnescape.Pure := by
  intro a b c d s ha hb hc hd hs
  refine Ev.rounds (g := fun k => laws_FnExactUnescape.f k a b c d s) ?_
  unfold laws_FnExactUnescape.f
  refine Ev.ite (fun _ => Ev.now _) (fun hl => ?_)
  have hs' : s.size ≤ 1048576 := by omega
  have hsy : laws_toSyntax.f a b c d = some (a, b, c, d) := rfl
  have key : ∃ t p q, Ev (fun k => spec_Unescape.f k a b c d s) (t, p, q) ∧ Ev (fun k => impl_Unescape.f k a b c d s) (t, p, q) := by
    by_cases hl : (s.size : Int) > 20000
    · refine ⟨_, _, _, Ev.pos hl (Ev.now _), Ev.bind (longText_ev s) (Ev.pos (by simpa using hl) (Ev.now _))⟩
    · by_cases hr : synP a b c d = true
      · have e1 := specUn_ev a b c d s hs' hr hl
        have e2 := implUn_ev a b c d s hs'
        cases hu : unL a b c d (bytesOf s) 0 with
        | inl q =>
          rw [hu] at e1 e2
          dsimp only at e1 e2
          have := unL_at a b c d _ (bytesOf s) 0 q (Nat.le_refl _) hu
          exact ⟨_, _, _, e1, Ev.bind (longText_ev s) (Ev.neg (by simpa using hl) (Ev.bind (implSyntaxRight_ev a b c d) (Ev.pos hr (Ev.bind e2 (Ev.pos (by omega) (Ev.now _))))))⟩
        | inr t =>
          rw [hu] at e1 e2
          dsimp only at e1 e2
          exact ⟨_, _, _, e1, Ev.bind (longText_ev s) (Ev.neg (by simpa using hl) (Ev.bind (implSyntaxRight_ev a b c d) (Ev.pos hr (Ev.bind e2 (Ev.neg (by omega) (Ev.now _))))))⟩
      · exact ⟨_, _, _, Ev.neg hl (Ev.bind (specSyntaxRight_ev a b c d) (Ev.neg hr (Ev.now _))), Ev.bind (longText_ev s) (Ev.neg (by simpa using hl) (Ev.bind (implSyntaxRight_ev a b c d) (Ev.neg hr (Ev.now _))))⟩
  obtain ⟨t, p, q, h1, h2⟩ := key
  exact Ev.bindc hsy (Ev.bind h1 (Ev.bindc hsy (Ev.bind h2 (Ev.bindc (show laws_eqTextOut.f t p q t p q = some true from by simp [laws_eqTextOut.f]) (Ev.pos rfl (Ev.now _))))))

end Go.Proofs.Ytchoalagkcdbhaa.Pure
