/- The program's SegmentsText answers as the reference's: the law, over numbers and lists.
Conditions: none. -/
import Derived.Test.YtchoalagkcdbhaaPFnExactSegmentsTextx
import Derived.Test.YtchoalagkcdbhaaVFnExactSegmentsText
namespace Go.Proofs.Ytchoalagkcdbhaa.Pure
open Go.RowKit Go.Proofs.Ytchoalagkcdbhaa.PFnExactSegmentsText Go.Proofs.YtchoalagkcdbhaaW.PrintWords Go.Proofs.YtchoalagkcdbhaaW.PrintLast Go.Proofs.YtchoalagkcdbhaaW.PrintMore Go.Proofs.YtchoalagkcdbhaaW.Pl
set_option linter.unusedVariables false
set_option linter.unusedSimpArgs false

theorem within_eq (a b c : Int) : impl_within.f a b c = some (withinP a b c) := by
  unfold impl_within.f withinP
  split
  · congr 1; simp only [decide_eq_decide]; omega
  · congr 1; symm; simp only [decide_eq_false_iff_not]; omega

theorem isGreat_eq (c : Int) : impl_isGreat.f c = some (great c) := by
  unfold impl_isGreat.f great
  split
  · congr 1; simp only [decide_eq_decide]; omega
  · congr 1; symm; simp only [decide_eq_false_iff_not]; omega
theorem isDigit_eq (c : Int) : impl_isDigit.f c = some (digit c) := by
  unfold impl_isDigit.f digit
  split
  · congr 1; simp only [decide_eq_decide]; omega
  · congr 1; symm; simp only [decide_eq_false_iff_not]; omega

theorem index_loop (l : List Int) (v : Int) (hl : (l.length : Int) ≤ 4611686018427387904) : ∀ (r : List Int) (i : Nat), l.drop i = r → ∃ x : Int, Ev (fun k => slices_Index_int64_int64.l0 k l v (l.length : Int) (i : Int)) x ∧ decide (x ≥ 0) = r.contains v := by
  intro r
  induction r with
  | nil =>
    intro i h
    have h0 := ldrop_nil h
    exact ⟨-1, Ev.step (fun k => slices_Index_int64_int64.l0.eq_2 ..) (Ev.neg (by omega) (Ev.now _)), by simp⟩
  | cons c r ih =>
    intro i h
    obtain ⟨h1, h2, h3⟩ := rd_cons h
    have hw : wrap64 ((i : Int) + 1) = ((i + 1 : Nat) : Int) := by rw [wrap_id (by omega) (by omega)]; omega
    obtain ⟨x, hx, he⟩ := ih (i + 1) h3
    by_cases hv : v = c
    · refine ⟨i, Ev.step (fun k => slices_Index_int64_int64.l0.eq_2 ..) (Ev.pos h1 (Ev.pos (by omega) (Ev.pos h1 ?_))), by simp [hv]⟩
      rw [h2]
      exact Ev.pos hv (Ev.now _)
    · refine ⟨x, Ev.step (fun k => slices_Index_int64_int64.l0.eq_2 ..) (Ev.pos h1 (Ev.pos (by omega) (Ev.pos h1 ?_))), by rw [he]; simp [hv]⟩
      rw [h2, hw]
      exact Ev.neg hv hx
theorem contains_ev (l : List Int) (v : Int) (hl : (l.length : Int) ≤ 4611686018427387904) : Ev (fun k => slices_Contains_int64_int64.f k l v) (l.contains v) := by
  obtain ⟨x, hx, he⟩ := index_loop l v hl l 0 rfl
  unfold slices_Contains_int64_int64.f
  refine Ev.bind (show Ev (fun k => slices_Index_int64_int64.f k l v) x from hx) ?_
  exact Ev.ret he

theorem l01Mark_eq (c : Int) : spec_l01Mark.f c = some (markP c) := by
  have hf : ∀ {b : Bool}, markP c = b → some b = some (markP c) := fun h => by rw [h]
  have ht : 33 ≤ c → c ≤ 126 → c ≠ 45 → ¬ (65 ≤ c ∧ c ≤ 90) → ¬ (97 ≤ c ∧ c ≤ 122) → ¬ (48 ≤ c ∧ c ≤ 57) → markP c = true := fun h1 h2 h3 h4 h5 h6 => markP_iff.2 ⟨h1, h2, h3, h4, h5, h6⟩
  have hn : ¬ (33 ≤ c ∧ c ≤ 126 ∧ c ≠ 45 ∧ ¬ (65 ≤ c ∧ c ≤ 90) ∧ ¬ (97 ≤ c ∧ c ≤ 122) ∧ ¬ (48 ≤ c ∧ c ≤ 57)) → markP c = false := markP_not.2
  unfold spec_l01Mark.f
  repeat' split
  all_goals (apply hf; first | exact hn (by omega) | exact ht (by omega) (by omega) (by omega) (by omega) (by omega) (by omega) | (simp only [Bool.not_true, Bool.not_false]; first | exact hn (by omega) | exact ht (by omega) (by omega) (by omega) (by omega) (by omega) (by omega)) | skip)
  all_goals
    by_cases h57 : c ≤ 57
    · rw [decide_eq_true h57]; exact hn (by omega)
    · rw [decide_eq_false h57]; exact ht (by omega) (by omega) (by omega) (by omega) (by omega) (by omega)

section
variable (a b c d : Int)
theorem sA (i : Int) (x : Int) {r : Bool} (h0 : 0 ≤ i) (h4 : i < 4) (hx : rd [a, b, c, d] i = x) (hm : markP x = true) (h : Ev (fun k => spec_SyntaxRight.l1 k [a, b, c, d] i 0) r) : Ev (fun k => spec_SyntaxRight.l0 k [a, b, c, d] i) r := by
  refine Ev.step (fun k => spec_SyntaxRight.l0.eq_2 ..) (Ev.pos h4 (Ev.pos h0 (Ev.pos (by simp; omega) ?_)))
  rw [hx]
  exact Ev.bindc (l01Mark_eq x) (Ev.pos hm h)
theorem sA' (i : Int) (x : Int) (h0 : 0 ≤ i) (h4 : i < 4) (hx : rd [a, b, c, d] i = x) (hm : markP x = false) : Ev (fun k => spec_SyntaxRight.l0 k [a, b, c, d] i) false := by
  refine Ev.step (fun k => spec_SyntaxRight.l0.eq_2 ..) (Ev.pos h4 (Ev.pos h0 (Ev.pos (by simp; omega) ?_)))
  rw [hx]
  exact Ev.bindc (l01Mark_eq x) (Ev.neg (by simp [hm]) (Ev.now _))
theorem sA4 : Ev (fun k => spec_SyntaxRight.l0 k [a, b, c, d] 4) true := Ev.step (fun k => spec_SyntaxRight.l0.eq_2 ..) (Ev.neg (by omega) (Ev.now _))
theorem sB (i j : Int) (x y : Int) {r : Bool} (h0 : 0 ≤ j) (h : j < i) (h4 : i < 4) (hx : rd [a, b, c, d] j = x) (hy : rd [a, b, c, d] i = y) (hm : x ≠ y) (hn : Ev (fun k => spec_SyntaxRight.l1 k [a, b, c, d] i (j + 1)) r) : Ev (fun k => spec_SyntaxRight.l1 k [a, b, c, d] i j) r := by
  refine Ev.step (fun k => spec_SyntaxRight.l1.eq_2 ..) (Ev.pos h (Ev.pos h0 (Ev.pos (by simp; omega) (Ev.pos (by omega) (Ev.pos (by simp; omega) ?_)))))
  rw [hx, hy, wrap_id (by omega) (by omega)]
  exact Ev.neg hm hn
theorem sB' (i j : Int) (x y : Int) (h0 : 0 ≤ j) (h : j < i) (h4 : i < 4) (hx : rd [a, b, c, d] j = x) (hy : rd [a, b, c, d] i = y) (hm : x = y) : Ev (fun k => spec_SyntaxRight.l1 k [a, b, c, d] i j) false := by
  refine Ev.step (fun k => spec_SyntaxRight.l1.eq_2 ..) (Ev.pos h (Ev.pos h0 (Ev.pos (by simp; omega) (Ev.pos (by omega) (Ev.pos (by simp; omega) ?_)))))
  rw [hx, hy]
  exact Ev.pos hm (Ev.now _)
theorem sBe (i : Int) {r : Bool} (h0 : 0 ≤ i) (h4 : i < 4) (hn : Ev (fun k => spec_SyntaxRight.l0 k [a, b, c, d] (i + 1)) r) : Ev (fun k => spec_SyntaxRight.l1 k [a, b, c, d] i i) r := by
  refine Ev.step (fun k => spec_SyntaxRight.l1.eq_2 ..) (Ev.neg (by omega) ?_)
  rw [wrap_id (by omega) (by omega)]
  exact hn
theorem specSyntaxRight_ev : Ev (fun k => spec_SyntaxRight.f k a b c d) (synP a b c d) := by
  show Ev (fun k => spec_SyntaxRight.l0 k [a, b, c, d] 0) _
  have no_ : ∀ {g : Nat → Option Bool}, synP a b c d = false → Ev g false → Ev g (synP a b c d) := fun h e => by rw [h]; exact e
  by_cases m0 : markP a = true
  rotate_left
  · exact no_ (by simp [synP, m0]) (sA' a b c d 0 a (by omega) (by omega) rfl (by simpa using m0))
  refine sA a b c d 0 a (by omega) (by omega) rfl m0 (sBe a b c d 0 (by omega) (by omega) ?_)
  by_cases m1 : markP b = true
  rotate_left
  · exact no_ (by simp [synP, m1]) (sA' a b c d 1 b (by omega) (by omega) rfl (by simpa using m1))
  refine sA a b c d 1 b (by omega) (by omega) rfl m1 ?_
  by_cases e01 : a = b
  · exact no_ (by simp [synP, e01]) (sB' a b c d 1 0 a b (by omega) (by omega) (by omega) rfl rfl e01)
  refine sB a b c d 1 0 a b (by omega) (by omega) (by omega) rfl rfl e01 (sBe a b c d 1 (by omega) (by omega) ?_)
  by_cases m2 : markP c = true
  rotate_left
  · exact no_ (by simp [synP, m2]) (sA' a b c d 2 c (by omega) (by omega) rfl (by simpa using m2))
  refine sA a b c d 2 c (by omega) (by omega) rfl m2 ?_
  by_cases e02 : a = c
  · exact no_ (by simp [synP, e02]) (sB' a b c d 2 0 a c (by omega) (by omega) (by omega) rfl rfl e02)
  refine sB a b c d 2 0 a c (by omega) (by omega) (by omega) rfl rfl e02 ?_
  by_cases e12 : b = c
  · exact no_ (by simp [synP, e12]) (sB' a b c d 2 1 b c (by omega) (by omega) (by omega) rfl rfl e12)
  refine sB a b c d 2 1 b c (by omega) (by omega) (by omega) rfl rfl e12 (sBe a b c d 2 (by omega) (by omega) ?_)
  by_cases m3 : markP d = true
  rotate_left
  · exact no_ (by simp [synP, m3]) (sA' a b c d 3 d (by omega) (by omega) rfl (by simpa using m3))
  refine sA a b c d 3 d (by omega) (by omega) rfl m3 ?_
  by_cases e03 : a = d
  · exact no_ (by simp [synP, e03]) (sB' a b c d 3 0 a d (by omega) (by omega) (by omega) rfl rfl e03)
  refine sB a b c d 3 0 a d (by omega) (by omega) (by omega) rfl rfl e03 ?_
  by_cases e13 : b = d
  · exact no_ (by simp [synP, e13]) (sB' a b c d 3 1 b d (by omega) (by omega) (by omega) rfl rfl e13)
  refine sB a b c d 3 1 b d (by omega) (by omega) (by omega) rfl rfl e13 ?_
  by_cases e23 : c = d
  · exact no_ (by simp [synP, e23]) (sB' a b c d 3 2 c d (by omega) (by omega) (by omega) rfl rfl e23)
  refine sB a b c d 3 2 c d (by omega) (by omega) (by omega) rfl rfl e23 (sBe a b c d 3 (by omega) (by omega) ?_)
  rw [synP_iff.2 ⟨m0, m1, m2, m3, e01, e02, e12, e03, e13, e23⟩]
  exact sA4 a b c d
end

section
variable (a b c d : Int)
/-- One round of the program's loop: the byte is a mark, and none ahead is it. -/
theorem iA (i : Int) (x : Int) (pre : List Int) {r : Bool} (h0 : 0 ≤ i) (h4 : i < 4) (hx : rd [a, b, c, d] i = x) (hp : [a, b, c, d].take i.toNat = pre) (hm : markP x = true) (hc : pre.contains x = false) (h : Ev (fun k => impl_SyntaxRight.l0 k [a, b, c, d] [a, b, c, d] 4 (i + 1)) r) :
    Ev (fun k => impl_SyntaxRight.l0 k [a, b, c, d] [a, b, c, d] 4 i) r := by
  have hm' := markP_iff.1 hm
  refine Ev.step (fun k => impl_SyntaxRight.l0.eq_2 ..) (Ev.pos h4 (Ev.pos h0 (Ev.pos (by simp; omega) ?_)))
  rw [hx, hp]
  refine Ev.bindc (within_eq _ _ _) (Ev.pos (by simp [withinP]; omega) (Ev.pos (by simp; omega) ?_))
  refine Ev.bind (contains_ev pre x (by rw [← hp]; simp; omega)) ?_
  rw [hc]
  refine Ev.step (fun k => impl_SyntaxRight.j1.eq_2 ..) (Ev.neg (by simp) ?_)
  have e : x % 256 = x := by omega
  rw [e, wrap_id (by omega) (by omega)]
  refine Ev.bindc (isGreat_eq x) (Ev.neg (by simp [great]; omega) ?_)
  refine Ev.ite (fun _ => Ev.neg (by omega) ?_) (fun _ => ?_)
  · exact Ev.bindc (isDigit_eq x) (Ev.neg (by simp [digit]; omega) (Ev.neg (by omega) h))
  · exact Ev.bindc (isDigit_eq x) (Ev.neg (by simp [digit]; omega) (Ev.neg (by omega) h))
theorem iA' (i : Int) (x : Int) (pre : List Int) (h0 : 0 ≤ i) (h4 : i < 4) (hx : rd [a, b, c, d] i = x) (hp : [a, b, c, d].take i.toNat = pre) (hm : markP x = false ∨ pre.contains x = true) :
    Ev (fun k => impl_SyntaxRight.l0 k [a, b, c, d] [a, b, c, d] 4 i) false := by
  refine Ev.step (fun k => impl_SyntaxRight.l0.eq_2 ..) (Ev.pos h4 (Ev.pos h0 (Ev.pos (by simp; omega) ?_)))
  rw [hx, hp]
  have hj : Ev (fun k => impl_SyntaxRight.j1 k [a, b, c, d] x [a, b, c, d] 4 i true) false := Ev.step (fun k => impl_SyntaxRight.j1.eq_2 ..) (Ev.pos rfl (Ev.now _))
  refine Ev.bindc (within_eq _ _ _) (Ev.ite (fun w => ?_) (fun _ => hj))
  simp only [withinP, decide_eq_true_eq] at w
  refine Ev.pos (by simp; omega) (Ev.bind (contains_ev pre x (by rw [← hp]; simp; omega)) ?_)
  by_cases hc : pre.contains x = true
  · rw [hc]; exact hj
  · have hm0 : markP x = false := by
      rcases hm with h | h
      · exact h
      · exact absurd h hc
    rw [show pre.contains x = false from by simpa using hc]
    have hn : ¬ (33 ≤ x ∧ x ≤ 126 ∧ x ≠ 45 ∧ ¬ (65 ≤ x ∧ x ≤ 90) ∧ ¬ (97 ≤ x ∧ x ≤ 122) ∧ ¬ (48 ≤ x ∧ x ≤ 57)) := markP_not.1 hm0
    have e : x % 256 = x := by omega
    refine Ev.step (fun k => impl_SyntaxRight.j1.eq_2 ..) (Ev.neg (by simp) ?_)
    rw [e]
    refine Ev.bindc (isGreat_eq x) (Ev.ite (fun _ => Ev.now _) (fun g1 => ?_))
    simp only [great, decide_eq_true_eq] at g1
    refine Ev.ite (fun g2 => Ev.ite (fun _ => Ev.now _) (fun g3 => ?_)) (fun g2 => ?_)
    · refine Ev.bindc (isDigit_eq x) (Ev.ite (fun _ => Ev.now _) (fun g4 => Ev.ite (fun _ => Ev.now _) (fun g5 => ?_)))
      simp only [digit, decide_eq_true_eq] at g4
      exact absurd (show 33 ≤ x ∧ x ≤ 126 ∧ x ≠ 45 ∧ ¬ (65 ≤ x ∧ x ≤ 90) ∧ ¬ (97 ≤ x ∧ x ≤ 122) ∧ ¬ (48 ≤ x ∧ x ≤ 57) by omega) hn
    · refine Ev.bindc (isDigit_eq x) (Ev.ite (fun _ => Ev.now _) (fun g4 => Ev.ite (fun _ => Ev.now _) (fun g5 => ?_)))
      simp only [digit, decide_eq_true_eq] at g4
      exact absurd (show 33 ≤ x ∧ x ≤ 126 ∧ x ≠ 45 ∧ ¬ (65 ≤ x ∧ x ≤ 90) ∧ ¬ (97 ≤ x ∧ x ≤ 122) ∧ ¬ (48 ≤ x ∧ x ≤ 57) by omega) hn
theorem implSyntaxRight_ev : Ev (fun k => impl_SyntaxRight.f k a b c d) (synP a b c d) := by
  unfold impl_SyntaxRight.f
  refine Ev.bindc (show impl_Syntax_fields.f a b c d = some [a, b, c, d] from rfl) ?_
  show Ev (fun k => impl_SyntaxRight.l0 k [a, b, c, d] [a, b, c, d] 4 0) _
  have no_ : ∀ {g : Nat → Option Bool}, synP a b c d = false → Ev g false → Ev g (synP a b c d) := fun h e => by rw [h]; exact e
  by_cases m0 : markP a = true
  rotate_left
  · exact no_ (by simp [synP, m0]) (iA' a b c d 0 a [] (by omega) (by omega) rfl rfl (.inl (by simpa using m0)))
  refine iA a b c d 0 a [] (by omega) (by omega) rfl rfl m0 rfl ?_
  by_cases m1 : markP b = true ∧ a ≠ b
  rotate_left
  · exact no_ (by simp only [not_and, Decidable.not_not] at m1; simp only [synP, Bool.and_eq_false_iff, decide_eq_false_iff_not]; by_cases h : markP b = true <;> simp_all) (iA' a b c d 1 b [a] (by omega) (by omega) rfl rfl (by by_cases h : markP b = true <;> simp_all))
  refine iA a b c d 1 b [a] (by omega) (by omega) rfl rfl m1.1 (by simpa using fun h => m1.2 h.symm) ?_
  by_cases m2 : markP c = true ∧ a ≠ c ∧ b ≠ c
  rotate_left
  · exact no_ (by by_cases h : markP c = true <;> by_cases h1 : a = c <;> by_cases h2 : b = c <;> simp_all [synP]) (iA' a b c d 2 c [a, b] (by omega) (by omega) rfl rfl (by by_cases h : markP c = true <;> by_cases h1 : a = c <;> by_cases h2 : b = c <;> simp_all))
  refine iA a b c d 2 c [a, b] (by omega) (by omega) rfl rfl m2.1 (by simpa using ⟨fun h => m2.2.1 h.symm, fun h => m2.2.2 h.symm⟩) ?_
  by_cases m3 : markP d = true ∧ a ≠ d ∧ b ≠ d ∧ c ≠ d
  rotate_left
  · exact no_ (by by_cases h : markP d = true <;> by_cases h1 : a = d <;> by_cases h2 : b = d <;> by_cases h3 : c = d <;> simp_all [synP]) (iA' a b c d 3 d [a, b, c] (by omega) (by omega) rfl rfl (by by_cases h : markP d = true <;> by_cases h1 : a = d <;> by_cases h2 : b = d <;> by_cases h3 : c = d <;> simp_all))
  refine iA a b c d 3 d [a, b, c] (by omega) (by omega) rfl rfl m3.1 (by simpa using ⟨fun h => m3.2.1 h.symm, fun h => m3.2.2.1 h.symm, fun h => m3.2.2.2 h.symm⟩) ?_
  rw [synP_iff.2 ⟨m0, m1.1, m2.1, m3.1, m1.2, m2.2.1, m2.2.2, m3.2.1, m3.2.2.1, m3.2.2.2⟩]
  exact Ev.step (fun k => impl_SyntaxRight.l0.eq_2 ..) (Ev.neg (by omega) (Ev.now _))
end

theorem longText_loop (l : List ByteArray) (hl : (l.length : Int) ≤ 4611686018427387904) : ∀ (r : List ByteArray) (i : Nat), l.drop i = r → ∃ x : Int, Ev (fun k => slices_IndexFunc_string_string__impl_longText_1.l0 k l (l.length : Int) (i : Int)) x ∧ decide (x ≥ 0) = r.any (fun s => decide ((s.size : Int) > 20000)) := by
  intro r
  induction r with
  | nil =>
    intro i h
    have h0 := ldrop_nil h
    exact ⟨-1, Ev.step (fun k => slices_IndexFunc_string_string__impl_longText_1.l0.eq_2 ..) (Ev.neg (by omega) (Ev.now _)), by simp⟩
  | cons c r ih =>
    intro i h
    obtain ⟨h1, h2, h3⟩ := rdOf_cons ByteArray.empty h
    have hw : wrap64 ((i : Int) + 1) = ((i + 1 : Nat) : Int) := by rw [wrap_id (by omega) (by omega)]; omega
    obtain ⟨x, hx, he⟩ := ih (i + 1) h3
    by_cases hv : (c.size : Int) > 20000
    · refine ⟨i, Ev.step (fun k => slices_IndexFunc_string_string__impl_longText_1.l0.eq_2 ..) (Ev.pos h1 (Ev.pos (by omega) (Ev.pos h1 ?_))), by simp [hv]⟩
      rw [h2]
      exact Ev.bindc (show impl_longText_1.f c = some true from by simp [impl_longText_1.f, hv]) (Ev.pos rfl (Ev.now _))
    · refine ⟨x, Ev.step (fun k => slices_IndexFunc_string_string__impl_longText_1.l0.eq_2 ..) (Ev.pos h1 (Ev.pos (by omega) (Ev.pos h1 ?_))), by rw [he]; simp [hv]⟩
      rw [h2, hw]
      exact Ev.bindc (show impl_longText_1.f c = some false from by simp only [impl_longText_1.f, decide_eq_false hv]) (Ev.neg (by simp) hx)
theorem longText_any (l : List ByteArray) (hl : (l.length : Int) ≤ 4611686018427387904) : Ev (fun k => impl_longText.f k l) (l.any (fun s => decide ((s.size : Int) > 20000))) := by
  obtain ⟨x, h1, h2⟩ := longText_loop l hl l 0 rfl
  unfold impl_longText.f slices_ContainsFunc_string_string__impl_longText_1.f
  exact Ev.bind (Ev.bind (show Ev (fun k => slices_IndexFunc_string_string__impl_longText_1.f k l) x from h1) (Ev.now _)) (Ev.ret h2)
theorem longText_ev (s : ByteArray) : Ev (fun k => impl_longText.f k [s]) (decide ((s.size : Int) > 20000)) := (longText_any [s] (by simp)).to (by simp)

/-- Is it one of the four? -/
def ownP (a b c d x : Int) : Bool := decide (x = a ∨ x = b ∨ x = c ∨ x = d)
theorem isOne_ev (a b c d x : Int) (h0 : 0 ≤ x) (h1 : x ≤ 255) : Ev (fun k => impl_Syntax_isOne.f k a b c d x) (ownP a b c d x) := by
  unfold impl_Syntax_isOne.f
  refine Ev.bindc (show impl_Syntax_fields.f a b c d = some [a, b, c, d] from rfl) ?_
  rw [wrap_id (by omega) (by omega)]
  refine Ev.bind (contains_ev [a, b, c, d] x (by simp)) (Ev.ret ?_)
  by_cases h : x = a
  · simp [ownP, h]
  · by_cases h2 : x = b
    · simp [ownP, h2]
    · by_cases h3 : x = c <;> by_cases h4 : x = d <;> simp [ownP, h, h2, h3, h4]

theorem l01Own_eq (a b c d x : Int) (h0 : 0 ≤ x) (h1 : x ≤ 255) : spec_l01Own.f a b c d x = some (ownP a b c d x) := by
  unfold spec_l01Own.f ownP
  rw [wrap_id (by omega) (by omega)]
  by_cases h : x = a
  · simp [h]
  · by_cases h2 : x = b
    · simp [h2]
    · by_cases h3 : x = c
      · simp [h3]
      · simp only [h, h2, h3, if_false, false_or]
        congr 1

/-- A text with what releases ahead of each of the four. -/
def escL (a b c d : Int) : List Int → List Int
  | [] => []
  | x :: r => if ownP a b c d x then d % 256 :: x :: escL a b c d r else x :: escL a b c d r
theorem escL_length (a b c d : Int) : ∀ l : List Int, (escL a b c d l).length ≤ 2 * l.length
  | [] => by simp [escL]
  | x :: r => by
    have := escL_length a b c d r
    unfold escL
    split <;> simp <;> omega

theorem specEscape_loop (a b c d : Int) (s : ByteArray) (hs : s.size ≤ 1048576) : ∀ (l : List Int) (i : Nat) (p : List Int), (bytesOf s).drop i = l → p.length ≤ 2 * i → i ≤ s.size →
    Ev (fun k => spec_l01Escape.l0 k s p (i : Int) a b c d) (strOfNums (p ++ escL a b c d l)) := by
  intro l
  induction l with
  | nil =>
    intro i p h hp hi
    have h0 := drop_nil h
    exact Ev.step (fun k => spec_l01Escape.l0.eq_2 ..) (Ev.neg (by omega) (Ev.ret (by simp [escL])))
  | cons x r ih =>
    intro i p h hp hi
    obtain ⟨h1, h2, h3, h4, h5⟩ := drop_cons h
    have hw : wrap64 ((i : Int) + 1) = ((i + 1 : Nat) : Int) := by rw [wrap_id (by omega) (by omega)]; omega
    refine Ev.step (fun k => spec_l01Escape.l0.eq_2 ..) (Ev.pos h1 (Ev.pos (by omega) ?_))
    rw [h2, hw]
    refine Ev.bindc (l01Own_eq a b c d x h4 h5) ?_
    by_cases ho : ownP a b c d x = true
    · refine Ev.pos ho (Ev.pos (by omega) (Ev.bindc rfl (Ev.pos (by simp; omega) ?_)))
      exact (ih (i + 1) _ h3 (by simp; omega) (by omega)).to (by simp [escL, ho])
    · refine Ev.neg ho (Ev.pos (by omega) ?_)
      exact (ih (i + 1) _ h3 (by simp; omega) (by omega)).to (by simp [escL, ho])
theorem specEscape_ev (a b c d : Int) (s : ByteArray) (hs : s.size ≤ 1048576) : Ev (fun k => spec_l01Escape.f k a b c d s) (strOfNums (escL a b c d (bytesOf s))) :=
  (specEscape_loop a b c d s hs _ 0 [] rfl (by simp) (by omega)).to (by simp)

theorem implEscaped_loop (a b c d : Int) (s : ByteArray) (hs : s.size ≤ 1048576) : ∀ (l : List Int) (i : Nat) (p : List Int), (bytesOf s).drop i = l → p.length ≤ 2 * i → i ≤ s.size →
    Ev (fun k => impl_Syntax_escaped.l0 k s p (s.size : Int) (i : Int) a b c d) (strOfNums (p ++ escL a b c d l)) := by
  intro l
  induction l with
  | nil =>
    intro i p h hp hi
    have h0 := drop_nil h
    exact Ev.step (fun k => impl_Syntax_escaped.l0.eq_2 ..) (Ev.neg (by omega) (Ev.ret (by simp [escL])))
  | cons x r ih =>
    intro i p h hp hi
    obtain ⟨h1, h2, h3, h4, h5⟩ := drop_cons h
    have hw : wrap64 ((i : Int) + 1) = ((i + 1 : Nat) : Int) := by rw [wrap_id (by omega) (by omega)]; omega
    refine Ev.step (fun k => impl_Syntax_escaped.l0.eq_2 ..) (Ev.pos h1 (Ev.pos (by omega) (Ev.pos h1 ?_)))
    rw [h2, hw]
    refine Ev.bind (isOne_ev a b c d x h4 h5) ?_
    by_cases ho : ownP a b c d x = true
    · refine Ev.pos ho (Ev.pos (by omega) (Ev.bindc rfl (Ev.pos (by simp; omega) ?_)))
      exact (ih (i + 1) _ h3 (by simp; omega) (by omega)).to (by simp [escL, ho])
    · refine Ev.neg ho (Ev.pos (by omega) ?_)
      exact (ih (i + 1) _ h3 (by simp; omega) (by omega)).to (by simp [escL, ho])
theorem implEscaped_ev (a b c d : Int) (s : ByteArray) (hs : s.size ≤ 1048576) : Ev (fun k => impl_Syntax_escaped.f k a b c d s) (strOfNums (escL a b c d (bytesOf s))) :=
  (implEscaped_loop a b c d s hs _ 0 [] rfl (by simp) (by omega)).to (by simp)

theorem wi_ {i : Nat} (h : (i : Int) ≤ 4611686018427387904) : wrap64 ((i : Int) + 1) = ((i + 1 : Nat) : Int) := by rw [wrap_id (by omega) (by omega)]; omega
/-- A list that is copied into a new one, place by place. -/
theorem tos_list {α β : Type} (z : α) (g : α → β) (T : Nat → List α → List β → Int → Option (List β)) (L : List α)
    (hT : ∀ (D : List β) (i : Nat) (r : List β), i < L.length → D.length = L.length → Ev (fun k => T k L (D.set i (g (L.getD i z))) ((i + 1 : Nat) : Int)) r → Ev (fun k => T k L D (i : Int)) r)
    (hT0 : ∀ (D : List β) (i : Nat), L.length ≤ i → Ev (fun k => T k L D (i : Int)) D) :
    ∀ (d : Nat) (D : List β) (i : Nat), L.length - i = d → D.length = L.length → (∀ j, j < i → D[j]? = (L.map g)[j]?) → Ev (fun k => T k L D (i : Int)) (L.map g)
  | 0, D, i, hd, hl, hp => by
    have e : D = L.map g := by
      apply List.ext_getElem?
      intro j
      by_cases h : j < i
      · exact hp j h
      · rw [List.getElem?_eq_none (by omega), List.getElem?_eq_none (by rw [List.length_map]; omega)]
    subst e
    exact hT0 _ i (by omega)
  | d + 1, D, i, hd, hl, hp => by
    refine hT D i _ (by omega) hl (tos_list z g T L hT hT0 d _ (i + 1) (by omega) (by rw [List.length_set]; exact hl) (fun j hj => ?_))
    by_cases h : j = i
    · subst h
      rw [List.getElem?_set_self (by omega), List.getElem?_map, List.getD_eq_getElem?_getD, List.getElem?_eq_getElem (by omega : j < L.length)]
      rfl
    · rw [List.getElem?_set_ne (by omega)]
      exact hp j (by omega)
/-- A list is measured, place by place: it is too great, or each element is bounded. -/
theorem sz_list {α : Type} (z : α) (P : α → Prop) (Z : Nat → List α → Int → Int → Option Int) (L : List α)
    (hs : ∀ (i : Nat) (x : Int), i < L.length → 0 ≤ x → x ≤ 1048576 → Ev (fun k => Z k L x (i : Int)) (-1) ∨ ∃ x', 0 ≤ x' ∧ x' ≤ x ∧ P (L.getD i z) ∧ ∀ r, Ev (fun k => Z k L x' ((i + 1 : Nat) : Int)) r → Ev (fun k => Z k L x (i : Int)) r)
    (h0 : ∀ (i : Nat) (x : Int), L.length ≤ i → Ev (fun k => Z k L x (i : Int)) x) :
    ∀ (d i : Nat) (x : Int), L.length - i = d → 0 ≤ x → x ≤ 1048576 → ∃ w, Ev (fun k => Z k L x (i : Int)) w ∧ (w = -1 ∨ (0 ≤ w ∧ w ≤ x ∧ ∀ j, i ≤ j → j < L.length → P (L.getD j z)))
  | 0, i, x, hd, h1, h2 => ⟨x, h0 i x (by omega), .inr ⟨h1, by omega, fun j _ _ => by omega⟩⟩
  | d + 1, i, x, hd, h1, h2 => by
    rcases hs i x (by omega) h1 h2 with h | ⟨x', g1, g2, g3, g4⟩
    · exact ⟨-1, h, .inl rfl⟩
    · obtain ⟨w, e1, e2⟩ := sz_list z P Z L hs h0 d (i + 1) x' (by omega) g1 (by omega)
      refine ⟨w, g4 w e1, ?_⟩
      rcases e2 with e2 | ⟨e2, e3, e4⟩
      · exact .inl e2
      · refine .inr ⟨e2, by omega, fun j hj hl => ?_⟩
        by_cases h : j = i
        · subst h; exact g3
        · exact e4 j (by omega) hl
theorem sz_all {α : Type} (z : α) (P : α → Prop) (L : List α) (h : ∀ j, 0 ≤ j → j < L.length → P (L.getD j z)) : ∀ x ∈ L, P x := by
  intro x hx
  obtain ⟨j, hj, rfl⟩ := List.getElem_of_mem hx
  have := h j (by omega) hj
  rwa [List.getD_eq_getElem?_getD, List.getElem?_eq_getElem hj] at this
theorem getD_mem {α : Type} {L : List α} {i : Nat} (z : α) (h : i < L.length) : L.getD i z ∈ L := by
  rw [List.getD_eq_getElem?_getD, List.getElem?_eq_getElem h]
  exact List.getElem_mem h
/-- A text that is bounded; a list of them. -/
def bT (s : ByteArray) : Prop := s.size ≤ 1048576
def bTs (l : List ByteArray) : Prop := l.length ≤ 1048576 ∧ ∀ s ∈ l, bT s

/-- A comparison of lists, place by place: of one list with itself. -/
theorem eqs_refl {α : Type} (Q : Nat → List α → List α → Int → Option Bool) (L : List α) (hs : ∀ i : Nat, i < L.length → Ev (fun k => Q k L L ((i + 1 : Nat) : Int)) true → Ev (fun k => Q k L L (i : Int)) true) (h0 : ∀ i : Nat, L.length ≤ i → Ev (fun k => Q k L L (i : Int)) true) : ∀ (d i : Nat), L.length - i = d → Ev (fun k => Q k L L (i : Int)) true
  | 0, i, h => h0 i (by omega)
  | d + 1, i, h => hs i (by omega) (eqs_refl Q L hs h0 d (i + 1) (by omega))

theorem szStringS_ev (l : List ByteArray) (x : Int) (h0 : 0 ≤ x) (h1 : x ≤ 1048576) (hl : l.length ≤ maxLen) (hs : ∀ s ∈ l, s.size ≤ maxLen) : ∃ w, Ev (fun k => laws_szStringS.f k l x) w ∧ (w = -1 ∨ (0 ≤ w ∧ w ≤ x ∧ bTs l)) := by
  simp only [maxLen] at hl hs
  unfold laws_szStringS.f
  have hw : wrap64 (x - (l.length : Int)) = x - (l.length : Int) := wrap_id (by omega) (by omega)
  rw [hw]
  by_cases hn : x - (l.length : Int) < 0
  · exact ⟨-1, Ev.pos hn (Ev.now _), .inl rfl⟩
  · have hstep : ∀ (i : Nat) (y : Int), i < l.length → 0 ≤ y → y ≤ 1048576 → Ev (fun k => laws_szStringS.l0 k l y (i : Int)) (-1) ∨ ∃ x', 0 ≤ x' ∧ x' ≤ y ∧ bT (l.getD i ByteArray.empty) ∧ ∀ r, Ev (fun k => laws_szStringS.l0 k l x' ((i + 1 : Nat) : Int)) r → Ev (fun k => laws_szStringS.l0 k l y (i : Int)) r := by
      intro i y hi g0 g1
      have hsz : (l.getD i ByteArray.empty).size ≤ 9223372036854775807 := hs _ (getD_mem _ hi)
      have hr : rdOf ByteArray.empty l (i : Int) = l.getD i ByteArray.empty := by unfold rdOf; rw [Int.toNat_natCast]
      have hw2 : wrap64 (y - ((l.getD i ByteArray.empty).size : Int)) = y - ((l.getD i ByteArray.empty).size : Int) := wrap_id (by omega) (by omega)
      by_cases hz : y - ((l.getD i ByteArray.empty).size : Int) < 0
      · refine .inl (Ev.step (fun k => laws_szStringS.l0.eq_2 ..) (Ev.pos (by omega) (Ev.pos (by omega) ?_)))
        rw [hr, hw2]
        exact Ev.pos hz (Ev.now _)
      · refine .inr ⟨y - ((l.getD i ByteArray.empty).size : Int), by omega, by omega, by unfold bT; omega, fun r hr' => Ev.step (fun k => laws_szStringS.l0.eq_2 ..) (Ev.pos (by omega) (Ev.pos (by omega) ?_))⟩
        rw [hr, hw2, wi_ (by omega)]
        exact Ev.neg hz hr'
    obtain ⟨w, e1, e2⟩ := sz_list ByteArray.empty bT laws_szStringS.l0 l hstep (fun i y hi => Ev.step (fun k => laws_szStringS.l0.eq_2 ..) (Ev.neg (by omega) (Ev.now _))) l.length 0 (x - (l.length : Int)) (by omega) (by omega) (by omega)
    refine ⟨w, Ev.neg hn e1, ?_⟩
    rcases e2 with e2 | ⟨e2, e3, e4⟩
    · exact .inl e2
    · exact .inr ⟨e2, by omega, by omega, sz_all _ _ _ e4⟩

theorem toStringS_ev (l : List ByteArray) (hl : l.length ≤ 1048576) : Ev (fun k => laws_toStringS.f k l) l := by
  unfold laws_toStringS.f
  refine Ev.pos (by omega) (Ev.pos (by omega) ?_)
  refine (tos_list ByteArray.empty id laws_toStringS.l0 l (fun D i r hi hd h => ?_) (fun D i hi => ?_) l.length _ 0 (by omega) (by simp) (fun j hj => by omega)).to (by simp)
  · refine Ev.step (fun k => laws_toStringS.l0.eq_2 ..) (Ev.pos (by omega) (Ev.pos (by omega) (Ev.pos (by omega) ?_)))
    rw [wi_ (by omega)]
    exact h
  · exact Ev.step (fun k => laws_toStringS.l0.eq_2 ..) (Ev.neg (by omega) (Ev.now _))

theorem eqStringS_refl (l : List ByteArray) (hl : (l.length : Int) ≤ 4611686018427387904) : Ev (fun k => laws_eqStringS.f k l l) true := by
  unfold laws_eqStringS.f
  refine Ev.pos rfl (eqs_refl laws_eqStringS.l0 l (fun i hi h => ?_) (fun i hi => ?_) l.length 0 (by omega))
  · refine Ev.step (fun k => laws_eqStringS.l0.eq_2 ..) (Ev.pos (by omega) (Ev.pos (by omega) (Ev.pos (by omega) (Ev.pos rfl ?_))))
    rw [wi_ (by omega)]
    exact h
  · exact Ev.step (fun k => laws_eqStringS.l0.eq_2 ..) (Ev.neg (by omega) (Ev.now _))

/-- A Element that is bounded; a Element of the laws as the program has it. -/
def bElement (x : S125) : Prop := bTs x.f0
def cElement (x : S125) : S102 := ⟨x.f0⟩

theorem szElement_ev (a0 : List ByteArray) (x : Int) (g0 : 0 ≤ x) (g1 : x ≤ 1048576) (h0 : (a0.length ≤ maxLen ∧ ∀ s ∈ a0, s.size ≤ maxLen)) : ∃ w, Ev (fun k => laws_szElement.f k a0 x) w ∧ (w = -1 ∨ (0 ≤ w ∧ w ≤ x ∧ bTs a0)) := by
  unfold laws_szElement.f
  obtain ⟨w0, u0, t0⟩ := szStringS_ev a0 x (by omega) (by omega) h0.1 h0.2
  rcases t0 with t0 | ⟨t0, s0, b0⟩
  · exact ⟨-1, Ev.bind u0 (Ev.pos (by omega) (Ev.now _)), .inl rfl⟩
  exact ⟨w0, Ev.bind u0 (Ev.neg (by omega) (Ev.now _)), .inr ⟨by omega, by omega, (b0)⟩⟩

theorem szElementS_ev (l : List S125) (x : Int) (h0 : 0 ≤ x) (h1 : x ≤ 1048576) (hl : l.length ≤ maxLen) (hs : ∀ y ∈ l, q125 y) : ∃ w, Ev (fun k => laws_szElementS.f k l x) w ∧ (w = -1 ∨ (0 ≤ w ∧ w ≤ x ∧ l.length ≤ 1048576 ∧ ∀ y ∈ l, bElement y)) := by
  simp only [maxLen] at hl
  have hq : ∀ i, i < l.length → q125 (l.getD i z125) := fun i hi => hs _ (getD_mem _ hi)
  unfold laws_szElementS.f
  have hw : wrap64 (x - (l.length : Int)) = x - (l.length : Int) := wrap_id (by omega) (by omega)
  rw [hw]
  by_cases hn : x - (l.length : Int) < 0
  · exact ⟨-1, Ev.pos hn (Ev.now _), .inl rfl⟩
  · have hstep : ∀ (i : Nat) (y : Int), i < l.length → 0 ≤ y → y ≤ 1048576 → Ev (fun k => laws_szElementS.l0 k l y (i : Int)) (-1) ∨ ∃ x', 0 ≤ x' ∧ x' ≤ y ∧ bElement (l.getD i z125) ∧ ∀ r, Ev (fun k => laws_szElementS.l0 k l x' ((i + 1 : Nat) : Int)) r → Ev (fun k => laws_szElementS.l0 k l y (i : Int)) r := by
      intro i y hi g0 g1
      have hr : rd_T125 l (i : Int) = l.getD i z125 := by unfold rd_T125; rw [Int.toNat_natCast]
      obtain ⟨w, e1, e2⟩ := szElement_ev (l.getD i z125).f0 y g0 g1 (hq i hi)
      rcases e2 with e2 | ⟨e2, e3, e4⟩
      · refine .inl (Ev.step (fun k => laws_szElementS.l0.eq_2 ..) (Ev.pos (by omega) (Ev.pos (by omega) ?_)))
        rw [hr]
        exact Ev.bind e1 (Ev.pos (by omega) (Ev.now _))
      · refine .inr ⟨w, by omega, by omega, e4, fun r hr' => Ev.step (fun k => laws_szElementS.l0.eq_2 ..) (Ev.pos (by omega) (Ev.pos (by omega) ?_))⟩
        rw [hr, wi_ (by omega)]
        exact Ev.bind e1 (Ev.neg (by omega) hr')
    obtain ⟨w, e1, e2⟩ := sz_list z125 bElement laws_szElementS.l0 l hstep (fun i y hi => Ev.step (fun k => laws_szElementS.l0.eq_2 ..) (Ev.neg (by omega) (Ev.now _))) l.length 0 (x - (l.length : Int)) (by omega) (by omega) (by omega)
    refine ⟨w, Ev.neg hn e1, ?_⟩
    rcases e2 with e2 | ⟨e2, e3, e4⟩
    · exact .inl e2
    · exact .inr ⟨e2, by omega, by omega, sz_all _ _ _ e4⟩

theorem toElement_ev (a0 : List ByteArray) (h0 : bTs a0) : Ev (fun k => laws_toElement.f k a0) a0 := by
  unfold laws_toElement.f
  exact Ev.bind (toStringS_ev a0 h0.1) (Ev.now _)

theorem toElementS_ev (l : List S125) (hl : l.length ≤ 1048576) (hb : ∀ y ∈ l, bElement y) : Ev (fun k => laws_toElementS.f k l) (l.map cElement) := by
  unfold laws_toElementS.f
  refine Ev.pos (by omega) (Ev.pos (by omega) ?_)
  refine tos_list z125 cElement laws_toElementS.l0 l (fun D i r hi hd h => ?_) (fun D i hi => ?_) l.length _ 0 (by omega) (by simp) (fun j hj => by omega)
  · have hr : rd_T125 l (i : Int) = l.getD i z125 := by unfold rd_T125; rw [Int.toNat_natCast]
    refine Ev.step (fun k => laws_toElementS.l0.eq_2 ..) (Ev.pos (by omega) (Ev.pos (by omega) ?_))
    rw [hr, wi_ (by omega)]
    refine Ev.bind (toElement_ev (l.getD i z125).f0 (hb _ (getD_mem z125 hi))) (Ev.pos (by omega) ?_)
    exact h
  · exact Ev.step (fun k => laws_toElementS.l0.eq_2 ..) (Ev.neg (by omega) (Ev.now _))

theorem eqElement_refl (a0 : List ByteArray) (h0 : (a0.length : Int) ≤ 4611686018427387904) : Ev (fun k => laws_eqElement.f k a0 a0) true := by
  unfold laws_eqElement.f
  exact Ev.bind (eqStringS_refl a0 h0) (Ev.pos rfl (Ev.now _))

/-- Of a Element: its lists are bounded. -/
def eElement (x : S102) : Prop := (x.f0.length : Int) ≤ 4611686018427387904
theorem eqElementS_refl (l : List S102) (hl : (l.length : Int) ≤ 4611686018427387904) (hb : ∀ y ∈ l, eElement y) : Ev (fun k => laws_eqElementS.f k l l) true := by
  unfold laws_eqElementS.f
  refine Ev.pos rfl (eqs_refl laws_eqElementS.l0 l (fun i hi h => ?_) (fun i hi => ?_) l.length 0 (by omega))
  · have hr : rd_T102 l (i : Int) = l.getD i z102 := by unfold rd_T102; rw [Int.toNat_natCast]
    refine Ev.step (fun k => laws_eqElementS.l0.eq_2 ..) (Ev.pos (by omega) (Ev.pos (by omega) (Ev.pos (by omega) ?_)))
    rw [hr, wi_ (by omega)]
    exact Ev.bind (eqElement_refl (l.getD i z102).f0 (hb _ (getD_mem z102 hi))) (Ev.pos rfl h)
  · exact Ev.step (fun k => laws_eqElementS.l0.eq_2 ..) (Ev.neg (by omega) (Ev.now _))

/-- A Segment that is bounded; a Segment of the laws as the program has it. -/
def bSegment (x : S54) : Prop := bT x.f0 ∧ (x.f1.length ≤ 1048576 ∧ ∀ y ∈ x.f1, bElement y)
def cSegment (x : S54) : S59 := ⟨x.f0, (x.f1.map cElement)⟩

theorem szSegment_ev (a0 : ByteArray) (a1 : List S125) (x : Int) (g0 : 0 ≤ x) (g1 : x ≤ 1048576) (h0 : a0.size ≤ maxLen) (h1 : (a1.length ≤ maxLen ∧ ∀ y ∈ a1, q125 y)) : ∃ w, Ev (fun k => laws_szSegment.f k a0 a1 x) w ∧ (w = -1 ∨ (0 ≤ w ∧ w ≤ x ∧ bT a0 ∧ (a1.length ≤ 1048576 ∧ ∀ y ∈ a1, bElement y))) := by
  unfold laws_szSegment.f
  have m0 : a0.size ≤ 9223372036854775807 := h0
  have e0 : wrap64 (x - (a0.size : Int)) = x - (a0.size : Int) := wrap_id (by omega) (by omega)
  rw [e0]
  by_cases n0 : x - (a0.size : Int) < 0
  · exact ⟨-1, Ev.pos n0 (Ev.now _), .inl rfl⟩
  obtain ⟨w1, u1, t1⟩ := szElementS_ev a1 (x - (a0.size : Int)) (by omega) (by omega) h1.1 h1.2
  rcases t1 with t1 | ⟨t1, s1, b1⟩
  · exact ⟨-1, Ev.neg n0 (Ev.bind u1 (Ev.pos (by omega) (Ev.now _))), .inl rfl⟩
  exact ⟨w1, Ev.neg n0 (Ev.bind u1 (Ev.neg (by omega) (Ev.now _))), .inr ⟨by omega, by omega, (by unfold bT; omega), (b1)⟩⟩

theorem szSegmentS_ev (l : List S54) (x : Int) (h0 : 0 ≤ x) (h1 : x ≤ 1048576) (hl : l.length ≤ maxLen) (hs : ∀ y ∈ l, q54 y) : ∃ w, Ev (fun k => laws_szSegmentS.f k l x) w ∧ (w = -1 ∨ (0 ≤ w ∧ w ≤ x ∧ l.length ≤ 1048576 ∧ ∀ y ∈ l, bSegment y)) := by
  simp only [maxLen] at hl
  have hq : ∀ i, i < l.length → q54 (l.getD i z54) := fun i hi => hs _ (getD_mem _ hi)
  unfold laws_szSegmentS.f
  have hw : wrap64 (x - (l.length : Int)) = x - (l.length : Int) := wrap_id (by omega) (by omega)
  rw [hw]
  by_cases hn : x - (l.length : Int) < 0
  · exact ⟨-1, Ev.pos hn (Ev.now _), .inl rfl⟩
  · have hstep : ∀ (i : Nat) (y : Int), i < l.length → 0 ≤ y → y ≤ 1048576 → Ev (fun k => laws_szSegmentS.l0 k l y (i : Int)) (-1) ∨ ∃ x', 0 ≤ x' ∧ x' ≤ y ∧ bSegment (l.getD i z54) ∧ ∀ r, Ev (fun k => laws_szSegmentS.l0 k l x' ((i + 1 : Nat) : Int)) r → Ev (fun k => laws_szSegmentS.l0 k l y (i : Int)) r := by
      intro i y hi g0 g1
      have hr : rd_T54 l (i : Int) = l.getD i z54 := by unfold rd_T54; rw [Int.toNat_natCast]
      obtain ⟨w, e1, e2⟩ := szSegment_ev (l.getD i z54).f0 (l.getD i z54).f1 y g0 g1 (hq i hi).1 (hq i hi).2
      rcases e2 with e2 | ⟨e2, e3, e4⟩
      · refine .inl (Ev.step (fun k => laws_szSegmentS.l0.eq_2 ..) (Ev.pos (by omega) (Ev.pos (by omega) ?_)))
        rw [hr]
        exact Ev.bind e1 (Ev.pos (by omega) (Ev.now _))
      · refine .inr ⟨w, by omega, by omega, e4, fun r hr' => Ev.step (fun k => laws_szSegmentS.l0.eq_2 ..) (Ev.pos (by omega) (Ev.pos (by omega) ?_))⟩
        rw [hr, wi_ (by omega)]
        exact Ev.bind e1 (Ev.neg (by omega) hr')
    obtain ⟨w, e1, e2⟩ := sz_list z54 bSegment laws_szSegmentS.l0 l hstep (fun i y hi => Ev.step (fun k => laws_szSegmentS.l0.eq_2 ..) (Ev.neg (by omega) (Ev.now _))) l.length 0 (x - (l.length : Int)) (by omega) (by omega) (by omega)
    refine ⟨w, Ev.neg hn e1, ?_⟩
    rcases e2 with e2 | ⟨e2, e3, e4⟩
    · exact .inl e2
    · exact .inr ⟨e2, by omega, by omega, sz_all _ _ _ e4⟩

theorem toSegment_ev (a0 : ByteArray) (a1 : List S125) (h1 : (a1.length ≤ 1048576 ∧ ∀ y ∈ a1, bElement y)) : Ev (fun k => laws_toSegment.f k a0 a1) (a0, (a1.map cElement)) := by
  unfold laws_toSegment.f
  exact Ev.bind (toElementS_ev a1 h1.1 h1.2) (Ev.now _)

theorem toSegmentS_ev (l : List S54) (hl : l.length ≤ 1048576) (hb : ∀ y ∈ l, bSegment y) : Ev (fun k => laws_toSegmentS.f k l) (l.map cSegment) := by
  unfold laws_toSegmentS.f
  refine Ev.pos (by omega) (Ev.pos (by omega) ?_)
  refine tos_list z54 cSegment laws_toSegmentS.l0 l (fun D i r hi hd h => ?_) (fun D i hi => ?_) l.length _ 0 (by omega) (by simp) (fun j hj => by omega)
  · have hr : rd_T54 l (i : Int) = l.getD i z54 := by unfold rd_T54; rw [Int.toNat_natCast]
    refine Ev.step (fun k => laws_toSegmentS.l0.eq_2 ..) (Ev.pos (by omega) (Ev.pos (by omega) ?_))
    rw [hr, wi_ (by omega)]
    refine Ev.bind (toSegment_ev (l.getD i z54).f0 (l.getD i z54).f1 (hb _ (getD_mem z54 hi)).2) (Ev.pos (by omega) ?_)
    exact h
  · exact Ev.step (fun k => laws_toSegmentS.l0.eq_2 ..) (Ev.neg (by omega) (Ev.now _))

theorem eqSegment_refl (a0 : ByteArray) (a1 : List S102) (h1 : ((a1.length : Int) ≤ 4611686018427387904 ∧ ∀ y ∈ a1, eElement y)) : Ev (fun k => laws_eqSegment.f k a0 a1 a0 a1) true := by
  unfold laws_eqSegment.f
  exact Ev.pos rfl (Ev.bind (eqElementS_refl a1 h1.1 h1.2) (Ev.pos rfl (Ev.now _)))

/-- Of a Segment: its lists are bounded. -/
def eSegment (x : S59) : Prop := ((x.f1.length : Int) ≤ 4611686018427387904 ∧ ∀ y ∈ x.f1, eElement y)
theorem eqSegmentS_refl (l : List S59) (hl : (l.length : Int) ≤ 4611686018427387904) (hb : ∀ y ∈ l, eSegment y) : Ev (fun k => laws_eqSegmentS.f k l l) true := by
  unfold laws_eqSegmentS.f
  refine Ev.pos rfl (eqs_refl laws_eqSegmentS.l0 l (fun i hi h => ?_) (fun i hi => ?_) l.length 0 (by omega))
  · have hr : rd_T59 l (i : Int) = l.getD i z59 := by unfold rd_T59; rw [Int.toNat_natCast]
    refine Ev.step (fun k => laws_eqSegmentS.l0.eq_2 ..) (Ev.pos (by omega) (Ev.pos (by omega) (Ev.pos (by omega) ?_)))
    rw [hr, wi_ (by omega)]
    exact Ev.bind (eqSegment_refl (l.getD i z59).f0 (l.getD i z59).f1 (hb _ (getD_mem z59 hi))) (Ev.pos rfl h)
  · exact Ev.step (fun k => laws_eqSegmentS.l0.eq_2 ..) (Ev.neg (by omega) (Ev.now _))

/-! parts of a segment: printed, at most forty; a tag: three great letters -/
def printB (c : Int) : Bool := decide (32 ≤ c ∧ c ≤ 126)
def partB (s : ByteArray) : Bool := decide (s.size ≤ 40) && (bytesOf s).all printB
def tagB (s : ByteArray) : Bool := decide (s.size = 3) && (bytesOf s).all great
theorem specPart_loop (s : ByteArray) (hs : s.size ≤ 1048576) : ∀ (l : List Int) (i : Nat), (bytesOf s).drop i = l → Ev (fun k => spec_l02Part.l0 k s (i : Int)) (l.all printB) := by
  intro l
  induction l with
  | nil =>
    intro i h
    have h0 := drop_nil h
    exact Ev.step (fun k => spec_l02Part.l0.eq_2 ..) (Ev.neg (by omega) (Ev.now _))
  | cons c r ih =>
    intro i h
    obtain ⟨h1, h2, h3, h4, h5⟩ := drop_cons h
    refine Ev.step (fun k => spec_l02Part.l0.eq_2 ..) (Ev.pos h1 (Ev.pos (by omega) ?_))
    rw [h2, wrap_id (x := (i : Int) + 1) (by omega) (by omega), show (i : Int) + 1 = ((i + 1 : Nat) : Int) by omega]
    refine Ev.ite (fun g => Ev.ret ?_) (fun g => Ev.ite (fun g2 => Ev.ret ?_) (fun g2 => (ih (i + 1) h3).to ?_))
    · have : printB c = false := by simp [printB]; omega
      simp [this]
    · have : printB c = false := by simp [printB]; omega
      simp [this]
    · have : printB c = true := by simp [printB]; omega
      simp [this]
theorem specPart_ev (s : ByteArray) (hs : s.size ≤ 1048576) : Ev (fun k => spec_l02Part.f k s) (partB s) := by
  unfold spec_l02Part.f
  refine Ev.ite (fun g => Ev.ret ?_) (fun g => (specPart_loop s hs _ 0 rfl).to ?_)
  · have : decide (s.size ≤ 40) = false := by simp; omega
    simp [partB, this]
  · have : decide (s.size ≤ 40) = true := by simp; omega
    simp [partB, this]
theorem implPrinted_loop (s : ByteArray) (hs : s.size ≤ 1048576) : ∀ (l : List Int) (i : Nat), (bytesOf s).drop i = l → Ev (fun k => impl_isPrinted.l0 k s (s.size : Int) (i : Int)) (l.all printB) := by
  intro l
  induction l with
  | nil =>
    intro i h
    have h0 := drop_nil h
    exact Ev.step (fun k => impl_isPrinted.l0.eq_2 ..) (Ev.neg (by omega) (Ev.now _))
  | cons c r ih =>
    intro i h
    obtain ⟨h1, h2, h3, h4, h5⟩ := drop_cons h
    refine Ev.step (fun k => impl_isPrinted.l0.eq_2 ..) (Ev.pos h1 (Ev.pos (by omega) (Ev.pos h1 ?_)))
    rw [h2, wrap_id (x := (i : Int) + 1) (by omega) (by omega), show (i : Int) + 1 = ((i + 1 : Nat) : Int) by omega]
    refine Ev.ite (fun g => Ev.ret ?_) (fun g => Ev.ite (fun g2 => Ev.ret ?_) (fun g2 => (ih (i + 1) h3).to ?_))
    · have : printB c = false := by simp [printB]; omega
      simp [this]
    · have : printB c = false := by simp [printB]; omega
      simp [this]
    · have : printB c = true := by simp [printB]; omega
      simp [this]
theorem implPart_ev (s : ByteArray) (hs : s.size ≤ 1048576) : Ev (fun k => impl_isPart.f k s) (partB s) := by
  unfold impl_isPart.f
  refine Ev.ite (fun g => ?_) (fun g => Ev.ret ?_)
  · have h2 : decide (s.size ≤ 40) = true := by simp; omega
    refine Ev.bind (show Ev (fun k => impl_isPrinted.f k s) ((bytesOf s).all printB) from implPrinted_loop s hs _ 0 rfl) (Ev.ret ?_)
    simp [partB, h2]
  · have : decide (s.size ≤ 40) = false := by simp; omega
    simp [partB, this]
theorem specTag_loop (s : ByteArray) (hs : s.size = 3) : ∀ (l : List Int) (i : Nat), (bytesOf s).drop i = l → Ev (fun k => spec_l02Tag.l0 k s (i : Int)) (l.all great) := by
  intro l
  induction l with
  | nil =>
    intro i h
    have h0 := drop_nil h
    exact Ev.step (fun k => spec_l02Tag.l0.eq_2 ..) (Ev.neg (by omega) (Ev.now _))
  | cons c r ih =>
    intro i h
    obtain ⟨h1, h2, h3, h4, h5⟩ := drop_cons h
    refine Ev.step (fun k => spec_l02Tag.l0.eq_2 ..) (Ev.pos (by omega) (Ev.pos (by omega) (Ev.pos h1 ?_)))
    rw [h2, wrap_id (x := (i : Int) + 1) (by omega) (by omega), show (i : Int) + 1 = ((i + 1 : Nat) : Int) by omega]
    refine Ev.ite (fun g => Ev.ret ?_) (fun g => Ev.ite (fun g2 => Ev.ret ?_) (fun g2 => (ih (i + 1) h3).to ?_))
    · have : great c = false := by simp [great]; omega
      simp [this]
    · have : great c = false := by simp [great]; omega
      simp [this]
    · have : great c = true := by simp [great]; omega
      simp [this]
theorem specTag_ev (s : ByteArray) : Ev (fun k => spec_l02Tag.f k s) (tagB s) := by
  unfold spec_l02Tag.f
  refine Ev.ite (fun g => (specTag_loop s (by omega) _ 0 rfl).to ?_) (fun g => Ev.ret ?_)
  · have : decide (s.size = 3) = true := by simp; omega
    simp [tagB, this]
  · have : decide (s.size = 3) = false := by simp; omega
    simp [tagB, this]
theorem isTag_eq (s : ByteArray) : impl_isTag.f s = some (tagB s) := by
  unfold impl_isTag.f
  by_cases h : s.size = 3
  · obtain ⟨a, b, c, hb⟩ : ∃ a b c, bytesOf s = [a, b, c] := by
      have := length_bytesOf s
      rw [h] at this
      match bytesOf s, this with
      | [a, b, c], _ => exact ⟨a, b, c, rfl⟩
    obtain ⟨h0, e0, d0, _⟩ := drop_cons (i := 0) (s := s) (c := a) (r := [b, c]) (by simpa using hb)
    obtain ⟨h1, e1, d1, _⟩ := drop_cons (i := 1) (s := s) d0
    obtain ⟨h2, e2, d2, _⟩ := drop_cons (i := 2) (s := s) d1
    have e0 : bt s 0 = a := e0
    have e1 : bt s 1 = b := e1
    have e2 : bt s 2 = c := e2
    rw [if_pos (by omega), if_pos (by omega), if_pos (by omega), if_pos (by omega), e0, e1, e2, isGreat_eq, isGreat_eq, isGreat_eq]
    have : decide (s.size = 3) = true := by simpa using h
    cases ha : great a <;> cases hb2 : great b <;> simp [tagB, this, hb, ha, hb2]
  · rw [if_neg (by omega)]
    have : decide (s.size = 3) = false := by simpa using h
    simp [tagB, this]

/-! a right segment -/
def lastE (p : List ByteArray) : Bool := ((rdOf ByteArray.empty p (wrap64 ((p.length : Int) - 1))).toList == ([] : List UInt8))
def emptyE (p : List ByteArray) : Bool := decide (p.length = 1) && lastE p
def elP (p : List ByteArray) : Bool := decide (1 ≤ p.length ∧ p.length ≤ 4) && !(decide (p.length > 1) && lastE p) && p.all partB
def lastEl (L : List S102) : Bool := match L.getLast? with | none => false | some e => emptyE e.f0
/-- A list's elements, the last one apart. -/
def segL : List S102 → Bool
  | [] => true
  | [e] => elP e.f0 && !emptyE e.f0
  | e :: e' :: r => elP e.f0 && segL (e' :: r)
theorem segL_eq : ∀ L : List S102, segL L = (L.all (fun e => elP e.f0) && !lastEl L)
  | [] => rfl
  | [e] => by simp [segL, lastEl]
  | e :: e' :: r => by
    have := segL_eq (e' :: r)
    have h2 : lastEl (e :: e' :: r) = lastEl (e' :: r) := by simp [lastEl]
    rw [segL, this, h2]
    simp [Bool.and_assoc]
def segB (s : ByteArray) (L : List S102) : Bool := tagB s && decide (L.length ≤ 10) && segL L
def bEl (p : List ByteArray) : Prop := p.length ≤ 1048576 ∧ ∀ s ∈ p, s.size ≤ 1048576
theorem rdlast (L : List S102) (h : 0 < L.length) (h1 : L.length ≤ 1048576) : 0 ≤ wrap64 ((L.length : Int) - 1) ∧ wrap64 ((L.length : Int) - 1) < (L.length : Int) ∧ lastEl L = emptyE (rd_T102 L (wrap64 ((L.length : Int) - 1))).f0 := by
  rw [wrap_id (by omega) (by omega)]
  refine ⟨by omega, by omega, ?_⟩
  unfold rd_T102 lastEl
  rw [List.getLast?_eq_getElem?, List.getD_eq_getElem?_getD, show ((L.length : Int) - 1).toNat = L.length - 1 by omega, List.getElem?_eq_getElem (by omega)]
  rfl
theorem l02Empty_eq (p : List ByteArray) : spec_l02Empty.f p = some (emptyE p) := by
  unfold spec_l02Empty.f emptyE
  by_cases h : p.length = 1
  · rw [if_pos (by omega), if_pos (by omega)]
    have hw : wrap64 ((p.length : Int) - 1) = 0 := by rw [wrap_id (by omega) (by omega)]; omega
    unfold lastE
    rw [hw]
    simp [h]
  · rw [if_neg (by omega)]
    simp [h]
theorem spec1_loop (s : ByteArray) (L : List S102) (p : List ByteArray) (hp : bEl p) (x : Int) (R : Bool) (hR : Ev (fun k => spec_SegmentRight.l0 k (wrap64 (x + 1)) s L) R) : ∀ (r : List ByteArray) (j : Nat), p.drop j = r → Ev (fun k => spec_SegmentRight.l1 k x p (j : Int) s L) (r.all partB && R) := by
  have hl := hp.1
  intro r
  induction r with
  | nil =>
    intro j h
    have h0 := ldrop_nil h
    exact Ev.step (fun k => spec_SegmentRight.l1.eq_2 ..) (Ev.neg (by omega) (hR.to (by simp)))
  | cons c r ih =>
    intro j h
    obtain ⟨h1, h2, h3⟩ := rdOf_cons ByteArray.empty h
    have hm : c ∈ p := List.mem_of_mem_drop (by rw [h]; exact List.mem_cons_self)
    have hw := wi_ (i := j) (by omega)
    refine Ev.step (fun k => spec_SegmentRight.l1.eq_2 ..) (Ev.pos h1 (Ev.pos (by omega) ?_))
    rw [h2, hw]
    refine Ev.bind (specPart_ev c (hp.2 c hm)) (Ev.ite (fun g => (ih (j + 1) h3).to (by simp [g])) (fun g => Ev.ret (by simp [g])))
theorem specSeg_loop (s : ByteArray) (L : List S102) (hL : L.length ≤ 1048576) (hE : ∀ e ∈ L, bEl e.f0) : ∀ (r : List S102) (i : Nat), L.drop i = r → Ev (fun k => spec_SegmentRight.l0 k (i : Int) s L) (r.all (fun e => elP e.f0) && !lastEl L) := by
  intro r
  induction r with
  | nil =>
    intro i h
    have h0 := ldrop_nil h
    refine Ev.step (fun k => spec_SegmentRight.l0.eq_2 ..) (Ev.neg (by omega) (Ev.ite (fun g => Ev.ret ?_) (fun g => ?_)))
    · have : L = [] := List.length_eq_zero_iff.1 (by omega)
      rw [this]; rfl
    · obtain ⟨h1, h2, h3⟩ := rdlast L (by omega) hL
      exact Ev.pos h1 (Ev.pos h2 (Ev.bindc (l02Empty_eq _) (Ev.ret (by rw [h3]; simp))))
  | cons e r ih =>
    intro i h
    obtain ⟨h1, h2, h3⟩ := ldrop_cons z102 h
    have hr : rd_T102 L (i : Int) = e := h2
    have hb := hE e (List.mem_of_mem_drop (by rw [h]; exact List.mem_cons_self))
    have hbl := hb.1
    have hw := wi_ (i := i) (by omega)
    have hi := ih (i + 1) h3
    rw [← hw] at hi
    have inner : Ev (fun k => spec_SegmentRight.l1 k (i : Int) e.f0 0 s L) (e.f0.all partB && (r.all (fun e => elP e.f0) && !lastEl L)) := spec1_loop s L e.f0 hb (i : Int) _ hi _ 0 rfl
    have hw2 : wrap64 ((e.f0.length : Int) - 1) = (e.f0.length : Int) - 1 := wrap_id (by omega) (by omega)
    refine Ev.step (fun k => spec_SegmentRight.l0.eq_2 ..) (Ev.pos h1 (Ev.pos (by omega) ?_))
    rw [hr]
    refine Ev.ite (fun g => ?_) (fun g => Ev.ite (fun g2 => ?_) (fun g2 => Ev.ite (fun g3 => Ev.pos (by rw [hw2]; omega) (Ev.pos (by rw [hw2]; omega) ?_)) (fun g3 => ?_)))
    · have : elP e.f0 = false := by simp [elP]; omega
      exact Ev.step (fun k => spec_SegmentRight.j2.eq_2 ..) (Ev.pos rfl (Ev.ret (by simp [this])))
    · have : elP e.f0 = false := by simp [elP]; omega
      exact Ev.step (fun k => spec_SegmentRight.j2.eq_2 ..) (Ev.pos rfl (Ev.ret (by simp [this])))
    · refine Ev.step (fun k => spec_SegmentRight.j2.eq_2 ..) (Ev.ite (fun g4 => Ev.ret ?_) (fun g4 => inner.to ?_))
      · have : elP e.f0 = false := by
          have h4 : lastE e.f0 = true := g4
          have h5 : decide (e.f0.length > 1) = true := by simp; omega
          simp [elP, h4, h5]
        simp [this]
      · have : elP e.f0 = e.f0.all partB := by
          have h4 : lastE e.f0 = false := by simpa [lastE] using g4
          have h5 : decide (1 ≤ e.f0.length ∧ e.f0.length ≤ 4) = true := by simp; omega
          simp only [elP, h4, h5]; simp
        simp [this, Bool.and_assoc]
    · refine Ev.step (fun k => spec_SegmentRight.j2.eq_2 ..) (Ev.neg (by simp) (inner.to ?_))
      have : elP e.f0 = e.f0.all partB := by
        have h4 : decide (e.f0.length > 1) = false := by simp; omega
        have h5 : decide (1 ≤ e.f0.length ∧ e.f0.length ≤ 4) = true := by simp; omega
        simp only [elP, h4, h5]; simp
      simp [this, Bool.and_assoc]
theorem specSeg_ev (s : ByteArray) (L : List S102) (hL : L.length ≤ 1048576) (hE : ∀ e ∈ L, bEl e.f0) : Ev (fun k => spec_SegmentRight.f k s L) (segB s L) := by
  unfold spec_SegmentRight.f
  have h0 : Ev (fun k => spec_SegmentRight.l0 k 0 s L) (segL L) := (specSeg_loop s L hL hE L 0 rfl).to (segL_eq L).symm
  refine Ev.bind (specTag_ev s) (Ev.ite (fun g => Ev.step (fun k => spec_SegmentRight.j0.eq_2 ..) (Ev.ite (fun g2 => Ev.ret ?_) (fun g2 => h0.to ?_))) (fun g => Ev.step (fun k => spec_SegmentRight.j0.eq_2 ..) (Ev.pos rfl (Ev.ret ?_))))
  · have : decide (L.length ≤ 10) = false := by have := of_decide_eq_true g2; simp; omega
    simp [segB, this]
  · have : decide (L.length ≤ 10) = true := by simp at g2; simp; omega
    simp only [segB, g, this]; simp
  · simp [segB, g]
theorem partsIdx_loop (p : List ByteArray) (hp : bEl p) : ∀ (r : List ByteArray) (i : Nat), p.drop i = r → ∃ x : Int, Ev (fun k => slices_IndexFunc_string_string__impl_SegmentRight_1.l0 k p (p.length : Int) (i : Int)) x ∧ decide (x ≥ 0) = !(r.all partB) := by
  have hl := hp.1
  intro r
  induction r with
  | nil =>
    intro i h
    have h0 := ldrop_nil h
    exact ⟨-1, Ev.step (fun k => slices_IndexFunc_string_string__impl_SegmentRight_1.l0.eq_2 ..) (Ev.neg (by omega) (Ev.now _)), by simp⟩
  | cons c r ih =>
    intro i h
    obtain ⟨h1, h2, h3⟩ := rdOf_cons ByteArray.empty h
    have hm : c ∈ p := List.mem_of_mem_drop (by rw [h]; exact List.mem_cons_self)
    have hw := wi_ (i := i) (by omega)
    obtain ⟨x, hx, he⟩ := ih (i + 1) h3
    have h1c : Ev (fun k => impl_SegmentRight_1.f k c) (!partB c) := by
      unfold impl_SegmentRight_1.f
      exact Ev.bind (implPart_ev c (hp.2 c hm)) (Ev.now _)
    cases hc : partB c with
    | false =>
      refine ⟨i, Ev.step (fun k => slices_IndexFunc_string_string__impl_SegmentRight_1.l0.eq_2 ..) (Ev.pos h1 (Ev.pos (by omega) (Ev.pos h1 ?_))), by simp [hc]⟩
      rw [h2]
      exact Ev.bind h1c (Ev.pos (by simp [hc]) (Ev.now _))
    | true =>
      refine ⟨x, Ev.step (fun k => slices_IndexFunc_string_string__impl_SegmentRight_1.l0.eq_2 ..) (Ev.pos h1 (Ev.pos (by omega) (Ev.pos h1 ?_))), by rw [he]; simp [hc]⟩
      rw [h2, hw]
      exact Ev.bind h1c (Ev.neg (by simp [hc]) hx)
theorem partsAny_ev (p : List ByteArray) (hp : bEl p) : Ev (fun k => slices_ContainsFunc_string_string__impl_SegmentRight_1.f k p) (!(p.all partB)) := by
  obtain ⟨x, hx, he⟩ := partsIdx_loop p hp p 0 rfl
  unfold slices_ContainsFunc_string_string__impl_SegmentRight_1.f
  refine Ev.bind (show Ev (fun k => slices_IndexFunc_string_string__impl_SegmentRight_1.f k p) x from hx) ?_
  exact Ev.ret he
theorem implSeg_loop (s : ByteArray) (L : List S102) (hL : L.length ≤ 1048576) (hE : ∀ e ∈ L, bEl e.f0) : ∀ (r : List S102) (i : Nat), L.drop i = r → Ev (fun k => impl_SegmentRight.l0 k L (L.length : Int) (i : Int) s L) (segL r && (tagB s && decide (L.length ≤ 10))) := by
  intro r
  induction r with
  | nil =>
    intro i h
    have h0 := ldrop_nil h
    refine Ev.step (fun k => impl_SegmentRight.l0.eq_2 ..) (Ev.neg (by omega) (Ev.bindc (isTag_eq s) (Ev.ite (fun g => Ev.ret ?_) (fun g => Ev.ret ?_))))
    · simp only [segL, g, Bool.true_and]
      simp only [decide_eq_decide]; omega
    · simp [g]
  | cons e r ih =>
    intro i h
    obtain ⟨h1, h2, h3⟩ := ldrop_cons z102 h
    have hr : rd_T102 L (i : Int) = e := h2
    have hb := hE e (List.mem_of_mem_drop (by rw [h]; exact List.mem_cons_self))
    have hbl := hb.1
    have hw := wi_ (i := i) (by omega)
    have hi := ih (i + 1) h3
    have hrl : r.length + (i + 1) = L.length := by
      have := congrArg List.length h3
      rw [List.length_drop] at this
      omega
    have hw2 : wrap64 ((e.f0.length : Int) - 1) = (e.f0.length : Int) - 1 := wrap_id (by omega) (by omega)
    have hw3 : wrap64 ((L.length : Int) - 1) = (L.length : Int) - 1 := wrap_id (by omega) (by omega)
    have hno : elP e.f0 = false → (segL (e :: r) && (tagB s && decide (L.length ≤ 10))) = false := by
      intro h0
      cases r <;> simp [segL, h0]
    refine Ev.step (fun k => impl_SegmentRight.l0.eq_2 ..) (Ev.pos h1 (Ev.pos (by omega) (Ev.pos h1 (Ev.bindc (within_eq _ _ _) ?_))))
    rw [hr]
    refine Ev.ite (fun g => Ev.bind (partsAny_ev e.f0 hb) (Ev.step (fun k => impl_SegmentRight.j1.eq_2 ..) (Ev.ite (fun g2 => Ev.ret ?_) (fun g2 => ?_)))) (fun g => Ev.step (fun k => impl_SegmentRight.j1.eq_2 ..) (Ev.pos rfl (Ev.ret ?_)))
    · refine (hno ?_).symm
      have g3 : e.f0.all partB = false := by simpa using g2
      unfold elP; rw [g3]; simp
    · have g3 : e.f0.all partB = true := by simpa using g2
      have gw : 1 ≤ e.f0.length ∧ e.f0.length ≤ 4 := by simp [withinP] at g; omega
      refine Ev.pos (by rw [hw2]; omega) (Ev.pos (by rw [hw2]; omega) (Ev.ite (fun g4 => Ev.ite (fun g5 => Ev.ret ?_) (fun g5 => Ev.ite (fun g6 => Ev.ret ?_) (fun g6 => ?_))) (fun g4 => ?_)))
      · refine (hno ?_).symm
        have h4 : lastE e.f0 = true := by simpa [lastE] using g4
        have h5 : decide (e.f0.length > 1) = true := by simp; omega
        simp [elP, h4, h5]
      · have h4 : lastE e.f0 = true := by simpa [lastE] using g4
        have : r = [] := List.length_eq_zero_iff.1 (by rw [hw3] at g6; omega)
        subst this
        have h5 : emptyE e.f0 = true := by
          unfold emptyE
          rw [h4]
          simp; omega
        simp [segL, h5]
      · rw [hw]
        refine hi.to ?_
        have h4 : elP e.f0 = true := by
          have h5 : decide (e.f0.length > 1) = false := by simp; omega
          have h6 : decide (1 ≤ e.f0.length ∧ e.f0.length ≤ 4) = true := by simpa using gw
          simp only [elP, h5, h6, g3]; simp
        match r, hrl with
        | [], hrl => exact absurd (show (i : Int) = wrap64 ((L.length : Int) - 1) by rw [hw3]; simp at hrl; omega) g6
        | e' :: r', _ => simp [segL, h4]
      · rw [hw]
        refine hi.to ?_
        have h7 : lastE e.f0 = false := by simpa [lastE] using g4
        have h4 : elP e.f0 = true := by
          have h6 : decide (1 ≤ e.f0.length ∧ e.f0.length ≤ 4) = true := by simpa using gw
          simp only [elP, h7, h6, g3]; simp
        have h8 : emptyE e.f0 = false := by simp [emptyE, h7]
        match r with
        | [] => simp [segL, h4, h8]
        | e' :: r' => simp [segL, h4]
    · refine (hno ?_).symm
      have : decide (1 ≤ e.f0.length ∧ e.f0.length ≤ 4) = false := by simp [withinP] at g; simp; omega
      unfold elP; rw [this]; simp
theorem implSeg_ev (s : ByteArray) (L : List S102) (hL : L.length ≤ 1048576) (hE : ∀ e ∈ L, bEl e.f0) : Ev (fun k => impl_SegmentRight.f k s L) (segB s L) := by
  unfold impl_SegmentRight.f
  refine (implSeg_loop s L hL hE L 0 rfl).to ?_
  unfold segB
  rw [Bool.and_comm]

theorem bound_cEl {l : List S125} (hb : ∀ y ∈ l, bElement y) : ∀ y ∈ l.map cElement, bEl y.f0 := by
  intro y hy
  obtain ⟨x, hx, rfl⟩ := List.mem_map.1 hy
  exact hb x hx

/-! the text of a segment -/
theorem segIn_loop (a b c d : Int) (s : ByteArray) (L : List S102) (i : Nat) (hi : i < L.length) (hL : L.length ≤ 10) (p : List ByteArray) (hp : (rd_T102 L (i : Int)).f0 = p) (hpl : p.length ≤ 4) (hps : ∀ q ∈ p, q.size ≤ 40)
    (hnext : ∀ x : List Int, x.length ≤ 1000 + 400 * (i + 1) → ∃ R, Ev (fun k => spec_SegmentText.l0 k (strOfNums x) ((i + 1 : Nat) : Int) a b c d s L) R ∧ Ev (fun k => impl_Syntax_segment.l0 k x L (L.length : Int) ((i + 1 : Nat) : Int) a b c d) R ∧ R.size ≤ 6000) :
    ∀ (r : List ByteArray) (j : Nat) (x : List Int), p.drop j = r → j ≤ p.length → x.length ≤ 1001 + 400 * i + 81 * j → ∃ R, Ev (fun k => spec_SegmentText.l1 k (strOfNums x) (i : Int) (j : Int) a b c d s L) R ∧ Ev (fun k => impl_Syntax_segment.l1 k x L (L.length : Int) (i : Int) p (p.length : Int) (j : Int) a b c d) R ∧ R.size ≤ 6000 := by
  intro r
  induction r with
  | nil =>
    intro j x h hj hx
    have h0 := ldrop_nil h
    obtain ⟨R, r1, r2, r3⟩ := hnext x (by omega)
    rw [← wi_ (by omega)] at r1 r2
    refine ⟨R, Ev.step (fun k => spec_SegmentText.l1.eq_2 ..) (Ev.pos (by omega) (Ev.pos (by omega) ?_)), Ev.step (fun k => impl_Syntax_segment.l1.eq_2 ..) (Ev.neg (by omega) r2), r3⟩
    rw [hp]
    exact Ev.neg (by omega) r1
  | cons q r ih =>
    intro j x h hj hx
    obtain ⟨h1, h2, h3⟩ := ldrop_cons ByteArray.empty h
    have hq : rdOf ByteArray.empty p (j : Int) = q := h2
    have hqs := hps q (List.mem_of_mem_drop (by rw [h]; exact List.mem_cons_self))
    have hw := wi_ (i := j) (by omega)
    have e1 := specEscape_ev a b c d q (by omega)
    have e2 := implEscaped_ev a b c d q (by omega)
    have hel := escL_length a b c d (bytesOf q)
    rw [length_bytesOf] at hel
    obtain ⟨u, hu⟩ : ∃ u, u = strOfNums (escL a b c d (bytesOf q)) := ⟨_, rfl⟩
    have hus : u.size ≤ 80 := by rw [hu, size_strOf]; omega
    rw [← hu] at e1 e2
    have hz : (strOfNums [c % 256]).size = 1 := by rw [size_strOf]; rfl
    by_cases g : (j : Int) > 0
    · obtain ⟨R, r1, r2, r3⟩ := ih (j + 1) (x ++ [c % 256] ++ bytesOf u) h3 (by omega) (by simp only [List.length_append, List.length_singleton, length_bytesOf]; omega)
      rw [← hw] at r1 r2
      rw [strOf_append, strOf_append, strOf_bytesOf] at r1
      refine ⟨R, Ev.step (fun k => spec_SegmentText.l1.eq_2 ..) (Ev.pos (by omega) (Ev.pos (by omega) ?_)), Ev.step (fun k => impl_Syntax_segment.l1.eq_2 ..) (Ev.pos h1 (Ev.pos (by omega) (Ev.pos h1 (Ev.pos g (Ev.pos (by omega) (Ev.bindc rfl ?_)))))), r3⟩
      · rw [hp, hq]
        exact Ev.pos h1 (Ev.pos g (Ev.bindc rfl (Ev.pos (by rw [hz, size_strOf]; omega) (Ev.pos (by omega) (Ev.bind e1 (Ev.pos (by rw [size_append, hz, size_strOf]; omega) r1))))))
      · rw [hq]
        exact Ev.bind e2 (Ev.pos (by simp only [List.length_append, List.length_singleton]; omega) r2)
    · obtain ⟨R, r1, r2, r3⟩ := ih (j + 1) (x ++ bytesOf u) h3 (by omega) (by simp only [List.length_append, length_bytesOf]; omega)
      rw [← hw] at r1 r2
      rw [strOf_append, strOf_bytesOf] at r1
      refine ⟨R, Ev.step (fun k => spec_SegmentText.l1.eq_2 ..) (Ev.pos (by omega) (Ev.pos (by omega) ?_)), Ev.step (fun k => impl_Syntax_segment.l1.eq_2 ..) (Ev.pos h1 (Ev.pos (by omega) (Ev.pos h1 (Ev.neg g ?_)))), r3⟩
      · rw [hp, hq]
        exact Ev.pos h1 (Ev.neg g (Ev.pos (by omega) (Ev.bind e1 (Ev.pos (by rw [size_strOf]; omega) r1))))
      · rw [hq]
        exact Ev.bind e2 (Ev.pos (by omega) r2)
theorem segOut_loop (a b c d : Int) (s : ByteArray) (L : List S102) (hL : L.length ≤ 10) (hE : ∀ e ∈ L, e.f0.length ≤ 4 ∧ ∀ q ∈ e.f0, q.size ≤ 40) : ∀ (r : List S102) (i : Nat) (x : List Int), L.drop i = r → i ≤ L.length → x.length ≤ 1000 + 400 * i → ∃ R, Ev (fun k => spec_SegmentText.l0 k (strOfNums x) (i : Int) a b c d s L) R ∧ Ev (fun k => impl_Syntax_segment.l0 k x L (L.length : Int) (i : Int) a b c d) R ∧ R.size ≤ 6000 := by
  intro r
  induction r with
  | nil =>
    intro i x h hi hx
    have h0 := ldrop_nil h
    have hz : (strOfNums [a % 256]).size = 1 := by rw [size_strOf]; rfl
    exact ⟨strOfNums x ++ strOfNums [a % 256], Ev.step (fun k => spec_SegmentText.l0.eq_2 ..) (Ev.neg (by omega) (Ev.bindc rfl (Ev.pos (by rw [hz, size_strOf]; omega) (Ev.now _)))), Ev.step (fun k => impl_Syntax_segment.l0.eq_2 ..) (Ev.neg (by omega) (Ev.pos (by omega) (Ev.ret (by rw [strOf_append])))), by rw [size_append, hz, size_strOf]; omega⟩
  | cons e r ih =>
    intro i x h hi hx
    obtain ⟨h1, h2, h3⟩ := ldrop_cons z102 h
    have hr : rd_T102 L (i : Int) = e := h2
    have hz : (strOfNums [b % 256]).size = 1 := by rw [size_strOf]; rfl
    obtain ⟨hl, hs⟩ := hE e (List.mem_of_mem_drop (by rw [h]; exact List.mem_cons_self))
    obtain ⟨R, r1, r2, r3⟩ := segIn_loop a b c d s L i (by omega) hL e.f0 (by rw [hr]) hl hs (fun y hy => ih (i + 1) y h3 (by omega) hy) e.f0 0 (x ++ [b % 256]) rfl (by omega) (by simp; omega)
    rw [strOf_append] at r1
    refine ⟨R, Ev.step (fun k => spec_SegmentText.l0.eq_2 ..) (Ev.pos h1 (Ev.bindc rfl (Ev.pos (by rw [hz, size_strOf]; omega) r1))), Ev.step (fun k => impl_Syntax_segment.l0.eq_2 ..) (Ev.pos h1 (Ev.pos (by omega) (Ev.pos h1 (Ev.pos (by omega) ?_)))), r3⟩
    rw [hr]
    exact r2
theorem segB_bounds {s : ByteArray} {L : List S102} (h : segB s L = true) : s.size = 3 ∧ L.length ≤ 10 ∧ ∀ e ∈ L, e.f0.length ≤ 4 ∧ ∀ q ∈ e.f0, q.size ≤ 40 := by
  unfold segB tagB at h
  rw [segL_eq] at h
  simp only [Bool.and_eq_true, decide_eq_true_eq, List.all_eq_true] at h
  obtain ⟨⟨⟨h1, _⟩, h2⟩, h3, _⟩ := h
  refine ⟨h1, h2, fun e he => ?_⟩
  have g := h3 e he
  unfold elP at g
  simp only [Bool.and_eq_true, decide_eq_true_eq, List.all_eq_true] at g
  refine ⟨g.1.1.2, fun q hq => ?_⟩
  have := g.2 q hq
  unfold partB at this
  simp only [Bool.and_eq_true, decide_eq_true_eq] at this
  exact this.1
/-- The text of a right segment. -/
theorem segOne (a b c d : Int) (s : ByteArray) (L : List S102) (hs : synP a b c d = true) (hL : L.length ≤ 1048576) (hE : ∀ e ∈ L, bEl e.f0) (hb : segB s L = true) : ∃ R, Ev (fun k => spec_SegmentText.f k a b c d s L) R ∧ Ev (fun k => impl_Syntax_segment.f k a b c d s L) R ∧ R.size ≤ 6000 := by
  have r1 := specSeg_ev s L hL hE
  rw [hb] at r1
  obtain ⟨b1, b2, b3⟩ := segB_bounds hb
  obtain ⟨R, q1, q2, q4⟩ := segOut_loop a b c d s L b2 b3 L 0 (bytesOf s) rfl (by omega) (by rw [length_bytesOf]; omega)
  rw [strOf_bytesOf] at q1
  refine ⟨R, ?_, by unfold impl_Syntax_segment.f; exact Ev.pos (by omega) q2, q4⟩
  unfold spec_SegmentText.f
  exact Ev.bind (specSyntaxRight_ev a b c d) (Ev.pos hs (Ev.bind r1 (Ev.step (fun k => spec_SegmentText.j0.eq_2 ..) (Ev.neg (by simp) q1))))

/-! the texts of segments -/
theorem join_flat : ∀ L : List (List UInt8), Lib.join L [] = L.flatten
  | [] => rfl
  | [x] => by simp [Lib.join, List.intercalate]
  | x :: y :: r => by
    have ih := join_flat (y :: r)
    simp only [Lib.join, List.intercalate, List.intersperse, List.flatten_cons, List.nil_append] at ih ⊢
    rw [ih]
theorem text_nil : strings_Join.text [] (⟨#[]⟩ : ByteArray) = (⟨#[]⟩ : ByteArray) := rfl
theorem text_snoc (X : List ByteArray) (R : ByteArray) : strings_Join.text (X ++ [R]) (⟨#[]⟩ : ByteArray) = strings_Join.text X (⟨#[]⟩ : ByteArray) ++ R := by
  have h : (strings_Join.text (X ++ [R]) (⟨#[]⟩ : ByteArray)).data.toList = (strings_Join.text X (⟨#[]⟩ : ByteArray) ++ R).data.toList := by
    unfold strings_Join.text
    have e : (⟨#[]⟩ : ByteArray).data.toList = [] := rfl
    rw [e, join_flat, join_flat]
    simp
  exact toList_inj.1 (by rwa [ByteArray.toList_eq, ByteArray.toList_eq])
abbrev bSg (g : S59) : Prop := g.f1.length ≤ 1048576 ∧ ∀ e ∈ g.f1, bEl e.f0
theorem segsIdx_loop (G : List S59) (hG : G.length ≤ 1048576) (hB : ∀ g ∈ G, bSg g) : ∀ (r : List S59) (i : Nat), G.drop i = r → ∃ x : Int, Ev (fun k => impl_Segment_117__impl_SegmentsText_1.l0 k G (G.length : Int) (i : Int)) x ∧ decide (x ≥ 0) = !(r.all (fun g => segB g.f0 g.f1)) := by
  intro r
  induction r with
  | nil =>
    intro i h
    have h0 := ldrop_nil h
    exact ⟨-1, Ev.step (fun k => impl_Segment_117__impl_SegmentsText_1.l0.eq_2 ..) (Ev.neg (by omega) (Ev.now _)), by simp⟩
  | cons g r ih =>
    intro i h
    obtain ⟨h1, h2, h3⟩ := ldrop_cons z59 h
    have hr : rd_T59 G (i : Int) = g := h2
    have hw := wi_ (i := i) (by omega)
    obtain ⟨y, hy, hy2⟩ := ih (i + 1) h3
    rw [← hw] at hy
    have hb := hB g (List.mem_of_mem_drop (by rw [h]; exact List.mem_cons_self))
    have hc : Ev (fun k => impl_SegmentsText_1.f k g.f0 g.f1) (!(segB g.f0 g.f1)) := by unfold impl_SegmentsText_1.f; exact Ev.bind (implSeg_ev g.f0 g.f1 hb.1 hb.2) (Ev.now _)
    by_cases q : segB g.f0 g.f1 = true
    · refine ⟨y, Ev.step (fun k => impl_Segment_117__impl_SegmentsText_1.l0.eq_2 ..) (Ev.pos h1 (Ev.pos (by omega) (Ev.pos h1 ?_))), by rw [hy2]; simp [q]⟩
      rw [hr]; exact Ev.bind hc (Ev.neg (by simp [q]) hy)
    · refine ⟨i, Ev.step (fun k => impl_Segment_117__impl_SegmentsText_1.l0.eq_2 ..) (Ev.pos h1 (Ev.pos (by omega) (Ev.pos h1 ?_))), by simp [q]⟩
      rw [hr]; exact Ev.bind hc (Ev.pos (by simp [q]) (Ev.now _))
/-- The reference stops at the first that is not right. -/
theorem specSegs_bad (a b c d : Int) (hs : synP a b c d = true) (G : List S59) (hG : G.length ≤ 200) (hB : ∀ g ∈ G, bSg g) : ∀ (r : List S59) (i : Nat) (t : ByteArray), G.drop i = r → i ≤ G.length → t.size ≤ 6000 * i → r.all (fun g => segB g.f0 g.f1) = false → Ev (fun k => spec_SegmentsText.l0 k G t (i : Int) a b c d) (⟨#[]⟩ : ByteArray) := by
  intro r
  induction r with
  | nil => intro i t h hi ht hr; simp at hr
  | cons g r ih =>
    intro i t h hi ht hr
    obtain ⟨h1, h2, h3⟩ := ldrop_cons z59 h
    have hg : rd_T59 G (i : Int) = g := h2
    have hb := hB g (List.mem_of_mem_drop (by rw [h]; exact List.mem_cons_self))
    have r1 := specSeg_ev g.f0 g.f1 hb.1 hb.2
    refine Ev.step (fun k => spec_SegmentsText.l0.eq_2 ..) (Ev.pos h1 (Ev.pos (by omega) ?_))
    rw [hg]
    by_cases q : segB g.f0 g.f1 = true
    · obtain ⟨R, q1, q2, q3⟩ := segOne a b c d g.f0 g.f1 hs hb.1 hb.2 q
      have hn := ih (i + 1) (t ++ R) h3 (by omega) (by rw [size_append]; omega) (by simpa [q] using hr)
      rw [← wi_ (by omega)] at hn
      exact Ev.bind r1 (Ev.pos q (Ev.bind q1 (Ev.pos (by omega) hn)))
    · exact Ev.bind r1 (Ev.neg q (Ev.now _))
theorem segs_good (a b c d : Int) (hs : synP a b c d = true) (G : List S59) (hG : G.length ≤ 200) (hB : ∀ g ∈ G, bSg g) (hA : ∀ g ∈ G, segB g.f0 g.f1 = true) : ∀ (r : List S59) (i : Nat) (X : List ByteArray), G.drop i = r → i ≤ G.length → X.length = i → (strings_Join.text X (⟨#[]⟩ : ByteArray)).size ≤ 6000 * i → ∃ T, Ev (fun k => spec_SegmentsText.l0 k G (strings_Join.text X (⟨#[]⟩ : ByteArray)) (i : Int) a b c d) T ∧ Ev (fun k => impl_Syntax_segments.l0 k G X G (G.length : Int) (i : Int) a b c d) T := by
  intro r
  induction r with
  | nil =>
    intro i X h hi hX ht
    have h0 := ldrop_nil h
    have hj : strings_Join.f X (⟨#[]⟩ : ByteArray) = some (strings_Join.text X (⟨#[]⟩ : ByteArray)) := by
      unfold strings_Join.f
      rw [if_pos (by omega), if_pos (by omega)]
    by_cases g : ((strings_Join.text X (⟨#[]⟩ : ByteArray)).size : Int) > 20000
    · exact ⟨⟨#[]⟩, Ev.step (fun k => spec_SegmentsText.l0.eq_2 ..) (Ev.neg (by omega) (Ev.pos g (Ev.now _))), Ev.step (fun k => impl_Syntax_segments.l0.eq_2 ..) (Ev.neg (by omega) (Ev.bindc hj (Ev.neg (by omega) (Ev.bind (longText_ev _) (Ev.pos (by simpa using g) (Ev.now _))))))⟩
    · exact ⟨_, Ev.step (fun k => spec_SegmentsText.l0.eq_2 ..) (Ev.neg (by omega) (Ev.neg g (Ev.now _))), Ev.step (fun k => impl_Syntax_segments.l0.eq_2 ..) (Ev.neg (by omega) (Ev.bindc hj (Ev.neg (by omega) (Ev.bind (longText_ev _) (Ev.neg (by simpa using g) (Ev.now _))))))⟩
  | cons g r ih =>
    intro i X h hi hX ht
    obtain ⟨h1, h2, h3⟩ := ldrop_cons z59 h
    have hg : rd_T59 G (i : Int) = g := h2
    have hm : g ∈ G := List.mem_of_mem_drop (by rw [h]; exact List.mem_cons_self)
    have hb := hB g hm
    have q := hA g hm
    have r1 := specSeg_ev g.f0 g.f1 hb.1 hb.2
    rw [q] at r1
    obtain ⟨R, q1, q2, q3⟩ := segOne a b c d g.f0 g.f1 hs hb.1 hb.2 q
    obtain ⟨T, t1, t2⟩ := ih (i + 1) (X ++ [R]) h3 (by omega) (by simp; omega) (by rw [text_snoc, size_append]; omega)
    rw [← wi_ (by omega)] at t1 t2
    rw [text_snoc] at t1
    refine ⟨T, Ev.step (fun k => spec_SegmentsText.l0.eq_2 ..) (Ev.pos h1 (Ev.pos (by omega) ?_)), Ev.step (fun k => impl_Syntax_segments.l0.eq_2 ..) (Ev.pos h1 (Ev.pos (by omega) (Ev.pos h1 ?_)))⟩
    · rw [hg]
      exact Ev.bind r1 (Ev.pos rfl (Ev.bind q1 (Ev.pos (by omega) t1)))
    · rw [hg]
      exact Ev.bind q2 (Ev.pos (by omega) t2)
/-- What both answer. -/
theorem segsText_both (a b c d : Int) (G : List S59) (hG : G.length ≤ 1048576) (hB : ∀ g ∈ G, bSg g) : ∃ R, Ev (fun k => spec_SegmentsText.f k a b c d G) R ∧ Ev (fun k => impl_SegmentsText.f k a b c d G) R := by
  have sT : ∀ t, Ev (fun k => spec_SegmentsText.j0 k G t true a b c d) t := fun t => Ev.step (fun k => spec_SegmentsText.j0.eq_2 ..) (Ev.pos rfl (Ev.now _))
  unfold spec_SegmentsText.f impl_SegmentsText.f
  by_cases hs : synP a b c d = true
  · by_cases hl : (G.length : Int) > 200
    · refine ⟨_, Ev.bind (specSyntaxRight_ev a b c d) (Ev.pos hs ?_), Ev.bind (implSyntaxRight_ev a b c d) (Ev.pos hs (Ev.pos hl (Ev.now _)))⟩
      rw [decide_eq_true hl]
      exact sT _
    · obtain ⟨x, x1, x2⟩ := segsIdx_loop G hG hB G 0 rfl
      have hc : Ev (fun k => impl_Segment_91__impl_SegmentsText_1.f k G) (!(G.all (fun g => segB g.f0 g.f1))) := by
        unfold impl_Segment_91__impl_SegmentsText_1.f
        exact Ev.bind (show Ev (fun k => impl_Segment_117__impl_SegmentsText_1.f k G) x from x1) (Ev.ret x2)
      have hj : ∀ R, Ev (fun k => spec_SegmentsText.l0 k G (⟨#[]⟩ : ByteArray) 0 a b c d) R → Ev (fun k => spec_SegmentsText.j0 k G (⟨#[]⟩ : ByteArray) (decide ((G.length : Int) > 200)) a b c d) R := fun R h => by
        rw [decide_eq_false hl]
        exact Ev.step (fun k => spec_SegmentsText.j0.eq_2 ..) (Ev.neg (by simp) h)
      by_cases hA : G.all (fun g => segB g.f0 g.f1) = true
      · obtain ⟨T, t1, t2⟩ := segs_good a b c d hs G (by omega) hB (fun g hg => List.all_eq_true.1 hA g hg) G 0 [] rfl (by omega) rfl (by rw [text_nil]; simp [ByteArray.size])
        rw [hA] at hc
        refine ⟨T, Ev.bind (specSyntaxRight_ev a b c d) (Ev.pos hs (hj T t1)), Ev.bind (implSyntaxRight_ev a b c d) (Ev.pos hs (Ev.neg hl (Ev.bind hc (Ev.neg (by simp) (Ev.bind (show Ev (fun k => impl_Syntax_segments.f k a b c d G) T from t2) (Ev.now _))))))⟩
      · rw [Bool.not_eq_true] at hA
        have hbad := specSegs_bad a b c d hs G (by omega) hB G 0 (⟨#[]⟩ : ByteArray) rfl (by omega) (by simp [ByteArray.size]) hA
        rw [hA] at hc
        exact ⟨_, Ev.bind (specSyntaxRight_ev a b c d) (Ev.pos hs (hj _ hbad)), Ev.bind (implSyntaxRight_ev a b c d) (Ev.pos hs (Ev.neg hl (Ev.bind hc (Ev.pos rfl (Ev.now _)))))⟩
  · exact ⟨_, Ev.bind (specSyntaxRight_ev a b c d) (Ev.neg hs (sT _)), Ev.bind (implSyntaxRight_ev a b c d) (Ev.neg hs (Ev.now _))⟩

theorem FnExactSegmentsText : laws_FnExactSegmentsText.Pure := by
  intro a b c d l _ _ _ _ hl
  refine Ev.rounds (g := fun k => laws_FnExactSegmentsText.f k a b c d l) ?_
  unfold laws_FnExactSegmentsText.f
  obtain ⟨w, u, t⟩ := szSegmentS_ev l 1048576 (by omega) (by omega) hl.1 hl.2
  rcases t with t | ⟨t, _, tl, tb⟩
  · exact Ev.bind u (Ev.pos (by omega) (Ev.now _))
  · have ht := toSegmentS_ev l tl tb
    have hB : ∀ g ∈ l.map cSegment, bSg g := by
      intro g hg
      obtain ⟨x, hx, rfl⟩ := List.mem_map.1 hg
      exact ⟨by show (x.f1.map cElement).length ≤ _; rw [List.length_map]; exact (tb x hx).2.1, bound_cEl (tb x hx).2.2⟩
    have hll : (l.map cSegment).length ≤ 1048576 := by rw [List.length_map]; exact tl
    obtain ⟨R, r1, r2⟩ := segsText_both a b c d (l.map cSegment) hll hB
    have he := eqSegmentS_refl (l.map cSegment) (by omega) (fun g hg => ⟨by have := (hB g hg).1; omega, fun e he => by have := ((hB g hg).2 e he).1; show (e.f0.length : Int) ≤ _; omega⟩)
    exact Ev.bind u (Ev.neg (by omega) (Ev.bindc rfl (Ev.bind ht (Ev.bind r1 (Ev.bind ht (Ev.bindc rfl (Ev.bind r2 (Ev.pos rfl (Ev.bind ht (Ev.bind he (Ev.pos rfl (Ev.now _))))))))))))

end Go.Proofs.Ytchoalagkcdbhaa.Pure
