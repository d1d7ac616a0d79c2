/- FnEscape: what is escaped is read back, and cut apart
Conditions: none. -/
import Derived.Test.YtchoalagkcdbhaaPFnEscapex
import Derived.Test.YtchoalagkcdbhaaPl
namespace Go.Proofs.Ytchoalagkcdbhaa.Pure
open Go.RowKit Go.Proofs.Ytchoalagkcdbhaa.PFnEscape Go.Proofs.YtchoalagkcdbhaaW.PrintWords Go.Proofs.YtchoalagkcdbhaaW.PrintLast Go.Proofs.YtchoalagkcdbhaaW.PrintMore Go.Proofs.YtchoalagkcdbhaaW.Pl
set_option linter.unusedVariables false
set_option linter.unusedSimpArgs false

theorem within_eq (a b c : Int) : impl_within.f a b c = some (withinP a b c) := by
  unfold impl_within.f withinP
  split
  · congr 1; simp only [decide_eq_decide]; omega
  · congr 1; symm; simp only [decide_eq_false_iff_not]; omega

theorem isGreat_eq (c : Int) : impl_isGreat.f c = some (great c) := by
  unfold impl_isGreat.f great
  split
  · congr 1; simp only [decide_eq_decide]; omega
  · congr 1; symm; simp only [decide_eq_false_iff_not]; omega
theorem isDigit_eq (c : Int) : impl_isDigit.f c = some (digit c) := by
  unfold impl_isDigit.f digit
  split
  · congr 1; simp only [decide_eq_decide]; omega
  · congr 1; symm; simp only [decide_eq_false_iff_not]; omega

theorem index_loop (l : List Int) (v : Int) (hl : (l.length : Int) ≤ 4611686018427387904) : ∀ (r : List Int) (i : Nat), l.drop i = r → ∃ x : Int, Ev (fun k => slices_Index_int64_int64.l0 k l v (l.length : Int) (i : Int)) x ∧ decide (x ≥ 0) = r.contains v := by
  intro r
  induction r with
  | nil =>
    intro i h
    have h0 := ldrop_nil h
    exact ⟨-1, Ev.step (fun k => slices_Index_int64_int64.l0.eq_2 ..) (Ev.neg (by omega) (Ev.now _)), by simp⟩
  | cons c r ih =>
    intro i h
    obtain ⟨h1, h2, h3⟩ := rd_cons h
    have hw : wrap64 ((i : Int) + 1) = ((i + 1 : Nat) : Int) := by rw [wrap_id (by omega) (by omega)]; omega
    obtain ⟨x, hx, he⟩ := ih (i + 1) h3
    by_cases hv : v = c
    · refine ⟨i, Ev.step (fun k => slices_Index_int64_int64.l0.eq_2 ..) (Ev.pos h1 (Ev.pos (by omega) (Ev.pos h1 ?_))), by simp [hv]⟩
      rw [h2]
      exact Ev.pos hv (Ev.now _)
    · refine ⟨x, Ev.step (fun k => slices_Index_int64_int64.l0.eq_2 ..) (Ev.pos h1 (Ev.pos (by omega) (Ev.pos h1 ?_))), by rw [he]; simp [hv]⟩
      rw [h2, hw]
      exact Ev.neg hv hx
theorem contains_ev (l : List Int) (v : Int) (hl : (l.length : Int) ≤ 4611686018427387904) : Ev (fun k => slices_Contains_int64_int64.f k l v) (l.contains v) := by
  obtain ⟨x, hx, he⟩ := index_loop l v hl l 0 rfl
  unfold slices_Contains_int64_int64.f
  refine Ev.bind (show Ev (fun k => slices_Index_int64_int64.f k l v) x from hx) ?_
  exact Ev.ret he

theorem l01Mark_eq (c : Int) : spec_l01Mark.f c = some (markP c) := by
  have hf : ∀ {b : Bool}, markP c = b → some b = some (markP c) := fun h => by rw [h]
  have ht : 33 ≤ c → c ≤ 126 → c ≠ 45 → ¬ (65 ≤ c ∧ c ≤ 90) → ¬ (97 ≤ c ∧ c ≤ 122) → ¬ (48 ≤ c ∧ c ≤ 57) → markP c = true := fun h1 h2 h3 h4 h5 h6 => markP_iff.2 ⟨h1, h2, h3, h4, h5, h6⟩
  have hn : ¬ (33 ≤ c ∧ c ≤ 126 ∧ c ≠ 45 ∧ ¬ (65 ≤ c ∧ c ≤ 90) ∧ ¬ (97 ≤ c ∧ c ≤ 122) ∧ ¬ (48 ≤ c ∧ c ≤ 57)) → markP c = false := markP_not.2
  unfold spec_l01Mark.f
  repeat' split
  all_goals (apply hf; first | exact hn (by omega) | exact ht (by omega) (by omega) (by omega) (by omega) (by omega) (by omega) | (simp only [Bool.not_true, Bool.not_false]; first | exact hn (by omega) | exact ht (by omega) (by omega) (by omega) (by omega) (by omega) (by omega)) | skip)
  all_goals
    by_cases h57 : c ≤ 57
    · rw [decide_eq_true h57]; exact hn (by omega)
    · rw [decide_eq_false h57]; exact ht (by omega) (by omega) (by omega) (by omega) (by omega) (by omega)

section
variable (a b c d : Int)
theorem sA (i : Int) (x : Int) {r : Bool} (h0 : 0 ≤ i) (h4 : i < 4) (hx : rd [a, b, c, d] i = x) (hm : markP x = true) (h : Ev (fun k => spec_SyntaxRight.l1 k [a, b, c, d] i 0) r) : Ev (fun k => spec_SyntaxRight.l0 k [a, b, c, d] i) r := by
  refine Ev.step (fun k => spec_SyntaxRight.l0.eq_2 ..) (Ev.pos h4 (Ev.pos h0 (Ev.pos (by simp; omega) ?_)))
  rw [hx]
  exact Ev.bindc (l01Mark_eq x) (Ev.pos hm h)
theorem sA' (i : Int) (x : Int) (h0 : 0 ≤ i) (h4 : i < 4) (hx : rd [a, b, c, d] i = x) (hm : markP x = false) : Ev (fun k => spec_SyntaxRight.l0 k [a, b, c, d] i) false := by
  refine Ev.step (fun k => spec_SyntaxRight.l0.eq_2 ..) (Ev.pos h4 (Ev.pos h0 (Ev.pos (by simp; omega) ?_)))
  rw [hx]
  exact Ev.bindc (l01Mark_eq x) (Ev.neg (by simp [hm]) (Ev.now _))
theorem sA4 : Ev (fun k => spec_SyntaxRight.l0 k [a, b, c, d] 4) true := Ev.step (fun k => spec_SyntaxRight.l0.eq_2 ..) (Ev.neg (by omega) (Ev.now _))
theorem sB (i j : Int) (x y : Int) {r : Bool} (h0 : 0 ≤ j) (h : j < i) (h4 : i < 4) (hx : rd [a, b, c, d] j = x) (hy : rd [a, b, c, d] i = y) (hm : x ≠ y) (hn : Ev (fun k => spec_SyntaxRight.l1 k [a, b, c, d] i (j + 1)) r) : Ev (fun k => spec_SyntaxRight.l1 k [a, b, c, d] i j) r := by
  refine Ev.step (fun k => spec_SyntaxRight.l1.eq_2 ..) (Ev.pos h (Ev.pos h0 (Ev.pos (by simp; omega) (Ev.pos (by omega) (Ev.pos (by simp; omega) ?_)))))
  rw [hx, hy, wrap_id (by omega) (by omega)]
  exact Ev.neg hm hn
theorem sB' (i j : Int) (x y : Int) (h0 : 0 ≤ j) (h : j < i) (h4 : i < 4) (hx : rd [a, b, c, d] j = x) (hy : rd [a, b, c, d] i = y) (hm : x = y) : Ev (fun k => spec_SyntaxRight.l1 k [a, b, c, d] i j) false := by
  refine Ev.step (fun k => spec_SyntaxRight.l1.eq_2 ..) (Ev.pos h (Ev.pos h0 (Ev.pos (by simp; omega) (Ev.pos (by omega) (Ev.pos (by simp; omega) ?_)))))
  rw [hx, hy]
  exact Ev.pos hm (Ev.now _)
theorem sBe (i : Int) {r : Bool} (h0 : 0 ≤ i) (h4 : i < 4) (hn : Ev (fun k => spec_SyntaxRight.l0 k [a, b, c, d] (i + 1)) r) : Ev (fun k => spec_SyntaxRight.l1 k [a, b, c, d] i i) r := by
  refine Ev.step (fun k => spec_SyntaxRight.l1.eq_2 ..) (Ev.neg (by omega) ?_)
  rw [wrap_id (by omega) (by omega)]
  exact hn
theorem specSyntaxRight_ev : Ev (fun k => spec_SyntaxRight.f k a b c d) (synP a b c d) := by
  show Ev (fun k => spec_SyntaxRight.l0 k [a, b, c, d] 0) _
  have no_ : ∀ {g : Nat → Option Bool}, synP a b c d = false → Ev g false → Ev g (synP a b c d) := fun h e => by rw [h]; exact e
  by_cases m0 : markP a = true
  rotate_left
  · exact no_ (by simp [synP, m0]) (sA' a b c d 0 a (by omega) (by omega) rfl (by simpa using m0))
  refine sA a b c d 0 a (by omega) (by omega) rfl m0 (sBe a b c d 0 (by omega) (by omega) ?_)
  by_cases m1 : markP b = true
  rotate_left
  · exact no_ (by simp [synP, m1]) (sA' a b c d 1 b (by omega) (by omega) rfl (by simpa using m1))
  refine sA a b c d 1 b (by omega) (by omega) rfl m1 ?_
  by_cases e01 : a = b
  · exact no_ (by simp [synP, e01]) (sB' a b c d 1 0 a b (by omega) (by omega) (by omega) rfl rfl e01)
  refine sB a b c d 1 0 a b (by omega) (by omega) (by omega) rfl rfl e01 (sBe a b c d 1 (by omega) (by omega) ?_)
  by_cases m2 : markP c = true
  rotate_left
  · exact no_ (by simp [synP, m2]) (sA' a b c d 2 c (by omega) (by omega) rfl (by simpa using m2))
  refine sA a b c d 2 c (by omega) (by omega) rfl m2 ?_
  by_cases e02 : a = c
  · exact no_ (by simp [synP, e02]) (sB' a b c d 2 0 a c (by omega) (by omega) (by omega) rfl rfl e02)
  refine sB a b c d 2 0 a c (by omega) (by omega) (by omega) rfl rfl e02 ?_
  by_cases e12 : b = c
  · exact no_ (by simp [synP, e12]) (sB' a b c d 2 1 b c (by omega) (by omega) (by omega) rfl rfl e12)
  refine sB a b c d 2 1 b c (by omega) (by omega) (by omega) rfl rfl e12 (sBe a b c d 2 (by omega) (by omega) ?_)
  by_cases m3 : markP d = true
  rotate_left
  · exact no_ (by simp [synP, m3]) (sA' a b c d 3 d (by omega) (by omega) rfl (by simpa using m3))
  refine sA a b c d 3 d (by omega) (by omega) rfl m3 ?_
  by_cases e03 : a = d
  · exact no_ (by simp [synP, e03]) (sB' a b c d 3 0 a d (by omega) (by omega) (by omega) rfl rfl e03)
  refine sB a b c d 3 0 a d (by omega) (by omega) (by omega) rfl rfl e03 ?_
  by_cases e13 : b = d
  · exact no_ (by simp [synP, e13]) (sB' a b c d 3 1 b d (by omega) (by omega) (by omega) rfl rfl e13)
  refine sB a b c d 3 1 b d (by omega) (by omega) (by omega) rfl rfl e13 ?_
  by_cases e23 : c = d
  · exact no_ (by simp [synP, e23]) (sB' a b c d 3 2 c d (by omega) (by omega) (by omega) rfl rfl e23)
  refine sB a b c d 3 2 c d (by omega) (by omega) (by omega) rfl rfl e23 (sBe a b c d 3 (by omega) (by omega) ?_)
  rw [synP_iff.2 ⟨m0, m1, m2, m3, e01, e02, e12, e03, e13, e23⟩]
  exact sA4 a b c d
end

section
variable (a b c d : Int)
/-- One round of the program's loop: the byte is a mark, and none ahead is it. -/
theorem iA (i : Int) (x : Int) (pre : List Int) {r : Bool} (h0 : 0 ≤ i) (h4 : i < 4) (hx : rd [a, b, c, d] i = x) (hp : [a, b, c, d].take i.toNat = pre) (hm : markP x = true) (hc : pre.contains x = false) (h : Ev (fun k => impl_SyntaxRight.l0 k [a, b, c, d] [a, b, c, d] 4 (i + 1)) r) :
    Ev (fun k => impl_SyntaxRight.l0 k [a, b, c, d] [a, b, c, d] 4 i) r := by
  have hm' := markP_iff.1 hm
  refine Ev.step (fun k => impl_SyntaxRight.l0.eq_2 ..) (Ev.pos h4 (Ev.pos h0 (Ev.pos (by simp; omega) ?_)))
  rw [hx, hp]
  refine Ev.bindc (within_eq _ _ _) (Ev.pos (by simp [withinP]; omega) (Ev.pos (by simp; omega) ?_))
  refine Ev.bind (contains_ev pre x (by rw [← hp]; simp; omega)) ?_
  rw [hc]
  refine Ev.step (fun k => impl_SyntaxRight.j1.eq_2 ..) (Ev.neg (by simp) ?_)
  have e : x % 256 = x := by omega
  rw [e, wrap_id (by omega) (by omega)]
  refine Ev.bindc (isGreat_eq x) (Ev.neg (by simp [great]; omega) ?_)
  refine Ev.ite (fun _ => Ev.neg (by omega) ?_) (fun _ => ?_)
  · exact Ev.bindc (isDigit_eq x) (Ev.neg (by simp [digit]; omega) (Ev.neg (by omega) h))
  · exact Ev.bindc (isDigit_eq x) (Ev.neg (by simp [digit]; omega) (Ev.neg (by omega) h))
theorem iA' (i : Int) (x : Int) (pre : List Int) (h0 : 0 ≤ i) (h4 : i < 4) (hx : rd [a, b, c, d] i = x) (hp : [a, b, c, d].take i.toNat = pre) (hm : markP x = false ∨ pre.contains x = true) :
    Ev (fun k => impl_SyntaxRight.l0 k [a, b, c, d] [a, b, c, d] 4 i) false := by
  refine Ev.step (fun k => impl_SyntaxRight.l0.eq_2 ..) (Ev.pos h4 (Ev.pos h0 (Ev.pos (by simp; omega) ?_)))
  rw [hx, hp]
  have hj : Ev (fun k => impl_SyntaxRight.j1 k [a, b, c, d] x [a, b, c, d] 4 i true) false := Ev.step (fun k => impl_SyntaxRight.j1.eq_2 ..) (Ev.pos rfl (Ev.now _))
  refine Ev.bindc (within_eq _ _ _) (Ev.ite (fun w => ?_) (fun _ => hj))
  simp only [withinP, decide_eq_true_eq] at w
  refine Ev.pos (by simp; omega) (Ev.bind (contains_ev pre x (by rw [← hp]; simp; omega)) ?_)
  by_cases hc : pre.contains x = true
  · rw [hc]; exact hj
  · have hm0 : markP x = false := by
      rcases hm with h | h
      · exact h
      · exact absurd h hc
    rw [show pre.contains x = false from by simpa using hc]
    have hn : ¬ (33 ≤ x ∧ x ≤ 126 ∧ x ≠ 45 ∧ ¬ (65 ≤ x ∧ x ≤ 90) ∧ ¬ (97 ≤ x ∧ x ≤ 122) ∧ ¬ (48 ≤ x ∧ x ≤ 57)) := markP_not.1 hm0
    have e : x % 256 = x := by omega
    refine Ev.step (fun k => impl_SyntaxRight.j1.eq_2 ..) (Ev.neg (by simp) ?_)
    rw [e]
    refine Ev.bindc (isGreat_eq x) (Ev.ite (fun _ => Ev.now _) (fun g1 => ?_))
    simp only [great, decide_eq_true_eq] at g1
    refine Ev.ite (fun g2 => Ev.ite (fun _ => Ev.now _) (fun g3 => ?_)) (fun g2 => ?_)
    · refine Ev.bindc (isDigit_eq x) (Ev.ite (fun _ => Ev.now _) (fun g4 => Ev.ite (fun _ => Ev.now _) (fun g5 => ?_)))
      simp only [digit, decide_eq_true_eq] at g4
      exact absurd (show 33 ≤ x ∧ x ≤ 126 ∧ x ≠ 45 ∧ ¬ (65 ≤ x ∧ x ≤ 90) ∧ ¬ (97 ≤ x ∧ x ≤ 122) ∧ ¬ (48 ≤ x ∧ x ≤ 57) by omega) hn
    · refine Ev.bindc (isDigit_eq x) (Ev.ite (fun _ => Ev.now _) (fun g4 => Ev.ite (fun _ => Ev.now _) (fun g5 => ?_)))
      simp only [digit, decide_eq_true_eq] at g4
      exact absurd (show 33 ≤ x ∧ x ≤ 126 ∧ x ≠ 45 ∧ ¬ (65 ≤ x ∧ x ≤ 90) ∧ ¬ (97 ≤ x ∧ x ≤ 122) ∧ ¬ (48 ≤ x ∧ x ≤ 57) by omega) hn
theorem implSyntaxRight_ev : Ev (fun k => impl_SyntaxRight.f k a b c d) (synP a b c d) := by
  unfold impl_SyntaxRight.f
  refine Ev.bindc (show impl_Syntax_fields.f a b c d = some [a, b, c, d] from rfl) ?_
  show Ev (fun k => impl_SyntaxRight.l0 k [a, b, c, d] [a, b, c, d] 4 0) _
  have no_ : ∀ {g : Nat → Option Bool}, synP a b c d = false → Ev g false → Ev g (synP a b c d) := fun h e => by rw [h]; exact e
  by_cases m0 : markP a = true
  rotate_left
  · exact no_ (by simp [synP, m0]) (iA' a b c d 0 a [] (by omega) (by omega) rfl rfl (.inl (by simpa using m0)))
  refine iA a b c d 0 a [] (by omega) (by omega) rfl rfl m0 rfl ?_
  by_cases m1 : markP b = true ∧ a ≠ b
  rotate_left
  · exact no_ (by simp only [not_and, Decidable.not_not] at m1; simp only [synP, Bool.and_eq_false_iff, decide_eq_false_iff_not]; by_cases h : markP b = true <;> simp_all) (iA' a b c d 1 b [a] (by omega) (by omega) rfl rfl (by by_cases h : markP b = true <;> simp_all))
  refine iA a b c d 1 b [a] (by omega) (by omega) rfl rfl m1.1 (by simpa using fun h => m1.2 h.symm) ?_
  by_cases m2 : markP c = true ∧ a ≠ c ∧ b ≠ c
  rotate_left
  · exact no_ (by by_cases h : markP c = true <;> by_cases h1 : a = c <;> by_cases h2 : b = c <;> simp_all [synP]) (iA' a b c d 2 c [a, b] (by omega) (by omega) rfl rfl (by by_cases h : markP c = true <;> by_cases h1 : a = c <;> by_cases h2 : b = c <;> simp_all))
  refine iA a b c d 2 c [a, b] (by omega) (by omega) rfl rfl m2.1 (by simpa using ⟨fun h => m2.2.1 h.symm, fun h => m2.2.2 h.symm⟩) ?_
  by_cases m3 : markP d = true ∧ a ≠ d ∧ b ≠ d ∧ c ≠ d
  rotate_left
  · exact no_ (by by_cases h : markP d = true <;> by_cases h1 : a = d <;> by_cases h2 : b = d <;> by_cases h3 : c = d <;> simp_all [synP]) (iA' a b c d 3 d [a, b, c] (by omega) (by omega) rfl rfl (by by_cases h : markP d = true <;> by_cases h1 : a = d <;> by_cases h2 : b = d <;> by_cases h3 : c = d <;> simp_all))
  refine iA a b c d 3 d [a, b, c] (by omega) (by omega) rfl rfl m3.1 (by simpa using ⟨fun h => m3.2.1 h.symm, fun h => m3.2.2.1 h.symm, fun h => m3.2.2.2 h.symm⟩) ?_
  rw [synP_iff.2 ⟨m0, m1.1, m2.1, m3.1, m1.2, m2.2.1, m2.2.2, m3.2.1, m3.2.2.1, m3.2.2.2⟩]
  exact Ev.step (fun k => impl_SyntaxRight.l0.eq_2 ..) (Ev.neg (by omega) (Ev.now _))
end

theorem longText_loop (l : List ByteArray) (hl : (l.length : Int) ≤ 4611686018427387904) : ∀ (r : List ByteArray) (i : Nat), l.drop i = r → ∃ x : Int, Ev (fun k => slices_IndexFunc_string_string__impl_longText_1.l0 k l (l.length : Int) (i : Int)) x ∧ decide (x ≥ 0) = r.any (fun s => decide ((s.size : Int) > 20000)) := by
  intro r
  induction r with
  | nil =>
    intro i h
    have h0 := ldrop_nil h
    exact ⟨-1, Ev.step (fun k => slices_IndexFunc_string_string__impl_longText_1.l0.eq_2 ..) (Ev.neg (by omega) (Ev.now _)), by simp⟩
  | cons c r ih =>
    intro i h
    obtain ⟨h1, h2, h3⟩ := rdOf_cons ByteArray.empty h
    have hw : wrap64 ((i : Int) + 1) = ((i + 1 : Nat) : Int) := by rw [wrap_id (by omega) (by omega)]; omega
    obtain ⟨x, hx, he⟩ := ih (i + 1) h3
    by_cases hv : (c.size : Int) > 20000
    · refine ⟨i, Ev.step (fun k => slices_IndexFunc_string_string__impl_longText_1.l0.eq_2 ..) (Ev.pos h1 (Ev.pos (by omega) (Ev.pos h1 ?_))), by simp [hv]⟩
      rw [h2]
      exact Ev.bindc (show impl_longText_1.f c = some true from by simp [impl_longText_1.f, hv]) (Ev.pos rfl (Ev.now _))
    · refine ⟨x, Ev.step (fun k => slices_IndexFunc_string_string__impl_longText_1.l0.eq_2 ..) (Ev.pos h1 (Ev.pos (by omega) (Ev.pos h1 ?_))), by rw [he]; simp [hv]⟩
      rw [h2, hw]
      exact Ev.bindc (show impl_longText_1.f c = some false from by simp only [impl_longText_1.f, decide_eq_false hv]) (Ev.neg (by simp) hx)
theorem longText_any (l : List ByteArray) (hl : (l.length : Int) ≤ 4611686018427387904) : Ev (fun k => impl_longText.f k l) (l.any (fun s => decide ((s.size : Int) > 20000))) := by
  obtain ⟨x, h1, h2⟩ := longText_loop l hl l 0 rfl
  unfold impl_longText.f slices_ContainsFunc_string_string__impl_longText_1.f
  exact Ev.bind (Ev.bind (show Ev (fun k => slices_IndexFunc_string_string__impl_longText_1.f k l) x from h1) (Ev.now _)) (Ev.ret h2)
theorem longText_ev (s : ByteArray) : Ev (fun k => impl_longText.f k [s]) (decide ((s.size : Int) > 20000)) := (longText_any [s] (by simp)).to (by simp)

/-- Is it one of the four? -/
def ownP (a b c d x : Int) : Bool := decide (x = a ∨ x = b ∨ x = c ∨ x = d)
theorem isOne_ev (a b c d x : Int) (h0 : 0 ≤ x) (h1 : x ≤ 255) : Ev (fun k => impl_Syntax_isOne.f k a b c d x) (ownP a b c d x) := by
  unfold impl_Syntax_isOne.f
  refine Ev.bindc (show impl_Syntax_fields.f a b c d = some [a, b, c, d] from rfl) ?_
  rw [wrap_id (by omega) (by omega)]
  refine Ev.bind (contains_ev [a, b, c, d] x (by simp)) (Ev.ret ?_)
  by_cases h : x = a
  · simp [ownP, h]
  · by_cases h2 : x = b
    · simp [ownP, h2]
    · by_cases h3 : x = c <;> by_cases h4 : x = d <;> simp [ownP, h, h2, h3, h4]

/-- A text without what releases: the place of its fault, or the text. -/
def unL (a b c d : Int) : List Int → Int → Int ⊕ List Int
  | [], _ => .inr []
  | [x], i => if ownP a b c d x then .inl i else .inr [x]
  | x :: y :: r, i => if ownP a b c d x then (if x = d then (if ownP a b c d y then (unL a b c d r (i + 2)).map id (y :: ·) else .inl i) else .inl i) else (unL a b c d (y :: r) (i + 1)).map id (x :: ·)
theorem unL_plain (a b c d x : Int) (r : List Int) (i : Int) (h : ownP a b c d x = false) : unL a b c d (x :: r) i = (unL a b c d r (i + 1)).map id (x :: ·) := by
  cases r <;> simp [unL, h]
theorem ownP_d (a b c d : Int) : ownP a b c d d = true := by simp [ownP]

/-- A piece put ahead of the first of some pieces. -/
def hdP (v : List Int) : List (List Int) → List (List Int)
  | [] => [v]
  | h :: t => (v ++ h) :: t
/-- The pieces of a text between bytes that are not released. -/
def cutL (d m : Int) : List Int → List (List Int)
  | [] => [[]]
  | [x] => if x = d then [[x]] else if x = m then [[], []] else [[x]]
  | x :: y :: r => if x = d then hdP [x, y] (cutL d m r) else if x = m then [] :: cutL d m (y :: r) else hdP [x] (cutL d m (y :: r))
theorem hdP_ne (v : List Int) (L : List (List Int)) : hdP v L ≠ [] := by cases L <;> simp [hdP]
theorem cutL_ne (d m : Int) : ∀ l, cutL d m l ≠ []
  | [] => by simp [cutL]
  | [x] => by unfold cutL; split <;> (try split) <;> simp
  | x :: y :: r => by
    unfold cutL
    split
    · exact hdP_ne _ _
    · split
      · simp
      · exact hdP_ne _ _
theorem hdP_nil {L : List (List Int)} (h : L ≠ []) : hdP [] L = L := by
  cases L with
  | nil => exact absurd rfl h
  | cons a t => simp [hdP]
theorem hdP_hdP (u v : List Int) {L : List (List Int)} : hdP u (hdP v L) = hdP (u ++ v) L := by
  cases L <;> simp [hdP]
theorem cutL_rel (d m x y : Int) (r : List Int) (h : x = d) : cutL d m (x :: y :: r) = hdP [x, y] (cutL d m r) := by simp [cutL, h]
theorem cutL_by (d m x : Int) (r : List Int) (h : x ≠ d) (h2 : x = m) : cutL d m (x :: r) = [] :: cutL d m r := by
  cases r <;> simp [cutL, h, h2] <;> (intro e; exact absurd (h2.trans e) h)
theorem cutL_else (d m x : Int) (r : List Int) (h : x ≠ d) (h2 : x ≠ m) : cutL d m (x :: r) = hdP [x] (cutL d m r) := by
  cases r <;> simp [cutL, h, h2, hdP]
theorem seg_take (l : List Int) (f i : Nat) (x : Int) (r : List Int) (h : l.drop i = x :: r) (hf : f ≤ i) : (l.take (i + 1)).drop f = (l.take i).drop f ++ [x] := by
  have hl : i < l.length := by
    by_cases hl : i < l.length
    · exact hl
    · rw [List.drop_eq_nil_of_le (by omega)] at h; cases h
  have h1 := List.drop_eq_getElem_cons hl
  rw [h] at h1
  have hx : l[i] = x := (List.cons.inj h1).1.symm
  rw [List.take_succ_eq_append_getElem hl, List.drop_append_of_le_length (by simp; omega), hx]
theorem extract_eq (s : ByteArray) (f i : Nat) : s.extract f i = strOfNums (((bytesOf s).take i).drop f) := by
  apply bytesOf_inj
  rw [bytesOf_extract, bytesOf_strOf]
  intro c hc
  exact mem_bytesOf (List.mem_of_mem_take (List.mem_of_mem_drop hc))

theorem implCut_loop (a b c d m : Int) (s : ByteArray) (hs : s.size ≤ 1048576) : ∀ (n : Nat) (l : List Int) (i f : Nat) (acc : List ByteArray), l.length ≤ n → (bytesOf s).drop i = l → f ≤ i → f ≤ s.size → i ≤ s.size + 1 → acc.length ≤ i →
    Ev (fun k => impl_Syntax_cut.l0 k s m acc (f : Int) (i : Int) a b c d) (acc ++ (hdP (((bytesOf s).take i).drop f) (cutL d m l)).map strOfNums) := by
  have hend : ∀ (i f : Nat) (acc : List ByteArray), (bytesOf s).drop i = [] → f ≤ i → f ≤ s.size → i ≤ s.size + 1 → acc.length ≤ i → Ev (fun k => impl_Syntax_cut.l0 k s m acc (f : Int) (i : Int) a b c d) (acc ++ (hdP (((bytesOf s).take i).drop f) (cutL d m [])).map strOfNums) := by
    intro i f acc h hf hf' hi ha
    have h0 := drop_nil h
    refine Ev.step (fun k => impl_Syntax_cut.l0.eq_2 ..) (Ev.neg (by omega) (Ev.pos (by omega) (Ev.pos (by omega) (Ev.pos (by omega) (Ev.ret ?_)))))
    rw [Int.toNat_natCast, extract_eq]
    rw [List.take_of_length_le (by rw [length_bytesOf]; omega), List.take_of_length_le (by rw [length_bytesOf]; omega)]
    simp [hdP, cutL]
  intro n
  induction n using Nat.strongRecOn with
  | _ n ih =>
    intro l i f acc hn h hf hf' hi ha
    match l, h, hn with
    | [], h, hn => exact hend i f acc h hf hf' hi ha
    | x :: r, h, hn =>
      obtain ⟨h1, h2, h3, h4, h5⟩ := drop_cons h
      have hw : wrap64 ((i : Int) + 1) = ((i + 1 : Nat) : Int) := by rw [wrap_id (by omega) (by omega)]; omega
      have hw2 : wrap64 (((i + 1 : Nat) : Int) + 1) = ((i + 2 : Nat) : Int) := by rw [wrap_id (by omega) (by omega)]; omega
      simp only [List.length_cons] at hn
      refine Ev.step (fun k => impl_Syntax_cut.l0.eq_2 ..) ?_
      refine Ev.pos h1 ?_
      refine Ev.pos (Int.natCast_nonneg i) ?_
      rw [h2, wrap_id (x := x) (by omega) (by omega), hw, hw2]
      clear hw hw2
      have e1 := seg_take (bytesOf s) f i x r h hf
      refine Ev.ite (fun g1 => ?_) (fun g1 => Ev.ite (fun g2 => ?_) (fun g2 => ?_))
      · cases r with
        | nil =>
          have h6 : (bytesOf s).drop (i + 2) = [] := by
            have := drop_nil h3
            rw [List.drop_eq_nil_iff, length_bytesOf]; omega
          have h7 := hend (i + 2) f acc h6 (by omega) hf' (by omega) (by omega)
          refine h7.to ?_
          have e2 : (bytesOf s).take (i + 2) = (bytesOf s).take (i + 1) := by
            have := drop_nil h3
            rw [List.take_of_length_le (by rw [length_bytesOf]; omega), List.take_of_length_le (by rw [length_bytesOf]; omega)]
          rw [e2, e1]
          simp [cutL, g1, hdP]
        | cons y r' =>
          obtain ⟨g3, g4, g5, _, _⟩ := drop_cons h3
          simp only [List.length_cons] at hn
          have h7 := ih (n - 2) (by omega) r' (i + 2) f acc (by omega) g5 (by omega) hf' (by omega) (by omega)
          refine h7.to ?_
          have e2 := seg_take (bytesOf s) f (i + 1) y r' h3 (by omega)
          rw [e2, e1, cutL_rel d m x y r' g1, hdP_hdP]
          simp
      · refine Ev.pos (Int.natCast_nonneg f) ?_
        refine Ev.pos (show (f : Int) ≤ (i : Int) by omega) ?_
        refine Ev.pos (show (i : Int) ≤ (s.size : Int) by omega) ?_
        refine Ev.pos (show acc.length < 8796093022208 by omega) ?_
        have h7 := ih (n - 1) (by omega) r (i + 1) (i + 1) (acc ++ [s.extract (f : Int).toNat (i : Int).toNat]) (by omega) h3 (by omega) (by omega) (by omega) (by simp; omega)
        refine h7.to ?_
        rw [cutL_by d m x r g1 g2, Int.toNat_natCast, Int.toNat_natCast, extract_eq]
        have e3 : ((bytesOf s).take (i + 1)).drop (i + 1) = [] := by rw [List.drop_eq_nil_iff]; simp; omega
        rw [e3, hdP_nil (cutL_ne d m r)]
        simp [hdP]
      · have h7 := ih (n - 1) (by omega) r (i + 1) f acc (by omega) h3 (by omega) hf' (by omega) (by omega)
        refine h7.to ?_
        rw [e1, cutL_else d m x r g1 g2, hdP_hdP]
/-- The pieces of a text. -/
theorem implCut_ev (a b c d m : Int) (s : ByteArray) (hs : s.size ≤ 1048576) : Ev (fun k => impl_Syntax_cut.f k a b c d s m) ((cutL d m (bytesOf s)).map strOfNums) :=
  (implCut_loop a b c d m s hs _ _ 0 0 [] (Nat.le_refl _) rfl (by omega) (by omega) (by omega) (by simp)).to (by simp [hdP_nil (cutL_ne d m _)])

theorem implUn_loop (a b c d : Int) (s : ByteArray) (hs : s.size ≤ 1048576) : ∀ (n : Nat) (l : List Int) (i : Nat) (p : List Int), l.length ≤ n → (bytesOf s).drop i = l → i ≤ s.size → p.length ≤ i →
    Ev (fun k => impl_Syntax_unescaped.l0 k s p (i : Int) a b c d) (match unL a b c d l (i : Int) with | .inl q => ((⟨#[]⟩ : ByteArray), q) | .inr t => (strOfNums (p ++ t), (-1))) := by
  intro n
  induction n using Nat.strongRecOn with
  | _ n ih =>
    intro l i p hn h hi hp
    match l, h, hn with
    | [], h, hn =>
      have h0 := drop_nil h
      exact Ev.step (fun k => impl_Syntax_unescaped.l0.eq_2 ..) (Ev.neg (by omega) (Ev.ret (by simp [unL])))
    | x :: r, h, hn =>
      obtain ⟨h1, h2, h3, h4, h5⟩ := drop_cons h
      have hw : wrap64 ((i : Int) + 1) = ((i + 1 : Nat) : Int) := by rw [wrap_id (by omega) (by omega)]; omega
      have hw2 : wrap64 (((i + 1 : Nat) : Int) + 1) = ((i + 2 : Nat) : Int) := by rw [wrap_id (by omega) (by omega)]; omega
      have hw3 : wrap64 (((i + 1 : Nat) : Int) - 1) = (i : Int) := by rw [wrap_id (by omega) (by omega)]; omega
      simp only [List.length_cons] at hn
      have plain : ownP a b c d x = false → Ev (fun k => if p.length < 140737488355328 then (impl_Syntax_unescaped.l0 k s (p ++ [x]) ((i + 1 : Nat) : Int) a b c d) else none) (match unL a b c d (x :: r) (i : Int) with | .inl q => ((⟨#[]⟩ : ByteArray), q) | .inr t => (strOfNums (p ++ t), (-1))) := by
        intro ho
        refine Ev.pos (by omega) ?_
        have := ih (n - 1) (by omega) r (i + 1) (p ++ [x]) (by omega) h3 (by omega) (by simp; omega)
        refine this.to ?_
        rw [unL_plain a b c d x r (i : Int) ho, show ((i + 1 : Nat) : Int) = (i : Int) + 1 by omega]
        cases unL a b c d r ((i : Int) + 1) <;> simp
      have rel : x = d → Ev (fun k => if ((i + 1 : Nat) : Int) = (s.size : Int) then (some ((⟨#[]⟩ : ByteArray), (i : Int))) else (if 0 ≤ ((i + 1 : Nat) : Int) then (if ((i + 1 : Nat) : Int) < (s.size : Int) then ((impl_Syntax_isOne.f k a b c d (bt s ((i + 1 : Nat) : Int))).bind fun t => (if t = true then (if p.length < 140737488355328 then (impl_Syntax_unescaped.l0 k s (p ++ [bt s ((i + 1 : Nat) : Int)]) ((i + 2 : Nat) : Int) a b c d) else (none)) else (some ((⟨#[]⟩ : ByteArray), (i : Int))))) else (none)) else (none))) (match unL a b c d (x :: r) (i : Int) with | .inl q => ((⟨#[]⟩ : ByteArray), q) | .inr t => (strOfNums (p ++ t), (-1))) := by
        intro g1
        have ho : ownP a b c d x = true := by rw [g1]; exact ownP_d a b c d
        match r, h3, hn, h with
        | [], h3, hn, h =>
          have := drop_nil h3
          exact Ev.pos (by omega) (Ev.ret (by simp [unL, ho]))
        | y :: r', h3, hn, h =>
          obtain ⟨g3, g4, g5, g6, g7⟩ := drop_cons h3
          simp only [List.length_cons] at hn
          refine Ev.neg (by omega) (Ev.pos (by omega) (Ev.pos (by omega) ?_))
          rw [g4]
          refine Ev.bind (isOne_ev a b c d y g6 g7) ?_
          refine Ev.ite (fun g8 => Ev.pos (by omega) ?_) (fun g8 => Ev.ret (by simp [unL, ho, g1, g8, ownP_d]))
          refine (ih (n - 2) (by omega) r' (i + 2) (p ++ [y]) (by omega) g5 (by omega) (by simp; omega)).to ?_
          simp only [unL, ho, g1, g8, if_true]
          rw [show ((i + 2 : Nat) : Int) = (i : Int) + 2 by omega, show ownP a b c d d = true from ownP_d a b c d]
          simp only [if_true]
          cases unL a b c d r' ((i : Int) + 2) <;> simp
      refine Ev.step (fun k => impl_Syntax_unescaped.l0.eq_2 ..) (Ev.pos h1 (Ev.pos (by omega) ?_))
      rw [h2, wrap_id (x := x) (by omega) (by omega), hw, hw2, hw3]
      refine Ev.ite (fun g1 => rel g1) (fun g1 => Ev.bind (isOne_ev a b c d x h4 h5) (Ev.ite (fun ho => Ev.ret ?_) (fun ho => plain (by simpa using ho))))
      cases r <;> simp [unL, ho, g1]
theorem implUn_ev (a b c d : Int) (s : ByteArray) (hs : s.size ≤ 1048576) : Ev (fun k => impl_Syntax_unescaped.f k a b c d s) (match unL a b c d (bytesOf s) 0 with | .inl q => ((⟨#[]⟩ : ByteArray), q) | .inr t => (strOfNums t, (-1))) := by
  refine (implUn_loop a b c d s hs _ _ 0 [] (Nat.le_refl _) rfl (by omega) (by simp)).to ?_
  rw [List.drop_zero]
  cases h : unL a b c d (bytesOf s) ((0 : Nat) : Int) <;> simp at h <;> simp [h]
theorem unL_at (a b c d : Int) : ∀ (n : Nat) (l : List Int) (i q : Int), l.length ≤ n → unL a b c d l i = .inl q → i ≤ q ∧ q < i + (l.length : Int) := by
  intro n
  induction n using Nat.strongRecOn with
  | _ n ih =>
    intro l i q hn h
    match l, h, hn with
    | [], h, hn => simp [unL] at h
    | [x], h, hn =>
      simp only [unL] at h
      split at h
      · have : i = q := by simpa using h
        subst this; simp; omega
      · simp at h
    | x :: y :: r, h, hn =>
      simp only [List.length_cons] at hn ⊢
      simp only [unL] at h
      have hin : ∀ {z : Int}, (Sum.inl z : Int ⊕ List Int) = .inl q → z = q := fun e => by simpa using e
      split at h
      · split at h
        · split at h
          · cases h2 : unL a b c d r (i + 2) with
            | inl z =>
              rw [h2] at h
              have := ih (n - 2) (by omega) r (i + 2) z (by omega) h2
              have hz : z = q := by simpa using h
              omega
            | inr t => rw [h2] at h; simp at h
          · have := hin h; omega
        · have := hin h; omega
      · cases h2 : unL a b c d (y :: r) (i + 1) with
        | inl z =>
          rw [h2] at h
          have h3 := ih (n - 1) (by omega) (y :: r) (i + 1) z (by simp; omega) h2
          simp only [List.length_cons] at h3
          have hz : z = q := by simpa using h
          omega
        | inr t => rw [h2] at h; simp at h

/-- A text with what releases ahead of each of the four. -/
def escL (a b c d : Int) : List Int → List Int
  | [] => []
  | x :: r => if ownP a b c d x then d % 256 :: x :: escL a b c d r else x :: escL a b c d r
theorem escL_length (a b c d : Int) : ∀ l : List Int, (escL a b c d l).length ≤ 2 * l.length
  | [] => by simp [escL]
  | x :: r => by
    have := escL_length a b c d r
    unfold escL
    split <;> simp <;> omega

theorem implEscaped_loop (a b c d : Int) (s : ByteArray) (hs : s.size ≤ 1048576) : ∀ (l : List Int) (i : Nat) (p : List Int), (bytesOf s).drop i = l → p.length ≤ 2 * i → i ≤ s.size →
    Ev (fun k => impl_Syntax_escaped.l0 k s p (s.size : Int) (i : Int) a b c d) (strOfNums (p ++ escL a b c d l)) := by
  intro l
  induction l with
  | nil =>
    intro i p h hp hi
    have h0 := drop_nil h
    exact Ev.step (fun k => impl_Syntax_escaped.l0.eq_2 ..) (Ev.neg (by omega) (Ev.ret (by simp [escL])))
  | cons x r ih =>
    intro i p h hp hi
    obtain ⟨h1, h2, h3, h4, h5⟩ := drop_cons h
    have hw : wrap64 ((i : Int) + 1) = ((i + 1 : Nat) : Int) := by rw [wrap_id (by omega) (by omega)]; omega
    refine Ev.step (fun k => impl_Syntax_escaped.l0.eq_2 ..) (Ev.pos h1 (Ev.pos (by omega) (Ev.pos h1 ?_)))
    rw [h2, hw]
    refine Ev.bind (isOne_ev a b c d x h4 h5) ?_
    by_cases ho : ownP a b c d x = true
    · refine Ev.pos ho (Ev.pos (by omega) (Ev.bindc rfl (Ev.pos (by simp; omega) ?_)))
      exact (ih (i + 1) _ h3 (by simp; omega) (by omega)).to (by simp [escL, ho])
    · refine Ev.neg ho (Ev.pos (by omega) ?_)
      exact (ih (i + 1) _ h3 (by simp; omega) (by omega)).to (by simp [escL, ho])
theorem implEscaped_ev (a b c d : Int) (s : ByteArray) (hs : s.size ≤ 1048576) : Ev (fun k => impl_Syntax_escaped.f k a b c d s) (strOfNums (escL a b c d (bytesOf s))) :=
  (implEscaped_loop a b c d s hs _ 0 [] rfl (by simp) (by omega)).to (by simp)

/-! what the draws give -/
theorem u64_id {x : Int} (h0 : 0 ≤ x) (h1 : x < 18446744073709551616) : IntKind.u64.wrap x = x := by
  unfold IntKind.wrap
  simp [IntKind.bits, IntKind.signed]
  omega
theorem u64_ge (x : Int) : 0 ≤ IntKind.u64.wrap x := by
  unfold IntKind.wrap
  simp [IntKind.bits, IntKind.signed]
  omega
theorem u64_mod (x : Int) {m : Int} (h0 : 2 ≤ m) (h1 : m ≤ 9223372036854775807) : 0 ≤ wrap64 (Int.tmod (IntKind.u64.wrap x) (IntKind.u64.wrap m)) ∧ wrap64 (Int.tmod (IntKind.u64.wrap x) (IntKind.u64.wrap m)) < m := by
  rw [u64_id (x := m) (by omega) (by omega)]
  have h := u64_ge x
  generalize IntKind.u64.wrap x = y at h
  rw [Int.tmod_eq_emod_of_nonneg h]
  have h2 := Int.emod_nonneg y (show m ≠ 0 by omega)
  have h3 := Int.emod_lt_of_pos y (show 0 < m by omega)
  rw [wrap_id (by omega) (by omega)]
  exact ⟨h2, h3⟩
theorem src_n (b : List Int) (p mix size m : Int) (hb : b.length ≤ 1048576) (h0 : 0 ≤ p) (h1 : p ≤ (b.length : Int)) (hm : 2 ≤ m) (hm2 : m ≤ 9223372036854775807) : ∃ r p' mix', spec_l01Src_n.f b p mix size m = some (r, p', mix', size) ∧ 0 ≤ p' ∧ p' ≤ (b.length : Int) ∧ 0 ≤ r ∧ r < m := by
  unfold spec_l01Src_n.f
  have hne : ¬ IntKind.u64.wrap m = 0 := by rw [u64_id (by omega) (by omega)]; omega
  rw [if_neg (by omega)]
  by_cases h : p < (b.length : Int)
  · rw [if_pos h, if_pos h0, if_neg hne]
    have hw : wrap64 (p + 1) = p + 1 := wrap_id (by omega) (by omega)
    rw [hw]
    exact ⟨_, _, _, rfl, by omega, by omega, (u64_mod _ hm hm2).1, (u64_mod _ hm hm2).2⟩
  · rw [if_neg h, if_neg hne]
    exact ⟨_, _, _, rfl, by omega, by omega, (u64_mod _ hm hm2).1, (u64_mod _ hm hm2).2⟩
theorem src_one (b : List Int) (p mix size m : Int) (hb : b.length ≤ 1048576) (h0 : 0 ≤ p) (h1 : p ≤ (b.length : Int)) (hm : 2 ≤ m) (hm2 : m ≤ 9223372036854775807) : ∃ r p' mix', spec_l01Src_one.f b p mix size m = some (r, p', mix', size) ∧ 0 ≤ p' ∧ p' ≤ (b.length : Int) := by
  obtain ⟨r, p', mix', h, h2, h3, _, _⟩ := src_n b p mix size m hb h0 h1 hm hm2
  unfold spec_l01Src_one.f
  rw [h]
  exact ⟨_, _, _, rfl, h2, h3⟩
theorem source_loop (L : List Int) (hl : L.length ≤ 1048576) : ∀ (d i : Nat) (mix : Int), 64 - i = d → i ≤ 64 → ∃ mix' size', Ev (fun k => spec_l01Source.l0 k L (i : Int) L 0 mix 0) (L, 0, mix', size')
  | 0, i, mix, hd, hi => by
    by_cases h : (i : Int) < (L.length : Int)
    · by_cases g : wrap64 ((L.length : Int) / 20) > 12
      · exact ⟨_, _, Ev.step (fun k => spec_l01Source.l0.eq_2 ..) (Ev.pos h (Ev.neg (by omega) (Ev.pos g (Ev.now _))))⟩
      · exact ⟨_, _, Ev.step (fun k => spec_l01Source.l0.eq_2 ..) (Ev.pos h (Ev.neg (by omega) (Ev.neg g (Ev.now _))))⟩
    · by_cases g : wrap64 ((L.length : Int) / 20) > 12
      · exact ⟨_, _, Ev.step (fun k => spec_l01Source.l0.eq_2 ..) (Ev.neg h (Ev.pos g (Ev.now _)))⟩
      · exact ⟨_, _, Ev.step (fun k => spec_l01Source.l0.eq_2 ..) (Ev.neg h (Ev.neg g (Ev.now _)))⟩
  | d + 1, i, mix, hd, hi => by
    by_cases h : (i : Int) < (L.length : Int)
    · have hw : wrap64 ((i : Int) + 1) = ((i + 1 : Nat) : Int) := by rw [wrap_id (by omega) (by omega)]; omega
      obtain ⟨m', s', e⟩ := source_loop L hl d (i + 1) (IntKind.u64.wrap ((Go.bits .xor .u64 mix (IntKind.u64.wrap (rd L (i : Int)))) * 1099511628211)) (by omega) (by omega)
      rw [← hw] at e
      exact ⟨m', s', Ev.step (fun k => spec_l01Source.l0.eq_2 ..) (Ev.pos h (Ev.pos (by omega) (Ev.pos (by omega) e)))⟩
    · by_cases g : wrap64 ((L.length : Int) / 20) > 12
      · exact ⟨_, _, Ev.step (fun k => spec_l01Source.l0.eq_2 ..) (Ev.neg h (Ev.pos g (Ev.now _)))⟩
      · exact ⟨_, _, Ev.step (fun k => spec_l01Source.l0.eq_2 ..) (Ev.neg h (Ev.neg g (Ev.now _)))⟩
theorem source_ev (L : List Int) (hl : L.length ≤ 1048576) : ∃ mix size, Ev (fun k => spec_l01Source.f k L) (L, 0, mix, size) :=
  source_loop L hl 64 0 _ rfl (by omega)
theorem src_edge (b : List Int) (p mix size : Int) (hb : b.length ≤ 1048576) (h0 : 0 ≤ p) (h1 : p ≤ (b.length : Int)) : ∃ r p' mix', spec_l01Src_edge.f b p mix size = some (r, p', mix', size) ∧ 0 ≤ p' ∧ p' ≤ (b.length : Int) := by
  obtain ⟨r, p', mix', h, h2, h3, h4, h5⟩ := src_n b p mix size 14 hb h0 h1 (by omega) (by omega)
  unfold spec_l01Src_edge.f
  simp only [Option.bind_some, h]
  rw [if_pos h4, if_pos (by simp; omega)]
  exact ⟨_, _, _, rfl, h2, h3⟩
theorem syntax_j0 (b : List Int) (p mix size x0 x1 x2 x3 : Int) (hb : b.length ≤ 1048576) (h0 : 0 ≤ p) (h1 : p ≤ (b.length : Int)) : ∃ y0 y1 y2 y3 p' mix', Ev (fun k => spec_l01Src_syntax.j0 k b p mix size x0 x1 x2 x3) (y0, y1, y2, y3, p', mix', size) ∧ 0 ≤ p' ∧ p' ≤ (b.length : Int) := by
  obtain ⟨r1, p1, m1, e1, a1, b1⟩ := src_one b p mix size 30 hb h0 h1 (by omega) (by omega)
  cases r1 with
  | false => exact ⟨_, _, _, _, _, _, Ev.step (fun k => spec_l01Src_syntax.j0.eq_2 ..) (Ev.bindc e1 (Ev.neg (by simp) (Ev.now _))), a1, b1⟩
  | true =>
    obtain ⟨r2, p2, m2, e2, a2, b2, c2, d2⟩ := src_n b p1 m1 size 3 hb a1 b1 (by omega) (by omega)
    by_cases g0 : r2 = 0
    · exact ⟨_, _, _, _, _, _, Ev.step (fun k => spec_l01Src_syntax.j0.eq_2 ..) (Ev.bindc e1 (Ev.pos rfl (Ev.bindc e2 (Ev.pos g0 (Ev.now _))))), a2, b2⟩
    · by_cases g1 : r2 = 1
      · obtain ⟨r3, p3, m3, e3, a3, b3, c3, d3⟩ := src_n b p2 m2 size 6 hb a2 b2 (by omega) (by omega)
        exact ⟨_, _, _, _, _, _, Ev.step (fun k => spec_l01Src_syntax.j0.eq_2 ..) (Ev.bindc e1 (Ev.pos rfl (Ev.bindc e2 (Ev.neg g0 (Ev.pos g1 (Ev.bindc rfl (Ev.bindc e3 (Ev.pos c3 (Ev.pos (show r3 < (([32, 127, 65, 48, 45, 300] : List Int).length : Int) by simp; omega) (Ev.now _)))))))))), a3, b3⟩
      · obtain ⟨r3, p3, m3, e3, a3, b3⟩ := src_edge b p2 m2 size hb a2 b2
        exact ⟨_, _, _, _, _, _, Ev.step (fun k => spec_l01Src_syntax.j0.eq_2 ..) (Ev.bindc e1 (Ev.pos rfl (Ev.bindc e2 (Ev.neg g0 (Ev.neg g1 (Ev.bindc e3 (Ev.now _))))))), a3, b3⟩
theorem syntax_draw (b : List Int) (p mix size : Int) (hb : b.length ≤ 1048576) (h0 : 0 ≤ p) (h1 : p ≤ (b.length : Int)) : ∃ y0 y1 y2 y3 p' mix', Ev (fun k => spec_l01Src_syntax.f k b p mix size) (y0, y1, y2, y3, p', mix', size) ∧ 0 ≤ p' ∧ p' ≤ (b.length : Int) := by
  unfold spec_l01Src_syntax.f
  obtain ⟨r1, p1, m1, e1, a1, b1⟩ := src_one b p mix size 4 hb h0 h1 (by omega) (by omega)
  cases r1 with
  | false =>
    obtain ⟨y0, y1, y2, y3, p2, m2, e2, a2, b2⟩ := syntax_j0 b p1 m1 size 39 43 58 63 hb a1 b1
    exact ⟨_, _, _, _, _, _, Ev.bindc (show spec_l01Plain.f = some (39, 43, 58, 63) from rfl) (Ev.bindc e1 (Ev.neg (by simp) e2)), a2, b2⟩
  | true =>
    obtain ⟨r2, p2, m2, e2, a2, b2, c2, d2⟩ := src_n b p1 m1 size 9 hb a1 b1 (by omega) (by omega)
    have w1 : wrap64 (r2 + 1) = r2 + 1 := wrap_id (by omega) (by omega)
    have w2 : wrap64 (r2 + 2) = r2 + 2 := wrap_id (by omega) (by omega)
    have w3 : wrap64 (r2 + 3) = r2 + 3 := wrap_id (by omega) (by omega)
    obtain ⟨y0, y1, y2, y3, p3, m3, e3, a3, b3⟩ := syntax_j0 b p2 m2 size (rd [33, 35, 36, 37, 38, 42, 47, 61, 64, 94, 124, 126] r2) (rd [33, 35, 36, 37, 38, 42, 47, 61, 64, 94, 124, 126] (wrap64 (r2 + 1))) (rd [33, 35, 36, 37, 38, 42, 47, 61, 64, 94, 124, 126] (wrap64 (r2 + 2))) (rd [33, 35, 36, 37, 38, 42, 47, 61, 64, 94, 124, 126] (wrap64 (r2 + 3))) hb a2 b2
    have l12 : (([33, 35, 36, 37, 38, 42, 47, 61, 64, 94, 124, 126] : List Int).length : Int) = 12 := rfl
    exact ⟨_, _, _, _, _, _, Ev.bindc (show spec_l01Plain.f = some (39, 43, 58, 63) from rfl) (Ev.bindc e1 (Ev.pos rfl (Ev.bindc rfl (Ev.bindc e2 (Ev.pos c2 (Ev.pos (by rw [l12]; omega) (Ev.pos (by rw [w1]; omega) (Ev.pos (by rw [w1, l12]; omega) (Ev.pos (by rw [w2]; omega) (Ev.pos (by rw [w2, l12]; omega) (Ev.pos (by rw [w3]; omega) (Ev.pos (by rw [w3, l12]; omega) e3)))))))))))), a3, b3⟩

/-! words that are drawn -/
theorem words_loop (b : List Int) (size a0 a1 a2 a3 : Int) (hb : b.length ≤ 1048576) : ∀ (n : Nat) (p mix : Int) (acc : List Int), 0 ≤ p → p ≤ (b.length : Int) → acc.length + n ≤ 1000 → ∃ s p' mix', Ev (fun k => spec_l01Src_words.l0 k (n : Int) acc b p mix size a0 a1 a2 a3) (s, p', mix', size) ∧ s.size = acc.length + n ∧ 0 ≤ p' ∧ p' ≤ (b.length : Int)
  | 0, p, mix, acc, h0, h1, hn => ⟨_, _, _, Ev.step (fun k => spec_l01Src_words.l0.eq_2 ..) (Ev.neg (by omega) (Ev.now _)), by rw [size_strOf]; rfl, h0, h1⟩
  | n + 1, p, mix, acc, h0, h1, hn => by
    obtain ⟨r, p1, m1, e1, q0, q1, q2, q3⟩ := src_n b p mix size 6 hb h0 h1 (by omega) (by omega)
    have hw : wrap64 (((n + 1 : Nat) : Int) - 1) = (n : Int) := by rw [wrap_id (by omega) (by omega)]; omega
    have stp : ∀ (c p2 m2 : Int), 0 ≤ p2 → p2 ≤ (b.length : Int) → ∃ s p' mix', Ev (fun k => if acc.length < 140737488355328 then (spec_l01Src_words.l0 k (wrap64 (((n + 1 : Nat) : Int) - 1)) (acc ++ [c]) b p2 m2 size a0 a1 a2 a3) else none) (s, p', mix', size) ∧ s.size = acc.length + (n + 1) ∧ 0 ≤ p' ∧ p' ≤ (b.length : Int) := by
      intro c p2 m2 g0 g1
      obtain ⟨s, p', m', e, f1, f2, f3⟩ := words_loop b size a0 a1 a2 a3 hb n p2 m2 (acc ++ [c]) g0 g1 (by simp; omega)
      rw [hw]
      exact ⟨s, p', m', Ev.pos (by omega) e, by rw [f1]; simp; omega, f2, f3⟩
    by_cases g0 : r = 0
    · obtain ⟨s, p', m', e, f⟩ := stp (a0 % 256) p1 m1 q0 q1
      exact ⟨s, p', m', Ev.step (fun k => spec_l01Src_words.l0.eq_2 ..) (Ev.pos (by omega) (Ev.bindc e1 (Ev.pos g0 e))), f⟩
    by_cases g1 : r = 1
    · obtain ⟨s, p', m', e, f⟩ := stp (a1 % 256) p1 m1 q0 q1
      exact ⟨s, p', m', Ev.step (fun k => spec_l01Src_words.l0.eq_2 ..) (Ev.pos (by omega) (Ev.bindc e1 (Ev.neg g0 (Ev.pos g1 e)))), f⟩
    by_cases g2 : r = 2
    · obtain ⟨s, p', m', e, f⟩ := stp (a2 % 256) p1 m1 q0 q1
      exact ⟨s, p', m', Ev.step (fun k => spec_l01Src_words.l0.eq_2 ..) (Ev.pos (by omega) (Ev.bindc e1 (Ev.neg g0 (Ev.neg g1 (Ev.pos g2 e))))), f⟩
    by_cases g3 : r = 3
    · obtain ⟨s, p', m', e, f⟩ := stp (a3 % 256) p1 m1 q0 q1
      exact ⟨s, p', m', Ev.step (fun k => spec_l01Src_words.l0.eq_2 ..) (Ev.pos (by omega) (Ev.bindc e1 (Ev.neg g0 (Ev.neg g1 (Ev.neg g2 (Ev.pos g3 e)))))), f⟩
    obtain ⟨r2, p2, m2, e2, s0, s1, s2, s3⟩ := src_n b p1 m1 size 6 hb q0 q1 (by omega) (by omega)
    obtain ⟨s, p', m', e, f⟩ := stp (bt (⟨#[65, 66, 99, 32, 49, 45]⟩ : ByteArray) r2) p2 m2 s0 s1
    exact ⟨s, p', m', Ev.step (fun k => spec_l01Src_words.l0.eq_2 ..) (Ev.pos (by omega) (Ev.bindc e1 (Ev.neg g0 (Ev.neg g1 (Ev.neg g2 (Ev.neg g3 (Ev.bindc e2 (Ev.pos s2 (Ev.pos s3 e))))))))), f⟩
theorem words_ev (b : List Int) (p mix size a0 a1 a2 a3 n : Int) (hb : b.length ≤ 1048576) (h0 : 0 ≤ p) (h1 : p ≤ (b.length : Int)) (hn : 0 ≤ n) (hn2 : n ≤ 100) : ∃ s p' mix', Ev (fun k => spec_l01Src_words.f k b p mix size a0 a1 a2 a3 n) (s, p', mix', size) ∧ (s.size : Int) = n ∧ 0 ≤ p' ∧ p' ≤ (b.length : Int) := by
  obtain ⟨m, rfl⟩ := Int.eq_ofNat_of_zero_le hn
  obtain ⟨s, p', m', e, f1, f2, f3⟩ := words_loop b size a0 a1 a2 a3 hb m p mix [] h0 h1 (by simp; omega)
  exact ⟨s, p', m', e, by rw [f1]; simp, f2, f3⟩

/-- A text that has its releases, ahead of what is cut. -/
theorem cut_esc (a b c d m : Int) (hd : m ≠ d) (h2d : d % 256 = d) (hm : ownP a b c d m = true) (rest : List Int) (h : List Int) (t : List (List Int)) (he : cutL d m rest = h :: t) : ∀ l : List Int, cutL d m (escL a b c d l ++ rest) = (escL a b c d l ++ h) :: t
  | [] => by simpa [escL] using he
  | x :: r => by
    have ih := cut_esc a b c d m hd h2d hm rest h t he r
    unfold escL
    split
    · rw [List.cons_append, List.cons_append, cutL_rel d m _ _ _ h2d, ih]
      rfl
    · rename_i ho
      have h1 : x ≠ d := fun e => ho (by rw [e]; exact ownP_d a b c d)
      have h2 : x ≠ m := fun e => ho (by rw [e]; exact hm)
      rw [List.cons_append, cutL_else d m x _ h1 h2, ih]
      rfl
theorem un_esc (a b c d : Int) (h2d : d % 256 = d) : ∀ (l : List Int) (i : Int), unL a b c d (escL a b c d l) i = .inr l
  | [], i => rfl
  | x :: r, i => by
    unfold escL
    split
    · rename_i ho
      have := un_esc a b c d h2d r (i + 2)
      rw [h2d]
      simp only [unL, ownP_d, if_true, ho, this]
      rfl
    · rename_i ho
      rw [unL_plain a b c d x _ i (by simpa using ho), un_esc a b c d h2d r (i + 1)]
      rfl
theorem esc_mem (a b c d : Int) {y : Int} : ∀ l : List Int, y ∈ escL a b c d l → y = d % 256 ∨ y ∈ l
  | x :: r, h => by
    unfold escL at h
    split at h
    · simp only [List.mem_cons] at h ⊢
      rcases h with h | h | h
      · exact .inl h
      · exact .inr (.inl h)
      · rcases esc_mem a b c d r h with e | e
        · exact .inl e
        · exact .inr (.inr e)
    · simp only [List.mem_cons] at h ⊢
      rcases h with h | h
      · exact .inr (.inl h)
      · rcases esc_mem a b c d r h with e | e
        · exact .inl e
        · exact .inr (.inr e)
theorem drawEscape_ev (L : List Int) (hb : L.length ≤ 1048576) : ∃ a b c d s, Ev (fun k => spec_DrawEscape.f k L) (a, b, c, d, s) ∧ (s.size : Int) ≤ 20 := by
  obtain ⟨mix, size, e0⟩ := source_ev L hb
  obtain ⟨a, b, c, d, p, mx, e1, g0, g1⟩ := syntax_draw L 0 mix size hb (by omega) (by omega)
  obtain ⟨n, p2, m2, e2, h0, h1, h2, h3⟩ := src_n L p mx size 20 hb g0 g1 (by omega) (by omega)
  obtain ⟨s, p3, m3, e3, hs, i0, i1⟩ := words_ev L p2 m2 size a b c d n hb h0 h1 h2 (by omega)
  refine ⟨a, b, c, d, s, ?_, by omega⟩
  unfold spec_DrawEscape.f
  exact Ev.bind e0 (Ev.bind e1 (Ev.bindc e2 (Ev.bind e3 (Ev.now _))))
theorem escape_is (a b c d : Int) (s : ByteArray) (hs : (s.size : Int) ≤ 20) (hr : synP a b c d = true) : Ev (fun k => impl_Escape.f k a b c d s) (strOfNums (escL a b c d (bytesOf s))) := by
  unfold impl_Escape.f
  exact Ev.bind (longText_ev s) (Ev.neg (by simp; omega) (Ev.bind (implSyntaxRight_ev a b c d) (Ev.pos hr (Ev.bind (implEscaped_ev a b c d s (by omega)) (Ev.now _)))))
theorem FnEscape : laws_FnEscape.Pure := by
  intro L L2 hl _ _ hl2 _ _
  refine Ev.rounds (g := fun k => laws_FnEscape.f k L L2) ?_
  unfold laws_FnEscape.f
  have jT : Ev (fun k => laws_FnEscape.j0 k L L2 true) true := Ev.step (fun k => laws_FnEscape.j0.eq_2 ..) (Ev.pos rfl (Ev.now _))
  refine Ev.ite (fun _ => jT) (fun g1 => ?_)
  by_cases g2 : (L2.length : Int) > 1048576
  · rw [decide_eq_true g2]; exact jT
  rw [decide_eq_false g2]
  obtain ⟨a, b, c, d, s, e1, hs⟩ := drawEscape_ev L (by omega)
  obtain ⟨a', b', c', d', s2, e2, hs2⟩ := drawEscape_ev L2 (by omega)
  refine Ev.step (fun k => laws_FnEscape.j0.eq_2 ..) (Ev.neg (by simp) (Ev.bind e1 (Ev.bind e2 (Ev.bind (specSyntaxRight_ev a b c d) (Ev.ite (fun hr => ?_) (fun hr => ?_))))))
  · obtain ⟨ma, mb, mc, md, _, _, _, _, hbd, _⟩ := synP_iff.1 hr
    have rb := markP_iff.1 mb
    have rd' := markP_iff.1 md
    have h2d : d % 256 = d := by omega
    have h2b : b % 256 = b := by omega
    have hob : ownP a b c d b = true := by simp [ownP]
    have x1 := escape_is a b c d s hs hr
    have x2 := escape_is a b c d s2 hs2 hr
    have rng : ∀ t : ByteArray, ∀ y ∈ escL a b c d (bytesOf t), 0 ≤ y ∧ y ≤ 255 := by
      intro t y hy
      rcases esc_mem a b c d _ hy with h | h
      · omega
      · exact mem_bytesOf h
    have lenE : ∀ t : ByteArray, (t.size : Int) ≤ 20 → (escL a b c d (bytesOf t)).length ≤ 40 := by
      intro t ht
      have := escL_length a b c d (bytesOf t)
      rw [length_bytesOf] at this
      omega
    have l1 := lenE s hs
    have l2 := lenE s2 hs2
    have bs1 := bytesOf_strOf _ (rng s)
    have bs2 := bytesOf_strOf _ (rng s2)
    have u1 : Ev (fun k => impl_Unescape.f k a b c d (strOfNums (escL a b c d (bytesOf s)))) (s, 0, 0) := by
      have hu := implUn_ev a b c d (strOfNums (escL a b c d (bytesOf s))) (by rw [size_strOf]; omega)
      rw [bs1, un_esc a b c d h2d] at hu
      dsimp only at hu
      rw [strOf_bytesOf] at hu
      unfold impl_Unescape.f
      exact Ev.bind (longText_ev _) (Ev.neg (by rw [size_strOf]; simp; omega) (Ev.bind (implSyntaxRight_ev a b c d) (Ev.pos hr (Ev.bind hu (Ev.neg (by simp) (Ev.now _))))))
    have hz1 : (strOfNums (escL a b c d (bytesOf s))).size ≤ 40 := by rw [size_strOf]; exact l1
    have hz2 : (strOfNums (escL a b c d (bytesOf s2))).size ≤ 40 := by rw [size_strOf]; exact l2
    have hzb : (strOfNums [b % 256]).size = 1 := by rw [size_strOf]; rfl
    have hcut : cutL d b (escL a b c d (bytesOf s) ++ (b :: escL a b c d (bytesOf s2))) = [escL a b c d (bytesOf s), escL a b c d (bytesOf s2)] := by
      have k2 := cut_esc a b c d b hbd h2d hob [] [] [] (by simp [cutL]) (bytesOf s2)
      rw [List.append_nil] at k2
      rw [cut_esc a b c d b hbd h2d hob (b :: escL a b c d (bytesOf s2)) [] [escL a b c d (bytesOf s2)] (by rw [cutL_by d b b _ hbd rfl, k2]) (bytesOf s), List.append_nil]
    have c1 : Ev (fun k => impl_CutAt.f k a b c d ((strOfNums (escL a b c d (bytesOf s)) ++ strOfNums [b % 256]) ++ strOfNums (escL a b c d (bytesOf s2))) b) [strOfNums (escL a b c d (bytesOf s)), strOfNums (escL a b c d (bytesOf s2))] := by
      have hsz : ((strOfNums (escL a b c d (bytesOf s)) ++ strOfNums [b % 256]) ++ strOfNums (escL a b c d (bytesOf s2))).size ≤ 100 := by
        rw [size_append, size_append, hzb]; omega
      have hc := implCut_ev a b c d b ((strOfNums (escL a b c d (bytesOf s)) ++ strOfNums [b % 256]) ++ strOfNums (escL a b c d (bytesOf s2))) (by omega)
      have hby : bytesOf ((strOfNums (escL a b c d (bytesOf s)) ++ strOfNums [b % 256]) ++ strOfNums (escL a b c d (bytesOf s2))) = escL a b c d (bytesOf s) ++ (b :: escL a b c d (bytesOf s2)) := by
        rw [bytesOf_append, bytesOf_append, bs1, bs2, bytesOf_strOf [b % 256] (by intro y hy; simp at hy; omega), h2b]
        simp
      rw [hby, hcut] at hc
      unfold impl_CutAt.f
      refine Ev.bind (longText_ev _) (Ev.neg (by simp only [decide_eq_true_eq]; omega) (Ev.bind (implSyntaxRight_ev a b c d) (Ev.pos hr (Ev.ite (fun _ => Ev.bind hc (Ev.now _)) (fun _ => Ev.pos rfl (Ev.bind hc (Ev.now _)))))))
    refine Ev.bind x1 (Ev.bind x2 (Ev.bind u1 (Ev.neg (by simp) (Ev.bindc (a := [b % 256]) rfl (Ev.pos (by simp only [size_strOf, List.length_cons, List.length_nil]; omega) (Ev.pos (by simp only [size_append, size_strOf, List.length_cons, List.length_nil]; omega) (Ev.bind c1 (Ev.pos rfl (Ev.pos (by simp) (Ev.pos rfl (Ev.pos (by simp) ?_)))))))))))
    exact Ev.ret (by simp [rdOf])
  · have x1 : Ev (fun k => impl_Escape.f k a b c d s) (⟨#[]⟩ : ByteArray) := by
      unfold impl_Escape.f
      exact Ev.bind (longText_ev s) (Ev.neg (by simp; omega) (Ev.bind (implSyntaxRight_ev a b c d) (Ev.neg hr (Ev.now _))))
    exact Ev.bind x1 (Ev.ret (by rw [ByteArray.toList_eq]; rfl))

end Go.Proofs.Ytchoalagkcdbhaa.Pure
