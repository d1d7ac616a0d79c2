/- FnPieces: the pieces put together are the text
Conditions: none. -/
import Derived.Test.YtchoalagkcdbhaaPFnPiecesx
import Derived.Test.YtchoalagkcdbhaaPl
namespace Go.Proofs.Ytchoalagkcdbhaa.Pure
open Go.RowKit Go.Proofs.Ytchoalagkcdbhaa.PFnPieces Go.Proofs.YtchoalagkcdbhaaW.PrintWords Go.Proofs.YtchoalagkcdbhaaW.PrintLast Go.Proofs.YtchoalagkcdbhaaW.PrintMore Go.Proofs.YtchoalagkcdbhaaW.Pl
set_option linter.unusedVariables false
set_option linter.unusedSimpArgs false

theorem within_eq (a b c : Int) : impl_within.f a b c = some (withinP a b c) := by
  unfold impl_within.f withinP
  split
  · congr 1; simp only [decide_eq_decide]; omega
  · congr 1; symm; simp only [decide_eq_false_iff_not]; omega

theorem isGreat_eq (c : Int) : impl_isGreat.f c = some (great c) := by
  unfold impl_isGreat.f great
  split
  · congr 1; simp only [decide_eq_decide]; omega
  · congr 1; symm; simp only [decide_eq_false_iff_not]; omega
theorem isDigit_eq (c : Int) : impl_isDigit.f c = some (digit c) := by
  unfold impl_isDigit.f digit
  split
  · congr 1; simp only [decide_eq_decide]; omega
  · congr 1; symm; simp only [decide_eq_false_iff_not]; omega

theorem index_loop (l : List Int) (v : Int) (hl : (l.length : Int) ≤ 4611686018427387904) : ∀ (r : List Int) (i : Nat), l.drop i = r → ∃ x : Int, Ev (fun k => slices_Index_int64_int64.l0 k l v (l.length : Int) (i : Int)) x ∧ decide (x ≥ 0) = r.contains v := by
  intro r
  induction r with
  | nil =>
    intro i h
    have h0 := ldrop_nil h
    exact ⟨-1, Ev.step (fun k => slices_Index_int64_int64.l0.eq_2 ..) (Ev.neg (by omega) (Ev.now _)), by simp⟩
  | cons c r ih =>
    intro i h
    obtain ⟨h1, h2, h3⟩ := rd_cons h
    have hw : wrap64 ((i : Int) + 1) = ((i + 1 : Nat) : Int) := by rw [wrap_id (by omega) (by omega)]; omega
    obtain ⟨x, hx, he⟩ := ih (i + 1) h3
    by_cases hv : v = c
    · refine ⟨i, Ev.step (fun k => slices_Index_int64_int64.l0.eq_2 ..) (Ev.pos h1 (Ev.pos (by omega) (Ev.pos h1 ?_))), by simp [hv]⟩
      rw [h2]
      exact Ev.pos hv (Ev.now _)
    · refine ⟨x, Ev.step (fun k => slices_Index_int64_int64.l0.eq_2 ..) (Ev.pos h1 (Ev.pos (by omega) (Ev.pos h1 ?_))), by rw [he]; simp [hv]⟩
      rw [h2, hw]
      exact Ev.neg hv hx
theorem contains_ev (l : List Int) (v : Int) (hl : (l.length : Int) ≤ 4611686018427387904) : Ev (fun k => slices_Contains_int64_int64.f k l v) (l.contains v) := by
  obtain ⟨x, hx, he⟩ := index_loop l v hl l 0 rfl
  unfold slices_Contains_int64_int64.f
  refine Ev.bind (show Ev (fun k => slices_Index_int64_int64.f k l v) x from hx) ?_
  exact Ev.ret he

theorem l01Mark_eq (c : Int) : spec_l01Mark.f c = some (markP c) := by
  have hf : ∀ {b : Bool}, markP c = b → some b = some (markP c) := fun h => by rw [h]
  have ht : 33 ≤ c → c ≤ 126 → c ≠ 45 → ¬ (65 ≤ c ∧ c ≤ 90) → ¬ (97 ≤ c ∧ c ≤ 122) → ¬ (48 ≤ c ∧ c ≤ 57) → markP c = true := fun h1 h2 h3 h4 h5 h6 => markP_iff.2 ⟨h1, h2, h3, h4, h5, h6⟩
  have hn : ¬ (33 ≤ c ∧ c ≤ 126 ∧ c ≠ 45 ∧ ¬ (65 ≤ c ∧ c ≤ 90) ∧ ¬ (97 ≤ c ∧ c ≤ 122) ∧ ¬ (48 ≤ c ∧ c ≤ 57)) → markP c = false := markP_not.2
  unfold spec_l01Mark.f
  repeat' split
  all_goals (apply hf; first | exact hn (by omega) | exact ht (by omega) (by omega) (by omega) (by omega) (by omega) (by omega) | (simp only [Bool.not_true, Bool.not_false]; first | exact hn (by omega) | exact ht (by omega) (by omega) (by omega) (by omega) (by omega) (by omega)) | skip)
  all_goals
    by_cases h57 : c ≤ 57
    · rw [decide_eq_true h57]; exact hn (by omega)
    · rw [decide_eq_false h57]; exact ht (by omega) (by omega) (by omega) (by omega) (by omega) (by omega)

section
variable (a b c d : Int)
theorem sA (i : Int) (x : Int) {r : Bool} (h0 : 0 ≤ i) (h4 : i < 4) (hx : rd [a, b, c, d] i = x) (hm : markP x = true) (h : Ev (fun k => spec_SyntaxRight.l1 k [a, b, c, d] i 0) r) : Ev (fun k => spec_SyntaxRight.l0 k [a, b, c, d] i) r := by
  refine Ev.step (fun k => spec_SyntaxRight.l0.eq_2 ..) (Ev.pos h4 (Ev.pos h0 (Ev.pos (by simp; omega) ?_)))
  rw [hx]
  exact Ev.bindc (l01Mark_eq x) (Ev.pos hm h)
theorem sA' (i : Int) (x : Int) (h0 : 0 ≤ i) (h4 : i < 4) (hx : rd [a, b, c, d] i = x) (hm : markP x = false) : Ev (fun k => spec_SyntaxRight.l0 k [a, b, c, d] i) false := by
  refine Ev.step (fun k => spec_SyntaxRight.l0.eq_2 ..) (Ev.pos h4 (Ev.pos h0 (Ev.pos (by simp; omega) ?_)))
  rw [hx]
  exact Ev.bindc (l01Mark_eq x) (Ev.neg (by simp [hm]) (Ev.now _))
theorem sA4 : Ev (fun k => spec_SyntaxRight.l0 k [a, b, c, d] 4) true := Ev.step (fun k => spec_SyntaxRight.l0.eq_2 ..) (Ev.neg (by omega) (Ev.now _))
theorem sB (i j : Int) (x y : Int) {r : Bool} (h0 : 0 ≤ j) (h : j < i) (h4 : i < 4) (hx : rd [a, b, c, d] j = x) (hy : rd [a, b, c, d] i = y) (hm : x ≠ y) (hn : Ev (fun k => spec_SyntaxRight.l1 k [a, b, c, d] i (j + 1)) r) : Ev (fun k => spec_SyntaxRight.l1 k [a, b, c, d] i j) r := by
  refine Ev.step (fun k => spec_SyntaxRight.l1.eq_2 ..) (Ev.pos h (Ev.pos h0 (Ev.pos (by simp; omega) (Ev.pos (by omega) (Ev.pos (by simp; omega) ?_)))))
  rw [hx, hy, wrap_id (by omega) (by omega)]
  exact Ev.neg hm hn
theorem sB' (i j : Int) (x y : Int) (h0 : 0 ≤ j) (h : j < i) (h4 : i < 4) (hx : rd [a, b, c, d] j = x) (hy : rd [a, b, c, d] i = y) (hm : x = y) : Ev (fun k => spec_SyntaxRight.l1 k [a, b, c, d] i j) false := by
  refine Ev.step (fun k => spec_SyntaxRight.l1.eq_2 ..) (Ev.pos h (Ev.pos h0 (Ev.pos (by simp; omega) (Ev.pos (by omega) (Ev.pos (by simp; omega) ?_)))))
  rw [hx, hy]
  exact Ev.pos hm (Ev.now _)
theorem sBe (i : Int) {r : Bool} (h0 : 0 ≤ i) (h4 : i < 4) (hn : Ev (fun k => spec_SyntaxRight.l0 k [a, b, c, d] (i + 1)) r) : Ev (fun k => spec_SyntaxRight.l1 k [a, b, c, d] i i) r := by
  refine Ev.step (fun k => spec_SyntaxRight.l1.eq_2 ..) (Ev.neg (by omega) ?_)
  rw [wrap_id (by omega) (by omega)]
  exact hn
theorem specSyntaxRight_ev : Ev (fun k => spec_SyntaxRight.f k a b c d) (synP a b c d) := by
  show Ev (fun k => spec_SyntaxRight.l0 k [a, b, c, d] 0) _
  have no_ : ∀ {g : Nat → Option Bool}, synP a b c d = false → Ev g false → Ev g (synP a b c d) := fun h e => by rw [h]; exact e
  by_cases m0 : markP a = true
  rotate_left
  · exact no_ (by simp [synP, m0]) (sA' a b c d 0 a (by omega) (by omega) rfl (by simpa using m0))
  refine sA a b c d 0 a (by omega) (by omega) rfl m0 (sBe a b c d 0 (by omega) (by omega) ?_)
  by_cases m1 : markP b = true
  rotate_left
  · exact no_ (by simp [synP, m1]) (sA' a b c d 1 b (by omega) (by omega) rfl (by simpa using m1))
  refine sA a b c d 1 b (by omega) (by omega) rfl m1 ?_
  by_cases e01 : a = b
  · exact no_ (by simp [synP, e01]) (sB' a b c d 1 0 a b (by omega) (by omega) (by omega) rfl rfl e01)
  refine sB a b c d 1 0 a b (by omega) (by omega) (by omega) rfl rfl e01 (sBe a b c d 1 (by omega) (by omega) ?_)
  by_cases m2 : markP c = true
  rotate_left
  · exact no_ (by simp [synP, m2]) (sA' a b c d 2 c (by omega) (by omega) rfl (by simpa using m2))
  refine sA a b c d 2 c (by omega) (by omega) rfl m2 ?_
  by_cases e02 : a = c
  · exact no_ (by simp [synP, e02]) (sB' a b c d 2 0 a c (by omega) (by omega) (by omega) rfl rfl e02)
  refine sB a b c d 2 0 a c (by omega) (by omega) (by omega) rfl rfl e02 ?_
  by_cases e12 : b = c
  · exact no_ (by simp [synP, e12]) (sB' a b c d 2 1 b c (by omega) (by omega) (by omega) rfl rfl e12)
  refine sB a b c d 2 1 b c (by omega) (by omega) (by omega) rfl rfl e12 (sBe a b c d 2 (by omega) (by omega) ?_)
  by_cases m3 : markP d = true
  rotate_left
  · exact no_ (by simp [synP, m3]) (sA' a b c d 3 d (by omega) (by omega) rfl (by simpa using m3))
  refine sA a b c d 3 d (by omega) (by omega) rfl m3 ?_
  by_cases e03 : a = d
  · exact no_ (by simp [synP, e03]) (sB' a b c d 3 0 a d (by omega) (by omega) (by omega) rfl rfl e03)
  refine sB a b c d 3 0 a d (by omega) (by omega) (by omega) rfl rfl e03 ?_
  by_cases e13 : b = d
  · exact no_ (by simp [synP, e13]) (sB' a b c d 3 1 b d (by omega) (by omega) (by omega) rfl rfl e13)
  refine sB a b c d 3 1 b d (by omega) (by omega) (by omega) rfl rfl e13 ?_
  by_cases e23 : c = d
  · exact no_ (by simp [synP, e23]) (sB' a b c d 3 2 c d (by omega) (by omega) (by omega) rfl rfl e23)
  refine sB a b c d 3 2 c d (by omega) (by omega) (by omega) rfl rfl e23 (sBe a b c d 3 (by omega) (by omega) ?_)
  rw [synP_iff.2 ⟨m0, m1, m2, m3, e01, e02, e12, e03, e13, e23⟩]
  exact sA4 a b c d
end

section
variable (a b c d : Int)
/-- One round of the program's loop: the byte is a mark, and none ahead is it. -/
theorem iA (i : Int) (x : Int) (pre : List Int) {r : Bool} (h0 : 0 ≤ i) (h4 : i < 4) (hx : rd [a, b, c, d] i = x) (hp : [a, b, c, d].take i.toNat = pre) (hm : markP x = true) (hc : pre.contains x = false) (h : Ev (fun k => impl_SyntaxRight.l0 k [a, b, c, d] [a, b, c, d] 4 (i + 1)) r) :
    Ev (fun k => impl_SyntaxRight.l0 k [a, b, c, d] [a, b, c, d] 4 i) r := by
  have hm' := markP_iff.1 hm
  refine Ev.step (fun k => impl_SyntaxRight.l0.eq_2 ..) (Ev.pos h4 (Ev.pos h0 (Ev.pos (by simp; omega) ?_)))
  rw [hx, hp]
  refine Ev.bindc (within_eq _ _ _) (Ev.pos (by simp [withinP]; omega) (Ev.pos (by simp; omega) ?_))
  refine Ev.bind (contains_ev pre x (by rw [← hp]; simp; omega)) ?_
  rw [hc]
  refine Ev.step (fun k => impl_SyntaxRight.j1.eq_2 ..) (Ev.neg (by simp) ?_)
  have e : x % 256 = x := by omega
  rw [e, wrap_id (by omega) (by omega)]
  refine Ev.bindc (isGreat_eq x) (Ev.neg (by simp [great]; omega) ?_)
  refine Ev.ite (fun _ => Ev.neg (by omega) ?_) (fun _ => ?_)
  · exact Ev.bindc (isDigit_eq x) (Ev.neg (by simp [digit]; omega) (Ev.neg (by omega) h))
  · exact Ev.bindc (isDigit_eq x) (Ev.neg (by simp [digit]; omega) (Ev.neg (by omega) h))
theorem iA' (i : Int) (x : Int) (pre : List Int) (h0 : 0 ≤ i) (h4 : i < 4) (hx : rd [a, b, c, d] i = x) (hp : [a, b, c, d].take i.toNat = pre) (hm : markP x = false ∨ pre.contains x = true) :
    Ev (fun k => impl_SyntaxRight.l0 k [a, b, c, d] [a, b, c, d] 4 i) false := by
  refine Ev.step (fun k => impl_SyntaxRight.l0.eq_2 ..) (Ev.pos h4 (Ev.pos h0 (Ev.pos (by simp; omega) ?_)))
  rw [hx, hp]
  have hj : Ev (fun k => impl_SyntaxRight.j1 k [a, b, c, d] x [a, b, c, d] 4 i true) false := Ev.step (fun k => impl_SyntaxRight.j1.eq_2 ..) (Ev.pos rfl (Ev.now _))
  refine Ev.bindc (within_eq _ _ _) (Ev.ite (fun w => ?_) (fun _ => hj))
  simp only [withinP, decide_eq_true_eq] at w
  refine Ev.pos (by simp; omega) (Ev.bind (contains_ev pre x (by rw [← hp]; simp; omega)) ?_)
  by_cases hc : pre.contains x = true
  · rw [hc]; exact hj
  · have hm0 : markP x = false := by
      rcases hm with h | h
      · exact h
      · exact absurd h hc
    rw [show pre.contains x = false from by simpa using hc]
    have hn : ¬ (33 ≤ x ∧ x ≤ 126 ∧ x ≠ 45 ∧ ¬ (65 ≤ x ∧ x ≤ 90) ∧ ¬ (97 ≤ x ∧ x ≤ 122) ∧ ¬ (48 ≤ x ∧ x ≤ 57)) := markP_not.1 hm0
    have e : x % 256 = x := by omega
    refine Ev.step (fun k => impl_SyntaxRight.j1.eq_2 ..) (Ev.neg (by simp) ?_)
    rw [e]
    refine Ev.bindc (isGreat_eq x) (Ev.ite (fun _ => Ev.now _) (fun g1 => ?_))
    simp only [great, decide_eq_true_eq] at g1
    refine Ev.ite (fun g2 => Ev.ite (fun _ => Ev.now _) (fun g3 => ?_)) (fun g2 => ?_)
    · refine Ev.bindc (isDigit_eq x) (Ev.ite (fun _ => Ev.now _) (fun g4 => Ev.ite (fun _ => Ev.now _) (fun g5 => ?_)))
      simp only [digit, decide_eq_true_eq] at g4
      exact absurd (show 33 ≤ x ∧ x ≤ 126 ∧ x ≠ 45 ∧ ¬ (65 ≤ x ∧ x ≤ 90) ∧ ¬ (97 ≤ x ∧ x ≤ 122) ∧ ¬ (48 ≤ x ∧ x ≤ 57) by omega) hn
    · refine Ev.bindc (isDigit_eq x) (Ev.ite (fun _ => Ev.now _) (fun g4 => Ev.ite (fun _ => Ev.now _) (fun g5 => ?_)))
      simp only [digit, decide_eq_true_eq] at g4
      exact absurd (show 33 ≤ x ∧ x ≤ 126 ∧ x ≠ 45 ∧ ¬ (65 ≤ x ∧ x ≤ 90) ∧ ¬ (97 ≤ x ∧ x ≤ 122) ∧ ¬ (48 ≤ x ∧ x ≤ 57) by omega) hn
theorem implSyntaxRight_ev : Ev (fun k => impl_SyntaxRight.f k a b c d) (synP a b c d) := by
  unfold impl_SyntaxRight.f
  refine Ev.bindc (show impl_Syntax_fields.f a b c d = some [a, b, c, d] from rfl) ?_
  show Ev (fun k => impl_SyntaxRight.l0 k [a, b, c, d] [a, b, c, d] 4 0) _
  have no_ : ∀ {g : Nat → Option Bool}, synP a b c d = false → Ev g false → Ev g (synP a b c d) := fun h e => by rw [h]; exact e
  by_cases m0 : markP a = true
  rotate_left
  · exact no_ (by simp [synP, m0]) (iA' a b c d 0 a [] (by omega) (by omega) rfl rfl (.inl (by simpa using m0)))
  refine iA a b c d 0 a [] (by omega) (by omega) rfl rfl m0 rfl ?_
  by_cases m1 : markP b = true ∧ a ≠ b
  rotate_left
  · exact no_ (by simp only [not_and, Decidable.not_not] at m1; simp only [synP, Bool.and_eq_false_iff, decide_eq_false_iff_not]; by_cases h : markP b = true <;> simp_all) (iA' a b c d 1 b [a] (by omega) (by omega) rfl rfl (by by_cases h : markP b = true <;> simp_all))
  refine iA a b c d 1 b [a] (by omega) (by omega) rfl rfl m1.1 (by simpa using fun h => m1.2 h.symm) ?_
  by_cases m2 : markP c = true ∧ a ≠ c ∧ b ≠ c
  rotate_left
  · exact no_ (by by_cases h : markP c = true <;> by_cases h1 : a = c <;> by_cases h2 : b = c <;> simp_all [synP]) (iA' a b c d 2 c [a, b] (by omega) (by omega) rfl rfl (by by_cases h : markP c = true <;> by_cases h1 : a = c <;> by_cases h2 : b = c <;> simp_all))
  refine iA a b c d 2 c [a, b] (by omega) (by omega) rfl rfl m2.1 (by simpa using ⟨fun h => m2.2.1 h.symm, fun h => m2.2.2 h.symm⟩) ?_
  by_cases m3 : markP d = true ∧ a ≠ d ∧ b ≠ d ∧ c ≠ d
  rotate_left
  · exact no_ (by by_cases h : markP d = true <;> by_cases h1 : a = d <;> by_cases h2 : b = d <;> by_cases h3 : c = d <;> simp_all [synP]) (iA' a b c d 3 d [a, b, c] (by omega) (by omega) rfl rfl (by by_cases h : markP d = true <;> by_cases h1 : a = d <;> by_cases h2 : b = d <;> by_cases h3 : c = d <;> simp_all))
  refine iA a b c d 3 d [a, b, c] (by omega) (by omega) rfl rfl m3.1 (by simpa using ⟨fun h => m3.2.1 h.symm, fun h => m3.2.2.1 h.symm, fun h => m3.2.2.2 h.symm⟩) ?_
  rw [synP_iff.2 ⟨m0, m1.1, m2.1, m3.1, m1.2, m2.2.1, m2.2.2, m3.2.1, m3.2.2.1, m3.2.2.2⟩]
  exact Ev.step (fun k => impl_SyntaxRight.l0.eq_2 ..) (Ev.neg (by omega) (Ev.now _))
end

theorem longText_loop (l : List ByteArray) (hl : (l.length : Int) ≤ 4611686018427387904) : ∀ (r : List ByteArray) (i : Nat), l.drop i = r → ∃ x : Int, Ev (fun k => slices_IndexFunc_string_string__impl_longText_1.l0 k l (l.length : Int) (i : Int)) x ∧ decide (x ≥ 0) = r.any (fun s => decide ((s.size : Int) > 20000)) := by
  intro r
  induction r with
  | nil =>
    intro i h
    have h0 := ldrop_nil h
    exact ⟨-1, Ev.step (fun k => slices_IndexFunc_string_string__impl_longText_1.l0.eq_2 ..) (Ev.neg (by omega) (Ev.now _)), by simp⟩
  | cons c r ih =>
    intro i h
    obtain ⟨h1, h2, h3⟩ := rdOf_cons ByteArray.empty h
    have hw : wrap64 ((i : Int) + 1) = ((i + 1 : Nat) : Int) := by rw [wrap_id (by omega) (by omega)]; omega
    obtain ⟨x, hx, he⟩ := ih (i + 1) h3
    by_cases hv : (c.size : Int) > 20000
    · refine ⟨i, Ev.step (fun k => slices_IndexFunc_string_string__impl_longText_1.l0.eq_2 ..) (Ev.pos h1 (Ev.pos (by omega) (Ev.pos h1 ?_))), by simp [hv]⟩
      rw [h2]
      exact Ev.bindc (show impl_longText_1.f c = some true from by simp [impl_longText_1.f, hv]) (Ev.pos rfl (Ev.now _))
    · refine ⟨x, Ev.step (fun k => slices_IndexFunc_string_string__impl_longText_1.l0.eq_2 ..) (Ev.pos h1 (Ev.pos (by omega) (Ev.pos h1 ?_))), by rw [he]; simp [hv]⟩
      rw [h2, hw]
      exact Ev.bindc (show impl_longText_1.f c = some false from by simp only [impl_longText_1.f, decide_eq_false hv]) (Ev.neg (by simp) hx)
theorem longText_any (l : List ByteArray) (hl : (l.length : Int) ≤ 4611686018427387904) : Ev (fun k => impl_longText.f k l) (l.any (fun s => decide ((s.size : Int) > 20000))) := by
  obtain ⟨x, h1, h2⟩ := longText_loop l hl l 0 rfl
  unfold impl_longText.f slices_ContainsFunc_string_string__impl_longText_1.f
  exact Ev.bind (Ev.bind (show Ev (fun k => slices_IndexFunc_string_string__impl_longText_1.f k l) x from h1) (Ev.now _)) (Ev.ret h2)
theorem longText_ev (s : ByteArray) : Ev (fun k => impl_longText.f k [s]) (decide ((s.size : Int) > 20000)) := (longText_any [s] (by simp)).to (by simp)

/-- A piece put ahead of the first of some pieces. -/
def hdP (v : List Int) : List (List Int) → List (List Int)
  | [] => [v]
  | h :: t => (v ++ h) :: t
/-- The pieces of a text between bytes that are not released. -/
def cutL (d m : Int) : List Int → List (List Int)
  | [] => [[]]
  | [x] => if x = d then [[x]] else if x = m then [[], []] else [[x]]
  | x :: y :: r => if x = d then hdP [x, y] (cutL d m r) else if x = m then [] :: cutL d m (y :: r) else hdP [x] (cutL d m (y :: r))
theorem hdP_ne (v : List Int) (L : List (List Int)) : hdP v L ≠ [] := by cases L <;> simp [hdP]
theorem cutL_ne (d m : Int) : ∀ l, cutL d m l ≠ []
  | [] => by simp [cutL]
  | [x] => by unfold cutL; split <;> (try split) <;> simp
  | x :: y :: r => by
    unfold cutL
    split
    · exact hdP_ne _ _
    · split
      · simp
      · exact hdP_ne _ _
theorem hdP_nil {L : List (List Int)} (h : L ≠ []) : hdP [] L = L := by
  cases L with
  | nil => exact absurd rfl h
  | cons a t => simp [hdP]
theorem hdP_hdP (u v : List Int) {L : List (List Int)} : hdP u (hdP v L) = hdP (u ++ v) L := by
  cases L <;> simp [hdP]
theorem cutL_rel (d m x y : Int) (r : List Int) (h : x = d) : cutL d m (x :: y :: r) = hdP [x, y] (cutL d m r) := by simp [cutL, h]
theorem cutL_by (d m x : Int) (r : List Int) (h : x ≠ d) (h2 : x = m) : cutL d m (x :: r) = [] :: cutL d m r := by
  cases r <;> simp [cutL, h, h2] <;> (intro e; exact absurd (h2.trans e) h)
theorem cutL_else (d m x : Int) (r : List Int) (h : x ≠ d) (h2 : x ≠ m) : cutL d m (x :: r) = hdP [x] (cutL d m r) := by
  cases r <;> simp [cutL, h, h2, hdP]
theorem seg_take (l : List Int) (f i : Nat) (x : Int) (r : List Int) (h : l.drop i = x :: r) (hf : f ≤ i) : (l.take (i + 1)).drop f = (l.take i).drop f ++ [x] := by
  have hl : i < l.length := by
    by_cases hl : i < l.length
    · exact hl
    · rw [List.drop_eq_nil_of_le (by omega)] at h; cases h
  have h1 := List.drop_eq_getElem_cons hl
  rw [h] at h1
  have hx : l[i] = x := (List.cons.inj h1).1.symm
  rw [List.take_succ_eq_append_getElem hl, List.drop_append_of_le_length (by simp; omega), hx]
theorem extract_eq (s : ByteArray) (f i : Nat) : s.extract f i = strOfNums (((bytesOf s).take i).drop f) := by
  apply bytesOf_inj
  rw [bytesOf_extract, bytesOf_strOf]
  intro c hc
  exact mem_bytesOf (List.mem_of_mem_take (List.mem_of_mem_drop hc))

theorem specCut_loop (a b c d m : Int) (s : ByteArray) (hs : s.size ≤ 1048576) : ∀ (n : Nat) (l : List Int) (i f : Nat) (acc : List ByteArray), l.length ≤ n → (bytesOf s).drop i = l → f ≤ i → f ≤ s.size → i ≤ s.size + 1 → acc.length ≤ i →
    Ev (fun k => spec_l01Cut.l0 k s m acc (f : Int) (i : Int) a b c d) (acc ++ (hdP (((bytesOf s).take i).drop f) (cutL d m l)).map strOfNums) := by
  have hend : ∀ (i f : Nat) (acc : List ByteArray), (bytesOf s).drop i = [] → f ≤ i → f ≤ s.size → i ≤ s.size + 1 → acc.length ≤ i → Ev (fun k => spec_l01Cut.l0 k s m acc (f : Int) (i : Int) a b c d) (acc ++ (hdP (((bytesOf s).take i).drop f) (cutL d m [])).map strOfNums) := by
    intro i f acc h hf hf' hi ha
    have h0 := drop_nil h
    refine Ev.step (fun k => spec_l01Cut.l0.eq_2 ..) (Ev.neg (by omega) (Ev.pos (by omega) (Ev.pos (by omega) (Ev.pos (by omega) (Ev.ret ?_)))))
    rw [Int.toNat_natCast, extract_eq]
    rw [List.take_of_length_le (by rw [length_bytesOf]; omega), List.take_of_length_le (by rw [length_bytesOf]; omega)]
    simp [hdP, cutL]
  intro n
  induction n using Nat.strongRecOn with
  | _ n ih =>
    intro l i f acc hn h hf hf' hi ha
    match l, h, hn with
    | [], h, hn => exact hend i f acc h hf hf' hi ha
    | x :: r, h, hn =>
      obtain ⟨h1, h2, h3, h4, h5⟩ := drop_cons h
      have hw : wrap64 ((i : Int) + 1) = ((i + 1 : Nat) : Int) := by rw [wrap_id (by omega) (by omega)]; omega
      have hw2 : wrap64 (((i + 1 : Nat) : Int) + 1) = ((i + 2 : Nat) : Int) := by rw [wrap_id (by omega) (by omega)]; omega
      simp only [List.length_cons] at hn
      refine Ev.step (fun k => spec_l01Cut.l0.eq_2 ..) ?_
      refine Ev.pos h1 ?_
      refine Ev.pos (Int.natCast_nonneg i) ?_
      rw [h2, wrap_id (x := x) (by omega) (by omega), hw, hw2]
      clear hw hw2
      have e1 := seg_take (bytesOf s) f i x r h hf
      refine Ev.ite (fun g1 => ?_) (fun g1 => Ev.ite (fun g2 => ?_) (fun g2 => ?_))
      · cases r with
        | nil =>
          have h6 : (bytesOf s).drop (i + 2) = [] := by
            have := drop_nil h3
            rw [List.drop_eq_nil_iff, length_bytesOf]; omega
          have h7 := hend (i + 2) f acc h6 (by omega) hf' (by omega) (by omega)
          refine h7.to ?_
          have e2 : (bytesOf s).take (i + 2) = (bytesOf s).take (i + 1) := by
            have := drop_nil h3
            rw [List.take_of_length_le (by rw [length_bytesOf]; omega), List.take_of_length_le (by rw [length_bytesOf]; omega)]
          rw [e2, e1]
          simp [cutL, g1, hdP]
        | cons y r' =>
          obtain ⟨g3, g4, g5, _, _⟩ := drop_cons h3
          simp only [List.length_cons] at hn
          have h7 := ih (n - 2) (by omega) r' (i + 2) f acc (by omega) g5 (by omega) hf' (by omega) (by omega)
          refine h7.to ?_
          have e2 := seg_take (bytesOf s) f (i + 1) y r' h3 (by omega)
          rw [e2, e1, cutL_rel d m x y r' g1, hdP_hdP]
          simp
      · refine Ev.pos (Int.natCast_nonneg f) ?_
        refine Ev.pos (show (f : Int) ≤ (i : Int) by omega) ?_
        refine Ev.pos (show (i : Int) ≤ (s.size : Int) by omega) ?_
        refine Ev.pos (show acc.length < 8796093022208 by omega) ?_
        have h7 := ih (n - 1) (by omega) r (i + 1) (i + 1) (acc ++ [s.extract (f : Int).toNat (i : Int).toNat]) (by omega) h3 (by omega) (by omega) (by omega) (by simp; omega)
        refine h7.to ?_
        rw [cutL_by d m x r g1 g2, Int.toNat_natCast, Int.toNat_natCast, extract_eq]
        have e3 : ((bytesOf s).take (i + 1)).drop (i + 1) = [] := by rw [List.drop_eq_nil_iff]; simp; omega
        rw [e3, hdP_nil (cutL_ne d m r)]
        simp [hdP]
      · have h7 := ih (n - 1) (by omega) r (i + 1) f acc (by omega) h3 (by omega) hf' (by omega) (by omega)
        refine h7.to ?_
        rw [e1, cutL_else d m x r g1 g2, hdP_hdP]
/-- The pieces of a text. -/
theorem specCut_ev (a b c d m : Int) (s : ByteArray) (hs : s.size ≤ 1048576) : Ev (fun k => spec_l01Cut.f k a b c d s m) ((cutL d m (bytesOf s)).map strOfNums) :=
  (specCut_loop a b c d m s hs _ _ 0 0 [] (Nat.le_refl _) rfl (by omega) (by omega) (by omega) (by simp)).to (by simp [hdP_nil (cutL_ne d m _)])

theorem implCut_loop (a b c d m : Int) (s : ByteArray) (hs : s.size ≤ 1048576) : ∀ (n : Nat) (l : List Int) (i f : Nat) (acc : List ByteArray), l.length ≤ n → (bytesOf s).drop i = l → f ≤ i → f ≤ s.size → i ≤ s.size + 1 → acc.length ≤ i →
    Ev (fun k => impl_Syntax_cut.l0 k s m acc (f : Int) (i : Int) a b c d) (acc ++ (hdP (((bytesOf s).take i).drop f) (cutL d m l)).map strOfNums) := by
  have hend : ∀ (i f : Nat) (acc : List ByteArray), (bytesOf s).drop i = [] → f ≤ i → f ≤ s.size → i ≤ s.size + 1 → acc.length ≤ i → Ev (fun k => impl_Syntax_cut.l0 k s m acc (f : Int) (i : Int) a b c d) (acc ++ (hdP (((bytesOf s).take i).drop f) (cutL d m [])).map strOfNums) := by
    intro i f acc h hf hf' hi ha
    have h0 := drop_nil h
    refine Ev.step (fun k => impl_Syntax_cut.l0.eq_2 ..) (Ev.neg (by omega) (Ev.pos (by omega) (Ev.pos (by omega) (Ev.pos (by omega) (Ev.ret ?_)))))
    rw [Int.toNat_natCast, extract_eq]
    rw [List.take_of_length_le (by rw [length_bytesOf]; omega), List.take_of_length_le (by rw [length_bytesOf]; omega)]
    simp [hdP, cutL]
  intro n
  induction n using Nat.strongRecOn with
  | _ n ih =>
    intro l i f acc hn h hf hf' hi ha
    match l, h, hn with
    | [], h, hn => exact hend i f acc h hf hf' hi ha
    | x :: r, h, hn =>
      obtain ⟨h1, h2, h3, h4, h5⟩ := drop_cons h
      have hw : wrap64 ((i : Int) + 1) = ((i + 1 : Nat) : Int) := by rw [wrap_id (by omega) (by omega)]; omega
      have hw2 : wrap64 (((i + 1 : Nat) : Int) + 1) = ((i + 2 : Nat) : Int) := by rw [wrap_id (by omega) (by omega)]; omega
      simp only [List.length_cons] at hn
      refine Ev.step (fun k => impl_Syntax_cut.l0.eq_2 ..) ?_
      refine Ev.pos h1 ?_
      refine Ev.pos (Int.natCast_nonneg i) ?_
      rw [h2, wrap_id (x := x) (by omega) (by omega), hw, hw2]
      clear hw hw2
      have e1 := seg_take (bytesOf s) f i x r h hf
      refine Ev.ite (fun g1 => ?_) (fun g1 => Ev.ite (fun g2 => ?_) (fun g2 => ?_))
      · cases r with
        | nil =>
          have h6 : (bytesOf s).drop (i + 2) = [] := by
            have := drop_nil h3
            rw [List.drop_eq_nil_iff, length_bytesOf]; omega
          have h7 := hend (i + 2) f acc h6 (by omega) hf' (by omega) (by omega)
          refine h7.to ?_
          have e2 : (bytesOf s).take (i + 2) = (bytesOf s).take (i + 1) := by
            have := drop_nil h3
            rw [List.take_of_length_le (by rw [length_bytesOf]; omega), List.take_of_length_le (by rw [length_bytesOf]; omega)]
          rw [e2, e1]
          simp [cutL, g1, hdP]
        | cons y r' =>
          obtain ⟨g3, g4, g5, _, _⟩ := drop_cons h3
          simp only [List.length_cons] at hn
          have h7 := ih (n - 2) (by omega) r' (i + 2) f acc (by omega) g5 (by omega) hf' (by omega) (by omega)
          refine h7.to ?_
          have e2 := seg_take (bytesOf s) f (i + 1) y r' h3 (by omega)
          rw [e2, e1, cutL_rel d m x y r' g1, hdP_hdP]
          simp
      · refine Ev.pos (Int.natCast_nonneg f) ?_
        refine Ev.pos (show (f : Int) ≤ (i : Int) by omega) ?_
        refine Ev.pos (show (i : Int) ≤ (s.size : Int) by omega) ?_
        refine Ev.pos (show acc.length < 8796093022208 by omega) ?_
        have h7 := ih (n - 1) (by omega) r (i + 1) (i + 1) (acc ++ [s.extract (f : Int).toNat (i : Int).toNat]) (by omega) h3 (by omega) (by omega) (by omega) (by simp; omega)
        refine h7.to ?_
        rw [cutL_by d m x r g1 g2, Int.toNat_natCast, Int.toNat_natCast, extract_eq]
        have e3 : ((bytesOf s).take (i + 1)).drop (i + 1) = [] := by rw [List.drop_eq_nil_iff]; simp; omega
        rw [e3, hdP_nil (cutL_ne d m r)]
        simp [hdP]
      · have h7 := ih (n - 1) (by omega) r (i + 1) f acc (by omega) h3 (by omega) hf' (by omega) (by omega)
        refine h7.to ?_
        rw [e1, cutL_else d m x r g1 g2, hdP_hdP]
/-- The pieces of a text. -/
theorem implCut_ev (a b c d m : Int) (s : ByteArray) (hs : s.size ≤ 1048576) : Ev (fun k => impl_Syntax_cut.f k a b c d s m) ((cutL d m (bytesOf s)).map strOfNums) :=
  (implCut_loop a b c d m s hs _ _ 0 0 [] (Nat.le_refl _) rfl (by omega) (by omega) (by omega) (by simp)).to (by simp [hdP_nil (cutL_ne d m _)])

/-! what the draws give -/
theorem u64_id {x : Int} (h0 : 0 ≤ x) (h1 : x < 18446744073709551616) : IntKind.u64.wrap x = x := by
  unfold IntKind.wrap
  simp [IntKind.bits, IntKind.signed]
  omega
theorem u64_ge (x : Int) : 0 ≤ IntKind.u64.wrap x := by
  unfold IntKind.wrap
  simp [IntKind.bits, IntKind.signed]
  omega
theorem u64_mod (x : Int) {m : Int} (h0 : 2 ≤ m) (h1 : m ≤ 9223372036854775807) : 0 ≤ wrap64 (Int.tmod (IntKind.u64.wrap x) (IntKind.u64.wrap m)) ∧ wrap64 (Int.tmod (IntKind.u64.wrap x) (IntKind.u64.wrap m)) < m := by
  rw [u64_id (x := m) (by omega) (by omega)]
  have h := u64_ge x
  generalize IntKind.u64.wrap x = y at h
  rw [Int.tmod_eq_emod_of_nonneg h]
  have h2 := Int.emod_nonneg y (show m ≠ 0 by omega)
  have h3 := Int.emod_lt_of_pos y (show 0 < m by omega)
  rw [wrap_id (by omega) (by omega)]
  exact ⟨h2, h3⟩
theorem src_n (b : List Int) (p mix size m : Int) (hb : b.length ≤ 1048576) (h0 : 0 ≤ p) (h1 : p ≤ (b.length : Int)) (hm : 2 ≤ m) (hm2 : m ≤ 9223372036854775807) : ∃ r p' mix', spec_l01Src_n.f b p mix size m = some (r, p', mix', size) ∧ 0 ≤ p' ∧ p' ≤ (b.length : Int) ∧ 0 ≤ r ∧ r < m := by
  unfold spec_l01Src_n.f
  have hne : ¬ IntKind.u64.wrap m = 0 := by rw [u64_id (by omega) (by omega)]; omega
  rw [if_neg (by omega)]
  by_cases h : p < (b.length : Int)
  · rw [if_pos h, if_pos h0, if_neg hne]
    have hw : wrap64 (p + 1) = p + 1 := wrap_id (by omega) (by omega)
    rw [hw]
    exact ⟨_, _, _, rfl, by omega, by omega, (u64_mod _ hm hm2).1, (u64_mod _ hm hm2).2⟩
  · rw [if_neg h, if_neg hne]
    exact ⟨_, _, _, rfl, by omega, by omega, (u64_mod _ hm hm2).1, (u64_mod _ hm hm2).2⟩
theorem src_one (b : List Int) (p mix size m : Int) (hb : b.length ≤ 1048576) (h0 : 0 ≤ p) (h1 : p ≤ (b.length : Int)) (hm : 2 ≤ m) (hm2 : m ≤ 9223372036854775807) : ∃ r p' mix', spec_l01Src_one.f b p mix size m = some (r, p', mix', size) ∧ 0 ≤ p' ∧ p' ≤ (b.length : Int) := by
  obtain ⟨r, p', mix', h, h2, h3, _, _⟩ := src_n b p mix size m hb h0 h1 hm hm2
  unfold spec_l01Src_one.f
  rw [h]
  exact ⟨_, _, _, rfl, h2, h3⟩
theorem source_loop (L : List Int) (hl : L.length ≤ 1048576) : ∀ (d i : Nat) (mix : Int), 64 - i = d → i ≤ 64 → ∃ mix' size', Ev (fun k => spec_l01Source.l0 k L (i : Int) L 0 mix 0) (L, 0, mix', size')
  | 0, i, mix, hd, hi => by
    by_cases h : (i : Int) < (L.length : Int)
    · by_cases g : wrap64 ((L.length : Int) / 20) > 12
      · exact ⟨_, _, Ev.step (fun k => spec_l01Source.l0.eq_2 ..) (Ev.pos h (Ev.neg (by omega) (Ev.pos g (Ev.now _))))⟩
      · exact ⟨_, _, Ev.step (fun k => spec_l01Source.l0.eq_2 ..) (Ev.pos h (Ev.neg (by omega) (Ev.neg g (Ev.now _))))⟩
    · by_cases g : wrap64 ((L.length : Int) / 20) > 12
      · exact ⟨_, _, Ev.step (fun k => spec_l01Source.l0.eq_2 ..) (Ev.neg h (Ev.pos g (Ev.now _)))⟩
      · exact ⟨_, _, Ev.step (fun k => spec_l01Source.l0.eq_2 ..) (Ev.neg h (Ev.neg g (Ev.now _)))⟩
  | d + 1, i, mix, hd, hi => by
    by_cases h : (i : Int) < (L.length : Int)
    · have hw : wrap64 ((i : Int) + 1) = ((i + 1 : Nat) : Int) := by rw [wrap_id (by omega) (by omega)]; omega
      obtain ⟨m', s', e⟩ := source_loop L hl d (i + 1) (IntKind.u64.wrap ((Go.bits .xor .u64 mix (IntKind.u64.wrap (rd L (i : Int)))) * 1099511628211)) (by omega) (by omega)
      rw [← hw] at e
      exact ⟨m', s', Ev.step (fun k => spec_l01Source.l0.eq_2 ..) (Ev.pos h (Ev.pos (by omega) (Ev.pos (by omega) e)))⟩
    · by_cases g : wrap64 ((L.length : Int) / 20) > 12
      · exact ⟨_, _, Ev.step (fun k => spec_l01Source.l0.eq_2 ..) (Ev.neg h (Ev.pos g (Ev.now _)))⟩
      · exact ⟨_, _, Ev.step (fun k => spec_l01Source.l0.eq_2 ..) (Ev.neg h (Ev.neg g (Ev.now _)))⟩
theorem source_ev (L : List Int) (hl : L.length ≤ 1048576) : ∃ mix size, Ev (fun k => spec_l01Source.f k L) (L, 0, mix, size) :=
  source_loop L hl 64 0 _ rfl (by omega)
theorem src_edge (b : List Int) (p mix size : Int) (hb : b.length ≤ 1048576) (h0 : 0 ≤ p) (h1 : p ≤ (b.length : Int)) : ∃ r p' mix', spec_l01Src_edge.f b p mix size = some (r, p', mix', size) ∧ 0 ≤ p' ∧ p' ≤ (b.length : Int) := by
  obtain ⟨r, p', mix', h, h2, h3, h4, h5⟩ := src_n b p mix size 14 hb h0 h1 (by omega) (by omega)
  unfold spec_l01Src_edge.f
  simp only [Option.bind_some, h]
  rw [if_pos h4, if_pos (by simp; omega)]
  exact ⟨_, _, _, rfl, h2, h3⟩
theorem syntax_j0 (b : List Int) (p mix size x0 x1 x2 x3 : Int) (hb : b.length ≤ 1048576) (h0 : 0 ≤ p) (h1 : p ≤ (b.length : Int)) : ∃ y0 y1 y2 y3 p' mix', Ev (fun k => spec_l01Src_syntax.j0 k b p mix size x0 x1 x2 x3) (y0, y1, y2, y3, p', mix', size) ∧ 0 ≤ p' ∧ p' ≤ (b.length : Int) := by
  obtain ⟨r1, p1, m1, e1, a1, b1⟩ := src_one b p mix size 30 hb h0 h1 (by omega) (by omega)
  cases r1 with
  | false => exact ⟨_, _, _, _, _, _, Ev.step (fun k => spec_l01Src_syntax.j0.eq_2 ..) (Ev.bindc e1 (Ev.neg (by simp) (Ev.now _))), a1, b1⟩
  | true =>
    obtain ⟨r2, p2, m2, e2, a2, b2, c2, d2⟩ := src_n b p1 m1 size 3 hb a1 b1 (by omega) (by omega)
    by_cases g0 : r2 = 0
    · exact ⟨_, _, _, _, _, _, Ev.step (fun k => spec_l01Src_syntax.j0.eq_2 ..) (Ev.bindc e1 (Ev.pos rfl (Ev.bindc e2 (Ev.pos g0 (Ev.now _))))), a2, b2⟩
    · by_cases g1 : r2 = 1
      · obtain ⟨r3, p3, m3, e3, a3, b3, c3, d3⟩ := src_n b p2 m2 size 6 hb a2 b2 (by omega) (by omega)
        exact ⟨_, _, _, _, _, _, Ev.step (fun k => spec_l01Src_syntax.j0.eq_2 ..) (Ev.bindc e1 (Ev.pos rfl (Ev.bindc e2 (Ev.neg g0 (Ev.pos g1 (Ev.bindc rfl (Ev.bindc e3 (Ev.pos c3 (Ev.pos (show r3 < (([32, 127, 65, 48, 45, 300] : List Int).length : Int) by simp; omega) (Ev.now _)))))))))), a3, b3⟩
      · obtain ⟨r3, p3, m3, e3, a3, b3⟩ := src_edge b p2 m2 size hb a2 b2
        exact ⟨_, _, _, _, _, _, Ev.step (fun k => spec_l01Src_syntax.j0.eq_2 ..) (Ev.bindc e1 (Ev.pos rfl (Ev.bindc e2 (Ev.neg g0 (Ev.neg g1 (Ev.bindc e3 (Ev.now _))))))), a3, b3⟩
theorem syntax_draw (b : List Int) (p mix size : Int) (hb : b.length ≤ 1048576) (h0 : 0 ≤ p) (h1 : p ≤ (b.length : Int)) : ∃ y0 y1 y2 y3 p' mix', Ev (fun k => spec_l01Src_syntax.f k b p mix size) (y0, y1, y2, y3, p', mix', size) ∧ 0 ≤ p' ∧ p' ≤ (b.length : Int) := by
  unfold spec_l01Src_syntax.f
  obtain ⟨r1, p1, m1, e1, a1, b1⟩ := src_one b p mix size 4 hb h0 h1 (by omega) (by omega)
  cases r1 with
  | false =>
    obtain ⟨y0, y1, y2, y3, p2, m2, e2, a2, b2⟩ := syntax_j0 b p1 m1 size 39 43 58 63 hb a1 b1
    exact ⟨_, _, _, _, _, _, Ev.bindc (show spec_l01Plain.f = some (39, 43, 58, 63) from rfl) (Ev.bindc e1 (Ev.neg (by simp) e2)), a2, b2⟩
  | true =>
    obtain ⟨r2, p2, m2, e2, a2, b2, c2, d2⟩ := src_n b p1 m1 size 9 hb a1 b1 (by omega) (by omega)
    have w1 : wrap64 (r2 + 1) = r2 + 1 := wrap_id (by omega) (by omega)
    have w2 : wrap64 (r2 + 2) = r2 + 2 := wrap_id (by omega) (by omega)
    have w3 : wrap64 (r2 + 3) = r2 + 3 := wrap_id (by omega) (by omega)
    obtain ⟨y0, y1, y2, y3, p3, m3, e3, a3, b3⟩ := syntax_j0 b p2 m2 size (rd [33, 35, 36, 37, 38, 42, 47, 61, 64, 94, 124, 126] r2) (rd [33, 35, 36, 37, 38, 42, 47, 61, 64, 94, 124, 126] (wrap64 (r2 + 1))) (rd [33, 35, 36, 37, 38, 42, 47, 61, 64, 94, 124, 126] (wrap64 (r2 + 2))) (rd [33, 35, 36, 37, 38, 42, 47, 61, 64, 94, 124, 126] (wrap64 (r2 + 3))) hb a2 b2
    have l12 : (([33, 35, 36, 37, 38, 42, 47, 61, 64, 94, 124, 126] : List Int).length : Int) = 12 := rfl
    exact ⟨_, _, _, _, _, _, Ev.bindc (show spec_l01Plain.f = some (39, 43, 58, 63) from rfl) (Ev.bindc e1 (Ev.pos rfl (Ev.bindc rfl (Ev.bindc e2 (Ev.pos c2 (Ev.pos (by rw [l12]; omega) (Ev.pos (by rw [w1]; omega) (Ev.pos (by rw [w1, l12]; omega) (Ev.pos (by rw [w2]; omega) (Ev.pos (by rw [w2, l12]; omega) (Ev.pos (by rw [w3]; omega) (Ev.pos (by rw [w3, l12]; omega) e3)))))))))))), a3, b3⟩

/-! words that are drawn -/
theorem words_loop (b : List Int) (size a0 a1 a2 a3 : Int) (hb : b.length ≤ 1048576) : ∀ (n : Nat) (p mix : Int) (acc : List Int), 0 ≤ p → p ≤ (b.length : Int) → acc.length + n ≤ 1000 → ∃ s p' mix', Ev (fun k => spec_l01Src_words.l0 k (n : Int) acc b p mix size a0 a1 a2 a3) (s, p', mix', size) ∧ s.size = acc.length + n ∧ 0 ≤ p' ∧ p' ≤ (b.length : Int)
  | 0, p, mix, acc, h0, h1, hn => ⟨_, _, _, Ev.step (fun k => spec_l01Src_words.l0.eq_2 ..) (Ev.neg (by omega) (Ev.now _)), by rw [size_strOf]; rfl, h0, h1⟩
  | n + 1, p, mix, acc, h0, h1, hn => by
    obtain ⟨r, p1, m1, e1, q0, q1, q2, q3⟩ := src_n b p mix size 6 hb h0 h1 (by omega) (by omega)
    have hw : wrap64 (((n + 1 : Nat) : Int) - 1) = (n : Int) := by rw [wrap_id (by omega) (by omega)]; omega
    have stp : ∀ (c p2 m2 : Int), 0 ≤ p2 → p2 ≤ (b.length : Int) → ∃ s p' mix', Ev (fun k => if acc.length < 140737488355328 then (spec_l01Src_words.l0 k (wrap64 (((n + 1 : Nat) : Int) - 1)) (acc ++ [c]) b p2 m2 size a0 a1 a2 a3) else none) (s, p', mix', size) ∧ s.size = acc.length + (n + 1) ∧ 0 ≤ p' ∧ p' ≤ (b.length : Int) := by
      intro c p2 m2 g0 g1
      obtain ⟨s, p', m', e, f1, f2, f3⟩ := words_loop b size a0 a1 a2 a3 hb n p2 m2 (acc ++ [c]) g0 g1 (by simp; omega)
      rw [hw]
      exact ⟨s, p', m', Ev.pos (by omega) e, by rw [f1]; simp; omega, f2, f3⟩
    by_cases g0 : r = 0
    · obtain ⟨s, p', m', e, f⟩ := stp (a0 % 256) p1 m1 q0 q1
      exact ⟨s, p', m', Ev.step (fun k => spec_l01Src_words.l0.eq_2 ..) (Ev.pos (by omega) (Ev.bindc e1 (Ev.pos g0 e))), f⟩
    by_cases g1 : r = 1
    · obtain ⟨s, p', m', e, f⟩ := stp (a1 % 256) p1 m1 q0 q1
      exact ⟨s, p', m', Ev.step (fun k => spec_l01Src_words.l0.eq_2 ..) (Ev.pos (by omega) (Ev.bindc e1 (Ev.neg g0 (Ev.pos g1 e)))), f⟩
    by_cases g2 : r = 2
    · obtain ⟨s, p', m', e, f⟩ := stp (a2 % 256) p1 m1 q0 q1
      exact ⟨s, p', m', Ev.step (fun k => spec_l01Src_words.l0.eq_2 ..) (Ev.pos (by omega) (Ev.bindc e1 (Ev.neg g0 (Ev.neg g1 (Ev.pos g2 e))))), f⟩
    by_cases g3 : r = 3
    · obtain ⟨s, p', m', e, f⟩ := stp (a3 % 256) p1 m1 q0 q1
      exact ⟨s, p', m', Ev.step (fun k => spec_l01Src_words.l0.eq_2 ..) (Ev.pos (by omega) (Ev.bindc e1 (Ev.neg g0 (Ev.neg g1 (Ev.neg g2 (Ev.pos g3 e)))))), f⟩
    obtain ⟨r2, p2, m2, e2, s0, s1, s2, s3⟩ := src_n b p1 m1 size 6 hb q0 q1 (by omega) (by omega)
    obtain ⟨s, p', m', e, f⟩ := stp (bt (⟨#[65, 66, 99, 32, 49, 45]⟩ : ByteArray) r2) p2 m2 s0 s1
    exact ⟨s, p', m', Ev.step (fun k => spec_l01Src_words.l0.eq_2 ..) (Ev.pos (by omega) (Ev.bindc e1 (Ev.neg g0 (Ev.neg g1 (Ev.neg g2 (Ev.neg g3 (Ev.bindc e2 (Ev.pos s2 (Ev.pos s3 e))))))))), f⟩
theorem words_ev (b : List Int) (p mix size a0 a1 a2 a3 n : Int) (hb : b.length ≤ 1048576) (h0 : 0 ≤ p) (h1 : p ≤ (b.length : Int)) (hn : 0 ≤ n) (hn2 : n ≤ 100) : ∃ s p' mix', Ev (fun k => spec_l01Src_words.f k b p mix size a0 a1 a2 a3 n) (s, p', mix', size) ∧ (s.size : Int) = n ∧ 0 ≤ p' ∧ p' ≤ (b.length : Int) := by
  obtain ⟨m, rfl⟩ := Int.eq_ofNat_of_zero_le hn
  obtain ⟨s, p', m', e, f1, f2, f3⟩ := words_loop b size a0 a1 a2 a3 hb m p mix [] h0 h1 (by simp; omega)
  exact ⟨s, p', m', e, by rw [f1]; simp, f2, f3⟩

/-- Pieces put together again, a mark between them. -/
def joinL (m : Int) : Bool → List (List Int) → List Int
  | _, [] => []
  | f, h :: t => (if f then [] else [m]) ++ (h ++ joinL m false t)
theorem joinL_hdP (m : Int) (v : List Int) : ∀ L : List (List Int), joinL m true (hdP v L) = v ++ joinL m true L
  | [] => by simp [hdP, joinL]
  | h :: t => by simp [hdP, joinL]
theorem joinL_false (m : Int) : ∀ L : List (List Int), L ≠ [] → joinL m false L = m :: joinL m true L
  | [], h => absurd rfl h
  | h :: t, _ => by simp [joinL]
theorem joinL_cut (d m : Int) : ∀ (n : Nat) (l : List Int), l.length ≤ n → joinL m true (cutL d m l) = l := by
  intro n
  induction n using Nat.strongRecOn with
  | _ n ih =>
    intro l hl
    match l, hl with
    | [], _ => simp [cutL, joinL]
    | [x], _ =>
      unfold cutL
      split
      · simp [joinL]
      · split
        · rename_i h; simp [joinL, h]
        · simp [joinL]
    | x :: y :: r, hl =>
      simp only [List.length_cons] at hl
      unfold cutL
      split
      · rw [joinL_hdP, ih (n - 2) (by omega) r (by omega)]; rfl
      · split
        · rename_i h
          have := ih (n - 1) (by omega) (y :: r) (by simp; omega)
          rw [joinL, joinL_false m _ (cutL_ne d m _), this, h]
          rfl
        · rw [joinL_hdP, ih (n - 1) (by omega) (y :: r) (by simp; omega)]; rfl
theorem joinL_mem (m : Int) {c : Int} {p : List Int} (hc : c ∈ p) : ∀ (L : List (List Int)) (f : Bool), p ∈ L → c ∈ joinL m f L
  | h :: t, f, hp => by
    unfold joinL
    rcases List.mem_cons.1 hp with e | e
    · subst e; simp [hc]
    · have := joinL_mem m hc t false e
      simp [this]
theorem join_loop (s : ByteArray) (m : Int) (P : List ByteArray) (hs : s.size ≤ 1048576) (hm : m % 256 = m) (hP : P.length ≤ 1048577) : ∀ (r : List ByteArray) (i : Nat) (acc : List Int), P.drop i = r → acc ++ joinL m (decide (i = 0)) (r.map bytesOf) = bytesOf s → Ev (fun k => laws_FnPieces.l0 k s m P acc (i : Int)) true := by
  intro r
  induction r with
  | nil =>
    intro i acc h hj
    have h0 := ldrop_nil h
    refine Ev.step (fun k => laws_FnPieces.l0.eq_2 ..) (Ev.neg (by omega) (Ev.ret ?_))
    simp only [List.map_nil, joinL, List.append_nil] at hj
    rw [hj, strOf_bytesOf]
    simp
  | cons e r ih =>
    intro i acc h hj
    obtain ⟨h1, h2, h3⟩ := rdOf_cons ByteArray.empty h
    have hw : wrap64 ((i : Int) + 1) = ((i + 1 : Nat) : Int) := by rw [wrap_id (by omega) (by omega)]; omega
    have hlen := congrArg List.length hj
    rw [length_bytesOf] at hlen
    simp only [List.map_cons, joinL, List.length_append, length_bytesOf] at hlen
    simp only [List.map_cons, joinL] at hj
    refine Ev.step (fun k => laws_FnPieces.l0.eq_2 ..) (Ev.pos h1 ?_)
    rw [h2, hw]
    by_cases hi : (i : Int) > 0
    · have hf : decide (i = 0) = false := by simp; omega
      rw [hf] at hj hlen
      simp only [Bool.false_eq_true, if_false, List.length_cons, List.length_nil] at hj hlen
      refine Ev.pos hi (Ev.pos (by omega) (Ev.bindc rfl (Ev.pos (by omega) (Ev.pos (by simp; omega) ?_))))
      rw [hm]
      refine ih (i + 1) _ h3 ?_
      rw [← hj]
      simp
    · have hf : decide (i = 0) = true := by simp; omega
      rw [hf] at hj hlen
      simp only [if_true, List.length_nil, List.nil_append] at hj hlen
      refine Ev.neg hi (Ev.pos (by omega) (Ev.pos (by omega) ?_))
      refine ih (i + 1) _ h3 ?_
      rw [← hj]
      simp
theorem cutAt_is (a b c d : Int) (s : ByteArray) (m : Int) (hs : s.size ≤ 1048576) : ∃ r : List ByteArray, Ev (fun k => spec_CutAt.f k a b c d s m) r ∧ Ev (fun k => impl_CutAt.f k a b c d s m) r ∧ (r = [] ∨ (synP a b c d = true ∧ (m = a ∨ m = b ∨ m = c) ∧ r = (cutL d m (bytesOf s)).map strOfNums)) := by
  have e1 := specCut_ev a b c d m s hs
  have e2 := implCut_ev a b c d m s hs
  unfold spec_CutAt.f impl_CutAt.f
  by_cases hl : (s.size : Int) > 20000
  · exact ⟨[], Ev.pos hl (Ev.now _), Ev.bind (longText_ev s) (Ev.pos (by simpa using hl) (Ev.now _)), .inl rfl⟩
  · by_cases hr : synP a b c d = true
    · by_cases hm : m = a ∨ m = b ∨ m = c
      · exact ⟨_, Ev.neg hl (Ev.bind (specSyntaxRight_ev a b c d) (Ev.pos hr (Ev.ite (fun _ => Ev.bind e1 (Ev.now _)) (fun g1 => Ev.ite (fun _ => Ev.bind e1 (Ev.now _)) (fun g2 => Ev.ite (fun _ => Ev.bind e1 (Ev.now _)) (fun g3 => absurd hm (by omega))))))), Ev.bind (longText_ev s) (Ev.neg (by simpa using hl) (Ev.bind (implSyntaxRight_ev a b c d) (Ev.pos hr (Ev.ite (fun _ => Ev.bind e2 (Ev.now _)) (fun g1 => Ev.ite (fun _ => Ev.bind e2 (Ev.now _)) (fun g2 => Ev.ite (fun _ => Ev.bind e2 (Ev.now _)) (fun g3 => absurd hm (by omega)))))))), .inr ⟨hr, hm, rfl⟩⟩
      · exact ⟨[], Ev.neg hl (Ev.bind (specSyntaxRight_ev a b c d) (Ev.pos hr (Ev.neg (by omega) (Ev.neg (by omega) (Ev.neg (by omega) (Ev.now _)))))), Ev.bind (longText_ev s) (Ev.neg (by simpa using hl) (Ev.bind (implSyntaxRight_ev a b c d) (Ev.pos hr (Ev.neg (by omega) (Ev.neg (by omega) (Ev.neg (by omega) (Ev.now _))))))), .inl rfl⟩
    · exact ⟨[], Ev.neg hl (Ev.bind (specSyntaxRight_ev a b c d) (Ev.neg hr (Ev.now _))), Ev.bind (longText_ev s) (Ev.neg (by simpa using hl) (Ev.bind (implSyntaxRight_ev a b c d) (Ev.neg hr (Ev.now _)))), .inl rfl⟩
theorem drawCutAt_ev (L : List Int) (hb : L.length ≤ 1048576) : ∃ a b c d s m, Ev (fun k => spec_DrawCutAt.f k L) (a, b, c, d, s, m) ∧ (s.size : Int) ≤ 24 := by
  obtain ⟨mix, size, e0⟩ := source_ev L hb
  obtain ⟨a, b, c, d, p, mx, e1, g0, g1⟩ := syntax_draw L 0 mix size hb (by omega) (by omega)
  obtain ⟨n, p2, m2, e2, h0, h1, h2, h3⟩ := src_n L p mx size 24 hb g0 g1 (by omega) (by omega)
  obtain ⟨s, p3, m3, e3, hs, i0, i1⟩ := words_ev L p2 m2 size a b c d n hb h0 h1 h2 (by omega)
  obtain ⟨r, p4, m4, e4, j0, j1, j2, j3⟩ := src_n L p3 m3 size 5 hb i0 i1 (by omega) (by omega)
  refine ⟨a, b, c, d, s, rd [a, b, c, b, d] r, ?_, by omega⟩
  unfold spec_DrawCutAt.f
  exact Ev.bind e0 (Ev.bind e1 (Ev.bindc e2 (Ev.bind e3 (Ev.bindc rfl (Ev.bindc e4 (Ev.pos j2 (Ev.pos (show r < (([a, b, c, b, d] : List Int).length : Int) by simp; omega) (Ev.now _))))))))
theorem FnPieces : laws_FnPieces.Pure := by
  intro L hl _ _
  refine Ev.rounds (g := fun k => laws_FnPieces.f k L) ?_
  unfold laws_FnPieces.f
  refine Ev.ite (fun _ => Ev.now _) (fun hl2 => ?_)
  have hb : L.length ≤ 1048576 := by omega
  obtain ⟨a, b, c, d, s, m, e0, hs⟩ := drawCutAt_ev L hb
  obtain ⟨r, e1, e2, hr⟩ := cutAt_is a b c d s m (by omega)
  refine Ev.bind e0 (Ev.bind e1 (Ev.bind e2 (Ev.pos rfl ?_)))
  rcases hr with hr | ⟨hr, hm, he⟩
  · subst hr
    exact Ev.pos rfl (Ev.now _)
  · refine Ev.ite (fun _ => Ev.now _) (fun _ => ?_)
    obtain ⟨ma, mb, mc, md, _⟩ := synP_iff.1 hr
    have ra := markP_iff.1 ma
    have rb := markP_iff.1 mb
    have rc := markP_iff.1 mc
    have hm2 : 33 ≤ m ∧ m ≤ 126 := by
      rcases hm with h | h | h
      · rw [h]; exact ⟨ra.1, ra.2.1⟩
      · rw [h]; exact ⟨rb.1, rb.2.1⟩
      · rw [h]; exact ⟨rc.1, rc.2.1⟩
    have hmm : m % 256 = m := Int.emod_eq_of_lt (Int.le_trans (by decide) hm2.1) (Int.lt_of_le_of_lt hm2.2 (by decide))
    clear ra rb rc ma mb mc md hm hm2
    have hcut := joinL_cut d m _ (bytesOf s) (Nat.le_refl _)
    have hmap : r.map bytesOf = cutL d m (bytesOf s) := by
      rw [he, List.map_map]
      have : ∀ p ∈ cutL d m (bytesOf s), (bytesOf ∘ strOfNums) p = p := by
        intro p hp
        exact bytesOf_strOf p (fun x hx => mem_bytesOf (by rw [← hcut]; exact joinL_mem m hx _ true hp))
      rw [List.map_congr_left this]
      exact List.map_id' _
    have hlen : r.length ≤ 1048577 := by
      have h1 : ∀ (n : Nat) (L : List (List Int)) (f : Bool), L.length ≤ (joinL m f L).length + 1 := by
        intro n L
        induction L with
        | nil => intro f; simp
        | cons h t ih =>
          intro f
          cases t with
          | nil => simp [joinL]
          | cons h2 t2 =>
            have := ih false
            have e : (joinL m false (h2 :: t2)).length ≥ 1 := by simp [joinL]
            have h3 : (h2 :: t2).length ≤ (joinL m false (h2 :: t2)).length := by
              have hx : ∀ (T : List (List Int)), T.length ≤ (joinL m false T).length := by
                intro T
                induction T with
                | nil => simp
                | cons q T ih2 => simp [joinL]; omega
              exact hx _
            simp only [joinL, List.length_append, List.length_cons] at *
            omega
      have h2 := h1 0 (cutL d m (bytesOf s)) true
      rw [hcut, length_bytesOf] at h2
      have h3 : r.length = (cutL d m (bytesOf s)).length := by rw [he, List.length_map]
      omega
    exact join_loop s m r (by omega) hmm hlen r 0 [] rfl (by rw [hmap, ← hcut]; simp [hcut])

end Go.Proofs.Ytchoalagkcdbhaa.Pure
