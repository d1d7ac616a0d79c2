/- The law FnExactTagOf as a statement over numbers and lists alone: the two TagOfs tell the same.
Conditions: none. -/
import Derived.Test.YtkmpfgpamlfldaaPFnExactTagOfx
import Derived.Test.YtkmpfgpamlfldaaPl
namespace Go.Proofs.Ytkmpfgpamlfldaa.Pure
open Go.RowKit Go.Proofs.Ytkmpfgpamlfldaa.PFnExactTagOf Go.Proofs.YtkmpfgpamlfldaaW.PrintWords Go.Proofs.YtkmpfgpamlfldaaW.PrintLast Go.Proofs.YtkmpfgpamlfldaaW.PrintMore Go.Proofs.YtkmpfgpamlfldaaW.Pl
set_option linter.unusedVariables false
set_option linter.unusedSimpArgs false

theorem within_eq (a b c : Int) : impl_within.f a b c = some (withinP a b c) := by
  unfold impl_within.f withinP
  split
  · congr 1; simp only [decide_eq_decide]; omega
  · congr 1; symm; simp only [decide_eq_false_iff_not]; omega

theorem tables_at (n : Int) (h : n = 1 ∨ n = 2 ∨ n = 3 ∨ n = 4 ∨ n = 5 ∨ n = 6 ∨ n = 7) : (∀ m, spec_TableOf.f (m + 1) n = some ((spec_TableOf.f 1 n).getD [])) ∧ (∀ m, impl_tableOf.f (m + 1) n = some ((spec_TableOf.f 1 n).getD [])) ∧ ((spec_TableOf.f 1 n).getD []).length ≤ 3 := by
  rcases h with rfl | rfl | rfl | rfl | rfl | rfl | rfl <;> exact ⟨fun m => rfl, fun m => rfl, by decide⟩
theorem tables (n : Int) : ∃ L, Ev (fun k => spec_TableOf.f k n) L ∧ Ev (fun k => impl_tableOf.f k n) L ∧ L.length ≤ 3 := by
  by_cases h : n = 1 ∨ n = 2 ∨ n = 3 ∨ n = 4 ∨ n = 5 ∨ n = 6 ∨ n = 7
  · obtain ⟨h1, h2, h3⟩ := tables_at n h
    refine ⟨_, ⟨1, fun k hk => ?_⟩, ⟨1, fun k hk => ?_⟩, h3⟩
    · obtain ⟨m, rfl⟩ : ∃ m, k = m + 1 := ⟨k - 1, by omega⟩
      exact h1 m
    · obtain ⟨m, rfl⟩ : ∃ m, k = m + 1 := ⟨k - 1, by omega⟩
      exact h2 m
  · have e4 : (n == 4) = false := beq_eq_false_iff_ne.2 (by omega)
    refine ⟨[], ?_, ?_, by simp⟩
    · unfold spec_TableOf.f
      refine Ev.neg (by omega) (Ev.neg (by omega) (Ev.step (fun k => spec_TableOf.j0.eq_2 ..) ?_))
      exact Ev.neg (by simp [e4]) (Ev.neg (by omega) (Ev.neg (by omega) (Ev.neg (by omega) (Ev.neg (by omega) (Ev.now _)))))
    · unfold impl_tableOf.f
      refine Ev.neg (by omega) (Ev.neg (by omega) (Ev.step (fun k => impl_tableOf.j0.eq_2 ..) ?_))
      exact Ev.neg (by simp [e4]) (Ev.neg (by omega) (Ev.neg (by omega) (Ev.neg (by omega) (Ev.neg (by omega) (Ev.now _)))))

theorem FnExactTagOf : laws_FnExactTagOf.Pure := by
  intro n i hn hi
  obtain ⟨L, h1, h2, hl⟩ := tables n
  refine Ev.rounds (g := fun k => laws_FnExactTagOf.f k n i) ?_
  unfold laws_FnExactTagOf.f spec_TagOf.f impl_TagOf.f
  have hi' := i64_of hi
  have hw : wrap64 ((L.length : Int) - 1) = (L.length : Int) - 1 := wrap_id (by omega) (by omega)
  by_cases hr : 0 ≤ i ∧ i < (L.length : Int)
  · have s1 : Ev (fun k => (spec_TableOf.f k n).bind fun t125 => (if i < 0 then (some (⟨#[]⟩ : ByteArray)) else (if i ≥ (t125.length : Int) then (some (⟨#[]⟩ : ByteArray)) else (if 0 ≤ i then (if i < (t125.length : Int) then (some ((rd_T76 t125 i).f0)) else (none)) else (none))))) (rd_T76 L i).f0 := by
      refine Ev.bind h1 ?_
      exact Ev.neg (by omega) (Ev.neg (by omega) (Ev.pos (by omega) (Ev.pos (by omega) (Ev.now _))))
    refine Ev.bind s1 (Ev.bind (a := (rd_T76 L i).f0) ?_ (Ev.pos rfl (Ev.now _)))
    refine Ev.bind h2 (Ev.bindc (within_eq _ _ _) ?_)
    rw [hw]
    exact Ev.pos (by simp [withinP]; omega) (Ev.pos (by omega) (Ev.pos (by omega) (Ev.now _)))
  · have s1 : Ev (fun k => (spec_TableOf.f k n).bind fun t125 => (if i < 0 then (some (⟨#[]⟩ : ByteArray)) else (if i ≥ (t125.length : Int) then (some (⟨#[]⟩ : ByteArray)) else (if 0 ≤ i then (if i < (t125.length : Int) then (some ((rd_T76 t125 i).f0)) else (none)) else (none))))) (⟨#[]⟩ : ByteArray) := by
      refine Ev.bind h1 ?_
      exact Ev.ite (fun _ => Ev.now _) (fun _ => Ev.pos (by omega) (Ev.now _))
    refine Ev.bind s1 (Ev.bind (a := (⟨#[]⟩ : ByteArray)) ?_ (Ev.pos rfl (Ev.now _)))
    refine Ev.bind h2 (Ev.bindc (within_eq _ _ _) ?_)
    rw [hw]
    exact Ev.neg (by simp [withinP]; omega) (Ev.now _)

end Go.Proofs.Ytkmpfgpamlfldaa.Pure
