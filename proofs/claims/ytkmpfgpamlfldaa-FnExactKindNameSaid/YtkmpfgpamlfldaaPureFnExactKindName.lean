/- The law FnExactKindName as a statement over numbers and lists alone: the two KindNames tell the same.
Conditions: none. -/
import Derived.Test.YtkmpfgpamlfldaaPFnExactKindNamex
import Derived.Test.YtkmpfgpamlfldaaPl
namespace Go.Proofs.Ytkmpfgpamlfldaa.Pure
open Go.RowKit Go.Proofs.Ytkmpfgpamlfldaa.PFnExactKindName Go.Proofs.YtkmpfgpamlfldaaW.PrintWords Go.Proofs.YtkmpfgpamlfldaaW.PrintLast Go.Proofs.YtkmpfgpamlfldaaW.PrintMore Go.Proofs.YtkmpfgpamlfldaaW.Pl
set_option linter.unusedVariables false
set_option linter.unusedSimpArgs false

theorem within_eq (a b c : Int) : impl_within.f a b c = some (withinP a b c) := by
  unfold impl_within.f withinP
  split
  · congr 1; simp only [decide_eq_decide]; omega
  · congr 1; symm; simp only [decide_eq_false_iff_not]; omega

theorem kindName_both (n : Int) : ∃ s, spec_KindName.f n = some s ∧ impl_KindName.f n = some s := by
  by_cases h : n = 1 ∨ n = 2 ∨ n = 3 ∨ n = 4 ∨ n = 5 ∨ n = 6 ∨ n = 7
  · rcases h with rfl | rfl | rfl | rfl | rfl | rfl | rfl
    · exact ⟨(spec_KindName.f 1).getD ByteArray.empty, rfl, by kernel_rfl⟩
    · exact ⟨(spec_KindName.f 2).getD ByteArray.empty, rfl, by kernel_rfl⟩
    · exact ⟨(spec_KindName.f 3).getD ByteArray.empty, rfl, by kernel_rfl⟩
    · exact ⟨(spec_KindName.f 4).getD ByteArray.empty, rfl, by kernel_rfl⟩
    · exact ⟨(spec_KindName.f 5).getD ByteArray.empty, rfl, by kernel_rfl⟩
    · exact ⟨(spec_KindName.f 6).getD ByteArray.empty, rfl, by kernel_rfl⟩
    · exact ⟨(spec_KindName.f 7).getD ByteArray.empty, rfl, by kernel_rfl⟩
  · refine ⟨⟨#[]⟩, ?_, ?_⟩
    · unfold spec_KindName.f
      by_cases h1 : n < 1
      · simp [h1]
      · have h7 : n > 7 := by omega
        simp [h1, h7]
    · unfold impl_KindName.f
      rw [within_eq]
      have hw : withinP n 1 7 = false := by simp [withinP]; omega
      rw [hw]; rfl
theorem FnExactKindName : laws_FnExactKindName.Pure := by
  intro n hn
  obtain ⟨s, h1, h2⟩ := kindName_both n
  unfold laws_FnExactKindName.f
  rw [h1, h2]
  simp

end Go.Proofs.Ytkmpfgpamlfldaa.Pure
