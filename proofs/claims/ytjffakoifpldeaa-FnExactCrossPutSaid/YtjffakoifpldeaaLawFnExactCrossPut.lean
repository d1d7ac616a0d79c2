/- The law's statement, out of its pure part and the printed walk.
Conditions: none. -/
import Derived.Test.YtjffakoifpldeaaRows
import Derived.Test.YtjffakoifpldeaaVFnExactCrossPut
import Derived.Test.YtjffakoifpldeaaPFnExactCrossPutx12
import Derived.Test.YtjffakoifpldeaaPureFnExactCrossPut
import Derived.WalkKit
import Derived.ProofKit
import Derived.OpenShut
import Derived.ShutString
import Derived.ChangeOld
import Derived.Below
import Derived.SizedLaws
import Derived.Carry
namespace Go.Proofs.Ytjffakoifpldeaa.fnExactCrossPut
open Go.ChangeShapes Go.WideShapes Go.ChangeAt Go.RowKit Go.Proofs.Ytjffakoifpldeaa.PFnExactCrossPut Go.Proofs.YtjffakoifpldeaaW.PrintWords Go.Proofs.YtjffakoifpldeaaW.Opens
open Go.ChangeMaps (open_string shut_string)
set_option linter.unusedVariables false
theorem own : ownKnob Try.prog.godebug = none := by kernel_rfl
theorem laidOut : laidOutB Try.prog = true := by kernel_rfl
theorem ok9 : Opens Try.prog 9 Kd.string (fun s_ : ByteArray => s_.size ≤ maxLen) := Opens.string Try.underlying9 (by kernel_rfl)
theorem ok34 : Opens Try.prog 34 k34 q34 := (Opens.iso (fun x_ : S34 => (x_.f0, x_.f1, x_.f2)) (fun y_ => ⟨y_.1, y_.2.1, y_.2.2⟩) (fun _ => rfl) (Opens.struct (d := (Kd.pair Kd.string (Kd.pair Kd.string Kd.string))) Try.underlying34 (by kernel_rfl) (OpensL.cons (by rfl) ok9 (OpensL.cons (by rfl) ok9 (OpensL.last (by rfl) ok9))))).imp (fun _ h_ => h_)
theorem ok22 : Opens Try.prog 22 (Kd.slice 34 k34) (fun xs_ : List (S34) => xs_.length ≤ maxLen ∧ ∀ x_ ∈ xs_, q34 x_) := Opens.slice Try.underlying22 (by kernel_rfl) ok34
theorem top34 : Opens Try.prog 34 (Kd.pair Kd.string (Kd.pair Kd.string Kd.string)) (fun x_ => (fun s_ : ByteArray => s_.size ≤ maxLen) x_.1 ∧ ((fun s_ : ByteArray => s_.size ≤ maxLen) x_.2.1 ∧ ((fun s_ : ByteArray => s_.size ≤ maxLen) x_.2.2))) := (Opens.struct (d := (Kd.pair Kd.string (Kd.pair Kd.string Kd.string))) Try.underlying34 (by kernel_rfl) (OpensL.cons (by rfl) ok9 (OpensL.cons (by rfl) ok9 (OpensL.last (by rfl) ok9)))).imp (fun _ h_ => h_)
set_option maxRecDepth 100000 in
theorem lifted (os : Os) (started : os.Started) (H : Type) (enc : TypeId × Value → H) :
    ReturnsInHanded {} Try.checked os 7 .any (Rows.fnExactCrossPutSpec.pre6 enc Try.prog Try.f7 Rows.fnExactCrossPutRow.domain false) (Rows.fnExactCrossPutSpec.post enc Try.prog Try.f7 false true false false) := by
  refine returnsInHanded_of_change_sized (C := Try.checked) own started (by kernel_rfl) Try.func7
    (ChangeSpec.witness6 (enc := enc) (C := Try.checked) false ⟨#[], #[.slice none 0 0, .agg #[.string ByteArray.empty, .string ByteArray.empty, .string ByteArray.empty]], []⟩ 8 (by kernel_rfl) (by kernel_rfl) (by kernel_rfl) (by kernel_rfl)) ?_
  intro W base args ds gs before hval0 hW hcnd hsz0 _
  have hsz : (DataW.weightsEach Try.prog (Try.f7.params.toList ++ Rows.fnExactCrossPutSpec.plain.varTypes Try.prog) (ds ++ gs)).all (· ≤ reachBytes) = true := hsz0
  have hval : ∀ (j : Nat) t v, Try.f7.params[j]? = some t → args[j]? = some v → Value.okWide Try.prog W .any base t v := hval0
  have hW' := hW
  obtain ⟨p, q, hA0, hV, rfl, hfz, hnd⟩ := hW
  have hA : DataW.TrodAll enc Try.prog W 0 (fun _ => true) true Try.f7.params.toList args.toList ds p := hA0
  rw [Try.params7] at hA hval hsz
  obtain ⟨v0, vs0, d0, ds0, p0, q0, hargs, rfl, rfl, h0, r0⟩ := trodAll_cons hA
  obtain ⟨v1, vs1, d1, ds1, p1, q1, rfl, rfl, rfl, h1, r1⟩ := trodAll_cons r0
  obtain ⟨rfl, rfl, rfl⟩ := trodAll_nil r1
  obtain rfl : args = #[v0, v1] := by cases args; simp_all
  obtain ⟨rfl, rfl⟩ := trodVars_none hV
  have k0 := h0
  have lt0 : ∀ x ∈ p0, x.block < W.heap.size := by obtain ⟨m, hm⟩ := k0; exact DataW.trod_lt m _ _ _ hm
  obtain ⟨l0, A0, c0, rfl, hc0, hr0, g0⟩ := slice_of ok22 Try.underlying22 (hval 0 22 v0 rfl rfl) h0
  have k1 := h1
  have lt1 : ∀ x ∈ p1, x.block < W.heap.size := by obtain ⟨m, hm⟩ := k1; exact DataW.trod_lt m _ _ _ hm
  obtain ⟨x1, cs1, rfl, hK1, hQ1⟩ := agg_of top34 Try.underlying34 (hval 1 34 v1 rfl rfl) h1
  obtain ⟨a1_0, a1_1, a1_2⟩ := x1
  obtain ⟨_, _, rfl, rfl, ⟨_, _, rfl, rfl, rfl⟩⟩ := hK1
  obtain ⟨g1_0, g1_1, g1_2⟩ := hQ1
  clear hA0 hval0 hsz0 hsz
  obtain ⟨k_, hk_⟩ := Pure.FnExactCrossPut l0 a1_0 a1_1 a1_2 g0 g1_0 g1_1 g1_2
  refine (laws_FnExactCrossPut.calls k_ _ _ l0 a1_0 a1_1 a1_2 true W hr0 hc0 hk_).mono fun e W' hp_ => ?_
  obtain ⟨he, hd_⟩ := hp_
  have bel : Below W.heap.size W W' := hd_
  subst he
  exact ⟨_, rfl, _, _, _, [], _, [], hW', trodAll_mk1 (shut_bool Try.underlying4 _), (trodAll_cons_mk (Below.trod laidOut (by kernel_rfl) (of_decide_eq_true (by kernel_rfl)) k0 bel lt0) (trodAll_cons_mk (Below.trod laidOut (by kernel_rfl) (of_decide_eq_true (by kernel_rfl)) k1 bel lt1) trodAll_mk0)), rfl, bel.frame _, fun h => by cases h⟩
theorem over : Rows.fnExactCrossPutRow.holds Try.pinned (OpenSpec.ofChange Rows.fnExactCrossPutSpec) :=
  OpenClaim.holds_of_wide 7 Try.f7 rfl rfl rfl rfl rfl rfl rfl ⟨rfl, rfl, rfl, rfl, rfl⟩ rfl rfl rfl rfl rfl (by kernel_rfl) Try.func7 (by kernel_rfl)
    (of_decide_eq_true (by kernel_rfl)) (by unfold Func.isWrapper; first | (rw [if_pos (by decide +kernel)]; kernel_rfl) | (rw [if_neg (by decide +kernel)]; exact ⟨rfl, rfl⟩))
    (fun os started H enc _ => lifted os started H enc)
theorem proved : Rows.FnExactCrossPutSaid := over
#print axioms proved
end Go.Proofs.Ytjffakoifpldeaa.fnExactCrossPut
namespace Go.Proofs.Ytjffakoifpldeaa
/-- The row, under a short name, for the claim. -/
theorem fnExactCrossPut_holds : Rows.FnExactCrossPutSaid := fnExactCrossPut.proved
end Go.Proofs.Ytjffakoifpldeaa
