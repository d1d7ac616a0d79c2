/- The law's statement, out of its pure part and the printed walk.
Conditions: none. -/
import Derived.Test.YtlghcbmkhdibdaaRows
import Derived.Test.YtlghcbmkhdibdaaVFnExactIxRight
import Derived.Test.YtlghcbmkhdibdaaPFnExactIxRightx13
import Derived.Test.YtlghcbmkhdibdaaPureFnExactIxRight
import Derived.WalkKit
import Derived.ProofKit
import Derived.OpenShut
import Derived.ShutString
import Derived.ChangeOld
import Derived.Below
import Derived.SizedLaws
import Derived.Carry
namespace Go.Proofs.Ytlghcbmkhdibdaa.fnExactIxRight
open Go.ChangeShapes Go.WideShapes Go.ChangeAt Go.RowKit Go.Proofs.Ytlghcbmkhdibdaa.PFnExactIxRight Go.Proofs.YtlghcbmkhdibdaaW.PrintWords Go.Proofs.YtlghcbmkhdibdaaW.Opens
open Go.ChangeMaps (open_string shut_string)
set_option linter.unusedVariables false
theorem own : ownKnob Try.prog.godebug = none := by kernel_rfl
theorem laidOut : laidOutB Try.prog = true := by kernel_rfl
theorem ok9 : Opens Try.prog 9 Kd.string (fun s_ : ByteArray => s_.size ≤ maxLen) := Opens.string Try.underlying9 (by kernel_rfl)
theorem ok2 : Opens Try.prog 2 (Kd.int .i64) (fun n_ : Int => (Lit.int .i64 n_).wf = true) := Opens.int Try.underlying2 (by kernel_rfl)
theorem ok22 : Opens Try.prog 22 (Kd.slice 9 Kd.string) (fun xs_ : List ByteArray => xs_.length ≤ maxLen ∧ ∀ x_ ∈ xs_, (fun s_ : ByteArray => s_.size ≤ maxLen) x_) := Opens.slice Try.underlying22 (by kernel_rfl) ok9
theorem ok190 : Opens Try.prog 190 k190 q190 := (Opens.iso (fun x_ : S190 => (x_.f0)) (fun y_ => ⟨y_⟩) (fun _ => rfl) (Opens.struct (d := (Kd.slice 9 Kd.string)) Try.underlying190 (by kernel_rfl) (OpensL.last (by rfl) ok22))).imp (fun _ h_ => h_)
theorem ok182 : Opens Try.prog 182 (Kd.slice 190 k190) (fun xs_ : List (S190) => xs_.length ≤ maxLen ∧ ∀ x_ ∈ xs_, q190 x_) := Opens.slice Try.underlying182 (by kernel_rfl) ok190
theorem ok184 : Opens Try.prog 184 k184 q184 := (Opens.iso (fun x_ : S184 => (x_.f0, x_.f1)) (fun y_ => ⟨y_.1, y_.2⟩) (fun _ => rfl) (Opens.struct (d := (Kd.pair Kd.string (Kd.slice 190 k190))) Try.underlying184 (by kernel_rfl) (OpensL.cons (by rfl) ok9 (OpensL.last (by rfl) ok182)))).imp (fun _ h_ => h_)
theorem ok168 : Opens Try.prog 168 (Kd.slice 184 k184) (fun xs_ : List (S184) => xs_.length ≤ maxLen ∧ ∀ x_ ∈ xs_, q184 x_) := Opens.slice Try.underlying168 (by kernel_rfl) ok184
theorem ok170 : Opens Try.prog 170 k170 q170 := (Opens.iso (fun x_ : S170 => (x_.f0, x_.f1)) (fun y_ => ⟨y_.1, y_.2⟩) (fun _ => rfl) (Opens.struct (d := (Kd.pair (Kd.int .i64) (Kd.slice 184 k184))) Try.underlying170 (by kernel_rfl) (OpensL.cons (by rfl) ok2 (OpensL.last (by rfl) ok168)))).imp (fun _ h_ => h_)
theorem ok136 : Opens Try.prog 136 (Kd.slice 170 k170) (fun xs_ : List (S170) => xs_.length ≤ maxLen ∧ ∀ x_ ∈ xs_, q170 x_) := Opens.slice Try.underlying136 (by kernel_rfl) ok170
theorem ok138 : Opens Try.prog 138 k138 q138 := (Opens.iso (fun x_ : S138 => (x_.f0, x_.f1, x_.f2)) (fun y_ => ⟨y_.1, y_.2.1, y_.2.2⟩) (fun _ => rfl) (Opens.struct (d := (Kd.pair (Kd.int .i64) (Kd.pair (Kd.int .i64) (Kd.slice 170 k170)))) Try.underlying138 (by kernel_rfl) (OpensL.cons (by rfl) ok2 (OpensL.cons (by rfl) ok2 (OpensL.last (by rfl) ok136))))).imp (fun _ h_ => h_)
theorem ok57 : Opens Try.prog 57 (Kd.slice 138 k138) (fun xs_ : List (S138) => xs_.length ≤ maxLen ∧ ∀ x_ ∈ xs_, q138 x_) := Opens.slice Try.underlying57 (by kernel_rfl) ok138
theorem top59 : Opens Try.prog 59 (Kd.pair Kd.string (Kd.pair Kd.string (Kd.pair (Kd.int .i64) (Kd.slice 138 k138)))) (fun x_ => (fun s_ : ByteArray => s_.size ≤ maxLen) x_.1 ∧ ((fun s_ : ByteArray => s_.size ≤ maxLen) x_.2.1 ∧ ((fun n_ : Int => (Lit.int .i64 n_).wf = true) x_.2.2.1 ∧ ((fun xs_ : List (S138) => xs_.length ≤ maxLen ∧ ∀ x_ ∈ xs_, q138 x_) x_.2.2.2)))) := (Opens.struct (d := (Kd.pair Kd.string (Kd.pair Kd.string (Kd.pair (Kd.int .i64) (Kd.slice 138 k138))))) Try.underlying59 (by kernel_rfl) (OpensL.cons (by rfl) ok9 (OpensL.cons (by rfl) ok9 (OpensL.cons (by rfl) ok2 (OpensL.last (by rfl) ok57))))).imp (fun _ h_ => h_)
set_option maxRecDepth 100000 in
theorem lifted (os : Os) (started : os.Started) (H : Type) (enc : TypeId × Value → H) :
    ReturnsInHanded {} Try.checked os 7 .any (Rows.fnExactIxRightSpec.pre6 enc Try.prog Try.f7 Rows.fnExactIxRightRow.domain false) (Rows.fnExactIxRightSpec.post enc Try.prog Try.f7 false true false false) := by
  refine returnsInHanded_of_change_sized (C := Try.checked) own started (by kernel_rfl) Try.func7
    (ChangeSpec.witness6 (enc := enc) (C := Try.checked) false ⟨#[], #[.agg #[.string ByteArray.empty, .string ByteArray.empty, .int .i64 0, .slice none 0 0]], []⟩ 8 (by kernel_rfl) (by kernel_rfl) (by kernel_rfl) (by kernel_rfl)) ?_
  intro W base args ds gs before hval0 hW hcnd hsz0 _
  have hsz : (DataW.weightsEach Try.prog (Try.f7.params.toList ++ Rows.fnExactIxRightSpec.plain.varTypes Try.prog) (ds ++ gs)).all (· ≤ reachBytes) = true := hsz0
  have hval : ∀ (j : Nat) t v, Try.f7.params[j]? = some t → args[j]? = some v → Value.okWide Try.prog W .any base t v := hval0
  have hW' := hW
  obtain ⟨p, q, hA0, hV, rfl, hfz, hnd⟩ := hW
  have hA : DataW.TrodAll enc Try.prog W 0 (fun _ => true) true Try.f7.params.toList args.toList ds p := hA0
  rw [Try.params7] at hA hval hsz
  obtain ⟨v0, vs0, d0, ds0, p0, q0, hargs, rfl, rfl, h0, r0⟩ := trodAll_cons hA
  obtain ⟨rfl, rfl, rfl⟩ := trodAll_nil r0
  obtain rfl : args = #[v0] := by cases args; simp_all
  obtain ⟨rfl, rfl⟩ := trodVars_none hV
  have k0 := h0
  have lt0 : ∀ x ∈ p0, x.block < W.heap.size := by obtain ⟨m, hm⟩ := k0; exact DataW.trod_lt m _ _ _ hm
  obtain ⟨x0, cs0, rfl, hK0, hQ0⟩ := agg_of top59 Try.underlying59 (hval 0 59 v0 rfl rfl) h0
  obtain ⟨a0_0, a0_1, a0_2, l0_3⟩ := x0
  obtain ⟨_, _, rfl, rfl, ⟨_, _, rfl, rfl, ⟨_, _, rfl, rfl, ⟨A0_3, c0_3, rfl, hc0_3, hr0_3⟩⟩⟩⟩ := hK0
  obtain ⟨g0_0, g0_1, g0_2, g0_3⟩ := hQ0
  clear hA0 hval0 hsz0 hsz
  obtain ⟨k_, hk_⟩ := Pure.FnExactIxRight a0_0 a0_1 a0_2 l0_3 g0_0 g0_1 g0_2 g0_3
  refine (laws_FnExactIxRight.calls k_ a0_0 a0_1 a0_2 _ _ l0_3 true W hr0_3 hc0_3 hk_).mono fun e W' hp_ => ?_
  obtain ⟨he, hd_⟩ := hp_
  have bel : Below W.heap.size W W' := hd_
  subst he
  exact ⟨_, rfl, _, _, _, [], _, [], hW', trodAll_mk1 (shut_bool Try.underlying4 _), (trodAll_cons_mk (Below.trod laidOut (by kernel_rfl) (of_decide_eq_true (by kernel_rfl)) k0 bel lt0) trodAll_mk0), rfl, bel.frame _, fun h => by cases h⟩
theorem over : Rows.fnExactIxRightRow.holds Try.pinned (OpenSpec.ofChange Rows.fnExactIxRightSpec) :=
  OpenClaim.holds_of_wide 7 Try.f7 rfl rfl rfl rfl rfl rfl rfl ⟨rfl, rfl, rfl, rfl, rfl⟩ rfl rfl rfl rfl rfl (by kernel_rfl) Try.func7 (by kernel_rfl)
    (of_decide_eq_true (by kernel_rfl)) (by unfold Func.isWrapper; first | (rw [if_pos (by decide +kernel)]; kernel_rfl) | (rw [if_neg (by decide +kernel)]; exact ⟨rfl, rfl⟩))
    (fun os started H enc _ => lifted os started H enc)
theorem proved : Rows.FnExactIxRightSaid := over
#print axioms proved
end Go.Proofs.Ytlghcbmkhdibdaa.fnExactIxRight
namespace Go.Proofs.Ytlghcbmkhdibdaa
/-- The row, under a short name, for the claim. -/
theorem fnExactIxRight_holds : Rows.FnExactIxRightSaid := fnExactIxRight.proved
end Go.Proofs.Ytlghcbmkhdibdaa
