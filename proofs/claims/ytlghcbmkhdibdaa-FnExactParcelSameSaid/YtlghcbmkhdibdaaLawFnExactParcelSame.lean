/- The law's statement, out of its pure part and the printed walk.
Conditions: none. -/
import Derived.Test.YtlghcbmkhdibdaaRows
import Derived.Test.YtlghcbmkhdibdaaVFnExactParcelSame
import Derived.Test.YtlghcbmkhdibdaaPFnExactParcelSamex9
import Derived.Test.YtlghcbmkhdibdaaPureFnExactParcelSame
import Derived.WalkKit
import Derived.ProofKit
import Derived.OpenShut
import Derived.ShutString
import Derived.ChangeOld
import Derived.Below
import Derived.SizedLaws
import Derived.Carry
namespace Go.Proofs.Ytlghcbmkhdibdaa.fnExactParcelSame
open Go.ChangeShapes Go.WideShapes Go.ChangeAt Go.RowKit Go.Proofs.Ytlghcbmkhdibdaa.PFnExactParcelSame Go.Proofs.YtlghcbmkhdibdaaW.PrintWords Go.Proofs.YtlghcbmkhdibdaaW.Opens
open Go.ChangeMaps (open_string shut_string)
set_option linter.unusedVariables false
theorem own : ownKnob Try.prog.godebug = none := by kernel_rfl
theorem laidOut : laidOutB Try.prog = true := by kernel_rfl
theorem ok9 : Opens Try.prog 9 Kd.string (fun s_ : ByteArray => s_.size ≤ maxLen) := Opens.string Try.underlying9 (by kernel_rfl)
theorem ok2 : Opens Try.prog 2 (Kd.int .i64) (fun n_ : Int => (Lit.int .i64 n_).wf = true) := Opens.int Try.underlying2 (by kernel_rfl)
theorem ok22 : Opens Try.prog 22 (Kd.slice 9 Kd.string) (fun xs_ : List ByteArray => xs_.length ≤ maxLen ∧ ∀ x_ ∈ xs_, (fun s_ : ByteArray => s_.size ≤ maxLen) x_) := Opens.slice Try.underlying22 (by kernel_rfl) ok9
theorem ok111 : Opens Try.prog 111 k111 q111 := (Opens.iso (fun x_ : S111 => (x_.f0, x_.f1, x_.f2, x_.f3, x_.f4)) (fun y_ => ⟨y_.1, y_.2.1, y_.2.2.1, y_.2.2.2.1, y_.2.2.2.2⟩) (fun _ => rfl) (Opens.struct (d := (Kd.pair (Kd.int .i64) (Kd.pair Kd.string (Kd.pair (Kd.int .i64) (Kd.pair (Kd.int .i64) Kd.string))))) Try.underlying111 (by kernel_rfl) (OpensL.cons (by rfl) ok2 (OpensL.cons (by rfl) ok9 (OpensL.cons (by rfl) ok2 (OpensL.cons (by rfl) ok2 (OpensL.last (by rfl) ok9))))))).imp (fun _ h_ => h_)
theorem ok23 : Opens Try.prog 23 (Kd.slice 111 k111) (fun xs_ : List (S111) => xs_.length ≤ maxLen ∧ ∀ x_ ∈ xs_, q111 x_) := Opens.slice Try.underlying23 (by kernel_rfl) ok111
theorem ok25 : Opens Try.prog 25 k25 q25 := (Opens.iso (fun x_ : S25 => (x_.f0, x_.f1, x_.f2, x_.f3, x_.f4, x_.f5)) (fun y_ => ⟨y_.1, y_.2.1, y_.2.2.1, y_.2.2.2.1, y_.2.2.2.2.1, y_.2.2.2.2.2⟩) (fun _ => rfl) (Opens.struct (d := (Kd.pair (Kd.int .i64) (Kd.pair Kd.string (Kd.pair Kd.string (Kd.pair (Kd.int .i64) (Kd.pair (Kd.slice 9 Kd.string) (Kd.slice 111 k111))))))) Try.underlying25 (by kernel_rfl) (OpensL.cons (by rfl) ok2 (OpensL.cons (by rfl) ok9 (OpensL.cons (by rfl) ok9 (OpensL.cons (by rfl) ok2 (OpensL.cons (by rfl) ok22 (OpensL.last (by rfl) ok23)))))))).imp (fun _ h_ => h_)
theorem ok33 : Opens Try.prog 33 (Kd.slice 25 k25) (fun xs_ : List (S25) => xs_.length ≤ maxLen ∧ ∀ x_ ∈ xs_, q25 x_) := Opens.slice Try.underlying33 (by kernel_rfl) ok25
theorem top35 : Opens Try.prog 35 (Kd.pair Kd.string (Kd.pair Kd.string (Kd.pair (Kd.int .i64) (Kd.slice 25 k25)))) (fun x_ => (fun s_ : ByteArray => s_.size ≤ maxLen) x_.1 ∧ ((fun s_ : ByteArray => s_.size ≤ maxLen) x_.2.1 ∧ ((fun n_ : Int => (Lit.int .i64 n_).wf = true) x_.2.2.1 ∧ ((fun xs_ : List (S25) => xs_.length ≤ maxLen ∧ ∀ x_ ∈ xs_, q25 x_) x_.2.2.2)))) := (Opens.struct (d := (Kd.pair Kd.string (Kd.pair Kd.string (Kd.pair (Kd.int .i64) (Kd.slice 25 k25))))) Try.underlying35 (by kernel_rfl) (OpensL.cons (by rfl) ok9 (OpensL.cons (by rfl) ok9 (OpensL.cons (by rfl) ok2 (OpensL.last (by rfl) ok33))))).imp (fun _ h_ => h_)
set_option maxRecDepth 100000 in
theorem lifted (os : Os) (started : os.Started) (H : Type) (enc : TypeId × Value → H) :
    ReturnsInHanded {} Try.checked os 4 .any (Rows.fnExactParcelSameSpec.pre6 enc Try.prog Try.f4 Rows.fnExactParcelSameRow.domain false) (Rows.fnExactParcelSameSpec.post enc Try.prog Try.f4 false true false false) := by
  refine returnsInHanded_of_change_sized (C := Try.checked) own started (by kernel_rfl) Try.func4
    (ChangeSpec.witness6 (enc := enc) (C := Try.checked) false ⟨#[], #[.agg #[.string ByteArray.empty, .string ByteArray.empty, .int .i64 0, .slice none 0 0], .agg #[.string ByteArray.empty, .string ByteArray.empty, .int .i64 0, .slice none 0 0]], []⟩ 8 (by kernel_rfl) (by kernel_rfl) (by kernel_rfl) (by kernel_rfl)) ?_
  intro W base args ds gs before hval0 hW hcnd hsz0 _
  have hsz : (DataW.weightsEach Try.prog (Try.f4.params.toList ++ Rows.fnExactParcelSameSpec.plain.varTypes Try.prog) (ds ++ gs)).all (· ≤ reachBytes) = true := hsz0
  have hval : ∀ (j : Nat) t v, Try.f4.params[j]? = some t → args[j]? = some v → Value.okWide Try.prog W .any base t v := hval0
  have hW' := hW
  obtain ⟨p, q, hA0, hV, rfl, hfz, hnd⟩ := hW
  have hA : DataW.TrodAll enc Try.prog W 0 (fun _ => true) true Try.f4.params.toList args.toList ds p := hA0
  rw [Try.params4] at hA hval hsz
  obtain ⟨v0, vs0, d0, ds0, p0, q0, hargs, rfl, rfl, h0, r0⟩ := trodAll_cons hA
  obtain ⟨v1, vs1, d1, ds1, p1, q1, rfl, rfl, rfl, h1, r1⟩ := trodAll_cons r0
  obtain ⟨rfl, rfl, rfl⟩ := trodAll_nil r1
  obtain rfl : args = #[v0, v1] := by cases args; simp_all
  obtain ⟨rfl, rfl⟩ := trodVars_none hV
  have k0 := h0
  have lt0 : ∀ x ∈ p0, x.block < W.heap.size := by obtain ⟨m, hm⟩ := k0; exact DataW.trod_lt m _ _ _ hm
  obtain ⟨x0, cs0, rfl, hK0, hQ0⟩ := agg_of top35 Try.underlying35 (hval 0 35 v0 rfl rfl) h0
  obtain ⟨a0_0, a0_1, a0_2, l0_3⟩ := x0
  obtain ⟨_, _, rfl, rfl, ⟨_, _, rfl, rfl, ⟨_, _, rfl, rfl, ⟨A0_3, c0_3, rfl, hc0_3, hr0_3⟩⟩⟩⟩ := hK0
  obtain ⟨g0_0, g0_1, g0_2, g0_3⟩ := hQ0
  have k1 := h1
  have lt1 : ∀ x ∈ p1, x.block < W.heap.size := by obtain ⟨m, hm⟩ := k1; exact DataW.trod_lt m _ _ _ hm
  obtain ⟨x1, cs1, rfl, hK1, hQ1⟩ := agg_of top35 Try.underlying35 (hval 1 35 v1 rfl rfl) h1
  obtain ⟨a1_0, a1_1, a1_2, l1_3⟩ := x1
  obtain ⟨_, _, rfl, rfl, ⟨_, _, rfl, rfl, ⟨_, _, rfl, rfl, ⟨A1_3, c1_3, rfl, hc1_3, hr1_3⟩⟩⟩⟩ := hK1
  obtain ⟨g1_0, g1_1, g1_2, g1_3⟩ := hQ1
  clear hA0 hval0 hsz0 hsz
  obtain ⟨k_, hk_⟩ := Pure.FnExactParcelSame a0_0 a0_1 a0_2 l0_3 a1_0 a1_1 a1_2 l1_3 g0_0 g0_1 g0_2 g0_3 g1_0 g1_1 g1_2 g1_3
  refine (laws_FnExactParcelSame.calls k_ a0_0 a0_1 a0_2 _ _ l0_3 a1_0 a1_1 a1_2 _ _ l1_3 true W hr0_3 hc0_3 hr1_3 hc1_3 hk_).mono fun e W' hp_ => ?_
  obtain ⟨he, hd_⟩ := hp_
  have bel : Below W.heap.size W W' := hd_
  subst he
  exact ⟨_, rfl, _, _, _, [], _, [], hW', trodAll_mk1 (shut_bool Try.underlying4 _), (trodAll_cons_mk (Below.trod laidOut (by kernel_rfl) (of_decide_eq_true (by kernel_rfl)) k0 bel lt0) (trodAll_cons_mk (Below.trod laidOut (by kernel_rfl) (of_decide_eq_true (by kernel_rfl)) k1 bel lt1) trodAll_mk0)), rfl, bel.frame _, fun h => by cases h⟩
theorem over : Rows.fnExactParcelSameRow.holds Try.pinned (OpenSpec.ofChange Rows.fnExactParcelSameSpec) :=
  OpenClaim.holds_of_wide 4 Try.f4 rfl rfl rfl rfl rfl rfl rfl ⟨rfl, rfl, rfl, rfl, rfl⟩ rfl rfl rfl rfl rfl (by kernel_rfl) Try.func4 (by kernel_rfl)
    (of_decide_eq_true (by kernel_rfl)) (by unfold Func.isWrapper; first | (rw [if_pos (by decide +kernel)]; kernel_rfl) | (rw [if_neg (by decide +kernel)]; exact ⟨rfl, rfl⟩))
    (fun os started H enc _ => lifted os started H enc)
theorem proved : Rows.FnExactParcelSameSaid := over
#print axioms proved
end Go.Proofs.Ytlghcbmkhdibdaa.fnExactParcelSame
namespace Go.Proofs.Ytlghcbmkhdibdaa
/-- The row, under a short name, for the claim. -/
theorem fnExactParcelSame_holds : Rows.FnExactParcelSameSaid := fnExactParcelSame.proved
end Go.Proofs.Ytlghcbmkhdibdaa
