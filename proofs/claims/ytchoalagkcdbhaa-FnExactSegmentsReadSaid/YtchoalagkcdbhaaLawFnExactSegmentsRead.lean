/- The law's statement, out of its pure part and the printed walk.
Conditions: none. -/
import Derived.Test.YtchoalagkcdbhaaRows
import Derived.Test.YtchoalagkcdbhaaVFnExactSegmentsRead
import Derived.Test.YtchoalagkcdbhaaPFnExactSegmentsReadx5
import Derived.Test.YtchoalagkcdbhaaPureFnExactSegmentsRead
import Derived.WalkKit
import Derived.ProofKit
import Derived.OpenShut
import Derived.ShutString
import Derived.ChangeOld
import Derived.Below
import Derived.SizedLaws
import Derived.Carry
namespace Go.Proofs.Ytchoalagkcdbhaa.fnExactSegmentsRead
open Go.ChangeShapes Go.WideShapes Go.ChangeAt Go.RowKit Go.Proofs.Ytchoalagkcdbhaa.PFnExactSegmentsRead Go.Proofs.YtchoalagkcdbhaaW.PrintWords Go.Proofs.YtchoalagkcdbhaaW.Opens
open Go.ChangeMaps (open_string shut_string)
set_option linter.unusedVariables false
theorem own : ownKnob Try.prog.godebug = none := by kernel_rfl
theorem laidOut : laidOutB Try.prog = true := by kernel_rfl
theorem ok2 : Opens Try.prog 2 (Kd.int .i64) (fun n_ : Int => (Lit.int .i64 n_).wf = true) := Opens.int Try.underlying2 (by kernel_rfl)
theorem top29 : Opens Try.prog 29 (Kd.pair (Kd.int .i64) (Kd.pair (Kd.int .i64) (Kd.pair (Kd.int .i64) (Kd.int .i64)))) (fun x_ => (fun n_ : Int => (Lit.int .i64 n_).wf = true) x_.1 ∧ ((fun n_ : Int => (Lit.int .i64 n_).wf = true) x_.2.1 ∧ ((fun n_ : Int => (Lit.int .i64 n_).wf = true) x_.2.2.1 ∧ ((fun n_ : Int => (Lit.int .i64 n_).wf = true) x_.2.2.2)))) := (Opens.struct (d := (Kd.pair (Kd.int .i64) (Kd.pair (Kd.int .i64) (Kd.pair (Kd.int .i64) (Kd.int .i64))))) Try.underlying29 (by kernel_rfl) (OpensL.cons (by rfl) ok2 (OpensL.cons (by rfl) ok2 (OpensL.cons (by rfl) ok2 (OpensL.last (by rfl) ok2))))).imp (fun _ h_ => h_)
set_option maxRecDepth 100000 in
theorem lifted (os : Os) (started : os.Started) (H : Type) (enc : TypeId × Value → H) :
    ReturnsInHanded {} Try.checked os 13 .any (Rows.fnExactSegmentsReadSpec.pre6 enc Try.prog Try.f13 Rows.fnExactSegmentsReadRow.domain false) (Rows.fnExactSegmentsReadSpec.post enc Try.prog Try.f13 false true false false) := by
  refine returnsInHanded_of_change_sized (C := Try.checked) own started (by kernel_rfl) Try.func13
    (ChangeSpec.witness6 (enc := enc) (C := Try.checked) false ⟨#[], #[.agg #[.int .i64 0, .int .i64 0, .int .i64 0, .int .i64 0], .string ByteArray.empty], []⟩ 8 (by kernel_rfl) (by kernel_rfl) (by kernel_rfl) (by kernel_rfl)) ?_
  intro W base args ds gs before hval0 hW hcnd hsz0 _
  have hsz : (DataW.weightsEach Try.prog (Try.f13.params.toList ++ Rows.fnExactSegmentsReadSpec.plain.varTypes Try.prog) (ds ++ gs)).all (· ≤ reachBytes) = true := hsz0
  have hval : ∀ (j : Nat) t v, Try.f13.params[j]? = some t → args[j]? = some v → Value.okWide Try.prog W .any base t v := hval0
  have hW' := hW
  obtain ⟨p, q, hA0, hV, rfl, hfz, hnd⟩ := hW
  have hA : DataW.TrodAll enc Try.prog W 0 (fun _ => true) true Try.f13.params.toList args.toList ds p := hA0
  rw [Try.params13] at hA hval hsz
  obtain ⟨v0, vs0, d0, ds0, p0, q0, hargs, rfl, rfl, h0, r0⟩ := trodAll_cons hA
  obtain ⟨v1, vs1, d1, ds1, p1, q1, rfl, rfl, rfl, h1, r1⟩ := trodAll_cons r0
  obtain ⟨rfl, rfl, rfl⟩ := trodAll_nil r1
  obtain rfl : args = #[v0, v1] := by cases args; simp_all
  obtain ⟨rfl, rfl⟩ := trodVars_none hV
  have k0 := h0
  have lt0 : ∀ x ∈ p0, x.block < W.heap.size := by obtain ⟨m, hm⟩ := k0; exact DataW.trod_lt m _ _ _ hm
  obtain ⟨x0, cs0, rfl, hK0, hQ0⟩ := agg_of top29 Try.underlying29 (hval 0 29 v0 rfl rfl) h0
  obtain ⟨a0_0, a0_1, a0_2, a0_3⟩ := x0
  obtain ⟨_, _, rfl, rfl, ⟨_, _, rfl, rfl, ⟨_, _, rfl, rfl, rfl⟩⟩⟩ := hK0
  obtain ⟨g0_0, g0_1, g0_2, g0_3⟩ := hQ0
  obtain ⟨a1, rfl, rfl, rfl, g1⟩ := open_string Try.underlying9 (hval 1 9 v1 rfl rfl) h1
  clear hA0 hval0 hsz0 hsz
  obtain ⟨k_, hk_⟩ := Pure.FnExactSegmentsRead a0_0 a0_1 a0_2 a0_3 a1 g0_0 g0_1 g0_2 g0_3 g1
  refine (F13.calls k_ a0_0 a0_1 a0_2 a0_3 a1 true W  hk_).mono fun e W' hp_ => ?_
  obtain ⟨he, hd_⟩ := hp_
  have bel : Below W.heap.size W W' := hd_
  subst he
  exact ⟨_, rfl, _, _, _, [], _, [], hW', trodAll_mk1 (shut_bool Try.underlying4 _), (trodAll_cons_mk (Below.trod laidOut (by kernel_rfl) (of_decide_eq_true (by kernel_rfl)) k0 bel lt0) (trodAll_cons_mk (shut_string Try.underlying9 g1) trodAll_mk0)), rfl, bel.frame _, fun h => by cases h⟩
theorem over : Rows.fnExactSegmentsReadRow.holds Try.pinned (OpenSpec.ofChange Rows.fnExactSegmentsReadSpec) :=
  OpenClaim.holds_of_wide 13 Try.f13 rfl rfl rfl rfl rfl rfl rfl ⟨rfl, rfl, rfl, rfl, rfl⟩ rfl rfl rfl rfl rfl (by kernel_rfl) Try.func13 (by kernel_rfl)
    (of_decide_eq_true (by kernel_rfl)) (by unfold Func.isWrapper; first | (rw [if_pos (by decide +kernel)]; kernel_rfl) | (rw [if_neg (by decide +kernel)]; exact ⟨rfl, rfl⟩))
    (fun os started H enc _ => lifted os started H enc)
theorem proved : Rows.FnExactSegmentsReadSaid := over
#print axioms proved
end Go.Proofs.Ytchoalagkcdbhaa.fnExactSegmentsRead
namespace Go.Proofs.Ytchoalagkcdbhaa
/-- The row, under a short name, for the claim. -/
theorem fnExactSegmentsRead_holds : Rows.FnExactSegmentsReadSaid := fnExactSegmentsRead.proved
end Go.Proofs.Ytchoalagkcdbhaa
