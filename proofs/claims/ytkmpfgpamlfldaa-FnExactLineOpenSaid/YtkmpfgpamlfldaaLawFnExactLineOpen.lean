/- The law's statement, out of its pure part and the printed walk.
Conditions: none. -/
import Derived.Test.YtkmpfgpamlfldaaRows
import Derived.Test.YtkmpfgpamlfldaaOpens
import Derived.Test.YtkmpfgpamlfldaaPFnExactLineOpenx2
import Derived.Test.YtkmpfgpamlfldaaPureFnExactLineOpen
import Derived.WalkKit
import Derived.ProofKit
import Derived.OpenShut
import Derived.ShutString
import Derived.ChangeOld
import Derived.Below
import Derived.SizedLaws
import Derived.Carry
namespace Go.Proofs.Ytkmpfgpamlfldaa.fnExactLineOpen
open Go.ChangeShapes Go.WideShapes Go.ChangeAt Go.RowKit Go.Proofs.Ytkmpfgpamlfldaa.PFnExactLineOpen Go.Proofs.YtkmpfgpamlfldaaW.PrintWords Go.Proofs.YtkmpfgpamlfldaaW.Opens
open Go.ChangeMaps (open_string shut_string)
set_option linter.unusedVariables false
theorem own : ownKnob Try.prog.godebug = none := by kernel_rfl
theorem laidOut : laidOutB Try.prog = true := by kernel_rfl
theorem ok9 : Opens Try.prog 9 Kd.string (fun s_ : ByteArray => s_.size ≤ maxLen) := Opens.string Try.underlying9 (by kernel_rfl)
theorem ok2 : Opens Try.prog 2 (Kd.int .i64) (fun n_ : Int => (Lit.int .i64 n_).wf = true) := Opens.int Try.underlying2 (by kernel_rfl)
theorem top34 : Opens Try.prog 34 (Kd.pair Kd.string (Kd.pair Kd.string (Kd.pair (Kd.int .i64) (Kd.pair Kd.string (Kd.pair (Kd.int .i64) (Kd.pair (Kd.int .i64) (Kd.pair (Kd.int .i64) (Kd.int .i64)))))))) (fun x_ => (fun s_ : ByteArray => s_.size ≤ maxLen) x_.1 ∧ ((fun s_ : ByteArray => s_.size ≤ maxLen) x_.2.1 ∧ ((fun n_ : Int => (Lit.int .i64 n_).wf = true) x_.2.2.1 ∧ ((fun s_ : ByteArray => s_.size ≤ maxLen) x_.2.2.2.1 ∧ ((fun n_ : Int => (Lit.int .i64 n_).wf = true) x_.2.2.2.2.1 ∧ ((fun n_ : Int => (Lit.int .i64 n_).wf = true) x_.2.2.2.2.2.1 ∧ ((fun n_ : Int => (Lit.int .i64 n_).wf = true) x_.2.2.2.2.2.2.1 ∧ ((fun n_ : Int => (Lit.int .i64 n_).wf = true) x_.2.2.2.2.2.2.2)))))))) := (Opens.struct (d := (Kd.pair Kd.string (Kd.pair Kd.string (Kd.pair (Kd.int .i64) (Kd.pair Kd.string (Kd.pair (Kd.int .i64) (Kd.pair (Kd.int .i64) (Kd.pair (Kd.int .i64) (Kd.int .i64))))))))) Try.underlying34 (by kernel_rfl) (OpensL.cons (by rfl) ok9 (OpensL.cons (by rfl) ok9 (OpensL.cons (by rfl) ok2 (OpensL.cons (by rfl) ok9 (OpensL.cons (by rfl) ok2 (OpensL.cons (by rfl) ok2 (OpensL.cons (by rfl) ok2 (OpensL.last (by rfl) ok2))))))))).imp (fun _ h_ => h_)
set_option maxRecDepth 100000 in
theorem lifted (os : Os) (started : os.Started) (H : Type) (enc : TypeId × Value → H) :
    ReturnsInHanded {} Try.checked os 9 .any (Rows.fnExactLineOpenSpec.pre6 enc Try.prog Try.f9 Rows.fnExactLineOpenRow.domain false) (Rows.fnExactLineOpenSpec.post enc Try.prog Try.f9 false true false false) := by
  refine returnsInHanded_of_change_sized (C := Try.checked) own started (by kernel_rfl) Try.func9
    (ChangeSpec.witness6 (enc := enc) (C := Try.checked) false ⟨#[], #[.agg #[.string ByteArray.empty, .string ByteArray.empty, .int .i64 0, .string ByteArray.empty, .int .i64 0, .int .i64 0, .int .i64 0, .int .i64 0]], []⟩ 8 (by kernel_rfl) (by kernel_rfl) (by kernel_rfl) (by kernel_rfl)) ?_
  intro W base args ds gs before hval0 hW hcnd hsz0 _
  have hsz : (DataW.weightsEach Try.prog (Try.f9.params.toList ++ Rows.fnExactLineOpenSpec.plain.varTypes Try.prog) (ds ++ gs)).all (· ≤ reachBytes) = true := hsz0
  have hval : ∀ (j : Nat) t v, Try.f9.params[j]? = some t → args[j]? = some v → Value.okWide Try.prog W .any base t v := hval0
  have hW' := hW
  obtain ⟨p, q, hA0, hV, rfl, hfz, hnd⟩ := hW
  have hA : DataW.TrodAll enc Try.prog W 0 (fun _ => true) true Try.f9.params.toList args.toList ds p := hA0
  rw [Try.params9] at hA hval hsz
  obtain ⟨v0, vs0, d0, ds0, p0, q0, hargs, rfl, rfl, h0, r0⟩ := trodAll_cons hA
  obtain ⟨rfl, rfl, rfl⟩ := trodAll_nil r0
  obtain rfl : args = #[v0] := by cases args; simp_all
  obtain ⟨rfl, rfl⟩ := trodVars_none hV
  have k0 := h0
  have lt0 : ∀ x ∈ p0, x.block < W.heap.size := by obtain ⟨m, hm⟩ := k0; exact DataW.trod_lt m _ _ _ hm
  obtain ⟨x0, cs0, rfl, hK0, hQ0⟩ := agg_of top34 Try.underlying34 (hval 0 34 v0 rfl rfl) h0
  obtain ⟨a0_0, a0_1, a0_2, a0_3, a0_4, a0_5, a0_6, a0_7⟩ := x0
  obtain ⟨_, _, rfl, rfl, ⟨_, _, rfl, rfl, ⟨_, _, rfl, rfl, ⟨_, _, rfl, rfl, ⟨_, _, rfl, rfl, ⟨_, _, rfl, rfl, ⟨_, _, rfl, rfl, rfl⟩⟩⟩⟩⟩⟩⟩ := hK0
  obtain ⟨g0_0, g0_1, g0_2, g0_3, g0_4, g0_5, g0_6, g0_7⟩ := hQ0
  clear hA0 hval0 hsz0 hsz
  obtain ⟨k_, hk_⟩ := Pure.FnExactLineOpen a0_0 a0_1 a0_2 a0_3 a0_4 a0_5 a0_6 a0_7 g0_0 g0_1 g0_2 g0_3 g0_4 g0_5 g0_6 g0_7
  refine (laws_FnExactLineOpen.calls k_ a0_0 a0_1 a0_2 a0_3 a0_4 a0_5 a0_6 a0_7 true W  hk_).mono fun e W' hp_ => ?_
  obtain ⟨he, hd_⟩ := hp_
  have bel : Below W.heap.size W W' := hd_
  subst he
  exact ⟨_, rfl, _, _, _, [], _, [], hW', trodAll_mk1 (shut_bool Try.underlying4 _), (trodAll_cons_mk (Below.trod laidOut (by kernel_rfl) (of_decide_eq_true (by kernel_rfl)) k0 bel lt0) trodAll_mk0), rfl, bel.frame _, fun h => by cases h⟩
theorem over : Rows.fnExactLineOpenRow.holds Try.pinned (OpenSpec.ofChange Rows.fnExactLineOpenSpec) :=
  OpenClaim.holds_of_wide 9 Try.f9 rfl rfl rfl rfl rfl rfl rfl ⟨rfl, rfl, rfl, rfl, rfl⟩ rfl rfl rfl rfl rfl (by kernel_rfl) Try.func9 (by kernel_rfl)
    (of_decide_eq_true (by kernel_rfl)) (by unfold Func.isWrapper; first | (rw [if_pos (by decide +kernel)]; kernel_rfl) | (rw [if_neg (by decide +kernel)]; exact ⟨rfl, rfl⟩))
    (fun os started H enc _ => lifted os started H enc)
theorem proved : Rows.FnExactLineOpenSaid := over
#print axioms proved
end Go.Proofs.Ytkmpfgpamlfldaa.fnExactLineOpen
namespace Go.Proofs.Ytkmpfgpamlfldaa
/-- The row, under a short name, for the claim. -/
theorem fnExactLineOpen_holds : Rows.FnExactLineOpenSaid := fnExactLineOpen.proved
end Go.Proofs.Ytkmpfgpamlfldaa
