/- The law's statement, out of its pure part and the printed walk.
Conditions: none. -/
import Derived.Test.YtkmpfgpamlfldaaRows
import Derived.Test.YtkmpfgpamlfldaaOpens
import Derived.Test.YtkmpfgpamlfldaaPFnExactPartOfx3
import Derived.Test.YtkmpfgpamlfldaaPureFnExactPartOf
import Derived.WalkKit
import Derived.ProofKit
import Derived.OpenShut
import Derived.ShutString
import Derived.ChangeOld
import Derived.Below
import Derived.SizedLaws
import Derived.Carry
namespace Go.Proofs.Ytkmpfgpamlfldaa.fnExactPartOf
open Go.ChangeShapes Go.WideShapes Go.ChangeAt Go.RowKit Go.Proofs.Ytkmpfgpamlfldaa.PFnExactPartOf Go.Proofs.YtkmpfgpamlfldaaW.PrintWords Go.Proofs.YtkmpfgpamlfldaaW.Opens
open Go.ChangeMaps (open_string shut_string)
set_option linter.unusedVariables false
theorem own : ownKnob Try.prog.godebug = none := by kernel_rfl
theorem laidOut : laidOutB Try.prog = true := by kernel_rfl
theorem ok9 : Opens Try.prog 9 Kd.string (fun s_ : ByteArray => s_.size ≤ maxLen) := Opens.string Try.underlying9 (by kernel_rfl)
theorem ok73 : Opens Try.prog 73 (Kd.slice 9 Kd.string) (fun xs_ : List ByteArray => xs_.length ≤ maxLen ∧ ∀ x_ ∈ xs_, (fun s_ : ByteArray => s_.size ≤ maxLen) x_) := Opens.slice Try.underlying73 (by kernel_rfl) ok9
theorem ok106 : Opens Try.prog 106 k106 q106 := (Opens.iso (fun x_ : S106 => (x_.f0)) (fun y_ => ⟨y_⟩) (fun _ => rfl) (Opens.struct (d := (Kd.slice 9 Kd.string)) Try.underlying106 (by kernel_rfl) (OpensL.last (by rfl) ok73))).imp (fun _ h_ => h_)
theorem ok55 : Opens Try.prog 55 (Kd.slice 106 k106) (fun xs_ : List (S106) => xs_.length ≤ maxLen ∧ ∀ x_ ∈ xs_, q106 x_) := Opens.slice Try.underlying55 (by kernel_rfl) ok106
theorem top57 : Opens Try.prog 57 (Kd.pair Kd.string (Kd.slice 106 k106)) (fun x_ => (fun s_ : ByteArray => s_.size ≤ maxLen) x_.1 ∧ ((fun xs_ : List (S106) => xs_.length ≤ maxLen ∧ ∀ x_ ∈ xs_, q106 x_) x_.2)) := (Opens.struct (d := (Kd.pair Kd.string (Kd.slice 106 k106))) Try.underlying57 (by kernel_rfl) (OpensL.cons (by rfl) ok9 (OpensL.last (by rfl) ok55))).imp (fun _ h_ => h_)
set_option maxRecDepth 100000 in
theorem lifted (os : Os) (started : os.Started) (H : Type) (enc : TypeId × Value → H) :
    ReturnsInHanded {} Try.checked os 13 .any (Rows.fnExactPartOfSpec.pre6 enc Try.prog Try.f13 Rows.fnExactPartOfRow.domain false) (Rows.fnExactPartOfSpec.post enc Try.prog Try.f13 false true false false) := by
  refine returnsInHanded_of_change_sized (C := Try.checked) own started (by kernel_rfl) Try.func13
    (ChangeSpec.witness6 (enc := enc) (C := Try.checked) false ⟨#[], #[.agg #[.string ByteArray.empty, .slice none 0 0], .int .i64 0, .int .i64 0], []⟩ 8 (by kernel_rfl) (by kernel_rfl) (by kernel_rfl) (by kernel_rfl)) ?_
  intro W base args ds gs before hval0 hW hcnd hsz0 _
  have hsz : (DataW.weightsEach Try.prog (Try.f13.params.toList ++ Rows.fnExactPartOfSpec.plain.varTypes Try.prog) (ds ++ gs)).all (· ≤ reachBytes) = true := hsz0
  have hval : ∀ (j : Nat) t v, Try.f13.params[j]? = some t → args[j]? = some v → Value.okWide Try.prog W .any base t v := hval0
  have hW' := hW
  obtain ⟨p, q, hA0, hV, rfl, hfz, hnd⟩ := hW
  have hA : DataW.TrodAll enc Try.prog W 0 (fun _ => true) true Try.f13.params.toList args.toList ds p := hA0
  rw [Try.params13] at hA hval hsz
  obtain ⟨v0, vs0, d0, ds0, p0, q0, hargs, rfl, rfl, h0, r0⟩ := trodAll_cons hA
  obtain ⟨v1, vs1, d1, ds1, p1, q1, rfl, rfl, rfl, h1, r1⟩ := trodAll_cons r0
  obtain ⟨v2, vs2, d2, ds2, p2, q2, rfl, rfl, rfl, h2, r2⟩ := trodAll_cons r1
  obtain ⟨rfl, rfl, rfl⟩ := trodAll_nil r2
  obtain rfl : args = #[v0, v1, v2] := by cases args; simp_all
  obtain ⟨rfl, rfl⟩ := trodVars_none hV
  have k0 := h0
  have lt0 : ∀ x ∈ p0, x.block < W.heap.size := by obtain ⟨m, hm⟩ := k0; exact DataW.trod_lt m _ _ _ hm
  obtain ⟨x0, cs0, rfl, hK0, hQ0⟩ := agg_of top57 Try.underlying57 (hval 0 57 v0 rfl rfl) h0
  obtain ⟨a0_0, l0_1⟩ := x0
  obtain ⟨_, _, rfl, rfl, ⟨A0_1, c0_1, rfl, hc0_1, hr0_1⟩⟩ := hK0
  obtain ⟨g0_0, g0_1⟩ := hQ0
  obtain ⟨a1, rfl, rfl, rfl, g1⟩ := open_int Try.underlying2 (hval 1 2 v1 rfl rfl) h1
  obtain ⟨a2, rfl, rfl, rfl, g2⟩ := open_int Try.underlying2 (hval 2 2 v2 rfl rfl) h2
  clear hA0 hval0 hsz0 hsz
  obtain ⟨k_, hk_⟩ := Pure.FnExactPartOf a0_0 l0_1 a1 a2 g0_0 g0_1 g1 g2
  refine (laws_FnExactPartOf.calls k_ a0_0 _ _ l0_1 a1 a2 true W hr0_1 hc0_1 hk_).mono fun e W' hp_ => ?_
  obtain ⟨he, hd_⟩ := hp_
  have bel : Below W.heap.size W W' := hd_
  subst he
  exact ⟨_, rfl, _, _, _, [], _, [], hW', trodAll_mk1 (shut_bool Try.underlying4 _), (trodAll_cons_mk (Below.trod laidOut (by kernel_rfl) (of_decide_eq_true (by kernel_rfl)) k0 bel lt0) (trodAll_cons_mk (shut_int Try.underlying2 g1) (trodAll_cons_mk (shut_int Try.underlying2 g2) trodAll_mk0))), rfl, bel.frame _, fun h => by cases h⟩
theorem over : Rows.fnExactPartOfRow.holds Try.pinned (OpenSpec.ofChange Rows.fnExactPartOfSpec) :=
  OpenClaim.holds_of_wide 13 Try.f13 rfl rfl rfl rfl rfl rfl rfl ⟨rfl, rfl, rfl, rfl, rfl⟩ rfl rfl rfl rfl rfl (by kernel_rfl) Try.func13 (by kernel_rfl)
    (of_decide_eq_true (by kernel_rfl)) (by unfold Func.isWrapper; first | (rw [if_pos (by decide +kernel)]; kernel_rfl) | (rw [if_neg (by decide +kernel)]; exact ⟨rfl, rfl⟩))
    (fun os started H enc _ => lifted os started H enc)
theorem proved : Rows.FnExactPartOfSaid := over
#print axioms proved
end Go.Proofs.Ytkmpfgpamlfldaa.fnExactPartOf
namespace Go.Proofs.Ytkmpfgpamlfldaa
/-- The row, under a short name, for the claim. -/
theorem fnExactPartOf_holds : Rows.FnExactPartOfSaid := fnExactPartOf.proved
end Go.Proofs.Ytkmpfgpamlfldaa
