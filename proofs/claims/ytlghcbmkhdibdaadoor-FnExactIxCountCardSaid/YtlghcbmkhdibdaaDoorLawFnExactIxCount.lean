/- The law's statement, out of its pure part and the printed walk.
Conditions: none. -/
import Derived.Test.YtlghcbmkhdibdaaDoorCards
import Derived.Test.YtlghcbmkhdibdaaDoorTie
import Derived.LaidMore
import Derived.MakeChecks
import Derived.SevenTiedAt
import Derived.Stop.LaidErr
import Derived.Stop.Joined
import Derived.Lib.LaidTab
import Derived.Test.YtlghcbmkhdibdaaDoorRows
import Derived.Test.YtlghcbmkhdibdaaDoorVFnExactIxCount
import Derived.Test.YtlghcbmkhdibdaaDoorPFnExactIxCountx4
import Derived.Test.YtlghcbmkhdibdaaDoorPureFnExactIxCount
import Derived.WalkKit
import Derived.ProofKit
import Derived.OpenShut
import Derived.ShutString
import Derived.ChangeOld
import Derived.Below
import Derived.SizedLaws
import Derived.Carry
namespace Go.Proofs.YtlghcbmkhdibdaaDoor.fnExactIxCount
open Go.ChangeShapes Go.WideShapes Go.ChangeAt Go.RowKit Go.Proofs.YtlghcbmkhdibdaaDoor.PFnExactIxCount Go.Proofs.YtlghcbmkhdibdaaDoorW.PrintWords Go.Proofs.YtlghcbmkhdibdaaDoorW.Opens
open Go.ChangeMaps (open_string shut_string)
set_option linter.unusedVariables false
theorem own : ownKnob Tryd.prog.godebug = none := by kernel_rfl
theorem laidOut : laidOutB Tryd.prog = true := by kernel_rfl
theorem ok9 : Opens Tryd.prog 9 Kd.string (fun s_ : ByteArray => s_.size ≤ maxLen) := Opens.string Tryd.underlying9 (by kernel_rfl)
theorem ok2 : Opens Tryd.prog 2 (Kd.int .i64) (fun n_ : Int => (Lit.int .i64 n_).wf = true) := Opens.int Tryd.underlying2 (by kernel_rfl)
theorem ok53 : Opens Tryd.prog 53 (Kd.slice 9 Kd.string) (fun xs_ : List ByteArray => xs_.length ≤ maxLen ∧ ∀ x_ ∈ xs_, (fun s_ : ByteArray => s_.size ≤ maxLen) x_) := Opens.slice Tryd.underlying53 (by kernel_rfl) ok9
theorem ok129 : Opens Tryd.prog 129 k129 q129 := (Opens.iso (fun x_ : S129 => (x_.f0)) (fun y_ => ⟨y_⟩) (fun _ => rfl) (Opens.struct (d := (Kd.slice 9 Kd.string)) Tryd.underlying129 (by kernel_rfl) (OpensL.last (by rfl) ok53))).imp (fun _ h_ => h_)
theorem ok61 : Opens Tryd.prog 61 (Kd.slice 129 k129) (fun xs_ : List (S129) => xs_.length ≤ maxLen ∧ ∀ x_ ∈ xs_, q129 x_) := Opens.slice Tryd.underlying61 (by kernel_rfl) ok129
theorem ok63 : Opens Tryd.prog 63 k63 q63 := (Opens.iso (fun x_ : S63 => (x_.f0, x_.f1)) (fun y_ => ⟨y_.1, y_.2⟩) (fun _ => rfl) (Opens.struct (d := (Kd.pair Kd.string (Kd.slice 129 k129))) Tryd.underlying63 (by kernel_rfl) (OpensL.cons (by rfl) ok9 (OpensL.last (by rfl) ok61)))).imp (fun _ h_ => h_)
theorem ok33 : Opens Tryd.prog 33 (Kd.slice 63 k63) (fun xs_ : List (S63) => xs_.length ≤ maxLen ∧ ∀ x_ ∈ xs_, q63 x_) := Opens.slice Tryd.underlying33 (by kernel_rfl) ok63
theorem ok150 : Opens Tryd.prog 150 k150 q150 := (Opens.iso (fun x_ : S150 => (x_.f0, x_.f1)) (fun y_ => ⟨y_.1, y_.2⟩) (fun _ => rfl) (Opens.struct (d := (Kd.pair (Kd.int .i64) (Kd.slice 63 k63))) Tryd.underlying150 (by kernel_rfl) (OpensL.cons (by rfl) ok2 (OpensL.last (by rfl) ok33)))).imp (fun _ h_ => h_)
theorem ok96 : Opens Tryd.prog 96 (Kd.slice 150 k150) (fun xs_ : List (S150) => xs_.length ≤ maxLen ∧ ∀ x_ ∈ xs_, q150 x_) := Opens.slice Tryd.underlying96 (by kernel_rfl) ok150
theorem ok98 : Opens Tryd.prog 98 k98 q98 := (Opens.iso (fun x_ : S98 => (x_.f0, x_.f1, x_.f2)) (fun y_ => ⟨y_.1, y_.2.1, y_.2.2⟩) (fun _ => rfl) (Opens.struct (d := (Kd.pair (Kd.int .i64) (Kd.pair (Kd.int .i64) (Kd.slice 150 k150)))) Tryd.underlying98 (by kernel_rfl) (OpensL.cons (by rfl) ok2 (OpensL.cons (by rfl) ok2 (OpensL.last (by rfl) ok96))))).imp (fun _ h_ => h_)
theorem ok22 : Opens Tryd.prog 22 (Kd.slice 98 k98) (fun xs_ : List (S98) => xs_.length ≤ maxLen ∧ ∀ x_ ∈ xs_, q98 x_) := Opens.slice Tryd.underlying22 (by kernel_rfl) ok98
theorem top24 : Opens Tryd.prog 24 (Kd.pair Kd.string (Kd.pair Kd.string (Kd.pair (Kd.int .i64) (Kd.slice 98 k98)))) (fun x_ => (fun s_ : ByteArray => s_.size ≤ maxLen) x_.1 ∧ ((fun s_ : ByteArray => s_.size ≤ maxLen) x_.2.1 ∧ ((fun n_ : Int => (Lit.int .i64 n_).wf = true) x_.2.2.1 ∧ ((fun xs_ : List (S98) => xs_.length ≤ maxLen ∧ ∀ x_ ∈ xs_, q98 x_) x_.2.2.2)))) := (Opens.struct (d := (Kd.pair Kd.string (Kd.pair Kd.string (Kd.pair (Kd.int .i64) (Kd.slice 98 k98))))) Tryd.underlying24 (by kernel_rfl) (OpensL.cons (by rfl) ok9 (OpensL.cons (by rfl) ok9 (OpensL.cons (by rfl) ok2 (OpensL.last (by rfl) ok22))))).imp (fun _ h_ => h_)
set_option maxRecDepth 100000
theorem laid_of {W : World} (h : laidMetH Tryd.prog Rows.fnExactIxCountRow.laid W) : LaidT false Tryd.prog W := by
  rw [MakeChecks.laidMetH_plain _ _ _ (by kernel_rfl)] at h
  have t1_ : laidMet Tryd.prog (Rows.fnExactIxCountRow.laid.drop 1) W := laidMet.tail (show laidMet Tryd.prog (_ :: Rows.fnExactIxCountRow.laid.drop 1) W from h)
  have t2_ : laidMet Tryd.prog (Rows.fnExactIxCountRow.laid.drop 2) W := laidMet.tail (show laidMet Tryd.prog (_ :: Rows.fnExactIxCountRow.laid.drop 2) W from t1_)
  have h2_ : laidMet Tryd.prog (("internal/strconv.uint64pow10", Lib.tabData .u64 Lib.pow10Tab) :: Rows.fnExactIxCountRow.laid.drop 3) W := t2_
  have e0_ := Lib.tabIs_of_head (P := Tryd.prog) (show Tryd.prog.globalNamed "internal/strconv.uint64pow10" = some 2 by kernel_rfl) (show (Tryd.prog.globals[2]?).map (·.type) = some 183 by kernel_rfl) Tryd.underlying183 Tryd.underlying109 (by kernel_rfl) (by kernel_rfl) h2_
  exact ⟨e0_, fun h_ => absurd h_ (by decide), fun h_ => absurd h_ (by decide)⟩
theorem door_met (os : Os) (args : Array Value) : laidMetH Tryd.prog Rows.fnExactIxCountRow.laid ((World.doorLaid Tryd.prog 62 os).forCall (fun _ _ => 0) ⟨#[], args, []⟩).memory :=
  laidMetH_of_parts3 (fuel := 8) (laidMet_of_run' 8 (by kernel_rfl) (by kernel_rfl)) (by kernel_rfl) (by kernel_rfl)
theorem lifted (os : Os) (started : os.Started) (H : Type) (enc : TypeId × Value → H) :
    ReturnsInHanded {} Tryd.checked os 3 .any (fun w args => (Rows.fnExactIxCountSpec.pre enc Tryd.prog Tryd.f3 Rows.fnExactIxCountRow.domain false w args ∧ laidMetH Tryd.prog Rows.fnExactIxCountRow.laid w) ∧ sizedMet enc Tryd.prog Tryd.f3 (OpenSpec.ofChange Rows.fnExactIxCountSpec) false w args) (Rows.fnExactIxCountSpec.post enc Tryd.prog Tryd.f3 false true false false) := by
  refine returnsInHanded_of_change_and (C := Tryd.checked) (X := fun w _ => laidMetH Tryd.prog Rows.fnExactIxCountRow.laid w) (fun _ _ _ hh h => h.of_heap hh) own started (by kernel_rfl) Tryd.func3
    (ChangeSpec.witness_shaped (enc := enc) (C := Tryd.checked) (os := os) (X := fun w _ => laidMetH Tryd.prog Rows.fnExactIxCountRow.laid w) false (World.doorLaid Tryd.prog 62 os) #[.agg #[.string ByteArray.empty, .string ByteArray.empty, .int .i64 0, .slice none 0 0]] 8 rfl (World.shaped_of_RefB (by kernel_rfl) (by kernel_rfl)) (by kernel_rfl) (by kernel_rfl) (by kernel_rfl) (door_met os _)) ?_
  intro W base args ds gs before hval0 hW hcnd hsz0 hL _
  have hsz : (DataW.weightsEach Tryd.prog (Tryd.f3.params.toList ++ Rows.fnExactIxCountSpec.plain.varTypes Tryd.prog) (ds ++ gs)).all (· ≤ reachBytes) = true := hsz0
  have hval : ∀ (j : Nat) t v, Tryd.f3.params[j]? = some t → args[j]? = some v → Value.okWide Tryd.prog W .any base t v := hval0
  have hW' := hW
  obtain ⟨p, q, hA0, hV, rfl, hfz, hnd⟩ := hW
  have hA : DataW.TrodAll enc Tryd.prog W 0 (fun _ => true) true Tryd.f3.params.toList args.toList ds p := hA0
  rw [Tryd.params3] at hA hval hsz
  obtain ⟨v0, vs0, d0, ds0, p0, q0, hargs, rfl, rfl, h0, r0⟩ := trodAll_cons hA
  obtain ⟨rfl, rfl, rfl⟩ := trodAll_nil r0
  obtain rfl : args = #[v0] := by cases args; simp_all
  obtain ⟨rfl, rfl⟩ := trodVars_none hV
  have k0 := h0
  have lt0 : ∀ x ∈ p0, x.block < W.heap.size := by obtain ⟨m, hm⟩ := k0; exact DataW.trod_lt m _ _ _ hm
  obtain ⟨x0, cs0, rfl, hK0, hQ0⟩ := agg_of top24 Tryd.underlying24 (hval 0 24 v0 rfl rfl) h0
  obtain ⟨a0_0, a0_1, a0_2, l0_3⟩ := x0
  obtain ⟨_, _, rfl, rfl, ⟨_, _, rfl, rfl, ⟨_, _, rfl, rfl, ⟨A0_3, c0_3, rfl, hc0_3, hr0_3⟩⟩⟩⟩ := hK0
  obtain ⟨g0_0, g0_1, g0_2, g0_3⟩ := hQ0
  clear hA0 hval0 hsz0 hsz
  obtain ⟨k_, hk_⟩ := Pure.FnExactIxCount a0_0 a0_1 a0_2 l0_3 g0_0 g0_1 g0_2 g0_3
  refine (F3.calls k_ a0_0 a0_1 a0_2 _ _ l0_3 true W hr0_3 hc0_3 (laid_of hL) hk_).mono fun e W' hp_ => ?_
  obtain ⟨he, hd_⟩ := hp_
  have bel : Below W.heap.size W W' := hd_
  subst he
  exact ⟨_, rfl, _, _, _, [], _, [], hW', trodAll_mk1 (shut_bool Tryd.underlying4 _), (trodAll_cons_mk (Below.trod laidOut (by kernel_rfl) (of_decide_eq_true (by kernel_rfl)) k0 bel lt0) trodAll_mk0), rfl, bel.frame _, fun h => by cases h⟩
theorem over : Rows.fnExactIxCountRow.holds Tryd.pinned (OpenSpec.ofChange Rows.fnExactIxCountSpec) :=
  OpenClaim.holds_of_wide 3 Tryd.f3 rfl rfl rfl rfl rfl rfl rfl ⟨rfl, rfl, rfl, rfl, rfl⟩ rfl rfl rfl rfl rfl (by kernel_rfl) Tryd.func3 (by kernel_rfl)
    (of_decide_eq_true (by kernel_rfl)) (by unfold Func.isWrapper; first | (rw [if_pos (by decide +kernel)]; kernel_rfl) | (rw [if_neg (by decide +kernel)]; exact ⟨rfl, rfl⟩))
    (fun os started H enc _ => lifted os started H enc)
theorem proved : Rows.FnExactIxCountSaid := over
theorem card : Rows.FnExactIxCountCardSaid :=
  Claim7.holds_tied_plain_at .later [] [.data, .data, .data] true (true, "4220ca10a9b33271936bf63bc17c09dbbb23fef1af6167462b131bcfedd6487b") true
    proved (fun _ h => by cases h) (by kernel_rfl) (fun _ h => by cases h) fnExactIxCount_row_tie rfl ⟨rfl, rfl⟩ (by kernel_rfl) rfl
    (fun f fn hf hfn => by
      obtain rfl : f = 3 := Option.some.inj ((show Tryd.prog.funcNamed "loop.example/g00096/laws.FnExactIxCount" = some 3 by kernel_rfl).symm.trans hf) |>.symm
      obtain rfl : fn = Tryd.f3 := (Option.some.inj (Tryd.func3.symm.trans hfn)).symm
      exact ⟨by kernel_rfl, fun j t ht => by
        rw [Tryd.params3] at ht
        have hm : t ∈ [24] := by simpa using Array.mem_of_getElem? ht
        have hall : ([24].all fun u => !Tryd.prog.wantsStandIn u) = true := by kernel_rfl
        exact (show Tryd.prog.wantsStandIn t = false by simpa using List.all_eq_true.1 hall t hm)⟩)
    (by kernel_rfl)
#print axioms card
end Go.Proofs.YtlghcbmkhdibdaaDoor.fnExactIxCount
namespace Go.Proofs.YtlghcbmkhdibdaaDoor
/-- The row, under a short name, for the claim. -/
theorem fnExactIxCount_holds : Rows.FnExactIxCountCardSaid := fnExactIxCount.card
end Go.Proofs.YtlghcbmkhdibdaaDoor
