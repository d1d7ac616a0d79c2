/- The law's statement, out of its pure part and the printed walk.
Conditions: none. -/
import Derived.Test.YtlghcbmkhdibdaaDoorCards
import Derived.Test.YtlghcbmkhdibdaaDoorTie
import Derived.LaidMore
import Derived.MakeChecks
import Derived.SevenTiedAt
import Derived.Stop.LaidErr
import Derived.Stop.Joined
import Derived.Lib.LaidTab
import Derived.Test.YtlghcbmkhdibdaaDoorRows
import Derived.Test.YtlghcbmkhdibdaaDoorVFnExactHeadOf
import Derived.Test.YtlghcbmkhdibdaaDoorPFnExactHeadOfx4
import Derived.Test.YtlghcbmkhdibdaaDoorPureFnExactHeadOf
import Derived.WalkKit
import Derived.ProofKit
import Derived.OpenShut
import Derived.ShutString
import Derived.ChangeOld
import Derived.Below
import Derived.SizedLaws
import Derived.Carry
namespace Go.Proofs.YtlghcbmkhdibdaaDoor.fnExactHeadOf
open Go.ChangeShapes Go.WideShapes Go.ChangeAt Go.RowKit Go.Proofs.YtlghcbmkhdibdaaDoor.PFnExactHeadOf Go.Proofs.YtlghcbmkhdibdaaDoorW.PrintWords Go.Proofs.YtlghcbmkhdibdaaDoorW.Opens
open Go.ChangeMaps (open_string shut_string)
set_option linter.unusedVariables false
theorem own : ownKnob Tryd.prog.godebug = none := by kernel_rfl
theorem laidOut : laidOutB Tryd.prog = true := by kernel_rfl
theorem ok9 : Opens Tryd.prog 9 Kd.string (fun s_ : ByteArray => s_.size ≤ maxLen) := Opens.string Tryd.underlying9 (by kernel_rfl)
theorem ok53 : Opens Tryd.prog 53 (Kd.slice 9 Kd.string) (fun xs_ : List ByteArray => xs_.length ≤ maxLen ∧ ∀ x_ ∈ xs_, (fun s_ : ByteArray => s_.size ≤ maxLen) x_) := Opens.slice Tryd.underlying53 (by kernel_rfl) ok9
theorem ok129 : Opens Tryd.prog 129 k129 q129 := (Opens.iso (fun x_ : S129 => (x_.f0)) (fun y_ => ⟨y_⟩) (fun _ => rfl) (Opens.struct (d := (Kd.slice 9 Kd.string)) Tryd.underlying129 (by kernel_rfl) (OpensL.last (by rfl) ok53))).imp (fun _ h_ => h_)
theorem ok61 : Opens Tryd.prog 61 (Kd.sliceS 129 k129) (fun xs_ : List (S129) => xs_.length ≤ maxLen ∧ ∀ x_ ∈ xs_, q129 x_) := Opens.slice Tryd.underlying61 (by kernel_rfl) ok129
theorem ok63 : Opens Tryd.prog 63 k63 q63 := (Opens.iso (fun x_ : S63 => (x_.f0, x_.f1)) (fun y_ => ⟨y_.1, y_.2⟩) (fun _ => rfl) (Opens.struct (d := (Kd.pair Kd.string (Kd.sliceS 129 k129))) Tryd.underlying63 (by kernel_rfl) (OpensL.cons (by rfl) ok9 (OpensL.last (by rfl) ok61)))).imp (fun _ h_ => h_)
theorem ok33 : Opens Tryd.prog 33 (Kd.sliceS 63 k63) (fun xs_ : List (S63) => xs_.length ≤ maxLen ∧ ∀ x_ ∈ xs_, q63 x_) := Opens.slice Tryd.underlying33 (by kernel_rfl) ok63
set_option maxRecDepth 100000
theorem laid_of {W : World} (h : laidMetH Tryd.prog Rows.fnExactHeadOfRow.laid W) : LaidT true Tryd.prog W := by
  rw [MakeChecks.laidMetH_plain _ _ _ (by kernel_rfl)] at h
  have t1_ : laidMet Tryd.prog (Rows.fnExactHeadOfRow.laid.drop 1) W := laidMet.tail (show laidMet Tryd.prog (_ :: Rows.fnExactHeadOfRow.laid.drop 1) W from h)
  have t2_ : laidMet Tryd.prog (Rows.fnExactHeadOfRow.laid.drop 2) W := laidMet.tail (show laidMet Tryd.prog (_ :: Rows.fnExactHeadOfRow.laid.drop 2) W from t1_)
  have h2_ : laidMet Tryd.prog (("internal/strconv.uint64pow10", Lib.tabData .u64 Lib.pow10Tab) :: Rows.fnExactHeadOfRow.laid.drop 3) W := t2_
  have e0_ := Lib.tabIs_of_head (P := Tryd.prog) (show Tryd.prog.globalNamed "internal/strconv.uint64pow10" = some 2 by kernel_rfl) (show (Tryd.prog.globals[2]?).map (·.type) = some 183 by kernel_rfl) Tryd.underlying183 Tryd.underlying109 (by kernel_rfl) (by kernel_rfl) h2_
  have t3_ : laidMet Tryd.prog (Rows.fnExactHeadOfRow.laid.drop 3) W := laidMet.tail (show laidMet Tryd.prog (_ :: Rows.fnExactHeadOfRow.laid.drop 3) W from t2_)
  have h3_ : laidMet Tryd.prog (("strconv.ErrRange", .iface ("*" ++ "errors.errorString") (.ptr (.agg [.lit (.string [118, 97, 108, 117, 101, 32, 111, 117, 116, 32, 111, 102, 32, 114, 97, 110, 103, 101])]))) :: Rows.fnExactHeadOfRow.laid.drop 4) W := t3_
  obtain ⟨a3_, _, e3_, -, -, -⟩ := laid_sentinel h3_ (show Tryd.prog.globalNamed "strconv.ErrRange" = some 1 by kernel_rfl) (show (Tryd.prog.globals[1]?).map (·.type) = some 133 by kernel_rfl) Tryd.underlying133 (typeName_ptr_named (nm := "errors.errorString") (by kernel_rfl) (by kernel_rfl) (by decide)) Tryd.underlying189 Tryd.underlying191 rfl rfl Tryd.underlying9 (by kernel_rfl) (by kernel_rfl)
  have t4_ : laidMet Tryd.prog (Rows.fnExactHeadOfRow.laid.drop 4) W := laidMet.tail (show laidMet Tryd.prog (_ :: Rows.fnExactHeadOfRow.laid.drop 4) W from t3_)
  have h4_ : laidMet Tryd.prog (("strconv.ErrSyntax", .iface ("*" ++ "errors.errorString") (.ptr (.agg [.lit (.string [105, 110, 118, 97, 108, 105, 100, 32, 115, 121, 110, 116, 97, 120])]))) :: Rows.fnExactHeadOfRow.laid.drop 5) W := t4_
  obtain ⟨a4_, _, e4_, -, -, -⟩ := laid_sentinel h4_ (show Tryd.prog.globalNamed "strconv.ErrSyntax" = some 0 by kernel_rfl) (show (Tryd.prog.globals[0]?).map (·.type) = some 133 by kernel_rfl) Tryd.underlying133 (typeName_ptr_named (nm := "errors.errorString") (by kernel_rfl) (by kernel_rfl) (by decide)) Tryd.underlying189 Tryd.underlying191 rfl rfl Tryd.underlying9 (by kernel_rfl) (by kernel_rfl)
  exact ⟨e0_, fun _ => ⟨_, _, e4_⟩, fun _ => ⟨_, _, e3_⟩⟩
theorem door_met (os : Os) (args : Array Value) : laidMetH Tryd.prog Rows.fnExactHeadOfRow.laid ((World.doorLaid Tryd.prog 62 os).forCall (fun _ _ => 0) ⟨#[], args, []⟩).memory :=
  laidMetH_of_parts3 (fuel := 8) (laidMet_of_run' 8 (by kernel_rfl) (by kernel_rfl)) (by kernel_rfl) (by kernel_rfl)
theorem lifted (os : Os) (started : os.Started) (H : Type) (enc : TypeId × Value → H) :
    ReturnsInHanded {} Tryd.checked os 4 .any (fun w args => (Rows.fnExactHeadOfSpec.pre enc Tryd.prog Tryd.f4 Rows.fnExactHeadOfRow.domain false w args ∧ laidMetH Tryd.prog Rows.fnExactHeadOfRow.laid w) ∧ sizedMet enc Tryd.prog Tryd.f4 (OpenSpec.ofChange Rows.fnExactHeadOfSpec) false w args) (Rows.fnExactHeadOfSpec.post enc Tryd.prog Tryd.f4 false true false false) := by
  refine returnsInHanded_of_change_and (C := Tryd.checked) (X := fun w _ => laidMetH Tryd.prog Rows.fnExactHeadOfRow.laid w) (fun _ _ _ hh h => h.of_heap hh) own started (by kernel_rfl) Tryd.func4
    (ChangeSpec.witness_shaped (enc := enc) (C := Tryd.checked) (os := os) (X := fun w _ => laidMetH Tryd.prog Rows.fnExactHeadOfRow.laid w) false (World.doorLaid Tryd.prog 62 os) #[.slice none 0 0] 8 rfl (World.shaped_of_RefB (by kernel_rfl) (by kernel_rfl)) (by kernel_rfl) (by kernel_rfl) (by kernel_rfl) (door_met os _)) ?_
  intro W base args ds gs before hval0 hW hcnd hsz0 hL _
  have hsz : (DataW.weightsEach Tryd.prog (Tryd.f4.params.toList ++ Rows.fnExactHeadOfSpec.plain.varTypes Tryd.prog) (ds ++ gs)).all (· ≤ reachBytes) = true := hsz0
  have hval : ∀ (j : Nat) t v, Tryd.f4.params[j]? = some t → args[j]? = some v → Value.okWide Tryd.prog W .any base t v := hval0
  have hW' := hW
  obtain ⟨p, q, hA0, hV, rfl, hfz, hnd⟩ := hW
  have hA : DataW.TrodAll enc Tryd.prog W 0 (fun _ => true) true Tryd.f4.params.toList args.toList ds p := hA0
  rw [Tryd.params4] at hA hval hsz
  obtain ⟨v0, vs0, d0, ds0, p0, q0, hargs, rfl, rfl, h0, r0⟩ := trodAll_cons hA
  obtain ⟨rfl, rfl, rfl⟩ := trodAll_nil r0
  obtain rfl : args = #[v0] := by cases args; simp_all
  obtain ⟨rfl, rfl⟩ := trodVars_none hV
  have k0 := h0
  have lt0 : ∀ x ∈ p0, x.block < W.heap.size := by obtain ⟨m, hm⟩ := k0; exact DataW.trod_lt m _ _ _ hm
  obtain ⟨l0, A0, c0, rfl, hc0, hr0, g0⟩ := slice_of ok33 Tryd.underlying33 (hval 0 33 v0 rfl rfl) h0
  clear hA0 hval0 hsz0 hsz
  obtain ⟨k_, hk_⟩ := Pure.FnExactHeadOf l0 g0
  refine (F4.calls k_ _ _ l0 true W hr0 hc0 (laid_of hL) hk_).mono fun e W' hp_ => ?_
  obtain ⟨he, hd_⟩ := hp_
  have bel : Below W.heap.size W W' := hd_
  subst he
  exact ⟨_, rfl, _, _, _, [], _, [], hW', trodAll_mk1 (shut_bool Tryd.underlying4 _), (trodAll_cons_mk (Below.trod laidOut (by kernel_rfl) (of_decide_eq_true (by kernel_rfl)) k0 bel lt0) trodAll_mk0), rfl, bel.frame _, fun h => by cases h⟩
theorem over : Rows.fnExactHeadOfRow.holds Tryd.pinned (OpenSpec.ofChange Rows.fnExactHeadOfSpec) :=
  OpenClaim.holds_of_wide 4 Tryd.f4 rfl rfl rfl rfl rfl rfl rfl ⟨rfl, rfl, rfl, rfl, rfl⟩ rfl rfl rfl rfl rfl (by kernel_rfl) Tryd.func4 (by kernel_rfl)
    (of_decide_eq_true (by kernel_rfl)) (by unfold Func.isWrapper; first | (rw [if_pos (by decide +kernel)]; kernel_rfl) | (rw [if_neg (by decide +kernel)]; exact ⟨rfl, rfl⟩))
    (fun os started H enc _ => lifted os started H enc)
theorem proved : Rows.FnExactHeadOfSaid := over
theorem card : Rows.FnExactHeadOfCardSaid :=
  Claim7.holds_tied_plain_at .later [] [.data, .data, .data, .sentinel, .sentinel] true (true, "4220ca10a9b33271936bf63bc17c09dbbb23fef1af6167462b131bcfedd6487b") true
    proved (fun _ h => by cases h) (by kernel_rfl) (fun _ h => by cases h) fnExactHeadOf_row_tie rfl ⟨rfl, rfl⟩ (by kernel_rfl) rfl
    (fun f fn hf hfn => by
      obtain rfl : f = 4 := Option.some.inj ((show Tryd.prog.funcNamed "loop.example/g00096/laws.FnExactHeadOf" = some 4 by kernel_rfl).symm.trans hf) |>.symm
      obtain rfl : fn = Tryd.f4 := (Option.some.inj (Tryd.func4.symm.trans hfn)).symm
      exact ⟨by kernel_rfl, fun j t ht => by
        rw [Tryd.params4] at ht
        have hm : t ∈ [33] := by simpa using Array.mem_of_getElem? ht
        have hall : ([33].all fun u => !Tryd.prog.wantsStandIn u) = true := by kernel_rfl
        exact (show Tryd.prog.wantsStandIn t = false by simpa using List.all_eq_true.1 hall t hm)⟩)
    (by kernel_rfl)
#print axioms card
end Go.Proofs.YtlghcbmkhdibdaaDoor.fnExactHeadOf
namespace Go.Proofs.YtlghcbmkhdibdaaDoor
/-- The row, under a short name, for the claim. -/
theorem fnExactHeadOf_holds : Rows.FnExactHeadOfCardSaid := fnExactHeadOf.card
end Go.Proofs.YtlghcbmkhdibdaaDoor
