/- The law's statement, out of its pure part and the printed walk.
Conditions: none. -/
import Derived.Test.YtlghcbmkhdibdaaGreatDoorCards
import Derived.Test.YtlghcbmkhdibdaaGreatDoorTie
import Derived.LaidMore
import Derived.MakeChecks
import Derived.SevenTiedAt
import Derived.Stop.LaidErr
import Derived.Stop.Joined
import Derived.Lib.LaidTab
import Derived.Test.YtlghcbmkhdibdaaGreatDoorRows
import Derived.Test.YtlghcbmkhdibdaaGreatDoorVFnExactIxSegments
import Derived.Test.YtlghcbmkhdibdaaGreatDoorPFnExactIxSegmentsx4
import Derived.Test.YtlghcbmkhdibdaaGreatDoorPureFnExactIxSegments
import Derived.WalkKit
import Derived.ProofKit
import Derived.OpenShut
import Derived.ShutString
import Derived.ChangeOld
import Derived.Below
import Derived.SizedLaws
import Derived.Carry
namespace Go.Proofs.YtlghcbmkhdibdaaGreatDoor.fnExactIxSegments
open Go.ChangeShapes Go.WideShapes Go.ChangeAt Go.RowKit Go.Proofs.YtlghcbmkhdibdaaGreatDoor.PFnExactIxSegments Go.Proofs.YtlghcbmkhdibdaaGreatDoorW.PrintWords Go.Proofs.YtlghcbmkhdibdaaGreatDoorW.Opens
open Go.ChangeMaps (open_string shut_string)
set_option linter.unusedVariables false
theorem own : ownKnob Tryz.prog.godebug = none := by kernel_rfl
theorem laidOut : laidOutB Tryz.prog = true := by kernel_rfl
theorem ok9 : Opens Tryz.prog 9 Kd.string (fun s_ : ByteArray => s_.size ≤ maxLen) := Opens.string Tryz.underlying9 (by kernel_rfl)
theorem ok2 : Opens Tryz.prog 2 (Kd.int .i64) (fun n_ : Int => (Lit.int .i64 n_).wf = true) := Opens.int Tryz.underlying2 (by kernel_rfl)
theorem ok59 : Opens Tryz.prog 59 (Kd.slice 9 Kd.string) (fun xs_ : List ByteArray => xs_.length ≤ maxLen ∧ ∀ x_ ∈ xs_, (fun s_ : ByteArray => s_.size ≤ maxLen) x_) := Opens.slice Tryz.underlying59 (by kernel_rfl) ok9
theorem ok197 : Opens Tryz.prog 197 k197 q197 := (Opens.iso (fun x_ : S197 => (x_.f0)) (fun y_ => ⟨y_⟩) (fun _ => rfl) (Opens.struct (d := (Kd.slice 9 Kd.string)) Tryz.underlying197 (by kernel_rfl) (OpensL.last (by rfl) ok59))).imp (fun _ h_ => h_)
theorem ok171 : Opens Tryz.prog 171 (Kd.sliceS 197 k197) (fun xs_ : List (S197) => xs_.length ≤ maxLen ∧ ∀ x_ ∈ xs_, q197 x_) := Opens.slice Tryz.underlying171 (by kernel_rfl) ok197
theorem ok173 : Opens Tryz.prog 173 k173 q173 := (Opens.iso (fun x_ : S173 => (x_.f0, x_.f1)) (fun y_ => ⟨y_.1, y_.2⟩) (fun _ => rfl) (Opens.struct (d := (Kd.pair Kd.string (Kd.sliceS 197 k197))) Tryz.underlying173 (by kernel_rfl) (OpensL.cons (by rfl) ok9 (OpensL.last (by rfl) ok171)))).imp (fun _ h_ => h_)
theorem ok146 : Opens Tryz.prog 146 (Kd.sliceS 173 k173) (fun xs_ : List (S173) => xs_.length ≤ maxLen ∧ ∀ x_ ∈ xs_, q173 x_) := Opens.slice Tryz.underlying146 (by kernel_rfl) ok173
theorem ok148 : Opens Tryz.prog 148 k148 q148 := (Opens.iso (fun x_ : S148 => (x_.f0, x_.f1)) (fun y_ => ⟨y_.1, y_.2⟩) (fun _ => rfl) (Opens.struct (d := (Kd.pair (Kd.int .i64) (Kd.sliceS 173 k173))) Tryz.underlying148 (by kernel_rfl) (OpensL.cons (by rfl) ok2 (OpensL.last (by rfl) ok146)))).imp (fun _ h_ => h_)
theorem ok87 : Opens Tryz.prog 87 (Kd.sliceS 148 k148) (fun xs_ : List (S148) => xs_.length ≤ maxLen ∧ ∀ x_ ∈ xs_, q148 x_) := Opens.slice Tryz.underlying87 (by kernel_rfl) ok148
theorem ok89 : Opens Tryz.prog 89 k89 q89 := (Opens.iso (fun x_ : S89 => (x_.f0, x_.f1, x_.f2)) (fun y_ => ⟨y_.1, y_.2.1, y_.2.2⟩) (fun _ => rfl) (Opens.struct (d := (Kd.pair (Kd.int .i64) (Kd.pair (Kd.int .i64) (Kd.sliceS 148 k148)))) Tryz.underlying89 (by kernel_rfl) (OpensL.cons (by rfl) ok2 (OpensL.cons (by rfl) ok2 (OpensL.last (by rfl) ok87))))).imp (fun _ h_ => h_)
theorem ok22 : Opens Tryz.prog 22 (Kd.sliceS 89 k89) (fun xs_ : List (S89) => xs_.length ≤ maxLen ∧ ∀ x_ ∈ xs_, q89 x_) := Opens.slice Tryz.underlying22 (by kernel_rfl) ok89
theorem top24 : Opens Tryz.prog 24 (Kd.pair Kd.string (Kd.pair Kd.string (Kd.pair (Kd.int .i64) (Kd.sliceS 89 k89)))) (fun x_ => (fun s_ : ByteArray => s_.size ≤ maxLen) x_.1 ∧ ((fun s_ : ByteArray => s_.size ≤ maxLen) x_.2.1 ∧ ((fun n_ : Int => (Lit.int .i64 n_).wf = true) x_.2.2.1 ∧ ((fun xs_ : List (S89) => xs_.length ≤ maxLen ∧ ∀ x_ ∈ xs_, q89 x_) x_.2.2.2)))) := (Opens.struct (d := (Kd.pair Kd.string (Kd.pair Kd.string (Kd.pair (Kd.int .i64) (Kd.sliceS 89 k89))))) Tryz.underlying24 (by kernel_rfl) (OpensL.cons (by rfl) ok9 (OpensL.cons (by rfl) ok9 (OpensL.cons (by rfl) ok2 (OpensL.last (by rfl) ok22))))).imp (fun _ h_ => h_)
set_option maxRecDepth 100000
theorem laid_of {W : World} (h : laidMetH Tryz.prog Rows.fnExactIxSegmentsRow.laid W) : LaidT false Tryz.prog W := by
  rw [MakeChecks.laidMetH_plain _ _ _ (by kernel_rfl)] at h
  have t1_ : laidMet Tryz.prog (Rows.fnExactIxSegmentsRow.laid.drop 1) W := laidMet.tail (show laidMet Tryz.prog (_ :: Rows.fnExactIxSegmentsRow.laid.drop 1) W from h)
  have t2_ : laidMet Tryz.prog (Rows.fnExactIxSegmentsRow.laid.drop 2) W := laidMet.tail (show laidMet Tryz.prog (_ :: Rows.fnExactIxSegmentsRow.laid.drop 2) W from t1_)
  have h2_ : laidMet Tryz.prog (("internal/strconv.uint64pow10", Lib.tabData .u64 Lib.pow10Tab) :: Rows.fnExactIxSegmentsRow.laid.drop 3) W := t2_
  have e0_ := Lib.tabIs_of_head (P := Tryz.prog) (show Tryz.prog.globalNamed "internal/strconv.uint64pow10" = some 0 by kernel_rfl) (show (Tryz.prog.globals[0]?).map (·.type) = some 177 by kernel_rfl) Tryz.underlying177 Tryz.underlying102 (by kernel_rfl) (by kernel_rfl) h2_
  exact ⟨e0_, fun h_ => absurd h_ (by decide), fun h_ => absurd h_ (by decide)⟩
theorem door_met (os : Os) (args : Array Value) : laidMetH Tryz.prog Rows.fnExactIxSegmentsRow.laid ((World.doorLaid Tryz.prog 62 os).forCall (fun _ _ => 0) ⟨#[], args, []⟩).memory :=
  laidMetH_of_parts3 (fuel := 8) (laidMet_of_run' 8 (by kernel_rfl) (by kernel_rfl)) (by kernel_rfl) (by kernel_rfl)
theorem lifted (os : Os) (started : os.Started) (H : Type) (enc : TypeId × Value → H) :
    ReturnsInHanded {} Tryz.checked os 3 .any (fun w args => (Rows.fnExactIxSegmentsSpec.pre enc Tryz.prog Tryz.f3 Rows.fnExactIxSegmentsRow.domain false w args ∧ laidMetH Tryz.prog Rows.fnExactIxSegmentsRow.laid w) ∧ sizedMet enc Tryz.prog Tryz.f3 (OpenSpec.ofChange Rows.fnExactIxSegmentsSpec) false w args) (Rows.fnExactIxSegmentsSpec.post enc Tryz.prog Tryz.f3 false true false false) := by
  refine returnsInHanded_of_change_and (C := Tryz.checked) (X := fun w _ => laidMetH Tryz.prog Rows.fnExactIxSegmentsRow.laid w) (fun _ _ _ hh h => h.of_heap hh) own started (by kernel_rfl) Tryz.func3
    (ChangeSpec.witness_shaped (enc := enc) (C := Tryz.checked) (os := os) (X := fun w _ => laidMetH Tryz.prog Rows.fnExactIxSegmentsRow.laid w) false (World.doorLaid Tryz.prog 62 os) #[.agg #[.string ByteArray.empty, .string ByteArray.empty, .int .i64 0, .slice none 0 0]] 8 rfl (World.shaped_of_RefB (by kernel_rfl) (by kernel_rfl)) (by kernel_rfl) (by kernel_rfl) (by kernel_rfl) (door_met os _)) ?_
  intro W base args ds gs before hval0 hW hcnd hsz0 hL _
  have hsz : (DataW.weightsEach Tryz.prog (Tryz.f3.params.toList ++ Rows.fnExactIxSegmentsSpec.plain.varTypes Tryz.prog) (ds ++ gs)).all (· ≤ reachBytes) = true := hsz0
  have hval : ∀ (j : Nat) t v, Tryz.f3.params[j]? = some t → args[j]? = some v → Value.okWide Tryz.prog W .any base t v := hval0
  have hW' := hW
  obtain ⟨p, q, hA0, hV, rfl, hfz, hnd⟩ := hW
  have hA : DataW.TrodAll enc Tryz.prog W 0 (fun _ => true) true Tryz.f3.params.toList args.toList ds p := hA0
  rw [Tryz.params3] at hA hval hsz
  obtain ⟨v0, vs0, d0, ds0, p0, q0, hargs, rfl, rfl, h0, r0⟩ := trodAll_cons hA
  obtain ⟨rfl, rfl, rfl⟩ := trodAll_nil r0
  obtain rfl : args = #[v0] := by cases args; simp_all
  obtain ⟨rfl, rfl⟩ := trodVars_none hV
  have k0 := h0
  have lt0 : ∀ x ∈ p0, x.block < W.heap.size := by obtain ⟨m, hm⟩ := k0; exact DataW.trod_lt m _ _ _ hm
  obtain ⟨x0, cs0, rfl, hK0, hQ0⟩ := agg_of top24 Tryz.underlying24 (hval 0 24 v0 rfl rfl) h0
  obtain ⟨a0_0, a0_1, a0_2, l0_3⟩ := x0
  obtain ⟨_, _, rfl, rfl, ⟨_, _, rfl, rfl, ⟨_, _, rfl, rfl, ⟨A0_3, c0_3, rfl, hc0_3, hr0_3⟩⟩⟩⟩ := hK0
  obtain ⟨g0_0, g0_1, g0_2, g0_3⟩ := hQ0
  clear hA0 hval0 hsz0 hsz
  obtain ⟨k_, hk_⟩ := Pure.FnExactIxSegments a0_0 a0_1 a0_2 l0_3 g0_0 g0_1 g0_2 g0_3
  refine (F3.calls k_ a0_0 a0_1 a0_2 _ _ l0_3 true W hr0_3 hc0_3 (laid_of hL) hk_).mono fun e W' hp_ => ?_
  obtain ⟨he, hd_⟩ := hp_
  have bel : Below W.heap.size W W' := hd_
  subst he
  exact ⟨_, rfl, _, _, _, [], _, [], hW', trodAll_mk1 (shut_bool Tryz.underlying4 _), (trodAll_cons_mk (Below.trod laidOut (by kernel_rfl) (of_decide_eq_true (by kernel_rfl)) k0 bel lt0) trodAll_mk0), rfl, bel.frame _, fun h => by cases h⟩
theorem over : Rows.fnExactIxSegmentsRow.holds Tryz.pinned (OpenSpec.ofChange Rows.fnExactIxSegmentsSpec) :=
  OpenClaim.holds_of_wide 3 Tryz.f3 rfl rfl rfl rfl rfl rfl rfl ⟨rfl, rfl, rfl, rfl, rfl⟩ rfl rfl rfl rfl rfl (by kernel_rfl) Tryz.func3 (by kernel_rfl)
    (of_decide_eq_true (by kernel_rfl)) (by unfold Func.isWrapper; first | (rw [if_pos (by decide +kernel)]; kernel_rfl) | (rw [if_neg (by decide +kernel)]; exact ⟨rfl, rfl⟩))
    (fun os started H enc _ => lifted os started H enc)
theorem proved : Rows.FnExactIxSegmentsSaid := over
theorem card : Rows.FnExactIxSegmentsCardSaid :=
  Claim7.holds_tied_plain_at .later [] [.data, .data, .data] true (true, "09a3d8a47fc6883b6f43614f6e8baa897f111f1c699a29c3e67364535f5520a4") true
    proved (fun _ h => by cases h) (by kernel_rfl) (fun _ h => by cases h) fnExactIxSegments_row_tie rfl ⟨rfl, rfl⟩ (by kernel_rfl) rfl
    (fun f fn hf hfn => by
      obtain rfl : f = 3 := Option.some.inj ((show Tryz.prog.funcNamed "loop.example/g00096/laws.FnExactIxSegments" = some 3 by kernel_rfl).symm.trans hf) |>.symm
      obtain rfl : fn = Tryz.f3 := (Option.some.inj (Tryz.func3.symm.trans hfn)).symm
      exact ⟨by kernel_rfl, fun j t ht => by
        rw [Tryz.params3] at ht
        have hm : t ∈ [24] := by simpa using Array.mem_of_getElem? ht
        have hall : ([24].all fun u => !Tryz.prog.wantsStandIn u) = true := by kernel_rfl
        exact (show Tryz.prog.wantsStandIn t = false by simpa using List.all_eq_true.1 hall t hm)⟩)
    (by kernel_rfl)
#print axioms card
end Go.Proofs.YtlghcbmkhdibdaaGreatDoor.fnExactIxSegments
namespace Go.Proofs.YtlghcbmkhdibdaaGreatDoor
/-- The row, under a short name, for the claim. -/
theorem fnExactIxSegments_holds : Rows.FnExactIxSegmentsCardSaid := fnExactIxSegments.card
end Go.Proofs.YtlghcbmkhdibdaaGreatDoor
