/-
  No cell of these rows narrows 'for every input' (looked for: loops, veiled, ifaces, maps, wideKeys, modest, calm, conditions, laid).
  DERIVED. THE GIVEN ROWS OF THIS SEAT. 11 by the template 'for every input the law returns true; each argument reads behind the call as it read before'; 0 by the template 'total and deterministic' (their statements: YtjffakoifpldeaaTotals.lean).
  GIVEN WITH THE SEED: the statements are not yours to turn. If you find one false, say at which input.
  Laid BY PROGRAM, IN A SANDBOX (cutbox-rows.mjs): the forced cells as the released guide's own fill.sh prints them over the translation 863178e74b9f780e… (all of the seat's roots in one cut). By AI agents, Wed Nov 11 2026. No macro, syntax, notation, axiom, sorry.
-/
import Derived.Test.YtjffakoifpldeaaChecked
import GoSem.Claim
import GoSem.ClaimJoined
import GoSem.ClaimMapViews
import Derived.JoinedTies
import Derived.KernelRfl
namespace Go.Proofs.Ytjffakoifpldeaa
/- THE CELL 'sum', in the pinned program and in every row, IS THE sha256 OF THE DUMP (.gsa) THAT YtjffakoifpldeaaProg.lean LOADS. Nothing in Lean hashes anything: it is a label: what it is worth is what the hold of that sum in a sandbox is worth. -/
noncomputable def Try.pinned : Pinned := { name := "ytjffakoifpldeaa", sum := "863178e74b9f780e9305c82a53046c9605896485a3ce27d4dbd9c3e7f9e52f39", checked := Try.checked }
namespace Rows
def none {H : Type} : Left H := { results := [], args := [] }

/-- 'laws.FnExactCrossRight': WHATEVER THE INPUT: true; the input reads as it did. -/
def fnExactCrossRightSpec : ChangeSpec := { name := "fnExactCrossRight", fn := fun _ => fun
  | [d] => { results := [.lit (.bool true)], args := [d] }
  | _ => none }
def fnExactCrossRightRow : OpenClaim := { program := "ytjffakoifpldeaa", sum := "863178e74b9f780e9305c82a53046c9605896485a3ce27d4dbd9c3e7f9e52f39", func := "loop.example/g00096/laws.FnExactCrossRight", spec := "fnExactCrossRight", unfollowed := true, recurses := true, apart := false }
def FnExactCrossRightSaid : Prop := fnExactCrossRightRow.holds Try.pinned (OpenSpec.ofChange fnExactCrossRightSpec)

/-- ITS FALSE NEIGHBOUR: 'it returns false'. Refute it at one input. -/
def fnExactCrossRightWrong : ChangeSpec := { name := "fnExactCrossRight", fn := fun _ => fun
  | [d] => { results := [.lit (.bool false)], args := [d] }
  | _ => none }
def FnExactCrossRightWrongFalsely : Prop := fnExactCrossRightRow.holds Try.pinned (OpenSpec.ofChange fnExactCrossRightWrong)

/-- 'laws.FnExactCrossOwn': WHATEVER THE INPUT: true; the input reads as it did. -/
def fnExactCrossOwnSpec : ChangeSpec := { name := "fnExactCrossOwn", fn := fun _ => fun
  | [d1, d2, d3] => { results := [.lit (.bool true)], args := [d1, d2, d3] }
  | _ => none }
def fnExactCrossOwnRow : OpenClaim := { program := "ytjffakoifpldeaa", sum := "863178e74b9f780e9305c82a53046c9605896485a3ce27d4dbd9c3e7f9e52f39", func := "loop.example/g00096/laws.FnExactCrossOwn", spec := "fnExactCrossOwn", unfollowed := true, recurses := true, apart := false }
def FnExactCrossOwnSaid : Prop := fnExactCrossOwnRow.holds Try.pinned (OpenSpec.ofChange fnExactCrossOwnSpec)

/-- ITS FALSE NEIGHBOUR: 'it returns false'. Refute it at one input. -/
def fnExactCrossOwnWrong : ChangeSpec := { name := "fnExactCrossOwn", fn := fun _ => fun
  | [d1, d2, d3] => { results := [.lit (.bool false)], args := [d1, d2, d3] }
  | _ => none }
def FnExactCrossOwnWrongFalsely : Prop := fnExactCrossOwnRow.holds Try.pinned (OpenSpec.ofChange fnExactCrossOwnWrong)

/-- 'laws.FnExactCrossTheirs': WHATEVER THE INPUT: true; the input reads as it did. -/
def fnExactCrossTheirsSpec : ChangeSpec := { name := "fnExactCrossTheirs", fn := fun _ => fun
  | [d1, d2, d3] => { results := [.lit (.bool true)], args := [d1, d2, d3] }
  | _ => none }
def fnExactCrossTheirsRow : OpenClaim := { program := "ytjffakoifpldeaa", sum := "863178e74b9f780e9305c82a53046c9605896485a3ce27d4dbd9c3e7f9e52f39", func := "loop.example/g00096/laws.FnExactCrossTheirs", spec := "fnExactCrossTheirs", unfollowed := true, recurses := true, apart := false }
def FnExactCrossTheirsSaid : Prop := fnExactCrossTheirsRow.holds Try.pinned (OpenSpec.ofChange fnExactCrossTheirsSpec)

/-- ITS FALSE NEIGHBOUR: 'it returns false'. Refute it at one input. -/
def fnExactCrossTheirsWrong : ChangeSpec := { name := "fnExactCrossTheirs", fn := fun _ => fun
  | [d1, d2, d3] => { results := [.lit (.bool false)], args := [d1, d2, d3] }
  | _ => none }
def FnExactCrossTheirsWrongFalsely : Prop := fnExactCrossTheirsRow.holds Try.pinned (OpenSpec.ofChange fnExactCrossTheirsWrong)

/-- 'laws.FnExactCrossDrop': WHATEVER THE INPUT: true; the input reads as it did. -/
def fnExactCrossDropSpec : ChangeSpec := { name := "fnExactCrossDrop", fn := fun _ => fun
  | [d1, d2, d3] => { results := [.lit (.bool true)], args := [d1, d2, d3] }
  | _ => none }
def fnExactCrossDropRow : OpenClaim := { program := "ytjffakoifpldeaa", sum := "863178e74b9f780e9305c82a53046c9605896485a3ce27d4dbd9c3e7f9e52f39", func := "loop.example/g00096/laws.FnExactCrossDrop", spec := "fnExactCrossDrop", unfollowed := true, recurses := true, apart := false }
def FnExactCrossDropSaid : Prop := fnExactCrossDropRow.holds Try.pinned (OpenSpec.ofChange fnExactCrossDropSpec)

/-- ITS FALSE NEIGHBOUR: 'it returns false'. Refute it at one input. -/
def fnExactCrossDropWrong : ChangeSpec := { name := "fnExactCrossDrop", fn := fun _ => fun
  | [d1, d2, d3] => { results := [.lit (.bool false)], args := [d1, d2, d3] }
  | _ => none }
def FnExactCrossDropWrongFalsely : Prop := fnExactCrossDropRow.holds Try.pinned (OpenSpec.ofChange fnExactCrossDropWrong)

/-- 'laws.FnExactCrossPut': WHATEVER THE INPUT: true; the input reads as it did. -/
def fnExactCrossPutSpec : ChangeSpec := { name := "fnExactCrossPut", fn := fun _ => fun
  | [d1, d2] => { results := [.lit (.bool true)], args := [d1, d2] }
  | _ => none }
def fnExactCrossPutRow : OpenClaim := { program := "ytjffakoifpldeaa", sum := "863178e74b9f780e9305c82a53046c9605896485a3ce27d4dbd9c3e7f9e52f39", func := "loop.example/g00096/laws.FnExactCrossPut", spec := "fnExactCrossPut", inPlace := ["slices.overlaps[loop.example/g00096/impl.Cross]"], unfollowed := true, recurses := true, apart := false }
def FnExactCrossPutSaid : Prop := fnExactCrossPutRow.holds Try.pinned (OpenSpec.ofChange fnExactCrossPutSpec)

/-- ITS FALSE NEIGHBOUR: 'it returns false'. Refute it at one input. -/
def fnExactCrossPutWrong : ChangeSpec := { name := "fnExactCrossPut", fn := fun _ => fun
  | [d1, d2] => { results := [.lit (.bool false)], args := [d1, d2] }
  | _ => none }
def FnExactCrossPutWrongFalsely : Prop := fnExactCrossPutRow.holds Try.pinned (OpenSpec.ofChange fnExactCrossPutWrong)

/-- 'laws.FnCross': WHATEVER THE INPUT: true; the input reads as it did. -/
def fnCrossSpec : ChangeSpec := { name := "fnCross", fn := fun _ => fun
  | [d] => { results := [.lit (.bool true)], args := [d] }
  | _ => none }
def fnCrossRow : OpenClaim := { program := "ytjffakoifpldeaa", sum := "863178e74b9f780e9305c82a53046c9605896485a3ce27d4dbd9c3e7f9e52f39", func := "loop.example/g00096/laws.FnCross", spec := "fnCross", inPlace := ["slices.overlaps[loop.example/g00096/impl.Cross]"], unfollowed := true, recurses := true, apart := false }
def FnCrossSaid : Prop := fnCrossRow.holds Try.pinned (OpenSpec.ofChange fnCrossSpec)

/-- ITS FALSE NEIGHBOUR: 'it returns false'. Refute it at one input. -/
def fnCrossWrong : ChangeSpec := { name := "fnCross", fn := fun _ => fun
  | [d] => { results := [.lit (.bool false)], args := [d] }
  | _ => none }
def FnCrossWrongFalsely : Prop := fnCrossRow.holds Try.pinned (OpenSpec.ofChange fnCrossWrong)

/-- 'laws.FnExactPartnerAsk': WHATEVER THE INPUT: true; the input reads as it did. -/
def fnExactPartnerAskSpec : ChangeSpec := { name := "fnExactPartnerAsk", fn := fun _ => fun
  | [d1, d2] => { results := [.lit (.bool true)], args := [d1, d2] }
  | _ => none }
def fnExactPartnerAskRow : OpenClaim := { program := "ytjffakoifpldeaa", sum := "863178e74b9f780e9305c82a53046c9605896485a3ce27d4dbd9c3e7f9e52f39", func := "loop.example/g00096/laws.FnExactPartnerAsk", spec := "fnExactPartnerAsk", unfollowed := true, recurses := true, apart := false }
def FnExactPartnerAskSaid : Prop := fnExactPartnerAskRow.holds Try.pinned (OpenSpec.ofChange fnExactPartnerAskSpec)

/-- ITS FALSE NEIGHBOUR: 'it returns false'. Refute it at one input. -/
def fnExactPartnerAskWrong : ChangeSpec := { name := "fnExactPartnerAsk", fn := fun _ => fun
  | [d1, d2] => { results := [.lit (.bool false)], args := [d1, d2] }
  | _ => none }
def FnExactPartnerAskWrongFalsely : Prop := fnExactPartnerAskRow.holds Try.pinned (OpenSpec.ofChange fnExactPartnerAskWrong)

/-- 'laws.FnExactPartnerRun': WHATEVER THE INPUT: true; the input reads as it did. -/
def fnExactPartnerRunSpec : ChangeSpec := { name := "fnExactPartnerRun", fn := fun _ => fun
  | [d1, d2] => { results := [.lit (.bool true)], args := [d1, d2] }
  | _ => none }
def fnExactPartnerRunRow : OpenClaim := { program := "ytjffakoifpldeaa", sum := "863178e74b9f780e9305c82a53046c9605896485a3ce27d4dbd9c3e7f9e52f39", func := "loop.example/g00096/laws.FnExactPartnerRun", spec := "fnExactPartnerRun", inPlace := ["slices.overlaps[loop.example/g00096/impl.Seen]"], unfollowed := true, recurses := true, apart := false }
def FnExactPartnerRunSaid : Prop := fnExactPartnerRunRow.holds Try.pinned (OpenSpec.ofChange fnExactPartnerRunSpec)

/-- ITS FALSE NEIGHBOUR: 'it returns false'. Refute it at one input. -/
def fnExactPartnerRunWrong : ChangeSpec := { name := "fnExactPartnerRun", fn := fun _ => fun
  | [d1, d2] => { results := [.lit (.bool false)], args := [d1, d2] }
  | _ => none }
def FnExactPartnerRunWrongFalsely : Prop := fnExactPartnerRunRow.holds Try.pinned (OpenSpec.ofChange fnExactPartnerRunWrong)

/-- 'laws.FnExactPartnerTake': WHATEVER THE INPUT: true; the input reads as it did. -/
def fnExactPartnerTakeSpec : ChangeSpec := { name := "fnExactPartnerTake", fn := fun _ => fun
  | [d1, d2, d3] => { results := [.lit (.bool true)], args := [d1, d2, d3] }
  | _ => none }
def fnExactPartnerTakeRow : OpenClaim := { program := "ytjffakoifpldeaa", sum := "863178e74b9f780e9305c82a53046c9605896485a3ce27d4dbd9c3e7f9e52f39", func := "loop.example/g00096/laws.FnExactPartnerTake", spec := "fnExactPartnerTake", inPlace := ["slices.overlaps[loop.example/g00096/impl.Seen]"], unfollowed := true, recurses := true, apart := false }
def FnExactPartnerTakeSaid : Prop := fnExactPartnerTakeRow.holds Try.pinned (OpenSpec.ofChange fnExactPartnerTakeSpec)

/-- ITS FALSE NEIGHBOUR: 'it returns false'. Refute it at one input. -/
def fnExactPartnerTakeWrong : ChangeSpec := { name := "fnExactPartnerTake", fn := fun _ => fun
  | [d1, d2, d3] => { results := [.lit (.bool false)], args := [d1, d2, d3] }
  | _ => none }
def FnExactPartnerTakeWrongFalsely : Prop := fnExactPartnerTakeRow.holds Try.pinned (OpenSpec.ofChange fnExactPartnerTakeWrong)

/-- 'laws.FnTakeOnce': WHATEVER THE INPUT: true; the input reads as it did. -/
def fnTakeOnceSpec : ChangeSpec := { name := "fnTakeOnce", fn := fun _ => fun
  | [d] => { results := [.lit (.bool true)], args := [d] }
  | _ => none }
def fnTakeOnceRow : OpenClaim := { program := "ytjffakoifpldeaa", sum := "863178e74b9f780e9305c82a53046c9605896485a3ce27d4dbd9c3e7f9e52f39", func := "loop.example/g00096/laws.FnTakeOnce", spec := "fnTakeOnce", inPlace := ["slices.overlaps[loop.example/g00096/impl.Seen]"], unfollowed := true, recurses := true, apart := false }
def FnTakeOnceSaid : Prop := fnTakeOnceRow.holds Try.pinned (OpenSpec.ofChange fnTakeOnceSpec)

/-- ITS FALSE NEIGHBOUR: 'it returns false'. Refute it at one input. -/
def fnTakeOnceWrong : ChangeSpec := { name := "fnTakeOnce", fn := fun _ => fun
  | [d] => { results := [.lit (.bool false)], args := [d] }
  | _ => none }
def FnTakeOnceWrongFalsely : Prop := fnTakeOnceRow.holds Try.pinned (OpenSpec.ofChange fnTakeOnceWrong)

/-- 'laws.FnWindow': WHATEVER THE INPUT: true; the input reads as it did. -/
def fnWindowSpec : ChangeSpec := { name := "fnWindow", fn := fun _ => fun
  | [d] => { results := [.lit (.bool true)], args := [d] }
  | _ => none }
def fnWindowRow : OpenClaim := { program := "ytjffakoifpldeaa", sum := "863178e74b9f780e9305c82a53046c9605896485a3ce27d4dbd9c3e7f9e52f39", func := "loop.example/g00096/laws.FnWindow", spec := "fnWindow", inPlace := ["slices.overlaps[loop.example/g00096/impl.Seen]"], unfollowed := true, recurses := true, apart := false }
def FnWindowSaid : Prop := fnWindowRow.holds Try.pinned (OpenSpec.ofChange fnWindowSpec)

/-- ITS FALSE NEIGHBOUR: 'it returns false'. Refute it at one input. -/
def fnWindowWrong : ChangeSpec := { name := "fnWindow", fn := fun _ => fun
  | [d] => { results := [.lit (.bool false)], args := [d] }
  | _ => none }
def FnWindowWrongFalsely : Prop := fnWindowRow.holds Try.pinned (OpenSpec.ofChange fnWindowWrong)

/- THE SECOND FORM. 'bulk': how many values and letters a reading holds, each counted each time it is reached (what is shared counts as often as it is met; a slice's spare places count too). A statement '..UptoSaid' is the law's where the arguments, and the package variables that the reading takes, are together of bulk at most 1048576: NARROWER than '..Said'. Prove '..Said' where nothing that the law and all that it calls make is longer than what came in: it says more and counts as full. Else prove '..UptoSaid'. A law counts once. -/
mutual
def uptoBulk {H : Type} : DataW H → Nat
  | .lit (.string bytes) => bytes.length + 1
  | .lit _ => 1
  | .nil => 1
  | .ptr d => uptoBulk d + 1
  | .slice elems spare => uptoBulkAll elems + uptoBulkAll spare + 1
  | .agg parts => uptoBulkAll parts + 1
  | .iface _ d => uptoBulk d + 1
  | .map entries => uptoBulkEntries entries + 1
  | .held _ => 1
def uptoBulkAll {H : Type} : List (DataW H) → Nat
  | [] => 0
  | d :: r => uptoBulk d + uptoBulkAll r
def uptoBulkEntries {H : Type} : List (Lit × DataW H) → Nat
  | [] => 0
  | x :: r => uptoBulkEntry x + uptoBulkEntries r
def uptoBulkEntry {H : Type} : Lit × DataW H → Nat
  | (.string bytes, d) => bytes.length + uptoBulk d + 1
  | (_, d) => uptoBulk d + 1
 end
def uptoSmall : (H : Type) → List (DataW H) → Bool := fun _ ds => decide (uptoBulkAll ds ≤ 1048576)
def OpenSpec.upto (s : _root_.Go.ChangeSpec) : _root_.Go.OpenSpec := { _root_.Go.OpenSpec.ofChange s with cond := some uptoSmall }

/-- 'laws.FnExactCrossRight', WHERE WHAT IT READS IS OF BULK AT MOST 1048576: true; the input reads as it did. -/
def fnExactCrossRightUptoRow : OpenClaim := { program := "ytjffakoifpldeaa", sum := "863178e74b9f780e9305c82a53046c9605896485a3ce27d4dbd9c3e7f9e52f39", func := "loop.example/g00096/laws.FnExactCrossRight", spec := "fnExactCrossRight", unfollowed := true, recurses := true, apart := false, narrowed := true }
def FnExactCrossRightUptoSaid : Prop := fnExactCrossRightUptoRow.holds Try.pinned (OpenSpec.upto fnExactCrossRightSpec)

/-- 'laws.FnExactCrossOwn', WHERE WHAT IT READS IS OF BULK AT MOST 1048576: true; the input reads as it did. -/
def fnExactCrossOwnUptoRow : OpenClaim := { program := "ytjffakoifpldeaa", sum := "863178e74b9f780e9305c82a53046c9605896485a3ce27d4dbd9c3e7f9e52f39", func := "loop.example/g00096/laws.FnExactCrossOwn", spec := "fnExactCrossOwn", unfollowed := true, recurses := true, apart := false, narrowed := true }
def FnExactCrossOwnUptoSaid : Prop := fnExactCrossOwnUptoRow.holds Try.pinned (OpenSpec.upto fnExactCrossOwnSpec)

/-- 'laws.FnExactCrossTheirs', WHERE WHAT IT READS IS OF BULK AT MOST 1048576: true; the input reads as it did. -/
def fnExactCrossTheirsUptoRow : OpenClaim := { program := "ytjffakoifpldeaa", sum := "863178e74b9f780e9305c82a53046c9605896485a3ce27d4dbd9c3e7f9e52f39", func := "loop.example/g00096/laws.FnExactCrossTheirs", spec := "fnExactCrossTheirs", unfollowed := true, recurses := true, apart := false, narrowed := true }
def FnExactCrossTheirsUptoSaid : Prop := fnExactCrossTheirsUptoRow.holds Try.pinned (OpenSpec.upto fnExactCrossTheirsSpec)

/-- 'laws.FnExactCrossDrop', WHERE WHAT IT READS IS OF BULK AT MOST 1048576: true; the input reads as it did. -/
def fnExactCrossDropUptoRow : OpenClaim := { program := "ytjffakoifpldeaa", sum := "863178e74b9f780e9305c82a53046c9605896485a3ce27d4dbd9c3e7f9e52f39", func := "loop.example/g00096/laws.FnExactCrossDrop", spec := "fnExactCrossDrop", unfollowed := true, recurses := true, apart := false, narrowed := true }
def FnExactCrossDropUptoSaid : Prop := fnExactCrossDropUptoRow.holds Try.pinned (OpenSpec.upto fnExactCrossDropSpec)

/-- 'laws.FnExactCrossPut', WHERE WHAT IT READS IS OF BULK AT MOST 1048576: true; the input reads as it did. -/
def fnExactCrossPutUptoRow : OpenClaim := { program := "ytjffakoifpldeaa", sum := "863178e74b9f780e9305c82a53046c9605896485a3ce27d4dbd9c3e7f9e52f39", func := "loop.example/g00096/laws.FnExactCrossPut", spec := "fnExactCrossPut", inPlace := ["slices.overlaps[loop.example/g00096/impl.Cross]"], unfollowed := true, recurses := true, apart := false, narrowed := true }
def FnExactCrossPutUptoSaid : Prop := fnExactCrossPutUptoRow.holds Try.pinned (OpenSpec.upto fnExactCrossPutSpec)

/-- 'laws.FnCross', WHERE WHAT IT READS IS OF BULK AT MOST 1048576: true; the input reads as it did. -/
def fnCrossUptoRow : OpenClaim := { program := "ytjffakoifpldeaa", sum := "863178e74b9f780e9305c82a53046c9605896485a3ce27d4dbd9c3e7f9e52f39", func := "loop.example/g00096/laws.FnCross", spec := "fnCross", inPlace := ["slices.overlaps[loop.example/g00096/impl.Cross]"], unfollowed := true, recurses := true, apart := false, narrowed := true }
def FnCrossUptoSaid : Prop := fnCrossUptoRow.holds Try.pinned (OpenSpec.upto fnCrossSpec)

/-- 'laws.FnExactPartnerAsk', WHERE WHAT IT READS IS OF BULK AT MOST 1048576: true; the input reads as it did. -/
def fnExactPartnerAskUptoRow : OpenClaim := { program := "ytjffakoifpldeaa", sum := "863178e74b9f780e9305c82a53046c9605896485a3ce27d4dbd9c3e7f9e52f39", func := "loop.example/g00096/laws.FnExactPartnerAsk", spec := "fnExactPartnerAsk", unfollowed := true, recurses := true, apart := false, narrowed := true }
def FnExactPartnerAskUptoSaid : Prop := fnExactPartnerAskUptoRow.holds Try.pinned (OpenSpec.upto fnExactPartnerAskSpec)

/-- 'laws.FnExactPartnerRun', WHERE WHAT IT READS IS OF BULK AT MOST 1048576: true; the input reads as it did. -/
def fnExactPartnerRunUptoRow : OpenClaim := { program := "ytjffakoifpldeaa", sum := "863178e74b9f780e9305c82a53046c9605896485a3ce27d4dbd9c3e7f9e52f39", func := "loop.example/g00096/laws.FnExactPartnerRun", spec := "fnExactPartnerRun", inPlace := ["slices.overlaps[loop.example/g00096/impl.Seen]"], unfollowed := true, recurses := true, apart := false, narrowed := true }
def FnExactPartnerRunUptoSaid : Prop := fnExactPartnerRunUptoRow.holds Try.pinned (OpenSpec.upto fnExactPartnerRunSpec)

/-- 'laws.FnExactPartnerTake', WHERE WHAT IT READS IS OF BULK AT MOST 1048576: true; the input reads as it did. -/
def fnExactPartnerTakeUptoRow : OpenClaim := { program := "ytjffakoifpldeaa", sum := "863178e74b9f780e9305c82a53046c9605896485a3ce27d4dbd9c3e7f9e52f39", func := "loop.example/g00096/laws.FnExactPartnerTake", spec := "fnExactPartnerTake", inPlace := ["slices.overlaps[loop.example/g00096/impl.Seen]"], unfollowed := true, recurses := true, apart := false, narrowed := true }
def FnExactPartnerTakeUptoSaid : Prop := fnExactPartnerTakeUptoRow.holds Try.pinned (OpenSpec.upto fnExactPartnerTakeSpec)

/-- 'laws.FnTakeOnce', WHERE WHAT IT READS IS OF BULK AT MOST 1048576: true; the input reads as it did. -/
def fnTakeOnceUptoRow : OpenClaim := { program := "ytjffakoifpldeaa", sum := "863178e74b9f780e9305c82a53046c9605896485a3ce27d4dbd9c3e7f9e52f39", func := "loop.example/g00096/laws.FnTakeOnce", spec := "fnTakeOnce", inPlace := ["slices.overlaps[loop.example/g00096/impl.Seen]"], unfollowed := true, recurses := true, apart := false, narrowed := true }
def FnTakeOnceUptoSaid : Prop := fnTakeOnceUptoRow.holds Try.pinned (OpenSpec.upto fnTakeOnceSpec)

/-- 'laws.FnWindow', WHERE WHAT IT READS IS OF BULK AT MOST 1048576: true; the input reads as it did. -/
def fnWindowUptoRow : OpenClaim := { program := "ytjffakoifpldeaa", sum := "863178e74b9f780e9305c82a53046c9605896485a3ce27d4dbd9c3e7f9e52f39", func := "loop.example/g00096/laws.FnWindow", spec := "fnWindow", inPlace := ["slices.overlaps[loop.example/g00096/impl.Seen]"], unfollowed := true, recurses := true, apart := false, narrowed := true }
def FnWindowUptoSaid : Prop := fnWindowUptoRow.holds Try.pinned (OpenSpec.upto fnWindowSpec)

end Rows
end Go.Proofs.Ytjffakoifpldeaa
