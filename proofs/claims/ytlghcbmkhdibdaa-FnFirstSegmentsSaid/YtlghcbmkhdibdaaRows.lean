/-
  No cell of these rows narrows 'for every input' (looked for: loops, veiled, ifaces, maps, wideKeys, modest, calm, conditions, laid).
  DERIVED. THE GIVEN ROWS OF THIS SEAT. 5 by the template 'for every input the law returns true; each argument reads behind the call as it read before'; 0 by the template 'total and deterministic' (their statements: YtlghcbmkhdibdaaTotals.lean).
  GIVEN WITH THE SEED: the statements are not yours to turn. If you find one false, say at which input.
  Laid BY PROGRAM, IN A SANDBOX (cutbox-rows.mjs): the forced cells as the released guide's own fill.sh prints them over the translation 237e812468758d00… (all of the seat's roots in one cut). By AI agents, Wed Nov 11 2026. No macro, syntax, notation, axiom, sorry.
-/
import Derived.Test.YtlghcbmkhdibdaaChecked
import GoSem.Claim
import GoSem.ClaimJoined
import GoSem.ClaimMapViews
import Derived.JoinedTies
import Derived.KernelRfl
namespace Go.Proofs.Ytlghcbmkhdibdaa
/- THE CELL 'sum', in the pinned program and in every row, IS THE sha256 OF THE DUMP (.gsa) THAT YtlghcbmkhdibdaaProg.lean LOADS. Nothing in Lean hashes anything: it is a label: what it is worth is what the hold of that sum in a sandbox is worth. -/
noncomputable def Try.pinned : Pinned := { name := "ytlghcbmkhdibdaa", sum := "237e812468758d00a47e046ddfa088eb973188dbf015f76f12fa2c7ae55b6aa2", checked := Try.checked }
namespace Rows
def none {H : Type} : Left H := { results := [], args := [] }

/-- 'laws.FnExactPaperSame': WHATEVER THE INPUT: true; the input reads as it did. -/
def fnExactPaperSameSpec : ChangeSpec := { name := "fnExactPaperSame", fn := fun _ => fun
  | [d1, d2] => { results := [.lit (.bool true)], args := [d1, d2] }
  | _ => none }
def fnExactPaperSameRow : OpenClaim := { program := "ytlghcbmkhdibdaa", sum := "237e812468758d00a47e046ddfa088eb973188dbf015f76f12fa2c7ae55b6aa2", func := "loop.example/g00096/laws.FnExactPaperSame", spec := "fnExactPaperSame", apart := false }
def FnExactPaperSameSaid : Prop := fnExactPaperSameRow.holds Try.pinned (OpenSpec.ofChange fnExactPaperSameSpec)

/-- ITS FALSE NEIGHBOUR: 'it returns false'. Refute it at one input. -/
def fnExactPaperSameWrong : ChangeSpec := { name := "fnExactPaperSame", fn := fun _ => fun
  | [d1, d2] => { results := [.lit (.bool false)], args := [d1, d2] }
  | _ => none }
def FnExactPaperSameWrongFalsely : Prop := fnExactPaperSameRow.holds Try.pinned (OpenSpec.ofChange fnExactPaperSameWrong)

/-- 'laws.FnExactParcelSame': WHATEVER THE INPUT: true; the input reads as it did. -/
def fnExactParcelSameSpec : ChangeSpec := { name := "fnExactParcelSame", fn := fun _ => fun
  | [d1, d2] => { results := [.lit (.bool true)], args := [d1, d2] }
  | _ => none }
def fnExactParcelSameRow : OpenClaim := { program := "ytlghcbmkhdibdaa", sum := "237e812468758d00a47e046ddfa088eb973188dbf015f76f12fa2c7ae55b6aa2", func := "loop.example/g00096/laws.FnExactParcelSame", spec := "fnExactParcelSame", unfollowed := true, recurses := true, apart := false }
def FnExactParcelSameSaid : Prop := fnExactParcelSameRow.holds Try.pinned (OpenSpec.ofChange fnExactParcelSameSpec)

/-- ITS FALSE NEIGHBOUR: 'it returns false'. Refute it at one input. -/
def fnExactParcelSameWrong : ChangeSpec := { name := "fnExactParcelSame", fn := fun _ => fun
  | [d1, d2] => { results := [.lit (.bool false)], args := [d1, d2] }
  | _ => none }
def FnExactParcelSameWrongFalsely : Prop := fnExactParcelSameRow.holds Try.pinned (OpenSpec.ofChange fnExactParcelSameWrong)

/-- 'laws.FnSegments': WHATEVER THE INPUT: true; the input reads as it did. -/
def fnSegmentsSpec : ChangeSpec := { name := "fnSegments", fn := fun _ => fun
  | [d] => { results := [.lit (.bool true)], args := [d] }
  | _ => none }
def fnSegmentsRow : OpenClaim := { program := "ytlghcbmkhdibdaa", sum := "237e812468758d00a47e046ddfa088eb973188dbf015f76f12fa2c7ae55b6aa2", func := "loop.example/g00096/laws.FnSegments", spec := "fnSegments", inPlace := ["internal/abi.NoEscape", "internal/bytealg.MakeNoZero"], unfollowed := true, recurses := true, apart := false }
def FnSegmentsSaid : Prop := fnSegmentsRow.holds Try.pinned (OpenSpec.ofChange fnSegmentsSpec)

/-- ITS FALSE NEIGHBOUR: 'it returns false'. Refute it at one input. -/
def fnSegmentsWrong : ChangeSpec := { name := "fnSegments", fn := fun _ => fun
  | [d] => { results := [.lit (.bool false)], args := [d] }
  | _ => none }
def FnSegmentsWrongFalsely : Prop := fnSegmentsRow.holds Try.pinned (OpenSpec.ofChange fnSegmentsWrong)

/-- 'laws.FnFirstSegments': WHATEVER THE INPUT: true; the input reads as it did. -/
def fnFirstSegmentsSpec : ChangeSpec := { name := "fnFirstSegments", fn := fun _ => fun
  | [d1, d2] => { results := [.lit (.bool true)], args := [d1, d2] }
  | _ => none }
def fnFirstSegmentsRow : OpenClaim := { program := "ytlghcbmkhdibdaa", sum := "237e812468758d00a47e046ddfa088eb973188dbf015f76f12fa2c7ae55b6aa2", func := "loop.example/g00096/laws.FnFirstSegments", spec := "fnFirstSegments", inPlace := ["internal/abi.NoEscape", "internal/bytealg.MakeNoZero"], unfollowed := true, recurses := true, apart := false }
def FnFirstSegmentsSaid : Prop := fnFirstSegmentsRow.holds Try.pinned (OpenSpec.ofChange fnFirstSegmentsSpec)

/-- ITS FALSE NEIGHBOUR: 'it returns false'. Refute it at one input. -/
def fnFirstSegmentsWrong : ChangeSpec := { name := "fnFirstSegments", fn := fun _ => fun
  | [d1, d2] => { results := [.lit (.bool false)], args := [d1, d2] }
  | _ => none }
def FnFirstSegmentsWrongFalsely : Prop := fnFirstSegmentsRow.holds Try.pinned (OpenSpec.ofChange fnFirstSegmentsWrong)

/-- 'laws.FnExactIxRight': WHATEVER THE INPUT: true; the input reads as it did. -/
def fnExactIxRightSpec : ChangeSpec := { name := "fnExactIxRight", fn := fun _ => fun
  | [d] => { results := [.lit (.bool true)], args := [d] }
  | _ => none }
def fnExactIxRightRow : OpenClaim := { program := "ytlghcbmkhdibdaa", sum := "237e812468758d00a47e046ddfa088eb973188dbf015f76f12fa2c7ae55b6aa2", func := "loop.example/g00096/laws.FnExactIxRight", spec := "fnExactIxRight", unfollowed := true, recurses := true, apart := false }
def FnExactIxRightSaid : Prop := fnExactIxRightRow.holds Try.pinned (OpenSpec.ofChange fnExactIxRightSpec)

/-- ITS FALSE NEIGHBOUR: 'it returns false'. Refute it at one input. -/
def fnExactIxRightWrong : ChangeSpec := { name := "fnExactIxRight", fn := fun _ => fun
  | [d] => { results := [.lit (.bool false)], args := [d] }
  | _ => none }
def FnExactIxRightWrongFalsely : Prop := fnExactIxRightRow.holds Try.pinned (OpenSpec.ofChange fnExactIxRightWrong)

/- THE SECOND FORM. 'bulk': how many values and letters a reading holds, each counted each time it is reached (what is shared counts as often as it is met; a slice's spare places count too). A statement '..UptoSaid' is the law's where the arguments, and the package variables that the reading takes, are together of bulk at most 1048576: NARROWER than '..Said'. Prove '..Said' where nothing that the law and all that it calls make is longer than what came in: it says more and counts as full. Else prove '..UptoSaid'. A law counts once. -/
mutual
def uptoBulk {H : Type} : DataW H → Nat
  | .lit (.string bytes) => bytes.length + 1
  | .lit _ => 1
  | .nil => 1
  | .ptr d => uptoBulk d + 1
  | .slice elems spare => uptoBulkAll elems + uptoBulkAll spare + 1
  | .agg parts => uptoBulkAll parts + 1
  | .iface _ d => uptoBulk d + 1
  | .map entries => uptoBulkEntries entries + 1
  | .held _ => 1
def uptoBulkAll {H : Type} : List (DataW H) → Nat
  | [] => 0
  | d :: r => uptoBulk d + uptoBulkAll r
def uptoBulkEntries {H : Type} : List (Lit × DataW H) → Nat
  | [] => 0
  | x :: r => uptoBulkEntry x + uptoBulkEntries r
def uptoBulkEntry {H : Type} : Lit × DataW H → Nat
  | (.string bytes, d) => bytes.length + uptoBulk d + 1
  | (_, d) => uptoBulk d + 1
 end
def uptoSmall : (H : Type) → List (DataW H) → Bool := fun _ ds => decide (uptoBulkAll ds ≤ 1048576)
def OpenSpec.upto (s : _root_.Go.ChangeSpec) : _root_.Go.OpenSpec := { _root_.Go.OpenSpec.ofChange s with cond := some uptoSmall }

/-- 'laws.FnExactPaperSame', WHERE WHAT IT READS IS OF BULK AT MOST 1048576: true; the input reads as it did. -/
def fnExactPaperSameUptoRow : OpenClaim := { program := "ytlghcbmkhdibdaa", sum := "237e812468758d00a47e046ddfa088eb973188dbf015f76f12fa2c7ae55b6aa2", func := "loop.example/g00096/laws.FnExactPaperSame", spec := "fnExactPaperSame", apart := false, narrowed := true }
def FnExactPaperSameUptoSaid : Prop := fnExactPaperSameUptoRow.holds Try.pinned (OpenSpec.upto fnExactPaperSameSpec)

/-- 'laws.FnExactParcelSame', WHERE WHAT IT READS IS OF BULK AT MOST 1048576: true; the input reads as it did. -/
def fnExactParcelSameUptoRow : OpenClaim := { program := "ytlghcbmkhdibdaa", sum := "237e812468758d00a47e046ddfa088eb973188dbf015f76f12fa2c7ae55b6aa2", func := "loop.example/g00096/laws.FnExactParcelSame", spec := "fnExactParcelSame", unfollowed := true, recurses := true, apart := false, narrowed := true }
def FnExactParcelSameUptoSaid : Prop := fnExactParcelSameUptoRow.holds Try.pinned (OpenSpec.upto fnExactParcelSameSpec)

/-- 'laws.FnSegments', WHERE WHAT IT READS IS OF BULK AT MOST 1048576: true; the input reads as it did. -/
def fnSegmentsUptoRow : OpenClaim := { program := "ytlghcbmkhdibdaa", sum := "237e812468758d00a47e046ddfa088eb973188dbf015f76f12fa2c7ae55b6aa2", func := "loop.example/g00096/laws.FnSegments", spec := "fnSegments", inPlace := ["internal/abi.NoEscape", "internal/bytealg.MakeNoZero"], unfollowed := true, recurses := true, apart := false, narrowed := true }
def FnSegmentsUptoSaid : Prop := fnSegmentsUptoRow.holds Try.pinned (OpenSpec.upto fnSegmentsSpec)

/-- 'laws.FnFirstSegments', WHERE WHAT IT READS IS OF BULK AT MOST 1048576: true; the input reads as it did. -/
def fnFirstSegmentsUptoRow : OpenClaim := { program := "ytlghcbmkhdibdaa", sum := "237e812468758d00a47e046ddfa088eb973188dbf015f76f12fa2c7ae55b6aa2", func := "loop.example/g00096/laws.FnFirstSegments", spec := "fnFirstSegments", inPlace := ["internal/abi.NoEscape", "internal/bytealg.MakeNoZero"], unfollowed := true, recurses := true, apart := false, narrowed := true }
def FnFirstSegmentsUptoSaid : Prop := fnFirstSegmentsUptoRow.holds Try.pinned (OpenSpec.upto fnFirstSegmentsSpec)

/-- 'laws.FnExactIxRight', WHERE WHAT IT READS IS OF BULK AT MOST 1048576: true; the input reads as it did. -/
def fnExactIxRightUptoRow : OpenClaim := { program := "ytlghcbmkhdibdaa", sum := "237e812468758d00a47e046ddfa088eb973188dbf015f76f12fa2c7ae55b6aa2", func := "loop.example/g00096/laws.FnExactIxRight", spec := "fnExactIxRight", unfollowed := true, recurses := true, apart := false, narrowed := true }
def FnExactIxRightUptoSaid : Prop := fnExactIxRightUptoRow.holds Try.pinned (OpenSpec.upto fnExactIxRightSpec)

end Rows
end Go.Proofs.Ytlghcbmkhdibdaa
