/-
  No cell of these rows narrows 'for every input' (looked for: loops, veiled, ifaces, maps, wideKeys, modest, calm, conditions, laid).
  DERIVED. THE GIVEN ROWS OF THIS SEAT. 12 by the template 'for every input the law returns true; each argument reads behind the call as it read before'; 0 by the template 'total and deterministic' (their statements: YtchoalagkcdbhaaTotals.lean).
  GIVEN WITH THE SEED: the statements are not yours to turn. If you find one false, say at which input.
  Laid BY PROGRAM, IN A SANDBOX (cutbox-rows.mjs): the forced cells as the released guide's own fill.sh prints them over the translation 4d9df5c473828c93… (all of the seat's roots in one cut). By AI agents, Wed Nov 11 2026. No macro, syntax, notation, axiom, sorry.
-/
import Derived.Test.YtchoalagkcdbhaaChecked
import GoSem.Claim
import GoSem.ClaimJoined
import GoSem.ClaimMapViews
import Derived.JoinedTies
import Derived.KernelRfl
namespace Go.Proofs.Ytchoalagkcdbhaa
/- THE CELL 'sum', in the pinned program and in every row, IS THE sha256 OF THE DUMP (.gsa) THAT YtchoalagkcdbhaaProg.lean LOADS. Nothing in Lean hashes anything: it is a label: what it is worth is what the hold of that sum in a sandbox is worth. -/
noncomputable def Try.pinned : Pinned := { name := "ytchoalagkcdbhaa", sum := "4d9df5c473828c93d45707e7d68765f93690c9420ed2418bdbeab9492532ab36", checked := Try.checked }
namespace Rows
def none {H : Type} : Left H := { results := [], args := [] }

/-- 'laws.FnExactSyntaxRead': WHATEVER THE INPUT: true; the input reads as it did. -/
def fnExactSyntaxReadSpec : ChangeSpec := { name := "fnExactSyntaxRead", fn := fun _ => fun
  | [d] => { results := [.lit (.bool true)], args := [d] }
  | _ => none }
def fnExactSyntaxReadRow : OpenClaim := { program := "ytchoalagkcdbhaa", sum := "4d9df5c473828c93d45707e7d68765f93690c9420ed2418bdbeab9492532ab36", func := "loop.example/g00096/laws.FnExactSyntaxRead", spec := "fnExactSyntaxRead", unfollowed := true, recurses := true, apart := false }
def FnExactSyntaxReadSaid : Prop := fnExactSyntaxReadRow.holds Try.pinned (OpenSpec.ofChange fnExactSyntaxReadSpec)

/-- ITS FALSE NEIGHBOUR: 'it returns false'. Refute it at one input. -/
def fnExactSyntaxReadWrong : ChangeSpec := { name := "fnExactSyntaxRead", fn := fun _ => fun
  | [d] => { results := [.lit (.bool false)], args := [d] }
  | _ => none }
def FnExactSyntaxReadWrongFalsely : Prop := fnExactSyntaxReadRow.holds Try.pinned (OpenSpec.ofChange fnExactSyntaxReadWrong)

/-- 'laws.FnExactUnescape': WHATEVER THE INPUT: true; the input reads as it did. -/
def fnExactUnescapeSpec : ChangeSpec := { name := "fnExactUnescape", fn := fun _ => fun
  | [d1, d2] => { results := [.lit (.bool true)], args := [d1, d2] }
  | _ => none }
def fnExactUnescapeRow : OpenClaim := { program := "ytchoalagkcdbhaa", sum := "4d9df5c473828c93d45707e7d68765f93690c9420ed2418bdbeab9492532ab36", func := "loop.example/g00096/laws.FnExactUnescape", spec := "fnExactUnescape", unfollowed := true, recurses := true, apart := false }
def FnExactUnescapeSaid : Prop := fnExactUnescapeRow.holds Try.pinned (OpenSpec.ofChange fnExactUnescapeSpec)

/-- ITS FALSE NEIGHBOUR: 'it returns false'. Refute it at one input. -/
def fnExactUnescapeWrong : ChangeSpec := { name := "fnExactUnescape", fn := fun _ => fun
  | [d1, d2] => { results := [.lit (.bool false)], args := [d1, d2] }
  | _ => none }
def FnExactUnescapeWrongFalsely : Prop := fnExactUnescapeRow.holds Try.pinned (OpenSpec.ofChange fnExactUnescapeWrong)

/-- 'laws.FnSyntax': WHATEVER THE INPUT: true; the input reads as it did. -/
def fnSyntaxSpec : ChangeSpec := { name := "fnSyntax", fn := fun _ => fun
  | [d] => { results := [.lit (.bool true)], args := [d] }
  | _ => none }
def fnSyntaxRow : OpenClaim := { program := "ytchoalagkcdbhaa", sum := "4d9df5c473828c93d45707e7d68765f93690c9420ed2418bdbeab9492532ab36", func := "loop.example/g00096/laws.FnSyntax", spec := "fnSyntax", unfollowed := true, recurses := true, apart := false }
def FnSyntaxSaid : Prop := fnSyntaxRow.holds Try.pinned (OpenSpec.ofChange fnSyntaxSpec)

/-- ITS FALSE NEIGHBOUR: 'it returns false'. Refute it at one input. -/
def fnSyntaxWrong : ChangeSpec := { name := "fnSyntax", fn := fun _ => fun
  | [d] => { results := [.lit (.bool false)], args := [d] }
  | _ => none }
def FnSyntaxWrongFalsely : Prop := fnSyntaxRow.holds Try.pinned (OpenSpec.ofChange fnSyntaxWrong)

/-- 'laws.FnExactCutAt': WHATEVER THE INPUT: true; the input reads as it did. -/
def fnExactCutAtSpec : ChangeSpec := { name := "fnExactCutAt", fn := fun _ => fun
  | [d1, d2, d3] => { results := [.lit (.bool true)], args := [d1, d2, d3] }
  | _ => none }
def fnExactCutAtRow : OpenClaim := { program := "ytchoalagkcdbhaa", sum := "4d9df5c473828c93d45707e7d68765f93690c9420ed2418bdbeab9492532ab36", func := "loop.example/g00096/laws.FnExactCutAt", spec := "fnExactCutAt", unfollowed := true, recurses := true, apart := false }
def FnExactCutAtSaid : Prop := fnExactCutAtRow.holds Try.pinned (OpenSpec.ofChange fnExactCutAtSpec)

/-- ITS FALSE NEIGHBOUR: 'it returns false'. Refute it at one input. -/
def fnExactCutAtWrong : ChangeSpec := { name := "fnExactCutAt", fn := fun _ => fun
  | [d1, d2, d3] => { results := [.lit (.bool false)], args := [d1, d2, d3] }
  | _ => none }
def FnExactCutAtWrongFalsely : Prop := fnExactCutAtRow.holds Try.pinned (OpenSpec.ofChange fnExactCutAtWrong)

/-- 'laws.FnPieces': WHATEVER THE INPUT: true; the input reads as it did. -/
def fnPiecesSpec : ChangeSpec := { name := "fnPieces", fn := fun _ => fun
  | [d] => { results := [.lit (.bool true)], args := [d] }
  | _ => none }
def fnPiecesRow : OpenClaim := { program := "ytchoalagkcdbhaa", sum := "4d9df5c473828c93d45707e7d68765f93690c9420ed2418bdbeab9492532ab36", func := "loop.example/g00096/laws.FnPieces", spec := "fnPieces", unfollowed := true, recurses := true, apart := false }
def FnPiecesSaid : Prop := fnPiecesRow.holds Try.pinned (OpenSpec.ofChange fnPiecesSpec)

/-- ITS FALSE NEIGHBOUR: 'it returns false'. Refute it at one input. -/
def fnPiecesWrong : ChangeSpec := { name := "fnPieces", fn := fun _ => fun
  | [d] => { results := [.lit (.bool false)], args := [d] }
  | _ => none }
def FnPiecesWrongFalsely : Prop := fnPiecesRow.holds Try.pinned (OpenSpec.ofChange fnPiecesWrong)

/-- 'laws.FnEscape': WHATEVER THE INPUT: true; the input reads as it did. -/
def fnEscapeSpec : ChangeSpec := { name := "fnEscape", fn := fun _ => fun
  | [d1, d2] => { results := [.lit (.bool true)], args := [d1, d2] }
  | _ => none }
def fnEscapeRow : OpenClaim := { program := "ytchoalagkcdbhaa", sum := "4d9df5c473828c93d45707e7d68765f93690c9420ed2418bdbeab9492532ab36", func := "loop.example/g00096/laws.FnEscape", spec := "fnEscape", unfollowed := true, recurses := true, apart := false }
def FnEscapeSaid : Prop := fnEscapeRow.holds Try.pinned (OpenSpec.ofChange fnEscapeSpec)

/-- ITS FALSE NEIGHBOUR: 'it returns false'. Refute it at one input. -/
def fnEscapeWrong : ChangeSpec := { name := "fnEscape", fn := fun _ => fun
  | [d1, d2] => { results := [.lit (.bool false)], args := [d1, d2] }
  | _ => none }
def FnEscapeWrongFalsely : Prop := fnEscapeRow.holds Try.pinned (OpenSpec.ofChange fnEscapeWrong)

/-- 'laws.FnExactSegmentRight': WHATEVER THE INPUT: true; the input reads as it did. -/
def fnExactSegmentRightSpec : ChangeSpec := { name := "fnExactSegmentRight", fn := fun _ => fun
  | [d] => { results := [.lit (.bool true)], args := [d] }
  | _ => none }
def fnExactSegmentRightRow : OpenClaim := { program := "ytchoalagkcdbhaa", sum := "4d9df5c473828c93d45707e7d68765f93690c9420ed2418bdbeab9492532ab36", func := "loop.example/g00096/laws.FnExactSegmentRight", spec := "fnExactSegmentRight", unfollowed := true, recurses := true, apart := false }
def FnExactSegmentRightSaid : Prop := fnExactSegmentRightRow.holds Try.pinned (OpenSpec.ofChange fnExactSegmentRightSpec)

/-- ITS FALSE NEIGHBOUR: 'it returns false'. Refute it at one input. -/
def fnExactSegmentRightWrong : ChangeSpec := { name := "fnExactSegmentRight", fn := fun _ => fun
  | [d] => { results := [.lit (.bool false)], args := [d] }
  | _ => none }
def FnExactSegmentRightWrongFalsely : Prop := fnExactSegmentRightRow.holds Try.pinned (OpenSpec.ofChange fnExactSegmentRightWrong)

/-- 'laws.FnExactSegmentText': WHATEVER THE INPUT: true; the input reads as it did. -/
def fnExactSegmentTextSpec : ChangeSpec := { name := "fnExactSegmentText", fn := fun _ => fun
  | [d1, d2] => { results := [.lit (.bool true)], args := [d1, d2] }
  | _ => none }
def fnExactSegmentTextRow : OpenClaim := { program := "ytchoalagkcdbhaa", sum := "4d9df5c473828c93d45707e7d68765f93690c9420ed2418bdbeab9492532ab36", func := "loop.example/g00096/laws.FnExactSegmentText", spec := "fnExactSegmentText", unfollowed := true, recurses := true, apart := false }
def FnExactSegmentTextSaid : Prop := fnExactSegmentTextRow.holds Try.pinned (OpenSpec.ofChange fnExactSegmentTextSpec)

/-- ITS FALSE NEIGHBOUR: 'it returns false'. Refute it at one input. -/
def fnExactSegmentTextWrong : ChangeSpec := { name := "fnExactSegmentText", fn := fun _ => fun
  | [d1, d2] => { results := [.lit (.bool false)], args := [d1, d2] }
  | _ => none }
def FnExactSegmentTextWrongFalsely : Prop := fnExactSegmentTextRow.holds Try.pinned (OpenSpec.ofChange fnExactSegmentTextWrong)

/-- 'laws.FnExactSegmentRead': WHATEVER THE INPUT: true; the input reads as it did. -/
def fnExactSegmentReadSpec : ChangeSpec := { name := "fnExactSegmentRead", fn := fun _ => fun
  | [d1, d2] => { results := [.lit (.bool true)], args := [d1, d2] }
  | _ => none }
def fnExactSegmentReadRow : OpenClaim := { program := "ytchoalagkcdbhaa", sum := "4d9df5c473828c93d45707e7d68765f93690c9420ed2418bdbeab9492532ab36", func := "loop.example/g00096/laws.FnExactSegmentRead", spec := "fnExactSegmentRead", unfollowed := true, recurses := true, apart := false }
def FnExactSegmentReadSaid : Prop := fnExactSegmentReadRow.holds Try.pinned (OpenSpec.ofChange fnExactSegmentReadSpec)

/-- ITS FALSE NEIGHBOUR: 'it returns false'. Refute it at one input. -/
def fnExactSegmentReadWrong : ChangeSpec := { name := "fnExactSegmentRead", fn := fun _ => fun
  | [d1, d2] => { results := [.lit (.bool false)], args := [d1, d2] }
  | _ => none }
def FnExactSegmentReadWrongFalsely : Prop := fnExactSegmentReadRow.holds Try.pinned (OpenSpec.ofChange fnExactSegmentReadWrong)

/-- 'laws.FnExactSegmentsText': WHATEVER THE INPUT: true; the input reads as it did. -/
def fnExactSegmentsTextSpec : ChangeSpec := { name := "fnExactSegmentsText", fn := fun _ => fun
  | [d1, d2] => { results := [.lit (.bool true)], args := [d1, d2] }
  | _ => none }
def fnExactSegmentsTextRow : OpenClaim := { program := "ytchoalagkcdbhaa", sum := "4d9df5c473828c93d45707e7d68765f93690c9420ed2418bdbeab9492532ab36", func := "loop.example/g00096/laws.FnExactSegmentsText", spec := "fnExactSegmentsText", inPlace := ["internal/abi.NoEscape", "internal/bytealg.MakeNoZero"], unfollowed := true, recurses := true, apart := false }
def FnExactSegmentsTextSaid : Prop := fnExactSegmentsTextRow.holds Try.pinned (OpenSpec.ofChange fnExactSegmentsTextSpec)

/-- ITS FALSE NEIGHBOUR: 'it returns false'. Refute it at one input. -/
def fnExactSegmentsTextWrong : ChangeSpec := { name := "fnExactSegmentsText", fn := fun _ => fun
  | [d1, d2] => { results := [.lit (.bool false)], args := [d1, d2] }
  | _ => none }
def FnExactSegmentsTextWrongFalsely : Prop := fnExactSegmentsTextRow.holds Try.pinned (OpenSpec.ofChange fnExactSegmentsTextWrong)

/-- 'laws.FnExactSegmentsRead': WHATEVER THE INPUT: true; the input reads as it did. -/
def fnExactSegmentsReadSpec : ChangeSpec := { name := "fnExactSegmentsRead", fn := fun _ => fun
  | [d1, d2] => { results := [.lit (.bool true)], args := [d1, d2] }
  | _ => none }
def fnExactSegmentsReadRow : OpenClaim := { program := "ytchoalagkcdbhaa", sum := "4d9df5c473828c93d45707e7d68765f93690c9420ed2418bdbeab9492532ab36", func := "loop.example/g00096/laws.FnExactSegmentsRead", spec := "fnExactSegmentsRead", unfollowed := true, recurses := true, apart := false }
def FnExactSegmentsReadSaid : Prop := fnExactSegmentsReadRow.holds Try.pinned (OpenSpec.ofChange fnExactSegmentsReadSpec)

/-- ITS FALSE NEIGHBOUR: 'it returns false'. Refute it at one input. -/
def fnExactSegmentsReadWrong : ChangeSpec := { name := "fnExactSegmentsRead", fn := fun _ => fun
  | [d1, d2] => { results := [.lit (.bool false)], args := [d1, d2] }
  | _ => none }
def FnExactSegmentsReadWrongFalsely : Prop := fnExactSegmentsReadRow.holds Try.pinned (OpenSpec.ofChange fnExactSegmentsReadWrong)

/-- 'laws.FnSegmentBack': WHATEVER THE INPUT: true; the input reads as it did. -/
def fnSegmentBackSpec : ChangeSpec := { name := "fnSegmentBack", fn := fun _ => fun
  | [d1, d2] => { results := [.lit (.bool true)], args := [d1, d2] }
  | _ => none }
def fnSegmentBackRow : OpenClaim := { program := "ytchoalagkcdbhaa", sum := "4d9df5c473828c93d45707e7d68765f93690c9420ed2418bdbeab9492532ab36", func := "loop.example/g00096/laws.FnSegmentBack", spec := "fnSegmentBack", unfollowed := true, recurses := true, apart := false }
def FnSegmentBackSaid : Prop := fnSegmentBackRow.holds Try.pinned (OpenSpec.ofChange fnSegmentBackSpec)

/-- ITS FALSE NEIGHBOUR: 'it returns false'. Refute it at one input. -/
def fnSegmentBackWrong : ChangeSpec := { name := "fnSegmentBack", fn := fun _ => fun
  | [d1, d2] => { results := [.lit (.bool false)], args := [d1, d2] }
  | _ => none }
def FnSegmentBackWrongFalsely : Prop := fnSegmentBackRow.holds Try.pinned (OpenSpec.ofChange fnSegmentBackWrong)

/- THE SECOND FORM. 'bulk': how many values and letters a reading holds, each counted each time it is reached (what is shared counts as often as it is met; a slice's spare places count too). A statement '..UptoSaid' is the law's where the arguments, and the package variables that the reading takes, are together of bulk at most 1048576: NARROWER than '..Said'. Prove '..Said' where nothing that the law and all that it calls make is longer than what came in: it says more and counts as full. Else prove '..UptoSaid'. A law counts once. -/
mutual
def uptoBulk {H : Type} : DataW H → Nat
  | .lit (.string bytes) => bytes.length + 1
  | .lit _ => 1
  | .nil => 1
  | .ptr d => uptoBulk d + 1
  | .slice elems spare => uptoBulkAll elems + uptoBulkAll spare + 1
  | .agg parts => uptoBulkAll parts + 1
  | .iface _ d => uptoBulk d + 1
  | .map entries => uptoBulkEntries entries + 1
  | .held _ => 1
def uptoBulkAll {H : Type} : List (DataW H) → Nat
  | [] => 0
  | d :: r => uptoBulk d + uptoBulkAll r
def uptoBulkEntries {H : Type} : List (Lit × DataW H) → Nat
  | [] => 0
  | x :: r => uptoBulkEntry x + uptoBulkEntries r
def uptoBulkEntry {H : Type} : Lit × DataW H → Nat
  | (.string bytes, d) => bytes.length + uptoBulk d + 1
  | (_, d) => uptoBulk d + 1
 end
def uptoSmall : (H : Type) → List (DataW H) → Bool := fun _ ds => decide (uptoBulkAll ds ≤ 1048576)
def OpenSpec.upto (s : _root_.Go.ChangeSpec) : _root_.Go.OpenSpec := { _root_.Go.OpenSpec.ofChange s with cond := some uptoSmall }

/-- 'laws.FnExactSyntaxRead', WHERE WHAT IT READS IS OF BULK AT MOST 1048576: true; the input reads as it did. -/
def fnExactSyntaxReadUptoRow : OpenClaim := { program := "ytchoalagkcdbhaa", sum := "4d9df5c473828c93d45707e7d68765f93690c9420ed2418bdbeab9492532ab36", func := "loop.example/g00096/laws.FnExactSyntaxRead", spec := "fnExactSyntaxRead", unfollowed := true, recurses := true, apart := false, narrowed := true }
def FnExactSyntaxReadUptoSaid : Prop := fnExactSyntaxReadUptoRow.holds Try.pinned (OpenSpec.upto fnExactSyntaxReadSpec)

/-- 'laws.FnExactUnescape', WHERE WHAT IT READS IS OF BULK AT MOST 1048576: true; the input reads as it did. -/
def fnExactUnescapeUptoRow : OpenClaim := { program := "ytchoalagkcdbhaa", sum := "4d9df5c473828c93d45707e7d68765f93690c9420ed2418bdbeab9492532ab36", func := "loop.example/g00096/laws.FnExactUnescape", spec := "fnExactUnescape", unfollowed := true, recurses := true, apart := false, narrowed := true }
def FnExactUnescapeUptoSaid : Prop := fnExactUnescapeUptoRow.holds Try.pinned (OpenSpec.upto fnExactUnescapeSpec)

/-- 'laws.FnSyntax', WHERE WHAT IT READS IS OF BULK AT MOST 1048576: true; the input reads as it did. -/
def fnSyntaxUptoRow : OpenClaim := { program := "ytchoalagkcdbhaa", sum := "4d9df5c473828c93d45707e7d68765f93690c9420ed2418bdbeab9492532ab36", func := "loop.example/g00096/laws.FnSyntax", spec := "fnSyntax", unfollowed := true, recurses := true, apart := false, narrowed := true }
def FnSyntaxUptoSaid : Prop := fnSyntaxUptoRow.holds Try.pinned (OpenSpec.upto fnSyntaxSpec)

/-- 'laws.FnExactCutAt', WHERE WHAT IT READS IS OF BULK AT MOST 1048576: true; the input reads as it did. -/
def fnExactCutAtUptoRow : OpenClaim := { program := "ytchoalagkcdbhaa", sum := "4d9df5c473828c93d45707e7d68765f93690c9420ed2418bdbeab9492532ab36", func := "loop.example/g00096/laws.FnExactCutAt", spec := "fnExactCutAt", unfollowed := true, recurses := true, apart := false, narrowed := true }
def FnExactCutAtUptoSaid : Prop := fnExactCutAtUptoRow.holds Try.pinned (OpenSpec.upto fnExactCutAtSpec)

/-- 'laws.FnPieces', WHERE WHAT IT READS IS OF BULK AT MOST 1048576: true; the input reads as it did. -/
def fnPiecesUptoRow : OpenClaim := { program := "ytchoalagkcdbhaa", sum := "4d9df5c473828c93d45707e7d68765f93690c9420ed2418bdbeab9492532ab36", func := "loop.example/g00096/laws.FnPieces", spec := "fnPieces", unfollowed := true, recurses := true, apart := false, narrowed := true }
def FnPiecesUptoSaid : Prop := fnPiecesUptoRow.holds Try.pinned (OpenSpec.upto fnPiecesSpec)

/-- 'laws.FnEscape', WHERE WHAT IT READS IS OF BULK AT MOST 1048576: true; the input reads as it did. -/
def fnEscapeUptoRow : OpenClaim := { program := "ytchoalagkcdbhaa", sum := "4d9df5c473828c93d45707e7d68765f93690c9420ed2418bdbeab9492532ab36", func := "loop.example/g00096/laws.FnEscape", spec := "fnEscape", unfollowed := true, recurses := true, apart := false, narrowed := true }
def FnEscapeUptoSaid : Prop := fnEscapeUptoRow.holds Try.pinned (OpenSpec.upto fnEscapeSpec)

/-- 'laws.FnExactSegmentRight', WHERE WHAT IT READS IS OF BULK AT MOST 1048576: true; the input reads as it did. -/
def fnExactSegmentRightUptoRow : OpenClaim := { program := "ytchoalagkcdbhaa", sum := "4d9df5c473828c93d45707e7d68765f93690c9420ed2418bdbeab9492532ab36", func := "loop.example/g00096/laws.FnExactSegmentRight", spec := "fnExactSegmentRight", unfollowed := true, recurses := true, apart := false, narrowed := true }
def FnExactSegmentRightUptoSaid : Prop := fnExactSegmentRightUptoRow.holds Try.pinned (OpenSpec.upto fnExactSegmentRightSpec)

/-- 'laws.FnExactSegmentText', WHERE WHAT IT READS IS OF BULK AT MOST 1048576: true; the input reads as it did. -/
def fnExactSegmentTextUptoRow : OpenClaim := { program := "ytchoalagkcdbhaa", sum := "4d9df5c473828c93d45707e7d68765f93690c9420ed2418bdbeab9492532ab36", func := "loop.example/g00096/laws.FnExactSegmentText", spec := "fnExactSegmentText", unfollowed := true, recurses := true, apart := false, narrowed := true }
def FnExactSegmentTextUptoSaid : Prop := fnExactSegmentTextUptoRow.holds Try.pinned (OpenSpec.upto fnExactSegmentTextSpec)

/-- 'laws.FnExactSegmentRead', WHERE WHAT IT READS IS OF BULK AT MOST 1048576: true; the input reads as it did. -/
def fnExactSegmentReadUptoRow : OpenClaim := { program := "ytchoalagkcdbhaa", sum := "4d9df5c473828c93d45707e7d68765f93690c9420ed2418bdbeab9492532ab36", func := "loop.example/g00096/laws.FnExactSegmentRead", spec := "fnExactSegmentRead", unfollowed := true, recurses := true, apart := false, narrowed := true }
def FnExactSegmentReadUptoSaid : Prop := fnExactSegmentReadUptoRow.holds Try.pinned (OpenSpec.upto fnExactSegmentReadSpec)

/-- 'laws.FnExactSegmentsText', WHERE WHAT IT READS IS OF BULK AT MOST 1048576: true; the input reads as it did. -/
def fnExactSegmentsTextUptoRow : OpenClaim := { program := "ytchoalagkcdbhaa", sum := "4d9df5c473828c93d45707e7d68765f93690c9420ed2418bdbeab9492532ab36", func := "loop.example/g00096/laws.FnExactSegmentsText", spec := "fnExactSegmentsText", inPlace := ["internal/abi.NoEscape", "internal/bytealg.MakeNoZero"], unfollowed := true, recurses := true, apart := false, narrowed := true }
def FnExactSegmentsTextUptoSaid : Prop := fnExactSegmentsTextUptoRow.holds Try.pinned (OpenSpec.upto fnExactSegmentsTextSpec)

/-- 'laws.FnExactSegmentsRead', WHERE WHAT IT READS IS OF BULK AT MOST 1048576: true; the input reads as it did. -/
def fnExactSegmentsReadUptoRow : OpenClaim := { program := "ytchoalagkcdbhaa", sum := "4d9df5c473828c93d45707e7d68765f93690c9420ed2418bdbeab9492532ab36", func := "loop.example/g00096/laws.FnExactSegmentsRead", spec := "fnExactSegmentsRead", unfollowed := true, recurses := true, apart := false, narrowed := true }
def FnExactSegmentsReadUptoSaid : Prop := fnExactSegmentsReadUptoRow.holds Try.pinned (OpenSpec.upto fnExactSegmentsReadSpec)

/-- 'laws.FnSegmentBack', WHERE WHAT IT READS IS OF BULK AT MOST 1048576: true; the input reads as it did. -/
def fnSegmentBackUptoRow : OpenClaim := { program := "ytchoalagkcdbhaa", sum := "4d9df5c473828c93d45707e7d68765f93690c9420ed2418bdbeab9492532ab36", func := "loop.example/g00096/laws.FnSegmentBack", spec := "fnSegmentBack", unfollowed := true, recurses := true, apart := false, narrowed := true }
def FnSegmentBackUptoSaid : Prop := fnSegmentBackUptoRow.holds Try.pinned (OpenSpec.upto fnSegmentBackSpec)

end Rows
end Go.Proofs.Ytchoalagkcdbhaa
