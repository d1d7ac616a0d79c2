/-
  No cell of these rows narrows 'for every input' (looked for: loops, veiled, ifaces, maps, wideKeys, modest, calm, conditions, laid).
  DERIVED. THE GIVEN ROWS OF THIS SEAT. 12 by the template 'for every input the law returns true; each argument reads behind the call as it read before'; 0 by the template 'total and deterministic' (their statements: YtkmpfgpamlfldaaTotals.lean).
  GIVEN WITH THE SEED: the statements are not yours to turn. If you find one false, say at which input.
  Laid BY PROGRAM, IN A SANDBOX (cutbox-rows.mjs): the forced cells as the released guide's own fill.sh prints them over the translation 2801bc0086279658… (all of the seat's roots in one cut). By AI agents, Wed Nov 11 2026. No macro, syntax, notation, axiom, sorry.
-/
import Derived.Test.YtkmpfgpamlfldaaChecked
import GoSem.Claim
import GoSem.ClaimJoined
import GoSem.ClaimMapViews
import Derived.JoinedTies
import Derived.KernelRfl
namespace Go.Proofs.Ytkmpfgpamlfldaa
/- THE CELL 'sum', in the pinned program and in every row, IS THE sha256 OF THE DUMP (.gsa) THAT YtkmpfgpamlfldaaProg.lean LOADS. Nothing in Lean hashes anything: it is a label: what it is worth is what the hold of that sum in a sandbox is worth. -/
noncomputable def Try.pinned : Pinned := { name := "ytkmpfgpamlfldaa", sum := "2801bc0086279658e046ad501f5a00d9d28123368fc5067dd72b4d5e75bc4ef5", checked := Try.checked }
namespace Rows
def none {H : Type} : Left H := { results := [], args := [] }

/-- 'laws.FnExactConstants': WHATEVER THE INPUT: true; the input reads as it did. -/
def fnExactConstantsSpec : ChangeSpec := { name := "fnExactConstants", fn := fun _ => fun
  | [] => { results := [.lit (.bool true)], args := [] }
  | _ => none }
def fnExactConstantsRow : OpenClaim := { program := "ytkmpfgpamlfldaa", sum := "2801bc0086279658e046ad501f5a00d9d28123368fc5067dd72b4d5e75bc4ef5", func := "loop.example/g00096/laws.FnExactConstants", spec := "fnExactConstants", apart := false }
def FnExactConstantsSaid : Prop := fnExactConstantsRow.holds Try.pinned (OpenSpec.ofChange fnExactConstantsSpec)

/-- ITS FALSE NEIGHBOUR: 'it returns false'. Refute it at one input. -/
def fnExactConstantsWrong : ChangeSpec := { name := "fnExactConstants", fn := fun _ => fun
  | [] => { results := [.lit (.bool false)], args := [] }
  | _ => none }
def FnExactConstantsWrongFalsely : Prop := fnExactConstantsRow.holds Try.pinned (OpenSpec.ofChange fnExactConstantsWrong)

/-- 'laws.FnExactKindName': WHATEVER THE INPUT: true; the input reads as it did. -/
def fnExactKindNameSpec : ChangeSpec := { name := "fnExactKindName", fn := fun _ => fun
  | [d] => { results := [.lit (.bool true)], args := [d] }
  | _ => none }
def fnExactKindNameRow : OpenClaim := { program := "ytkmpfgpamlfldaa", sum := "2801bc0086279658e046ad501f5a00d9d28123368fc5067dd72b4d5e75bc4ef5", func := "loop.example/g00096/laws.FnExactKindName", spec := "fnExactKindName", apart := false }
def FnExactKindNameSaid : Prop := fnExactKindNameRow.holds Try.pinned (OpenSpec.ofChange fnExactKindNameSpec)

/-- ITS FALSE NEIGHBOUR: 'it returns false'. Refute it at one input. -/
def fnExactKindNameWrong : ChangeSpec := { name := "fnExactKindName", fn := fun _ => fun
  | [d] => { results := [.lit (.bool false)], args := [d] }
  | _ => none }
def FnExactKindNameWrongFalsely : Prop := fnExactKindNameRow.holds Try.pinned (OpenSpec.ofChange fnExactKindNameWrong)

/-- 'laws.FnExactTagOf': WHATEVER THE INPUT: true; the input reads as it did. -/
def fnExactTagOfSpec : ChangeSpec := { name := "fnExactTagOf", fn := fun _ => fun
  | [d1, d2] => { results := [.lit (.bool true)], args := [d1, d2] }
  | _ => none }
def fnExactTagOfRow : OpenClaim := { program := "ytkmpfgpamlfldaa", sum := "2801bc0086279658e046ad501f5a00d9d28123368fc5067dd72b4d5e75bc4ef5", func := "loop.example/g00096/laws.FnExactTagOf", spec := "fnExactTagOf", unfollowed := true, recurses := true, apart := false }
def FnExactTagOfSaid : Prop := fnExactTagOfRow.holds Try.pinned (OpenSpec.ofChange fnExactTagOfSpec)

/-- ITS FALSE NEIGHBOUR: 'it returns false'. Refute it at one input. -/
def fnExactTagOfWrong : ChangeSpec := { name := "fnExactTagOf", fn := fun _ => fun
  | [d1, d2] => { results := [.lit (.bool false)], args := [d1, d2] }
  | _ => none }
def FnExactTagOfWrongFalsely : Prop := fnExactTagOfRow.holds Try.pinned (OpenSpec.ofChange fnExactTagOfWrong)

/-- 'laws.FnExactSyntaxRight': WHATEVER THE INPUT: true; the input reads as it did. -/
def fnExactSyntaxRightSpec : ChangeSpec := { name := "fnExactSyntaxRight", fn := fun _ => fun
  | [d] => { results := [.lit (.bool true)], args := [d] }
  | _ => none }
def fnExactSyntaxRightRow : OpenClaim := { program := "ytkmpfgpamlfldaa", sum := "2801bc0086279658e046ad501f5a00d9d28123368fc5067dd72b4d5e75bc4ef5", func := "loop.example/g00096/laws.FnExactSyntaxRight", spec := "fnExactSyntaxRight", apart := false }
def FnExactSyntaxRightSaid : Prop := fnExactSyntaxRightRow.holds Try.pinned (OpenSpec.ofChange fnExactSyntaxRightSpec)

/-- ITS FALSE NEIGHBOUR: 'it returns false'. Refute it at one input. -/
def fnExactSyntaxRightWrong : ChangeSpec := { name := "fnExactSyntaxRight", fn := fun _ => fun
  | [d] => { results := [.lit (.bool false)], args := [d] }
  | _ => none }
def FnExactSyntaxRightWrongFalsely : Prop := fnExactSyntaxRightRow.holds Try.pinned (OpenSpec.ofChange fnExactSyntaxRightWrong)

/-- 'laws.FnExactLineRight': WHATEVER THE INPUT: true; the input reads as it did. -/
def fnExactLineRightSpec : ChangeSpec := { name := "fnExactLineRight", fn := fun _ => fun
  | [d] => { results := [.lit (.bool true)], args := [d] }
  | _ => none }
def fnExactLineRightRow : OpenClaim := { program := "ytkmpfgpamlfldaa", sum := "2801bc0086279658e046ad501f5a00d9d28123368fc5067dd72b4d5e75bc4ef5", func := "loop.example/g00096/laws.FnExactLineRight", spec := "fnExactLineRight", apart := false }
def FnExactLineRightSaid : Prop := fnExactLineRightRow.holds Try.pinned (OpenSpec.ofChange fnExactLineRightSpec)

/-- ITS FALSE NEIGHBOUR: 'it returns false'. Refute it at one input. -/
def fnExactLineRightWrong : ChangeSpec := { name := "fnExactLineRight", fn := fun _ => fun
  | [d] => { results := [.lit (.bool false)], args := [d] }
  | _ => none }
def FnExactLineRightWrongFalsely : Prop := fnExactLineRightRow.holds Try.pinned (OpenSpec.ofChange fnExactLineRightWrong)

/-- 'laws.FnExactSyntaxText': WHATEVER THE INPUT: true; the input reads as it did. -/
def fnExactSyntaxTextSpec : ChangeSpec := { name := "fnExactSyntaxText", fn := fun _ => fun
  | [d] => { results := [.lit (.bool true)], args := [d] }
  | _ => none }
def fnExactSyntaxTextRow : OpenClaim := { program := "ytkmpfgpamlfldaa", sum := "2801bc0086279658e046ad501f5a00d9d28123368fc5067dd72b4d5e75bc4ef5", func := "loop.example/g00096/laws.FnExactSyntaxText", spec := "fnExactSyntaxText", apart := false }
def FnExactSyntaxTextSaid : Prop := fnExactSyntaxTextRow.holds Try.pinned (OpenSpec.ofChange fnExactSyntaxTextSpec)

/-- ITS FALSE NEIGHBOUR: 'it returns false'. Refute it at one input. -/
def fnExactSyntaxTextWrong : ChangeSpec := { name := "fnExactSyntaxText", fn := fun _ => fun
  | [d] => { results := [.lit (.bool false)], args := [d] }
  | _ => none }
def FnExactSyntaxTextWrongFalsely : Prop := fnExactSyntaxTextRow.holds Try.pinned (OpenSpec.ofChange fnExactSyntaxTextWrong)

/-- 'laws.FnExactLineOpen': WHATEVER THE INPUT: true; the input reads as it did. -/
def fnExactLineOpenSpec : ChangeSpec := { name := "fnExactLineOpen", fn := fun _ => fun
  | [d] => { results := [.lit (.bool true)], args := [d] }
  | _ => none }
def fnExactLineOpenRow : OpenClaim := { program := "ytkmpfgpamlfldaa", sum := "2801bc0086279658e046ad501f5a00d9d28123368fc5067dd72b4d5e75bc4ef5", func := "loop.example/g00096/laws.FnExactLineOpen", spec := "fnExactLineOpen", apart := false }
def FnExactLineOpenSaid : Prop := fnExactLineOpenRow.holds Try.pinned (OpenSpec.ofChange fnExactLineOpenSpec)

/-- ITS FALSE NEIGHBOUR: 'it returns false'. Refute it at one input. -/
def fnExactLineOpenWrong : ChangeSpec := { name := "fnExactLineOpen", fn := fun _ => fun
  | [d] => { results := [.lit (.bool false)], args := [d] }
  | _ => none }
def FnExactLineOpenWrongFalsely : Prop := fnExactLineOpenRow.holds Try.pinned (OpenSpec.ofChange fnExactLineOpenWrong)

/-- 'laws.FnExactEscape': WHATEVER THE INPUT: true; the input reads as it did. -/
def fnExactEscapeSpec : ChangeSpec := { name := "fnExactEscape", fn := fun _ => fun
  | [d1, d2] => { results := [.lit (.bool true)], args := [d1, d2] }
  | _ => none }
def fnExactEscapeRow : OpenClaim := { program := "ytkmpfgpamlfldaa", sum := "2801bc0086279658e046ad501f5a00d9d28123368fc5067dd72b4d5e75bc4ef5", func := "loop.example/g00096/laws.FnExactEscape", spec := "fnExactEscape", unfollowed := true, recurses := true, apart := false }
def FnExactEscapeSaid : Prop := fnExactEscapeRow.holds Try.pinned (OpenSpec.ofChange fnExactEscapeSpec)

/-- ITS FALSE NEIGHBOUR: 'it returns false'. Refute it at one input. -/
def fnExactEscapeWrong : ChangeSpec := { name := "fnExactEscape", fn := fun _ => fun
  | [d1, d2] => { results := [.lit (.bool false)], args := [d1, d2] }
  | _ => none }
def FnExactEscapeWrongFalsely : Prop := fnExactEscapeRow.holds Try.pinned (OpenSpec.ofChange fnExactEscapeWrong)

/-- 'laws.FnExactTableOf': WHATEVER THE INPUT: true; the input reads as it did. -/
def fnExactTableOfSpec : ChangeSpec := { name := "fnExactTableOf", fn := fun _ => fun
  | [d] => { results := [.lit (.bool true)], args := [d] }
  | _ => none }
def fnExactTableOfRow : OpenClaim := { program := "ytkmpfgpamlfldaa", sum := "2801bc0086279658e046ad501f5a00d9d28123368fc5067dd72b4d5e75bc4ef5", func := "loop.example/g00096/laws.FnExactTableOf", spec := "fnExactTableOf", unfollowed := true, recurses := true, apart := false }
def FnExactTableOfSaid : Prop := fnExactTableOfRow.holds Try.pinned (OpenSpec.ofChange fnExactTableOfSpec)

/-- ITS FALSE NEIGHBOUR: 'it returns false'. Refute it at one input. -/
def fnExactTableOfWrong : ChangeSpec := { name := "fnExactTableOf", fn := fun _ => fun
  | [d] => { results := [.lit (.bool false)], args := [d] }
  | _ => none }
def FnExactTableOfWrongFalsely : Prop := fnExactTableOfRow.holds Try.pinned (OpenSpec.ofChange fnExactTableOfWrong)

/-- 'laws.FnExactPartnerNew': WHATEVER THE INPUT: true; the input reads as it did. -/
def fnExactPartnerNewSpec : ChangeSpec := { name := "fnExactPartnerNew", fn := fun _ => fun
  | [d] => { results := [.lit (.bool true)], args := [d] }
  | _ => none }
def fnExactPartnerNewRow : OpenClaim := { program := "ytkmpfgpamlfldaa", sum := "2801bc0086279658e046ad501f5a00d9d28123368fc5067dd72b4d5e75bc4ef5", func := "loop.example/g00096/laws.FnExactPartnerNew", spec := "fnExactPartnerNew", apart := false }
def FnExactPartnerNewSaid : Prop := fnExactPartnerNewRow.holds Try.pinned (OpenSpec.ofChange fnExactPartnerNewSpec)

/-- ITS FALSE NEIGHBOUR: 'it returns false'. Refute it at one input. -/
def fnExactPartnerNewWrong : ChangeSpec := { name := "fnExactPartnerNew", fn := fun _ => fun
  | [d] => { results := [.lit (.bool false)], args := [d] }
  | _ => none }
def FnExactPartnerNewWrongFalsely : Prop := fnExactPartnerNewRow.holds Try.pinned (OpenSpec.ofChange fnExactPartnerNewWrong)

/-- 'laws.FnExactPartOf': WHATEVER THE INPUT: true; the input reads as it did. -/
def fnExactPartOfSpec : ChangeSpec := { name := "fnExactPartOf", fn := fun _ => fun
  | [d1, d2, d3] => { results := [.lit (.bool true)], args := [d1, d2, d3] }
  | _ => none }
def fnExactPartOfRow : OpenClaim := { program := "ytkmpfgpamlfldaa", sum := "2801bc0086279658e046ad501f5a00d9d28123368fc5067dd72b4d5e75bc4ef5", func := "loop.example/g00096/laws.FnExactPartOf", spec := "fnExactPartOf", apart := false }
def FnExactPartOfSaid : Prop := fnExactPartOfRow.holds Try.pinned (OpenSpec.ofChange fnExactPartOfSpec)

/-- ITS FALSE NEIGHBOUR: 'it returns false'. Refute it at one input. -/
def fnExactPartOfWrong : ChangeSpec := { name := "fnExactPartOf", fn := fun _ => fun
  | [d1, d2, d3] => { results := [.lit (.bool false)], args := [d1, d2, d3] }
  | _ => none }
def FnExactPartOfWrongFalsely : Prop := fnExactPartOfRow.holds Try.pinned (OpenSpec.ofChange fnExactPartOfWrong)

/-- 'laws.FnExactPartnerRight': WHATEVER THE INPUT: true; the input reads as it did. -/
def fnExactPartnerRightSpec : ChangeSpec := { name := "fnExactPartnerRight", fn := fun _ => fun
  | [d] => { results := [.lit (.bool true)], args := [d] }
  | _ => none }
def fnExactPartnerRightRow : OpenClaim := { program := "ytkmpfgpamlfldaa", sum := "2801bc0086279658e046ad501f5a00d9d28123368fc5067dd72b4d5e75bc4ef5", func := "loop.example/g00096/laws.FnExactPartnerRight", spec := "fnExactPartnerRight", apart := false }
def FnExactPartnerRightSaid : Prop := fnExactPartnerRightRow.holds Try.pinned (OpenSpec.ofChange fnExactPartnerRightSpec)

/-- ITS FALSE NEIGHBOUR: 'it returns false'. Refute it at one input. -/
def fnExactPartnerRightWrong : ChangeSpec := { name := "fnExactPartnerRight", fn := fun _ => fun
  | [d] => { results := [.lit (.bool false)], args := [d] }
  | _ => none }
def FnExactPartnerRightWrongFalsely : Prop := fnExactPartnerRightRow.holds Try.pinned (OpenSpec.ofChange fnExactPartnerRightWrong)

/- THE SECOND FORM. 'bulk': how many values and letters a reading holds, each counted each time it is reached (what is shared counts as often as it is met; a slice's spare places count too). A statement '..UptoSaid' is the law's where the arguments, and the package variables that the reading takes, are together of bulk at most 1048576: NARROWER than '..Said'. Prove '..Said' where nothing that the law and all that it calls make is longer than what came in: it says more and counts as full. Else prove '..UptoSaid'. A law counts once. -/
mutual
def uptoBulk {H : Type} : DataW H → Nat
  | .lit (.string bytes) => bytes.length + 1
  | .lit _ => 1
  | .nil => 1
  | .ptr d => uptoBulk d + 1
  | .slice elems spare => uptoBulkAll elems + uptoBulkAll spare + 1
  | .agg parts => uptoBulkAll parts + 1
  | .iface _ d => uptoBulk d + 1
  | .map entries => uptoBulkEntries entries + 1
  | .held _ => 1
def uptoBulkAll {H : Type} : List (DataW H) → Nat
  | [] => 0
  | d :: r => uptoBulk d + uptoBulkAll r
def uptoBulkEntries {H : Type} : List (Lit × DataW H) → Nat
  | [] => 0
  | x :: r => uptoBulkEntry x + uptoBulkEntries r
def uptoBulkEntry {H : Type} : Lit × DataW H → Nat
  | (.string bytes, d) => bytes.length + uptoBulk d + 1
  | (_, d) => uptoBulk d + 1
 end
def uptoSmall : (H : Type) → List (DataW H) → Bool := fun _ ds => decide (uptoBulkAll ds ≤ 1048576)
def OpenSpec.upto (s : _root_.Go.ChangeSpec) : _root_.Go.OpenSpec := { _root_.Go.OpenSpec.ofChange s with cond := some uptoSmall }

/-- 'laws.FnExactConstants', WHERE WHAT IT READS IS OF BULK AT MOST 1048576: true; the input reads as it did. -/
def fnExactConstantsUptoRow : OpenClaim := { program := "ytkmpfgpamlfldaa", sum := "2801bc0086279658e046ad501f5a00d9d28123368fc5067dd72b4d5e75bc4ef5", func := "loop.example/g00096/laws.FnExactConstants", spec := "fnExactConstants", apart := false, narrowed := true }
def FnExactConstantsUptoSaid : Prop := fnExactConstantsUptoRow.holds Try.pinned (OpenSpec.upto fnExactConstantsSpec)

/-- 'laws.FnExactKindName', WHERE WHAT IT READS IS OF BULK AT MOST 1048576: true; the input reads as it did. -/
def fnExactKindNameUptoRow : OpenClaim := { program := "ytkmpfgpamlfldaa", sum := "2801bc0086279658e046ad501f5a00d9d28123368fc5067dd72b4d5e75bc4ef5", func := "loop.example/g00096/laws.FnExactKindName", spec := "fnExactKindName", apart := false, narrowed := true }
def FnExactKindNameUptoSaid : Prop := fnExactKindNameUptoRow.holds Try.pinned (OpenSpec.upto fnExactKindNameSpec)

/-- 'laws.FnExactTagOf', WHERE WHAT IT READS IS OF BULK AT MOST 1048576: true; the input reads as it did. -/
def fnExactTagOfUptoRow : OpenClaim := { program := "ytkmpfgpamlfldaa", sum := "2801bc0086279658e046ad501f5a00d9d28123368fc5067dd72b4d5e75bc4ef5", func := "loop.example/g00096/laws.FnExactTagOf", spec := "fnExactTagOf", unfollowed := true, recurses := true, apart := false, narrowed := true }
def FnExactTagOfUptoSaid : Prop := fnExactTagOfUptoRow.holds Try.pinned (OpenSpec.upto fnExactTagOfSpec)

/-- 'laws.FnExactSyntaxRight', WHERE WHAT IT READS IS OF BULK AT MOST 1048576: true; the input reads as it did. -/
def fnExactSyntaxRightUptoRow : OpenClaim := { program := "ytkmpfgpamlfldaa", sum := "2801bc0086279658e046ad501f5a00d9d28123368fc5067dd72b4d5e75bc4ef5", func := "loop.example/g00096/laws.FnExactSyntaxRight", spec := "fnExactSyntaxRight", apart := false, narrowed := true }
def FnExactSyntaxRightUptoSaid : Prop := fnExactSyntaxRightUptoRow.holds Try.pinned (OpenSpec.upto fnExactSyntaxRightSpec)

/-- 'laws.FnExactLineRight', WHERE WHAT IT READS IS OF BULK AT MOST 1048576: true; the input reads as it did. -/
def fnExactLineRightUptoRow : OpenClaim := { program := "ytkmpfgpamlfldaa", sum := "2801bc0086279658e046ad501f5a00d9d28123368fc5067dd72b4d5e75bc4ef5", func := "loop.example/g00096/laws.FnExactLineRight", spec := "fnExactLineRight", apart := false, narrowed := true }
def FnExactLineRightUptoSaid : Prop := fnExactLineRightUptoRow.holds Try.pinned (OpenSpec.upto fnExactLineRightSpec)

/-- 'laws.FnExactSyntaxText', WHERE WHAT IT READS IS OF BULK AT MOST 1048576: true; the input reads as it did. -/
def fnExactSyntaxTextUptoRow : OpenClaim := { program := "ytkmpfgpamlfldaa", sum := "2801bc0086279658e046ad501f5a00d9d28123368fc5067dd72b4d5e75bc4ef5", func := "loop.example/g00096/laws.FnExactSyntaxText", spec := "fnExactSyntaxText", apart := false, narrowed := true }
def FnExactSyntaxTextUptoSaid : Prop := fnExactSyntaxTextUptoRow.holds Try.pinned (OpenSpec.upto fnExactSyntaxTextSpec)

/-- 'laws.FnExactLineOpen', WHERE WHAT IT READS IS OF BULK AT MOST 1048576: true; the input reads as it did. -/
def fnExactLineOpenUptoRow : OpenClaim := { program := "ytkmpfgpamlfldaa", sum := "2801bc0086279658e046ad501f5a00d9d28123368fc5067dd72b4d5e75bc4ef5", func := "loop.example/g00096/laws.FnExactLineOpen", spec := "fnExactLineOpen", apart := false, narrowed := true }
def FnExactLineOpenUptoSaid : Prop := fnExactLineOpenUptoRow.holds Try.pinned (OpenSpec.upto fnExactLineOpenSpec)

/-- 'laws.FnExactEscape', WHERE WHAT IT READS IS OF BULK AT MOST 1048576: true; the input reads as it did. -/
def fnExactEscapeUptoRow : OpenClaim := { program := "ytkmpfgpamlfldaa", sum := "2801bc0086279658e046ad501f5a00d9d28123368fc5067dd72b4d5e75bc4ef5", func := "loop.example/g00096/laws.FnExactEscape", spec := "fnExactEscape", unfollowed := true, recurses := true, apart := false, narrowed := true }
def FnExactEscapeUptoSaid : Prop := fnExactEscapeUptoRow.holds Try.pinned (OpenSpec.upto fnExactEscapeSpec)

/-- 'laws.FnExactTableOf', WHERE WHAT IT READS IS OF BULK AT MOST 1048576: true; the input reads as it did. -/
def fnExactTableOfUptoRow : OpenClaim := { program := "ytkmpfgpamlfldaa", sum := "2801bc0086279658e046ad501f5a00d9d28123368fc5067dd72b4d5e75bc4ef5", func := "loop.example/g00096/laws.FnExactTableOf", spec := "fnExactTableOf", unfollowed := true, recurses := true, apart := false, narrowed := true }
def FnExactTableOfUptoSaid : Prop := fnExactTableOfUptoRow.holds Try.pinned (OpenSpec.upto fnExactTableOfSpec)

/-- 'laws.FnExactPartnerNew', WHERE WHAT IT READS IS OF BULK AT MOST 1048576: true; the input reads as it did. -/
def fnExactPartnerNewUptoRow : OpenClaim := { program := "ytkmpfgpamlfldaa", sum := "2801bc0086279658e046ad501f5a00d9d28123368fc5067dd72b4d5e75bc4ef5", func := "loop.example/g00096/laws.FnExactPartnerNew", spec := "fnExactPartnerNew", apart := false, narrowed := true }
def FnExactPartnerNewUptoSaid : Prop := fnExactPartnerNewUptoRow.holds Try.pinned (OpenSpec.upto fnExactPartnerNewSpec)

/-- 'laws.FnExactPartOf', WHERE WHAT IT READS IS OF BULK AT MOST 1048576: true; the input reads as it did. -/
def fnExactPartOfUptoRow : OpenClaim := { program := "ytkmpfgpamlfldaa", sum := "2801bc0086279658e046ad501f5a00d9d28123368fc5067dd72b4d5e75bc4ef5", func := "loop.example/g00096/laws.FnExactPartOf", spec := "fnExactPartOf", apart := false, narrowed := true }
def FnExactPartOfUptoSaid : Prop := fnExactPartOfUptoRow.holds Try.pinned (OpenSpec.upto fnExactPartOfSpec)

/-- 'laws.FnExactPartnerRight', WHERE WHAT IT READS IS OF BULK AT MOST 1048576: true; the input reads as it did. -/
def fnExactPartnerRightUptoRow : OpenClaim := { program := "ytkmpfgpamlfldaa", sum := "2801bc0086279658e046ad501f5a00d9d28123368fc5067dd72b4d5e75bc4ef5", func := "loop.example/g00096/laws.FnExactPartnerRight", spec := "fnExactPartnerRight", apart := false, narrowed := true }
def FnExactPartnerRightUptoSaid : Prop := fnExactPartnerRightUptoRow.holds Try.pinned (OpenSpec.upto fnExactPartnerRightSpec)

end Rows
end Go.Proofs.Ytkmpfgpamlfldaa
