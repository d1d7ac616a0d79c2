/-
  DERIVED. GIVEN WITH THE SEED: THE CARDS: each row of YtlghcbmkhdibdaaDoorRows.lean that lists a variable, with what it lists TIED to the program's text (the seventh form; the later family's looks); each row that meets fmt, with fmt's text TOLD by the authors' own Lean function (tested against real Go, not proved from fmt's source: count such statements apart). THE CARD IS WHAT COUNTS. Prove the row's statement (the work); the ties are given (YtlghcbmkhdibdaaDoorTie.lean); close each card by the builder's one call (the guide's Derived/Test/ToyasCard.lean, 'card_holds'). Laid BY PROGRAM, IN A SANDBOX (cutbox-door.mjs). By AI agents, Wed Nov 11 2026. No macro, syntax, notation, axiom, sorry.
-/
import Derived.Test.YtlghcbmkhdibdaaDoorRows
import GoSem.ClaimSeven
namespace Go.Proofs.YtlghcbmkhdibdaaDoor
namespace Rows

/-- THE TIED CARD OF 'laws.FnExactIxCount'. -/
def fnExactIxCountCard : Claim7 := { stood := { row := fnExactIxCountRow, standIns := [], harness := (true, "4220ca10a9b33271936bf63bc17c09dbbb23fef1af6167462b131bcfedd6487b"), looks := true }, kinds := [], alts := [], laidByText := true, laidKinds := [.data, .data, .data], laidTests := true, laidLooks := .later }
def FnExactIxCountCardSaid : Prop := Claim7.holds Tryd.pinned (.plain (OpenSpec.ofChange fnExactIxCountSpec)) fnExactIxCountCard

/-- THE TIED CARD OF 'laws.FnExactHeadOf'. -/
def fnExactHeadOfCard : Claim7 := { stood := { row := fnExactHeadOfRow, standIns := [], harness := (true, "4220ca10a9b33271936bf63bc17c09dbbb23fef1af6167462b131bcfedd6487b"), looks := true }, kinds := [], alts := [], laidByText := true, laidKinds := [.data, .data, .data, .sentinel, .sentinel], laidTests := true, laidLooks := .later }
def FnExactHeadOfCardSaid : Prop := Claim7.holds Tryd.pinned (.plain (OpenSpec.ofChange fnExactHeadOfSpec)) fnExactHeadOfCard

/-- THE TIED CARD OF 'laws.FnTrailers'. -/
def fnTrailersCard : Claim7 := { stood := { row := fnTrailersRow, standIns := [], harness := (true, "4220ca10a9b33271936bf63bc17c09dbbb23fef1af6167462b131bcfedd6487b"), looks := true }, kinds := [], alts := [], laidByText := true, laidKinds := [.data, .data, .data, .sentinel, .sentinel], laidTests := true, laidLooks := .later }
def FnTrailersCardSaid : Prop := Claim7.holds Tryd.pinned (.plain (OpenSpec.ofChange fnTrailersSpec)) fnTrailersCard

/-- THE SECOND FORM's CARD OF 'laws.FnExactIxCount'. -/
def fnExactIxCountUptoCard : Claim7 := { stood := { row := fnExactIxCountUptoRow, standIns := [], harness := (true, "4220ca10a9b33271936bf63bc17c09dbbb23fef1af6167462b131bcfedd6487b"), looks := true }, kinds := [], alts := [], laidByText := true, laidKinds := [.data, .data, .data], laidTests := true, laidLooks := .later }
def FnExactIxCountUptoCardSaid : Prop := Claim7.holds Tryd.pinned (.plain (OpenSpec.upto fnExactIxCountSpec)) fnExactIxCountUptoCard

/-- THE SECOND FORM's CARD OF 'laws.FnExactHeadOf'. -/
def fnExactHeadOfUptoCard : Claim7 := { stood := { row := fnExactHeadOfUptoRow, standIns := [], harness := (true, "4220ca10a9b33271936bf63bc17c09dbbb23fef1af6167462b131bcfedd6487b"), looks := true }, kinds := [], alts := [], laidByText := true, laidKinds := [.data, .data, .data, .sentinel, .sentinel], laidTests := true, laidLooks := .later }
def FnExactHeadOfUptoCardSaid : Prop := Claim7.holds Tryd.pinned (.plain (OpenSpec.upto fnExactHeadOfSpec)) fnExactHeadOfUptoCard

/-- THE SECOND FORM's CARD OF 'laws.FnTrailers'. -/
def fnTrailersUptoCard : Claim7 := { stood := { row := fnTrailersUptoRow, standIns := [], harness := (true, "4220ca10a9b33271936bf63bc17c09dbbb23fef1af6167462b131bcfedd6487b"), looks := true }, kinds := [], alts := [], laidByText := true, laidKinds := [.data, .data, .data, .sentinel, .sentinel], laidTests := true, laidLooks := .later }
def FnTrailersUptoCardSaid : Prop := Claim7.holds Tryd.pinned (.plain (OpenSpec.upto fnTrailersSpec)) fnTrailersUptoCard
end Rows
end Go.Proofs.YtlghcbmkhdibdaaDoor
