/-
  DERIVED. GIVEN WITH THE SEED: THE CARDS: each row of YtlghcbmkhdibdaaGreatDoorRows.lean that lists a variable, with what it lists TIED to the program's text (the seventh form; the later family's looks); each row that meets fmt, with fmt's text TOLD by the authors' own Lean function (tested against real Go, not proved from fmt's source: count such statements apart). THE CARD IS WHAT COUNTS. Prove the row's statement (the work); the ties are given (YtlghcbmkhdibdaaGreatDoorTie.lean); close each card by the builder's one call (the guide's Derived/Test/ToyasCard.lean, 'card_holds'). Laid BY PROGRAM, IN A SANDBOX (cutbox-door.mjs). By AI agents, Wed Nov 11 2026. No macro, syntax, notation, axiom, sorry.
-/
import Derived.Test.YtlghcbmkhdibdaaGreatDoorRows
import GoSem.ClaimSeven
namespace Go.Proofs.YtlghcbmkhdibdaaGreatDoor
namespace Rows

/-- THE TIED CARD OF 'laws.FnExactIxSegments'. -/
def fnExactIxSegmentsCard : Claim7 := { stood := { row := fnExactIxSegmentsRow, standIns := [], harness := (true, "09a3d8a47fc6883b6f43614f6e8baa897f111f1c699a29c3e67364535f5520a4"), looks := true }, kinds := [], alts := [], laidByText := true, laidKinds := [.data, .data, .data], laidTests := true, laidLooks := .later }
def FnExactIxSegmentsCardSaid : Prop := Claim7.holds Tryz.pinned (.plain (OpenSpec.ofChange fnExactIxSegmentsSpec)) fnExactIxSegmentsCard

/-- THE TIED CARD OF 'laws.FnEnvelopes'. -/
def fnEnvelopesCard : Claim7 := { stood := { row := fnEnvelopesRow, standIns := [], harness := (true, "09a3d8a47fc6883b6f43614f6e8baa897f111f1c699a29c3e67364535f5520a4"), looks := true }, kinds := [], alts := [], laidByText := true, laidKinds := [.data, .data, .data, .sentinel, .sentinel], laidTests := true, laidLooks := .later }
def FnEnvelopesCardSaid : Prop := Claim7.holds Tryz.pinned (.plain (OpenSpec.ofChange fnEnvelopesSpec)) fnEnvelopesCard

/-- THE SECOND FORM's CARD OF 'laws.FnExactIxSegments'. -/
def fnExactIxSegmentsUptoCard : Claim7 := { stood := { row := fnExactIxSegmentsUptoRow, standIns := [], harness := (true, "09a3d8a47fc6883b6f43614f6e8baa897f111f1c699a29c3e67364535f5520a4"), looks := true }, kinds := [], alts := [], laidByText := true, laidKinds := [.data, .data, .data], laidTests := true, laidLooks := .later }
def FnExactIxSegmentsUptoCardSaid : Prop := Claim7.holds Tryz.pinned (.plain (OpenSpec.upto fnExactIxSegmentsSpec)) fnExactIxSegmentsUptoCard

/-- THE SECOND FORM's CARD OF 'laws.FnEnvelopes'. -/
def fnEnvelopesUptoCard : Claim7 := { stood := { row := fnEnvelopesUptoRow, standIns := [], harness := (true, "09a3d8a47fc6883b6f43614f6e8baa897f111f1c699a29c3e67364535f5520a4"), looks := true }, kinds := [], alts := [], laidByText := true, laidKinds := [.data, .data, .data, .sentinel, .sentinel], laidTests := true, laidLooks := .later }
def FnEnvelopesUptoCardSaid : Prop := Claim7.holds Tryz.pinned (.plain (OpenSpec.upto fnEnvelopesSpec)) fnEnvelopesUptoCard
end Rows
end Go.Proofs.YtlghcbmkhdibdaaGreatDoor
