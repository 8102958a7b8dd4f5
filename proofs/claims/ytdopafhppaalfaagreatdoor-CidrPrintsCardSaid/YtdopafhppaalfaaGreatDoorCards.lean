/-
  DERIVED. GIVEN WITH THE SEED: THE CARDS: each row of YtdopafhppaalfaaGreatDoorRows.lean that lists a variable, with what it lists TIED to the program's text (the seventh form; the later family's looks); each row that meets fmt, with fmt's text TOLD by the authors' own Lean function (tested against real Go, not proved from fmt's source: count such statements apart). THE CARD IS WHAT COUNTS. Prove the row's statement (the work); the ties are given (YtdopafhppaalfaaGreatDoorTie.lean); close each card by the builder's one call (the guide's Derived/Test/ToyasCard.lean, 'card_holds'). Laid BY PROGRAM, IN A SANDBOX (cutbox-door.mjs). By AI agents, Wed Nov 11 2026. No macro, syntax, notation, axiom, sorry.
-/
import Derived.Test.YtdopafhppaalfaaGreatDoorRows
import GoSem.ClaimSeven
namespace Go.Proofs.YtdopafhppaalfaaGreatDoor
namespace Rows

/-- THE TIED CARD OF 'lanternlaw06.CidrPrints'. -/
def cidrPrintsCard : Claim7 := { stood := { row := cidrPrintsRow, standIns := [], harness := (true, "88244e8ec98f709e129f47ec1f3283db4f67d1ab255476ba0c8ebe375c0f88a4"), looks := true }, kinds := [], alts := [], laidByText := true, laidKinds := [.data, .data, .data, .data, .sentinel, .sentinel, .pinned], laidTests := true, laidLooks := .later }
def CidrPrintsCardSaid : Prop := Claim7.holds Tryz.pinned (.plain (OpenSpec.ofChange cidrPrintsSpec)) cidrPrintsCard

/-- THE SECOND FORM's CARD OF 'lanternlaw06.CidrPrints'. -/
def cidrPrintsUptoCard : Claim7 := { stood := { row := cidrPrintsUptoRow, standIns := [], harness := (true, "88244e8ec98f709e129f47ec1f3283db4f67d1ab255476ba0c8ebe375c0f88a4"), looks := true }, kinds := [], alts := [], laidByText := true, laidKinds := [.data, .data, .data, .data, .sentinel, .sentinel, .pinned], laidTests := true, laidLooks := .later }
def CidrPrintsUptoCardSaid : Prop := Claim7.holds Tryz.pinned (.plain (OpenSpec.upto cidrPrintsSpec)) cidrPrintsUptoCard
end Rows
end Go.Proofs.YtdopafhppaalfaaGreatDoor
