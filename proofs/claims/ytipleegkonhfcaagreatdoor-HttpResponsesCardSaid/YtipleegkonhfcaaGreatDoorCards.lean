/-
  DERIVED. GIVEN WITH THE SEED: THE CARDS: each row of YtipleegkonhfcaaGreatDoorRows.lean that lists a variable, with what it lists TIED to the program's text (the seventh form; the later family's looks); each row that meets fmt, with fmt's text TOLD by the authors' own Lean function (tested against real Go, not proved from fmt's source: count such statements apart). THE CARD IS WHAT COUNTS. Prove the row's statement (the work); the ties are given (YtipleegkonhfcaaGreatDoorTie.lean); close each card by the builder's one call (the guide's Derived/Test/ToyasCard.lean, 'card_holds'). Laid BY PROGRAM, IN A SANDBOX (cutbox-door.mjs). By AI agents, Wed Nov 11 2026. No macro, syntax, notation, axiom, sorry.
-/
import Derived.Test.YtipleegkonhfcaaGreatDoorRows
import GoSem.ClaimSeven
namespace Go.Proofs.YtipleegkonhfcaaGreatDoor
namespace Rows

/-- THE TIED CARD OF 'lanternlaw11.HttpAsks'. -/
def httpAsksCard : Claim7 := { stood := { row := httpAsksRow, standIns := [], harness := (true, "4240198716feb6b423ab69316017582dde1903840edffa824c710339b8c69e3e"), looks := true }, kinds := [], alts := [], laidByText := true, laidKinds := [.data, .data, .data, .data, .sentinel, .sentinel, .pinned], laidTests := true, laidLooks := .later }
def HttpAsksCardSaid : Prop := Claim7.holds Tryz.pinned (.plain (OpenSpec.ofChange httpAsksSpec)) httpAsksCard

/-- THE TIED CARD OF 'lanternlaw11.HttpRequests'. -/
def httpRequestsCard : Claim7 := { stood := { row := httpRequestsRow, standIns := [], harness := (true, "4240198716feb6b423ab69316017582dde1903840edffa824c710339b8c69e3e"), looks := true }, kinds := [], alts := [], laidByText := true, laidKinds := [.data, .data, .data, .data, .sentinel, .sentinel, .sentinel, .pinned], laidTests := true, laidLooks := .later }
def HttpRequestsCardSaid : Prop := Claim7.holds Tryz.pinned (.plain (OpenSpec.ofChange httpRequestsSpec)) httpRequestsCard

/-- THE TIED CARD OF 'lanternlaw11.HttpResponses'. -/
def httpResponsesCard : Claim7 := { stood := { row := httpResponsesRow, standIns := [], harness := (true, "4240198716feb6b423ab69316017582dde1903840edffa824c710339b8c69e3e"), looks := true }, kinds := [], alts := [], laidByText := true, laidKinds := [.data, .data, .data, .data, .sentinel, .sentinel, .sentinel, .pinned], laidTests := true, laidLooks := .later }
def HttpResponsesCardSaid : Prop := Claim7.holds Tryz.pinned (.plain (OpenSpec.ofChange httpResponsesSpec)) httpResponsesCard

/-- THE SECOND FORM's CARD OF 'lanternlaw11.HttpAsks'. -/
def httpAsksUptoCard : Claim7 := { stood := { row := httpAsksUptoRow, standIns := [], harness := (true, "4240198716feb6b423ab69316017582dde1903840edffa824c710339b8c69e3e"), looks := true }, kinds := [], alts := [], laidByText := true, laidKinds := [.data, .data, .data, .data, .sentinel, .sentinel, .pinned], laidTests := true, laidLooks := .later }
def HttpAsksUptoCardSaid : Prop := Claim7.holds Tryz.pinned (.plain (OpenSpec.upto httpAsksSpec)) httpAsksUptoCard

/-- THE SECOND FORM's CARD OF 'lanternlaw11.HttpRequests'. -/
def httpRequestsUptoCard : Claim7 := { stood := { row := httpRequestsUptoRow, standIns := [], harness := (true, "4240198716feb6b423ab69316017582dde1903840edffa824c710339b8c69e3e"), looks := true }, kinds := [], alts := [], laidByText := true, laidKinds := [.data, .data, .data, .data, .sentinel, .sentinel, .sentinel, .pinned], laidTests := true, laidLooks := .later }
def HttpRequestsUptoCardSaid : Prop := Claim7.holds Tryz.pinned (.plain (OpenSpec.upto httpRequestsSpec)) httpRequestsUptoCard

/-- THE SECOND FORM's CARD OF 'lanternlaw11.HttpResponses'. -/
def httpResponsesUptoCard : Claim7 := { stood := { row := httpResponsesUptoRow, standIns := [], harness := (true, "4240198716feb6b423ab69316017582dde1903840edffa824c710339b8c69e3e"), looks := true }, kinds := [], alts := [], laidByText := true, laidKinds := [.data, .data, .data, .data, .sentinel, .sentinel, .sentinel, .pinned], laidTests := true, laidLooks := .later }
def HttpResponsesUptoCardSaid : Prop := Claim7.holds Tryz.pinned (.plain (OpenSpec.upto httpResponsesSpec)) httpResponsesUptoCard
end Rows
end Go.Proofs.YtipleegkonhfcaaGreatDoor
