/-
  DERIVED. GIVEN WITH THE SEED: THE CARDS: each row of YtlbgphddhjnlcaaGreatDoorRows.lean that lists a variable, with what it lists TIED to the program's text (the seventh form; the later family's looks); each row that meets fmt, with fmt's text TOLD by the authors' own Lean function (tested against real Go, not proved from fmt's source: count such statements apart). THE CARD IS WHAT COUNTS. Prove the row's statement (the work); the ties are given (YtlbgphddhjnlcaaGreatDoorTie.lean); close each card by the builder's one call (the guide's Derived/Test/ToyasCard.lean, 'card_holds'). Laid BY PROGRAM, IN A SANDBOX (cutbox-door.mjs). By AI agents, Wed Nov 11 2026. No macro, syntax, notation, axiom, sorry.
-/
import Derived.Test.YtlbgphddhjnlcaaGreatDoorRows
import GoSem.ClaimSeven
namespace Go.Proofs.YtlbgphddhjnlcaaGreatDoor
namespace Rows

/-- THE TIED CARD OF 'lanternlaw14.DateDays'. -/
def dateDaysCard : Claim7 := { stood := { row := dateDaysRow, standIns := [], harness := (true, "aac02c423a891430811324f2006df53f28fdcc6cfabd70ba9a9ea5f867430494"), looks := true }, kinds := [], alts := [], laidByText := true, laidKinds := [.data, .data, .data, .data, .sentinel, .sentinel, .pinned], laidTests := true, laidLooks := .later }
def DateDaysCardSaid : Prop := Claim7.holds Tryz.pinned (.plain (OpenSpec.ofChange dateDaysSpec)) dateDaysCard

/-- THE TIED CARD OF 'lanternlaw14.DateCivils'. -/
def dateCivilsCard : Claim7 := { stood := { row := dateCivilsRow, standIns := [], harness := (true, "aac02c423a891430811324f2006df53f28fdcc6cfabd70ba9a9ea5f867430494"), looks := true }, kinds := [], alts := [], laidByText := true, laidKinds := [.data, .data, .data, .data, .sentinel, .sentinel, .pinned], laidTests := true, laidLooks := .later }
def DateCivilsCardSaid : Prop := Claim7.holds Tryz.pinned (.plain (OpenSpec.ofChange dateCivilsSpec)) dateCivilsCard

/-- THE TIED CARD OF 'lanternlaw14.DatePrints'. -/
def datePrintsCard : Claim7 := { stood := { row := datePrintsRow, standIns := [], harness := (true, "aac02c423a891430811324f2006df53f28fdcc6cfabd70ba9a9ea5f867430494"), looks := true }, kinds := [], alts := [], laidByText := true, laidKinds := [.data, .data, .data, .data, .sentinel, .sentinel, .pinned], laidTests := true, laidLooks := .later }
def DatePrintsCardSaid : Prop := Claim7.holds Tryz.pinned (.plain (OpenSpec.ofChange datePrintsSpec)) datePrintsCard

/-- THE TIED CARD OF 'lanternlaw14.DateZones'. -/
def dateZonesCard : Claim7 := { stood := { row := dateZonesRow, standIns := [], harness := (true, "aac02c423a891430811324f2006df53f28fdcc6cfabd70ba9a9ea5f867430494"), looks := true }, kinds := [], alts := [], laidByText := true, laidKinds := [.data, .data, .data, .data, .sentinel, .sentinel, .pinned], laidTests := true, laidLooks := .later }
def DateZonesCardSaid : Prop := Claim7.holds Tryz.pinned (.plain (OpenSpec.ofChange dateZonesSpec)) dateZonesCard

/-- THE SECOND FORM's CARD OF 'lanternlaw14.DateDays'. -/
def dateDaysUptoCard : Claim7 := { stood := { row := dateDaysUptoRow, standIns := [], harness := (true, "aac02c423a891430811324f2006df53f28fdcc6cfabd70ba9a9ea5f867430494"), looks := true }, kinds := [], alts := [], laidByText := true, laidKinds := [.data, .data, .data, .data, .sentinel, .sentinel, .pinned], laidTests := true, laidLooks := .later }
def DateDaysUptoCardSaid : Prop := Claim7.holds Tryz.pinned (.plain (OpenSpec.upto dateDaysSpec)) dateDaysUptoCard

/-- THE SECOND FORM's CARD OF 'lanternlaw14.DateCivils'. -/
def dateCivilsUptoCard : Claim7 := { stood := { row := dateCivilsUptoRow, standIns := [], harness := (true, "aac02c423a891430811324f2006df53f28fdcc6cfabd70ba9a9ea5f867430494"), looks := true }, kinds := [], alts := [], laidByText := true, laidKinds := [.data, .data, .data, .data, .sentinel, .sentinel, .pinned], laidTests := true, laidLooks := .later }
def DateCivilsUptoCardSaid : Prop := Claim7.holds Tryz.pinned (.plain (OpenSpec.upto dateCivilsSpec)) dateCivilsUptoCard

/-- THE SECOND FORM's CARD OF 'lanternlaw14.DatePrints'. -/
def datePrintsUptoCard : Claim7 := { stood := { row := datePrintsUptoRow, standIns := [], harness := (true, "aac02c423a891430811324f2006df53f28fdcc6cfabd70ba9a9ea5f867430494"), looks := true }, kinds := [], alts := [], laidByText := true, laidKinds := [.data, .data, .data, .data, .sentinel, .sentinel, .pinned], laidTests := true, laidLooks := .later }
def DatePrintsUptoCardSaid : Prop := Claim7.holds Tryz.pinned (.plain (OpenSpec.upto datePrintsSpec)) datePrintsUptoCard

/-- THE SECOND FORM's CARD OF 'lanternlaw14.DateZones'. -/
def dateZonesUptoCard : Claim7 := { stood := { row := dateZonesUptoRow, standIns := [], harness := (true, "aac02c423a891430811324f2006df53f28fdcc6cfabd70ba9a9ea5f867430494"), looks := true }, kinds := [], alts := [], laidByText := true, laidKinds := [.data, .data, .data, .data, .sentinel, .sentinel, .pinned], laidTests := true, laidLooks := .later }
def DateZonesUptoCardSaid : Prop := Claim7.holds Tryz.pinned (.plain (OpenSpec.upto dateZonesSpec)) dateZonesUptoCard
end Rows
end Go.Proofs.YtlbgphddhjnlcaaGreatDoor
