/-
  DERIVED. GIVEN WITH THE SEED: THE CARDS: each row of YtdopafhppaalfaaDoorRows.lean that lists a variable, with what it lists TIED to the program's text (the seventh form; the later family's looks); each row that meets fmt, with fmt's text TOLD by the authors' own Lean function (tested against real Go, not proved from fmt's source: count such statements apart). THE CARD IS WHAT COUNTS. Prove the row's statement (the work); the ties are given (YtdopafhppaalfaaDoorTie.lean); close each card by the builder's one call (the guide's Derived/Test/ToyasCard.lean, 'card_holds'). Laid BY PROGRAM, IN A SANDBOX (cutbox-door.mjs). By AI agents, Wed Nov 11 2026. No macro, syntax, notation, axiom, sorry.
-/
import Derived.Test.YtdopafhppaalfaaDoorRows
import GoSem.ClaimSeven
namespace Go.Proofs.YtdopafhppaalfaaDoor
namespace Rows

/-- THE TIED CARD OF 'lanternlaw06.CidrAllows'. -/
def cidrAllowsCard : Claim7 := { stood := { row := cidrAllowsRow, standIns := [], harness := (true, "eb458cd7afb939f2d0df927316313adbbaaf858a2a7b15a58ed734a781a3c2c9"), looks := true }, kinds := [], alts := [], laidByText := true, laidKinds := [.data, .data, .data, .data, .sentinel, .sentinel, .pinned], laidTests := true, laidLooks := .later }
def CidrAllowsCardSaid : Prop := Claim7.holds Tryd.pinned (.plain (OpenSpec.ofChange cidrAllowsSpec)) cidrAllowsCard

/-- THE TIED CARD OF 'lanternlaw06.CidrSafe'. -/
def cidrSafeCard : Claim7 := { stood := { row := cidrSafeRow, standIns := [], harness := (true, "eb458cd7afb939f2d0df927316313adbbaaf858a2a7b15a58ed734a781a3c2c9"), looks := true }, kinds := [], alts := [], laidByText := true, laidKinds := [.data, .data, .data, .data, .sentinel, .sentinel, .pinned], laidTests := true, laidLooks := .later }
def CidrSafeCardSaid : Prop := Claim7.holds Tryd.pinned (.plain (OpenSpec.ofChange cidrSafeSpec)) cidrSafeCard

/-- THE TIED CARD OF 'lanternlaw06.CidrHas'. -/
def cidrHasCard : Claim7 := { stood := { row := cidrHasRow, standIns := [], harness := (true, "eb458cd7afb939f2d0df927316313adbbaaf858a2a7b15a58ed734a781a3c2c9"), looks := true }, kinds := [], alts := [], laidByText := true, laidKinds := [.data, .data, .data, .data, .sentinel, .sentinel, .pinned], laidTests := true, laidLooks := .later }
def CidrHasCardSaid : Prop := Claim7.holds Tryd.pinned (.plain (OpenSpec.ofChange cidrHasSpec)) cidrHasCard

/-- THE SECOND FORM's CARD OF 'lanternlaw06.CidrAllows'. -/
def cidrAllowsUptoCard : Claim7 := { stood := { row := cidrAllowsUptoRow, standIns := [], harness := (true, "eb458cd7afb939f2d0df927316313adbbaaf858a2a7b15a58ed734a781a3c2c9"), looks := true }, kinds := [], alts := [], laidByText := true, laidKinds := [.data, .data, .data, .data, .sentinel, .sentinel, .pinned], laidTests := true, laidLooks := .later }
def CidrAllowsUptoCardSaid : Prop := Claim7.holds Tryd.pinned (.plain (OpenSpec.upto cidrAllowsSpec)) cidrAllowsUptoCard

/-- THE SECOND FORM's CARD OF 'lanternlaw06.CidrSafe'. -/
def cidrSafeUptoCard : Claim7 := { stood := { row := cidrSafeUptoRow, standIns := [], harness := (true, "eb458cd7afb939f2d0df927316313adbbaaf858a2a7b15a58ed734a781a3c2c9"), looks := true }, kinds := [], alts := [], laidByText := true, laidKinds := [.data, .data, .data, .data, .sentinel, .sentinel, .pinned], laidTests := true, laidLooks := .later }
def CidrSafeUptoCardSaid : Prop := Claim7.holds Tryd.pinned (.plain (OpenSpec.upto cidrSafeSpec)) cidrSafeUptoCard

/-- THE SECOND FORM's CARD OF 'lanternlaw06.CidrHas'. -/
def cidrHasUptoCard : Claim7 := { stood := { row := cidrHasUptoRow, standIns := [], harness := (true, "eb458cd7afb939f2d0df927316313adbbaaf858a2a7b15a58ed734a781a3c2c9"), looks := true }, kinds := [], alts := [], laidByText := true, laidKinds := [.data, .data, .data, .data, .sentinel, .sentinel, .pinned], laidTests := true, laidLooks := .later }
def CidrHasUptoCardSaid : Prop := Claim7.holds Tryd.pinned (.plain (OpenSpec.upto cidrHasSpec)) cidrHasUptoCard
end Rows
end Go.Proofs.YtdopafhppaalfaaDoor
