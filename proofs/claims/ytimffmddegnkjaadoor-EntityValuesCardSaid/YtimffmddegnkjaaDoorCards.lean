/-
  DERIVED. GIVEN WITH THE SEED: THE CARDS: each row of YtimffmddegnkjaaDoorRows.lean that lists a variable, with what it lists TIED to the program's text (the seventh form; the later family's looks); each row that meets fmt, with fmt's text TOLD by the authors' own Lean function (tested against real Go, not proved from fmt's source: count such statements apart). THE CARD IS WHAT COUNTS. Prove the row's statement (the work); the ties are given (YtimffmddegnkjaaDoorTie.lean); close each card by the builder's one call (the guide's Derived/Test/ToyasCard.lean, 'card_holds'). Laid BY PROGRAM, IN A SANDBOX (cutbox-door.mjs). By AI agents, Wed Nov 11 2026. No macro, syntax, notation, axiom, sorry.
-/
import Derived.Test.YtimffmddegnkjaaDoorRows
import GoSem.ClaimSeven
namespace Go.Proofs.YtimffmddegnkjaaDoor
namespace Rows

/-- THE TIED CARD OF 'lanternlaw12.EntityUnescapes'. -/
def entityUnescapesCard : Claim7 := { stood := { row := entityUnescapesRow, standIns := [], harness := (true, "9b98638fe0e9338964ab6f58f1027bc88fca22bd79e6f0d68e15b2b1d52a10a1"), looks := true }, kinds := [], alts := [], laidByText := true, laidKinds := [.data, .data, .data, .data, .sentinel, .sentinel, .pinned], laidTests := true, laidLooks := .later }
def EntityUnescapesCardSaid : Prop := Claim7.holds Tryd.pinned (.plain (OpenSpec.ofChange entityUnescapesSpec)) entityUnescapesCard

/-- THE TIED CARD OF 'lanternlaw12.EntityNumbers'. -/
def entityNumbersCard : Claim7 := { stood := { row := entityNumbersRow, standIns := [], harness := (true, "9b98638fe0e9338964ab6f58f1027bc88fca22bd79e6f0d68e15b2b1d52a10a1"), looks := true }, kinds := [], alts := [], laidByText := true, laidKinds := [.data, .data, .data, .data, .sentinel, .sentinel, .pinned], laidTests := true, laidLooks := .later }
def EntityNumbersCardSaid : Prop := Claim7.holds Tryd.pinned (.plain (OpenSpec.ofChange entityNumbersSpec)) entityNumbersCard

/-- THE TIED CARD OF 'lanternlaw12.EntityEscapes'. -/
def entityEscapesCard : Claim7 := { stood := { row := entityEscapesRow, standIns := [], harness := (true, "9b98638fe0e9338964ab6f58f1027bc88fca22bd79e6f0d68e15b2b1d52a10a1"), looks := true }, kinds := [], alts := [], laidByText := true, laidKinds := [.data, .data, .data, .data, .sentinel, .sentinel, .pinned], laidTests := true, laidLooks := .later }
def EntityEscapesCardSaid : Prop := Claim7.holds Tryd.pinned (.plain (OpenSpec.ofChange entityEscapesSpec)) entityEscapesCard

/-- THE TIED CARD OF 'lanternlaw12.EntityValues'. -/
def entityValuesCard : Claim7 := { stood := { row := entityValuesRow, standIns := [], harness := (true, "9b98638fe0e9338964ab6f58f1027bc88fca22bd79e6f0d68e15b2b1d52a10a1"), looks := true }, kinds := [], alts := [], laidByText := true, laidKinds := [.data, .data, .data, .data, .sentinel, .sentinel, .pinned], laidTests := true, laidLooks := .later }
def EntityValuesCardSaid : Prop := Claim7.holds Tryd.pinned (.plain (OpenSpec.ofChange entityValuesSpec)) entityValuesCard

/-- THE SECOND FORM's CARD OF 'lanternlaw12.EntityUnescapes'. -/
def entityUnescapesUptoCard : Claim7 := { stood := { row := entityUnescapesUptoRow, standIns := [], harness := (true, "9b98638fe0e9338964ab6f58f1027bc88fca22bd79e6f0d68e15b2b1d52a10a1"), looks := true }, kinds := [], alts := [], laidByText := true, laidKinds := [.data, .data, .data, .data, .sentinel, .sentinel, .pinned], laidTests := true, laidLooks := .later }
def EntityUnescapesUptoCardSaid : Prop := Claim7.holds Tryd.pinned (.plain (OpenSpec.upto entityUnescapesSpec)) entityUnescapesUptoCard

/-- THE SECOND FORM's CARD OF 'lanternlaw12.EntityNumbers'. -/
def entityNumbersUptoCard : Claim7 := { stood := { row := entityNumbersUptoRow, standIns := [], harness := (true, "9b98638fe0e9338964ab6f58f1027bc88fca22bd79e6f0d68e15b2b1d52a10a1"), looks := true }, kinds := [], alts := [], laidByText := true, laidKinds := [.data, .data, .data, .data, .sentinel, .sentinel, .pinned], laidTests := true, laidLooks := .later }
def EntityNumbersUptoCardSaid : Prop := Claim7.holds Tryd.pinned (.plain (OpenSpec.upto entityNumbersSpec)) entityNumbersUptoCard

/-- THE SECOND FORM's CARD OF 'lanternlaw12.EntityEscapes'. -/
def entityEscapesUptoCard : Claim7 := { stood := { row := entityEscapesUptoRow, standIns := [], harness := (true, "9b98638fe0e9338964ab6f58f1027bc88fca22bd79e6f0d68e15b2b1d52a10a1"), looks := true }, kinds := [], alts := [], laidByText := true, laidKinds := [.data, .data, .data, .data, .sentinel, .sentinel, .pinned], laidTests := true, laidLooks := .later }
def EntityEscapesUptoCardSaid : Prop := Claim7.holds Tryd.pinned (.plain (OpenSpec.upto entityEscapesSpec)) entityEscapesUptoCard

/-- THE SECOND FORM's CARD OF 'lanternlaw12.EntityValues'. -/
def entityValuesUptoCard : Claim7 := { stood := { row := entityValuesUptoRow, standIns := [], harness := (true, "9b98638fe0e9338964ab6f58f1027bc88fca22bd79e6f0d68e15b2b1d52a10a1"), looks := true }, kinds := [], alts := [], laidByText := true, laidKinds := [.data, .data, .data, .data, .sentinel, .sentinel, .pinned], laidTests := true, laidLooks := .later }
def EntityValuesUptoCardSaid : Prop := Claim7.holds Tryd.pinned (.plain (OpenSpec.upto entityValuesSpec)) entityValuesUptoCard
end Rows
end Go.Proofs.YtimffmddegnkjaaDoor
