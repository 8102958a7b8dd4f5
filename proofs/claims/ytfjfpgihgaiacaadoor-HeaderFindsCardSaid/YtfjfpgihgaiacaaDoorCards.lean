/-
  DERIVED. GIVEN WITH THE SEED: THE CARDS: each row of YtfjfpgihgaiacaaDoorRows.lean that lists a variable, with what it lists TIED to the program's text (the seventh form; the later family's looks); each row that meets fmt, with fmt's text TOLD by the authors' own Lean function (tested against real Go, not proved from fmt's source: count such statements apart). THE CARD IS WHAT COUNTS. Prove the row's statement (the work); the ties are given (YtfjfpgihgaiacaaDoorTie.lean); close each card by the builder's one call (the guide's Derived/Test/ToyasCard.lean, 'card_holds'). Laid BY PROGRAM, IN A SANDBOX (cutbox-door.mjs). By AI agents, Wed Nov 11 2026. No macro, syntax, notation, axiom, sorry.
-/
import Derived.Test.YtfjfpgihgaiacaaDoorRows
import GoSem.ClaimSeven
namespace Go.Proofs.YtfjfpgihgaiacaaDoor
namespace Rows

/-- THE TIED CARD OF 'lanternlaw09.HeaderParses'. -/
def headerParsesCard : Claim7 := { stood := { row := headerParsesRow, standIns := [], harness := (true, "0d8f8c56d4c9748e5b8e1a59c13b474463a1a5098ea59bee18ca0244da976c12"), looks := false }, kinds := [], alts := [], laidByText := true, laidKinds := [.data, .pinned], laidTests := true, laidLooks := .later }
def HeaderParsesCardSaid : Prop := Claim7.holds Tryd.pinned (.plain (OpenSpec.ofChange headerParsesSpec)) headerParsesCard

/-- THE TIED CARD OF 'lanternlaw09.HeaderFinds'. -/
def headerFindsCard : Claim7 := { stood := { row := headerFindsRow, standIns := [], harness := (true, "0d8f8c56d4c9748e5b8e1a59c13b474463a1a5098ea59bee18ca0244da976c12"), looks := false }, kinds := [], alts := [], laidByText := true, laidKinds := [.data, .pinned], laidTests := true, laidLooks := .later }
def HeaderFindsCardSaid : Prop := Claim7.holds Tryd.pinned (.plain (OpenSpec.ofChange headerFindsSpec)) headerFindsCard

/-- THE TIED CARD OF 'lanternlaw09.HeaderPrints'. -/
def headerPrintsCard : Claim7 := { stood := { row := headerPrintsRow, standIns := [], harness := (true, "0d8f8c56d4c9748e5b8e1a59c13b474463a1a5098ea59bee18ca0244da976c12"), looks := false }, kinds := [], alts := [], laidByText := true, laidKinds := [.data, .sentinel, .pinned], laidTests := true, laidLooks := .later }
def HeaderPrintsCardSaid : Prop := Claim7.holds Tryd.pinned (.plain (OpenSpec.ofChange headerPrintsSpec)) headerPrintsCard

/-- THE TIED CARD OF 'lanternlaw09.HeaderCuts'. -/
def headerCutsCard : Claim7 := { stood := { row := headerCutsRow, standIns := [], harness := (true, "0d8f8c56d4c9748e5b8e1a59c13b474463a1a5098ea59bee18ca0244da976c12"), looks := false }, kinds := [], alts := [], laidByText := true, laidKinds := [.data, .sentinel, .pinned], laidTests := true, laidLooks := .later }
def HeaderCutsCardSaid : Prop := Claim7.holds Tryd.pinned (.plain (OpenSpec.ofChange headerCutsSpec)) headerCutsCard

/-- THE SECOND FORM's CARD OF 'lanternlaw09.HeaderParses'. -/
def headerParsesUptoCard : Claim7 := { stood := { row := headerParsesUptoRow, standIns := [], harness := (true, "0d8f8c56d4c9748e5b8e1a59c13b474463a1a5098ea59bee18ca0244da976c12"), looks := false }, kinds := [], alts := [], laidByText := true, laidKinds := [.data, .pinned], laidTests := true, laidLooks := .later }
def HeaderParsesUptoCardSaid : Prop := Claim7.holds Tryd.pinned (.plain (OpenSpec.upto headerParsesSpec)) headerParsesUptoCard

/-- THE SECOND FORM's CARD OF 'lanternlaw09.HeaderFinds'. -/
def headerFindsUptoCard : Claim7 := { stood := { row := headerFindsUptoRow, standIns := [], harness := (true, "0d8f8c56d4c9748e5b8e1a59c13b474463a1a5098ea59bee18ca0244da976c12"), looks := false }, kinds := [], alts := [], laidByText := true, laidKinds := [.data, .pinned], laidTests := true, laidLooks := .later }
def HeaderFindsUptoCardSaid : Prop := Claim7.holds Tryd.pinned (.plain (OpenSpec.upto headerFindsSpec)) headerFindsUptoCard

/-- THE SECOND FORM's CARD OF 'lanternlaw09.HeaderPrints'. -/
def headerPrintsUptoCard : Claim7 := { stood := { row := headerPrintsUptoRow, standIns := [], harness := (true, "0d8f8c56d4c9748e5b8e1a59c13b474463a1a5098ea59bee18ca0244da976c12"), looks := false }, kinds := [], alts := [], laidByText := true, laidKinds := [.data, .sentinel, .pinned], laidTests := true, laidLooks := .later }
def HeaderPrintsUptoCardSaid : Prop := Claim7.holds Tryd.pinned (.plain (OpenSpec.upto headerPrintsSpec)) headerPrintsUptoCard

/-- THE SECOND FORM's CARD OF 'lanternlaw09.HeaderCuts'. -/
def headerCutsUptoCard : Claim7 := { stood := { row := headerCutsUptoRow, standIns := [], harness := (true, "0d8f8c56d4c9748e5b8e1a59c13b474463a1a5098ea59bee18ca0244da976c12"), looks := false }, kinds := [], alts := [], laidByText := true, laidKinds := [.data, .sentinel, .pinned], laidTests := true, laidLooks := .later }
def HeaderCutsUptoCardSaid : Prop := Claim7.holds Tryd.pinned (.plain (OpenSpec.upto headerCutsSpec)) headerCutsUptoCard
end Rows
end Go.Proofs.YtfjfpgihgaiacaaDoor
