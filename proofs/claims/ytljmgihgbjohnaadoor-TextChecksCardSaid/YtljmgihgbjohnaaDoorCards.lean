/-
  DERIVED. GIVEN WITH THE SEED: THE CARDS: each row of YtljmgihgbjohnaaDoorRows.lean that lists a variable, with what it lists TIED to the program's text (the seventh form; the later family's looks); each row that meets fmt, with fmt's text TOLD by the authors' own Lean function (tested against real Go, not proved from fmt's source: count such statements apart). THE CARD IS WHAT COUNTS. Prove the row's statement (the work); the ties are given (YtljmgihgbjohnaaDoorTie.lean); close each card by the builder's one call (the guide's Derived/Test/ToyasCard.lean, 'card_holds'). Laid BY PROGRAM, IN A SANDBOX (cutbox-door.mjs). By AI agents, Wed Nov 11 2026. No macro, syntax, notation, axiom, sorry.
-/
import Derived.Test.YtljmgihgbjohnaaDoorRows
import GoSem.ClaimSeven
namespace Go.Proofs.YtljmgihgbjohnaaDoor
namespace Rows

/-- THE TIED CARD OF 'lanternlaw01.TextHeads'. -/
def textHeadsCard : Claim7 := { stood := { row := textHeadsRow, standIns := [], harness := (true, "af730cc8db50a1f91c27fd09de574d1cd73cbd170af7b30eda6454876400640d"), looks := false }, kinds := [], alts := [], laidByText := true, laidKinds := [.data, .pinned], laidTests := true, laidLooks := .later }
def TextHeadsCardSaid : Prop := Claim7.holds Tryd.pinned (.plain (OpenSpec.ofChange textHeadsSpec)) textHeadsCard

/-- THE TIED CARD OF 'lanternlaw01.TextWords'. -/
def textWordsCard : Claim7 := { stood := { row := textWordsRow, standIns := [], harness := (true, "af730cc8db50a1f91c27fd09de574d1cd73cbd170af7b30eda6454876400640d"), looks := false }, kinds := [], alts := [], laidByText := true, laidKinds := [.data, .pinned], laidTests := true, laidLooks := .later }
def TextWordsCardSaid : Prop := Claim7.holds Tryd.pinned (.plain (OpenSpec.ofChange textWordsSpec)) textWordsCard

/-- THE TIED CARD OF 'lanternlaw01.TextTwice'. -/
def textTwiceCard : Claim7 := { stood := { row := textTwiceRow, standIns := [], harness := (true, "af730cc8db50a1f91c27fd09de574d1cd73cbd170af7b30eda6454876400640d"), looks := false }, kinds := [], alts := [], laidByText := true, laidKinds := [.data, .pinned], laidTests := true, laidLooks := .later }
def TextTwiceCardSaid : Prop := Claim7.holds Tryd.pinned (.plain (OpenSpec.ofChange textTwiceSpec)) textTwiceCard

/-- THE TIED CARD OF 'lanternlaw01.TextLowers'. -/
def textLowersCard : Claim7 := { stood := { row := textLowersRow, standIns := [], harness := (true, "af730cc8db50a1f91c27fd09de574d1cd73cbd170af7b30eda6454876400640d"), looks := false }, kinds := [], alts := [], laidByText := true, laidKinds := [.data, .pinned], laidTests := true, laidLooks := .later }
def TextLowersCardSaid : Prop := Claim7.holds Tryd.pinned (.plain (OpenSpec.ofChange textLowersSpec)) textLowersCard

/-- THE TIED CARD OF 'lanternlaw01.TextChecks'. -/
def textChecksCard : Claim7 := { stood := { row := textChecksRow, standIns := [], harness := (true, "af730cc8db50a1f91c27fd09de574d1cd73cbd170af7b30eda6454876400640d"), looks := false }, kinds := [], alts := [], laidByText := true, laidKinds := [.data, .pinned], laidTests := true, laidLooks := .later }
def TextChecksCardSaid : Prop := Claim7.holds Tryd.pinned (.plain (OpenSpec.ofChange textChecksSpec)) textChecksCard

/-- THE SECOND FORM's CARD OF 'lanternlaw01.TextHeads'. -/
def textHeadsUptoCard : Claim7 := { stood := { row := textHeadsUptoRow, standIns := [], harness := (true, "af730cc8db50a1f91c27fd09de574d1cd73cbd170af7b30eda6454876400640d"), looks := false }, kinds := [], alts := [], laidByText := true, laidKinds := [.data, .pinned], laidTests := true, laidLooks := .later }
def TextHeadsUptoCardSaid : Prop := Claim7.holds Tryd.pinned (.plain (OpenSpec.upto textHeadsSpec)) textHeadsUptoCard

/-- THE SECOND FORM's CARD OF 'lanternlaw01.TextWords'. -/
def textWordsUptoCard : Claim7 := { stood := { row := textWordsUptoRow, standIns := [], harness := (true, "af730cc8db50a1f91c27fd09de574d1cd73cbd170af7b30eda6454876400640d"), looks := false }, kinds := [], alts := [], laidByText := true, laidKinds := [.data, .pinned], laidTests := true, laidLooks := .later }
def TextWordsUptoCardSaid : Prop := Claim7.holds Tryd.pinned (.plain (OpenSpec.upto textWordsSpec)) textWordsUptoCard

/-- THE SECOND FORM's CARD OF 'lanternlaw01.TextTwice'. -/
def textTwiceUptoCard : Claim7 := { stood := { row := textTwiceUptoRow, standIns := [], harness := (true, "af730cc8db50a1f91c27fd09de574d1cd73cbd170af7b30eda6454876400640d"), looks := false }, kinds := [], alts := [], laidByText := true, laidKinds := [.data, .pinned], laidTests := true, laidLooks := .later }
def TextTwiceUptoCardSaid : Prop := Claim7.holds Tryd.pinned (.plain (OpenSpec.upto textTwiceSpec)) textTwiceUptoCard

/-- THE SECOND FORM's CARD OF 'lanternlaw01.TextLowers'. -/
def textLowersUptoCard : Claim7 := { stood := { row := textLowersUptoRow, standIns := [], harness := (true, "af730cc8db50a1f91c27fd09de574d1cd73cbd170af7b30eda6454876400640d"), looks := false }, kinds := [], alts := [], laidByText := true, laidKinds := [.data, .pinned], laidTests := true, laidLooks := .later }
def TextLowersUptoCardSaid : Prop := Claim7.holds Tryd.pinned (.plain (OpenSpec.upto textLowersSpec)) textLowersUptoCard

/-- THE SECOND FORM's CARD OF 'lanternlaw01.TextChecks'. -/
def textChecksUptoCard : Claim7 := { stood := { row := textChecksUptoRow, standIns := [], harness := (true, "af730cc8db50a1f91c27fd09de574d1cd73cbd170af7b30eda6454876400640d"), looks := false }, kinds := [], alts := [], laidByText := true, laidKinds := [.data, .pinned], laidTests := true, laidLooks := .later }
def TextChecksUptoCardSaid : Prop := Claim7.holds Tryd.pinned (.plain (OpenSpec.upto textChecksSpec)) textChecksUptoCard
end Rows
end Go.Proofs.YtljmgihgbjohnaaDoor
