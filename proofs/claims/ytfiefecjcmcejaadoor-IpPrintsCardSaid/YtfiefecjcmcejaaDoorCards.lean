/-
  DERIVED. GIVEN WITH THE SEED: THE CARDS: each row of YtfiefecjcmcejaaDoorRows.lean that lists a variable, with what it lists TIED to the program's text (the seventh form; the later family's looks); each row that meets fmt, with fmt's text TOLD by the authors' own Lean function (tested against real Go, not proved from fmt's source: count such statements apart). THE CARD IS WHAT COUNTS. Prove the row's statement (the work); the ties are given (YtfiefecjcmcejaaDoorTie.lean); close each card by the builder's one call (the guide's Derived/Test/ToyasCard.lean, 'card_holds'). Laid BY PROGRAM, IN A SANDBOX (cutbox-door.mjs). By AI agents, Wed Nov 11 2026. No macro, syntax, notation, axiom, sorry.
-/
import Derived.Test.YtfiefecjcmcejaaDoorRows
import GoSem.ClaimSeven
namespace Go.Proofs.YtfiefecjcmcejaaDoor
namespace Rows

/-- THE TIED CARD OF 'lanternlaw05.IpLooses'. -/
def ipLoosesCard : Claim7 := { stood := { row := ipLoosesRow, standIns := [], harness := (true, "ff00d0983233b358f66320dd6a6fe7bea2020776972e671f694d713c618db98c"), looks := false }, kinds := [], alts := [], laidByText := true, laidKinds := [.data, .data, .data, .data, .pinned], laidTests := true, laidLooks := .later }
def IpLoosesCardSaid : Prop := Claim7.holds Tryd.pinned (.plain (OpenSpec.ofChange ipLoosesSpec)) ipLoosesCard

/-- THE TIED CARD OF 'lanternlaw05.IpPrints'. -/
def ipPrintsCard : Claim7 := { stood := { row := ipPrintsRow, standIns := [], harness := (true, "ff00d0983233b358f66320dd6a6fe7bea2020776972e671f694d713c618db98c"), looks := false }, kinds := [], alts := [], laidByText := true, laidKinds := [.data, .data, .data, .data, .pinned], laidTests := true, laidLooks := .later }
def IpPrintsCardSaid : Prop := Claim7.holds Tryd.pinned (.plain (OpenSpec.ofChange ipPrintsSpec)) ipPrintsCard

/-- THE TIED CARD OF 'lanternlaw05.IpForms'. -/
def ipFormsCard : Claim7 := { stood := { row := ipFormsRow, standIns := [], harness := (true, "ff00d0983233b358f66320dd6a6fe7bea2020776972e671f694d713c618db98c"), looks := false }, kinds := [], alts := [], laidByText := true, laidKinds := [.data, .data, .data, .data, .pinned], laidTests := true, laidLooks := .later }
def IpFormsCardSaid : Prop := Claim7.holds Tryd.pinned (.plain (OpenSpec.ofChange ipFormsSpec)) ipFormsCard

/-- THE TIED CARD OF 'lanternlaw05.IpEmbeds'. -/
def ipEmbedsCard : Claim7 := { stood := { row := ipEmbedsRow, standIns := [], harness := (true, "ff00d0983233b358f66320dd6a6fe7bea2020776972e671f694d713c618db98c"), looks := false }, kinds := [], alts := [], laidByText := true, laidKinds := [.data, .data, .data, .data, .pinned], laidTests := true, laidLooks := .later }
def IpEmbedsCardSaid : Prop := Claim7.holds Tryd.pinned (.plain (OpenSpec.ofChange ipEmbedsSpec)) ipEmbedsCard

/-- THE SECOND FORM's CARD OF 'lanternlaw05.IpLooses'. -/
def ipLoosesUptoCard : Claim7 := { stood := { row := ipLoosesUptoRow, standIns := [], harness := (true, "ff00d0983233b358f66320dd6a6fe7bea2020776972e671f694d713c618db98c"), looks := false }, kinds := [], alts := [], laidByText := true, laidKinds := [.data, .data, .data, .data, .pinned], laidTests := true, laidLooks := .later }
def IpLoosesUptoCardSaid : Prop := Claim7.holds Tryd.pinned (.plain (OpenSpec.upto ipLoosesSpec)) ipLoosesUptoCard

/-- THE SECOND FORM's CARD OF 'lanternlaw05.IpPrints'. -/
def ipPrintsUptoCard : Claim7 := { stood := { row := ipPrintsUptoRow, standIns := [], harness := (true, "ff00d0983233b358f66320dd6a6fe7bea2020776972e671f694d713c618db98c"), looks := false }, kinds := [], alts := [], laidByText := true, laidKinds := [.data, .data, .data, .data, .pinned], laidTests := true, laidLooks := .later }
def IpPrintsUptoCardSaid : Prop := Claim7.holds Tryd.pinned (.plain (OpenSpec.upto ipPrintsSpec)) ipPrintsUptoCard

/-- THE SECOND FORM's CARD OF 'lanternlaw05.IpForms'. -/
def ipFormsUptoCard : Claim7 := { stood := { row := ipFormsUptoRow, standIns := [], harness := (true, "ff00d0983233b358f66320dd6a6fe7bea2020776972e671f694d713c618db98c"), looks := false }, kinds := [], alts := [], laidByText := true, laidKinds := [.data, .data, .data, .data, .pinned], laidTests := true, laidLooks := .later }
def IpFormsUptoCardSaid : Prop := Claim7.holds Tryd.pinned (.plain (OpenSpec.upto ipFormsSpec)) ipFormsUptoCard

/-- THE SECOND FORM's CARD OF 'lanternlaw05.IpEmbeds'. -/
def ipEmbedsUptoCard : Claim7 := { stood := { row := ipEmbedsUptoRow, standIns := [], harness := (true, "ff00d0983233b358f66320dd6a6fe7bea2020776972e671f694d713c618db98c"), looks := false }, kinds := [], alts := [], laidByText := true, laidKinds := [.data, .data, .data, .data, .pinned], laidTests := true, laidLooks := .later }
def IpEmbedsUptoCardSaid : Prop := Claim7.holds Tryd.pinned (.plain (OpenSpec.upto ipEmbedsSpec)) ipEmbedsUptoCard
end Rows
end Go.Proofs.YtfiefecjcmcejaaDoor
