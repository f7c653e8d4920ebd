/-
  DERIVED. GIVEN WITH THE SEED: THE CARDS: each row of YtcpabgijmknldaaDoorRows.lean that lists a variable, with what it lists TIED to the program's text (the seventh form; the later family's looks); each row that meets fmt, with fmt's text TOLD by the authors' own Lean function (tested against real Go, not proved from fmt's source: count such statements apart). THE CARD IS WHAT COUNTS. Prove the row's statement (the work); the ties are given (YtcpabgijmknldaaDoorTie.lean); close each card by the builder's one call (the guide's Derived/Test/ToyasCard.lean, 'card_holds'). Laid BY PROGRAM, IN A SANDBOX (cutbox-door.mjs). By AI agents, Wed Nov 11 2026. No macro, syntax, notation, axiom, sorry.
-/
import Derived.Test.YtcpabgijmknldaaDoorRows
import GoSem.ClaimSeven
namespace Go.Proofs.YtcpabgijmknldaaDoor
namespace Rows

/-- THE TIED CARD OF 'wicketgatelaw27.LogPuts'. -/
def logPutsCard : Claim7 := { stood := { row := logPutsRow, standIns := [], harness := (true, "d92289c7584925575299cbcc1649d6c99390def6620b67faacb8f4889c89f49c"), looks := false }, kinds := [], alts := [], laidByText := true, laidKinds := [.funcs], laidTests := true, laidLooks := .later }
def LogPutsCardSaid : Prop := Claim7.holds Tryd.pinned (.plain (OpenSpec.ofChange logPutsSpec)) logPutsCard

/-- THE TIED CARD OF 'wicketgatelaw27.LogAll'. -/
def logAllCard : Claim7 := { stood := { row := logAllRow, standIns := [], harness := (true, "d92289c7584925575299cbcc1649d6c99390def6620b67faacb8f4889c89f49c"), looks := false }, kinds := [], alts := [], laidByText := true, laidKinds := [.funcs], laidTests := true, laidLooks := .later }
def LogAllCardSaid : Prop := Claim7.holds Tryd.pinned (.plain (OpenSpec.ofChange logAllSpec)) logAllCard

/-- THE TIED CARD OF 'wicketgatelaw27.LogNarrow'. -/
def logNarrowCard : Claim7 := { stood := { row := logNarrowRow, standIns := [], harness := (true, "d92289c7584925575299cbcc1649d6c99390def6620b67faacb8f4889c89f49c"), looks := false }, kinds := [], alts := [], laidByText := true, laidKinds := [.funcs], laidTests := true, laidLooks := .later }
def LogNarrowCardSaid : Prop := Claim7.holds Tryd.pinned (.plain (OpenSpec.ofChange logNarrowSpec)) logNarrowCard

/-- THE TIED CARD OF 'wicketgatelaw27.LogTells'. -/
def logTellsCard : Claim7 := { stood := { row := logTellsRow, standIns := [], harness := (true, "d92289c7584925575299cbcc1649d6c99390def6620b67faacb8f4889c89f49c"), looks := false }, kinds := [], alts := [], laidByText := true, laidKinds := [.funcs], laidTests := true, laidLooks := .later }
def LogTellsCardSaid : Prop := Claim7.holds Tryd.pinned (.plain (OpenSpec.ofChange logTellsSpec)) logTellsCard

/-- THE TIED CARD OF 'wicketgatelaw27.LogReads'. -/
def logReadsCard : Claim7 := { stood := { row := logReadsRow, standIns := [], harness := (true, "d92289c7584925575299cbcc1649d6c99390def6620b67faacb8f4889c89f49c"), looks := false }, kinds := [], alts := [], laidByText := true, laidKinds := [.funcs], laidTests := true, laidLooks := .later }
def LogReadsCardSaid : Prop := Claim7.holds Tryd.pinned (.plain (OpenSpec.ofChange logReadsSpec)) logReadsCard

/-- THE TIED CARD OF 'wicketgatelaw27.LogParts'. -/
def logPartsCard : Claim7 := { stood := { row := logPartsRow, standIns := [], harness := (true, "d92289c7584925575299cbcc1649d6c99390def6620b67faacb8f4889c89f49c"), looks := false }, kinds := [], alts := [], laidByText := true, laidKinds := [.funcs], laidTests := true, laidLooks := .later }
def LogPartsCardSaid : Prop := Claim7.holds Tryd.pinned (.plain (OpenSpec.ofChange logPartsSpec)) logPartsCard

/-- THE SECOND FORM's CARD OF 'wicketgatelaw27.LogPuts'. -/
def logPutsUptoCard : Claim7 := { stood := { row := logPutsUptoRow, standIns := [], harness := (true, "d92289c7584925575299cbcc1649d6c99390def6620b67faacb8f4889c89f49c"), looks := false }, kinds := [], alts := [], laidByText := true, laidKinds := [.funcs], laidTests := true, laidLooks := .later }
def LogPutsUptoCardSaid : Prop := Claim7.holds Tryd.pinned (.plain (OpenSpec.upto logPutsSpec)) logPutsUptoCard

/-- THE SECOND FORM's CARD OF 'wicketgatelaw27.LogAll'. -/
def logAllUptoCard : Claim7 := { stood := { row := logAllUptoRow, standIns := [], harness := (true, "d92289c7584925575299cbcc1649d6c99390def6620b67faacb8f4889c89f49c"), looks := false }, kinds := [], alts := [], laidByText := true, laidKinds := [.funcs], laidTests := true, laidLooks := .later }
def LogAllUptoCardSaid : Prop := Claim7.holds Tryd.pinned (.plain (OpenSpec.upto logAllSpec)) logAllUptoCard

/-- THE SECOND FORM's CARD OF 'wicketgatelaw27.LogNarrow'. -/
def logNarrowUptoCard : Claim7 := { stood := { row := logNarrowUptoRow, standIns := [], harness := (true, "d92289c7584925575299cbcc1649d6c99390def6620b67faacb8f4889c89f49c"), looks := false }, kinds := [], alts := [], laidByText := true, laidKinds := [.funcs], laidTests := true, laidLooks := .later }
def LogNarrowUptoCardSaid : Prop := Claim7.holds Tryd.pinned (.plain (OpenSpec.upto logNarrowSpec)) logNarrowUptoCard

/-- THE SECOND FORM's CARD OF 'wicketgatelaw27.LogTells'. -/
def logTellsUptoCard : Claim7 := { stood := { row := logTellsUptoRow, standIns := [], harness := (true, "d92289c7584925575299cbcc1649d6c99390def6620b67faacb8f4889c89f49c"), looks := false }, kinds := [], alts := [], laidByText := true, laidKinds := [.funcs], laidTests := true, laidLooks := .later }
def LogTellsUptoCardSaid : Prop := Claim7.holds Tryd.pinned (.plain (OpenSpec.upto logTellsSpec)) logTellsUptoCard

/-- THE SECOND FORM's CARD OF 'wicketgatelaw27.LogReads'. -/
def logReadsUptoCard : Claim7 := { stood := { row := logReadsUptoRow, standIns := [], harness := (true, "d92289c7584925575299cbcc1649d6c99390def6620b67faacb8f4889c89f49c"), looks := false }, kinds := [], alts := [], laidByText := true, laidKinds := [.funcs], laidTests := true, laidLooks := .later }
def LogReadsUptoCardSaid : Prop := Claim7.holds Tryd.pinned (.plain (OpenSpec.upto logReadsSpec)) logReadsUptoCard

/-- THE SECOND FORM's CARD OF 'wicketgatelaw27.LogParts'. -/
def logPartsUptoCard : Claim7 := { stood := { row := logPartsUptoRow, standIns := [], harness := (true, "d92289c7584925575299cbcc1649d6c99390def6620b67faacb8f4889c89f49c"), looks := false }, kinds := [], alts := [], laidByText := true, laidKinds := [.funcs], laidTests := true, laidLooks := .later }
def LogPartsUptoCardSaid : Prop := Claim7.holds Tryd.pinned (.plain (OpenSpec.upto logPartsSpec)) logPartsUptoCard
end Rows
end Go.Proofs.YtcpabgijmknldaaDoor
