/-
  DERIVED. GIVEN WITH THE SEED: THE CARDS: each row of YtcbiehinhmkjmaaDoorRows.lean that lists a variable, with what it lists TIED to the program's text (the seventh form; the later family's looks); each row that meets fmt, with fmt's text TOLD by the authors' own Lean function (tested against real Go, not proved from fmt's source: count such statements apart). THE CARD IS WHAT COUNTS. Prove the row's statement (the work); the ties are given (YtcbiehinhmkjmaaDoorTie.lean); close each card by the builder's one call (the guide's Derived/Test/ToyasCard.lean, 'card_holds'). Laid BY PROGRAM, IN A SANDBOX (cutbox-door.mjs). By AI agents, Wed Nov 11 2026. No macro, syntax, notation, axiom, sorry.
-/
import Derived.Test.YtcbiehinhmkjmaaDoorRows
import GoSem.ClaimSeven
namespace Go.Proofs.YtcbiehinhmkjmaaDoor
namespace Rows

/-- THE TIED CARD OF 'wicketgatelaw25.NotifyAsks'. -/
def notifyAsksCard : Claim7 := { stood := { row := notifyAsksRow, standIns := [], harness := (true, "66f34cd8a357d1dd11ddfe5c3bb32f2330e019ffaa22c9605ad3df412ec5c806"), looks := false }, kinds := [], alts := [], laidByText := true, laidKinds := [.funcs], laidTests := true, laidLooks := .later }
def NotifyAsksCardSaid : Prop := Claim7.holds Tryd.pinned (.plain (OpenSpec.ofChange notifyAsksSpec)) notifyAsksCard

/-- THE TIED CARD OF 'wicketgatelaw25.NotifyAnswers'. -/
def notifyAnswersCard : Claim7 := { stood := { row := notifyAnswersRow, standIns := [], harness := (true, "66f34cd8a357d1dd11ddfe5c3bb32f2330e019ffaa22c9605ad3df412ec5c806"), looks := false }, kinds := [], alts := [], laidByText := true, laidKinds := [.funcs], laidTests := true, laidLooks := .later }
def NotifyAnswersCardSaid : Prop := Claim7.holds Tryd.pinned (.plain (OpenSpec.ofChange notifyAnswersSpec)) notifyAnswersCard

/-- THE TIED CARD OF 'wicketgatelaw25.NotifyBack'. -/
def notifyBackCard : Claim7 := { stood := { row := notifyBackRow, standIns := [], harness := (true, "66f34cd8a357d1dd11ddfe5c3bb32f2330e019ffaa22c9605ad3df412ec5c806"), looks := false }, kinds := [], alts := [], laidByText := true, laidKinds := [.funcs], laidTests := true, laidLooks := .later }
def NotifyBackCardSaid : Prop := Claim7.holds Tryd.pinned (.plain (OpenSpec.ofChange notifyBackSpec)) notifyBackCard

/-- THE TIED CARD OF 'wicketgatelaw25.NotifyOnce'. -/
def notifyOnceCard : Claim7 := { stood := { row := notifyOnceRow, standIns := [], harness := (true, "66f34cd8a357d1dd11ddfe5c3bb32f2330e019ffaa22c9605ad3df412ec5c806"), looks := false }, kinds := [], alts := [], laidByText := true, laidKinds := [.funcs], laidTests := true, laidLooks := .later }
def NotifyOnceCardSaid : Prop := Claim7.holds Tryd.pinned (.plain (OpenSpec.ofChange notifyOnceSpec)) notifyOnceCard

/-- THE TIED CARD OF 'wicketgatelaw25.NotifyTells'. -/
def notifyTellsCard : Claim7 := { stood := { row := notifyTellsRow, standIns := [], harness := (true, "66f34cd8a357d1dd11ddfe5c3bb32f2330e019ffaa22c9605ad3df412ec5c806"), looks := false }, kinds := [], alts := [], laidByText := true, laidKinds := [.funcs], laidTests := true, laidLooks := .later }
def NotifyTellsCardSaid : Prop := Claim7.holds Tryd.pinned (.plain (OpenSpec.ofChange notifyTellsSpec)) notifyTellsCard

/-- THE SECOND FORM's CARD OF 'wicketgatelaw25.NotifyAsks'. -/
def notifyAsksUptoCard : Claim7 := { stood := { row := notifyAsksUptoRow, standIns := [], harness := (true, "66f34cd8a357d1dd11ddfe5c3bb32f2330e019ffaa22c9605ad3df412ec5c806"), looks := false }, kinds := [], alts := [], laidByText := true, laidKinds := [.funcs], laidTests := true, laidLooks := .later }
def NotifyAsksUptoCardSaid : Prop := Claim7.holds Tryd.pinned (.plain (OpenSpec.upto notifyAsksSpec)) notifyAsksUptoCard

/-- THE SECOND FORM's CARD OF 'wicketgatelaw25.NotifyAnswers'. -/
def notifyAnswersUptoCard : Claim7 := { stood := { row := notifyAnswersUptoRow, standIns := [], harness := (true, "66f34cd8a357d1dd11ddfe5c3bb32f2330e019ffaa22c9605ad3df412ec5c806"), looks := false }, kinds := [], alts := [], laidByText := true, laidKinds := [.funcs], laidTests := true, laidLooks := .later }
def NotifyAnswersUptoCardSaid : Prop := Claim7.holds Tryd.pinned (.plain (OpenSpec.upto notifyAnswersSpec)) notifyAnswersUptoCard

/-- THE SECOND FORM's CARD OF 'wicketgatelaw25.NotifyBack'. -/
def notifyBackUptoCard : Claim7 := { stood := { row := notifyBackUptoRow, standIns := [], harness := (true, "66f34cd8a357d1dd11ddfe5c3bb32f2330e019ffaa22c9605ad3df412ec5c806"), looks := false }, kinds := [], alts := [], laidByText := true, laidKinds := [.funcs], laidTests := true, laidLooks := .later }
def NotifyBackUptoCardSaid : Prop := Claim7.holds Tryd.pinned (.plain (OpenSpec.upto notifyBackSpec)) notifyBackUptoCard

/-- THE SECOND FORM's CARD OF 'wicketgatelaw25.NotifyOnce'. -/
def notifyOnceUptoCard : Claim7 := { stood := { row := notifyOnceUptoRow, standIns := [], harness := (true, "66f34cd8a357d1dd11ddfe5c3bb32f2330e019ffaa22c9605ad3df412ec5c806"), looks := false }, kinds := [], alts := [], laidByText := true, laidKinds := [.funcs], laidTests := true, laidLooks := .later }
def NotifyOnceUptoCardSaid : Prop := Claim7.holds Tryd.pinned (.plain (OpenSpec.upto notifyOnceSpec)) notifyOnceUptoCard

/-- THE SECOND FORM's CARD OF 'wicketgatelaw25.NotifyTells'. -/
def notifyTellsUptoCard : Claim7 := { stood := { row := notifyTellsUptoRow, standIns := [], harness := (true, "66f34cd8a357d1dd11ddfe5c3bb32f2330e019ffaa22c9605ad3df412ec5c806"), looks := false }, kinds := [], alts := [], laidByText := true, laidKinds := [.funcs], laidTests := true, laidLooks := .later }
def NotifyTellsUptoCardSaid : Prop := Claim7.holds Tryd.pinned (.plain (OpenSpec.upto notifyTellsSpec)) notifyTellsUptoCard
end Rows
end Go.Proofs.YtcbiehinhmkjmaaDoor
