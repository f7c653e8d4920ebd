/-
  DERIVED. GIVEN WITH THE SEED: THE CARDS: each row of YtbhkaohpfekbcaaDoorRows.lean that lists a variable, with what it lists TIED to the program's text (the seventh form; the later family's looks); each row that meets fmt, with fmt's text TOLD by the authors' own Lean function (tested against real Go, not proved from fmt's source: count such statements apart). THE CARD IS WHAT COUNTS. Prove the row's statement (the work); the ties are given (YtbhkaohpfekbcaaDoorTie.lean); close each card by the builder's one call (the guide's Derived/Test/ToyasCard.lean, 'card_holds'). Laid BY PROGRAM, IN A SANDBOX (cutbox-door.mjs). By AI agents, Wed Nov 11 2026. No macro, syntax, notation, axiom, sorry.
-/
import Derived.Test.YtbhkaohpfekbcaaDoorRows
import GoSem.ClaimSeven
namespace Go.Proofs.YtbhkaohpfekbcaaDoor
namespace Rows

/-- THE TIED CARD OF 'wicketgatelaw21.EffectOf'. -/
def effectOfCard : Claim7 := { stood := { row := effectOfRow, standIns := [], harness := (true, "efbbb10d5424bfc9ce6d70f5b4e1f4f8068b22bd2e1a105e53307523c33ee027"), looks := false }, kinds := [], alts := [], laidByText := true, laidKinds := [.funcs], laidTests := true, laidLooks := .later }
def EffectOfCardSaid : Prop := Claim7.holds Tryd.pinned (.plain (OpenSpec.ofChange effectOfSpec)) effectOfCard

/-- THE TIED CARD OF 'wicketgatelaw21.EffectBehind'. -/
def effectBehindCard : Claim7 := { stood := { row := effectBehindRow, standIns := [], harness := (true, "efbbb10d5424bfc9ce6d70f5b4e1f4f8068b22bd2e1a105e53307523c33ee027"), looks := false }, kinds := [], alts := [], laidByText := true, laidKinds := [.funcs], laidTests := true, laidLooks := .later }
def EffectBehindCardSaid : Prop := Claim7.holds Tryd.pinned (.plain (OpenSpec.ofChange effectBehindSpec)) effectBehindCard

/-- THE TIED CARD OF 'wicketgatelaw21.EffectTells'. -/
def effectTellsCard : Claim7 := { stood := { row := effectTellsRow, standIns := [], harness := (true, "efbbb10d5424bfc9ce6d70f5b4e1f4f8068b22bd2e1a105e53307523c33ee027"), looks := false }, kinds := [], alts := [], laidByText := true, laidKinds := [.funcs], laidTests := true, laidLooks := .later }
def EffectTellsCardSaid : Prop := Claim7.holds Tryd.pinned (.plain (OpenSpec.ofChange effectTellsSpec)) effectTellsCard

/-- THE TIED CARD OF 'wicketgatelaw21.EffectOne'. -/
def effectOneCard : Claim7 := { stood := { row := effectOneRow, standIns := [], harness := (true, "efbbb10d5424bfc9ce6d70f5b4e1f4f8068b22bd2e1a105e53307523c33ee027"), looks := false }, kinds := [], alts := [], laidByText := true, laidKinds := [.funcs], laidTests := true, laidLooks := .later }
def EffectOneCardSaid : Prop := Claim7.holds Tryd.pinned (.plain (OpenSpec.ofChange effectOneSpec)) effectOneCard

/-- THE TIED CARD OF 'wicketgatelaw21.EffectWeighs'. -/
def effectWeighsCard : Claim7 := { stood := { row := effectWeighsRow, standIns := [], harness := (true, "efbbb10d5424bfc9ce6d70f5b4e1f4f8068b22bd2e1a105e53307523c33ee027"), looks := false }, kinds := [], alts := [], laidByText := true, laidKinds := [.funcs], laidTests := true, laidLooks := .later }
def EffectWeighsCardSaid : Prop := Claim7.holds Tryd.pinned (.plain (OpenSpec.ofChange effectWeighsSpec)) effectWeighsCard

/-- THE TIED CARD OF 'wicketgatelaw21.EffectRanks'. -/
def effectRanksCard : Claim7 := { stood := { row := effectRanksRow, standIns := [], harness := (true, "efbbb10d5424bfc9ce6d70f5b4e1f4f8068b22bd2e1a105e53307523c33ee027"), looks := false }, kinds := [], alts := [], laidByText := true, laidKinds := [.funcs], laidTests := true, laidLooks := .later }
def EffectRanksCardSaid : Prop := Claim7.holds Tryd.pinned (.plain (OpenSpec.ofChange effectRanksSpec)) effectRanksCard

/-- THE SECOND FORM's CARD OF 'wicketgatelaw21.EffectOf'. -/
def effectOfUptoCard : Claim7 := { stood := { row := effectOfUptoRow, standIns := [], harness := (true, "efbbb10d5424bfc9ce6d70f5b4e1f4f8068b22bd2e1a105e53307523c33ee027"), looks := false }, kinds := [], alts := [], laidByText := true, laidKinds := [.funcs], laidTests := true, laidLooks := .later }
def EffectOfUptoCardSaid : Prop := Claim7.holds Tryd.pinned (.plain (OpenSpec.upto effectOfSpec)) effectOfUptoCard

/-- THE SECOND FORM's CARD OF 'wicketgatelaw21.EffectBehind'. -/
def effectBehindUptoCard : Claim7 := { stood := { row := effectBehindUptoRow, standIns := [], harness := (true, "efbbb10d5424bfc9ce6d70f5b4e1f4f8068b22bd2e1a105e53307523c33ee027"), looks := false }, kinds := [], alts := [], laidByText := true, laidKinds := [.funcs], laidTests := true, laidLooks := .later }
def EffectBehindUptoCardSaid : Prop := Claim7.holds Tryd.pinned (.plain (OpenSpec.upto effectBehindSpec)) effectBehindUptoCard

/-- THE SECOND FORM's CARD OF 'wicketgatelaw21.EffectTells'. -/
def effectTellsUptoCard : Claim7 := { stood := { row := effectTellsUptoRow, standIns := [], harness := (true, "efbbb10d5424bfc9ce6d70f5b4e1f4f8068b22bd2e1a105e53307523c33ee027"), looks := false }, kinds := [], alts := [], laidByText := true, laidKinds := [.funcs], laidTests := true, laidLooks := .later }
def EffectTellsUptoCardSaid : Prop := Claim7.holds Tryd.pinned (.plain (OpenSpec.upto effectTellsSpec)) effectTellsUptoCard

/-- THE SECOND FORM's CARD OF 'wicketgatelaw21.EffectOne'. -/
def effectOneUptoCard : Claim7 := { stood := { row := effectOneUptoRow, standIns := [], harness := (true, "efbbb10d5424bfc9ce6d70f5b4e1f4f8068b22bd2e1a105e53307523c33ee027"), looks := false }, kinds := [], alts := [], laidByText := true, laidKinds := [.funcs], laidTests := true, laidLooks := .later }
def EffectOneUptoCardSaid : Prop := Claim7.holds Tryd.pinned (.plain (OpenSpec.upto effectOneSpec)) effectOneUptoCard

/-- THE SECOND FORM's CARD OF 'wicketgatelaw21.EffectWeighs'. -/
def effectWeighsUptoCard : Claim7 := { stood := { row := effectWeighsUptoRow, standIns := [], harness := (true, "efbbb10d5424bfc9ce6d70f5b4e1f4f8068b22bd2e1a105e53307523c33ee027"), looks := false }, kinds := [], alts := [], laidByText := true, laidKinds := [.funcs], laidTests := true, laidLooks := .later }
def EffectWeighsUptoCardSaid : Prop := Claim7.holds Tryd.pinned (.plain (OpenSpec.upto effectWeighsSpec)) effectWeighsUptoCard

/-- THE SECOND FORM's CARD OF 'wicketgatelaw21.EffectRanks'. -/
def effectRanksUptoCard : Claim7 := { stood := { row := effectRanksUptoRow, standIns := [], harness := (true, "efbbb10d5424bfc9ce6d70f5b4e1f4f8068b22bd2e1a105e53307523c33ee027"), looks := false }, kinds := [], alts := [], laidByText := true, laidKinds := [.funcs], laidTests := true, laidLooks := .later }
def EffectRanksUptoCardSaid : Prop := Claim7.holds Tryd.pinned (.plain (OpenSpec.upto effectRanksSpec)) effectRanksUptoCard
end Rows
end Go.Proofs.YtbhkaohpfekbcaaDoor
