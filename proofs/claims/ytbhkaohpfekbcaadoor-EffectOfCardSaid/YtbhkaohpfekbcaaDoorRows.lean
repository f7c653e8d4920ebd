/-
  NARROWER THAN 'FOR EVERY INPUT', by the rows' own cells (each row's printed sentence says how): EffectOf: laid · EffectBehind: laid · EffectTells: laid · EffectOne: laid · EffectWeighs: laid · EffectRanks: laid.
  DERIVED. THE GIVEN ROWS OF THIS SEAT. 6 by the template 'for every input the law returns true; each argument reads behind the call as it read before'; 0 by the template 'total and deterministic' (their statements: YtbhkaohpfekbcaaDoorTotals.lean).
  GIVEN WITH THE SEED: the statements are not yours to turn. If you find one false, say at which input.
  Laid BY PROGRAM, IN A SANDBOX (cutbox-rows.mjs): the forced cells as the released guide's own fill.sh prints them over the translation 80d178dcffd90dc1… (all of the seat's roots in one cut). By AI agents, Wed Nov 11 2026. No macro, syntax, notation, axiom, sorry.
-/
import Derived.Test.YtbhkaohpfekbcaaDoorChecked
import GoSem.Claim
import GoSem.ClaimJoined
import GoSem.ClaimMapViews
import Derived.JoinedTies
import Derived.KernelRfl
namespace Go.Proofs.YtbhkaohpfekbcaaDoor
/- THE CELL 'sum', in the pinned program and in every row, IS THE sha256 OF THE DUMP (.gsa) THAT YtbhkaohpfekbcaaDoorProg.lean LOADS. Nothing in Lean hashes anything: it is a label: what it is worth is what the hold of that sum in a sandbox is worth. -/
noncomputable def Tryd.pinned : Pinned := { name := "ytbhkaohpfekbcaadoor", sum := "80d178dcffd90dc1686085b4b1990ee1fad1f7226bb7a2c8a9e6149c22d056a5", checked := Tryd.checked }
namespace Rows
def none {H : Type} : Left H := { results := [], args := [] }

/- WHAT THE LISTED PACKAGE-LEVEL VARIABLES READ AS WHEN THE CALL BEGINS. Each datum BY PROGRAM (the guide's laid-datum.mjs) off the statement by which the dump's own 'gosem.cut.vars' lays the variable. In a bare row this is a premise. The card (YtbhkaohpfekbcaaDoorCards.lean) ties it to the program's text. -/
def laid_wicketgate_effect_effects {H : Type} : DataW H := .iface "func table" (.agg [.iface "func" (.lit (.string [119, 105, 99, 107, 101, 116, 103, 97, 116, 101, 47, 101, 102, 102, 101, 99, 116, 46, 101, 102, 102, 101, 99, 116, 115, 36, 49])), .iface "func" (.lit (.string [119, 105, 99, 107, 101, 116, 103, 97, 116, 101, 47, 101, 102, 102, 101, 99, 116, 46, 101, 102, 102, 101, 99, 116, 115, 36, 50])), .iface "func" (.lit (.string [119, 105, 99, 107, 101, 116, 103, 97, 116, 101, 47, 101, 102, 102, 101, 99, 116, 46, 101, 102, 102, 101, 99, 116, 115, 36, 51])), .iface "func" (.lit (.string [119, 105, 99, 107, 101, 116, 103, 97, 116, 101, 47, 101, 102, 102, 101, 99, 116, 46, 101, 102, 102, 101, 99, 116, 115, 36, 52])), .iface "func" (.lit (.string [119, 105, 99, 107, 101, 116, 103, 97, 116, 101, 47, 101, 102, 102, 101, 99, 116, 46, 101, 102, 102, 101, 99, 116, 115, 36, 53])), .iface "func" (.lit (.string [119, 105, 99, 107, 101, 116, 103, 97, 116, 101, 47, 101, 102, 102, 101, 99, 116, 46, 101, 102, 102, 101, 99, 116, 115, 36, 54])), .iface "func" (.lit (.string [119, 105, 99, 107, 101, 116, 103, 97, 116, 101, 47, 101, 102, 102, 101, 99, 116, 46, 101, 102, 102, 101, 99, 116, 115, 36, 55])), .iface "func" (.lit (.string [119, 105, 99, 107, 101, 116, 103, 97, 116, 101, 47, 101, 102, 102, 101, 99, 116, 46, 101, 102, 102, 101, 99, 116, 115, 36, 56]))])

/-- 'wicketgatelaw21.EffectOf': WHATEVER THE INPUT: true; the input reads as it did. -/
def effectOfSpec : ChangeSpec := { name := "effectOf", fn := fun _ => fun
  | [d1, d2] => { results := [.lit (.bool true)], args := [d1, d2] }
  | _ => none }
def effectOfRow : OpenClaim := { program := "ytbhkaohpfekbcaadoor", sum := "80d178dcffd90dc1686085b4b1990ee1fad1f7226bb7a2c8a9e6149c22d056a5", func := "wicketgate/wicketgatelaw21.EffectOf", spec := "effectOf", unfollowed := true, recurses := true, named := ["wicketgate/effect.effects"], apart := false, laid := [("wicketgate/effect.effects", laid_wicketgate_effect_effects)] }
def EffectOfSaid : Prop := effectOfRow.holds Tryd.pinned (OpenSpec.ofChange effectOfSpec)

/-- ITS FALSE NEIGHBOUR: 'it returns false'. Refute it at one input. -/
def effectOfWrong : ChangeSpec := { name := "effectOf", fn := fun _ => fun
  | [d1, d2] => { results := [.lit (.bool false)], args := [d1, d2] }
  | _ => none }
def EffectOfWrongFalsely : Prop := effectOfRow.holds Tryd.pinned (OpenSpec.ofChange effectOfWrong)

/-- 'wicketgatelaw21.EffectBehind': WHATEVER THE INPUT: true; the input reads as it did. -/
def effectBehindSpec : ChangeSpec := { name := "effectBehind", fn := fun _ => fun
  | [d1, d2] => { results := [.lit (.bool true)], args := [d1, d2] }
  | _ => none }
def effectBehindRow : OpenClaim := { program := "ytbhkaohpfekbcaadoor", sum := "80d178dcffd90dc1686085b4b1990ee1fad1f7226bb7a2c8a9e6149c22d056a5", func := "wicketgate/wicketgatelaw21.EffectBehind", spec := "effectBehind", unfollowed := true, recurses := true, named := ["wicketgate/effect.effects"], apart := false, laid := [("wicketgate/effect.effects", laid_wicketgate_effect_effects)] }
def EffectBehindSaid : Prop := effectBehindRow.holds Tryd.pinned (OpenSpec.ofChange effectBehindSpec)

/-- ITS FALSE NEIGHBOUR: 'it returns false'. Refute it at one input. -/
def effectBehindWrong : ChangeSpec := { name := "effectBehind", fn := fun _ => fun
  | [d1, d2] => { results := [.lit (.bool false)], args := [d1, d2] }
  | _ => none }
def EffectBehindWrongFalsely : Prop := effectBehindRow.holds Tryd.pinned (OpenSpec.ofChange effectBehindWrong)

/-- 'wicketgatelaw21.EffectTells': WHATEVER THE INPUT: true; the input reads as it did. -/
def effectTellsSpec : ChangeSpec := { name := "effectTells", fn := fun _ => fun
  | [d1, d2] => { results := [.lit (.bool true)], args := [d1, d2] }
  | _ => none }
def effectTellsRow : OpenClaim := { program := "ytbhkaohpfekbcaadoor", sum := "80d178dcffd90dc1686085b4b1990ee1fad1f7226bb7a2c8a9e6149c22d056a5", func := "wicketgate/wicketgatelaw21.EffectTells", spec := "effectTells", unfollowed := true, recurses := true, named := ["wicketgate/effect.effects"], apart := false, laid := [("wicketgate/effect.effects", laid_wicketgate_effect_effects)] }
def EffectTellsSaid : Prop := effectTellsRow.holds Tryd.pinned (OpenSpec.ofChange effectTellsSpec)

/-- ITS FALSE NEIGHBOUR: 'it returns false'. Refute it at one input. -/
def effectTellsWrong : ChangeSpec := { name := "effectTells", fn := fun _ => fun
  | [d1, d2] => { results := [.lit (.bool false)], args := [d1, d2] }
  | _ => none }
def EffectTellsWrongFalsely : Prop := effectTellsRow.holds Tryd.pinned (OpenSpec.ofChange effectTellsWrong)

/-- 'wicketgatelaw21.EffectOne': WHATEVER THE INPUT: true; the input reads as it did. -/
def effectOneSpec : ChangeSpec := { name := "effectOne", fn := fun _ => fun
  | [d1, d2, d3] => { results := [.lit (.bool true)], args := [d1, d2, d3] }
  | _ => none }
def effectOneRow : OpenClaim := { program := "ytbhkaohpfekbcaadoor", sum := "80d178dcffd90dc1686085b4b1990ee1fad1f7226bb7a2c8a9e6149c22d056a5", func := "wicketgate/wicketgatelaw21.EffectOne", spec := "effectOne", unfollowed := true, recurses := true, named := ["wicketgate/effect.effects"], apart := false, laid := [("wicketgate/effect.effects", laid_wicketgate_effect_effects)] }
def EffectOneSaid : Prop := effectOneRow.holds Tryd.pinned (OpenSpec.ofChange effectOneSpec)

/-- ITS FALSE NEIGHBOUR: 'it returns false'. Refute it at one input. -/
def effectOneWrong : ChangeSpec := { name := "effectOne", fn := fun _ => fun
  | [d1, d2, d3] => { results := [.lit (.bool false)], args := [d1, d2, d3] }
  | _ => none }
def EffectOneWrongFalsely : Prop := effectOneRow.holds Tryd.pinned (OpenSpec.ofChange effectOneWrong)

/-- 'wicketgatelaw21.EffectWeighs': WHATEVER THE INPUT: true; the input reads as it did. -/
def effectWeighsSpec : ChangeSpec := { name := "effectWeighs", fn := fun _ => fun
  | [d] => { results := [.lit (.bool true)], args := [d] }
  | _ => none }
def effectWeighsRow : OpenClaim := { program := "ytbhkaohpfekbcaadoor", sum := "80d178dcffd90dc1686085b4b1990ee1fad1f7226bb7a2c8a9e6149c22d056a5", func := "wicketgate/wicketgatelaw21.EffectWeighs", spec := "effectWeighs", unfollowed := true, recurses := true, named := ["wicketgate/effect.effects"], apart := false, laid := [("wicketgate/effect.effects", laid_wicketgate_effect_effects)] }
def EffectWeighsSaid : Prop := effectWeighsRow.holds Tryd.pinned (OpenSpec.ofChange effectWeighsSpec)

/-- ITS FALSE NEIGHBOUR: 'it returns false'. Refute it at one input. -/
def effectWeighsWrong : ChangeSpec := { name := "effectWeighs", fn := fun _ => fun
  | [d] => { results := [.lit (.bool false)], args := [d] }
  | _ => none }
def EffectWeighsWrongFalsely : Prop := effectWeighsRow.holds Tryd.pinned (OpenSpec.ofChange effectWeighsWrong)

/-- 'wicketgatelaw21.EffectRanks': WHATEVER THE INPUT: true; the input reads as it did. -/
def effectRanksSpec : ChangeSpec := { name := "effectRanks", fn := fun _ => fun
  | [d1, d2] => { results := [.lit (.bool true)], args := [d1, d2] }
  | _ => none }
def effectRanksRow : OpenClaim := { program := "ytbhkaohpfekbcaadoor", sum := "80d178dcffd90dc1686085b4b1990ee1fad1f7226bb7a2c8a9e6149c22d056a5", func := "wicketgate/wicketgatelaw21.EffectRanks", spec := "effectRanks", unfollowed := true, recurses := true, named := ["wicketgate/effect.effects"], apart := false, laid := [("wicketgate/effect.effects", laid_wicketgate_effect_effects)] }
def EffectRanksSaid : Prop := effectRanksRow.holds Tryd.pinned (OpenSpec.ofChange effectRanksSpec)

/-- ITS FALSE NEIGHBOUR: 'it returns false'. Refute it at one input. -/
def effectRanksWrong : ChangeSpec := { name := "effectRanks", fn := fun _ => fun
  | [d1, d2] => { results := [.lit (.bool false)], args := [d1, d2] }
  | _ => none }
def EffectRanksWrongFalsely : Prop := effectRanksRow.holds Tryd.pinned (OpenSpec.ofChange effectRanksWrong)

/- THE SECOND FORM. 'bulk': how many values and letters a reading holds, each counted each time it is reached (what is shared counts as often as it is met; a slice's spare places count too). A statement '..UptoSaid' is the law's where the arguments, and the package variables that the reading takes, are together of bulk at most 1048576: NARROWER than '..Said'. Prove '..Said' where nothing that the law and all that it calls make is longer than what came in: it says more and counts as full. Else prove '..UptoSaid'. A law counts once. -/
mutual
def uptoBulk {H : Type} : DataW H → Nat
  | .lit (.string bytes) => bytes.length + 1
  | .lit _ => 1
  | .nil => 1
  | .ptr d => uptoBulk d + 1
  | .slice elems spare => uptoBulkAll elems + uptoBulkAll spare + 1
  | .agg parts => uptoBulkAll parts + 1
  | .iface _ d => uptoBulk d + 1
  | .map entries => uptoBulkEntries entries + 1
  | .held _ => 1
def uptoBulkAll {H : Type} : List (DataW H) → Nat
  | [] => 0
  | d :: r => uptoBulk d + uptoBulkAll r
def uptoBulkEntries {H : Type} : List (Lit × DataW H) → Nat
  | [] => 0
  | x :: r => uptoBulkEntry x + uptoBulkEntries r
def uptoBulkEntry {H : Type} : Lit × DataW H → Nat
  | (.string bytes, d) => bytes.length + uptoBulk d + 1
  | (_, d) => uptoBulk d + 1
 end
def uptoSmall : (H : Type) → List (DataW H) → Bool := fun _ ds => decide (uptoBulkAll ds ≤ 1048576)
def OpenSpec.upto (s : _root_.Go.ChangeSpec) : _root_.Go.OpenSpec := { _root_.Go.OpenSpec.ofChange s with cond := some uptoSmall }

/-- 'wicketgatelaw21.EffectOf', WHERE WHAT IT READS IS OF BULK AT MOST 1048576: true; the input reads as it did. -/
def effectOfUptoRow : OpenClaim := { program := "ytbhkaohpfekbcaadoor", sum := "80d178dcffd90dc1686085b4b1990ee1fad1f7226bb7a2c8a9e6149c22d056a5", func := "wicketgate/wicketgatelaw21.EffectOf", spec := "effectOf", unfollowed := true, recurses := true, named := ["wicketgate/effect.effects"], apart := false, laid := [("wicketgate/effect.effects", laid_wicketgate_effect_effects)], narrowed := true }
def EffectOfUptoSaid : Prop := effectOfUptoRow.holds Tryd.pinned (OpenSpec.upto effectOfSpec)

/-- 'wicketgatelaw21.EffectBehind', WHERE WHAT IT READS IS OF BULK AT MOST 1048576: true; the input reads as it did. -/
def effectBehindUptoRow : OpenClaim := { program := "ytbhkaohpfekbcaadoor", sum := "80d178dcffd90dc1686085b4b1990ee1fad1f7226bb7a2c8a9e6149c22d056a5", func := "wicketgate/wicketgatelaw21.EffectBehind", spec := "effectBehind", unfollowed := true, recurses := true, named := ["wicketgate/effect.effects"], apart := false, laid := [("wicketgate/effect.effects", laid_wicketgate_effect_effects)], narrowed := true }
def EffectBehindUptoSaid : Prop := effectBehindUptoRow.holds Tryd.pinned (OpenSpec.upto effectBehindSpec)

/-- 'wicketgatelaw21.EffectTells', WHERE WHAT IT READS IS OF BULK AT MOST 1048576: true; the input reads as it did. -/
def effectTellsUptoRow : OpenClaim := { program := "ytbhkaohpfekbcaadoor", sum := "80d178dcffd90dc1686085b4b1990ee1fad1f7226bb7a2c8a9e6149c22d056a5", func := "wicketgate/wicketgatelaw21.EffectTells", spec := "effectTells", unfollowed := true, recurses := true, named := ["wicketgate/effect.effects"], apart := false, laid := [("wicketgate/effect.effects", laid_wicketgate_effect_effects)], narrowed := true }
def EffectTellsUptoSaid : Prop := effectTellsUptoRow.holds Tryd.pinned (OpenSpec.upto effectTellsSpec)

/-- 'wicketgatelaw21.EffectOne', WHERE WHAT IT READS IS OF BULK AT MOST 1048576: true; the input reads as it did. -/
def effectOneUptoRow : OpenClaim := { program := "ytbhkaohpfekbcaadoor", sum := "80d178dcffd90dc1686085b4b1990ee1fad1f7226bb7a2c8a9e6149c22d056a5", func := "wicketgate/wicketgatelaw21.EffectOne", spec := "effectOne", unfollowed := true, recurses := true, named := ["wicketgate/effect.effects"], apart := false, laid := [("wicketgate/effect.effects", laid_wicketgate_effect_effects)], narrowed := true }
def EffectOneUptoSaid : Prop := effectOneUptoRow.holds Tryd.pinned (OpenSpec.upto effectOneSpec)

/-- 'wicketgatelaw21.EffectWeighs', WHERE WHAT IT READS IS OF BULK AT MOST 1048576: true; the input reads as it did. -/
def effectWeighsUptoRow : OpenClaim := { program := "ytbhkaohpfekbcaadoor", sum := "80d178dcffd90dc1686085b4b1990ee1fad1f7226bb7a2c8a9e6149c22d056a5", func := "wicketgate/wicketgatelaw21.EffectWeighs", spec := "effectWeighs", unfollowed := true, recurses := true, named := ["wicketgate/effect.effects"], apart := false, laid := [("wicketgate/effect.effects", laid_wicketgate_effect_effects)], narrowed := true }
def EffectWeighsUptoSaid : Prop := effectWeighsUptoRow.holds Tryd.pinned (OpenSpec.upto effectWeighsSpec)

/-- 'wicketgatelaw21.EffectRanks', WHERE WHAT IT READS IS OF BULK AT MOST 1048576: true; the input reads as it did. -/
def effectRanksUptoRow : OpenClaim := { program := "ytbhkaohpfekbcaadoor", sum := "80d178dcffd90dc1686085b4b1990ee1fad1f7226bb7a2c8a9e6149c22d056a5", func := "wicketgate/wicketgatelaw21.EffectRanks", spec := "effectRanks", unfollowed := true, recurses := true, named := ["wicketgate/effect.effects"], apart := false, laid := [("wicketgate/effect.effects", laid_wicketgate_effect_effects)], narrowed := true }
def EffectRanksUptoSaid : Prop := effectRanksUptoRow.holds Tryd.pinned (OpenSpec.upto effectRanksSpec)

end Rows
end Go.Proofs.YtbhkaohpfekbcaaDoor
