/-
  NARROWER THAN 'FOR EVERY INPUT', by the rows' own cells (each row's printed sentence says how): LogPuts: laid · LogAll: laid · LogNarrow: laid · LogTells: laid · LogReads: laid · LogParts: laid.
  DERIVED. THE GIVEN ROWS OF THIS SEAT. 6 by the template 'for every input the law returns true; each argument reads behind the call as it read before'; 0 by the template 'total and deterministic' (their statements: YtcpabgijmknldaaDoorTotals.lean).
  GIVEN WITH THE SEED: the statements are not yours to turn. If you find one false, say at which input.
  Laid BY PROGRAM, IN A SANDBOX (cutbox-rows.mjs): the forced cells as the released guide's own fill.sh prints them over the translation 1e12bb0c2c4061f5… (all of the seat's roots in one cut). By AI agents, Wed Nov 11 2026. No macro, syntax, notation, axiom, sorry.
-/
import Derived.Test.YtcpabgijmknldaaDoorChecked
import GoSem.Claim
import GoSem.ClaimJoined
import GoSem.ClaimMapViews
import Derived.JoinedTies
import Derived.KernelRfl
namespace Go.Proofs.YtcpabgijmknldaaDoor
/- THE CELL 'sum', in the pinned program and in every row, IS THE sha256 OF THE DUMP (.gsa) THAT YtcpabgijmknldaaDoorProg.lean LOADS. Nothing in Lean hashes anything: it is a label: what it is worth is what the hold of that sum in a sandbox is worth. -/
noncomputable def Tryd.pinned : Pinned := { name := "ytcpabgijmknldaadoor", sum := "1e12bb0c2c4061f5fda87b7ba50dcb748bccc872aff19d099b2913fbd5ab29cf", checked := Tryd.checked }
namespace Rows
def none {H : Type} : Left H := { results := [], args := [] }

/- WHAT THE LISTED PACKAGE-LEVEL VARIABLES READ AS WHEN THE CALL BEGINS. Each datum BY PROGRAM (the guide's laid-datum.mjs) off the statement by which the dump's own 'gosem.cut.vars' lays the variable. In a bare row this is a premise. The card (YtcpabgijmknldaaDoorCards.lean) ties it to the program's text. -/
def laid_wicketgate_effect_effects {H : Type} : DataW H := .iface "func table" (.agg [.iface "func" (.lit (.string [119, 105, 99, 107, 101, 116, 103, 97, 116, 101, 47, 101, 102, 102, 101, 99, 116, 46, 101, 102, 102, 101, 99, 116, 115, 36, 49])), .iface "func" (.lit (.string [119, 105, 99, 107, 101, 116, 103, 97, 116, 101, 47, 101, 102, 102, 101, 99, 116, 46, 101, 102, 102, 101, 99, 116, 115, 36, 50])), .iface "func" (.lit (.string [119, 105, 99, 107, 101, 116, 103, 97, 116, 101, 47, 101, 102, 102, 101, 99, 116, 46, 101, 102, 102, 101, 99, 116, 115, 36, 51])), .iface "func" (.lit (.string [119, 105, 99, 107, 101, 116, 103, 97, 116, 101, 47, 101, 102, 102, 101, 99, 116, 46, 101, 102, 102, 101, 99, 116, 115, 36, 52])), .iface "func" (.lit (.string [119, 105, 99, 107, 101, 116, 103, 97, 116, 101, 47, 101, 102, 102, 101, 99, 116, 46, 101, 102, 102, 101, 99, 116, 115, 36, 53])), .iface "func" (.lit (.string [119, 105, 99, 107, 101, 116, 103, 97, 116, 101, 47, 101, 102, 102, 101, 99, 116, 46, 101, 102, 102, 101, 99, 116, 115, 36, 54])), .iface "func" (.lit (.string [119, 105, 99, 107, 101, 116, 103, 97, 116, 101, 47, 101, 102, 102, 101, 99, 116, 46, 101, 102, 102, 101, 99, 116, 115, 36, 55])), .iface "func" (.lit (.string [119, 105, 99, 107, 101, 116, 103, 97, 116, 101, 47, 101, 102, 102, 101, 99, 116, 46, 101, 102, 102, 101, 99, 116, 115, 36, 56]))])

/-- 'wicketgatelaw27.LogPuts': WHATEVER THE INPUT: true; the input reads as it did. -/
def logPutsSpec : ChangeSpec := { name := "logPuts", fn := fun _ => fun
  | [d1, d2] => { results := [.lit (.bool true)], args := [d1, d2] }
  | _ => none }
def logPutsRow : OpenClaim := { program := "ytcpabgijmknldaadoor", sum := "1e12bb0c2c4061f5fda87b7ba50dcb748bccc872aff19d099b2913fbd5ab29cf", func := "wicketgate/wicketgatelaw27.LogPuts", spec := "logPuts", unfollowed := true, recurses := true, named := ["wicketgate/effect.effects"], apart := false, laid := [("wicketgate/effect.effects", laid_wicketgate_effect_effects)] }
def LogPutsSaid : Prop := logPutsRow.holds Tryd.pinned (OpenSpec.ofChange logPutsSpec)

/-- ITS FALSE NEIGHBOUR: 'it returns false'. Refute it at one input. -/
def logPutsWrong : ChangeSpec := { name := "logPuts", fn := fun _ => fun
  | [d1, d2] => { results := [.lit (.bool false)], args := [d1, d2] }
  | _ => none }
def LogPutsWrongFalsely : Prop := logPutsRow.holds Tryd.pinned (OpenSpec.ofChange logPutsWrong)

/-- 'wicketgatelaw27.LogAll': WHATEVER THE INPUT: true; the input reads as it did. -/
def logAllSpec : ChangeSpec := { name := "logAll", fn := fun _ => fun
  | [d1, d2] => { results := [.lit (.bool true)], args := [d1, d2] }
  | _ => none }
def logAllRow : OpenClaim := { program := "ytcpabgijmknldaadoor", sum := "1e12bb0c2c4061f5fda87b7ba50dcb748bccc872aff19d099b2913fbd5ab29cf", func := "wicketgate/wicketgatelaw27.LogAll", spec := "logAll", unfollowed := true, recurses := true, named := ["wicketgate/effect.effects"], apart := false, laid := [("wicketgate/effect.effects", laid_wicketgate_effect_effects)] }
def LogAllSaid : Prop := logAllRow.holds Tryd.pinned (OpenSpec.ofChange logAllSpec)

/-- ITS FALSE NEIGHBOUR: 'it returns false'. Refute it at one input. -/
def logAllWrong : ChangeSpec := { name := "logAll", fn := fun _ => fun
  | [d1, d2] => { results := [.lit (.bool false)], args := [d1, d2] }
  | _ => none }
def LogAllWrongFalsely : Prop := logAllRow.holds Tryd.pinned (OpenSpec.ofChange logAllWrong)

/-- 'wicketgatelaw27.LogNarrow': WHATEVER THE INPUT: true; the input reads as it did. -/
def logNarrowSpec : ChangeSpec := { name := "logNarrow", fn := fun _ => fun
  | [d1, d2, d3] => { results := [.lit (.bool true)], args := [d1, d2, d3] }
  | _ => none }
def logNarrowRow : OpenClaim := { program := "ytcpabgijmknldaadoor", sum := "1e12bb0c2c4061f5fda87b7ba50dcb748bccc872aff19d099b2913fbd5ab29cf", func := "wicketgate/wicketgatelaw27.LogNarrow", spec := "logNarrow", unfollowed := true, recurses := true, named := ["wicketgate/effect.effects"], apart := false, laid := [("wicketgate/effect.effects", laid_wicketgate_effect_effects)] }
def LogNarrowSaid : Prop := logNarrowRow.holds Tryd.pinned (OpenSpec.ofChange logNarrowSpec)

/-- ITS FALSE NEIGHBOUR: 'it returns false'. Refute it at one input. -/
def logNarrowWrong : ChangeSpec := { name := "logNarrow", fn := fun _ => fun
  | [d1, d2, d3] => { results := [.lit (.bool false)], args := [d1, d2, d3] }
  | _ => none }
def LogNarrowWrongFalsely : Prop := logNarrowRow.holds Tryd.pinned (OpenSpec.ofChange logNarrowWrong)

/-- 'wicketgatelaw27.LogTells': WHATEVER THE INPUT: true; the input reads as it did. -/
def logTellsSpec : ChangeSpec := { name := "logTells", fn := fun _ => fun
  | [d1, d2, d3] => { results := [.lit (.bool true)], args := [d1, d2, d3] }
  | _ => none }
def logTellsRow : OpenClaim := { program := "ytcpabgijmknldaadoor", sum := "1e12bb0c2c4061f5fda87b7ba50dcb748bccc872aff19d099b2913fbd5ab29cf", func := "wicketgate/wicketgatelaw27.LogTells", spec := "logTells", unfollowed := true, recurses := true, named := ["wicketgate/effect.effects"], apart := false, laid := [("wicketgate/effect.effects", laid_wicketgate_effect_effects)] }
def LogTellsSaid : Prop := logTellsRow.holds Tryd.pinned (OpenSpec.ofChange logTellsSpec)

/-- ITS FALSE NEIGHBOUR: 'it returns false'. Refute it at one input. -/
def logTellsWrong : ChangeSpec := { name := "logTells", fn := fun _ => fun
  | [d1, d2, d3] => { results := [.lit (.bool false)], args := [d1, d2, d3] }
  | _ => none }
def LogTellsWrongFalsely : Prop := logTellsRow.holds Tryd.pinned (OpenSpec.ofChange logTellsWrong)

/-- 'wicketgatelaw27.LogReads': WHATEVER THE INPUT: true; the input reads as it did. -/
def logReadsSpec : ChangeSpec := { name := "logReads", fn := fun _ => fun
  | [d1, d2, d3] => { results := [.lit (.bool true)], args := [d1, d2, d3] }
  | _ => none }
def logReadsRow : OpenClaim := { program := "ytcpabgijmknldaadoor", sum := "1e12bb0c2c4061f5fda87b7ba50dcb748bccc872aff19d099b2913fbd5ab29cf", func := "wicketgate/wicketgatelaw27.LogReads", spec := "logReads", unfollowed := true, recurses := true, named := ["wicketgate/effect.effects"], apart := false, laid := [("wicketgate/effect.effects", laid_wicketgate_effect_effects)] }
def LogReadsSaid : Prop := logReadsRow.holds Tryd.pinned (OpenSpec.ofChange logReadsSpec)

/-- ITS FALSE NEIGHBOUR: 'it returns false'. Refute it at one input. -/
def logReadsWrong : ChangeSpec := { name := "logReads", fn := fun _ => fun
  | [d1, d2, d3] => { results := [.lit (.bool false)], args := [d1, d2, d3] }
  | _ => none }
def LogReadsWrongFalsely : Prop := logReadsRow.holds Tryd.pinned (OpenSpec.ofChange logReadsWrong)

/-- 'wicketgatelaw27.LogParts': WHATEVER THE INPUT: true; the input reads as it did. -/
def logPartsSpec : ChangeSpec := { name := "logParts", fn := fun _ => fun
  | [d1, d2] => { results := [.lit (.bool true)], args := [d1, d2] }
  | _ => none }
def logPartsRow : OpenClaim := { program := "ytcpabgijmknldaadoor", sum := "1e12bb0c2c4061f5fda87b7ba50dcb748bccc872aff19d099b2913fbd5ab29cf", func := "wicketgate/wicketgatelaw27.LogParts", spec := "logParts", unfollowed := true, recurses := true, named := ["wicketgate/effect.effects"], apart := false, laid := [("wicketgate/effect.effects", laid_wicketgate_effect_effects)] }
def LogPartsSaid : Prop := logPartsRow.holds Tryd.pinned (OpenSpec.ofChange logPartsSpec)

/-- ITS FALSE NEIGHBOUR: 'it returns false'. Refute it at one input. -/
def logPartsWrong : ChangeSpec := { name := "logParts", fn := fun _ => fun
  | [d1, d2] => { results := [.lit (.bool false)], args := [d1, d2] }
  | _ => none }
def LogPartsWrongFalsely : Prop := logPartsRow.holds Tryd.pinned (OpenSpec.ofChange logPartsWrong)

/- THE SECOND FORM. 'bulk': how many values and letters a reading holds, each counted each time it is reached (what is shared counts as often as it is met; a slice's spare places count too). A statement '..UptoSaid' is the law's where the arguments, and the package variables that the reading takes, are together of bulk at most 1048576: NARROWER than '..Said'. Prove '..Said' where nothing that the law and all that it calls make is longer than what came in: it says more and counts as full. Else prove '..UptoSaid'. A law counts once. -/
mutual
def uptoBulk {H : Type} : DataW H → Nat
  | .lit (.string bytes) => bytes.length + 1
  | .lit _ => 1
  | .nil => 1
  | .ptr d => uptoBulk d + 1
  | .slice elems spare => uptoBulkAll elems + uptoBulkAll spare + 1
  | .agg parts => uptoBulkAll parts + 1
  | .iface _ d => uptoBulk d + 1
  | .map entries => uptoBulkEntries entries + 1
  | .held _ => 1
def uptoBulkAll {H : Type} : List (DataW H) → Nat
  | [] => 0
  | d :: r => uptoBulk d + uptoBulkAll r
def uptoBulkEntries {H : Type} : List (Lit × DataW H) → Nat
  | [] => 0
  | x :: r => uptoBulkEntry x + uptoBulkEntries r
def uptoBulkEntry {H : Type} : Lit × DataW H → Nat
  | (.string bytes, d) => bytes.length + uptoBulk d + 1
  | (_, d) => uptoBulk d + 1
 end
def uptoSmall : (H : Type) → List (DataW H) → Bool := fun _ ds => decide (uptoBulkAll ds ≤ 1048576)
def OpenSpec.upto (s : _root_.Go.ChangeSpec) : _root_.Go.OpenSpec := { _root_.Go.OpenSpec.ofChange s with cond := some uptoSmall }

/-- 'wicketgatelaw27.LogPuts', WHERE WHAT IT READS IS OF BULK AT MOST 1048576: true; the input reads as it did. -/
def logPutsUptoRow : OpenClaim := { program := "ytcpabgijmknldaadoor", sum := "1e12bb0c2c4061f5fda87b7ba50dcb748bccc872aff19d099b2913fbd5ab29cf", func := "wicketgate/wicketgatelaw27.LogPuts", spec := "logPuts", unfollowed := true, recurses := true, named := ["wicketgate/effect.effects"], apart := false, laid := [("wicketgate/effect.effects", laid_wicketgate_effect_effects)], narrowed := true }
def LogPutsUptoSaid : Prop := logPutsUptoRow.holds Tryd.pinned (OpenSpec.upto logPutsSpec)

/-- 'wicketgatelaw27.LogAll', WHERE WHAT IT READS IS OF BULK AT MOST 1048576: true; the input reads as it did. -/
def logAllUptoRow : OpenClaim := { program := "ytcpabgijmknldaadoor", sum := "1e12bb0c2c4061f5fda87b7ba50dcb748bccc872aff19d099b2913fbd5ab29cf", func := "wicketgate/wicketgatelaw27.LogAll", spec := "logAll", unfollowed := true, recurses := true, named := ["wicketgate/effect.effects"], apart := false, laid := [("wicketgate/effect.effects", laid_wicketgate_effect_effects)], narrowed := true }
def LogAllUptoSaid : Prop := logAllUptoRow.holds Tryd.pinned (OpenSpec.upto logAllSpec)

/-- 'wicketgatelaw27.LogNarrow', WHERE WHAT IT READS IS OF BULK AT MOST 1048576: true; the input reads as it did. -/
def logNarrowUptoRow : OpenClaim := { program := "ytcpabgijmknldaadoor", sum := "1e12bb0c2c4061f5fda87b7ba50dcb748bccc872aff19d099b2913fbd5ab29cf", func := "wicketgate/wicketgatelaw27.LogNarrow", spec := "logNarrow", unfollowed := true, recurses := true, named := ["wicketgate/effect.effects"], apart := false, laid := [("wicketgate/effect.effects", laid_wicketgate_effect_effects)], narrowed := true }
def LogNarrowUptoSaid : Prop := logNarrowUptoRow.holds Tryd.pinned (OpenSpec.upto logNarrowSpec)

/-- 'wicketgatelaw27.LogTells', WHERE WHAT IT READS IS OF BULK AT MOST 1048576: true; the input reads as it did. -/
def logTellsUptoRow : OpenClaim := { program := "ytcpabgijmknldaadoor", sum := "1e12bb0c2c4061f5fda87b7ba50dcb748bccc872aff19d099b2913fbd5ab29cf", func := "wicketgate/wicketgatelaw27.LogTells", spec := "logTells", unfollowed := true, recurses := true, named := ["wicketgate/effect.effects"], apart := false, laid := [("wicketgate/effect.effects", laid_wicketgate_effect_effects)], narrowed := true }
def LogTellsUptoSaid : Prop := logTellsUptoRow.holds Tryd.pinned (OpenSpec.upto logTellsSpec)

/-- 'wicketgatelaw27.LogReads', WHERE WHAT IT READS IS OF BULK AT MOST 1048576: true; the input reads as it did. -/
def logReadsUptoRow : OpenClaim := { program := "ytcpabgijmknldaadoor", sum := "1e12bb0c2c4061f5fda87b7ba50dcb748bccc872aff19d099b2913fbd5ab29cf", func := "wicketgate/wicketgatelaw27.LogReads", spec := "logReads", unfollowed := true, recurses := true, named := ["wicketgate/effect.effects"], apart := false, laid := [("wicketgate/effect.effects", laid_wicketgate_effect_effects)], narrowed := true }
def LogReadsUptoSaid : Prop := logReadsUptoRow.holds Tryd.pinned (OpenSpec.upto logReadsSpec)

/-- 'wicketgatelaw27.LogParts', WHERE WHAT IT READS IS OF BULK AT MOST 1048576: true; the input reads as it did. -/
def logPartsUptoRow : OpenClaim := { program := "ytcpabgijmknldaadoor", sum := "1e12bb0c2c4061f5fda87b7ba50dcb748bccc872aff19d099b2913fbd5ab29cf", func := "wicketgate/wicketgatelaw27.LogParts", spec := "logParts", unfollowed := true, recurses := true, named := ["wicketgate/effect.effects"], apart := false, laid := [("wicketgate/effect.effects", laid_wicketgate_effect_effects)], narrowed := true }
def LogPartsUptoSaid : Prop := logPartsUptoRow.holds Tryd.pinned (OpenSpec.upto logPartsSpec)

end Rows
end Go.Proofs.YtcpabgijmknldaaDoor
