/-
  NARROWER THAN 'FOR EVERY INPUT', by the rows' own cells (each row's printed sentence says how): NotifyAsks: laid · NotifyAnswers: laid · NotifyBack: laid · NotifyOnce: laid · NotifyTells: laid.
  DERIVED. THE GIVEN ROWS OF THIS SEAT. 5 by the template 'for every input the law returns true; each argument reads behind the call as it read before'; 0 by the template 'total and deterministic' (their statements: YtcbiehinhmkjmaaDoorTotals.lean).
  GIVEN WITH THE SEED: the statements are not yours to turn. If you find one false, say at which input.
  Laid BY PROGRAM, IN A SANDBOX (cutbox-rows.mjs): the forced cells as the released guide's own fill.sh prints them over the translation 60c96acd04473955… (all of the seat's roots in one cut). By AI agents, Wed Nov 11 2026. No macro, syntax, notation, axiom, sorry.
-/
import Derived.Test.YtcbiehinhmkjmaaDoorChecked
import GoSem.Claim
import GoSem.ClaimJoined
import GoSem.ClaimMapViews
import Derived.JoinedTies
import Derived.KernelRfl
namespace Go.Proofs.YtcbiehinhmkjmaaDoor
/- THE CELL 'sum', in the pinned program and in every row, IS THE sha256 OF THE DUMP (.gsa) THAT YtcbiehinhmkjmaaDoorProg.lean LOADS. Nothing in Lean hashes anything: it is a label: what it is worth is what the hold of that sum in a sandbox is worth. -/
noncomputable def Tryd.pinned : Pinned := { name := "ytcbiehinhmkjmaadoor", sum := "60c96acd04473955c90345df2b9cdac86ae1c9bf4a337cf949c010ab7363ecf2", checked := Tryd.checked }
namespace Rows
def none {H : Type} : Left H := { results := [], args := [] }

/- WHAT THE LISTED PACKAGE-LEVEL VARIABLES READ AS WHEN THE CALL BEGINS. Each datum BY PROGRAM (the guide's laid-datum.mjs) off the statement by which the dump's own 'gosem.cut.vars' lays the variable. In a bare row this is a premise. The card (YtcbiehinhmkjmaaDoorCards.lean) ties it to the program's text. -/
def laid_wicketgate_effect_effects {H : Type} : DataW H := .iface "func table" (.agg [.iface "func" (.lit (.string [119, 105, 99, 107, 101, 116, 103, 97, 116, 101, 47, 101, 102, 102, 101, 99, 116, 46, 101, 102, 102, 101, 99, 116, 115, 36, 49])), .iface "func" (.lit (.string [119, 105, 99, 107, 101, 116, 103, 97, 116, 101, 47, 101, 102, 102, 101, 99, 116, 46, 101, 102, 102, 101, 99, 116, 115, 36, 50])), .iface "func" (.lit (.string [119, 105, 99, 107, 101, 116, 103, 97, 116, 101, 47, 101, 102, 102, 101, 99, 116, 46, 101, 102, 102, 101, 99, 116, 115, 36, 51])), .iface "func" (.lit (.string [119, 105, 99, 107, 101, 116, 103, 97, 116, 101, 47, 101, 102, 102, 101, 99, 116, 46, 101, 102, 102, 101, 99, 116, 115, 36, 52])), .iface "func" (.lit (.string [119, 105, 99, 107, 101, 116, 103, 97, 116, 101, 47, 101, 102, 102, 101, 99, 116, 46, 101, 102, 102, 101, 99, 116, 115, 36, 53])), .iface "func" (.lit (.string [119, 105, 99, 107, 101, 116, 103, 97, 116, 101, 47, 101, 102, 102, 101, 99, 116, 46, 101, 102, 102, 101, 99, 116, 115, 36, 54])), .iface "func" (.lit (.string [119, 105, 99, 107, 101, 116, 103, 97, 116, 101, 47, 101, 102, 102, 101, 99, 116, 46, 101, 102, 102, 101, 99, 116, 115, 36, 55])), .iface "func" (.lit (.string [119, 105, 99, 107, 101, 116, 103, 97, 116, 101, 47, 101, 102, 102, 101, 99, 116, 46, 101, 102, 102, 101, 99, 116, 115, 36, 56]))])

/-- 'wicketgatelaw25.NotifyAsks': WHATEVER THE INPUT: true; the input reads as it did. -/
def notifyAsksSpec : ChangeSpec := { name := "notifyAsks", fn := fun _ => fun
  | [d1, d2, d3] => { results := [.lit (.bool true)], args := [d1, d2, d3] }
  | _ => none }
def notifyAsksRow : OpenClaim := { program := "ytcbiehinhmkjmaadoor", sum := "60c96acd04473955c90345df2b9cdac86ae1c9bf4a337cf949c010ab7363ecf2", func := "wicketgate/wicketgatelaw25.NotifyAsks", spec := "notifyAsks", unfollowed := true, recurses := true, named := ["wicketgate/effect.effects"], apart := false, laid := [("wicketgate/effect.effects", laid_wicketgate_effect_effects)] }
def NotifyAsksSaid : Prop := notifyAsksRow.holds Tryd.pinned (OpenSpec.ofChange notifyAsksSpec)

/-- ITS FALSE NEIGHBOUR: 'it returns false'. Refute it at one input. -/
def notifyAsksWrong : ChangeSpec := { name := "notifyAsks", fn := fun _ => fun
  | [d1, d2, d3] => { results := [.lit (.bool false)], args := [d1, d2, d3] }
  | _ => none }
def NotifyAsksWrongFalsely : Prop := notifyAsksRow.holds Tryd.pinned (OpenSpec.ofChange notifyAsksWrong)

/-- 'wicketgatelaw25.NotifyAnswers': WHATEVER THE INPUT: true; the input reads as it did. -/
def notifyAnswersSpec : ChangeSpec := { name := "notifyAnswers", fn := fun _ => fun
  | [d1, d2, d3] => { results := [.lit (.bool true)], args := [d1, d2, d3] }
  | _ => none }
def notifyAnswersRow : OpenClaim := { program := "ytcbiehinhmkjmaadoor", sum := "60c96acd04473955c90345df2b9cdac86ae1c9bf4a337cf949c010ab7363ecf2", func := "wicketgate/wicketgatelaw25.NotifyAnswers", spec := "notifyAnswers", unfollowed := true, recurses := true, named := ["wicketgate/effect.effects"], apart := false, laid := [("wicketgate/effect.effects", laid_wicketgate_effect_effects)] }
def NotifyAnswersSaid : Prop := notifyAnswersRow.holds Tryd.pinned (OpenSpec.ofChange notifyAnswersSpec)

/-- ITS FALSE NEIGHBOUR: 'it returns false'. Refute it at one input. -/
def notifyAnswersWrong : ChangeSpec := { name := "notifyAnswers", fn := fun _ => fun
  | [d1, d2, d3] => { results := [.lit (.bool false)], args := [d1, d2, d3] }
  | _ => none }
def NotifyAnswersWrongFalsely : Prop := notifyAnswersRow.holds Tryd.pinned (OpenSpec.ofChange notifyAnswersWrong)

/-- 'wicketgatelaw25.NotifyBack': WHATEVER THE INPUT: true; the input reads as it did. -/
def notifyBackSpec : ChangeSpec := { name := "notifyBack", fn := fun _ => fun
  | [d1, d2, d3] => { results := [.lit (.bool true)], args := [d1, d2, d3] }
  | _ => none }
def notifyBackRow : OpenClaim := { program := "ytcbiehinhmkjmaadoor", sum := "60c96acd04473955c90345df2b9cdac86ae1c9bf4a337cf949c010ab7363ecf2", func := "wicketgate/wicketgatelaw25.NotifyBack", spec := "notifyBack", unfollowed := true, recurses := true, named := ["wicketgate/effect.effects"], apart := false, laid := [("wicketgate/effect.effects", laid_wicketgate_effect_effects)] }
def NotifyBackSaid : Prop := notifyBackRow.holds Tryd.pinned (OpenSpec.ofChange notifyBackSpec)

/-- ITS FALSE NEIGHBOUR: 'it returns false'. Refute it at one input. -/
def notifyBackWrong : ChangeSpec := { name := "notifyBack", fn := fun _ => fun
  | [d1, d2, d3] => { results := [.lit (.bool false)], args := [d1, d2, d3] }
  | _ => none }
def NotifyBackWrongFalsely : Prop := notifyBackRow.holds Tryd.pinned (OpenSpec.ofChange notifyBackWrong)

/-- 'wicketgatelaw25.NotifyOnce': WHATEVER THE INPUT: true; the input reads as it did. -/
def notifyOnceSpec : ChangeSpec := { name := "notifyOnce", fn := fun _ => fun
  | [d] => { results := [.lit (.bool true)], args := [d] }
  | _ => none }
def notifyOnceRow : OpenClaim := { program := "ytcbiehinhmkjmaadoor", sum := "60c96acd04473955c90345df2b9cdac86ae1c9bf4a337cf949c010ab7363ecf2", func := "wicketgate/wicketgatelaw25.NotifyOnce", spec := "notifyOnce", unfollowed := true, recurses := true, named := ["wicketgate/effect.effects"], apart := false, laid := [("wicketgate/effect.effects", laid_wicketgate_effect_effects)] }
def NotifyOnceSaid : Prop := notifyOnceRow.holds Tryd.pinned (OpenSpec.ofChange notifyOnceSpec)

/-- ITS FALSE NEIGHBOUR: 'it returns false'. Refute it at one input. -/
def notifyOnceWrong : ChangeSpec := { name := "notifyOnce", fn := fun _ => fun
  | [d] => { results := [.lit (.bool false)], args := [d] }
  | _ => none }
def NotifyOnceWrongFalsely : Prop := notifyOnceRow.holds Tryd.pinned (OpenSpec.ofChange notifyOnceWrong)

/-- 'wicketgatelaw25.NotifyTells': WHATEVER THE INPUT: true; the input reads as it did. -/
def notifyTellsSpec : ChangeSpec := { name := "notifyTells", fn := fun _ => fun
  | [d1, d2, d3] => { results := [.lit (.bool true)], args := [d1, d2, d3] }
  | _ => none }
def notifyTellsRow : OpenClaim := { program := "ytcbiehinhmkjmaadoor", sum := "60c96acd04473955c90345df2b9cdac86ae1c9bf4a337cf949c010ab7363ecf2", func := "wicketgate/wicketgatelaw25.NotifyTells", spec := "notifyTells", unfollowed := true, recurses := true, named := ["wicketgate/effect.effects"], apart := false, laid := [("wicketgate/effect.effects", laid_wicketgate_effect_effects)] }
def NotifyTellsSaid : Prop := notifyTellsRow.holds Tryd.pinned (OpenSpec.ofChange notifyTellsSpec)

/-- ITS FALSE NEIGHBOUR: 'it returns false'. Refute it at one input. -/
def notifyTellsWrong : ChangeSpec := { name := "notifyTells", fn := fun _ => fun
  | [d1, d2, d3] => { results := [.lit (.bool false)], args := [d1, d2, d3] }
  | _ => none }
def NotifyTellsWrongFalsely : Prop := notifyTellsRow.holds Tryd.pinned (OpenSpec.ofChange notifyTellsWrong)

/- THE SECOND FORM. 'bulk': how many values and letters a reading holds, each counted each time it is reached (what is shared counts as often as it is met; a slice's spare places count too). A statement '..UptoSaid' is the law's where the arguments, and the package variables that the reading takes, are together of bulk at most 1048576: NARROWER than '..Said'. Prove '..Said' where nothing that the law and all that it calls make is longer than what came in: it says more and counts as full. Else prove '..UptoSaid'. A law counts once. -/
mutual
def uptoBulk {H : Type} : DataW H → Nat
  | .lit (.string bytes) => bytes.length + 1
  | .lit _ => 1
  | .nil => 1
  | .ptr d => uptoBulk d + 1
  | .slice elems spare => uptoBulkAll elems + uptoBulkAll spare + 1
  | .agg parts => uptoBulkAll parts + 1
  | .iface _ d => uptoBulk d + 1
  | .map entries => uptoBulkEntries entries + 1
  | .held _ => 1
def uptoBulkAll {H : Type} : List (DataW H) → Nat
  | [] => 0
  | d :: r => uptoBulk d + uptoBulkAll r
def uptoBulkEntries {H : Type} : List (Lit × DataW H) → Nat
  | [] => 0
  | x :: r => uptoBulkEntry x + uptoBulkEntries r
def uptoBulkEntry {H : Type} : Lit × DataW H → Nat
  | (.string bytes, d) => bytes.length + uptoBulk d + 1
  | (_, d) => uptoBulk d + 1
 end
def uptoSmall : (H : Type) → List (DataW H) → Bool := fun _ ds => decide (uptoBulkAll ds ≤ 1048576)
def OpenSpec.upto (s : _root_.Go.ChangeSpec) : _root_.Go.OpenSpec := { _root_.Go.OpenSpec.ofChange s with cond := some uptoSmall }

/-- 'wicketgatelaw25.NotifyAsks', WHERE WHAT IT READS IS OF BULK AT MOST 1048576: true; the input reads as it did. -/
def notifyAsksUptoRow : OpenClaim := { program := "ytcbiehinhmkjmaadoor", sum := "60c96acd04473955c90345df2b9cdac86ae1c9bf4a337cf949c010ab7363ecf2", func := "wicketgate/wicketgatelaw25.NotifyAsks", spec := "notifyAsks", unfollowed := true, recurses := true, named := ["wicketgate/effect.effects"], apart := false, laid := [("wicketgate/effect.effects", laid_wicketgate_effect_effects)], narrowed := true }
def NotifyAsksUptoSaid : Prop := notifyAsksUptoRow.holds Tryd.pinned (OpenSpec.upto notifyAsksSpec)

/-- 'wicketgatelaw25.NotifyAnswers', WHERE WHAT IT READS IS OF BULK AT MOST 1048576: true; the input reads as it did. -/
def notifyAnswersUptoRow : OpenClaim := { program := "ytcbiehinhmkjmaadoor", sum := "60c96acd04473955c90345df2b9cdac86ae1c9bf4a337cf949c010ab7363ecf2", func := "wicketgate/wicketgatelaw25.NotifyAnswers", spec := "notifyAnswers", unfollowed := true, recurses := true, named := ["wicketgate/effect.effects"], apart := false, laid := [("wicketgate/effect.effects", laid_wicketgate_effect_effects)], narrowed := true }
def NotifyAnswersUptoSaid : Prop := notifyAnswersUptoRow.holds Tryd.pinned (OpenSpec.upto notifyAnswersSpec)

/-- 'wicketgatelaw25.NotifyBack', WHERE WHAT IT READS IS OF BULK AT MOST 1048576: true; the input reads as it did. -/
def notifyBackUptoRow : OpenClaim := { program := "ytcbiehinhmkjmaadoor", sum := "60c96acd04473955c90345df2b9cdac86ae1c9bf4a337cf949c010ab7363ecf2", func := "wicketgate/wicketgatelaw25.NotifyBack", spec := "notifyBack", unfollowed := true, recurses := true, named := ["wicketgate/effect.effects"], apart := false, laid := [("wicketgate/effect.effects", laid_wicketgate_effect_effects)], narrowed := true }
def NotifyBackUptoSaid : Prop := notifyBackUptoRow.holds Tryd.pinned (OpenSpec.upto notifyBackSpec)

/-- 'wicketgatelaw25.NotifyOnce', WHERE WHAT IT READS IS OF BULK AT MOST 1048576: true; the input reads as it did. -/
def notifyOnceUptoRow : OpenClaim := { program := "ytcbiehinhmkjmaadoor", sum := "60c96acd04473955c90345df2b9cdac86ae1c9bf4a337cf949c010ab7363ecf2", func := "wicketgate/wicketgatelaw25.NotifyOnce", spec := "notifyOnce", unfollowed := true, recurses := true, named := ["wicketgate/effect.effects"], apart := false, laid := [("wicketgate/effect.effects", laid_wicketgate_effect_effects)], narrowed := true }
def NotifyOnceUptoSaid : Prop := notifyOnceUptoRow.holds Tryd.pinned (OpenSpec.upto notifyOnceSpec)

/-- 'wicketgatelaw25.NotifyTells', WHERE WHAT IT READS IS OF BULK AT MOST 1048576: true; the input reads as it did. -/
def notifyTellsUptoRow : OpenClaim := { program := "ytcbiehinhmkjmaadoor", sum := "60c96acd04473955c90345df2b9cdac86ae1c9bf4a337cf949c010ab7363ecf2", func := "wicketgate/wicketgatelaw25.NotifyTells", spec := "notifyTells", unfollowed := true, recurses := true, named := ["wicketgate/effect.effects"], apart := false, laid := [("wicketgate/effect.effects", laid_wicketgate_effect_effects)], narrowed := true }
def NotifyTellsUptoSaid : Prop := notifyTellsUptoRow.holds Tryd.pinned (OpenSpec.upto notifyTellsSpec)

end Rows
end Go.Proofs.YtcbiehinhmkjmaaDoor
