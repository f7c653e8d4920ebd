/-
  No cell of these rows narrows 'for every input' (looked for: loops, veiled, ifaces, maps, wideKeys, modest, calm, conditions, laid).
  DERIVED. THE GIVEN ROWS OF THIS SEAT. 5 by the template 'for every input the law returns true; each argument reads behind the call as it read before'; 0 by the template 'total and deterministic' (their statements: YtmhgckamkokedaaTotals.lean).
  GIVEN WITH THE SEED: the statements are not yours to turn. If you find one false, say at which input.
  Laid BY PROGRAM, IN A SANDBOX (cutbox-rows.mjs): the forced cells as the released guide's own fill.sh prints them over the translation c89c9f9ebf7df5a9… (all of the seat's roots in one cut). By AI agents, Wed Nov 11 2026. No macro, syntax, notation, axiom, sorry.
-/
import Derived.Test.YtmhgckamkokedaaChecked
import GoSem.Claim
import GoSem.ClaimJoined
import GoSem.ClaimMapViews
import Derived.JoinedTies
import Derived.KernelRfl
namespace Go.Proofs.Ytmhgckamkokedaa
/- THE CELL 'sum', in the pinned program and in every row, IS THE sha256 OF THE DUMP (.gsa) THAT YtmhgckamkokedaaProg.lean LOADS. Nothing in Lean hashes anything: it is a label: what it is worth is what the hold of that sum in a sandbox is worth. -/
noncomputable def Try.pinned : Pinned := { name := "ytmhgckamkokedaa", sum := "c89c9f9ebf7df5a9454d67711e4006c1842701d90950045bf25daa06d60d5ac8", checked := Try.checked }
namespace Rows
def none {H : Type} : Left H := { results := [], args := [] }

/-- 'wicketgatelaw06.ActionCombines': WHATEVER THE INPUT: true; the input reads as it did. -/
def actionCombinesSpec : ChangeSpec := { name := "actionCombines", fn := fun _ => fun
  | [d] => { results := [.lit (.bool true)], args := [d] }
  | _ => none }
def actionCombinesRow : OpenClaim := { program := "ytmhgckamkokedaa", sum := "c89c9f9ebf7df5a9454d67711e4006c1842701d90950045bf25daa06d60d5ac8", func := "wicketgate/wicketgatelaw06.ActionCombines", spec := "actionCombines", unfollowed := true, recurses := true, apart := false }
def ActionCombinesSaid : Prop := actionCombinesRow.holds Try.pinned (OpenSpec.ofChange actionCombinesSpec)

/-- ITS FALSE NEIGHBOUR: 'it returns false'. Refute it at one input. -/
def actionCombinesWrong : ChangeSpec := { name := "actionCombines", fn := fun _ => fun
  | [d] => { results := [.lit (.bool false)], args := [d] }
  | _ => none }
def ActionCombinesWrongFalsely : Prop := actionCombinesRow.holds Try.pinned (OpenSpec.ofChange actionCombinesWrong)

/-- 'wicketgatelaw06.ActionTighter': WHATEVER THE INPUT: true; the input reads as it did. -/
def actionTighterSpec : ChangeSpec := { name := "actionTighter", fn := fun _ => fun
  | [d1, d2] => { results := [.lit (.bool true)], args := [d1, d2] }
  | _ => none }
def actionTighterRow : OpenClaim := { program := "ytmhgckamkokedaa", sum := "c89c9f9ebf7df5a9454d67711e4006c1842701d90950045bf25daa06d60d5ac8", func := "wicketgate/wicketgatelaw06.ActionTighter", spec := "actionTighter", unfollowed := true, recurses := true, apart := false }
def ActionTighterSaid : Prop := actionTighterRow.holds Try.pinned (OpenSpec.ofChange actionTighterSpec)

/-- ITS FALSE NEIGHBOUR: 'it returns false'. Refute it at one input. -/
def actionTighterWrong : ChangeSpec := { name := "actionTighter", fn := fun _ => fun
  | [d1, d2] => { results := [.lit (.bool false)], args := [d1, d2] }
  | _ => none }
def ActionTighterWrongFalsely : Prop := actionTighterRow.holds Try.pinned (OpenSpec.ofChange actionTighterWrong)

/-- 'wicketgatelaw06.ActionNames': WHATEVER THE INPUT: true; the input reads as it did. -/
def actionNamesSpec : ChangeSpec := { name := "actionNames", fn := fun _ => fun
  | [d1, d2] => { results := [.lit (.bool true)], args := [d1, d2] }
  | _ => none }
def actionNamesRow : OpenClaim := { program := "ytmhgckamkokedaa", sum := "c89c9f9ebf7df5a9454d67711e4006c1842701d90950045bf25daa06d60d5ac8", func := "wicketgate/wicketgatelaw06.ActionNames", spec := "actionNames", unfollowed := true, recurses := true, apart := false }
def ActionNamesSaid : Prop := actionNamesRow.holds Try.pinned (OpenSpec.ofChange actionNamesSpec)

/-- ITS FALSE NEIGHBOUR: 'it returns false'. Refute it at one input. -/
def actionNamesWrong : ChangeSpec := { name := "actionNames", fn := fun _ => fun
  | [d1, d2] => { results := [.lit (.bool false)], args := [d1, d2] }
  | _ => none }
def ActionNamesWrongFalsely : Prop := actionNamesRow.holds Try.pinned (OpenSpec.ofChange actionNamesWrong)

/-- 'wicketgatelaw06.ActionSplits': WHATEVER THE INPUT: true; the input reads as it did. -/
def actionSplitsSpec : ChangeSpec := { name := "actionSplits", fn := fun _ => fun
  | [d1, d2] => { results := [.lit (.bool true)], args := [d1, d2] }
  | _ => none }
def actionSplitsRow : OpenClaim := { program := "ytmhgckamkokedaa", sum := "c89c9f9ebf7df5a9454d67711e4006c1842701d90950045bf25daa06d60d5ac8", func := "wicketgate/wicketgatelaw06.ActionSplits", spec := "actionSplits", unfollowed := true, recurses := true, apart := false }
def ActionSplitsSaid : Prop := actionSplitsRow.holds Try.pinned (OpenSpec.ofChange actionSplitsSpec)

/-- ITS FALSE NEIGHBOUR: 'it returns false'. Refute it at one input. -/
def actionSplitsWrong : ChangeSpec := { name := "actionSplits", fn := fun _ => fun
  | [d1, d2] => { results := [.lit (.bool false)], args := [d1, d2] }
  | _ => none }
def ActionSplitsWrongFalsely : Prop := actionSplitsRow.holds Try.pinned (OpenSpec.ofChange actionSplitsWrong)

/-- 'wicketgatelaw06.ActionBack': WHATEVER THE INPUT: true; the input reads as it did. -/
def actionBackSpec : ChangeSpec := { name := "actionBack", fn := fun _ => fun
  | [d1, d2] => { results := [.lit (.bool true)], args := [d1, d2] }
  | _ => none }
def actionBackRow : OpenClaim := { program := "ytmhgckamkokedaa", sum := "c89c9f9ebf7df5a9454d67711e4006c1842701d90950045bf25daa06d60d5ac8", func := "wicketgate/wicketgatelaw06.ActionBack", spec := "actionBack", unfollowed := true, recurses := true, apart := false }
def ActionBackSaid : Prop := actionBackRow.holds Try.pinned (OpenSpec.ofChange actionBackSpec)

/-- ITS FALSE NEIGHBOUR: 'it returns false'. Refute it at one input. -/
def actionBackWrong : ChangeSpec := { name := "actionBack", fn := fun _ => fun
  | [d1, d2] => { results := [.lit (.bool false)], args := [d1, d2] }
  | _ => none }
def ActionBackWrongFalsely : Prop := actionBackRow.holds Try.pinned (OpenSpec.ofChange actionBackWrong)

/- THE SECOND FORM. 'bulk': how many values and letters a reading holds, each counted each time it is reached (what is shared counts as often as it is met; a slice's spare places count too). A statement '..UptoSaid' is the law's where the arguments, and the package variables that the reading takes, are together of bulk at most 1048576: NARROWER than '..Said'. Prove '..Said' where nothing that the law and all that it calls make is longer than what came in: it says more and counts as full. Else prove '..UptoSaid'. A law counts once. -/
mutual
def uptoBulk {H : Type} : DataW H → Nat
  | .lit (.string bytes) => bytes.length + 1
  | .lit _ => 1
  | .nil => 1
  | .ptr d => uptoBulk d + 1
  | .slice elems spare => uptoBulkAll elems + uptoBulkAll spare + 1
  | .agg parts => uptoBulkAll parts + 1
  | .iface _ d => uptoBulk d + 1
  | .map entries => uptoBulkEntries entries + 1
  | .held _ => 1
def uptoBulkAll {H : Type} : List (DataW H) → Nat
  | [] => 0
  | d :: r => uptoBulk d + uptoBulkAll r
def uptoBulkEntries {H : Type} : List (Lit × DataW H) → Nat
  | [] => 0
  | x :: r => uptoBulkEntry x + uptoBulkEntries r
def uptoBulkEntry {H : Type} : Lit × DataW H → Nat
  | (.string bytes, d) => bytes.length + uptoBulk d + 1
  | (_, d) => uptoBulk d + 1
 end
def uptoSmall : (H : Type) → List (DataW H) → Bool := fun _ ds => decide (uptoBulkAll ds ≤ 1048576)
def OpenSpec.upto (s : _root_.Go.ChangeSpec) : _root_.Go.OpenSpec := { _root_.Go.OpenSpec.ofChange s with cond := some uptoSmall }

/-- 'wicketgatelaw06.ActionCombines', WHERE WHAT IT READS IS OF BULK AT MOST 1048576: true; the input reads as it did. -/
def actionCombinesUptoRow : OpenClaim := { program := "ytmhgckamkokedaa", sum := "c89c9f9ebf7df5a9454d67711e4006c1842701d90950045bf25daa06d60d5ac8", func := "wicketgate/wicketgatelaw06.ActionCombines", spec := "actionCombines", unfollowed := true, recurses := true, apart := false, narrowed := true }
def ActionCombinesUptoSaid : Prop := actionCombinesUptoRow.holds Try.pinned (OpenSpec.upto actionCombinesSpec)

/-- 'wicketgatelaw06.ActionTighter', WHERE WHAT IT READS IS OF BULK AT MOST 1048576: true; the input reads as it did. -/
def actionTighterUptoRow : OpenClaim := { program := "ytmhgckamkokedaa", sum := "c89c9f9ebf7df5a9454d67711e4006c1842701d90950045bf25daa06d60d5ac8", func := "wicketgate/wicketgatelaw06.ActionTighter", spec := "actionTighter", unfollowed := true, recurses := true, apart := false, narrowed := true }
def ActionTighterUptoSaid : Prop := actionTighterUptoRow.holds Try.pinned (OpenSpec.upto actionTighterSpec)

/-- 'wicketgatelaw06.ActionNames', WHERE WHAT IT READS IS OF BULK AT MOST 1048576: true; the input reads as it did. -/
def actionNamesUptoRow : OpenClaim := { program := "ytmhgckamkokedaa", sum := "c89c9f9ebf7df5a9454d67711e4006c1842701d90950045bf25daa06d60d5ac8", func := "wicketgate/wicketgatelaw06.ActionNames", spec := "actionNames", unfollowed := true, recurses := true, apart := false, narrowed := true }
def ActionNamesUptoSaid : Prop := actionNamesUptoRow.holds Try.pinned (OpenSpec.upto actionNamesSpec)

/-- 'wicketgatelaw06.ActionSplits', WHERE WHAT IT READS IS OF BULK AT MOST 1048576: true; the input reads as it did. -/
def actionSplitsUptoRow : OpenClaim := { program := "ytmhgckamkokedaa", sum := "c89c9f9ebf7df5a9454d67711e4006c1842701d90950045bf25daa06d60d5ac8", func := "wicketgate/wicketgatelaw06.ActionSplits", spec := "actionSplits", unfollowed := true, recurses := true, apart := false, narrowed := true }
def ActionSplitsUptoSaid : Prop := actionSplitsUptoRow.holds Try.pinned (OpenSpec.upto actionSplitsSpec)

/-- 'wicketgatelaw06.ActionBack', WHERE WHAT IT READS IS OF BULK AT MOST 1048576: true; the input reads as it did. -/
def actionBackUptoRow : OpenClaim := { program := "ytmhgckamkokedaa", sum := "c89c9f9ebf7df5a9454d67711e4006c1842701d90950045bf25daa06d60d5ac8", func := "wicketgate/wicketgatelaw06.ActionBack", spec := "actionBack", unfollowed := true, recurses := true, apart := false, narrowed := true }
def ActionBackUptoSaid : Prop := actionBackUptoRow.holds Try.pinned (OpenSpec.upto actionBackSpec)

end Rows
end Go.Proofs.Ytmhgckamkokedaa
