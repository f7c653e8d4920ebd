/-
  No cell of these rows narrows 'for every input' (looked for: loops, veiled, ifaces, maps, wideKeys, modest, calm, conditions, laid).
  DERIVED. THE GIVEN ROWS OF THIS SEAT. 5 by the template 'for every input the law returns true; each argument reads behind the call as it read before'; 0 by the template 'total and deterministic' (their statements: YtgacpabljdbhmaaTotals.lean).
  GIVEN WITH THE SEED: the statements are not yours to turn. If you find one false, say at which input.
  Laid BY PROGRAM, IN A SANDBOX (cutbox-rows.mjs): the forced cells as the released guide's own fill.sh prints them over the translation 7807962931914a8f… (all of the seat's roots in one cut). By AI agents, Wed Nov 11 2026. No macro, syntax, notation, axiom, sorry.
-/
import Derived.Test.YtgacpabljdbhmaaChecked
import GoSem.Claim
import GoSem.ClaimJoined
import GoSem.ClaimMapViews
import Derived.JoinedTies
import Derived.KernelRfl
namespace Go.Proofs.Ytgacpabljdbhmaa
/- THE CELL 'sum', in the pinned program and in every row, IS THE sha256 OF THE DUMP (.gsa) THAT YtgacpabljdbhmaaProg.lean LOADS. Nothing in Lean hashes anything: it is a label: what it is worth is what the hold of that sum in a sandbox is worth. -/
noncomputable def Try.pinned : Pinned := { name := "ytgacpabljdbhmaa", sum := "7807962931914a8f6bc433ded948916e0b6ed607d55734c9daf29d62e58b0816", checked := Try.checked }
namespace Rows
def none {H : Type} : Left H := { results := [], args := [] }

/-- 'wicketgatelaw11.CredRuns': WHATEVER THE INPUT: true; the input reads as it did. -/
def credRunsSpec : ChangeSpec := { name := "credRuns", fn := fun _ => fun
  | [d1, d2, d3] => { results := [.lit (.bool true)], args := [d1, d2, d3] }
  | _ => none }
def credRunsRow : OpenClaim := { program := "ytgacpabljdbhmaa", sum := "7807962931914a8f6bc433ded948916e0b6ed607d55734c9daf29d62e58b0816", func := "wicketgate/wicketgatelaw11.CredRuns", spec := "credRuns", unfollowed := true, recurses := true, apart := false }
def CredRunsSaid : Prop := credRunsRow.holds Try.pinned (OpenSpec.ofChange credRunsSpec)

/-- ITS FALSE NEIGHBOUR: 'it returns false'. Refute it at one input. -/
def credRunsWrong : ChangeSpec := { name := "credRuns", fn := fun _ => fun
  | [d1, d2, d3] => { results := [.lit (.bool false)], args := [d1, d2, d3] }
  | _ => none }
def CredRunsWrongFalsely : Prop := credRunsRow.holds Try.pinned (OpenSpec.ofChange credRunsWrong)

/-- 'wicketgatelaw11.CredKeeps': WHATEVER THE INPUT: true; the input reads as it did. -/
def credKeepsSpec : ChangeSpec := { name := "credKeeps", fn := fun _ => fun
  | [d1, d2] => { results := [.lit (.bool true)], args := [d1, d2] }
  | _ => none }
def credKeepsRow : OpenClaim := { program := "ytgacpabljdbhmaa", sum := "7807962931914a8f6bc433ded948916e0b6ed607d55734c9daf29d62e58b0816", func := "wicketgate/wicketgatelaw11.CredKeeps", spec := "credKeeps", unfollowed := true, recurses := true, apart := false }
def CredKeepsSaid : Prop := credKeepsRow.holds Try.pinned (OpenSpec.ofChange credKeepsSpec)

/-- ITS FALSE NEIGHBOUR: 'it returns false'. Refute it at one input. -/
def credKeepsWrong : ChangeSpec := { name := "credKeeps", fn := fun _ => fun
  | [d1, d2] => { results := [.lit (.bool false)], args := [d1, d2] }
  | _ => none }
def CredKeepsWrongFalsely : Prop := credKeepsRow.holds Try.pinned (OpenSpec.ofChange credKeepsWrong)

/-- 'wicketgatelaw11.CredModes': WHATEVER THE INPUT: true; the input reads as it did. -/
def credModesSpec : ChangeSpec := { name := "credModes", fn := fun _ => fun
  | [d] => { results := [.lit (.bool true)], args := [d] }
  | _ => none }
def credModesRow : OpenClaim := { program := "ytgacpabljdbhmaa", sum := "7807962931914a8f6bc433ded948916e0b6ed607d55734c9daf29d62e58b0816", func := "wicketgate/wicketgatelaw11.CredModes", spec := "credModes", unfollowed := true, recurses := true, apart := false }
def CredModesSaid : Prop := credModesRow.holds Try.pinned (OpenSpec.ofChange credModesSpec)

/-- ITS FALSE NEIGHBOUR: 'it returns false'. Refute it at one input. -/
def credModesWrong : ChangeSpec := { name := "credModes", fn := fun _ => fun
  | [d] => { results := [.lit (.bool false)], args := [d] }
  | _ => none }
def CredModesWrongFalsely : Prop := credModesRow.holds Try.pinned (OpenSpec.ofChange credModesWrong)

/-- 'wicketgatelaw11.CredTells': WHATEVER THE INPUT: true; the input reads as it did. -/
def credTellsSpec : ChangeSpec := { name := "credTells", fn := fun _ => fun
  | [d1, d2] => { results := [.lit (.bool true)], args := [d1, d2] }
  | _ => none }
def credTellsRow : OpenClaim := { program := "ytgacpabljdbhmaa", sum := "7807962931914a8f6bc433ded948916e0b6ed607d55734c9daf29d62e58b0816", func := "wicketgate/wicketgatelaw11.CredTells", spec := "credTells", unfollowed := true, recurses := true, apart := false }
def CredTellsSaid : Prop := credTellsRow.holds Try.pinned (OpenSpec.ofChange credTellsSpec)

/-- ITS FALSE NEIGHBOUR: 'it returns false'. Refute it at one input. -/
def credTellsWrong : ChangeSpec := { name := "credTells", fn := fun _ => fun
  | [d1, d2] => { results := [.lit (.bool false)], args := [d1, d2] }
  | _ => none }
def CredTellsWrongFalsely : Prop := credTellsRow.holds Try.pinned (OpenSpec.ofChange credTellsWrong)

/-- 'wicketgatelaw11.CredFalls': WHATEVER THE INPUT: true; the input reads as it did. -/
def credFallsSpec : ChangeSpec := { name := "credFalls", fn := fun _ => fun
  | [d1, d2] => { results := [.lit (.bool true)], args := [d1, d2] }
  | _ => none }
def credFallsRow : OpenClaim := { program := "ytgacpabljdbhmaa", sum := "7807962931914a8f6bc433ded948916e0b6ed607d55734c9daf29d62e58b0816", func := "wicketgate/wicketgatelaw11.CredFalls", spec := "credFalls", unfollowed := true, recurses := true, apart := false }
def CredFallsSaid : Prop := credFallsRow.holds Try.pinned (OpenSpec.ofChange credFallsSpec)

/-- ITS FALSE NEIGHBOUR: 'it returns false'. Refute it at one input. -/
def credFallsWrong : ChangeSpec := { name := "credFalls", fn := fun _ => fun
  | [d1, d2] => { results := [.lit (.bool false)], args := [d1, d2] }
  | _ => none }
def CredFallsWrongFalsely : Prop := credFallsRow.holds Try.pinned (OpenSpec.ofChange credFallsWrong)

/- THE SECOND FORM. 'bulk': how many values and letters a reading holds, each counted each time it is reached (what is shared counts as often as it is met; a slice's spare places count too). A statement '..UptoSaid' is the law's where the arguments, and the package variables that the reading takes, are together of bulk at most 1048576: NARROWER than '..Said'. Prove '..Said' where nothing that the law and all that it calls make is longer than what came in: it says more and counts as full. Else prove '..UptoSaid'. A law counts once. -/
mutual
def uptoBulk {H : Type} : DataW H → Nat
  | .lit (.string bytes) => bytes.length + 1
  | .lit _ => 1
  | .nil => 1
  | .ptr d => uptoBulk d + 1
  | .slice elems spare => uptoBulkAll elems + uptoBulkAll spare + 1
  | .agg parts => uptoBulkAll parts + 1
  | .iface _ d => uptoBulk d + 1
  | .map entries => uptoBulkEntries entries + 1
  | .held _ => 1
def uptoBulkAll {H : Type} : List (DataW H) → Nat
  | [] => 0
  | d :: r => uptoBulk d + uptoBulkAll r
def uptoBulkEntries {H : Type} : List (Lit × DataW H) → Nat
  | [] => 0
  | x :: r => uptoBulkEntry x + uptoBulkEntries r
def uptoBulkEntry {H : Type} : Lit × DataW H → Nat
  | (.string bytes, d) => bytes.length + uptoBulk d + 1
  | (_, d) => uptoBulk d + 1
 end
def uptoSmall : (H : Type) → List (DataW H) → Bool := fun _ ds => decide (uptoBulkAll ds ≤ 1048576)
def OpenSpec.upto (s : _root_.Go.ChangeSpec) : _root_.Go.OpenSpec := { _root_.Go.OpenSpec.ofChange s with cond := some uptoSmall }

/-- 'wicketgatelaw11.CredRuns', WHERE WHAT IT READS IS OF BULK AT MOST 1048576: true; the input reads as it did. -/
def credRunsUptoRow : OpenClaim := { program := "ytgacpabljdbhmaa", sum := "7807962931914a8f6bc433ded948916e0b6ed607d55734c9daf29d62e58b0816", func := "wicketgate/wicketgatelaw11.CredRuns", spec := "credRuns", unfollowed := true, recurses := true, apart := false, narrowed := true }
def CredRunsUptoSaid : Prop := credRunsUptoRow.holds Try.pinned (OpenSpec.upto credRunsSpec)

/-- 'wicketgatelaw11.CredKeeps', WHERE WHAT IT READS IS OF BULK AT MOST 1048576: true; the input reads as it did. -/
def credKeepsUptoRow : OpenClaim := { program := "ytgacpabljdbhmaa", sum := "7807962931914a8f6bc433ded948916e0b6ed607d55734c9daf29d62e58b0816", func := "wicketgate/wicketgatelaw11.CredKeeps", spec := "credKeeps", unfollowed := true, recurses := true, apart := false, narrowed := true }
def CredKeepsUptoSaid : Prop := credKeepsUptoRow.holds Try.pinned (OpenSpec.upto credKeepsSpec)

/-- 'wicketgatelaw11.CredModes', WHERE WHAT IT READS IS OF BULK AT MOST 1048576: true; the input reads as it did. -/
def credModesUptoRow : OpenClaim := { program := "ytgacpabljdbhmaa", sum := "7807962931914a8f6bc433ded948916e0b6ed607d55734c9daf29d62e58b0816", func := "wicketgate/wicketgatelaw11.CredModes", spec := "credModes", unfollowed := true, recurses := true, apart := false, narrowed := true }
def CredModesUptoSaid : Prop := credModesUptoRow.holds Try.pinned (OpenSpec.upto credModesSpec)

/-- 'wicketgatelaw11.CredTells', WHERE WHAT IT READS IS OF BULK AT MOST 1048576: true; the input reads as it did. -/
def credTellsUptoRow : OpenClaim := { program := "ytgacpabljdbhmaa", sum := "7807962931914a8f6bc433ded948916e0b6ed607d55734c9daf29d62e58b0816", func := "wicketgate/wicketgatelaw11.CredTells", spec := "credTells", unfollowed := true, recurses := true, apart := false, narrowed := true }
def CredTellsUptoSaid : Prop := credTellsUptoRow.holds Try.pinned (OpenSpec.upto credTellsSpec)

/-- 'wicketgatelaw11.CredFalls', WHERE WHAT IT READS IS OF BULK AT MOST 1048576: true; the input reads as it did. -/
def credFallsUptoRow : OpenClaim := { program := "ytgacpabljdbhmaa", sum := "7807962931914a8f6bc433ded948916e0b6ed607d55734c9daf29d62e58b0816", func := "wicketgate/wicketgatelaw11.CredFalls", spec := "credFalls", unfollowed := true, recurses := true, apart := false, narrowed := true }
def CredFallsUptoSaid : Prop := credFallsUptoRow.holds Try.pinned (OpenSpec.upto credFallsSpec)

end Rows
end Go.Proofs.Ytgacpabljdbhmaa
