/-
  No cell of these rows narrows 'for every input' (looked for: loops, veiled, ifaces, maps, wideKeys, modest, calm, conditions, laid).
  DERIVED. THE GIVEN ROWS OF THIS SEAT. 4 by the template 'for every input the law returns true; each argument reads behind the call as it read before'; 0 by the template 'total and deterministic' (their statements: YtclkphiabgajpaaTotals.lean).
  GIVEN WITH THE SEED: the statements are not yours to turn. If you find one false, say at which input.
  Laid BY PROGRAM, IN A SANDBOX (cutbox-rows.mjs): the forced cells as the released guide's own fill.sh prints them over the translation ce0e452edf86302b… (all of the seat's roots in one cut). By AI agents, Wed Nov 11 2026. No macro, syntax, notation, axiom, sorry.
-/
import Derived.Test.YtclkphiabgajpaaChecked
import GoSem.Claim
import GoSem.ClaimJoined
import GoSem.ClaimMapViews
import Derived.JoinedTies
import Derived.KernelRfl
namespace Go.Proofs.Ytclkphiabgajpaa
/- THE CELL 'sum', in the pinned program and in every row, IS THE sha256 OF THE DUMP (.gsa) THAT YtclkphiabgajpaaProg.lean LOADS. Nothing in Lean hashes anything: it is a label: what it is worth is what the hold of that sum in a sandbox is worth. -/
noncomputable def Try.pinned : Pinned := { name := "ytclkphiabgajpaa", sum := "ce0e452edf86302b1bc28cacbb7dbbafeaa3a0e2070576bc400283e03f73029c", checked := Try.checked }
namespace Rows
def none {H : Type} : Left H := { results := [], args := [] }

/-- 'wicketgatelaw10.PidsDoes': WHATEVER THE INPUT: true; the input reads as it did. -/
def pidsDoesSpec : ChangeSpec := { name := "pidsDoes", fn := fun _ => fun
  | [d1, d2] => { results := [.lit (.bool true)], args := [d1, d2] }
  | _ => none }
def pidsDoesRow : OpenClaim := { program := "ytclkphiabgajpaa", sum := "ce0e452edf86302b1bc28cacbb7dbbafeaa3a0e2070576bc400283e03f73029c", func := "wicketgate/wicketgatelaw10.PidsDoes", spec := "pidsDoes", inPlace := ["slices.overlaps[int]"], unfollowed := true, recurses := true, apart := false }
def PidsDoesSaid : Prop := pidsDoesRow.holds Try.pinned (OpenSpec.ofChange pidsDoesSpec)

/-- ITS FALSE NEIGHBOUR: 'it returns false'. Refute it at one input. -/
def pidsDoesWrong : ChangeSpec := { name := "pidsDoes", fn := fun _ => fun
  | [d1, d2] => { results := [.lit (.bool false)], args := [d1, d2] }
  | _ => none }
def PidsDoesWrongFalsely : Prop := pidsDoesRow.holds Try.pinned (OpenSpec.ofChange pidsDoesWrong)

/-- 'wicketgatelaw10.PidsCounts': WHATEVER THE INPUT: true; the input reads as it did. -/
def pidsCountsSpec : ChangeSpec := { name := "pidsCounts", fn := fun _ => fun
  | [d1, d2] => { results := [.lit (.bool true)], args := [d1, d2] }
  | _ => none }
def pidsCountsRow : OpenClaim := { program := "ytclkphiabgajpaa", sum := "ce0e452edf86302b1bc28cacbb7dbbafeaa3a0e2070576bc400283e03f73029c", func := "wicketgate/wicketgatelaw10.PidsCounts", spec := "pidsCounts", inPlace := ["slices.overlaps[int]"], unfollowed := true, recurses := true, apart := false }
def PidsCountsSaid : Prop := pidsCountsRow.holds Try.pinned (OpenSpec.ofChange pidsCountsSpec)

/-- ITS FALSE NEIGHBOUR: 'it returns false'. Refute it at one input. -/
def pidsCountsWrong : ChangeSpec := { name := "pidsCounts", fn := fun _ => fun
  | [d1, d2] => { results := [.lit (.bool false)], args := [d1, d2] }
  | _ => none }
def PidsCountsWrongFalsely : Prop := pidsCountsRow.holds Try.pinned (OpenSpec.ofChange pidsCountsWrong)

/-- 'wicketgatelaw10.PidsLate': WHATEVER THE INPUT: true; the input reads as it did. -/
def pidsLateSpec : ChangeSpec := { name := "pidsLate", fn := fun _ => fun
  | [d] => { results := [.lit (.bool true)], args := [d] }
  | _ => none }
def pidsLateRow : OpenClaim := { program := "ytclkphiabgajpaa", sum := "ce0e452edf86302b1bc28cacbb7dbbafeaa3a0e2070576bc400283e03f73029c", func := "wicketgate/wicketgatelaw10.PidsLate", spec := "pidsLate", inPlace := ["slices.overlaps[int]"], unfollowed := true, recurses := true, apart := false }
def PidsLateSaid : Prop := pidsLateRow.holds Try.pinned (OpenSpec.ofChange pidsLateSpec)

/-- ITS FALSE NEIGHBOUR: 'it returns false'. Refute it at one input. -/
def pidsLateWrong : ChangeSpec := { name := "pidsLate", fn := fun _ => fun
  | [d] => { results := [.lit (.bool false)], args := [d] }
  | _ => none }
def PidsLateWrongFalsely : Prop := pidsLateRow.holds Try.pinned (OpenSpec.ofChange pidsLateWrong)

/-- 'wicketgatelaw10.PidsTells': WHATEVER THE INPUT: true; the input reads as it did. -/
def pidsTellsSpec : ChangeSpec := { name := "pidsTells", fn := fun _ => fun
  | [d1, d2] => { results := [.lit (.bool true)], args := [d1, d2] }
  | _ => none }
def pidsTellsRow : OpenClaim := { program := "ytclkphiabgajpaa", sum := "ce0e452edf86302b1bc28cacbb7dbbafeaa3a0e2070576bc400283e03f73029c", func := "wicketgate/wicketgatelaw10.PidsTells", spec := "pidsTells", inPlace := ["slices.overlaps[int]"], unfollowed := true, recurses := true, apart := false }
def PidsTellsSaid : Prop := pidsTellsRow.holds Try.pinned (OpenSpec.ofChange pidsTellsSpec)

/-- ITS FALSE NEIGHBOUR: 'it returns false'. Refute it at one input. -/
def pidsTellsWrong : ChangeSpec := { name := "pidsTells", fn := fun _ => fun
  | [d1, d2] => { results := [.lit (.bool false)], args := [d1, d2] }
  | _ => none }
def PidsTellsWrongFalsely : Prop := pidsTellsRow.holds Try.pinned (OpenSpec.ofChange pidsTellsWrong)

/- THE SECOND FORM. 'bulk': how many values and letters a reading holds, each counted each time it is reached (what is shared counts as often as it is met; a slice's spare places count too). A statement '..UptoSaid' is the law's where the arguments, and the package variables that the reading takes, are together of bulk at most 1048576: NARROWER than '..Said'. Prove '..Said' where nothing that the law and all that it calls make is longer than what came in: it says more and counts as full. Else prove '..UptoSaid'. A law counts once. -/
mutual
def uptoBulk {H : Type} : DataW H → Nat
  | .lit (.string bytes) => bytes.length + 1
  | .lit _ => 1
  | .nil => 1
  | .ptr d => uptoBulk d + 1
  | .slice elems spare => uptoBulkAll elems + uptoBulkAll spare + 1
  | .agg parts => uptoBulkAll parts + 1
  | .iface _ d => uptoBulk d + 1
  | .map entries => uptoBulkEntries entries + 1
  | .held _ => 1
def uptoBulkAll {H : Type} : List (DataW H) → Nat
  | [] => 0
  | d :: r => uptoBulk d + uptoBulkAll r
def uptoBulkEntries {H : Type} : List (Lit × DataW H) → Nat
  | [] => 0
  | x :: r => uptoBulkEntry x + uptoBulkEntries r
def uptoBulkEntry {H : Type} : Lit × DataW H → Nat
  | (.string bytes, d) => bytes.length + uptoBulk d + 1
  | (_, d) => uptoBulk d + 1
 end
def uptoSmall : (H : Type) → List (DataW H) → Bool := fun _ ds => decide (uptoBulkAll ds ≤ 1048576)
def OpenSpec.upto (s : _root_.Go.ChangeSpec) : _root_.Go.OpenSpec := { _root_.Go.OpenSpec.ofChange s with cond := some uptoSmall }

/-- 'wicketgatelaw10.PidsDoes', WHERE WHAT IT READS IS OF BULK AT MOST 1048576: true; the input reads as it did. -/
def pidsDoesUptoRow : OpenClaim := { program := "ytclkphiabgajpaa", sum := "ce0e452edf86302b1bc28cacbb7dbbafeaa3a0e2070576bc400283e03f73029c", func := "wicketgate/wicketgatelaw10.PidsDoes", spec := "pidsDoes", inPlace := ["slices.overlaps[int]"], unfollowed := true, recurses := true, apart := false, narrowed := true }
def PidsDoesUptoSaid : Prop := pidsDoesUptoRow.holds Try.pinned (OpenSpec.upto pidsDoesSpec)

/-- 'wicketgatelaw10.PidsCounts', WHERE WHAT IT READS IS OF BULK AT MOST 1048576: true; the input reads as it did. -/
def pidsCountsUptoRow : OpenClaim := { program := "ytclkphiabgajpaa", sum := "ce0e452edf86302b1bc28cacbb7dbbafeaa3a0e2070576bc400283e03f73029c", func := "wicketgate/wicketgatelaw10.PidsCounts", spec := "pidsCounts", inPlace := ["slices.overlaps[int]"], unfollowed := true, recurses := true, apart := false, narrowed := true }
def PidsCountsUptoSaid : Prop := pidsCountsUptoRow.holds Try.pinned (OpenSpec.upto pidsCountsSpec)

/-- 'wicketgatelaw10.PidsLate', WHERE WHAT IT READS IS OF BULK AT MOST 1048576: true; the input reads as it did. -/
def pidsLateUptoRow : OpenClaim := { program := "ytclkphiabgajpaa", sum := "ce0e452edf86302b1bc28cacbb7dbbafeaa3a0e2070576bc400283e03f73029c", func := "wicketgate/wicketgatelaw10.PidsLate", spec := "pidsLate", inPlace := ["slices.overlaps[int]"], unfollowed := true, recurses := true, apart := false, narrowed := true }
def PidsLateUptoSaid : Prop := pidsLateUptoRow.holds Try.pinned (OpenSpec.upto pidsLateSpec)

/-- 'wicketgatelaw10.PidsTells', WHERE WHAT IT READS IS OF BULK AT MOST 1048576: true; the input reads as it did. -/
def pidsTellsUptoRow : OpenClaim := { program := "ytclkphiabgajpaa", sum := "ce0e452edf86302b1bc28cacbb7dbbafeaa3a0e2070576bc400283e03f73029c", func := "wicketgate/wicketgatelaw10.PidsTells", spec := "pidsTells", inPlace := ["slices.overlaps[int]"], unfollowed := true, recurses := true, apart := false, narrowed := true }
def PidsTellsUptoSaid : Prop := pidsTellsUptoRow.holds Try.pinned (OpenSpec.upto pidsTellsSpec)

end Rows
end Go.Proofs.Ytclkphiabgajpaa
