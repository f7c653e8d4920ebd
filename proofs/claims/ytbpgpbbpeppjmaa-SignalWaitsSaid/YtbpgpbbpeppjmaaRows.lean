/-
  No cell of these rows narrows 'for every input' (looked for: loops, veiled, ifaces, maps, wideKeys, modest, calm, conditions, laid).
  DERIVED. THE GIVEN ROWS OF THIS SEAT. 3 by the template 'for every input the law returns true; each argument reads behind the call as it read before'; 0 by the template 'total and deterministic' (their statements: YtbpgpbbpeppjmaaTotals.lean).
  GIVEN WITH THE SEED: the statements are not yours to turn. If you find one false, say at which input.
  Laid BY PROGRAM, IN A SANDBOX (cutbox-rows.mjs): the forced cells as the released guide's own fill.sh prints them over the translation b88a4285872b1b00… (all of the seat's roots in one cut). By AI agents, Wed Nov 11 2026. No macro, syntax, notation, axiom, sorry.
-/
import Derived.Test.YtbpgpbbpeppjmaaChecked
import GoSem.Claim
import GoSem.ClaimJoined
import GoSem.ClaimMapViews
import Derived.JoinedTies
import Derived.KernelRfl
namespace Go.Proofs.Ytbpgpbbpeppjmaa
/- THE CELL 'sum', in the pinned program and in every row, IS THE sha256 OF THE DUMP (.gsa) THAT YtbpgpbbpeppjmaaProg.lean LOADS. Nothing in Lean hashes anything: it is a label: what it is worth is what the hold of that sum in a sandbox is worth. -/
noncomputable def Try.pinned : Pinned := { name := "ytbpgpbbpeppjmaa", sum := "b88a4285872b1b001db2104b274a62050ebee793612d678893670480869b83e8", checked := Try.checked }
namespace Rows
def none {H : Type} : Left H := { results := [], args := [] }

/-- 'wicketgatelaw26.SignalWaits': WHATEVER THE INPUT: true; the input reads as it did. -/
def signalWaitsSpec : ChangeSpec := { name := "signalWaits", fn := fun _ => fun
  | [d1, d2, d3] => { results := [.lit (.bool true)], args := [d1, d2, d3] }
  | _ => none }
def signalWaitsRow : OpenClaim := { program := "ytbpgpbbpeppjmaa", sum := "b88a4285872b1b001db2104b274a62050ebee793612d678893670480869b83e8", func := "wicketgate/wicketgatelaw26.SignalWaits", spec := "signalWaits", unfollowed := true, recurses := true, apart := false }
def SignalWaitsSaid : Prop := signalWaitsRow.holds Try.pinned (OpenSpec.ofChange signalWaitsSpec)

/-- ITS FALSE NEIGHBOUR: 'it returns false'. Refute it at one input. -/
def signalWaitsWrong : ChangeSpec := { name := "signalWaits", fn := fun _ => fun
  | [d1, d2, d3] => { results := [.lit (.bool false)], args := [d1, d2, d3] }
  | _ => none }
def SignalWaitsWrongFalsely : Prop := signalWaitsRow.holds Try.pinned (OpenSpec.ofChange signalWaitsWrong)

/-- 'wicketgatelaw26.SignalNests': WHATEVER THE INPUT: true; the input reads as it did. -/
def signalNestsSpec : ChangeSpec := { name := "signalNests", fn := fun _ => fun
  | [d1, d2] => { results := [.lit (.bool true)], args := [d1, d2] }
  | _ => none }
def signalNestsRow : OpenClaim := { program := "ytbpgpbbpeppjmaa", sum := "b88a4285872b1b001db2104b274a62050ebee793612d678893670480869b83e8", func := "wicketgate/wicketgatelaw26.SignalNests", spec := "signalNests", unfollowed := true, recurses := true, apart := false }
def SignalNestsSaid : Prop := signalNestsRow.holds Try.pinned (OpenSpec.ofChange signalNestsSpec)

/-- ITS FALSE NEIGHBOUR: 'it returns false'. Refute it at one input. -/
def signalNestsWrong : ChangeSpec := { name := "signalNests", fn := fun _ => fun
  | [d1, d2] => { results := [.lit (.bool false)], args := [d1, d2] }
  | _ => none }
def SignalNestsWrongFalsely : Prop := signalNestsRow.holds Try.pinned (OpenSpec.ofChange signalNestsWrong)

/-- 'wicketgatelaw26.SignalForces': WHATEVER THE INPUT: true; the input reads as it did. -/
def signalForcesSpec : ChangeSpec := { name := "signalForces", fn := fun _ => fun
  | [d1, d2, d3] => { results := [.lit (.bool true)], args := [d1, d2, d3] }
  | _ => none }
def signalForcesRow : OpenClaim := { program := "ytbpgpbbpeppjmaa", sum := "b88a4285872b1b001db2104b274a62050ebee793612d678893670480869b83e8", func := "wicketgate/wicketgatelaw26.SignalForces", spec := "signalForces", unfollowed := true, recurses := true, apart := false }
def SignalForcesSaid : Prop := signalForcesRow.holds Try.pinned (OpenSpec.ofChange signalForcesSpec)

/-- ITS FALSE NEIGHBOUR: 'it returns false'. Refute it at one input. -/
def signalForcesWrong : ChangeSpec := { name := "signalForces", fn := fun _ => fun
  | [d1, d2, d3] => { results := [.lit (.bool false)], args := [d1, d2, d3] }
  | _ => none }
def SignalForcesWrongFalsely : Prop := signalForcesRow.holds Try.pinned (OpenSpec.ofChange signalForcesWrong)

/- THE SECOND FORM. 'bulk': how many values and letters a reading holds, each counted each time it is reached (what is shared counts as often as it is met; a slice's spare places count too). A statement '..UptoSaid' is the law's where the arguments, and the package variables that the reading takes, are together of bulk at most 1048576: NARROWER than '..Said'. Prove '..Said' where nothing that the law and all that it calls make is longer than what came in: it says more and counts as full. Else prove '..UptoSaid'. A law counts once. -/
mutual
def uptoBulk {H : Type} : DataW H → Nat
  | .lit (.string bytes) => bytes.length + 1
  | .lit _ => 1
  | .nil => 1
  | .ptr d => uptoBulk d + 1
  | .slice elems spare => uptoBulkAll elems + uptoBulkAll spare + 1
  | .agg parts => uptoBulkAll parts + 1
  | .iface _ d => uptoBulk d + 1
  | .map entries => uptoBulkEntries entries + 1
  | .held _ => 1
def uptoBulkAll {H : Type} : List (DataW H) → Nat
  | [] => 0
  | d :: r => uptoBulk d + uptoBulkAll r
def uptoBulkEntries {H : Type} : List (Lit × DataW H) → Nat
  | [] => 0
  | x :: r => uptoBulkEntry x + uptoBulkEntries r
def uptoBulkEntry {H : Type} : Lit × DataW H → Nat
  | (.string bytes, d) => bytes.length + uptoBulk d + 1
  | (_, d) => uptoBulk d + 1
 end
def uptoSmall : (H : Type) → List (DataW H) → Bool := fun _ ds => decide (uptoBulkAll ds ≤ 1048576)
def OpenSpec.upto (s : _root_.Go.ChangeSpec) : _root_.Go.OpenSpec := { _root_.Go.OpenSpec.ofChange s with cond := some uptoSmall }

/-- 'wicketgatelaw26.SignalWaits', WHERE WHAT IT READS IS OF BULK AT MOST 1048576: true; the input reads as it did. -/
def signalWaitsUptoRow : OpenClaim := { program := "ytbpgpbbpeppjmaa", sum := "b88a4285872b1b001db2104b274a62050ebee793612d678893670480869b83e8", func := "wicketgate/wicketgatelaw26.SignalWaits", spec := "signalWaits", unfollowed := true, recurses := true, apart := false, narrowed := true }
def SignalWaitsUptoSaid : Prop := signalWaitsUptoRow.holds Try.pinned (OpenSpec.upto signalWaitsSpec)

/-- 'wicketgatelaw26.SignalNests', WHERE WHAT IT READS IS OF BULK AT MOST 1048576: true; the input reads as it did. -/
def signalNestsUptoRow : OpenClaim := { program := "ytbpgpbbpeppjmaa", sum := "b88a4285872b1b001db2104b274a62050ebee793612d678893670480869b83e8", func := "wicketgate/wicketgatelaw26.SignalNests", spec := "signalNests", unfollowed := true, recurses := true, apart := false, narrowed := true }
def SignalNestsUptoSaid : Prop := signalNestsUptoRow.holds Try.pinned (OpenSpec.upto signalNestsSpec)

/-- 'wicketgatelaw26.SignalForces', WHERE WHAT IT READS IS OF BULK AT MOST 1048576: true; the input reads as it did. -/
def signalForcesUptoRow : OpenClaim := { program := "ytbpgpbbpeppjmaa", sum := "b88a4285872b1b001db2104b274a62050ebee793612d678893670480869b83e8", func := "wicketgate/wicketgatelaw26.SignalForces", spec := "signalForces", unfollowed := true, recurses := true, apart := false, narrowed := true }
def SignalForcesUptoSaid : Prop := signalForcesUptoRow.holds Try.pinned (OpenSpec.upto signalForcesSpec)

end Rows
end Go.Proofs.Ytbpgpbbpeppjmaa
