/-
  No cell of these rows narrows 'for every input' (looked for: loops, veiled, ifaces, maps, wideKeys, modest, calm, conditions, laid).
  DERIVED. THE GIVEN ROWS OF THIS SEAT. 11 by the template 'for every input the law returns true; each argument reads behind the call as it read before'; 0 by the template 'total and deterministic' (their statements: YtpejeeemefmafaaTotals.lean).
  GIVEN WITH THE SEED: the statements are not yours to turn. If you find one false, say at which input.
  Laid BY PROGRAM, IN A SANDBOX (cutbox-rows.mjs): the forced cells as the released guide's own fill.sh prints them over the translation cf3e82f9b0c37ac0… (all of the seat's roots in one cut). By AI agents, Wed Nov 11 2026. No macro, syntax, notation, axiom, sorry.
-/
import Derived.Test.YtpejeeemefmafaaChecked
import GoSem.Claim
import GoSem.ClaimJoined
import GoSem.ClaimMapViews
import Derived.JoinedTies
import Derived.KernelRfl
namespace Go.Proofs.Ytpejeeemefmafaa
/- THE CELL 'sum', in the pinned program and in every row, IS THE sha256 OF THE DUMP (.gsa) THAT YtpejeeemefmafaaProg.lean LOADS. Nothing in Lean hashes anything: it is a label: what it is worth is what the hold of that sum in a sandbox is worth. -/
noncomputable def Try.pinned : Pinned := { name := "ytpejeeemefmafaa", sum := "cf3e82f9b0c37ac030a396f6d6effb3de34e9755cb75b466c94905c5b6e81720", checked := Try.checked }
namespace Rows
def none {H : Type} : Left H := { results := [], args := [] }

/-- 'wicketgatelaw01.OctetSums': WHATEVER THE INPUT: true; the input reads as it did. -/
def octetSumsSpec : ChangeSpec := { name := "octetSums", fn := fun _ => fun
  | [d1, d2] => { results := [.lit (.bool true)], args := [d1, d2] }
  | _ => none }
def octetSumsRow : OpenClaim := { program := "ytpejeeemefmafaa", sum := "cf3e82f9b0c37ac030a396f6d6effb3de34e9755cb75b466c94905c5b6e81720", func := "wicketgate/wicketgatelaw01.OctetSums", spec := "octetSums", unfollowed := true, recurses := true, apart := false }
def OctetSumsSaid : Prop := octetSumsRow.holds Try.pinned (OpenSpec.ofChange octetSumsSpec)

/-- ITS FALSE NEIGHBOUR: 'it returns false'. Refute it at one input. -/
def octetSumsWrong : ChangeSpec := { name := "octetSums", fn := fun _ => fun
  | [d1, d2] => { results := [.lit (.bool false)], args := [d1, d2] }
  | _ => none }
def OctetSumsWrongFalsely : Prop := octetSumsRow.holds Try.pinned (OpenSpec.ofChange octetSumsWrong)

/-- 'wicketgatelaw01.OctetLast': WHATEVER THE INPUT: true; the input reads as it did. -/
def octetLastSpec : ChangeSpec := { name := "octetLast", fn := fun _ => fun
  | [d1, d2] => { results := [.lit (.bool true)], args := [d1, d2] }
  | _ => none }
def octetLastRow : OpenClaim := { program := "ytpejeeemefmafaa", sum := "cf3e82f9b0c37ac030a396f6d6effb3de34e9755cb75b466c94905c5b6e81720", func := "wicketgate/wicketgatelaw01.OctetLast", spec := "octetLast", unfollowed := true, recurses := true, apart := false }
def OctetLastSaid : Prop := octetLastRow.holds Try.pinned (OpenSpec.ofChange octetLastSpec)

/-- ITS FALSE NEIGHBOUR: 'it returns false'. Refute it at one input. -/
def octetLastWrong : ChangeSpec := { name := "octetLast", fn := fun _ => fun
  | [d1, d2] => { results := [.lit (.bool false)], args := [d1, d2] }
  | _ => none }
def OctetLastWrongFalsely : Prop := octetLastRow.holds Try.pinned (OpenSpec.ofChange octetLastWrong)

/-- 'wicketgatelaw01.OctetLies': WHATEVER THE INPUT: true; the input reads as it did. -/
def octetLiesSpec : ChangeSpec := { name := "octetLies", fn := fun _ => fun
  | [d1, d2] => { results := [.lit (.bool true)], args := [d1, d2] }
  | _ => none }
def octetLiesRow : OpenClaim := { program := "ytpejeeemefmafaa", sum := "cf3e82f9b0c37ac030a396f6d6effb3de34e9755cb75b466c94905c5b6e81720", func := "wicketgate/wicketgatelaw01.OctetLies", spec := "octetLies", unfollowed := true, recurses := true, apart := false }
def OctetLiesSaid : Prop := octetLiesRow.holds Try.pinned (OpenSpec.ofChange octetLiesSpec)

/-- ITS FALSE NEIGHBOUR: 'it returns false'. Refute it at one input. -/
def octetLiesWrong : ChangeSpec := { name := "octetLies", fn := fun _ => fun
  | [d1, d2] => { results := [.lit (.bool false)], args := [d1, d2] }
  | _ => none }
def OctetLiesWrongFalsely : Prop := octetLiesRow.holds Try.pinned (OpenSpec.ofChange octetLiesWrong)

/-- 'wicketgatelaw01.OctetFirst': WHATEVER THE INPUT: true; the input reads as it did. -/
def octetFirstSpec : ChangeSpec := { name := "octetFirst", fn := fun _ => fun
  | [d] => { results := [.lit (.bool true)], args := [d] }
  | _ => none }
def octetFirstRow : OpenClaim := { program := "ytpejeeemefmafaa", sum := "cf3e82f9b0c37ac030a396f6d6effb3de34e9755cb75b466c94905c5b6e81720", func := "wicketgate/wicketgatelaw01.OctetFirst", spec := "octetFirst", unfollowed := true, recurses := true, apart := false }
def OctetFirstSaid : Prop := octetFirstRow.holds Try.pinned (OpenSpec.ofChange octetFirstSpec)

/-- ITS FALSE NEIGHBOUR: 'it returns false'. Refute it at one input. -/
def octetFirstWrong : ChangeSpec := { name := "octetFirst", fn := fun _ => fun
  | [d] => { results := [.lit (.bool false)], args := [d] }
  | _ => none }
def OctetFirstWrongFalsely : Prop := octetFirstRow.holds Try.pinned (OpenSpec.ofChange octetFirstWrong)

/-- 'wicketgatelaw01.OctetLooks': WHATEVER THE INPUT: true; the input reads as it did. -/
def octetLooksSpec : ChangeSpec := { name := "octetLooks", fn := fun _ => fun
  | [d1, d2] => { results := [.lit (.bool true)], args := [d1, d2] }
  | _ => none }
def octetLooksRow : OpenClaim := { program := "ytpejeeemefmafaa", sum := "cf3e82f9b0c37ac030a396f6d6effb3de34e9755cb75b466c94905c5b6e81720", func := "wicketgate/wicketgatelaw01.OctetLooks", spec := "octetLooks", unfollowed := true, recurses := true, apart := false }
def OctetLooksSaid : Prop := octetLooksRow.holds Try.pinned (OpenSpec.ofChange octetLooksSpec)

/-- ITS FALSE NEIGHBOUR: 'it returns false'. Refute it at one input. -/
def octetLooksWrong : ChangeSpec := { name := "octetLooks", fn := fun _ => fun
  | [d1, d2] => { results := [.lit (.bool false)], args := [d1, d2] }
  | _ => none }
def OctetLooksWrongFalsely : Prop := octetLooksRow.holds Try.pinned (OpenSpec.ofChange octetLooksWrong)

/-- 'wicketgatelaw01.OctetAdds': WHATEVER THE INPUT: true; the input reads as it did. -/
def octetAddsSpec : ChangeSpec := { name := "octetAdds", fn := fun _ => fun
  | [d1, d2] => { results := [.lit (.bool true)], args := [d1, d2] }
  | _ => none }
def octetAddsRow : OpenClaim := { program := "ytpejeeemefmafaa", sum := "cf3e82f9b0c37ac030a396f6d6effb3de34e9755cb75b466c94905c5b6e81720", func := "wicketgate/wicketgatelaw01.OctetAdds", spec := "octetAdds", unfollowed := true, recurses := true, apart := false }
def OctetAddsSaid : Prop := octetAddsRow.holds Try.pinned (OpenSpec.ofChange octetAddsSpec)

/-- ITS FALSE NEIGHBOUR: 'it returns false'. Refute it at one input. -/
def octetAddsWrong : ChangeSpec := { name := "octetAdds", fn := fun _ => fun
  | [d1, d2] => { results := [.lit (.bool false)], args := [d1, d2] }
  | _ => none }
def OctetAddsWrongFalsely : Prop := octetAddsRow.holds Try.pinned (OpenSpec.ofChange octetAddsWrong)

/-- 'wicketgatelaw01.OctetMoves': WHATEVER THE INPUT: true; the input reads as it did. -/
def octetMovesSpec : ChangeSpec := { name := "octetMoves", fn := fun _ => fun
  | [d1, d2] => { results := [.lit (.bool true)], args := [d1, d2] }
  | _ => none }
def octetMovesRow : OpenClaim := { program := "ytpejeeemefmafaa", sum := "cf3e82f9b0c37ac030a396f6d6effb3de34e9755cb75b466c94905c5b6e81720", func := "wicketgate/wicketgatelaw01.OctetMoves", spec := "octetMoves", inPlace := ["internal/bytealg.Count", "internal/bytealg.IndexByte", "internal/bytealg.Index"], unfollowed := true, recurses := true, named := ["internal/bytealg.MaxLen"], apart := false }
def OctetMovesSaid : Prop := octetMovesRow.holds Try.pinned (OpenSpec.ofChange octetMovesSpec)

/-- ITS FALSE NEIGHBOUR: 'it returns false'. Refute it at one input. -/
def octetMovesWrong : ChangeSpec := { name := "octetMoves", fn := fun _ => fun
  | [d1, d2] => { results := [.lit (.bool false)], args := [d1, d2] }
  | _ => none }
def OctetMovesWrongFalsely : Prop := octetMovesRow.holds Try.pinned (OpenSpec.ofChange octetMovesWrong)

/-- 'wicketgatelaw03.DataBytes': WHATEVER THE INPUT: true; the input reads as it did. -/
def dataBytesSpec : ChangeSpec := { name := "dataBytes", fn := fun _ => fun
  | [d1, d2] => { results := [.lit (.bool true)], args := [d1, d2] }
  | _ => none }
def dataBytesRow : OpenClaim := { program := "ytpejeeemefmafaa", sum := "cf3e82f9b0c37ac030a396f6d6effb3de34e9755cb75b466c94905c5b6e81720", func := "wicketgate/wicketgatelaw03.DataBytes", spec := "dataBytes", unfollowed := true, recurses := true, apart := false }
def DataBytesSaid : Prop := dataBytesRow.holds Try.pinned (OpenSpec.ofChange dataBytesSpec)

/-- ITS FALSE NEIGHBOUR: 'it returns false'. Refute it at one input. -/
def dataBytesWrong : ChangeSpec := { name := "dataBytes", fn := fun _ => fun
  | [d1, d2] => { results := [.lit (.bool false)], args := [d1, d2] }
  | _ => none }
def DataBytesWrongFalsely : Prop := dataBytesRow.holds Try.pinned (OpenSpec.ofChange dataBytesWrong)

/-- 'wicketgatelaw03.DataBack': WHATEVER THE INPUT: true; the input reads as it did. -/
def dataBackSpec : ChangeSpec := { name := "dataBack", fn := fun _ => fun
  | [d1, d2] => { results := [.lit (.bool true)], args := [d1, d2] }
  | _ => none }
def dataBackRow : OpenClaim := { program := "ytpejeeemefmafaa", sum := "cf3e82f9b0c37ac030a396f6d6effb3de34e9755cb75b466c94905c5b6e81720", func := "wicketgate/wicketgatelaw03.DataBack", spec := "dataBack", unfollowed := true, recurses := true, apart := false }
def DataBackSaid : Prop := dataBackRow.holds Try.pinned (OpenSpec.ofChange dataBackSpec)

/-- ITS FALSE NEIGHBOUR: 'it returns false'. Refute it at one input. -/
def dataBackWrong : ChangeSpec := { name := "dataBack", fn := fun _ => fun
  | [d1, d2] => { results := [.lit (.bool false)], args := [d1, d2] }
  | _ => none }
def DataBackWrongFalsely : Prop := dataBackRow.holds Try.pinned (OpenSpec.ofChange dataBackWrong)

/-- 'wicketgatelaw03.DataWords': WHATEVER THE INPUT: true; the input reads as it did. -/
def dataWordsSpec : ChangeSpec := { name := "dataWords", fn := fun _ => fun
  | [d1, d2, d3] => { results := [.lit (.bool true)], args := [d1, d2, d3] }
  | _ => none }
def dataWordsRow : OpenClaim := { program := "ytpejeeemefmafaa", sum := "cf3e82f9b0c37ac030a396f6d6effb3de34e9755cb75b466c94905c5b6e81720", func := "wicketgate/wicketgatelaw03.DataWords", spec := "dataWords", unfollowed := true, recurses := true, apart := false }
def DataWordsSaid : Prop := dataWordsRow.holds Try.pinned (OpenSpec.ofChange dataWordsSpec)

/-- ITS FALSE NEIGHBOUR: 'it returns false'. Refute it at one input. -/
def dataWordsWrong : ChangeSpec := { name := "dataWords", fn := fun _ => fun
  | [d1, d2, d3] => { results := [.lit (.bool false)], args := [d1, d2, d3] }
  | _ => none }
def DataWordsWrongFalsely : Prop := dataWordsRow.holds Try.pinned (OpenSpec.ofChange dataWordsWrong)

/-- 'wicketgatelaw03.DataOnce': WHATEVER THE INPUT: true; the input reads as it did. -/
def dataOnceSpec : ChangeSpec := { name := "dataOnce", fn := fun _ => fun
  | [d1, d2, d3] => { results := [.lit (.bool true)], args := [d1, d2, d3] }
  | _ => none }
def dataOnceRow : OpenClaim := { program := "ytpejeeemefmafaa", sum := "cf3e82f9b0c37ac030a396f6d6effb3de34e9755cb75b466c94905c5b6e81720", func := "wicketgate/wicketgatelaw03.DataOnce", spec := "dataOnce", unfollowed := true, recurses := true, apart := false }
def DataOnceSaid : Prop := dataOnceRow.holds Try.pinned (OpenSpec.ofChange dataOnceSpec)

/-- ITS FALSE NEIGHBOUR: 'it returns false'. Refute it at one input. -/
def dataOnceWrong : ChangeSpec := { name := "dataOnce", fn := fun _ => fun
  | [d1, d2, d3] => { results := [.lit (.bool false)], args := [d1, d2, d3] }
  | _ => none }
def DataOnceWrongFalsely : Prop := dataOnceRow.holds Try.pinned (OpenSpec.ofChange dataOnceWrong)

/- THE SECOND FORM. 'bulk': how many values and letters a reading holds, each counted each time it is reached (what is shared counts as often as it is met; a slice's spare places count too). A statement '..UptoSaid' is the law's where the arguments, and the package variables that the reading takes, are together of bulk at most 1048576: NARROWER than '..Said'. Prove '..Said' where nothing that the law and all that it calls make is longer than what came in: it says more and counts as full. Else prove '..UptoSaid'. A law counts once. -/
mutual
def uptoBulk {H : Type} : DataW H → Nat
  | .lit (.string bytes) => bytes.length + 1
  | .lit _ => 1
  | .nil => 1
  | .ptr d => uptoBulk d + 1
  | .slice elems spare => uptoBulkAll elems + uptoBulkAll spare + 1
  | .agg parts => uptoBulkAll parts + 1
  | .iface _ d => uptoBulk d + 1
  | .map entries => uptoBulkEntries entries + 1
  | .held _ => 1
def uptoBulkAll {H : Type} : List (DataW H) → Nat
  | [] => 0
  | d :: r => uptoBulk d + uptoBulkAll r
def uptoBulkEntries {H : Type} : List (Lit × DataW H) → Nat
  | [] => 0
  | x :: r => uptoBulkEntry x + uptoBulkEntries r
def uptoBulkEntry {H : Type} : Lit × DataW H → Nat
  | (.string bytes, d) => bytes.length + uptoBulk d + 1
  | (_, d) => uptoBulk d + 1
 end
def uptoSmall : (H : Type) → List (DataW H) → Bool := fun _ ds => decide (uptoBulkAll ds ≤ 1048576)
def OpenSpec.upto (s : _root_.Go.ChangeSpec) : _root_.Go.OpenSpec := { _root_.Go.OpenSpec.ofChange s with cond := some uptoSmall }

/-- 'wicketgatelaw01.OctetSums', WHERE WHAT IT READS IS OF BULK AT MOST 1048576: true; the input reads as it did. -/
def octetSumsUptoRow : OpenClaim := { program := "ytpejeeemefmafaa", sum := "cf3e82f9b0c37ac030a396f6d6effb3de34e9755cb75b466c94905c5b6e81720", func := "wicketgate/wicketgatelaw01.OctetSums", spec := "octetSums", unfollowed := true, recurses := true, apart := false, narrowed := true }
def OctetSumsUptoSaid : Prop := octetSumsUptoRow.holds Try.pinned (OpenSpec.upto octetSumsSpec)

/-- 'wicketgatelaw01.OctetLast', WHERE WHAT IT READS IS OF BULK AT MOST 1048576: true; the input reads as it did. -/
def octetLastUptoRow : OpenClaim := { program := "ytpejeeemefmafaa", sum := "cf3e82f9b0c37ac030a396f6d6effb3de34e9755cb75b466c94905c5b6e81720", func := "wicketgate/wicketgatelaw01.OctetLast", spec := "octetLast", unfollowed := true, recurses := true, apart := false, narrowed := true }
def OctetLastUptoSaid : Prop := octetLastUptoRow.holds Try.pinned (OpenSpec.upto octetLastSpec)

/-- 'wicketgatelaw01.OctetLies', WHERE WHAT IT READS IS OF BULK AT MOST 1048576: true; the input reads as it did. -/
def octetLiesUptoRow : OpenClaim := { program := "ytpejeeemefmafaa", sum := "cf3e82f9b0c37ac030a396f6d6effb3de34e9755cb75b466c94905c5b6e81720", func := "wicketgate/wicketgatelaw01.OctetLies", spec := "octetLies", unfollowed := true, recurses := true, apart := false, narrowed := true }
def OctetLiesUptoSaid : Prop := octetLiesUptoRow.holds Try.pinned (OpenSpec.upto octetLiesSpec)

/-- 'wicketgatelaw01.OctetFirst', WHERE WHAT IT READS IS OF BULK AT MOST 1048576: true; the input reads as it did. -/
def octetFirstUptoRow : OpenClaim := { program := "ytpejeeemefmafaa", sum := "cf3e82f9b0c37ac030a396f6d6effb3de34e9755cb75b466c94905c5b6e81720", func := "wicketgate/wicketgatelaw01.OctetFirst", spec := "octetFirst", unfollowed := true, recurses := true, apart := false, narrowed := true }
def OctetFirstUptoSaid : Prop := octetFirstUptoRow.holds Try.pinned (OpenSpec.upto octetFirstSpec)

/-- 'wicketgatelaw01.OctetLooks', WHERE WHAT IT READS IS OF BULK AT MOST 1048576: true; the input reads as it did. -/
def octetLooksUptoRow : OpenClaim := { program := "ytpejeeemefmafaa", sum := "cf3e82f9b0c37ac030a396f6d6effb3de34e9755cb75b466c94905c5b6e81720", func := "wicketgate/wicketgatelaw01.OctetLooks", spec := "octetLooks", unfollowed := true, recurses := true, apart := false, narrowed := true }
def OctetLooksUptoSaid : Prop := octetLooksUptoRow.holds Try.pinned (OpenSpec.upto octetLooksSpec)

/-- 'wicketgatelaw01.OctetAdds', WHERE WHAT IT READS IS OF BULK AT MOST 1048576: true; the input reads as it did. -/
def octetAddsUptoRow : OpenClaim := { program := "ytpejeeemefmafaa", sum := "cf3e82f9b0c37ac030a396f6d6effb3de34e9755cb75b466c94905c5b6e81720", func := "wicketgate/wicketgatelaw01.OctetAdds", spec := "octetAdds", unfollowed := true, recurses := true, apart := false, narrowed := true }
def OctetAddsUptoSaid : Prop := octetAddsUptoRow.holds Try.pinned (OpenSpec.upto octetAddsSpec)

/-- 'wicketgatelaw01.OctetMoves', WHERE WHAT IT READS IS OF BULK AT MOST 1048576: true; the input reads as it did. -/
def octetMovesUptoRow : OpenClaim := { program := "ytpejeeemefmafaa", sum := "cf3e82f9b0c37ac030a396f6d6effb3de34e9755cb75b466c94905c5b6e81720", func := "wicketgate/wicketgatelaw01.OctetMoves", spec := "octetMoves", inPlace := ["internal/bytealg.Count", "internal/bytealg.IndexByte", "internal/bytealg.Index"], unfollowed := true, recurses := true, named := ["internal/bytealg.MaxLen"], apart := false, narrowed := true }
def OctetMovesUptoSaid : Prop := octetMovesUptoRow.holds Try.pinned (OpenSpec.upto octetMovesSpec)

/-- 'wicketgatelaw03.DataBytes', WHERE WHAT IT READS IS OF BULK AT MOST 1048576: true; the input reads as it did. -/
def dataBytesUptoRow : OpenClaim := { program := "ytpejeeemefmafaa", sum := "cf3e82f9b0c37ac030a396f6d6effb3de34e9755cb75b466c94905c5b6e81720", func := "wicketgate/wicketgatelaw03.DataBytes", spec := "dataBytes", unfollowed := true, recurses := true, apart := false, narrowed := true }
def DataBytesUptoSaid : Prop := dataBytesUptoRow.holds Try.pinned (OpenSpec.upto dataBytesSpec)

/-- 'wicketgatelaw03.DataBack', WHERE WHAT IT READS IS OF BULK AT MOST 1048576: true; the input reads as it did. -/
def dataBackUptoRow : OpenClaim := { program := "ytpejeeemefmafaa", sum := "cf3e82f9b0c37ac030a396f6d6effb3de34e9755cb75b466c94905c5b6e81720", func := "wicketgate/wicketgatelaw03.DataBack", spec := "dataBack", unfollowed := true, recurses := true, apart := false, narrowed := true }
def DataBackUptoSaid : Prop := dataBackUptoRow.holds Try.pinned (OpenSpec.upto dataBackSpec)

/-- 'wicketgatelaw03.DataWords', WHERE WHAT IT READS IS OF BULK AT MOST 1048576: true; the input reads as it did. -/
def dataWordsUptoRow : OpenClaim := { program := "ytpejeeemefmafaa", sum := "cf3e82f9b0c37ac030a396f6d6effb3de34e9755cb75b466c94905c5b6e81720", func := "wicketgate/wicketgatelaw03.DataWords", spec := "dataWords", unfollowed := true, recurses := true, apart := false, narrowed := true }
def DataWordsUptoSaid : Prop := dataWordsUptoRow.holds Try.pinned (OpenSpec.upto dataWordsSpec)

/-- 'wicketgatelaw03.DataOnce', WHERE WHAT IT READS IS OF BULK AT MOST 1048576: true; the input reads as it did. -/
def dataOnceUptoRow : OpenClaim := { program := "ytpejeeemefmafaa", sum := "cf3e82f9b0c37ac030a396f6d6effb3de34e9755cb75b466c94905c5b6e81720", func := "wicketgate/wicketgatelaw03.DataOnce", spec := "dataOnce", unfollowed := true, recurses := true, apart := false, narrowed := true }
def DataOnceUptoSaid : Prop := dataOnceUptoRow.holds Try.pinned (OpenSpec.upto dataOnceSpec)

end Rows
end Go.Proofs.Ytpejeeemefmafaa
