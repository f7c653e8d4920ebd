import Derived.Test.YtcpabgijmknldaaDoorUD
namespace Go.Proofs.YtcpabgijmknldaaDoor.RG
open Go.RowKit Go.Shelf Go.Proofs.YtcpabgijmknldaaDoorW.PrintWords Go.Proofs.YtcpabgijmknldaaDoorW.PrintLast Go.Proofs.YtcpabgijmknldaaDoorW.PrintMore
open Go.Proofs.YtcpabgijmknldaaDoor.PS (S29 S31 k29 k31 Rok Wide Dat)
set_option linter.unusedVariables false
theorem tells_w (a0 a1 : Int) (A0 : Option Addr) (c0 : Nat) (l0 : List S31) (b0 b1 : Int) (A1 : Option Addr) (c1 : Nat) (l1 : List S31) (rm : Int) (hd : Dat l0) (h0 : -9223372036854775808 ≤ a0 ∧ a0 ≤ 9223372036854775807) (h1 : 0 ≤ a1 ∧ a1 ≤ 18446744073709551615) (hc0 : l0.length ≤ c0) (hc1 : l1.length ≤ c1) (w : World) (hr : Kd.C k31 w A0 l0.length l0) (ho : Kd.C k31 w A1 l1.length l1) (hT : Go.Proofs.YtcpabgijmknldaaDoor.PE.L.Tab w) :
    Calls Tryd.prog 6 #[.agg #[.int .i64 a0, .int .u64 a1, .slice A0 l0.length c0], .agg #[.int .i64 b0, .int .u64 b1, .slice A1 l1.length c1], .int .i64 rm] w fun e w' => e = .returned (.bool true) ∧ Below w.heap.size w w' := by
  by_cases hl : 200 < l0.length ∨ 200 < l1.length
  · exact tells_long a0 a1 A0 c0 l0 b0 b1 A1 c1 l1 rm hl w hr ho hT
  · have hl2 : l0.length ≤ 200 ∧ l1.length ≤ 200 := by omega
    have hW : Wide a0 a1 l0 := ⟨hd, h0, h1, by omega⟩
    by_cases hR : Rok a0 a1 l0
    · exact tells_ok a0 a1 A0 c0 l0 b0 b1 A1 c1 l1 rm hl2 hc0 hc1 hW hR w hr ho hT
    · exact tells_no a0 a1 A0 c0 l0 b0 b1 A1 c1 l1 rm hl2 hc0 hc1 hW hR w hr ho hT
end Go.Proofs.YtcpabgijmknldaaDoor.RG
