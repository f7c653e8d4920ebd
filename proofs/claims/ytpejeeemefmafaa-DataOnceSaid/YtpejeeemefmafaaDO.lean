import Derived.Test.YtpejeeemefmafaaDNb
namespace Go.Proofs.Ytpejeeemefmafaa.RD
open Go.RowKit Go.Proofs.YtpejeeemefmafaaW.PrintWords Go.Proofs.YtpejeeemefmafaaW.PrintLast Go.Proofs.YtpejeeemefmafaaW.PrintMore
open Go.Proofs.Ytpejeeemefmafaa.PE.L (below_drewN' below_drew')
open PH
set_option linter.unusedVariables false
set_option linter.unusedSimpArgs false
theorem once_law (a : Dt) (oka : a.Ok) (b : Dt) (okb : b.Ok) (off : Int) (ho : u32R off) (x : Int) (hx : u32R x) (w : World) : Calls Try.prog 13 #[.agg #[.int .u32 a.nr, .int .u32 a.ar, .int .u64 a.ip, .int .u64 a.a0, .int .u64 a.a1, .int .u64 a.a2, .int .u64 a.a3, .int .u64 a.a4, .int .u64 a.a5], .agg #[.int .u32 b.nr, .int .u32 b.ar, .int .u64 b.ip, .int .u64 b.a0, .int .u64 b.a1, .int .u64 b.a2, .int .u64 b.a3, .int .u64 b.a4, .int .u64 b.a5], .agg #[.int .u32 off, .int .u32 x]] w fun e w' => e = .returned (.bool true) ∧ Below w.heap.size w w' := by
  by_cases hg : off % 4 = 0 ∧ off ≤ 60
  · obtain ⟨i, rfl⟩ : ∃ i : Nat, off = 4 * (i : Int) := ⟨(off / 4).toNat, by have := ho.1; omega⟩
    exact once_ok a b oka okb i (by omega) ho x hx w
  · exact once_no a b oka okb off ho hg x hx w
end Go.Proofs.Ytpejeeemefmafaa.RD
