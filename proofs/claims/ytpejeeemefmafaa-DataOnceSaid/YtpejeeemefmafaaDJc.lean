import Derived.Test.YtpejeeemefmafaaDJa
import Derived.Test.YtpejeeemefmafaaDJb
namespace Go.Proofs.Ytpejeeemefmafaa.RD
open Go.RowKit Go.Proofs.YtpejeeemefmafaaW.PrintWords Go.Proofs.YtpejeeemefmafaaW.PrintLast Go.Proofs.YtpejeeemefmafaaW.PrintMore
open Go.Proofs.Ytpejeeemefmafaa.PE.L (below_drewN' below_drew')
open PH
set_option linter.unusedVariables false
set_option linter.unusedSimpArgs false
theorem with_ok (d : Dt) (ok : d.Ok) (i : Nat) (hi : i < 16) (x : Int) (hx : u32R x) (w : World) : Calls Try.prog 42 #[.agg #[.int .u32 d.nr, .int .u32 d.ar, .int .u64 d.ip, .int .u64 d.a0, .int .u64 d.a1, .int .u64 d.a2, .int .u64 d.a3, .int .u64 d.a4, .int .u64 d.a5], .int .u32 (4 * (i : Int)), .int .u32 x] w fun e w' => e = .returned (.tuple #[.agg #[.int .u32 (w4 (put4 d.bytes (4 * i) x) 0), .int .u32 (w4 (put4 d.bytes (4 * i) x) 4), .int .u64 (w8 (put4 d.bytes (4 * i) x) 8), .int .u64 (w8 (put4 d.bytes (4 * i) x) 16), .int .u64 (w8 (put4 d.bytes (4 * i) x) 24), .int .u64 (w8 (put4 d.bytes (4 * i) x) 32), .int .u64 (w8 (put4 d.bytes (4 * i) x) 40), .int .u64 (w8 (put4 d.bytes (4 * i) x) 48), .int .u64 (w8 (put4 d.bytes (4 * i) x) 56)], .int .i64 0]) ∧ Below w.heap.size w w' := by
  by_cases h : x = w4 d.bytes (4 * i)
  · exact with_same d ok i hi x hx h w
  · exact with_other d ok i hi x hx h w
end Go.Proofs.Ytpejeeemefmafaa.RD
