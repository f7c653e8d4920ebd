import Derived.Test.YtbhkaohpfekbcaaDoorEC1
import Derived.Test.YtbhkaohpfekbcaaDoorEC2
namespace Go.Proofs.YtbhkaohpfekbcaaDoor.PE
open Go.RowKit Go.Proofs.YtbhkaohpfekbcaaDoorW.PrintWords Go.Proofs.YtbhkaohpfekbcaaDoorW.PrintLast Go.Proofs.YtbhkaohpfekbcaaDoorW.PrintMore
set_option linter.unusedVariables false
set_option linter.unusedSimpArgs false
namespace L

def chkV (e : Ef) : Int := if (retB e.re && efEq e ⟨0, false, e.re, false, 0, false, 0⟩) = true then 0 else chkI (anyE e)
theorem Check_w (en : Int) (ru : Bool) (re : Int) (si : Bool) (co : Int) (lo : Bool) (as_ : Int) (w : World) (hc0 : 0 ≤ co) (hc1 : co ≤ 65535) (hT : Tab w) :
    Calls Tryd.prog 15 #[.agg #[.int .i64 en, .bool ru, .int .i64 re, .bool si, .int .u16 co, .bool lo, .int .i64 as_]] w (RetI (chkV ⟨en, ru, re, si, co, lo, as_⟩) w) := by
  unfold chkV
  cases hr : retB re
  · rw [if_neg (by simp [hr])]
    exact Check_loop_false en ru re si co lo as_ w hc0 hc1 hT ⟨hr⟩
  · cases he : efEq ⟨en, ru, re, si, co, lo, as_⟩ ⟨0, false, re, false, 0, false, 0⟩
    · rw [if_neg (by simp [hr, he])]
      exact Check_loop_true en ru re si co lo as_ w hc0 hc1 hT ⟨hr⟩ he
    · rw [if_pos (by simp [hr, he])]
      exact Check_plain en ru re si co lo as_ w ⟨hr⟩ he
end L
end Go.Proofs.YtbhkaohpfekbcaaDoor.PE
