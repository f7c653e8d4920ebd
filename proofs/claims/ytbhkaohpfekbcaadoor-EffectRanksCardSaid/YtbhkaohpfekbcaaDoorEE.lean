import Derived.Test.YtbhkaohpfekbcaaDoorEC3
namespace Go.Proofs.YtbhkaohpfekbcaaDoor.PE
open Go.RowKit Go.Proofs.YtbhkaohpfekbcaaDoorW.PrintWords Go.Proofs.YtbhkaohpfekbcaaDoorW.PrintLast Go.Proofs.YtbhkaohpfekbcaaDoorW.PrintMore
set_option linter.unusedVariables false
set_option linter.unusedSimpArgs false
namespace L
def RetBx (x : Bool) (w : World) (e : Ending) (w' : World) : Prop := e = .returned (.bool x) ∧ Below w.heap.size w w'
def b2i (b : Bool) : Int := if b then 1 else 0
def waysV (e : Ef) : Int := b2i (decide (e.en = 1) || decide (e.en = 2)) + b2i e.ru + b2i e.si + b2i (decide (e.as_ = 1) || decide (e.as_ = 2))
def rightV (e : Ef) : Bool :=
  if e.en = 0 ∧ e.ru = false ∧ e.si = false ∧ e.co = 0 ∧ e.lo = false ∧ e.as_ = 0 then decide (-4095 ≤ e.re) && decide (e.re ≤ 2147483647)
  else if e.re ≠ 0 then false
  else if (e.en = 1 ∨ e.en = 2) ∧ (e.lo = false ∨ e.co ≠ 0) then false
  else if e.ru = true ∧ e.co ≠ 0 then false
  else if e.si = true ∧ e.lo = true then false
  else if (e.as_ = 1 ∨ e.as_ = 2) ∧ (e.lo = true ∨ e.as_ = 2 ∧ e.co ≠ 0) then false
  else decide (waysV e = 1) && (decide (0 ≤ e.en) && decide (e.en ≤ 2)) && (decide (0 ≤ e.as_) && decide (e.as_ ≤ 2))

set_option maxHeartbeats 4000000 in
theorem Right_0 (en : Int) (re : Int) (co : Int) (as_ : Int) (w : World) : Calls Tryd.prog 13 #[.agg #[.int .i64 en, .bool false, .int .i64 re, .bool false, .int .u16 co, .bool false, .int .i64 as_]] w (RetBx (rightV ⟨en, false, re, false, co, false, as_⟩) w) := by
  go_enter Tryd.func13, Tryd.ntmps13
  go_wp2_with fail
  all_goals go_ret
  all_goals refine ⟨?_, (Below.refl _ _).alloc (Nat.le_refl _) _⟩
  all_goals congr 2
  all_goals first | (simp_all [rightV, waysV, b2i]; done) | (simp_all [rightV, waysV, b2i]; omega)

set_option maxHeartbeats 4000000 in
theorem Right_1 (en : Int) (re : Int) (co : Int) (as_ : Int) (w : World) : Calls Tryd.prog 13 #[.agg #[.int .i64 en, .bool false, .int .i64 re, .bool false, .int .u16 co, .bool true, .int .i64 as_]] w (RetBx (rightV ⟨en, false, re, false, co, true, as_⟩) w) := by
  go_enter Tryd.func13, Tryd.ntmps13
  go_wp2_with fail
  all_goals go_ret
  all_goals refine ⟨?_, (Below.refl _ _).alloc (Nat.le_refl _) _⟩
  all_goals congr 2
  all_goals first | (simp_all [rightV, waysV, b2i]; done) | (simp_all [rightV, waysV, b2i]; omega)

set_option maxHeartbeats 4000000 in
theorem Right_2 (en : Int) (re : Int) (co : Int) (as_ : Int) (w : World) : Calls Tryd.prog 13 #[.agg #[.int .i64 en, .bool false, .int .i64 re, .bool true, .int .u16 co, .bool false, .int .i64 as_]] w (RetBx (rightV ⟨en, false, re, true, co, false, as_⟩) w) := by
  go_enter Tryd.func13, Tryd.ntmps13
  go_wp2_with fail
  all_goals go_ret
  all_goals refine ⟨?_, (Below.refl _ _).alloc (Nat.le_refl _) _⟩
  all_goals congr 2
  all_goals first | (simp_all [rightV, waysV, b2i]; done) | (simp_all [rightV, waysV, b2i]; omega)

set_option maxHeartbeats 4000000 in
theorem Right_3 (en : Int) (re : Int) (co : Int) (as_ : Int) (w : World) : Calls Tryd.prog 13 #[.agg #[.int .i64 en, .bool false, .int .i64 re, .bool true, .int .u16 co, .bool true, .int .i64 as_]] w (RetBx (rightV ⟨en, false, re, true, co, true, as_⟩) w) := by
  go_enter Tryd.func13, Tryd.ntmps13
  go_wp2_with fail
  all_goals go_ret
  all_goals refine ⟨?_, (Below.refl _ _).alloc (Nat.le_refl _) _⟩
  all_goals congr 2
  all_goals first | (simp_all [rightV, waysV, b2i]; done) | (simp_all [rightV, waysV, b2i]; omega)

set_option maxHeartbeats 4000000 in
theorem Right_4 (en : Int) (re : Int) (co : Int) (as_ : Int) (w : World) : Calls Tryd.prog 13 #[.agg #[.int .i64 en, .bool true, .int .i64 re, .bool false, .int .u16 co, .bool false, .int .i64 as_]] w (RetBx (rightV ⟨en, true, re, false, co, false, as_⟩) w) := by
  go_enter Tryd.func13, Tryd.ntmps13
  go_wp2_with fail
  all_goals go_ret
  all_goals refine ⟨?_, (Below.refl _ _).alloc (Nat.le_refl _) _⟩
  all_goals congr 2
  all_goals first | (simp_all [rightV, waysV, b2i]; done) | (simp_all [rightV, waysV, b2i]; omega)

set_option maxHeartbeats 4000000 in
theorem Right_5 (en : Int) (re : Int) (co : Int) (as_ : Int) (w : World) : Calls Tryd.prog 13 #[.agg #[.int .i64 en, .bool true, .int .i64 re, .bool false, .int .u16 co, .bool true, .int .i64 as_]] w (RetBx (rightV ⟨en, true, re, false, co, true, as_⟩) w) := by
  go_enter Tryd.func13, Tryd.ntmps13
  go_wp2_with fail
  all_goals go_ret
  all_goals refine ⟨?_, (Below.refl _ _).alloc (Nat.le_refl _) _⟩
  all_goals congr 2
  all_goals first | (simp_all [rightV, waysV, b2i]; done) | (simp_all [rightV, waysV, b2i]; omega)

set_option maxHeartbeats 4000000 in
theorem Right_6 (en : Int) (re : Int) (co : Int) (as_ : Int) (w : World) : Calls Tryd.prog 13 #[.agg #[.int .i64 en, .bool true, .int .i64 re, .bool true, .int .u16 co, .bool false, .int .i64 as_]] w (RetBx (rightV ⟨en, true, re, true, co, false, as_⟩) w) := by
  go_enter Tryd.func13, Tryd.ntmps13
  go_wp2_with fail
  all_goals go_ret
  all_goals refine ⟨?_, (Below.refl _ _).alloc (Nat.le_refl _) _⟩
  all_goals congr 2
  all_goals first | (simp_all [rightV, waysV, b2i]; done) | (simp_all [rightV, waysV, b2i]; omega)

set_option maxHeartbeats 4000000 in
theorem Right_7 (en : Int) (re : Int) (co : Int) (as_ : Int) (w : World) : Calls Tryd.prog 13 #[.agg #[.int .i64 en, .bool true, .int .i64 re, .bool true, .int .u16 co, .bool true, .int .i64 as_]] w (RetBx (rightV ⟨en, true, re, true, co, true, as_⟩) w) := by
  go_enter Tryd.func13, Tryd.ntmps13
  go_wp2_with fail
  all_goals go_ret
  all_goals refine ⟨?_, (Below.refl _ _).alloc (Nat.le_refl _) _⟩
  all_goals congr 2
  all_goals first | (simp_all [rightV, waysV, b2i]; done) | (simp_all [rightV, waysV, b2i]; omega)
end L
end Go.Proofs.YtbhkaohpfekbcaaDoor.PE
