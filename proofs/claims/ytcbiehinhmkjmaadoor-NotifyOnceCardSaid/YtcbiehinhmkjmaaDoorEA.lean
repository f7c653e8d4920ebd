import Derived.Test.YtcbiehinhmkjmaaDoorPBx0
import Derived.WalkSpells
import Derived.WalkLawsBesides
namespace Go.Proofs.YtcbiehinhmkjmaaDoor.PE
open Go.RowKit Go.Proofs.YtcbiehinhmkjmaaDoorW.PrintWords Go.Proofs.YtcbiehinhmkjmaaDoorW.PrintLast Go.Proofs.YtcbiehinhmkjmaaDoorW.PrintMore
attribute [local go_sem] max2_int min2_int max_two min_two
set_option linter.unusedVariables false
set_option linter.unusedSimpArgs false
namespace L
theorem heap_new_at (w : World) (o : Obj) (n : Nat) (hn : n = w.heap.size) : (w.alloc o).heap[n]? = some o := hn ▸ heap_alloc_new w o
theorem below_drewN' {B : Nat} {w W : World} (h : Below B w W) (n : Nat) : Below B w (W.drewN n) := pw_below_drewN h n
theorem below_drew' {B : Nat} {w W : World} (h : Below B w W) : Below B w W.drew := below_drew h
theorem boxes1 {w w' : World} {c0 : Array Value} {t0 : TypeId} (hb : Below (w.alloc (.cells c0 t0)).heap.size (w.alloc (.cells c0 t0)) w') :
  Aside0 (w'.heap[w.heap.size]? = some (.cells c0 t0 (0, 0))) ∧ Below w.heap.size w w' := by
 have h0 : w'.heap[w.heap.size]? = some (.cells c0 t0 (0, 0)) := (hb.block _ (by simp only [World.size_alloc]; omega)).trans (heap_new_at w (.cells c0 t0) (w.heap.size) (by simp only [World.size_alloc]))
 exact ⟨⟨h0⟩, ((Below.refl _ _).alloc (Nat.le_refl _) _).trans (hb.mono (by simp only [World.size_alloc]; omega))⟩

theorem boxes2 {w w' : World} {c0 c1 : Array Value} {t0 t1 : TypeId} (hb : Below ((w.alloc (.cells c0 t0)).alloc (.cells c1 t1)).heap.size ((w.alloc (.cells c0 t0)).alloc (.cells c1 t1)) w') :
  Aside0 (w'.heap[w.heap.size]? = some (.cells c0 t0 (0, 0))) ∧ Aside0 (w'.heap[w.heap.size + 1]? = some (.cells c1 t1 (0, 0))) ∧ Below w.heap.size w w' := by
 have h0 : w'.heap[w.heap.size]? = some (.cells c0 t0 (0, 0)) := (hb.block _ (by simp only [World.size_alloc]; omega)).trans ((Below.heap_alloc (w.alloc (.cells c0 t0)) (.cells c1 t1) (w.heap.size) (by simp only [World.size_alloc]; omega)).trans (heap_new_at w (.cells c0 t0) (w.heap.size) (by simp only [World.size_alloc])))
 have h1 : w'.heap[w.heap.size + 1]? = some (.cells c1 t1 (0, 0)) := (hb.block _ (by simp only [World.size_alloc]; omega)).trans (heap_new_at (w.alloc (.cells c0 t0)) (.cells c1 t1) (w.heap.size + 1) (by simp only [World.size_alloc]))
 exact ⟨⟨h0⟩, ⟨h1⟩, (((Below.refl _ _).alloc (Nat.le_refl _) _).alloc (by simp only [World.size_alloc]; omega) _).trans (hb.mono (by simp only [World.size_alloc]; omega))⟩

theorem boxes3 {w w' : World} {c0 c1 c2 : Array Value} {t0 t1 t2 : TypeId} (hb : Below (((w.alloc (.cells c0 t0)).alloc (.cells c1 t1)).alloc (.cells c2 t2)).heap.size (((w.alloc (.cells c0 t0)).alloc (.cells c1 t1)).alloc (.cells c2 t2)) w') :
  Aside0 (w'.heap[w.heap.size]? = some (.cells c0 t0 (0, 0))) ∧ Aside0 (w'.heap[w.heap.size + 1]? = some (.cells c1 t1 (0, 0))) ∧ Aside0 (w'.heap[w.heap.size + 2]? = some (.cells c2 t2 (0, 0))) ∧ Below w.heap.size w w' := by
 have h0 : w'.heap[w.heap.size]? = some (.cells c0 t0 (0, 0)) := (hb.block _ (by simp only [World.size_alloc]; omega)).trans ((Below.heap_alloc ((w.alloc (.cells c0 t0)).alloc (.cells c1 t1)) (.cells c2 t2) (w.heap.size) (by simp only [World.size_alloc]; omega)).trans ((Below.heap_alloc (w.alloc (.cells c0 t0)) (.cells c1 t1) (w.heap.size) (by simp only [World.size_alloc]; omega)).trans (heap_new_at w (.cells c0 t0) (w.heap.size) (by simp only [World.size_alloc]))))
 have h1 : w'.heap[w.heap.size + 1]? = some (.cells c1 t1 (0, 0)) := (hb.block _ (by simp only [World.size_alloc]; omega)).trans ((Below.heap_alloc ((w.alloc (.cells c0 t0)).alloc (.cells c1 t1)) (.cells c2 t2) (w.heap.size + 1) (by simp only [World.size_alloc]; omega)).trans (heap_new_at (w.alloc (.cells c0 t0)) (.cells c1 t1) (w.heap.size + 1) (by simp only [World.size_alloc])))
 have h2 : w'.heap[w.heap.size + 2]? = some (.cells c2 t2 (0, 0)) := (hb.block _ (by simp only [World.size_alloc]; omega)).trans (heap_new_at ((w.alloc (.cells c0 t0)).alloc (.cells c1 t1)) (.cells c2 t2) (w.heap.size + 2) (by simp only [World.size_alloc]))
 exact ⟨⟨h0⟩, ⟨h1⟩, ⟨h2⟩, ((((Below.refl _ _).alloc (Nat.le_refl _) _).alloc (by simp only [World.size_alloc]; omega) _).alloc (by simp only [World.size_alloc]; omega) _).trans (hb.mono (by simp only [World.size_alloc]; omega))⟩

theorem boxes4 {w w' : World} {c0 c1 c2 c3 : Array Value} {t0 t1 t2 t3 : TypeId} (hb : Below ((((w.alloc (.cells c0 t0)).alloc (.cells c1 t1)).alloc (.cells c2 t2)).alloc (.cells c3 t3)).heap.size ((((w.alloc (.cells c0 t0)).alloc (.cells c1 t1)).alloc (.cells c2 t2)).alloc (.cells c3 t3)) w') :
  Aside0 (w'.heap[w.heap.size]? = some (.cells c0 t0 (0, 0))) ∧ Aside0 (w'.heap[w.heap.size + 1]? = some (.cells c1 t1 (0, 0))) ∧ Aside0 (w'.heap[w.heap.size + 2]? = some (.cells c2 t2 (0, 0))) ∧ Aside0 (w'.heap[w.heap.size + 3]? = some (.cells c3 t3 (0, 0))) ∧ Below w.heap.size w w' := by
 have h0 : w'.heap[w.heap.size]? = some (.cells c0 t0 (0, 0)) := (hb.block _ (by simp only [World.size_alloc]; omega)).trans ((Below.heap_alloc (((w.alloc (.cells c0 t0)).alloc (.cells c1 t1)).alloc (.cells c2 t2)) (.cells c3 t3) (w.heap.size) (by simp only [World.size_alloc]; omega)).trans ((Below.heap_alloc ((w.alloc (.cells c0 t0)).alloc (.cells c1 t1)) (.cells c2 t2) (w.heap.size) (by simp only [World.size_alloc]; omega)).trans ((Below.heap_alloc (w.alloc (.cells c0 t0)) (.cells c1 t1) (w.heap.size) (by simp only [World.size_alloc]; omega)).trans (heap_new_at w (.cells c0 t0) (w.heap.size) (by simp only [World.size_alloc])))))
 have h1 : w'.heap[w.heap.size + 1]? = some (.cells c1 t1 (0, 0)) := (hb.block _ (by simp only [World.size_alloc]; omega)).trans ((Below.heap_alloc (((w.alloc (.cells c0 t0)).alloc (.cells c1 t1)).alloc (.cells c2 t2)) (.cells c3 t3) (w.heap.size + 1) (by simp only [World.size_alloc]; omega)).trans ((Below.heap_alloc ((w.alloc (.cells c0 t0)).alloc (.cells c1 t1)) (.cells c2 t2) (w.heap.size + 1) (by simp only [World.size_alloc]; omega)).trans (heap_new_at (w.alloc (.cells c0 t0)) (.cells c1 t1) (w.heap.size + 1) (by simp only [World.size_alloc]))))
 have h2 : w'.heap[w.heap.size + 2]? = some (.cells c2 t2 (0, 0)) := (hb.block _ (by simp only [World.size_alloc]; omega)).trans ((Below.heap_alloc (((w.alloc (.cells c0 t0)).alloc (.cells c1 t1)).alloc (.cells c2 t2)) (.cells c3 t3) (w.heap.size + 2) (by simp only [World.size_alloc]; omega)).trans (heap_new_at ((w.alloc (.cells c0 t0)).alloc (.cells c1 t1)) (.cells c2 t2) (w.heap.size + 2) (by simp only [World.size_alloc])))
 have h3 : w'.heap[w.heap.size + 3]? = some (.cells c3 t3 (0, 0)) := (hb.block _ (by simp only [World.size_alloc]; omega)).trans (heap_new_at (((w.alloc (.cells c0 t0)).alloc (.cells c1 t1)).alloc (.cells c2 t2)) (.cells c3 t3) (w.heap.size + 3) (by simp only [World.size_alloc]))
 exact ⟨⟨h0⟩, ⟨h1⟩, ⟨h2⟩, ⟨h3⟩, (((((Below.refl _ _).alloc (Nat.le_refl _) _).alloc (by simp only [World.size_alloc]; omega) _).alloc (by simp only [World.size_alloc]; omega) _).alloc (by simp only [World.size_alloc]; omega) _).trans (hb.mono (by simp only [World.size_alloc]; omega))⟩

theorem boxes5 {w w' : World} {c0 c1 c2 c3 c4 : Array Value} {t0 t1 t2 t3 t4 : TypeId} (hb : Below (((((w.alloc (.cells c0 t0)).alloc (.cells c1 t1)).alloc (.cells c2 t2)).alloc (.cells c3 t3)).alloc (.cells c4 t4)).heap.size (((((w.alloc (.cells c0 t0)).alloc (.cells c1 t1)).alloc (.cells c2 t2)).alloc (.cells c3 t3)).alloc (.cells c4 t4)) w') :
  Aside0 (w'.heap[w.heap.size]? = some (.cells c0 t0 (0, 0))) ∧ Aside0 (w'.heap[w.heap.size + 1]? = some (.cells c1 t1 (0, 0))) ∧ Aside0 (w'.heap[w.heap.size + 2]? = some (.cells c2 t2 (0, 0))) ∧ Aside0 (w'.heap[w.heap.size + 3]? = some (.cells c3 t3 (0, 0))) ∧ Aside0 (w'.heap[w.heap.size + 4]? = some (.cells c4 t4 (0, 0))) ∧ Below w.heap.size w w' := by
 have h0 : w'.heap[w.heap.size]? = some (.cells c0 t0 (0, 0)) := (hb.block _ (by simp only [World.size_alloc]; omega)).trans ((Below.heap_alloc ((((w.alloc (.cells c0 t0)).alloc (.cells c1 t1)).alloc (.cells c2 t2)).alloc (.cells c3 t3)) (.cells c4 t4) (w.heap.size) (by simp only [World.size_alloc]; omega)).trans ((Below.heap_alloc (((w.alloc (.cells c0 t0)).alloc (.cells c1 t1)).alloc (.cells c2 t2)) (.cells c3 t3) (w.heap.size) (by simp only [World.size_alloc]; omega)).trans ((Below.heap_alloc ((w.alloc (.cells c0 t0)).alloc (.cells c1 t1)) (.cells c2 t2) (w.heap.size) (by simp only [World.size_alloc]; omega)).trans ((Below.heap_alloc (w.alloc (.cells c0 t0)) (.cells c1 t1) (w.heap.size) (by simp only [World.size_alloc]; omega)).trans (heap_new_at w (.cells c0 t0) (w.heap.size) (by simp only [World.size_alloc]))))))
 have h1 : w'.heap[w.heap.size + 1]? = some (.cells c1 t1 (0, 0)) := (hb.block _ (by simp only [World.size_alloc]; omega)).trans ((Below.heap_alloc ((((w.alloc (.cells c0 t0)).alloc (.cells c1 t1)).alloc (.cells c2 t2)).alloc (.cells c3 t3)) (.cells c4 t4) (w.heap.size + 1) (by simp only [World.size_alloc]; omega)).trans ((Below.heap_alloc (((w.alloc (.cells c0 t0)).alloc (.cells c1 t1)).alloc (.cells c2 t2)) (.cells c3 t3) (w.heap.size + 1) (by simp only [World.size_alloc]; omega)).trans ((Below.heap_alloc ((w.alloc (.cells c0 t0)).alloc (.cells c1 t1)) (.cells c2 t2) (w.heap.size + 1) (by simp only [World.size_alloc]; omega)).trans (heap_new_at (w.alloc (.cells c0 t0)) (.cells c1 t1) (w.heap.size + 1) (by simp only [World.size_alloc])))))
 have h2 : w'.heap[w.heap.size + 2]? = some (.cells c2 t2 (0, 0)) := (hb.block _ (by simp only [World.size_alloc]; omega)).trans ((Below.heap_alloc ((((w.alloc (.cells c0 t0)).alloc (.cells c1 t1)).alloc (.cells c2 t2)).alloc (.cells c3 t3)) (.cells c4 t4) (w.heap.size + 2) (by simp only [World.size_alloc]; omega)).trans ((Below.heap_alloc (((w.alloc (.cells c0 t0)).alloc (.cells c1 t1)).alloc (.cells c2 t2)) (.cells c3 t3) (w.heap.size + 2) (by simp only [World.size_alloc]; omega)).trans (heap_new_at ((w.alloc (.cells c0 t0)).alloc (.cells c1 t1)) (.cells c2 t2) (w.heap.size + 2) (by simp only [World.size_alloc]))))
 have h3 : w'.heap[w.heap.size + 3]? = some (.cells c3 t3 (0, 0)) := (hb.block _ (by simp only [World.size_alloc]; omega)).trans ((Below.heap_alloc ((((w.alloc (.cells c0 t0)).alloc (.cells c1 t1)).alloc (.cells c2 t2)).alloc (.cells c3 t3)) (.cells c4 t4) (w.heap.size + 3) (by simp only [World.size_alloc]; omega)).trans (heap_new_at (((w.alloc (.cells c0 t0)).alloc (.cells c1 t1)).alloc (.cells c2 t2)) (.cells c3 t3) (w.heap.size + 3) (by simp only [World.size_alloc])))
 have h4 : w'.heap[w.heap.size + 4]? = some (.cells c4 t4 (0, 0)) := (hb.block _ (by simp only [World.size_alloc]; omega)).trans (heap_new_at ((((w.alloc (.cells c0 t0)).alloc (.cells c1 t1)).alloc (.cells c2 t2)).alloc (.cells c3 t3)) (.cells c4 t4) (w.heap.size + 4) (by simp only [World.size_alloc]))
 exact ⟨⟨h0⟩, ⟨h1⟩, ⟨h2⟩, ⟨h3⟩, ⟨h4⟩, ((((((Below.refl _ _).alloc (Nat.le_refl _) _).alloc (by simp only [World.size_alloc]; omega) _).alloc (by simp only [World.size_alloc]; omega) _).alloc (by simp only [World.size_alloc]; omega) _).alloc (by simp only [World.size_alloc]; omega) _).trans (hb.mono (by simp only [World.size_alloc]; omega))⟩

theorem boxes6 {w w' : World} {c0 c1 c2 c3 c4 c5 : Array Value} {t0 t1 t2 t3 t4 t5 : TypeId} (hb : Below ((((((w.alloc (.cells c0 t0)).alloc (.cells c1 t1)).alloc (.cells c2 t2)).alloc (.cells c3 t3)).alloc (.cells c4 t4)).alloc (.cells c5 t5)).heap.size ((((((w.alloc (.cells c0 t0)).alloc (.cells c1 t1)).alloc (.cells c2 t2)).alloc (.cells c3 t3)).alloc (.cells c4 t4)).alloc (.cells c5 t5)) w') :
  Aside0 (w'.heap[w.heap.size]? = some (.cells c0 t0 (0, 0))) ∧ Aside0 (w'.heap[w.heap.size + 1]? = some (.cells c1 t1 (0, 0))) ∧ Aside0 (w'.heap[w.heap.size + 2]? = some (.cells c2 t2 (0, 0))) ∧ Aside0 (w'.heap[w.heap.size + 3]? = some (.cells c3 t3 (0, 0))) ∧ Aside0 (w'.heap[w.heap.size + 4]? = some (.cells c4 t4 (0, 0))) ∧ Aside0 (w'.heap[w.heap.size + 5]? = some (.cells c5 t5 (0, 0))) ∧ Below w.heap.size w w' := by
 have h0 : w'.heap[w.heap.size]? = some (.cells c0 t0 (0, 0)) := (hb.block _ (by simp only [World.size_alloc]; omega)).trans ((Below.heap_alloc (((((w.alloc (.cells c0 t0)).alloc (.cells c1 t1)).alloc (.cells c2 t2)).alloc (.cells c3 t3)).alloc (.cells c4 t4)) (.cells c5 t5) (w.heap.size) (by simp only [World.size_alloc]; omega)).trans ((Below.heap_alloc ((((w.alloc (.cells c0 t0)).alloc (.cells c1 t1)).alloc (.cells c2 t2)).alloc (.cells c3 t3)) (.cells c4 t4) (w.heap.size) (by simp only [World.size_alloc]; omega)).trans ((Below.heap_alloc (((w.alloc (.cells c0 t0)).alloc (.cells c1 t1)).alloc (.cells c2 t2)) (.cells c3 t3) (w.heap.size) (by simp only [World.size_alloc]; omega)).trans ((Below.heap_alloc ((w.alloc (.cells c0 t0)).alloc (.cells c1 t1)) (.cells c2 t2) (w.heap.size) (by simp only [World.size_alloc]; omega)).trans ((Below.heap_alloc (w.alloc (.cells c0 t0)) (.cells c1 t1) (w.heap.size) (by simp only [World.size_alloc]; omega)).trans (heap_new_at w (.cells c0 t0) (w.heap.size) (by simp only [World.size_alloc])))))))
 have h1 : w'.heap[w.heap.size + 1]? = some (.cells c1 t1 (0, 0)) := (hb.block _ (by simp only [World.size_alloc]; omega)).trans ((Below.heap_alloc (((((w.alloc (.cells c0 t0)).alloc (.cells c1 t1)).alloc (.cells c2 t2)).alloc (.cells c3 t3)).alloc (.cells c4 t4)) (.cells c5 t5) (w.heap.size + 1) (by simp only [World.size_alloc]; omega)).trans ((Below.heap_alloc ((((w.alloc (.cells c0 t0)).alloc (.cells c1 t1)).alloc (.cells c2 t2)).alloc (.cells c3 t3)) (.cells c4 t4) (w.heap.size + 1) (by simp only [World.size_alloc]; omega)).trans ((Below.heap_alloc (((w.alloc (.cells c0 t0)).alloc (.cells c1 t1)).alloc (.cells c2 t2)) (.cells c3 t3) (w.heap.size + 1) (by simp only [World.size_alloc]; omega)).trans ((Below.heap_alloc ((w.alloc (.cells c0 t0)).alloc (.cells c1 t1)) (.cells c2 t2) (w.heap.size + 1) (by simp only [World.size_alloc]; omega)).trans (heap_new_at (w.alloc (.cells c0 t0)) (.cells c1 t1) (w.heap.size + 1) (by simp only [World.size_alloc]))))))
 have h2 : w'.heap[w.heap.size + 2]? = some (.cells c2 t2 (0, 0)) := (hb.block _ (by simp only [World.size_alloc]; omega)).trans ((Below.heap_alloc (((((w.alloc (.cells c0 t0)).alloc (.cells c1 t1)).alloc (.cells c2 t2)).alloc (.cells c3 t3)).alloc (.cells c4 t4)) (.cells c5 t5) (w.heap.size + 2) (by simp only [World.size_alloc]; omega)).trans ((Below.heap_alloc ((((w.alloc (.cells c0 t0)).alloc (.cells c1 t1)).alloc (.cells c2 t2)).alloc (.cells c3 t3)) (.cells c4 t4) (w.heap.size + 2) (by simp only [World.size_alloc]; omega)).trans ((Below.heap_alloc (((w.alloc (.cells c0 t0)).alloc (.cells c1 t1)).alloc (.cells c2 t2)) (.cells c3 t3) (w.heap.size + 2) (by simp only [World.size_alloc]; omega)).trans (heap_new_at ((w.alloc (.cells c0 t0)).alloc (.cells c1 t1)) (.cells c2 t2) (w.heap.size + 2) (by simp only [World.size_alloc])))))
 have h3 : w'.heap[w.heap.size + 3]? = some (.cells c3 t3 (0, 0)) := (hb.block _ (by simp only [World.size_alloc]; omega)).trans ((Below.heap_alloc (((((w.alloc (.cells c0 t0)).alloc (.cells c1 t1)).alloc (.cells c2 t2)).alloc (.cells c3 t3)).alloc (.cells c4 t4)) (.cells c5 t5) (w.heap.size + 3) (by simp only [World.size_alloc]; omega)).trans ((Below.heap_alloc ((((w.alloc (.cells c0 t0)).alloc (.cells c1 t1)).alloc (.cells c2 t2)).alloc (.cells c3 t3)) (.cells c4 t4) (w.heap.size + 3) (by simp only [World.size_alloc]; omega)).trans (heap_new_at (((w.alloc (.cells c0 t0)).alloc (.cells c1 t1)).alloc (.cells c2 t2)) (.cells c3 t3) (w.heap.size + 3) (by simp only [World.size_alloc]))))
 have h4 : w'.heap[w.heap.size + 4]? = some (.cells c4 t4 (0, 0)) := (hb.block _ (by simp only [World.size_alloc]; omega)).trans ((Below.heap_alloc (((((w.alloc (.cells c0 t0)).alloc (.cells c1 t1)).alloc (.cells c2 t2)).alloc (.cells c3 t3)).alloc (.cells c4 t4)) (.cells c5 t5) (w.heap.size + 4) (by simp only [World.size_alloc]; omega)).trans (heap_new_at ((((w.alloc (.cells c0 t0)).alloc (.cells c1 t1)).alloc (.cells c2 t2)).alloc (.cells c3 t3)) (.cells c4 t4) (w.heap.size + 4) (by simp only [World.size_alloc])))
 have h5 : w'.heap[w.heap.size + 5]? = some (.cells c5 t5 (0, 0)) := (hb.block _ (by simp only [World.size_alloc]; omega)).trans (heap_new_at (((((w.alloc (.cells c0 t0)).alloc (.cells c1 t1)).alloc (.cells c2 t2)).alloc (.cells c3 t3)).alloc (.cells c4 t4)) (.cells c5 t5) (w.heap.size + 5) (by simp only [World.size_alloc]))
 exact ⟨⟨h0⟩, ⟨h1⟩, ⟨h2⟩, ⟨h3⟩, ⟨h4⟩, ⟨h5⟩, (((((((Below.refl _ _).alloc (Nat.le_refl _) _).alloc (by simp only [World.size_alloc]; omega) _).alloc (by simp only [World.size_alloc]; omega) _).alloc (by simp only [World.size_alloc]; omega) _).alloc (by simp only [World.size_alloc]; omega) _).alloc (by simp only [World.size_alloc]; omega) _).trans (hb.mono (by simp only [World.size_alloc]; omega))⟩

/-- What a verdict does to a call. -/
structure Ef where
 en : Int
 ru : Bool
 re : Int
 si : Bool
 co : Int
 lo : Bool
 as_ : Int
def RetEf (x : Ef) (w : World) (e : Ending) (w' : World) : Prop := e = .returned (.agg #[.int .i64 x.en, .bool x.ru, .int .i64 x.re, .bool x.si, .int .u16 x.co, .bool x.lo, .int .i64 x.as_]) ∧ Below w.heap.size w w'

set_option maxHeartbeats 1000000 in
theorem eff0 (d : Int) (tr li : Bool) (w : World) : Calls Tryd.prog 88 #[.int .u16 d, .agg #[.bool tr, .bool li]] w (RetEf ⟨2, false, 0, false, 0, true, 0⟩ w) := by
 go_enter Tryd.func88, Tryd.ntmps88
 go_wp2_with fail
 refine bodyPost_ret (v := .agg #[.int .i64 2, .bool false, .int .i64 (0), .bool false, .int .u16 0, .bool true, .int .i64 0]) (by simp [results, Tryd.results88, go_sem]) rfl ⟨rfl, ?_⟩
 repeat (first | (with_reducible exact Below.refl _ _) | (with_reducible refine Below.alloc ?_ (by simp only [World.size_alloc]; omega) _) | (with_reducible refine Below.alloc ?_ (Nat.le_refl _) _))

set_option maxHeartbeats 1000000 in
theorem eff1 (d : Int) (tr li : Bool) (w : World) : Calls Tryd.prog 89 #[.int .u16 d, .agg #[.bool tr, .bool li]] w (RetEf ⟨1, false, 0, false, 0, true, 0⟩ w) := by
 go_enter Tryd.func89, Tryd.ntmps89
 go_wp2_with fail
 refine bodyPost_ret (v := .agg #[.int .i64 1, .bool false, .int .i64 (0), .bool false, .int .u16 0, .bool true, .int .i64 0]) (by simp [results, Tryd.results89, go_sem]) rfl ⟨rfl, ?_⟩
 repeat (first | (with_reducible exact Below.refl _ _) | (with_reducible refine Below.alloc ?_ (by simp only [World.size_alloc]; omega) _) | (with_reducible refine Below.alloc ?_ (Nat.le_refl _) _))

set_option maxHeartbeats 1000000 in
theorem eff2 (d : Int) (tr li : Bool) (w : World) : Calls Tryd.prog 90 #[.int .u16 d, .agg #[.bool tr, .bool li]] w (RetEf ⟨0, false, 0, true, d, false, 0⟩ w) := by
 go_enter Tryd.func90, Tryd.ntmps90
 go_wp2_with fail
 refine bodyPost_ret (v := .agg #[.int .i64 0, .bool false, .int .i64 (0), .bool true, .int .u16 d, .bool false, .int .i64 0]) (by simp [results, Tryd.results90, go_sem]) rfl ⟨rfl, ?_⟩
 repeat (first | (with_reducible exact Below.refl _ _) | (with_reducible refine Below.alloc ?_ (by simp only [World.size_alloc]; omega) _) | (with_reducible refine Below.alloc ?_ (Nat.le_refl _) _))

set_option maxHeartbeats 1000000 in
theorem eff3a (d : Int) (tr li : Bool) (h0 : 0 ≤ d) (h1 : d ≤ 4095) (w : World) : Calls Tryd.prog 91 #[.int .u16 d, .agg #[.bool tr, .bool li]] w (RetEf ⟨0, false, -d, false, 0, false, 0⟩ w) := by
 go_enter Tryd.func91, Tryd.ntmps91
 go_wp2_with fail
 refine bodyPost_ret (v := .agg #[.int .i64 0, .bool false, .int .i64 (-d), .bool false, .int .u16 0, .bool false, .int .i64 0]) (by simp [results, Tryd.results91, go_sem]) rfl ⟨rfl, ?_⟩
 repeat (first | (with_reducible exact Below.refl _ _) | (with_reducible refine Below.alloc ?_ (by simp only [World.size_alloc]; omega) _) | (with_reducible refine Below.alloc ?_ (Nat.le_refl _) _))

set_option maxHeartbeats 1000000 in
theorem eff3b (d : Int) (tr li : Bool) (h0 : 4095 < d) (h1 : d ≤ 65535) (w : World) : Calls Tryd.prog 91 #[.int .u16 d, .agg #[.bool tr, .bool li]] w (RetEf ⟨0, false, -4095, false, 0, false, 0⟩ w) := by
 go_enter Tryd.func91, Tryd.ntmps91
 go_wp2_with fail
 refine bodyPost_ret (v := .agg #[.int .i64 0, .bool false, .int .i64 (-4095), .bool false, .int .u16 0, .bool false, .int .i64 0]) (by simp [results, Tryd.results91, go_sem]) rfl ⟨rfl, ?_⟩
 repeat (first | (with_reducible exact Below.refl _ _) | (with_reducible refine Below.alloc ?_ (by simp only [World.size_alloc]; omega) _) | (with_reducible refine Below.alloc ?_ (Nat.le_refl _) _))

set_option maxHeartbeats 1000000 in
theorem missing_w (w : World) : Calls Tryd.prog 93 #[] w (RetEf ⟨0, false, -38, false, 0, false, 0⟩ w) := by
 go_enter Tryd.func93, Tryd.ntmps93
 go_wp2
 refine bodyPost_ret (v := .agg #[.int .i64 0, .bool false, .int .i64 (-38), .bool false, .int .u16 0, .bool false, .int .i64 0]) (by simp [results, Tryd.results93, go_sem]) rfl ⟨rfl, ?_⟩
 repeat (first | (with_reducible exact Below.refl _ _) | (with_reducible refine Below.alloc ?_ (by simp only [World.size_alloc]; omega) _) | (with_reducible refine Below.alloc ?_ (Nat.le_refl _) _))

set_option maxHeartbeats 1000000 in
theorem eff4m (d : Int) (tr : Bool) (w : World) : Calls Tryd.prog 92 #[.int .u16 d, .agg #[.bool tr, .bool false]] w (RetEf ⟨0, false, -38, false, 0, false, 0⟩ w) := by
 go_enter Tryd.func92, Tryd.ntmps92
 go_wp2_with fail
 refine (missing_w _).mono ?_
 rintro e w1 ⟨rfl, hb⟩
 obtain ⟨hk_a, hk_r, hB⟩ := boxes2 hb
 clear hb
 have hc_a := blk_cell hk_a.out; have hf_a := blk_frozen hk_a.out; have hl_a := blk_lt hk_a.out
 have hc_r := blk_cell hk_r.out; have hf_r := blk_frozen hk_r.out; have hl_r := blk_lt hk_r.out
 have HB := Aside0.mk hB; clear hB
 go_wp2_with fail
 refine bodyPost_ret (v := .agg #[.int .i64 0, .bool false, .int .i64 (-38), .bool false, .int .u16 0, .bool false, .int .i64 0]) (by simp [results, Tryd.results92, go_sem, hc_r]) rfl ⟨rfl, by repeat (first | (with_reducible exact HB.out) | (with_reducible exact Below.refl _ _) | (with_reducible refine Below.alloc ?_ (by have hz := HB.out.size; simp only [World.size_alloc]; omega) _) | (with_reducible refine Below.setCell ?_ (by have hz := HB.out.size; first | (simp; done) | (simp; omega)) _) | (with_reducible refine below_drewN' ?_ _) | (with_reducible refine below_drew' ?_))⟩

set_option maxHeartbeats 1000000 in
theorem eff4 (d : Int) (tr : Bool) (w : World) : Calls Tryd.prog 92 #[.int .u16 d, .agg #[.bool tr, .bool true]] w (RetEf ⟨0, false, 0, false, 0, false, 2⟩ w) := by
 go_enter Tryd.func92, Tryd.ntmps92
 go_wp2_with fail
 refine bodyPost_ret (v := .agg #[.int .i64 0, .bool false, .int .i64 (0), .bool false, .int .u16 0, .bool false, .int .i64 2]) (by simp [results, Tryd.results92, go_sem]) rfl ⟨rfl, ?_⟩
 repeat (first | (with_reducible exact Below.refl _ _) | (with_reducible refine Below.alloc ?_ (by simp only [World.size_alloc]; omega) _) | (with_reducible refine Below.alloc ?_ (Nat.le_refl _) _))

set_option maxHeartbeats 1000000 in
theorem eff5m (d : Int) (li : Bool) (w : World) : Calls Tryd.prog 94 #[.int .u16 d, .agg #[.bool false, .bool li]] w (RetEf ⟨0, false, -38, false, 0, false, 0⟩ w) := by
 go_enter Tryd.func94, Tryd.ntmps94
 go_wp2_with fail
 refine (missing_w _).mono ?_
 rintro e w1 ⟨rfl, hb⟩
 obtain ⟨hk_a, hk_r, hB⟩ := boxes2 hb
 clear hb
 have hc_a := blk_cell hk_a.out; have hf_a := blk_frozen hk_a.out; have hl_a := blk_lt hk_a.out
 have hc_r := blk_cell hk_r.out; have hf_r := blk_frozen hk_r.out; have hl_r := blk_lt hk_r.out
 have HB := Aside0.mk hB; clear hB
 go_wp2_with fail
 refine bodyPost_ret (v := .agg #[.int .i64 0, .bool false, .int .i64 (-38), .bool false, .int .u16 0, .bool false, .int .i64 0]) (by simp [results, Tryd.results94, go_sem, hc_r]) rfl ⟨rfl, by repeat (first | (with_reducible exact HB.out) | (with_reducible exact Below.refl _ _) | (with_reducible refine Below.alloc ?_ (by have hz := HB.out.size; simp only [World.size_alloc]; omega) _) | (with_reducible refine Below.setCell ?_ (by have hz := HB.out.size; first | (simp; done) | (simp; omega)) _) | (with_reducible refine below_drewN' ?_ _) | (with_reducible refine below_drew' ?_))⟩

set_option maxHeartbeats 1000000 in
theorem eff5 (d : Int) (li : Bool) (w : World) : Calls Tryd.prog 94 #[.int .u16 d, .agg #[.bool true, .bool li]] w (RetEf ⟨0, false, 0, false, d, false, 1⟩ w) := by
 go_enter Tryd.func94, Tryd.ntmps94
 go_wp2_with fail
 refine bodyPost_ret (v := .agg #[.int .i64 0, .bool false, .int .i64 (0), .bool false, .int .u16 d, .bool false, .int .i64 1]) (by simp [results, Tryd.results94, go_sem]) rfl ⟨rfl, ?_⟩
 repeat (first | (with_reducible exact Below.refl _ _) | (with_reducible refine Below.alloc ?_ (by simp only [World.size_alloc]; omega) _) | (with_reducible refine Below.alloc ?_ (Nat.le_refl _) _))

set_option maxHeartbeats 1000000 in
theorem eff6 (d : Int) (tr li : Bool) (w : World) : Calls Tryd.prog 95 #[.int .u16 d, .agg #[.bool tr, .bool li]] w (RetEf ⟨0, true, 0, false, 0, true, 0⟩ w) := by
 go_enter Tryd.func95, Tryd.ntmps95
 go_wp2_with fail
 refine bodyPost_ret (v := .agg #[.int .i64 0, .bool true, .int .i64 (0), .bool false, .int .u16 0, .bool true, .int .i64 0]) (by simp [results, Tryd.results95, go_sem]) rfl ⟨rfl, ?_⟩
 repeat (first | (with_reducible exact Below.refl _ _) | (with_reducible refine Below.alloc ?_ (by simp only [World.size_alloc]; omega) _) | (with_reducible refine Below.alloc ?_ (Nat.le_refl _) _))

set_option maxHeartbeats 1000000 in
theorem eff7 (d : Int) (tr li : Bool) (w : World) : Calls Tryd.prog 96 #[.int .u16 d, .agg #[.bool tr, .bool li]] w (RetEf ⟨0, true, 0, false, 0, false, 0⟩ w) := by
 go_enter Tryd.func96, Tryd.ntmps96
 go_wp2_with fail
 refine bodyPost_ret (v := .agg #[.int .i64 0, .bool true, .int .i64 (0), .bool false, .int .u16 0, .bool false, .int .i64 0]) (by simp [results, Tryd.results96, go_sem]) rfl ⟨rfl, ?_⟩
 repeat (first | (with_reducible exact Below.refl _ _) | (with_reducible refine Below.alloc ?_ (by simp only [World.size_alloc]; omega) _) | (with_reducible refine Below.alloc ?_ (Nat.le_refl _) _))

def effV (a d : Int) (tr li : Bool) : Ef :=
 if a = 0 then ⟨2, false, 0, false, 0, true, 0⟩ else if a = 1 then ⟨1, false, 0, false, 0, true, 0⟩ else if a = 2 then ⟨0, false, 0, true, d, false, 0⟩
 else if a = 3 then ⟨0, false, -(if d ≤ 4095 then d else 4095), false, 0, false, 0⟩
 else if a = 4 then (if li = true then ⟨0, false, 0, false, 0, false, 2⟩ else ⟨0, false, -38, false, 0, false, 0⟩)
 else if a = 5 then (if tr = true then ⟨0, false, 0, false, d, false, 1⟩ else ⟨0, false, -38, false, 0, false, 0⟩)
 else if a = 6 then ⟨0, true, 0, false, 0, true, 0⟩ else ⟨0, true, 0, false, 0, false, 0⟩
theorem eff3 (d : Int) (tr li : Bool) (h0 : 0 ≤ d) (h1 : d ≤ 65535) (w : World) : Calls Tryd.prog 91 #[.int .u16 d, .agg #[.bool tr, .bool li]] w (RetEf (effV 3 d tr li) w) := by
 unfold effV
 by_cases h : d ≤ 4095
 ·simpa [h] using eff3a d tr li h0 h w
 ·simpa [h] using eff3b d tr li (by omega) h1 w
theorem eff0V (d : Int) (tr li : Bool) (w : World) : Calls Tryd.prog 88 #[.int .u16 d, .agg #[.bool tr, .bool li]] w (RetEf (effV 0 d tr li) w) := by
 unfold effV; simpa using eff0 d tr li w
theorem eff1V (d : Int) (tr li : Bool) (w : World) : Calls Tryd.prog 89 #[.int .u16 d, .agg #[.bool tr, .bool li]] w (RetEf (effV 1 d tr li) w) := by
 unfold effV; simpa using eff1 d tr li w
theorem eff2V (d : Int) (tr li : Bool) (w : World) : Calls Tryd.prog 90 #[.int .u16 d, .agg #[.bool tr, .bool li]] w (RetEf (effV 2 d tr li) w) := by
 unfold effV; simpa using eff2 d tr li w
theorem eff6V (d : Int) (tr li : Bool) (w : World) : Calls Tryd.prog 95 #[.int .u16 d, .agg #[.bool tr, .bool li]] w (RetEf (effV 6 d tr li) w) := by
 unfold effV; simpa using eff6 d tr li w
theorem eff7V (d : Int) (tr li : Bool) (w : World) : Calls Tryd.prog 96 #[.int .u16 d, .agg #[.bool tr, .bool li]] w (RetEf (effV 7 d tr li) w) := by
 unfold effV; simpa using eff7 d tr li w
theorem eff4V (d : Int) (tr li : Bool) (w : World) : Calls Tryd.prog 92 #[.int .u16 d, .agg #[.bool tr, .bool li]] w (RetEf (effV 4 d tr li) w) := by
 unfold effV; cases li
 ·simpa using eff4m d tr w
 ·simpa using eff4 d tr w
theorem eff5V (d : Int) (tr li : Bool) (w : World) : Calls Tryd.prog 94 #[.int .u16 d, .agg #[.bool tr, .bool li]] w (RetEf (effV 5 d tr li) w) := by
 unfold effV; cases tr
 ·simpa using eff5m d li w
 ·simpa using eff5 d li w
end L
end Go.Proofs.YtcbiehinhmkjmaaDoor.PE
