import Derived.Test.YtpejeeemefmafaaPHx1
import Derived.WalkSpells
import Derived.WalkLawsBesides
import Derived.Deep.RegionHeld3
import Derived.Deep.QuietTactic
import Derived.BigQuiet
import Derived.LoopTactic
import Derived.WalkMore
import Derived.RegionTactic
import Derived.Outline
import Derived.Lib.Hide
import Derived.StillTailTactics
namespace Go.Proofs.Ytpejeeemefmafaa.PE.L
open Go.RowKit Go.Proofs.YtpejeeemefmafaaW.PrintWords Go.Proofs.YtpejeeemefmafaaW.PrintLast Go.Proofs.YtpejeeemefmafaaW.PrintMore
set_option linter.unusedVariables false
set_option linter.unusedSimpArgs false
theorem heap_new_at (w : World) (o : Obj) (n : Nat) (hn : n = w.heap.size) : (w.alloc o).heap[n]? = some o := hn ▸ heap_alloc_new w o
theorem below_drewN' {B : Nat} {w W : World} (h : Below B w W) (n : Nat) : Below B w (W.drewN n) := pw_below_drewN h n
theorem below_drew' {B : Nat} {w W : World} (h : Below B w W) : Below B w W.drew := below_drew h
theorem boxes1 {w w' : World} {c0 : Array Value} {t0 : TypeId} (hb : Below (w.alloc (.cells c0 t0)).heap.size (w.alloc (.cells c0 t0)) w') :
    Aside0 (w'.heap[w.heap.size]? = some (.cells c0 t0 (0, 0))) ∧ Below w.heap.size w w' := by
  have h0 : w'.heap[w.heap.size]? = some (.cells c0 t0 (0, 0)) := (hb.block _ (by simp only [World.size_alloc]; omega)).trans (heap_new_at w (.cells c0 t0) (w.heap.size) (by simp only [World.size_alloc]))
  exact ⟨⟨h0⟩, ((Below.refl _ _).alloc (Nat.le_refl _) _).trans (hb.mono (by simp only [World.size_alloc]; omega))⟩

theorem boxes2 {w w' : World} {c0 c1 : Array Value} {t0 t1 : TypeId} (hb : Below ((w.alloc (.cells c0 t0)).alloc (.cells c1 t1)).heap.size ((w.alloc (.cells c0 t0)).alloc (.cells c1 t1)) w') :
    Aside0 (w'.heap[w.heap.size]? = some (.cells c0 t0 (0, 0))) ∧ Aside0 (w'.heap[w.heap.size + 1]? = some (.cells c1 t1 (0, 0))) ∧ Below w.heap.size w w' := by
  have h0 : w'.heap[w.heap.size]? = some (.cells c0 t0 (0, 0)) := (hb.block _ (by simp only [World.size_alloc]; omega)).trans ((Below.heap_alloc (w.alloc (.cells c0 t0)) (.cells c1 t1) (w.heap.size) (by simp only [World.size_alloc]; omega)).trans (heap_new_at w (.cells c0 t0) (w.heap.size) (by simp only [World.size_alloc])))
  have h1 : w'.heap[w.heap.size + 1]? = some (.cells c1 t1 (0, 0)) := (hb.block _ (by simp only [World.size_alloc]; omega)).trans (heap_new_at (w.alloc (.cells c0 t0)) (.cells c1 t1) (w.heap.size + 1) (by simp only [World.size_alloc]))
  exact ⟨⟨h0⟩, ⟨h1⟩, (((Below.refl _ _).alloc (Nat.le_refl _) _).alloc (by simp only [World.size_alloc]; omega) _).trans (hb.mono (by simp only [World.size_alloc]; omega))⟩

theorem boxes3 {w w' : World} {c0 c1 c2 : Array Value} {t0 t1 t2 : TypeId} (hb : Below (((w.alloc (.cells c0 t0)).alloc (.cells c1 t1)).alloc (.cells c2 t2)).heap.size (((w.alloc (.cells c0 t0)).alloc (.cells c1 t1)).alloc (.cells c2 t2)) w') :
    Aside0 (w'.heap[w.heap.size]? = some (.cells c0 t0 (0, 0))) ∧ Aside0 (w'.heap[w.heap.size + 1]? = some (.cells c1 t1 (0, 0))) ∧ Aside0 (w'.heap[w.heap.size + 2]? = some (.cells c2 t2 (0, 0))) ∧ Below w.heap.size w w' := by
  have h0 : w'.heap[w.heap.size]? = some (.cells c0 t0 (0, 0)) := (hb.block _ (by simp only [World.size_alloc]; omega)).trans ((Below.heap_alloc ((w.alloc (.cells c0 t0)).alloc (.cells c1 t1)) (.cells c2 t2) (w.heap.size) (by simp only [World.size_alloc]; omega)).trans ((Below.heap_alloc (w.alloc (.cells c0 t0)) (.cells c1 t1) (w.heap.size) (by simp only [World.size_alloc]; omega)).trans (heap_new_at w (.cells c0 t0) (w.heap.size) (by simp only [World.size_alloc]))))
  have h1 : w'.heap[w.heap.size + 1]? = some (.cells c1 t1 (0, 0)) := (hb.block _ (by simp only [World.size_alloc]; omega)).trans ((Below.heap_alloc ((w.alloc (.cells c0 t0)).alloc (.cells c1 t1)) (.cells c2 t2) (w.heap.size + 1) (by simp only [World.size_alloc]; omega)).trans (heap_new_at (w.alloc (.cells c0 t0)) (.cells c1 t1) (w.heap.size + 1) (by simp only [World.size_alloc])))
  have h2 : w'.heap[w.heap.size + 2]? = some (.cells c2 t2 (0, 0)) := (hb.block _ (by simp only [World.size_alloc]; omega)).trans (heap_new_at ((w.alloc (.cells c0 t0)).alloc (.cells c1 t1)) (.cells c2 t2) (w.heap.size + 2) (by simp only [World.size_alloc]))
  exact ⟨⟨h0⟩, ⟨h1⟩, ⟨h2⟩, ((((Below.refl _ _).alloc (Nat.le_refl _) _).alloc (by simp only [World.size_alloc]; omega) _).alloc (by simp only [World.size_alloc]; omega) _).trans (hb.mono (by simp only [World.size_alloc]; omega))⟩

theorem boxes4 {w w' : World} {c0 c1 c2 c3 : Array Value} {t0 t1 t2 t3 : TypeId} (hb : Below ((((w.alloc (.cells c0 t0)).alloc (.cells c1 t1)).alloc (.cells c2 t2)).alloc (.cells c3 t3)).heap.size ((((w.alloc (.cells c0 t0)).alloc (.cells c1 t1)).alloc (.cells c2 t2)).alloc (.cells c3 t3)) w') :
    Aside0 (w'.heap[w.heap.size]? = some (.cells c0 t0 (0, 0))) ∧ Aside0 (w'.heap[w.heap.size + 1]? = some (.cells c1 t1 (0, 0))) ∧ Aside0 (w'.heap[w.heap.size + 2]? = some (.cells c2 t2 (0, 0))) ∧ Aside0 (w'.heap[w.heap.size + 3]? = some (.cells c3 t3 (0, 0))) ∧ Below w.heap.size w w' := by
  have h0 : w'.heap[w.heap.size]? = some (.cells c0 t0 (0, 0)) := (hb.block _ (by simp only [World.size_alloc]; omega)).trans ((Below.heap_alloc (((w.alloc (.cells c0 t0)).alloc (.cells c1 t1)).alloc (.cells c2 t2)) (.cells c3 t3) (w.heap.size) (by simp only [World.size_alloc]; omega)).trans ((Below.heap_alloc ((w.alloc (.cells c0 t0)).alloc (.cells c1 t1)) (.cells c2 t2) (w.heap.size) (by simp only [World.size_alloc]; omega)).trans ((Below.heap_alloc (w.alloc (.cells c0 t0)) (.cells c1 t1) (w.heap.size) (by simp only [World.size_alloc]; omega)).trans (heap_new_at w (.cells c0 t0) (w.heap.size) (by simp only [World.size_alloc])))))
  have h1 : w'.heap[w.heap.size + 1]? = some (.cells c1 t1 (0, 0)) := (hb.block _ (by simp only [World.size_alloc]; omega)).trans ((Below.heap_alloc (((w.alloc (.cells c0 t0)).alloc (.cells c1 t1)).alloc (.cells c2 t2)) (.cells c3 t3) (w.heap.size + 1) (by simp only [World.size_alloc]; omega)).trans ((Below.heap_alloc ((w.alloc (.cells c0 t0)).alloc (.cells c1 t1)) (.cells c2 t2) (w.heap.size + 1) (by simp only [World.size_alloc]; omega)).trans (heap_new_at (w.alloc (.cells c0 t0)) (.cells c1 t1) (w.heap.size + 1) (by simp only [World.size_alloc]))))
  have h2 : w'.heap[w.heap.size + 2]? = some (.cells c2 t2 (0, 0)) := (hb.block _ (by simp only [World.size_alloc]; omega)).trans ((Below.heap_alloc (((w.alloc (.cells c0 t0)).alloc (.cells c1 t1)).alloc (.cells c2 t2)) (.cells c3 t3) (w.heap.size + 2) (by simp only [World.size_alloc]; omega)).trans (heap_new_at ((w.alloc (.cells c0 t0)).alloc (.cells c1 t1)) (.cells c2 t2) (w.heap.size + 2) (by simp only [World.size_alloc])))
  have h3 : w'.heap[w.heap.size + 3]? = some (.cells c3 t3 (0, 0)) := (hb.block _ (by simp only [World.size_alloc]; omega)).trans (heap_new_at (((w.alloc (.cells c0 t0)).alloc (.cells c1 t1)).alloc (.cells c2 t2)) (.cells c3 t3) (w.heap.size + 3) (by simp only [World.size_alloc]))
  exact ⟨⟨h0⟩, ⟨h1⟩, ⟨h2⟩, ⟨h3⟩, (((((Below.refl _ _).alloc (Nat.le_refl _) _).alloc (by simp only [World.size_alloc]; omega) _).alloc (by simp only [World.size_alloc]; omega) _).alloc (by simp only [World.size_alloc]; omega) _).trans (hb.mono (by simp only [World.size_alloc]; omega))⟩

theorem err_w (g : Nat) (er : Int) (w : World) (hc : w.cell? ⟨g, 2, none⟩ = some (.int .i64 er)) : Calls Try.prog 32 #[.pointer (some ⟨g, 0, none⟩)] w fun e w' => e = .returned (.int .i64 er) ∧ Drawn0 w w' := by
  go_enter Try.func32, Try.ntmps32
  go_wp2
  go_ret
  exact ⟨rfl, Drawn0.refl _⟩
theorem left_w (g : Nat) (sa : Option Addr) (len c f : Nat) (w : World) (h0 : w.cell? ⟨g, 0, none⟩ = some (.slice sa len c)) (h1 : w.cell? ⟨g, 1, none⟩ = some (.int .i64 f)) (hf : f ≤ len) (hl : len ≤ 140737488351232) :
    Calls Try.prog 31 #[.pointer (some ⟨g, 0, none⟩)] w fun e w' => e = .returned (.int .i64 ((len : Int) - f)) ∧ Drawn0 w w' := by
  have b0 : 0 ≤ (len : Int) - f := by omega
  have b1 : (len : Int) - f ≤ 140737488351232 := by omega
  have q1 : (0 : Int) ≤ len := by omega
  have q2 : (len : Int) ≤ 140737488351232 := by omega
  have q3 : (0 : Int) ≤ f := by omega
  go_enter Try.func31, Try.ntmps31
  go_wp2
  go_quiet (fail)
  go_wp2
  go_ret
  exact ⟨rfl, ⟨⟨_, rfl⟩⟩⟩
theorem shl_u64 (m : Int) (i : Nat) (h0 : 0 ≤ m) (h1 : m < 256) (hi : i < 8) : shl .u64 m (8 * i) = m * 256 ^ i := by
  obtain rfl | rfl | rfl | rfl | rfl | rfl | rfl | rfl : i = 0 ∨ i = 1 ∨ i = 2 ∨ i = 3 ∨ i = 4 ∨ i = 5 ∨ i = 6 ∨ i = 7 := by omega
  all_goals (simp [shl, IntKind.wrap, IntKind.bits, IntKind.signed]; omega)

theorem sc_other {W : World} {a b : Addr} {v : Value} (h : a ≠ b) : (W.setCell a v).cell? b = W.cell? b := by
  first | exact World.cell?_setCell_other h | exact World.cell?_setCell_other _ h | exact World.cell?_setCell_other _ _ h | exact World.cell?_setCell_other _ _ _ h | exact World.cell?_setCell_other _ _ _ _ h
theorem sc_same {W : World} {a : Addr} {u v : Value} (h : W.cell? a = some u) : (W.setCell a v).cell? a = some v := by
  first | exact World.cell?_setCell_same h | exact World.cell?_setCell_same _ h | exact World.cell?_setCell_same _ _ h | exact World.cell?_setCell_same _ _ _ h | exact World.cell?_setCell_same _ _ _ _ h
structure Rdr (n₀ g s c : Nat) (l : List Int) (f : Nat) (er : Int) (W : World) : Prop where
  hg : n₀ ≤ g
  hgs : g ≠ s
  hgl : g < W.heap.size
  hsl : s < W.heap.size
  c0 : W.cell? ⟨g, 0, none⟩ = some (.slice (some ⟨s, 0, none⟩) l.length c)
  c1 : W.cell? ⟨g, 1, none⟩ = some (.int .i64 f)
  c2 : W.cell? ⟨g, 2, none⟩ = some (.int .i64 er)
  f1 : W.frozen? ⟨g, 1, none⟩ = false
  f2 : W.frozen? ⟨g, 2, none⟩ = false
  cs : ∀ j, j < l.length → W.cell? ⟨s, j, none⟩ = some (.int .u8 (l[j]?.getD 0))
theorem Rdr.drewN {n₀ g s c : Nat} {l : List Int} {f : Nat} {er : Int} {W : World} (h : Rdr n₀ g s c l f er W) (k : Nat) : Rdr n₀ g s c l f er (W.drewN k) :=
  ⟨h.hg, h.hgs, h.hgl, h.hsl, h.c0, h.c1, h.c2, h.f1, h.f2, h.cs⟩
theorem Rdr.drew {n₀ g s c : Nat} {l : List Int} {f : Nat} {er : Int} {W : World} (h : Rdr n₀ g s c l f er W) : Rdr n₀ g s c l f er W.drew :=
  ⟨h.hg, h.hgs, h.hgl, h.hsl, h.c0, h.c1, h.c2, h.f1, h.f2, h.cs⟩
theorem Rdr.setX {n₀ g s c : Nat} {l : List Int} {f : Nat} {er : Int} {W : World} (h : Rdr n₀ g s c l f er W) {X : Nat} (hg : X ≠ g) (hs : X ≠ s) (v : Value) : Rdr n₀ g s c l f er (W.setCell ⟨X, 0, none⟩ v) := by
  have hg' := Ne.symm hg
  have hs' := Ne.symm hs
  refine ⟨h.hg, h.hgs, by simpa using h.hgl, by simpa using h.hsl, ?_, ?_, ?_, ?_, ?_, fun j hj => ?_⟩
  · rw [← h.c0]; exact sc_other (fun e => hg (congrArg Addr.block e))
  · rw [← h.c1]; exact sc_other (fun e => hg (congrArg Addr.block e))
  · rw [← h.c2]; exact sc_other (fun e => hg (congrArg Addr.block e))
  · rw [← h.f1]; simp
  · rw [← h.f2]; simp
  · rw [← h.cs j hj]; exact sc_other (fun e => hs (congrArg Addr.block e))
theorem Rdr.set1 {n₀ g s c : Nat} {l : List Int} {f : Nat} {er : Int} {W : World} (h : Rdr n₀ g s c l f er W) (f' : Nat) : Rdr n₀ g s c l f' er (W.setCell ⟨g, 1, none⟩ (.int .i64 f')) := by
  refine ⟨h.hg, h.hgs, by simpa using h.hgl, by simpa using h.hsl, ?_, sc_same h.c1, ?_, ?_, ?_, fun j hj => ?_⟩
  · rw [← h.c0]; exact sc_other (fun e => absurd (congrArg Addr.off e) (by simp))
  · rw [← h.c2]; exact sc_other (fun e => absurd (congrArg Addr.off e) (by simp))
  · rw [← h.f1]; simp
  · rw [← h.f2]; simp
  · rw [← h.cs j hj]; exact sc_other (fun e => h.hgs (congrArg Addr.block e))
theorem Rdr.set2 {n₀ g s c : Nat} {l : List Int} {f : Nat} {er : Int} {W : World} (h : Rdr n₀ g s c l f er W) (er' : Int) : Rdr n₀ g s c l f er' (W.setCell ⟨g, 2, none⟩ (.int .i64 er')) := by
  refine ⟨h.hg, h.hgs, by simpa using h.hgl, by simpa using h.hsl, ?_, ?_, sc_same h.c2, ?_, ?_, fun j hj => ?_⟩
  · rw [← h.c0]; exact sc_other (fun e => absurd (congrArg Addr.off e) (by simp))
  · rw [← h.c1]; exact sc_other (fun e => absurd (congrArg Addr.off e) (by simp))
  · rw [← h.f1]; simp
  · rw [← h.f2]; simp
  · rw [← h.cs j hj]; exact sc_other (fun e => h.hgs (congrArg Addr.block e))
theorem Rdr.below {n₀ g s c : Nat} {l : List Int} {f : Nat} {er : Int} {W W' : World} (h : Rdr n₀ g s c l f er W) (hb : Below W.heap.size W W') : Rdr n₀ g s c l f er W' :=
  ⟨h.hg, h.hgs, Nat.lt_of_lt_of_le h.hgl hb.size, Nat.lt_of_lt_of_le h.hsl hb.size, (hb.cell (p := ⟨g, 0, none⟩) h.hgl).trans h.c0, (hb.cell (p := ⟨g, 1, none⟩) h.hgl).trans h.c1, (hb.cell (p := ⟨g, 2, none⟩) h.hgl).trans h.c2, by rw [← h.f1]; exact hb.frozen (p := ⟨g, 1, none⟩) h.hgl, by rw [← h.f2]; exact hb.frozen (p := ⟨g, 2, none⟩) h.hgl, fun j hj => (hb.cell (p := ⟨s, j, none⟩) h.hsl).trans (h.cs j hj)⟩
def acc (l : List Int) (f : Nat) : Nat → Int
  | 0 => 0
  | k + 1 => acc l f k + (l[f + k]?.getD 0) * 256 ^ k
set_option maxHeartbeats 1000000 in
theorem add_0 (X : Nat) (x m : Int) (w : World) (hc : w.cell? ⟨X, 0, none⟩ = some (.int .u64 x)) (hf : w.frozen? ⟨X, 0, none⟩ = false) (hx : 0 ≤ x) (h0 : 0 ≤ m) (h1 : m < 256) (hs : x + m < 18446744073709551616) :
    Calls Try.prog 58 #[.int .i64 0, .int .u8 m, .pointer (some ⟨X, 0, none⟩)] w fun e w' => e = .returned (.tuple #[]) ∧ w' = (w.setCell ⟨X, 0, none⟩ (.int .u64 (x + m))).drew := by
  go_enter Try.func58, Try.ntmps58
  go_wp2
  go_outline
  go_region
  all_goals go_end0
  all_goals exact ⟨rfl, rfl⟩
set_option maxHeartbeats 1000000 in
theorem add_1 (X : Nat) (x m : Int) (w : World) (hc : w.cell? ⟨X, 0, none⟩ = some (.int .u64 x)) (hf : w.frozen? ⟨X, 0, none⟩ = false) (hx : 0 ≤ x) (h0 : 0 ≤ m) (h1 : m < 256) (hs : x + m * 256 < 18446744073709551616) :
    Calls Try.prog 58 #[.int .i64 1, .int .u8 m, .pointer (some ⟨X, 0, none⟩)] w fun e w' => e = .returned (.tuple #[]) ∧ w' = (w.setCell ⟨X, 0, none⟩ (.int .u64 (x + m * 256))).drew := by
  go_enter Try.func58, Try.ntmps58
  go_wp2
  go_outline
  go_region
  all_goals go_end0
  all_goals exact ⟨rfl, rfl⟩
theorem add_w (k : Nat) (hk : k < 2) (X : Nat) (x m : Int) (w : World) (hc : w.cell? ⟨X, 0, none⟩ = some (.int .u64 x)) (hf : w.frozen? ⟨X, 0, none⟩ = false) (hx : 0 ≤ x) (h0 : 0 ≤ m) (h1 : m < 256) (hs : x < 256) :
    Calls Try.prog 58 #[.int .i64 (k : Int), .int .u8 m, .pointer (some ⟨X, 0, none⟩)] w fun e w' => e = .returned (.tuple #[]) ∧ w' = (w.setCell ⟨X, 0, none⟩ (.int .u64 (x + m * 256 ^ k))).drew := by
  obtain rfl | rfl : k = 0 ∨ k = 1 := by omega
  · have h := add_0 X x m w hc hf hx h0 h1 (by omega)
    simpa using h
  · have h := add_1 X x m w hc hf hx h0 h1 (by omega)
    simpa using h
def Bytes (l : List Int) : Prop := ∀ j : Nat, 0 ≤ l[j]?.getD 0 ∧ l[j]?.getD 0 < 256
set_option maxHeartbeats 2000000 in
theorem look_w (n₀ g s c X n f : Nat) (l : List Int) (hn : n ≤ 2) (hl : Bytes l) (hlen : l.length ≤ 100) (hfn : f + n ≤ l.length) (hn₀ : n₀ ≤ X) (hXg : X ≠ g) (hXs : X ≠ s) (w : World) (hX : X < w.heap.size) (hR : Rdr n₀ g s c l f 0 w)
    (hc : w.cell? ⟨X, 0, none⟩ = some (.int .u64 0)) (hf : w.frozen? ⟨X, 0, none⟩ = false) :
    Calls Try.prog 48 #[.pointer (some ⟨g, 0, none⟩), .int .i64 (n : Int), .func (.func 58) #[] #[.pointer (some ⟨X, 0, none⟩)]] w fun e w' => e = .returned (.tuple #[]) ∧ Rdr n₀ g s c l (f + n) 0 w' ∧ w'.cell? ⟨X, 0, none⟩ = some (.int .u64 (acc l f n)) ∧ Below n₀ w w' := by
  go_enter Try.func48, Try.ntmps48
  go_wp2_with fail
  refine (err_w g 0 w hR.c2).mono ?_
  rintro e w1 ⟨rfl, ⟨k1, rfl⟩⟩
  go_wp2_with fail
  refine (left_w g (some ⟨s, 0, none⟩) l.length c f _ ((World.cell?_drewN _ _ _).trans hR.c0) ((World.cell?_drewN _ _ _).trans hR.c1) (by omega) (by omega)).mono ?_
  rintro e w2 ⟨rfl, ⟨k2, rfl⟩⟩
  have hle : ¬ ((l.length : Int) - f < n) := by omega
  have h0n : ¬ ((n : Int) < 0) := by omega
  go_wp2_with fail
  go_loopw [23] (fun i wr => ∃ k : Nat, k ≤ n ∧ i = .int .i64 k ∧ Aside0 (Rdr n₀ g s c l f 0 wr) ∧ Aside0 (wr.cell? ⟨X, 0, none⟩ = some (.int .u64 (acc l f k))) ∧ Aside0 (wr.frozen? ⟨X, 0, none⟩ = false) ∧ Aside0 (X < wr.heap.size) ∧ Aside0 (Below n₀ w wr)) (fun i _ => n - (intOf i).toNat)
  case atStart => exact ⟨0, Nat.zero_le _, rfl, ⟨hR.drewN _⟩, ⟨hc⟩, ⟨hf⟩, ⟨hX⟩, ⟨below_drewN' (Below.refl _ _) _⟩⟩
  case round =>
    obtain ⟨k, hk, rfl, hRr, hcr, hfr, hXl, hB⟩ := hrel
    by_cases hlt : k < n
    · have g0 := hRr.out.c0
      have g1 := hRr.out.c1
      have gs := hRr.out.cs (f + k) (by omega)
      go_wp2
      have e1 : IntKind.i64.wrap ((f : Int) + k) = f + k := by simp [IntKind.wrap, IntKind.bits, IntKind.signed]; omega
      have b0 : (0 : Int) ≤ f + k := by omega
      have b1 : (f : Int) + k < l.length := by omega
      have b2 : ((f : Int) + k).toNat = f + k := by omega
      go_still_tail 16, (by kernel_rfl)
      change wpList _ _ _ _ _ wr.drew
      have hx : 0 ≤ acc l f k ∧ acc l f k < 256 := by
        have : k = 0 ∨ k = 1 := by omega
        rcases this with rfl | rfl
        · simp [acc]
        · have := hl f
          simp [acc]; omega
      have hm := hl (f + k)
      go_wp2_with fail
      refine (add_w k (by omega) X (acc l f k) _ wr.drew hcr.out hfr.out hx.1 hm.1 hm.2 hx.2).mono ?_
      rintro e W3 ⟨rfl, rfl⟩
      go_wp2
      go_roundw
      case rel => exact ⟨k + 1, by omega, by simp, ⟨(hRr.out.drew.setX hXg hXs _).drew⟩, ⟨sc_same hcr.out⟩, ⟨by simpa using hfr.out⟩, ⟨by simpa using hXl.out⟩, ⟨below_drew' (Below.setCell (below_drew' hB.out) hn₀ _)⟩⟩
      case measure => simp [intOf]; omega
    · obtain rfl : k = n := by omega
      have g1 := hRr.out.c1
      have ff := hRr.out.f1
      go_wp2
      go_end0
      have h' := hRr.out.set1 (f + k)
      rw [Int.natCast_add] at h'
      exact ⟨rfl, h', (sc_other (fun e => hXg (congrArg Addr.block e).symm)).trans hcr.out, Below.setCell hB.out hRr.out.hg _⟩
set_option maxHeartbeats 2000000 in
theorem short_w (n₀ g s c X n f : Nat) (l : List Int) (hn : n ≤ 2) (hf0 : f ≤ l.length) (hlen : l.length ≤ 100) (hfn : l.length < f + n) (w : World) (hR : Rdr n₀ g s c l f 0 w) (hXg : X ≠ g)
    (hc : w.cell? ⟨X, 0, none⟩ = some (.int .u64 0)) :
    Calls Try.prog 48 #[.pointer (some ⟨g, 0, none⟩), .int .i64 (n : Int), .func (.func 58) #[] #[.pointer (some ⟨X, 0, none⟩)]] w fun e w' => e = .returned (.tuple #[]) ∧ Rdr n₀ g s c l f 7 w' ∧ w'.cell? ⟨X, 0, none⟩ = some (.int .u64 0) ∧ Below n₀ w w' := by
  go_enter Try.func48, Try.ntmps48
  go_wp2_with fail
  refine (err_w g 0 w hR.c2).mono ?_
  rintro e w1 ⟨rfl, ⟨k1, rfl⟩⟩
  go_wp2_with fail
  refine (left_w g (some ⟨s, 0, none⟩) l.length c f _ ((World.cell?_drewN _ _ _).trans hR.c0) ((World.cell?_drewN _ _ _).trans hR.c1) (by omega) (by omega)).mono ?_
  rintro e w2 ⟨rfl, ⟨k2, rfl⟩⟩
  have hle : ((l.length : Int) - f < n) := by omega
  have h0n : ¬ ((n : Int) < 0) := by omega
  have g2 := hR.c2
  have ff := hR.f2
  go_wp2
  refine bodyPost_ret (results_none rfl _ _ _) rfl ?_
  exact ⟨rfl, (hR.drewN _).set2 7, (sc_other (fun e => hXg (congrArg Addr.block e).symm)).trans hc, Below.setCell (below_drewN' (Below.refl _ _) _) hR.hg _⟩

theorem nbox (w : World) (n₀ g s c f : Nat) (l : List Int) (hR : Rdr n₀ g s c l f 0 w) :
    Rdr n₀ g s c l f 0 (w.alloc (.cells #[.int .u64 0] 26)) ∧ (w.alloc (.cells #[.int .u64 0] 26)).cell? ⟨w.heap.size, 0, none⟩ = some (.int .u64 0) ∧ (w.alloc (.cells #[.int .u64 0] 26)).frozen? ⟨w.heap.size, 0, none⟩ = false ∧ w.heap.size < (w.alloc (.cells #[.int .u64 0] 26)).heap.size := by
  have hk : (w.alloc (.cells #[.int .u64 0] 26)).heap[w.heap.size]? = some (.cells #[.int .u64 0] 26 (0, 0)) := heap_alloc_new w _
  exact ⟨hR.below ((Below.refl _ _).alloc (Nat.le_refl _) _), blk_cell hk 0, blk_frozen hk 0, blk_lt hk⟩
set_option maxHeartbeats 1000000 in
theorem number_w (n₀ g s c n f : Nat) (l : List Int) (hn : n ≤ 2) (hl : Bytes l) (hlen : l.length ≤ 100) (hfn : f + n ≤ l.length) (w : World) (hn₀ : n₀ ≤ w.heap.size) (hR : Rdr n₀ g s c l f 0 w) :
    Calls Try.prog 50 #[.pointer (some ⟨g, 0, none⟩), .int .i64 (n : Int)] w fun e w' => e = .returned (.int .u64 (acc l f n)) ∧ Rdr n₀ g s c l (f + n) 0 w' ∧ Below n₀ w w' := by
  obtain ⟨r1, r2, r3, r4⟩ := nbox w n₀ g s c f l hR
  have q1 := hR.hgl
  have q2 := hR.hsl
  go_enter Try.func50, Try.ntmps50
  go_wp2_with fail
  refine (look_w n₀ g s c w.heap.size n f l hn hl hlen hfn hn₀ (by omega) (by omega) _ r4 r1 r2 r3).mono ?_
  rintro e W ⟨rfl, hR', hcx, hB⟩
  go_wp2
  go_ret
  exact ⟨rfl, hR', ((Below.refl _ _).alloc hn₀ _).trans hB⟩
set_option maxHeartbeats 1000000 in
theorem number_s (n₀ g s c n f : Nat) (l : List Int) (hn : n ≤ 2) (hf0 : f ≤ l.length) (hlen : l.length ≤ 100) (hfn : l.length < f + n) (w : World) (hn₀ : n₀ ≤ w.heap.size) (hR : Rdr n₀ g s c l f 0 w) :
    Calls Try.prog 50 #[.pointer (some ⟨g, 0, none⟩), .int .i64 (n : Int)] w fun e w' => e = .returned (.int .u64 0) ∧ Rdr n₀ g s c l f 7 w' ∧ Below n₀ w w' := by
  obtain ⟨r1, r2, r3, r4⟩ := nbox w n₀ g s c f l hR
  have q1 := hR.hgl
  go_enter Try.func50, Try.ntmps50
  go_wp2_with fail
  refine (short_w n₀ g s c w.heap.size n f l hn hf0 hlen hfn _ r1 (by omega) r2).mono ?_
  rintro e W ⟨rfl, hR', hcx, hB⟩
  go_wp2
  go_ret
  exact ⟨rfl, hR', ((Below.refl _ _).alloc hn₀ _).trans hB⟩
theorem u8_w (n₀ g s c f : Nat) (l : List Int) (hl : Bytes l) (hlen : l.length ≤ 100) (hfn : f + 1 ≤ l.length) (hv : 0 ≤ acc l f 1) (hv' : acc l f 1 < 256) (w : World) (hn₀ : n₀ ≤ w.heap.size) (hR : Rdr n₀ g s c l f 0 w) :
    Calls Try.prog 27 #[.pointer (some ⟨g, 0, none⟩)] w fun e w' => e = .returned (.int .u8 (acc l f 1)) ∧ Rdr n₀ g s c l (f + 1) 0 w' ∧ Below n₀ w w' := by
  go_enter Try.func27, Try.ntmps27
  go_wp2_with fail
  refine (number_w n₀ g s c 1 f l (by omega) hl hlen hfn w hn₀ hR).mono ?_
  rintro e W ⟨rfl, hR', hB⟩
  go_wp2
  go_ret
  exact ⟨rfl, hR', hB⟩
theorem u16_w (n₀ g s c f : Nat) (l : List Int) (hl : Bytes l) (hlen : l.length ≤ 100) (hfn : f + 2 ≤ l.length) (hv : 0 ≤ acc l f 2) (hv' : acc l f 2 < 65536) (w : World) (hn₀ : n₀ ≤ w.heap.size) (hR : Rdr n₀ g s c l f 0 w) :
    Calls Try.prog 28 #[.pointer (some ⟨g, 0, none⟩)] w fun e w' => e = .returned (.int .u16 (acc l f 2)) ∧ Rdr n₀ g s c l (f + 2) 0 w' ∧ Below n₀ w w' := by
  go_enter Try.func28, Try.ntmps28
  go_wp2_with fail
  refine (number_w n₀ g s c 2 f l (by omega) hl hlen hfn w hn₀ hR).mono ?_
  rintro e W ⟨rfl, hR', hB⟩
  go_wp2
  go_ret
  exact ⟨rfl, hR', hB⟩
theorem u16_s (n₀ g s c f : Nat) (l : List Int) (hf0 : f ≤ l.length) (hlen : l.length ≤ 100) (hfn : l.length < f + 2) (w : World) (hn₀ : n₀ ≤ w.heap.size) (hR : Rdr n₀ g s c l f 0 w) :
    Calls Try.prog 28 #[.pointer (some ⟨g, 0, none⟩)] w fun e w' => e = .returned (.int .u16 0) ∧ Rdr n₀ g s c l f 7 w' ∧ Below n₀ w w' := by
  go_enter Try.func28, Try.ntmps28
  go_wp2_with fail
  refine (number_s n₀ g s c 2 f l (by omega) hf0 hlen hfn w hn₀ hR).mono ?_
  rintro e W ⟨rfl, hR', hB⟩
  go_wp2
  go_ret
  exact ⟨rfl, hR', hB⟩

theorem C_block (W : World) (b : Nat) (xs : List Int) (hx : xs.length ≤ 100) (hk : W.heap[b]? = some (.cells (xs.map fun x => Value.int .u8 x).toArray 5 (0, 0))) : Kd.C (Kd.int .u8) W (some ⟨b, 0, none⟩) xs.length xs := by
  refine ⟨rfl, by omega, fun _ => ⟨_, rfl, fun j p hj => ⟨[.int .u8 p], rfl, rfl, fun i u hu => ?_⟩⟩⟩
  cases i with
  | succ i => simp at hu
  | zero =>
    have hc := blk_cell hk j
    simp at hu
    subst hu
    have ha : (({ block := b, off := 0 } : Addr).add (j * (Kd.int .u8).sz + 0)) = ⟨b, j, none⟩ := by
      show (({ block := b, off := 0 } : Addr).add (j * 1 + 0)) = ⟨b, j, none⟩
      rw [Nat.mul_one, Nat.add_zero]; first | (simp [Addr.add]; done) | (simp [Addr.add]; omega) | (unfold Addr.add; simp only [Nat.zero_add])
    rw [ha]
    exact hc.trans (by simp [hj])
theorem read_w (n₀ : Nat) (A0 : Option Addr) (c0 : Nat) (l0 : List Int) (w : World) (hr0 : Kd.C (Kd.int .u8) w A0 l0.length l0) (hc0 : l0.length ≤ c0) (hp : 0 < l0.length) (hlen : l0.length ≤ 100) (hn₀ : n₀ ≤ w.heap.size) :
    Calls Try.prog 23 #[.slice A0 l0.length c0] w fun e w' => ∃ g s c, e = .returned (.pointer (some ⟨g, 0, none⟩)) ∧ Rdr n₀ g s c l0 0 0 w' ∧ Below w.heap.size w w' := by
  go_enter Try.func23, Try.ntmps23
  go_wp2_with fail
  refine (PH.slices_Clone_byte_byte.calls A0 c0 l0 l0 w hr0 hc0 (by simp [PH.slices_Clone_byte_byte.f]; omega)).mono ?_
  rintro e W ⟨v, rfl, hR, hB⟩
  obtain ⟨s, c, rfl, hs, hsl, _⟩ := Kd.R_form hR hp
  have hcs : ∀ j, j < l0.length → W.cell? ⟨s, j, none⟩ = some (.int .u8 (l0[j]?.getD 0)) := fun j hj => by
    have h := (Kd.R_celln 0 hR (j : Int) (by omega) (by omega)).1
    simpa [rdOf] using h
  go_wp2
  go_ret
  have hk : (W.alloc (.cells #[.slice (some ⟨s, 0, none⟩) l0.length c, .int .i64 0, .int .i64 0] 77)).heap[W.heap.size]? = some (.cells #[.slice (some ⟨s, 0, none⟩) l0.length c, .int .i64 0, .int .i64 0] 77 (0, 0)) := heap_alloc_new W _
  have hb2 : Below W.heap.size W (W.alloc (.cells #[.slice (some ⟨s, 0, none⟩) l0.length c, .int .i64 0, .int .i64 0] 77)) := (Below.refl _ _).alloc (Nat.le_refl _) _
  have hz := hB.size
  exact ⟨W.heap.size, s, c, rfl, ⟨by omega, by omega, blk_lt hk, Nat.lt_of_lt_of_le hsl hb2.size, blk_cell hk 0, blk_cell hk 1, blk_cell hk 2, blk_frozen hk 1, blk_frozen hk 2, fun j hj => (hb2.cell (p := ⟨s, j, none⟩) hsl).trans (hcs j hj)⟩, hB.trans (hb2.mono hz)⟩
theorem bytes4 : Bytes [42, 1, 0, 5] := fun j => by
  match j with
  | 0 => simp
  | 1 => simp
  | 2 => simp
  | 3 => simp
  | j + 4 => simp
theorem addv : PH.octet_Add.f 10 [255, 0] [1] = some [0, 1] := by
  simp [PH.octet_Add.f, PH.octet_Add.l0, PH.octet_Add_c1.f, rd, wrap64, mx]
theorem putv : PH.octet_Put64.f 10 [7] 1 = some [7, 1, 0, 0, 0, 0, 0, 0, 0] := by
  have h0 : IntKind.u64.wrap 0 = 0 := by simp [IntKind.wrap, IntKind.bits, IntKind.signed]
  simp [h0, PH.octet_Put64.f, PH.octet_put.f, PH.octet_put.l0, PH.slices_Clone_byte_byte.f, rd, wrap64, mx]
set_option maxHeartbeats 4000000 in
theorem wakes_w (w : World) : Calls Try.prog 14 #[] w fun e w' => e = .returned (.bool true) ∧ Below w.heap.size w w' := by
  go_enter Try.func14, Try.ntmps14
  go_wp2_with fail
  have hka : (w.alloc (.cells #[.int .u8 42, .int .u8 1, .int .u8 0, .int .u8 5] 5)).heap[w.heap.size]? = some (.cells #[.int .u8 42, .int .u8 1, .int .u8 0, .int .u8 5] 5 (0, 0)) := heap_alloc_new w _
  refine (read_w w.heap.size (some ⟨w.heap.size, 0, none⟩) 4 [42, 1, 0, 5] _ (C_block _ _ [42, 1, 0, 5] (by simp) hka) (by simp) (by simp) (by simp) (by simp)).mono ?_
  rintro e w1 ⟨g, s, c, rfl, hR1, hB1⟩
  have HB1 : Below w.heap.size w w1 := ((Below.refl _ _).alloc (Nat.le_refl _) _).trans (hB1.mono (by simp))
  clear hB1
  go_wp2_with fail
  refine (u8_w w.heap.size g s c 0 [42, 1, 0, 5] bytes4 (by simp) (by simp) (by decide) (by decide) w1 HB1.size hR1).mono ?_
  rintro e w2 ⟨rfl, hR2, hB2⟩
  rw [show acc [42, 1, 0, 5] 0 1 = 42 from rfl]
  have HB2 := HB1.trans hB2
  go_wp2_with fail
  refine (u16_w w.heap.size g s c 1 [42, 1, 0, 5] bytes4 (by simp) (by simp) (by decide) (by decide) w2 HB2.size hR2).mono ?_
  rintro e w3 ⟨rfl, hR3, hB3⟩
  rw [show acc [42, 1, 0, 5] 1 2 = 1 from rfl]
  have HB3 := HB2.trans hB3
  go_wp2_with fail
  refine (u16_s w.heap.size g s c 3 [42, 1, 0, 5] (by simp) (by simp) (by simp) w3 HB3.size hR3).mono ?_
  rintro e w4 ⟨rfl, hR4, hB4⟩
  have HB4 := HB3.trans hB4
  clear hR1 hR2 hR3 HB1 HB2 HB3 hB2 hB3 hB4
  go_wp2_with fail
  have hk1 : (w4.alloc (.cells #[.int .u8 255, .int .u8 0] 5)).heap[w4.heap.size]? = some (.cells #[.int .u8 255, .int .u8 0] 5 (0, 0)) := heap_alloc_new w4 _
  have hk2 : ((w4.alloc (.cells #[.int .u8 255, .int .u8 0] 5)).alloc (.cells #[.int .u8 1] 5)).heap[w4.heap.size + 1]? = some (.cells #[.int .u8 1] 5 (0, 0)) := heap_new_at _ _ _ (by simp)
  have hk1' : ((w4.alloc (.cells #[.int .u8 255, .int .u8 0] 5)).alloc (.cells #[.int .u8 1] 5)).heap[w4.heap.size]? = some (.cells #[.int .u8 255, .int .u8 0] 5 (0, 0)) := (Below.heap_alloc _ _ _ (by simp)).trans hk1
  refine (PH.octet_Add.calls 10 (some ⟨w4.heap.size, 0, none⟩) 2 [255, 0] (some ⟨w4.heap.size + 1, 0, none⟩) 1 [1] [0, 1] _ (C_block _ _ [255, 0] (by simp) hk1') (by simp) (C_block _ _ [1] (by simp) hk2) (by simp) addv).mono ?_
  rintro e w5 ⟨v, rfl, hRa, hB5⟩
  obtain ⟨a, ca, rfl, ha, hal, _⟩ := Kd.R_form hRa (by simp)
  have hB5' : Below w4.heap.size w4 w5 := (((Below.refl _ _).alloc (Nat.le_refl _) _).alloc (by simp) _).trans (hB5.mono (by simp; omega))
  have hR5 := hR4.below hB5'
  have HB5 := HB4.trans (hB5'.mono HB4.size)
  have x0 : w5.cell? ⟨a, 0, none⟩ = some (.int .u8 0) := (Kd.R_celln 0 hRa 0 (by omega) (by simp)).1
  have x1 : w5.cell? ⟨a, 1, none⟩ = some (.int .u8 1) := (Kd.R_celln 0 hRa 1 (by omega) (by simp)).1
  clear hR4 HB4 hB5 hB5' hRa hka hk1 hk2 hk1'
  go_wp2_with fail
  refine (err_w g 7 w5 hR5.c2).mono ?_
  rintro e w6 ⟨rfl, ⟨k1, rfl⟩⟩
  go_wp2_with fail
  refine (left_w g (some ⟨s, 0, none⟩) 4 c 3 _ ((World.cell?_drewN _ _ _).trans hR5.c0) ((World.cell?_drewN _ _ _).trans hR5.c1) (by omega) (by omega)).mono ?_
  rintro e w6 ⟨rfl, ⟨k2, rfl⟩⟩
  go_wp2_with fail
  have hk7 : ((w5.drewN (k1 + k2)).alloc (.cells #[.int .u8 7] 5)).heap[w5.heap.size]? = some (.cells #[.int .u8 7] 5 (0, 0)) := heap_alloc_new (w5.drewN (k1 + k2)) _
  refine (PH.octet_Put64.calls 10 (some ⟨w5.heap.size, 0, none⟩) 1 [7] 1 [7, 1, 0, 0, 0, 0, 0, 0, 0] _ (C_block _ _ [7] (by simp) hk7) (by simp) putv).mono ?_
  rintro e w7 ⟨v, rfl, hRp, hB7⟩
  have hB7' : Below w5.heap.size w5 w7 := ((below_drewN' (Below.refl _ _) _).alloc (Nat.le_refl _) _).trans (hB7.mono (by simp))
  obtain ⟨ap, cp, rfl⟩ := Kd.R_slice hRp
  have y0 : w7.cell? ⟨a, 0, none⟩ = some (.int .u8 0) := (hB7'.cell (p := ⟨a, 0, none⟩) hal).trans x0
  have y1 : w7.cell? ⟨a, 1, none⟩ = some (.int .u8 1) := (hB7'.cell (p := ⟨a, 1, none⟩) hal).trans x1
  have HB7 := HB5.trans (hB7'.mono HB5.size)
  clear hB7 hB7' hRp hk7 x0 x1
  go_wp2
  go_ret
  exact ⟨rfl, HB7⟩
end Go.Proofs.Ytpejeeemefmafaa.PE.L
