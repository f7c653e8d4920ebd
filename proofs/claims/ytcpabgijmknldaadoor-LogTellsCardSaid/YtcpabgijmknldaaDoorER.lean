import Derived.Test.YtcpabgijmknldaaDoorEB
namespace Go.Proofs.YtcpabgijmknldaaDoor.PE
open Go.RowKit Go.Proofs.YtcpabgijmknldaaDoorW.PrintWords Go.Proofs.YtcpabgijmknldaaDoorW.PrintLast Go.Proofs.YtcpabgijmknldaaDoorW.PrintMore
set_option linter.unusedVariables false
set_option linter.unusedSimpArgs false
namespace L

set_option maxHeartbeats 1000000 in
theorem refOf_0 (d : Int) (tr li : Bool) (h0 : 0 ≤ d) (h1 : d ≤ 65535) (w : World) : Calls Tryd.prog 30 #[.agg #[.int .i64 0, .int .u16 d], .agg #[.bool tr, .bool li]] w (RetE2 ⟨2, false, 0, false, 0, true, 0⟩ 0 w) := by
  go_enter Tryd.func30, Tryd.ntmps30
  go_wp2_with fail
  refine bodyPost_ret (v := .tuple #[.agg #[.int .i64 (2), .bool false, .int .i64 (0), .bool false, .int .u16 (0), .bool true, .int .i64 (0)], .int .i64 0]) (by simp [results, Tryd.results30, go_sem]) rfl ⟨rfl, ?_⟩
  exact (((Below.refl _ _).alloc (Nat.le_refl _) _).alloc (by simp only [World.size_alloc]; omega) _).alloc (by simp only [World.size_alloc]; omega) _

set_option maxHeartbeats 1000000 in
theorem refOf_1 (d : Int) (tr li : Bool) (h0 : 0 ≤ d) (h1 : d ≤ 65535) (w : World) : Calls Tryd.prog 30 #[.agg #[.int .i64 1, .int .u16 d], .agg #[.bool tr, .bool li]] w (RetE2 ⟨1, false, 0, false, 0, true, 0⟩ 0 w) := by
  go_enter Tryd.func30, Tryd.ntmps30
  go_wp2_with fail
  refine bodyPost_ret (v := .tuple #[.agg #[.int .i64 (1), .bool false, .int .i64 (0), .bool false, .int .u16 (0), .bool true, .int .i64 (0)], .int .i64 0]) (by simp [results, Tryd.results30, go_sem]) rfl ⟨rfl, ?_⟩
  exact (((Below.refl _ _).alloc (Nat.le_refl _) _).alloc (by simp only [World.size_alloc]; omega) _).alloc (by simp only [World.size_alloc]; omega) _

set_option maxHeartbeats 1000000 in
theorem refOf_2 (d : Int) (tr li : Bool) (h0 : 0 ≤ d) (h1 : d ≤ 65535) (w : World) : Calls Tryd.prog 30 #[.agg #[.int .i64 2, .int .u16 d], .agg #[.bool tr, .bool li]] w (RetE2 ⟨0, false, 0, true, d, false, 0⟩ 0 w) := by
  go_enter Tryd.func30, Tryd.ntmps30
  go_wp2_with fail
  refine bodyPost_ret (v := .tuple #[.agg #[.int .i64 (0), .bool false, .int .i64 (0), .bool true, .int .u16 (d), .bool false, .int .i64 (0)], .int .i64 0]) (by simp [results, Tryd.results30, go_sem]) rfl ⟨rfl, ?_⟩
  exact (((Below.refl _ _).alloc (Nat.le_refl _) _).alloc (by simp only [World.size_alloc]; omega) _).alloc (by simp only [World.size_alloc]; omega) _

set_option maxHeartbeats 1000000 in
theorem refOf_3a (d : Int) (tr li : Bool) (h0 : 0 ≤ d) (h1 : d ≤ 65535) (h2 : d ≤ 4095) (w : World) : Calls Tryd.prog 30 #[.agg #[.int .i64 3, .int .u16 d], .agg #[.bool tr, .bool li]] w (RetE2 ⟨0, false, -d, false, 0, false, 0⟩ 0 w) := by
  go_enter Tryd.func30, Tryd.ntmps30
  go_wp2_with fail
  refine bodyPost_ret (v := .tuple #[.agg #[.int .i64 (0), .bool false, .int .i64 (-d), .bool false, .int .u16 (0), .bool false, .int .i64 (0)], .int .i64 0]) (by simp [results, Tryd.results30, go_sem]) rfl ⟨rfl, ?_⟩
  exact (((Below.refl _ _).alloc (Nat.le_refl _) _).alloc (by simp only [World.size_alloc]; omega) _).alloc (by simp only [World.size_alloc]; omega) _

set_option maxHeartbeats 1000000 in
theorem refOf_3b (d : Int) (tr li : Bool) (h0 : 0 ≤ d) (h1 : d ≤ 65535) (h2 : 4095 < d) (w : World) : Calls Tryd.prog 30 #[.agg #[.int .i64 3, .int .u16 d], .agg #[.bool tr, .bool li]] w (RetE2 ⟨0, false, -4095, false, 0, false, 0⟩ 0 w) := by
  go_enter Tryd.func30, Tryd.ntmps30
  go_wp2_with fail
  refine bodyPost_ret (v := .tuple #[.agg #[.int .i64 (0), .bool false, .int .i64 (-4095), .bool false, .int .u16 (0), .bool false, .int .i64 (0)], .int .i64 0]) (by simp [results, Tryd.results30, go_sem]) rfl ⟨rfl, ?_⟩
  exact (((Below.refl _ _).alloc (Nat.le_refl _) _).alloc (by simp only [World.size_alloc]; omega) _).alloc (by simp only [World.size_alloc]; omega) _

set_option maxHeartbeats 1000000 in
theorem refOf_4a (d : Int) (tr : Bool) (h0 : 0 ≤ d) (h1 : d ≤ 65535) (w : World) : Calls Tryd.prog 30 #[.agg #[.int .i64 4, .int .u16 d], .agg #[.bool tr, .bool true]] w (RetE2 ⟨0, false, 0, false, 0, false, 2⟩ 0 w) := by
  go_enter Tryd.func30, Tryd.ntmps30
  go_wp2_with fail
  refine bodyPost_ret (v := .tuple #[.agg #[.int .i64 (0), .bool false, .int .i64 (0), .bool false, .int .u16 (0), .bool false, .int .i64 (2)], .int .i64 0]) (by simp [results, Tryd.results30, go_sem]) rfl ⟨rfl, ?_⟩
  exact (((Below.refl _ _).alloc (Nat.le_refl _) _).alloc (by simp only [World.size_alloc]; omega) _).alloc (by simp only [World.size_alloc]; omega) _

set_option maxHeartbeats 1000000 in
theorem refOf_4b (d : Int) (tr : Bool) (h0 : 0 ≤ d) (h1 : d ≤ 65535) (w : World) : Calls Tryd.prog 30 #[.agg #[.int .i64 4, .int .u16 d], .agg #[.bool tr, .bool false]] w (RetE2 ⟨0, false, -38, false, 0, false, 0⟩ 0 w) := by
  go_enter Tryd.func30, Tryd.ntmps30
  go_wp2_with fail
  refine bodyPost_ret (v := .tuple #[.agg #[.int .i64 (0), .bool false, .int .i64 (-38), .bool false, .int .u16 (0), .bool false, .int .i64 (0)], .int .i64 0]) (by simp [results, Tryd.results30, go_sem]) rfl ⟨rfl, ?_⟩
  exact (((Below.refl _ _).alloc (Nat.le_refl _) _).alloc (by simp only [World.size_alloc]; omega) _).alloc (by simp only [World.size_alloc]; omega) _

set_option maxHeartbeats 1000000 in
theorem refOf_5a (d : Int) (li : Bool) (h0 : 0 ≤ d) (h1 : d ≤ 65535) (w : World) : Calls Tryd.prog 30 #[.agg #[.int .i64 5, .int .u16 d], .agg #[.bool true, .bool li]] w (RetE2 ⟨0, false, 0, false, d, false, 1⟩ 0 w) := by
  go_enter Tryd.func30, Tryd.ntmps30
  go_wp2_with fail
  refine bodyPost_ret (v := .tuple #[.agg #[.int .i64 (0), .bool false, .int .i64 (0), .bool false, .int .u16 (d), .bool false, .int .i64 (1)], .int .i64 0]) (by simp [results, Tryd.results30, go_sem]) rfl ⟨rfl, ?_⟩
  exact (((Below.refl _ _).alloc (Nat.le_refl _) _).alloc (by simp only [World.size_alloc]; omega) _).alloc (by simp only [World.size_alloc]; omega) _

set_option maxHeartbeats 1000000 in
theorem refOf_5b (d : Int) (li : Bool) (h0 : 0 ≤ d) (h1 : d ≤ 65535) (w : World) : Calls Tryd.prog 30 #[.agg #[.int .i64 5, .int .u16 d], .agg #[.bool false, .bool li]] w (RetE2 ⟨0, false, -38, false, 0, false, 0⟩ 0 w) := by
  go_enter Tryd.func30, Tryd.ntmps30
  go_wp2_with fail
  refine bodyPost_ret (v := .tuple #[.agg #[.int .i64 (0), .bool false, .int .i64 (-38), .bool false, .int .u16 (0), .bool false, .int .i64 (0)], .int .i64 0]) (by simp [results, Tryd.results30, go_sem]) rfl ⟨rfl, ?_⟩
  exact (((Below.refl _ _).alloc (Nat.le_refl _) _).alloc (by simp only [World.size_alloc]; omega) _).alloc (by simp only [World.size_alloc]; omega) _

set_option maxHeartbeats 1000000 in
theorem refOf_6 (d : Int) (tr li : Bool) (h0 : 0 ≤ d) (h1 : d ≤ 65535) (w : World) : Calls Tryd.prog 30 #[.agg #[.int .i64 6, .int .u16 d], .agg #[.bool tr, .bool li]] w (RetE2 ⟨0, true, 0, false, 0, true, 0⟩ 0 w) := by
  go_enter Tryd.func30, Tryd.ntmps30
  go_wp2_with fail
  refine bodyPost_ret (v := .tuple #[.agg #[.int .i64 (0), .bool true, .int .i64 (0), .bool false, .int .u16 (0), .bool true, .int .i64 (0)], .int .i64 0]) (by simp [results, Tryd.results30, go_sem]) rfl ⟨rfl, ?_⟩
  exact (((Below.refl _ _).alloc (Nat.le_refl _) _).alloc (by simp only [World.size_alloc]; omega) _).alloc (by simp only [World.size_alloc]; omega) _

set_option maxHeartbeats 1000000 in
theorem refOf_7 (d : Int) (tr li : Bool) (h0 : 0 ≤ d) (h1 : d ≤ 65535) (w : World) : Calls Tryd.prog 30 #[.agg #[.int .i64 7, .int .u16 d], .agg #[.bool tr, .bool li]] w (RetE2 ⟨0, true, 0, false, 0, false, 0⟩ 0 w) := by
  go_enter Tryd.func30, Tryd.ntmps30
  go_wp2_with fail
  refine bodyPost_ret (v := .tuple #[.agg #[.int .i64 (0), .bool true, .int .i64 (0), .bool false, .int .u16 (0), .bool false, .int .i64 (0)], .int .i64 0]) (by simp [results, Tryd.results30, go_sem]) rfl ⟨rfl, ?_⟩
  exact (((Below.refl _ _).alloc (Nat.le_refl _) _).alloc (by simp only [World.size_alloc]; omega) _).alloc (by simp only [World.size_alloc]; omega) _

set_option maxHeartbeats 1000000 in
theorem refOf_no (a : Int) (d : Int) (tr li : Bool) (h0 : 0 ≤ d) (h1 : d ≤ 65535) (h : ¬ (0 ≤ a ∧ a < 8)) (w : World) : Calls Tryd.prog 30 #[.agg #[.int .i64 a, .int .u16 d], .agg #[.bool tr, .bool li]] w (RetE2 ⟨0, false, 0, false, 0, false, 0⟩ 160 w) := by
  have z0 : (a == 0) = false := by simp; omega
  have z1 : (a == 1) = false := by simp; omega
  have z2 : (a == 2) = false := by simp; omega
  have z3 : (a == 3) = false := by simp; omega
  have z4 : (a == 4) = false := by simp; omega
  have z5 : (a == 5) = false := by simp; omega
  have z6 : (a == 6) = false := by simp; omega
  have z7 : (a == 7) = false := by simp; omega
  clear h
  go_enter Tryd.func30, Tryd.ntmps30
  go_wp2_with fail
  refine bodyPost_ret (v := .tuple #[.agg #[.int .i64 (0), .bool false, .int .i64 (0), .bool false, .int .u16 (0), .bool false, .int .i64 (0)], .int .i64 160]) (by simp [results, Tryd.results30, go_sem]) rfl ⟨rfl, ?_⟩
  exact (((Below.refl _ _).alloc (Nat.le_refl _) _).alloc (by simp only [World.size_alloc]; omega) _).alloc (by simp only [World.size_alloc]; omega) _

theorem refOf_w (a d : Int) (tr li : Bool) (h0 : 0 ≤ d) (h1 : d ≤ 65535) (w : World) : Calls Tryd.prog 30 #[.agg #[.int .i64 a, .int .u16 d], .agg #[.bool tr, .bool li]] w (RetE2 (OfV a d tr li) (OfE a) w) := by
  unfold OfV OfE
  by_cases h : 0 ≤ a ∧ a < 8
  · rw [if_pos h, if_pos h]
    obtain rfl | rfl | rfl | rfl | rfl | rfl | rfl | rfl : a = 0 ∨ a = 1 ∨ a = 2 ∨ a = 3 ∨ a = 4 ∨ a = 5 ∨ a = 6 ∨ a = 7 := by omega
    · exact refOf_0 d tr li h0 h1 w
    · exact refOf_1 d tr li h0 h1 w
    · exact refOf_2 d tr li h0 h1 w
    · by_cases h2 : d ≤ 4095
      · simpa [effV, h2] using refOf_3a d tr li h0 h1 h2 w
      · simpa [effV, h2] using refOf_3b d tr li h0 h1 (by omega) w
    · cases li
      · exact refOf_4b d tr h0 h1 w
      · exact refOf_4a d tr h0 h1 w
    · cases tr
      · exact refOf_5b d li h0 h1 w
      · exact refOf_5a d li h0 h1 w
    · exact refOf_6 d tr li h0 h1 w
    · exact refOf_7 d tr li h0 h1 w
  · rw [if_neg h, if_neg h]
    exact refOf_no a d tr li h0 h1 h w
end L
end Go.Proofs.YtcpabgijmknldaaDoor.PE
