import Derived.Test.YtmhgckamkokedaaAC2
namespace Go.Proofs.Ytmhgckamkokedaa.PE.L
open Go.RowKit Go.Proofs.YtmhgckamkokedaaW.PrintWords Go.Proofs.YtmhgckamkokedaaW.PrintLast Go.Proofs.YtmhgckamkokedaaW.PrintMore
set_option linter.unusedVariables false
set_option linter.unusedSimpArgs false

theorem half_0 (w : World) : Calls Try.prog 23 #[.int .i64 0] w fun e w' => e = .returned (.int .u32 32768) ∧ Drawn0 w w' := by
  have i0 : ∀ wz, (Instr.index 66 (.agg #[.int .u32 32768, .int .u32 0, .int .u32 3, .int .u32 5, .int .u32 32704, .int .u32 32752, .int .u32 32764, .int .u32 32767]) (.int .i64 0)).run Try.prog wz = .ok (.int .u32 32768) wz := fun _ => by kernel_rfl
  go_enter Try.func23, Try.ntmps23
  go_wp2
  go_ret
  exact ⟨rfl, Drawn0.refl _⟩
theorem name_0 (w : World) : Calls Try.prog 18 #[.int .i64 0] w fun e w' => e = .returned (.string (⟨#[107, 105, 108, 108, 46, 112, 114, 111, 99, 101, 115, 115]⟩ : ByteArray)) ∧ Drawn0 w w' := by
  have i0 : ∀ wz, (Instr.index 62 (.agg #[.string (⟨#[107, 105, 108, 108, 46, 112, 114, 111, 99, 101, 115, 115]⟩ : ByteArray), .string (⟨#[107, 105, 108, 108, 46, 116, 104, 114, 101, 97, 100]⟩ : ByteArray), .string (⟨#[116, 114, 97, 112]⟩ : ByteArray), .string (⟨#[101, 114, 114, 110, 111]⟩ : ByteArray), .string (⟨#[110, 111, 116, 105, 102, 121]⟩ : ByteArray), .string (⟨#[116, 114, 97, 99, 101]⟩ : ByteArray), .string (⟨#[108, 111, 103]⟩ : ByteArray), .string (⟨#[97, 108, 108, 111, 119]⟩ : ByteArray)]) (.int .i64 0)).run Try.prog wz = .ok (.string (⟨#[107, 105, 108, 108, 46, 112, 114, 111, 99, 101, 115, 115]⟩ : ByteArray)) wz := fun _ => by kernel_rfl
  go_enter Try.func18, Try.ntmps18
  go_wp2
  go_ret
  exact ⟨rfl, Drawn0.refl _⟩

theorem half_1 (w : World) : Calls Try.prog 23 #[.int .i64 1] w fun e w' => e = .returned (.int .u32 0) ∧ Drawn0 w w' := by
  have i0 : ∀ wz, (Instr.index 66 (.agg #[.int .u32 32768, .int .u32 0, .int .u32 3, .int .u32 5, .int .u32 32704, .int .u32 32752, .int .u32 32764, .int .u32 32767]) (.int .i64 1)).run Try.prog wz = .ok (.int .u32 0) wz := fun _ => by kernel_rfl
  go_enter Try.func23, Try.ntmps23
  go_wp2
  go_ret
  exact ⟨rfl, Drawn0.refl _⟩
theorem name_1 (w : World) : Calls Try.prog 18 #[.int .i64 1] w fun e w' => e = .returned (.string (⟨#[107, 105, 108, 108, 46, 116, 104, 114, 101, 97, 100]⟩ : ByteArray)) ∧ Drawn0 w w' := by
  have i0 : ∀ wz, (Instr.index 62 (.agg #[.string (⟨#[107, 105, 108, 108, 46, 112, 114, 111, 99, 101, 115, 115]⟩ : ByteArray), .string (⟨#[107, 105, 108, 108, 46, 116, 104, 114, 101, 97, 100]⟩ : ByteArray), .string (⟨#[116, 114, 97, 112]⟩ : ByteArray), .string (⟨#[101, 114, 114, 110, 111]⟩ : ByteArray), .string (⟨#[110, 111, 116, 105, 102, 121]⟩ : ByteArray), .string (⟨#[116, 114, 97, 99, 101]⟩ : ByteArray), .string (⟨#[108, 111, 103]⟩ : ByteArray), .string (⟨#[97, 108, 108, 111, 119]⟩ : ByteArray)]) (.int .i64 1)).run Try.prog wz = .ok (.string (⟨#[107, 105, 108, 108, 46, 116, 104, 114, 101, 97, 100]⟩ : ByteArray)) wz := fun _ => by kernel_rfl
  go_enter Try.func18, Try.ntmps18
  go_wp2
  go_ret
  exact ⟨rfl, Drawn0.refl _⟩

theorem half_2 (w : World) : Calls Try.prog 23 #[.int .i64 2] w fun e w' => e = .returned (.int .u32 3) ∧ Drawn0 w w' := by
  have i0 : ∀ wz, (Instr.index 66 (.agg #[.int .u32 32768, .int .u32 0, .int .u32 3, .int .u32 5, .int .u32 32704, .int .u32 32752, .int .u32 32764, .int .u32 32767]) (.int .i64 2)).run Try.prog wz = .ok (.int .u32 3) wz := fun _ => by kernel_rfl
  go_enter Try.func23, Try.ntmps23
  go_wp2
  go_ret
  exact ⟨rfl, Drawn0.refl _⟩
theorem name_2 (w : World) : Calls Try.prog 18 #[.int .i64 2] w fun e w' => e = .returned (.string (⟨#[116, 114, 97, 112]⟩ : ByteArray)) ∧ Drawn0 w w' := by
  have i0 : ∀ wz, (Instr.index 62 (.agg #[.string (⟨#[107, 105, 108, 108, 46, 112, 114, 111, 99, 101, 115, 115]⟩ : ByteArray), .string (⟨#[107, 105, 108, 108, 46, 116, 104, 114, 101, 97, 100]⟩ : ByteArray), .string (⟨#[116, 114, 97, 112]⟩ : ByteArray), .string (⟨#[101, 114, 114, 110, 111]⟩ : ByteArray), .string (⟨#[110, 111, 116, 105, 102, 121]⟩ : ByteArray), .string (⟨#[116, 114, 97, 99, 101]⟩ : ByteArray), .string (⟨#[108, 111, 103]⟩ : ByteArray), .string (⟨#[97, 108, 108, 111, 119]⟩ : ByteArray)]) (.int .i64 2)).run Try.prog wz = .ok (.string (⟨#[116, 114, 97, 112]⟩ : ByteArray)) wz := fun _ => by kernel_rfl
  go_enter Try.func18, Try.ntmps18
  go_wp2
  go_ret
  exact ⟨rfl, Drawn0.refl _⟩

theorem half_3 (w : World) : Calls Try.prog 23 #[.int .i64 3] w fun e w' => e = .returned (.int .u32 5) ∧ Drawn0 w w' := by
  have i0 : ∀ wz, (Instr.index 66 (.agg #[.int .u32 32768, .int .u32 0, .int .u32 3, .int .u32 5, .int .u32 32704, .int .u32 32752, .int .u32 32764, .int .u32 32767]) (.int .i64 3)).run Try.prog wz = .ok (.int .u32 5) wz := fun _ => by kernel_rfl
  go_enter Try.func23, Try.ntmps23
  go_wp2
  go_ret
  exact ⟨rfl, Drawn0.refl _⟩
theorem name_3 (w : World) : Calls Try.prog 18 #[.int .i64 3] w fun e w' => e = .returned (.string (⟨#[101, 114, 114, 110, 111]⟩ : ByteArray)) ∧ Drawn0 w w' := by
  have i0 : ∀ wz, (Instr.index 62 (.agg #[.string (⟨#[107, 105, 108, 108, 46, 112, 114, 111, 99, 101, 115, 115]⟩ : ByteArray), .string (⟨#[107, 105, 108, 108, 46, 116, 104, 114, 101, 97, 100]⟩ : ByteArray), .string (⟨#[116, 114, 97, 112]⟩ : ByteArray), .string (⟨#[101, 114, 114, 110, 111]⟩ : ByteArray), .string (⟨#[110, 111, 116, 105, 102, 121]⟩ : ByteArray), .string (⟨#[116, 114, 97, 99, 101]⟩ : ByteArray), .string (⟨#[108, 111, 103]⟩ : ByteArray), .string (⟨#[97, 108, 108, 111, 119]⟩ : ByteArray)]) (.int .i64 3)).run Try.prog wz = .ok (.string (⟨#[101, 114, 114, 110, 111]⟩ : ByteArray)) wz := fun _ => by kernel_rfl
  go_enter Try.func18, Try.ntmps18
  go_wp2
  go_ret
  exact ⟨rfl, Drawn0.refl _⟩

theorem half_4 (w : World) : Calls Try.prog 23 #[.int .i64 4] w fun e w' => e = .returned (.int .u32 32704) ∧ Drawn0 w w' := by
  have i0 : ∀ wz, (Instr.index 66 (.agg #[.int .u32 32768, .int .u32 0, .int .u32 3, .int .u32 5, .int .u32 32704, .int .u32 32752, .int .u32 32764, .int .u32 32767]) (.int .i64 4)).run Try.prog wz = .ok (.int .u32 32704) wz := fun _ => by kernel_rfl
  go_enter Try.func23, Try.ntmps23
  go_wp2
  go_ret
  exact ⟨rfl, Drawn0.refl _⟩
theorem name_4 (w : World) : Calls Try.prog 18 #[.int .i64 4] w fun e w' => e = .returned (.string (⟨#[110, 111, 116, 105, 102, 121]⟩ : ByteArray)) ∧ Drawn0 w w' := by
  have i0 : ∀ wz, (Instr.index 62 (.agg #[.string (⟨#[107, 105, 108, 108, 46, 112, 114, 111, 99, 101, 115, 115]⟩ : ByteArray), .string (⟨#[107, 105, 108, 108, 46, 116, 104, 114, 101, 97, 100]⟩ : ByteArray), .string (⟨#[116, 114, 97, 112]⟩ : ByteArray), .string (⟨#[101, 114, 114, 110, 111]⟩ : ByteArray), .string (⟨#[110, 111, 116, 105, 102, 121]⟩ : ByteArray), .string (⟨#[116, 114, 97, 99, 101]⟩ : ByteArray), .string (⟨#[108, 111, 103]⟩ : ByteArray), .string (⟨#[97, 108, 108, 111, 119]⟩ : ByteArray)]) (.int .i64 4)).run Try.prog wz = .ok (.string (⟨#[110, 111, 116, 105, 102, 121]⟩ : ByteArray)) wz := fun _ => by kernel_rfl
  go_enter Try.func18, Try.ntmps18
  go_wp2
  go_ret
  exact ⟨rfl, Drawn0.refl _⟩

theorem half_5 (w : World) : Calls Try.prog 23 #[.int .i64 5] w fun e w' => e = .returned (.int .u32 32752) ∧ Drawn0 w w' := by
  have i0 : ∀ wz, (Instr.index 66 (.agg #[.int .u32 32768, .int .u32 0, .int .u32 3, .int .u32 5, .int .u32 32704, .int .u32 32752, .int .u32 32764, .int .u32 32767]) (.int .i64 5)).run Try.prog wz = .ok (.int .u32 32752) wz := fun _ => by kernel_rfl
  go_enter Try.func23, Try.ntmps23
  go_wp2
  go_ret
  exact ⟨rfl, Drawn0.refl _⟩
theorem name_5 (w : World) : Calls Try.prog 18 #[.int .i64 5] w fun e w' => e = .returned (.string (⟨#[116, 114, 97, 99, 101]⟩ : ByteArray)) ∧ Drawn0 w w' := by
  have i0 : ∀ wz, (Instr.index 62 (.agg #[.string (⟨#[107, 105, 108, 108, 46, 112, 114, 111, 99, 101, 115, 115]⟩ : ByteArray), .string (⟨#[107, 105, 108, 108, 46, 116, 104, 114, 101, 97, 100]⟩ : ByteArray), .string (⟨#[116, 114, 97, 112]⟩ : ByteArray), .string (⟨#[101, 114, 114, 110, 111]⟩ : ByteArray), .string (⟨#[110, 111, 116, 105, 102, 121]⟩ : ByteArray), .string (⟨#[116, 114, 97, 99, 101]⟩ : ByteArray), .string (⟨#[108, 111, 103]⟩ : ByteArray), .string (⟨#[97, 108, 108, 111, 119]⟩ : ByteArray)]) (.int .i64 5)).run Try.prog wz = .ok (.string (⟨#[116, 114, 97, 99, 101]⟩ : ByteArray)) wz := fun _ => by kernel_rfl
  go_enter Try.func18, Try.ntmps18
  go_wp2
  go_ret
  exact ⟨rfl, Drawn0.refl _⟩

theorem half_6 (w : World) : Calls Try.prog 23 #[.int .i64 6] w fun e w' => e = .returned (.int .u32 32764) ∧ Drawn0 w w' := by
  have i0 : ∀ wz, (Instr.index 66 (.agg #[.int .u32 32768, .int .u32 0, .int .u32 3, .int .u32 5, .int .u32 32704, .int .u32 32752, .int .u32 32764, .int .u32 32767]) (.int .i64 6)).run Try.prog wz = .ok (.int .u32 32764) wz := fun _ => by kernel_rfl
  go_enter Try.func23, Try.ntmps23
  go_wp2
  go_ret
  exact ⟨rfl, Drawn0.refl _⟩
theorem name_6 (w : World) : Calls Try.prog 18 #[.int .i64 6] w fun e w' => e = .returned (.string (⟨#[108, 111, 103]⟩ : ByteArray)) ∧ Drawn0 w w' := by
  have i0 : ∀ wz, (Instr.index 62 (.agg #[.string (⟨#[107, 105, 108, 108, 46, 112, 114, 111, 99, 101, 115, 115]⟩ : ByteArray), .string (⟨#[107, 105, 108, 108, 46, 116, 104, 114, 101, 97, 100]⟩ : ByteArray), .string (⟨#[116, 114, 97, 112]⟩ : ByteArray), .string (⟨#[101, 114, 114, 110, 111]⟩ : ByteArray), .string (⟨#[110, 111, 116, 105, 102, 121]⟩ : ByteArray), .string (⟨#[116, 114, 97, 99, 101]⟩ : ByteArray), .string (⟨#[108, 111, 103]⟩ : ByteArray), .string (⟨#[97, 108, 108, 111, 119]⟩ : ByteArray)]) (.int .i64 6)).run Try.prog wz = .ok (.string (⟨#[108, 111, 103]⟩ : ByteArray)) wz := fun _ => by kernel_rfl
  go_enter Try.func18, Try.ntmps18
  go_wp2
  go_ret
  exact ⟨rfl, Drawn0.refl _⟩

theorem half_7 (w : World) : Calls Try.prog 23 #[.int .i64 7] w fun e w' => e = .returned (.int .u32 32767) ∧ Drawn0 w w' := by
  have i0 : ∀ wz, (Instr.index 66 (.agg #[.int .u32 32768, .int .u32 0, .int .u32 3, .int .u32 5, .int .u32 32704, .int .u32 32752, .int .u32 32764, .int .u32 32767]) (.int .i64 7)).run Try.prog wz = .ok (.int .u32 32767) wz := fun _ => by kernel_rfl
  go_enter Try.func23, Try.ntmps23
  go_wp2
  go_ret
  exact ⟨rfl, Drawn0.refl _⟩
theorem name_7 (w : World) : Calls Try.prog 18 #[.int .i64 7] w fun e w' => e = .returned (.string (⟨#[97, 108, 108, 111, 119]⟩ : ByteArray)) ∧ Drawn0 w w' := by
  have i0 : ∀ wz, (Instr.index 62 (.agg #[.string (⟨#[107, 105, 108, 108, 46, 112, 114, 111, 99, 101, 115, 115]⟩ : ByteArray), .string (⟨#[107, 105, 108, 108, 46, 116, 104, 114, 101, 97, 100]⟩ : ByteArray), .string (⟨#[116, 114, 97, 112]⟩ : ByteArray), .string (⟨#[101, 114, 114, 110, 111]⟩ : ByteArray), .string (⟨#[110, 111, 116, 105, 102, 121]⟩ : ByteArray), .string (⟨#[116, 114, 97, 99, 101]⟩ : ByteArray), .string (⟨#[108, 111, 103]⟩ : ByteArray), .string (⟨#[97, 108, 108, 111, 119]⟩ : ByteArray)]) (.int .i64 7)).run Try.prog wz = .ok (.string (⟨#[97, 108, 108, 111, 119]⟩ : ByteArray)) wz := fun _ => by kernel_rfl
  go_enter Try.func18, Try.ntmps18
  go_wp2
  go_ret
  exact ⟨rfl, Drawn0.refl _⟩

theorem name_no (a : Int) (h : ¬ (0 ≤ a ∧ a ≤ 7)) (w : World) : Calls Try.prog 18 #[.int .i64 a] w fun e w' => e = .returned (.string (⟨#[]⟩ : ByteArray)) ∧ Drawn0 w w' := by
  by_cases h0 : a < 0
  · go_enter Try.func18, Try.ntmps18
    go_wp2
    go_ret
    exact ⟨rfl, Drawn0.refl _⟩
  · have h1 : 7 < a := by omega
    have h2 : 0 ≤ a := by omega
    clear h h0
    go_enter Try.func18, Try.ntmps18
    go_wp2
    go_ret
    exact ⟨rfl, Drawn0.refl _⟩
end Go.Proofs.Ytmhgckamkokedaa.PE.L
