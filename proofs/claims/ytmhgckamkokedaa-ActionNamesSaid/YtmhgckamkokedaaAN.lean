import Derived.Test.YtmhgckamkokedaaPNx
namespace Go.Proofs.Ytmhgckamkokedaa.PN
open Go.RowKit Go.Proofs.YtmhgckamkokedaaW.PrintWords Go.Proofs.YtmhgckamkokedaaW.PrintLast Go.Proofs.YtmhgckamkokedaaW.PrintMore
set_option linter.unusedVariables false
set_option linter.unusedSimpArgs false
theorem w64_id {n : Int} (h0 : -9223372036854775808 ≤ n) (h1 : n < 9223372036854775808) : wrap64 n = n := by unfold wrap64; omega
theorem wakes_f {k : Nat} (hk : 1000 ≤ k) : wicketgatelaw06_wakes.f k = some true := at_rounds (g := fun k => wicketgatelaw06_wakes.f k) wicketgatelaw06_wakes.mono hk wicketgatelaw06_wakes.tt
theorem nlE : (⟨#[]⟩ : ByteArray).toList = [] := by decide +kernel
def B0 : ByteArray := (⟨#[107, 105, 108, 108, 46, 112, 114, 111, 99, 101, 115, 115]⟩ : ByteArray)
def L0 : List UInt8 := ([107, 105, 108, 108, 46, 112, 114, 111, 99, 101, 115, 115] : List UInt8)
theorem nl0 : B0.toList = L0 := by decide +kernel
def B1 : ByteArray := (⟨#[107, 105, 108, 108, 46, 116, 104, 114, 101, 97, 100]⟩ : ByteArray)
def L1 : List UInt8 := ([107, 105, 108, 108, 46, 116, 104, 114, 101, 97, 100] : List UInt8)
theorem nl1 : B1.toList = L1 := by decide +kernel
def B2 : ByteArray := (⟨#[116, 114, 97, 112]⟩ : ByteArray)
def L2 : List UInt8 := ([116, 114, 97, 112] : List UInt8)
theorem nl2 : B2.toList = L2 := by decide +kernel
def B3 : ByteArray := (⟨#[101, 114, 114, 110, 111]⟩ : ByteArray)
def L3 : List UInt8 := ([101, 114, 114, 110, 111] : List UInt8)
theorem nl3 : B3.toList = L3 := by decide +kernel
def B4 : ByteArray := (⟨#[110, 111, 116, 105, 102, 121]⟩ : ByteArray)
def L4 : List UInt8 := ([110, 111, 116, 105, 102, 121] : List UInt8)
theorem nl4 : B4.toList = L4 := by decide +kernel
def B5 : ByteArray := (⟨#[116, 114, 97, 99, 101]⟩ : ByteArray)
def L5 : List UInt8 := ([116, 114, 97, 99, 101] : List UInt8)
theorem nl5 : B5.toList = L5 := by decide +kernel
def B6 : ByteArray := (⟨#[108, 111, 103]⟩ : ByteArray)
def L6 : List UInt8 := ([108, 111, 103] : List UInt8)
theorem nl6 : B6.toList = L6 := by decide +kernel
def B7 : ByteArray := (⟨#[97, 108, 108, 111, 119]⟩ : ByteArray)
def L7 : List UInt8 := ([97, 108, 108, 111, 119] : List UInt8)
theorem nl7 : B7.toList = L7 := by decide +kernel
theorem rn0 : wicketgateref06_Name.f 0 = some B0 := by unfold wicketgateref06_Name.f B0; simp
theorem an0 : action_Name.f 0 = some (B0, true) := by unfold action_Name.f action_names.f action_at_string.f B0; simp [rdOf]
theorem rn1 : wicketgateref06_Name.f 1 = some B1 := by unfold wicketgateref06_Name.f B1; simp
theorem an1 : action_Name.f 1 = some (B1, true) := by unfold action_Name.f action_names.f action_at_string.f B1; simp [rdOf]
theorem rn2 : wicketgateref06_Name.f 2 = some B2 := by unfold wicketgateref06_Name.f B2; simp
theorem an2 : action_Name.f 2 = some (B2, true) := by unfold action_Name.f action_names.f action_at_string.f B2; simp [rdOf]
theorem rn3 : wicketgateref06_Name.f 3 = some B3 := by unfold wicketgateref06_Name.f B3; simp
theorem an3 : action_Name.f 3 = some (B3, true) := by unfold action_Name.f action_names.f action_at_string.f B3; simp [rdOf]
theorem rn4 : wicketgateref06_Name.f 4 = some B4 := by unfold wicketgateref06_Name.f B4; simp
theorem an4 : action_Name.f 4 = some (B4, true) := by unfold action_Name.f action_names.f action_at_string.f B4; simp [rdOf]
theorem rn5 : wicketgateref06_Name.f 5 = some B5 := by unfold wicketgateref06_Name.f B5; simp
theorem an5 : action_Name.f 5 = some (B5, true) := by unfold action_Name.f action_names.f action_at_string.f B5; simp [rdOf]
theorem rn6 : wicketgateref06_Name.f 6 = some B6 := by unfold wicketgateref06_Name.f B6; simp
theorem an6 : action_Name.f 6 = some (B6, true) := by unfold action_Name.f action_names.f action_at_string.f B6; simp [rdOf]
theorem rn7 : wicketgateref06_Name.f 7 = some B7 := by unfold wicketgateref06_Name.f B7; simp
theorem an7 : action_Name.f 7 = some (B7, true) := by unfold action_Name.f action_names.f action_at_string.f B7; simp [rdOf]
theorem rn_no (a : Int) (h : ¬ (0 ≤ a ∧ a ≤ 7)) : wicketgateref06_Name.f a = some (⟨#[]⟩ : ByteArray) := by
  unfold wicketgateref06_Name.f
  rw [if_neg (by omega), if_neg (by omega), if_neg (by omega), if_neg (by omega), if_neg (by omega), if_neg (by omega), if_neg (by omega), if_neg (by omega)]
theorem an_no (a : Int) (h : ¬ (0 ≤ a ∧ a ≤ 7)) : action_Name.f a = some ((⟨#[]⟩ : ByteArray), false) := by
  unfold action_Name.f action_names.f action_at_string.f
  simp only [Option.bind_some]
  by_cases h1 : a < 0
  · rw [if_pos h1]; rfl
  · rw [if_neg h1, if_pos (by simp; omega)]; rfl
def N8 : List ByteArray := [B0, B1, B2, B3, B4, B5, B6, B7]
theorem st0 (k : Nat) (s : ByteArray) (x11 : Int) (x12 : Bool) (l : List ByteArray) (n i : Int) : wicketgatelaw06_ActionNames.l2 (k + 1) s x11 x12 l n i 0 = if s.toList = L0 then wicketgatelaw06_ActionNames.l2 k s 0 true l n i 1 else wicketgatelaw06_ActionNames.l2 k s x11 x12 l n i 1 := by
  simp only [wicketgatelaw06_ActionNames.l2]
  rw [if_pos (by omega), rn0]
  simp only [Option.bind_some]
  rw [nl0, show wrap64 (0 + 1) = 1 from w64_id (by omega) (by omega)]
  by_cases h : s.toList = L0
  · rw [if_pos h, if_pos h.symm]
  · rw [if_neg h, if_neg (fun e => h e.symm)]
theorem ix0 (k : Nat) (s : ByteArray) : slices_Index_string_string.l0 (k + 1) N8 s 8 0 = if s.toList = L0 then some 0 else slices_Index_string_string.l0 k N8 s 8 1 := by
  simp only [slices_Index_string_string.l0]
  rw [if_pos (by omega), if_pos (by omega), if_pos (by simp [N8]), show rdOf ByteArray.empty N8 0 = B0 from rfl, nl0, show wrap64 (0 + 1) = 1 from w64_id (by omega) (by omega)]
theorem st1 (k : Nat) (s : ByteArray) (x11 : Int) (x12 : Bool) (l : List ByteArray) (n i : Int) : wicketgatelaw06_ActionNames.l2 (k + 1) s x11 x12 l n i 1 = if s.toList = L1 then wicketgatelaw06_ActionNames.l2 k s 1 true l n i 2 else wicketgatelaw06_ActionNames.l2 k s x11 x12 l n i 2 := by
  simp only [wicketgatelaw06_ActionNames.l2]
  rw [if_pos (by omega), rn1]
  simp only [Option.bind_some]
  rw [nl1, show wrap64 (1 + 1) = 2 from w64_id (by omega) (by omega)]
  by_cases h : s.toList = L1
  · rw [if_pos h, if_pos h.symm]
  · rw [if_neg h, if_neg (fun e => h e.symm)]
theorem ix1 (k : Nat) (s : ByteArray) : slices_Index_string_string.l0 (k + 1) N8 s 8 1 = if s.toList = L1 then some 1 else slices_Index_string_string.l0 k N8 s 8 2 := by
  simp only [slices_Index_string_string.l0]
  rw [if_pos (by omega), if_pos (by omega), if_pos (by simp [N8]), show rdOf ByteArray.empty N8 1 = B1 from rfl, nl1, show wrap64 (1 + 1) = 2 from w64_id (by omega) (by omega)]
theorem st2 (k : Nat) (s : ByteArray) (x11 : Int) (x12 : Bool) (l : List ByteArray) (n i : Int) : wicketgatelaw06_ActionNames.l2 (k + 1) s x11 x12 l n i 2 = if s.toList = L2 then wicketgatelaw06_ActionNames.l2 k s 2 true l n i 3 else wicketgatelaw06_ActionNames.l2 k s x11 x12 l n i 3 := by
  simp only [wicketgatelaw06_ActionNames.l2]
  rw [if_pos (by omega), rn2]
  simp only [Option.bind_some]
  rw [nl2, show wrap64 (2 + 1) = 3 from w64_id (by omega) (by omega)]
  by_cases h : s.toList = L2
  · rw [if_pos h, if_pos h.symm]
  · rw [if_neg h, if_neg (fun e => h e.symm)]
theorem ix2 (k : Nat) (s : ByteArray) : slices_Index_string_string.l0 (k + 1) N8 s 8 2 = if s.toList = L2 then some 2 else slices_Index_string_string.l0 k N8 s 8 3 := by
  simp only [slices_Index_string_string.l0]
  rw [if_pos (by omega), if_pos (by omega), if_pos (by simp [N8]), show rdOf ByteArray.empty N8 2 = B2 from rfl, nl2, show wrap64 (2 + 1) = 3 from w64_id (by omega) (by omega)]
theorem st3 (k : Nat) (s : ByteArray) (x11 : Int) (x12 : Bool) (l : List ByteArray) (n i : Int) : wicketgatelaw06_ActionNames.l2 (k + 1) s x11 x12 l n i 3 = if s.toList = L3 then wicketgatelaw06_ActionNames.l2 k s 3 true l n i 4 else wicketgatelaw06_ActionNames.l2 k s x11 x12 l n i 4 := by
  simp only [wicketgatelaw06_ActionNames.l2]
  rw [if_pos (by omega), rn3]
  simp only [Option.bind_some]
  rw [nl3, show wrap64 (3 + 1) = 4 from w64_id (by omega) (by omega)]
  by_cases h : s.toList = L3
  · rw [if_pos h, if_pos h.symm]
  · rw [if_neg h, if_neg (fun e => h e.symm)]
theorem ix3 (k : Nat) (s : ByteArray) : slices_Index_string_string.l0 (k + 1) N8 s 8 3 = if s.toList = L3 then some 3 else slices_Index_string_string.l0 k N8 s 8 4 := by
  simp only [slices_Index_string_string.l0]
  rw [if_pos (by omega), if_pos (by omega), if_pos (by simp [N8]), show rdOf ByteArray.empty N8 3 = B3 from rfl, nl3, show wrap64 (3 + 1) = 4 from w64_id (by omega) (by omega)]
theorem st4 (k : Nat) (s : ByteArray) (x11 : Int) (x12 : Bool) (l : List ByteArray) (n i : Int) : wicketgatelaw06_ActionNames.l2 (k + 1) s x11 x12 l n i 4 = if s.toList = L4 then wicketgatelaw06_ActionNames.l2 k s 4 true l n i 5 else wicketgatelaw06_ActionNames.l2 k s x11 x12 l n i 5 := by
  simp only [wicketgatelaw06_ActionNames.l2]
  rw [if_pos (by omega), rn4]
  simp only [Option.bind_some]
  rw [nl4, show wrap64 (4 + 1) = 5 from w64_id (by omega) (by omega)]
  by_cases h : s.toList = L4
  · rw [if_pos h, if_pos h.symm]
  · rw [if_neg h, if_neg (fun e => h e.symm)]
theorem ix4 (k : Nat) (s : ByteArray) : slices_Index_string_string.l0 (k + 1) N8 s 8 4 = if s.toList = L4 then some 4 else slices_Index_string_string.l0 k N8 s 8 5 := by
  simp only [slices_Index_string_string.l0]
  rw [if_pos (by omega), if_pos (by omega), if_pos (by simp [N8]), show rdOf ByteArray.empty N8 4 = B4 from rfl, nl4, show wrap64 (4 + 1) = 5 from w64_id (by omega) (by omega)]
theorem st5 (k : Nat) (s : ByteArray) (x11 : Int) (x12 : Bool) (l : List ByteArray) (n i : Int) : wicketgatelaw06_ActionNames.l2 (k + 1) s x11 x12 l n i 5 = if s.toList = L5 then wicketgatelaw06_ActionNames.l2 k s 5 true l n i 6 else wicketgatelaw06_ActionNames.l2 k s x11 x12 l n i 6 := by
  simp only [wicketgatelaw06_ActionNames.l2]
  rw [if_pos (by omega), rn5]
  simp only [Option.bind_some]
  rw [nl5, show wrap64 (5 + 1) = 6 from w64_id (by omega) (by omega)]
  by_cases h : s.toList = L5
  · rw [if_pos h, if_pos h.symm]
  · rw [if_neg h, if_neg (fun e => h e.symm)]
theorem ix5 (k : Nat) (s : ByteArray) : slices_Index_string_string.l0 (k + 1) N8 s 8 5 = if s.toList = L5 then some 5 else slices_Index_string_string.l0 k N8 s 8 6 := by
  simp only [slices_Index_string_string.l0]
  rw [if_pos (by omega), if_pos (by omega), if_pos (by simp [N8]), show rdOf ByteArray.empty N8 5 = B5 from rfl, nl5, show wrap64 (5 + 1) = 6 from w64_id (by omega) (by omega)]
theorem st6 (k : Nat) (s : ByteArray) (x11 : Int) (x12 : Bool) (l : List ByteArray) (n i : Int) : wicketgatelaw06_ActionNames.l2 (k + 1) s x11 x12 l n i 6 = if s.toList = L6 then wicketgatelaw06_ActionNames.l2 k s 6 true l n i 7 else wicketgatelaw06_ActionNames.l2 k s x11 x12 l n i 7 := by
  simp only [wicketgatelaw06_ActionNames.l2]
  rw [if_pos (by omega), rn6]
  simp only [Option.bind_some]
  rw [nl6, show wrap64 (6 + 1) = 7 from w64_id (by omega) (by omega)]
  by_cases h : s.toList = L6
  · rw [if_pos h, if_pos h.symm]
  · rw [if_neg h, if_neg (fun e => h e.symm)]
theorem ix6 (k : Nat) (s : ByteArray) : slices_Index_string_string.l0 (k + 1) N8 s 8 6 = if s.toList = L6 then some 6 else slices_Index_string_string.l0 k N8 s 8 7 := by
  simp only [slices_Index_string_string.l0]
  rw [if_pos (by omega), if_pos (by omega), if_pos (by simp [N8]), show rdOf ByteArray.empty N8 6 = B6 from rfl, nl6, show wrap64 (6 + 1) = 7 from w64_id (by omega) (by omega)]
theorem st7 (k : Nat) (s : ByteArray) (x11 : Int) (x12 : Bool) (l : List ByteArray) (n i : Int) : wicketgatelaw06_ActionNames.l2 (k + 1) s x11 x12 l n i 7 = if s.toList = L7 then wicketgatelaw06_ActionNames.l2 k s 7 true l n i 8 else wicketgatelaw06_ActionNames.l2 k s x11 x12 l n i 8 := by
  simp only [wicketgatelaw06_ActionNames.l2]
  rw [if_pos (by omega), rn7]
  simp only [Option.bind_some]
  rw [nl7, show wrap64 (7 + 1) = 8 from w64_id (by omega) (by omega)]
  by_cases h : s.toList = L7
  · rw [if_pos h, if_pos h.symm]
  · rw [if_neg h, if_neg (fun e => h e.symm)]
theorem ix7 (k : Nat) (s : ByteArray) : slices_Index_string_string.l0 (k + 1) N8 s 8 7 = if s.toList = L7 then some 7 else slices_Index_string_string.l0 k N8 s 8 8 := by
  simp only [slices_Index_string_string.l0]
  rw [if_pos (by omega), if_pos (by omega), if_pos (by simp [N8]), show rdOf ByteArray.empty N8 7 = B7 from rfl, nl7, show wrap64 (7 + 1) = 8 from w64_id (by omega) (by omega)]
theorem ix8 (k : Nat) (s : ByteArray) : slices_Index_string_string.l0 (k + 1) N8 s 8 8 = some (-1) := by
  simp only [slices_Index_string_string.l0]
  rw [if_neg (by omega)]
theorem names8 : action_names.f = some N8 := rfl
theorem action_f (k : Nat) (s : ByteArray) (r : Int) (h : slices_Index_string_string.l0 k N8 s 8 0 = some r) : action_Action.f k s = some (mx r 0, decide (r ≥ 0)) := by
  unfold action_Action.f slices_Index_string_string.f
  rw [names8]
  simp only [Option.bind_some]
  rw [show ((N8.length : Nat) : Int) = 8 from rfl, h]
  rfl
theorem l2_f (k : Nat) (hk : 20 ≤ k) (s : ByteArray) (l : List ByteArray) (n i : Int) : wicketgatelaw06_ActionNames.l2 (k + 9) s 0 false l n i 0 = wicketgatelaw06_ActionNames.l1 k l n (wrap64 (i + 1)) := by
  obtain ⟨m, rfl⟩ : ∃ m, k = m + 9 := ⟨k - 9, by omega⟩
  have fin : ∀ (a : Int) (b : Bool) (r : Int), slices_Index_string_string.l0 (m + 9) N8 s 8 0 = some r → mx r 0 = a → decide (r ≥ 0) = b → wicketgatelaw06_ActionNames.l2 (m + 9 + 1) s a b l n i 8 = wicketgatelaw06_ActionNames.l1 (m + 9) l n (wrap64 (i + 1)) := by
    intro a b r h1 h2 h3
    simp only [wicketgatelaw06_ActionNames.l2]
    rw [if_neg (by omega), action_f _ _ _ h1, h2, h3]
    simp
  by_cases c0 : s.toList = L0
  · rw [st0, if_pos c0, st1, if_neg (show ¬ s.toList = L1 by rw [c0]; decide), st2, if_neg (show ¬ s.toList = L2 by rw [c0]; decide), st3, if_neg (show ¬ s.toList = L3 by rw [c0]; decide), st4, if_neg (show ¬ s.toList = L4 by rw [c0]; decide), st5, if_neg (show ¬ s.toList = L5 by rw [c0]; decide), st6, if_neg (show ¬ s.toList = L6 by rw [c0]; decide), st7, if_neg (show ¬ s.toList = L7 by rw [c0]; decide)]
    exact fin 0 true 0 (by rw [ix0, if_pos c0]) (by decide) (by decide)
  by_cases c1 : s.toList = L1
  · rw [st0, if_neg c0, st1, if_pos c1, st2, if_neg (show ¬ s.toList = L2 by rw [c1]; decide), st3, if_neg (show ¬ s.toList = L3 by rw [c1]; decide), st4, if_neg (show ¬ s.toList = L4 by rw [c1]; decide), st5, if_neg (show ¬ s.toList = L5 by rw [c1]; decide), st6, if_neg (show ¬ s.toList = L6 by rw [c1]; decide), st7, if_neg (show ¬ s.toList = L7 by rw [c1]; decide)]
    exact fin 1 true 1 (by rw [ix0, if_neg c0, ix1, if_pos c1]) (by decide) (by decide)
  by_cases c2 : s.toList = L2
  · rw [st0, if_neg c0, st1, if_neg c1, st2, if_pos c2, st3, if_neg (show ¬ s.toList = L3 by rw [c2]; decide), st4, if_neg (show ¬ s.toList = L4 by rw [c2]; decide), st5, if_neg (show ¬ s.toList = L5 by rw [c2]; decide), st6, if_neg (show ¬ s.toList = L6 by rw [c2]; decide), st7, if_neg (show ¬ s.toList = L7 by rw [c2]; decide)]
    exact fin 2 true 2 (by rw [ix0, if_neg c0, ix1, if_neg c1, ix2, if_pos c2]) (by decide) (by decide)
  by_cases c3 : s.toList = L3
  · rw [st0, if_neg c0, st1, if_neg c1, st2, if_neg c2, st3, if_pos c3, st4, if_neg (show ¬ s.toList = L4 by rw [c3]; decide), st5, if_neg (show ¬ s.toList = L5 by rw [c3]; decide), st6, if_neg (show ¬ s.toList = L6 by rw [c3]; decide), st7, if_neg (show ¬ s.toList = L7 by rw [c3]; decide)]
    exact fin 3 true 3 (by rw [ix0, if_neg c0, ix1, if_neg c1, ix2, if_neg c2, ix3, if_pos c3]) (by decide) (by decide)
  by_cases c4 : s.toList = L4
  · rw [st0, if_neg c0, st1, if_neg c1, st2, if_neg c2, st3, if_neg c3, st4, if_pos c4, st5, if_neg (show ¬ s.toList = L5 by rw [c4]; decide), st6, if_neg (show ¬ s.toList = L6 by rw [c4]; decide), st7, if_neg (show ¬ s.toList = L7 by rw [c4]; decide)]
    exact fin 4 true 4 (by rw [ix0, if_neg c0, ix1, if_neg c1, ix2, if_neg c2, ix3, if_neg c3, ix4, if_pos c4]) (by decide) (by decide)
  by_cases c5 : s.toList = L5
  · rw [st0, if_neg c0, st1, if_neg c1, st2, if_neg c2, st3, if_neg c3, st4, if_neg c4, st5, if_pos c5, st6, if_neg (show ¬ s.toList = L6 by rw [c5]; decide), st7, if_neg (show ¬ s.toList = L7 by rw [c5]; decide)]
    exact fin 5 true 5 (by rw [ix0, if_neg c0, ix1, if_neg c1, ix2, if_neg c2, ix3, if_neg c3, ix4, if_neg c4, ix5, if_pos c5]) (by decide) (by decide)
  by_cases c6 : s.toList = L6
  · rw [st0, if_neg c0, st1, if_neg c1, st2, if_neg c2, st3, if_neg c3, st4, if_neg c4, st5, if_neg c5, st6, if_pos c6, st7, if_neg (show ¬ s.toList = L7 by rw [c6]; decide)]
    exact fin 6 true 6 (by rw [ix0, if_neg c0, ix1, if_neg c1, ix2, if_neg c2, ix3, if_neg c3, ix4, if_neg c4, ix5, if_neg c5, ix6, if_pos c6]) (by decide) (by decide)
  by_cases c7 : s.toList = L7
  · rw [st0, if_neg c0, st1, if_neg c1, st2, if_neg c2, st3, if_neg c3, st4, if_neg c4, st5, if_neg c5, st6, if_neg c6, st7, if_pos c7]
    exact fin 7 true 7 (by rw [ix0, if_neg c0, ix1, if_neg c1, ix2, if_neg c2, ix3, if_neg c3, ix4, if_neg c4, ix5, if_neg c5, ix6, if_neg c6, ix7, if_pos c7]) (by decide) (by decide)
  rw [st0, if_neg c0, st1, if_neg c1, st2, if_neg c2, st3, if_neg c3, st4, if_neg c4, st5, if_neg c5, st6, if_neg c6, st7, if_neg c7]
  exact fin 0 false (-1) (by rw [ix0, if_neg c0, ix1, if_neg c1, ix2, if_neg c2, ix3, if_neg c3, ix4, if_neg c4, ix5, if_neg c5, ix6, if_neg c6, ix7, if_neg c7, ix8]) (by decide) (by decide)
theorem l1_f (l : List ByteArray) : ∀ (d i k : Nat), i + d = 20 → d * 10 + 60 < k → wicketgatelaw06_ActionNames.l1 k l (l.length : Int) i = some true := by
  intro d
  induction d with
  | zero =>
    intro i k hi hk
    obtain ⟨k, rfl⟩ : ∃ m, k = m + 1 := ⟨k - 1, by omega⟩
    simp only [wicketgatelaw06_ActionNames.l1]
    by_cases hc : (i : Int) < (l.length : Int)
    · rw [if_pos hc, if_pos (by omega), if_pos hc, if_pos (by omega)]
    · rw [if_neg hc]
  | succ d ih =>
    intro i k hi hk
    obtain ⟨k, rfl⟩ : ∃ m, k = m + 9 + 1 := ⟨k - 10, by omega⟩
    simp only [wicketgatelaw06_ActionNames.l1]
    by_cases hc : (i : Int) < (l.length : Int)
    · have hm : ∀ z : Nat, 0 ≤ mn (z : Int) 20 ∧ mn (z : Int) 20 ≤ (z : Int) := by intro z; unfold mn; split <;> omega
      rw [if_pos hc, if_pos (by omega), if_pos hc, if_neg (by omega), if_pos (hm _).1, if_pos (hm _).2, l2_f k (by omega), show wrap64 ((i : Int) + 1) = ((i + 1 : Nat) : Int) by rw [w64_id (by omega) (by omega)]; omega]
      exact ih (i + 1) k (by omega) (by omega)
    · rw [if_neg hc]
theorem l0_f (l : List Int) (l1 : List ByteArray) : ∀ (d i k : Nat), i + d = 20 → d * 10 + 300 < k → wicketgatelaw06_ActionNames.l0 k l1 l (l.length : Int) i = some true := by
  have jj : ∀ k, 290 < k → wicketgatelaw06_ActionNames.j1 k l1 = some true := by
    intro k hk
    obtain ⟨k, rfl⟩ : ∃ m, k = m + 1 := ⟨k - 1, by omega⟩
    simp only [wicketgatelaw06_ActionNames.j1]
    exact l1_f l1 20 0 k (by omega) (by omega)
  intro d
  induction d with
  | zero =>
    intro i k hi hk
    obtain ⟨k, rfl⟩ : ∃ m, k = m + 1 := ⟨k - 1, by omega⟩
    simp only [wicketgatelaw06_ActionNames.l0]
    by_cases hc : (i : Int) < (l.length : Int)
    · rw [if_pos hc, if_pos (by omega), if_pos hc, if_pos (by omega)]
      exact jj k (by omega)
    · rw [if_neg hc]
      exact jj k (by omega)
  | succ d ih =>
    intro i k hi hk
    obtain ⟨k, rfl⟩ : ∃ m, k = m + 1 := ⟨k - 1, by omega⟩
    simp only [wicketgatelaw06_ActionNames.l0]
    by_cases hc : (i : Int) < (l.length : Int)
    · rw [if_pos hc, if_pos (by omega), if_pos hc, if_neg (by omega), show wrap64 ((i : Int) + 1) = ((i + 1 : Nat) : Int) by rw [w64_id (by omega) (by omega)]; omega]
      generalize rd l (i : Int) = a
      by_cases ha : 0 ≤ a ∧ a ≤ 7
      · obtain rfl | rfl | rfl | rfl | rfl | rfl | rfl | rfl : a = 0 ∨ a = 1 ∨ a = 2 ∨ a = 3 ∨ a = 4 ∨ a = 5 ∨ a = 6 ∨ a = 7 := by omega
        · rw [an0, rn0]; simp only [Option.bind_some, if_true, nl0]; rw [if_neg (by decide)]; exact ih (i + 1) k (by omega) (by omega)
        · rw [an1, rn1]; simp only [Option.bind_some, if_true, nl1]; rw [if_neg (by decide)]; exact ih (i + 1) k (by omega) (by omega)
        · rw [an2, rn2]; simp only [Option.bind_some, if_true, nl2]; rw [if_neg (by decide)]; exact ih (i + 1) k (by omega) (by omega)
        · rw [an3, rn3]; simp only [Option.bind_some, if_true, nl3]; rw [if_neg (by decide)]; exact ih (i + 1) k (by omega) (by omega)
        · rw [an4, rn4]; simp only [Option.bind_some, if_true, nl4]; rw [if_neg (by decide)]; exact ih (i + 1) k (by omega) (by omega)
        · rw [an5, rn5]; simp only [Option.bind_some, if_true, nl5]; rw [if_neg (by decide)]; exact ih (i + 1) k (by omega) (by omega)
        · rw [an6, rn6]; simp only [Option.bind_some, if_true, nl6]; rw [if_neg (by decide)]; exact ih (i + 1) k (by omega) (by omega)
        · rw [an7, rn7]; simp only [Option.bind_some, if_true, nl7]; rw [if_neg (by decide)]; exact ih (i + 1) k (by omega) (by omega)
      · rw [an_no a ha, rn_no a ha]
        simp only [Option.bind_some, if_true, nlE]
        rw [if_neg (by decide)]
        exact ih (i + 1) k (by omega) (by omega)
    · rw [if_neg hc]
      exact jj k (by omega)
theorem ActionNames_p (l : List Int) (l1 : List ByteArray) : wicketgatelaw06_ActionNames.f 1000 l l1 = some true := by
  unfold wicketgatelaw06_ActionNames.f
  rw [wakes_f (by omega)]
  simp only [Option.bind_some, if_true]
  exact l0_f l l1 20 0 1000 (by omega) (by omega)
end Go.Proofs.Ytmhgckamkokedaa.PN
