import Derived.Test.YtpejeeemefmafaaOL
import Derived.Shelf.Bytes.SlCountOne
namespace Go.Proofs.Ytpejeeemefmafaa.RD
open Go.RowKit Go.Proofs.YtpejeeemefmafaaW.PrintWords Go.Proofs.YtpejeeemefmafaaW.PrintLast Go.Proofs.YtpejeeemefmafaaW.PrintMore
open Go.Proofs.Ytpejeeemefmafaa.PE.L (below_drewN' below_drew')
open PH
set_option linter.unusedVariables false
set_option linter.unusedSimpArgs false
theorem countZ : ∀ n : Nat, Lib.countByte (Lib.bytesOf (List.replicate n 0)) (0 : Int).toNat.toUInt8 = n := by
  intro n
  induction n with
  | zero => rfl
  | succ n ih =>
    simp only [List.replicate_succ, Lib.bytesOf, List.map_cons] at ih ⊢
    simp only [Lib.countByte, List.filter_cons] at ih ⊢
    simp at ih ⊢
theorem count_c (A : Option Addr) (n c X : Nat) (w : World) (hC : Kd.C (Kd.int .u8) w A n (List.replicate n 0)) (hX : w.cell? ⟨X, 0, none⟩ = some (.int .u8 0)) :
    Calls Try.prog 33 #[.slice A n c, .slice (some ⟨X, 0, none⟩) 1 1] w fun e w' => e = .returned (.int .i64 n) ∧ w = w' := by
  have hR := Kd.reads_of_C (d := 0) hC
  have hrun : (Extern.BytealgCount.count #[.slice A n c, .int .u8 0]).run Try.prog w = .ok (.int .i64 n) w := by
    cases A with
    | none =>
      obtain ⟨h1, h2, h3⟩ := hR
      have h0 : n = 0 := by
        rcases Nat.eq_zero_or_pos n with h | h
        · exact h
        · obtain ⟨_, e, _⟩ := h3 h
          cases e
      subst h0
      exact Lib.run_countNil w _ _ _
    | some a =>
      rw [Lib.run_countAt w a n c (List.replicate n 0) (by simp) (fun i hi => by
        obtain ⟨ad, e, h⟩ := hR.2.2 (by omega)
        injection e with e
        subst e
        exact h i hi), countZ]
  have hrun' := Aside0.mk hrun
  clear hrun hR hC
  go_enter Try.func33, Try.ntmps33
  go_wp2
  rw [run_callFunc_extern Try.func52 (by kernel_rfl) (by kernel_rfl) (by kernel_rfl) (e := Extern.BytealgCount.count) (by kernel_rfl), hrun'.out]
  simp only [Result.andThen]
  rw [Oper.upon_value]
  go_wp2
  go_ret
  exact ⟨rfl, rfl⟩
theorem prefix_c (A B : Option Addr) (c d : Nat) (x : List Int) (f : Nat) (w : World) (hx : Kd.C (Kd.int .u8) w A x.length x) (hc : x.length ≤ c) (hy : Kd.C (Kd.int .u8) w B f (x.take f)) (hd : f ≤ d) (ox : Bytes x) (hf : f ≤ x.length) :
    Calls Try.prog 34 #[.slice A x.length c, .slice B f d] w fun e w' => e = .returned (.bool true) ∧ Drawn0 w w' := by
  have hl : (x.take f).length = f := by simp; omega
  obtain ⟨i, hi, _, hsz, _⟩ := info_parts PH.info5
  obtain ⟨h1, h2, h3⟩ := print_take_int (P := Try.prog) (k := .u8) 22 5 Try.underlying22 hi hsz A c x (f : Int) (by omega) (by omega) hc
  simp only [Int.toNat_natCast] at h1 h2 h3
  have hC := Kd.C_of_reads (h1 := fun _ => rfl) (h2 w (Kd.reads_of_C hx))
  rw [hl] at h1 h3 hC
  have HE := Aside0.mk (eq_c A B f f c d (x.take f) (x.take f) w hC h3 hy hd (ox.take f) (ox.take f) rfl)
  clear hC hy hx h2
  have t1 : decide (f ≤ x.length) = true := decide_eq_true hf
  have t2 : decide ((f : Int) ≤ (x.length : Int)) = true := decide_eq_true (by omega)
  go_enter Try.func34, Try.ntmps34
  go_wp2_with fail
  refine HE.out.mono ?_
  rintro e w' ⟨rfl, ⟨k, rfl⟩⟩
  go_wp2
  go_ret
  exact ⟨rfl, ⟨⟨_, rfl⟩⟩⟩
theorem take_more (l : List Int) (f m : Nat) (h : f + m ≤ l.length) : l.take f ++ (l.drop f).take m = l.take (f + m) := by
  rw [List.take_add]
theorem R_kp {W W' : World} {n₀ g s : Nat} {l : List Int} {v : Value} {xs : List Int} (h : Kd.R (Kd.int .u8) 5 W n₀ (fun b => b ≠ g ∧ (0 < l.length → b ≠ s)) v xs) (hK : Kp n₀ W.heap.size g W W') : Kd.R (Kd.int .u8) 5 W' n₀ (fun b => b ≠ g ∧ (0 < l.length → b ≠ s)) v xs :=
  Kd.R_step h (fun k hk hl => hK.k k hl hk.1)
theorem bs_num : ∀ (xs : List Int), Bytes xs → bs xs.length (num xs) = xs
  | [], _ => rfl
  | b :: t, h => by
    have h0 := h 0
    simp only [List.getElem?_cons_zero, Option.getD_some] at h0
    simp only [List.length_cons, bs, num]
    rw [show (b + 256 * num t) % 256 = b by omega, show (b + 256 * num t) / 256 = num t by omega, bs_num t h.tail]
end Go.Proofs.Ytpejeeemefmafaa.RD
