import Derived.Test.YtpejeeemefmafaaPFx2
import Derived.Test.YtpejeeemefmafaaOH
namespace Go.Proofs.Ytpejeeemefmafaa.Pure
open Go.RowKit Go.Proofs.Ytpejeeemefmafaa.PF Go.Proofs.YtpejeeemefmafaaW.PrintWords Go.Proofs.YtpejeeemefmafaaW.PrintLast
set_option linter.unusedVariables false
set_option linter.unusedSimpArgs false
theorem put32_f (k : Nat) (hk : 8 < k) (a : Int) (h0 : 0 ≤ a) (h1 : a < 4294967296) : octet_Put32.f k [] a = some (bs 4 a) := by
  have h := put_f 4 k [] a h0 (by omega) (by simp) (by omega) (by omega)
  unfold octet_Put32.f
  rw [show ((4 : Nat) : Int) = 4 from rfl] at h
  rw [u64_id h0 (by omega), h]; rfl
theorem put16_f (k : Nat) (hk : 8 < k) (a : Int) (h0 : 0 ≤ a) (h1 : a < 65536) : octet_Put16.f k [] a = some (bs 2 a) := by
  have h := put_f 2 k [] a h0 (by omega) (by simp) (by omega) (by omega)
  unfold octet_Put16.f
  rw [show ((2 : Nat) : Int) = 2 from rfl] at h
  rw [u64_id h0 (by omega), h]; rfl
theorem t4 (a : Int) (h0 : 0 ≤ a) : (bs 8 a).take 4 = bs 4 (a % 4294967296) := by
  simp only [bs, List.take_succ_cons, List.take_zero, List.cons.injEq, and_true]
  refine ⟨?_, ?_, ?_, ?_⟩ <;> omega
theorem t2 (a : Int) (h0 : 0 ≤ a) : (bs 8 a).take 2 = bs 2 (a % 65536) := by
  simp only [bs, List.take_succ_cons, List.take_zero, List.cons.injEq, and_true]
  refine ⟨?_, ?_⟩ <;> omega
theorem d4 (a : Int) (h0 : 0 ≤ a) : (bs 8 a).drop 4 = bs 4 (a / 4294967296 % 4294967296) := by
  simp only [bs, List.drop_succ_cons, List.drop_zero, List.cons.injEq, and_true]
  refine ⟨?_, ?_, ?_, ?_⟩ <;> omega
theorem OctetFirst : wicketgatelaw01_OctetFirst.Pure := by
  intro a ha
  obtain ⟨a0, a1⟩ := u64_rng ha
  refine ⟨20, ?_⟩
  unfold wicketgatelaw01_OctetFirst.f wicketgatelaw01_wakes.f
  simp only [Option.bind_some, if_true]
  rw [put64_f 20 (by omega) [] a a0 a1 (by simp)]
  simp only [Option.bind_some, List.nil_append]
  rw [if_pos (by rw [bs_length]; rfl), if_pos (by rw [bs_length]; decide)]
  have e : ((Int.tmod (rd (bs 8 a) 0) 2) != ((Int.tmod a 2) % 256)) = false := by
    have r0 : rd (bs 8 a) 0 = a % 256 := by simp [rd, bs]
    rw [r0, Int.tmod_eq_emod_of_nonneg (by omega), Int.tmod_eq_emod_of_nonneg a0]
    have : a % 256 % 2 = a % 2 % 256 := by omega
    simp [this]
  rw [e]
  have w16 : IntKind.u16.wrap a = a % 65536 := by simp [IntKind.wrap, IntKind.bits, IntKind.signed]
  rw [wicketgatelaw01_OctetFirst.j0, if_neg (by simp), if_pos (by rw [bs_length]; decide), put32_f 19 (by omega) _ (by omega) (by omega)]
  simp only [Option.bind_some]
  rw [t4 a a0]
  simp only [bytes_Equal.f, Option.bind_some, decide_true, if_true, beq_self_eq_true]
  rw [if_pos (by rw [bs_length]; decide), w16, put16_f 19 (by omega) _ (by omega) (by omega)]
  simp only [Option.bind_some]
  rw [t2 a a0]
  simp only [bytes_Equal.f, Option.bind_some, decide_true, if_true, beq_self_eq_true]
  rw [put32_f 19 (by omega) _ (by omega) (by omega)]
  simp only [Option.bind_some]
  rw [d4 a a0]
  simp [bytes_Equal.f]
end Go.Proofs.Ytpejeeemefmafaa.Pure
