import Derived.Test.YtpejeeemefmafaaPFx1
namespace Go.Proofs.Ytpejeeemefmafaa.Pure
open Go.RowKit Go.Proofs.Ytpejeeemefmafaa.PF Go.Proofs.YtpejeeemefmafaaW.PrintWords Go.Proofs.YtpejeeemefmafaaW.PrintLast
set_option linter.unusedVariables false
set_option linter.unusedSimpArgs false
theorem w64_id {n : Int} (h0 : -9223372036854775808 ≤ n) (h1 : n < 9223372036854775808) : wrap64 n = n := by unfold wrap64; omega
theorem u64_id {n : Int} (h0 : 0 ≤ n) (h1 : n < 18446744073709551616) : IntKind.u64.wrap n = n := by
  simp [IntKind.wrap, IntKind.bits, IntKind.signed]; omega
theorem u64_rng {n : Int} (h : (Lit.int .u64 n).wf = true) : 0 ≤ n ∧ n < 18446744073709551616 := by
  simp [Lit.wf, IntKind.min, IntKind.max, IntKind.bits, IntKind.signed] at h; omega
/-- So many bytes of a number, the least first. -/
def bs : Nat → Int → List Int
  | 0, _ => []
  | n + 1, a => (a % 256) :: bs n (a / 256)
theorem bs_length : ∀ n a, (bs n a).length = n
  | 0, _ => rfl
  | n + 1, a => by simp [bs, bs_length n]
theorem put_l0 (n : Nat) : ∀ (k m : Nat) (a : Int) (l : List Int), 0 ≤ a → a < 18446744073709551616 → l.length + n < 140737488355328 → m + n < 100 → n < k → octet_put.l0 k a l ((m + n : Nat) : Int) (m : Int) = some (l ++ bs n a) := by
  induction n with
  | zero =>
    intro k m a l h0 h1 hl hm hk
    obtain ⟨k, rfl⟩ : ∃ k', k = k' + 1 := ⟨k - 1, by omega⟩
    rw [octet_put.l0, if_neg (by omega)]
    simp [bs]
  | succ n ih =>
    intro k m a l h0 h1 hl hm hk
    obtain ⟨k, rfl⟩ : ∃ k', k = k' + 1 := ⟨k - 1, by omega⟩
    have e1 : Int.tmod a 256 % 256 = a % 256 := by rw [Int.tmod_eq_emod_of_nonneg h0]; omega
    have e2 : IntKind.u64.wrap (Int.tdiv a 256) = a / 256 := by rw [Int.tdiv_eq_ediv_of_nonneg h0]; exact u64_id (by omega) (by omega)
    have e3 : wrap64 ((m : Int) + 1) = ((m + 1 : Nat) : Int) := by rw [w64_id (by omega) (by omega)]; omega
    have ih := ih k (m + 1) (a / 256) (l ++ [a % 256]) (by omega) (by omega) (by simp; omega) (by omega) (by omega)
    rw [octet_put.l0, if_pos (by omega), if_pos (by omega), e1, e2, e3, show m + (n + 1) = m + 1 + n by omega, ih]
    simp [bs]
theorem put_f (n k : Nat) (l : List Int) (a : Int) (h0 : 0 ≤ a) (h1 : a < 18446744073709551616) (hl : l.length + n < 140737488355328) (hn : n < 100) (hk : n < k) : octet_put.f k l a (n : Int) = some (l ++ bs n a) := by
  have h := put_l0 n k 0 a l h0 h1 hl (by omega) hk
  simp only [Nat.zero_add] at h
  unfold octet_put.f slices_Clone_byte_byte.f
  simp only [Option.bind_some, List.length_nil, Nat.zero_add, List.nil_append]
  rw [if_pos (by omega)]
  exact h
theorem put64_f (k : Nat) (hk : 8 < k) (l : List Int) (a : Int) (h0 : 0 ≤ a) (h1 : a < 18446744073709551616) (hl : l.length + 8 < 140737488355328) : octet_Put64.f k l a = some (l ++ bs 8 a) := by
  have h := put_f 8 k l a h0 h1 hl (by omega) hk
  unfold octet_Put64.f
  rw [show ((8 : Nat) : Int) = 8 from rfl] at h
  rw [h]; rfl
theorem bs8 (a : Int) (h0 : 0 ≤ a) (h1 : a < 18446744073709551616) : ∃ x0 x1 x2 x3 x4 x5 x6 x7 : Int, bs 8 a = [x0, x1, x2, x3, x4, x5, x6, x7] ∧ a = x0 + 256 * (x1 + 256 * (x2 + 256 * (x3 + 256 * (x4 + 256 * (x5 + 256 * (x6 + 256 * x7)))))) ∧
    (0 ≤ x0 ∧ x0 < 256) ∧ (0 ≤ x1 ∧ x1 < 256) ∧ (0 ≤ x2 ∧ x2 < 256) ∧ (0 ≤ x3 ∧ x3 < 256) ∧ (0 ≤ x4 ∧ x4 < 256) ∧ (0 ≤ x5 ∧ x5 < 256) ∧ (0 ≤ x6 ∧ x6 < 256) ∧ (0 ≤ x7 ∧ x7 < 256) :=
  ⟨_, _, _, _, _, _, _, _, rfl, by omega, by omega, by omega, by omega, by omega, by omega, by omega, by omega, by omega⟩
end Go.Proofs.Ytpejeeemefmafaa.Pure
