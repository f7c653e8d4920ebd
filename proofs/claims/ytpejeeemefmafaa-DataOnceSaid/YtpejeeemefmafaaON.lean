import Derived.Test.YtpejeeemefmafaaOP
import Derived.WalkSpells
namespace Go.Proofs.Ytpejeeemefmafaa.RD
open Go.RowKit Go.Proofs.YtpejeeemefmafaaW.PrintWords Go.Proofs.YtpejeeemefmafaaW.PrintLast Go.Proofs.YtpejeeemefmafaaW.PrintMore
open Go.Proofs.Ytpejeeemefmafaa.PE.L (below_drewN' below_drew')
open PH
set_option linter.unusedVariables false
set_option linter.unusedSimpArgs false
/-! #### struct type 44 -/
structure S44 where
  f0 : Bool
  f1 : Int
def z44 : S44 := ⟨false, (0 : Int)⟩
def k44 : Kd S44 := Kd.iso (Kd.pair Kd.bool (Kd.int .i64)) (fun x : S44 => (x.f0, x.f1))
theorem k44_open {w : World} {x : S44} {cs : List Value} (h : k44.K w x cs) : cs = [.bool x.f0, .int .i64 x.f1] := by
  obtain ⟨_, _, rfl, rfl, rfl⟩ := h
  exact rfl
theorem k44_openM {w : World} {base : Nat} {ok : Nat → Prop} {x : S44} {cs : List Value} (h : k44.M w base ok x cs) : cs = [.bool x.f0, .int .i64 x.f1] := by
  obtain ⟨_, _, rfl, rfl, rfl⟩ := h
  exact rfl
theorem k44_mk (w : World) (x : S44)  : k44.K w x [.bool x.f0, .int .i64 x.f1] := ⟨[.bool x.f0], [.int .i64 x.f1], rfl, rfl, rfl⟩
theorem k44_mkM (w : World) (base : Nat) (ok : Nat → Prop) (x : S44)  : k44.M w base ok x [.bool x.f0, .int .i64 x.f1] := ⟨[.bool x.f0], [.int .i64 x.f1], rfl, rfl, rfl⟩
def rd_T44 (xs : List S44) (i : Int) : S44 := xs.getD i.toNat z44
theorem at_T44 {w : World} {A : Option Addr} {n : Nat} {xs : List S44} (h : Kd.C k44 w A n xs) (i : Int) (h0 : 0 ≤ i) (h1 : i < n) : ∃ ad , A = some ad ∧ w.cell? (ad.add (i.toNat * 2)) = some (.bool (rd_T44 xs i).f0) ∧ w.cell? ⟨(ad.add (i.toNat * 2)).block, (ad.add (i.toNat * 2)).off + 1, none⟩ = some (.int .i64 (rd_T44 xs i).f1) := by
  obtain ⟨ad, c, e, _, hK, hc0⟩ := Kd.C_get h z44 i h0 h1
  have hc : ∀ j u, c[j]? = some u → w.cell? (ad.add (i.toNat * 2 + j)) = some u := hc0
  obtain rfl := k44_open hK
  exact ⟨ad, e, hc 0 _ rfl, by rw [← add_field _ _ 1 (by omega)]; exact hc 1 _ rfl⟩

theorem bytes_of_wf {x : List Int} (h : ∀ v ∈ x, (Lit.int .u8 v).wf = true) : Bytes x := fun j => by
  cases hj : x[j]? with
  | none => simp
  | some v =>
    have h1 := h v (List.mem_of_getElem? hj)
    simp [Lit.wf, IntKind.min, IntKind.max, IntKind.bits, IntKind.signed] at h1
    simp; omega
theorem same_l0 (x : List Int) (n : Nat) : ∀ (k i : Nat), i + n = x.length → x.length < 140737488355328 → n < k → wicketgateref01_Same.l0 k x x (i : Int) = some true := by
  induction n with
  | zero =>
    intro k i hi hb hk
    obtain ⟨k, rfl⟩ : ∃ k', k = k' + 1 := ⟨k - 1, by omega⟩
    rw [wicketgateref01_Same.l0, if_neg (by omega)]
  | succ n ih =>
    intro k i hi hb hk
    obtain ⟨k, rfl⟩ : ∃ k', k = k' + 1 := ⟨k - 1, by omega⟩
    have h' := ih k (i + 1) (by omega) hb (by omega)
    rw [wicketgateref01_Same.l0, if_pos (by omega), if_pos (by omega), if_pos (by omega), if_pos rfl, s_w64 (n := (i : Int) + 1) (by omega) (by omega)]
    exact h'
theorem same_f (x : List Int) (k : Nat) (hb : x.length < 140737488355328) (hk : x.length < k) : wicketgateref01_Same.f k x x = some true := by
  unfold wicketgateref01_Same.f
  rw [if_pos rfl]
  exact same_l0 x x.length k 0 (by omega) hb hk
theorem same_c (A B : Option Addr) (n m c d : Nat) (x : List Int) (w : World) (hx : Kd.C (Kd.int .u8) w A n x) (hc : n ≤ c) (hy : Kd.C (Kd.int .u8) w B m x) (hd : m ≤ d) (hb : n < 5000) :
    Calls Try.prog 16 #[.slice A n c, .slice B m d] w fun e w' => e = .returned (.bool true) ∧ Drawn0 w w' := by
  obtain rfl := Kd.C_len hx
  obtain rfl := Kd.C_len hy
  exact wicketgateref01_Same.calls 5000 A c x B d x true w hx hc hy hd (same_f x 5000 (by omega) hb)
theorem number_l0 (l : List Int) (hl : Bytes l) (hb : l.length < 140737488355328) : ∀ (i k : Nat) (x : Int), i ≤ l.length → i < k → wicketgateref01_Number.l0 k l x ((i : Int) - 1) = some ((x * 256 ^ i + num (l.take i)) % 18446744073709551616) ∨ (i = 0 ∧ wicketgateref01_Number.l0 k l x ((i : Int) - 1) = some x)
  | 0, k, x, hi, hk => by
    obtain ⟨k, rfl⟩ : ∃ k', k = k' + 1 := ⟨k - 1, by omega⟩
    exact .inr ⟨rfl, by rw [wicketgateref01_Number.l0, if_neg (by omega)]⟩
  | i + 1, k, x, hi, hk => by
    obtain ⟨k, rfl⟩ : ∃ k', k = k' + 1 := ⟨k - 1, by omega⟩
    have hli := hl i
    have e0 : rd l ((i : Int)) = l[i]?.getD 0 := by simp [rd, List.getD_eq_getElem?_getD]
    have e1 : IntKind.u64.wrap (IntKind.u64.wrap (x * 256) + IntKind.u64.wrap (rd l (i : Int))) = (x * 256 + l[i]?.getD 0) % 18446744073709551616 := by
      rw [e0]
      simp [IntKind.wrap, IntKind.bits, IntKind.signed]
    have e2 : wrap64 ((i : Int) - 1) = (i : Int) - 1 := s_w64 (by omega) (by omega)
    have e3 := take_snoc l 0 i (by omega)
    simp only [List.drop_zero, Nat.zero_add] at e3
    have e4 : num (l.take (i + 1)) = num (l.take i) + l[i]?.getD 0 * 256 ^ i := by
      rw [e3, num_snoc, List.length_take, Nat.min_eq_left (by omega)]
    have ih := number_l0 l hl hb i k ((x * 256 + l[i]?.getD 0) % 18446744073709551616) (by omega) (by omega)
    refine .inl ?_
    rw [show (((i + 1 : Nat) : Int) - 1) = (i : Int) by omega, wicketgateref01_Number.l0, if_pos (by omega), if_pos (by omega), if_pos (by omega), e1, e2]
    have e5 : ((x * 256 + l[i]?.getD 0) % 18446744073709551616 * 256 ^ i + num (l.take i)) % 18446744073709551616 = (x * 256 ^ (i + 1) + num (l.take (i + 1))) % 18446744073709551616 := by
      rw [e4, Int.pow_succ, Int.add_emod, Int.mul_emod, Int.emod_emod_of_dvd _ (Int.dvd_refl _), ← Int.mul_emod, ← Int.add_emod, Int.add_mul]
      congr 1
      have : x * 256 * 256 ^ i = x * (256 ^ i * 256) := by rw [Int.mul_assoc, Int.mul_comm 256]
      rw [this]
      omega
    rcases ih with h | ⟨rfl, h⟩
    · rw [h, e5]
    · rw [h, ← e5]
      simp [num]
theorem number_f (l : List Int) (hl : Bytes l) (hb : l.length < 4000) : wicketgateref01_Number.f 5000 l = some (num l % 18446744073709551616) := by
  have h := number_l0 l hl (by omega) l.length 5000 0 (Nat.le_refl _) (by omega)
  unfold wicketgateref01_Number.f
  rw [s_w64 (by omega) (by omega)]
  rcases h with h | ⟨h0, h⟩
  · rw [h]; simp
  · rw [h]
    obtain rfl := List.eq_nil_of_length_eq_zero h0
    simp [num]
theorem number_c (A : Option Addr) (n c : Nat) (l : List Int) (w : World) (hx : Kd.C (Kd.int .u8) w A n l) (hc : n ≤ c) (hl : Bytes l) (hb : n < 4000) :
    Calls Try.prog 25 #[.slice A n c] w fun e w' => e = .returned (.int .u64 (num l % 18446744073709551616)) ∧ Drawn0 w w' := by
  obtain rfl := Kd.C_len hx
  exact wicketgateref01_Number.calls 5000 A c l _ w hx hc (number_f l hl hb)
theorem reach_c (f n len : Int) (r : Int) (w : World) (h : wicketgateref01_Reach.f f n len = some r) : Calls Try.prog 24 #[.int .i64 f, .int .i64 n, .int .i64 len] w fun e w' => e = .returned (.int .i64 r) ∧ Drawn0 w w' := wicketgateref01_Reach.calls f n len r w h
theorem Rdr.base {n₀ n₁ g s c : Nat} {A : Option Addr} {l : List Int} {f : Nat} {er : Int} {W : World} (h : Rdr n₁ g s c A l f er W) (hn : n₀ ≤ n₁) : Rdr n₀ g s c A l f er W := ⟨by have := h.hg; omega, h.hgs, h.hf, h.bg, h.hs⟩
theorem step_below {w W W' : World} (h : Below w.heap.size w W) (h' : Below W.heap.size W W') : Below w.heap.size w W' := h.trans (h'.mono h.size)
end Go.Proofs.Ytpejeeemefmafaa.RD
