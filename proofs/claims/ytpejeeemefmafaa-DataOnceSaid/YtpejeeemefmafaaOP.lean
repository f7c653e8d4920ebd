import Derived.Test.YtpejeeemefmafaaOB
import Derived.Test.YtpejeeemefmafaaPHx2
namespace Go.Proofs.Ytpejeeemefmafaa.RD
open Go.RowKit Go.Proofs.YtpejeeemefmafaaW.PrintWords Go.Proofs.YtpejeeemefmafaaW.PrintLast Go.Proofs.YtpejeeemefmafaaW.PrintMore
open Go.Proofs.Ytpejeeemefmafaa.PE.L (below_drewN' below_drew')
open PH
set_option linter.unusedVariables false
set_option linter.unusedSimpArgs false
theorem w64_id {n : Int} (h0 : -9223372036854775808 ≤ n) (h1 : n < 9223372036854775808) : wrap64 n = n := by unfold wrap64; omega
theorem u64_id {n : Int} (h0 : 0 ≤ n) (h1 : n < 18446744073709551616) : IntKind.u64.wrap n = n := by
  simp [IntKind.wrap, IntKind.bits, IntKind.signed]; omega
theorem u64_rng {n : Int} (h : (Lit.int .u64 n).wf = true) : 0 ≤ n ∧ n < 18446744073709551616 := by
  simp [Lit.wf, IntKind.min, IntKind.max, IntKind.bits, IntKind.signed] at h; omega
/-- So many bytes of a number, the least first. -/
def bs : Nat → Int → List Int
  | 0, _ => []
  | n + 1, a => (a % 256) :: bs n (a / 256)
theorem bs_length : ∀ n a, (bs n a).length = n
  | 0, _ => rfl
  | n + 1, a => by simp [bs, bs_length n]
theorem put_l0 (n : Nat) : ∀ (k m : Nat) (a : Int) (l : List Int), 0 ≤ a → a < 18446744073709551616 → l.length + n < 140737488355328 → m + n < 100 → n < k → octet_put.l0 k a l ((m + n : Nat) : Int) (m : Int) = some (l ++ bs n a) := by
  induction n with
  | zero =>
    intro k m a l h0 h1 hl hm hk
    obtain ⟨k, rfl⟩ : ∃ k', k = k' + 1 := ⟨k - 1, by omega⟩
    rw [octet_put.l0, if_neg (by omega)]
    simp [bs]
  | succ n ih =>
    intro k m a l h0 h1 hl hm hk
    obtain ⟨k, rfl⟩ : ∃ k', k = k' + 1 := ⟨k - 1, by omega⟩
    have e1 : Int.tmod a 256 % 256 = a % 256 := by rw [Int.tmod_eq_emod_of_nonneg h0]; omega
    have e2 : IntKind.u64.wrap (Int.tdiv a 256) = a / 256 := by rw [Int.tdiv_eq_ediv_of_nonneg h0]; exact u64_id (by omega) (by omega)
    have e3 : wrap64 ((m : Int) + 1) = ((m + 1 : Nat) : Int) := by rw [w64_id (by omega) (by omega)]; omega
    have ih := ih k (m + 1) (a / 256) (l ++ [a % 256]) (by omega) (by omega) (by simp; omega) (by omega) (by omega)
    rw [octet_put.l0, if_pos (by omega), if_pos (by omega), e1, e2, e3, show m + (n + 1) = m + 1 + n by omega, ih]
    simp [bs]
theorem put_f (n k : Nat) (l : List Int) (a : Int) (h0 : 0 ≤ a) (h1 : a < 18446744073709551616) (hl : l.length + n < 140737488355328) (hn : n < 100) (hk : n < k) : octet_put.f k l a (n : Int) = some (l ++ bs n a) := by
  have h := put_l0 n k 0 a l h0 h1 hl (by omega) hk
  simp only [Nat.zero_add] at h
  unfold octet_put.f slices_Clone_byte_byte.f
  simp only [Option.bind_some, List.length_nil, Nat.zero_add, List.nil_append]
  rw [if_pos (by omega)]
  exact h
theorem put64_f (k : Nat) (hk : 8 < k) (l : List Int) (a : Int) (h0 : 0 ≤ a) (h1 : a < 18446744073709551616) (hl : l.length + 8 < 140737488355328) : octet_Put64.f k l a = some (l ++ bs 8 a) := by
  have h := put_f 8 k l a h0 h1 hl (by omega) hk
  unfold octet_Put64.f
  rw [show ((8 : Nat) : Int) = 8 from rfl] at h
  rw [h]; rfl
theorem put32_f (k : Nat) (hk : 8 < k) (a : Int) (h0 : 0 ≤ a) (h1 : a < 4294967296) : octet_Put32.f k [] a = some (bs 4 a) := by
  have h := put_f 4 k [] a h0 (by omega) (by simp) (by omega) (by omega)
  unfold octet_Put32.f
  rw [show ((4 : Nat) : Int) = 4 from rfl] at h
  rw [u64_id h0 (by omega), h]; rfl
theorem put16_f (k : Nat) (hk : 8 < k) (a : Int) (h0 : 0 ≤ a) (h1 : a < 65536) : octet_Put16.f k [] a = some (bs 2 a) := by
  have h := put_f 2 k [] a h0 (by omega) (by simp) (by omega) (by omega)
  unfold octet_Put16.f
  rw [show ((2 : Nat) : Int) = 2 from rfl] at h
  rw [u64_id h0 (by omega), h]; rfl
theorem t4 (a : Int) (h0 : 0 ≤ a) : (bs 8 a).take 4 = bs 4 (a % 4294967296) := by
  simp only [bs, List.take_succ_cons, List.take_zero, List.cons.injEq, and_true]
  refine ⟨?_, ?_, ?_, ?_⟩ <;> omega
theorem d4 (a : Int) (h0 : 0 ≤ a) : (bs 8 a).drop 4 = bs 4 (a / 4294967296 % 4294967296) := by
  simp only [bs, List.drop_succ_cons, List.drop_zero, List.cons.injEq, and_true]
  refine ⟨?_, ?_, ?_, ?_⟩ <;> omega
theorem t2 (a : Int) (h0 : 0 ≤ a) : (bs 8 a).take 2 = bs 2 (a % 65536) := by
  simp only [bs, List.take_succ_cons, List.take_zero, List.cons.injEq, and_true]
  refine ⟨?_, ?_⟩ <;> omega
theorem s_w64 {n : Int} (h0 : -9223372036854775808 ≤ n) (h1 : n < 9223372036854775808) : wrap64 n = n := by unfold wrap64; omega
/-- The byte there, or none. -/
def g (x : List Int) (i : Nat) : Int := x[i]?.getD 0
def sumv (x y : List Int) : Nat → Int → Nat → List Int
  | _, _, 0 => []
  | i, c, n + 1 => ((c + (g x i + g y i)) % 256) :: sumv x y (i + 1) ((c + (g x i + g y i)) / 256) n
def Oct (x : List Int) : Prop := ∀ i, 0 ≤ g x i ∧ g x i < 256
theorem rd_g (x : List Int) (i : Nat) : rd x (i : Int) = g x i := by simp [rd, g, List.getD_eq_getElem?_getD]
theorem at_f (x : List Int) (hx : Oct x) (i : Nat) : octet_Add_c1.f x (i : Int) = some (g x i) := by
  unfold octet_Add_c1.f
  have h := hx i
  by_cases c : (i : Int) < x.length
  · rw [if_pos c, if_pos (by omega), rd_g, s_w64 (by omega) (by omega)]
  · rw [if_neg c]
    have : x[i]? = none := List.getElem?_eq_none (by omega)
    simp [g, this]
theorem add_l0 (x y : List Int) (hx : Oct x) (hy : Oct y) (n : Nat) : ∀ (k i : Nat) (c : Int) (p : List Int), p.length = i → 0 ≤ c → c ≤ 1 → i + n < 140737488355328 → n < k →
    octet_Add.l0 k x y (p ++ List.replicate n 0) c ((i + n : Nat) : Int) (i : Int) = some (p ++ sumv x y i c n) := by
  induction n with
  | zero =>
    intro k i c p hp h0 h1 hb hk
    obtain ⟨k, rfl⟩ : ∃ k', k = k' + 1 := ⟨k - 1, by omega⟩
    rw [octet_Add.l0, if_neg (by omega)]
    simp [sumv]
  | succ n ih =>
    intro k i c p hp h0 h1 hb hk
    obtain ⟨k, rfl⟩ : ∃ k', k = k' + 1 := ⟨k - 1, by omega⟩
    have hxi := hx i
    have hyi := hy i
    rw [octet_Add.l0, if_pos (by omega), at_f x hx, at_f y hy]
    simp only [Option.bind_some]
    rw [if_pos (by omega), if_pos (by simp; omega), s_w64 (n := g x i + g y i) (by omega) (by omega), s_w64 (n := c + (g x i + g y i)) (by omega) (by omega), s_w64 (n := (i : Int) + 1) (by omega) (by omega)]
    have e : (p ++ List.replicate (n + 1) 0).set (i : Int).toNat ((c + (g x i + g y i)) % 256) = (p ++ [(c + (g x i + g y i)) % 256]) ++ List.replicate n 0 := by
      subst hp
      simp [List.replicate_succ]
    have h := ih k (i + 1) ((c + (g x i + g y i)) / 256) (p ++ [(c + (g x i + g y i)) % 256]) (by simp [hp]) (by omega) (by omega) (by omega) (by omega)
    rw [e, show i + (n + 1) = i + 1 + n by omega, show ((i : Int) + 1) = ((i + 1 : Nat) : Int) by omega, h]
    simp [sumv]
theorem sumv_length (x y : List Int) : ∀ (n i : Nat) (c : Int), (sumv x y i c n).length = n
  | 0, _, _ => rfl
  | n + 1, i, c => by simp [sumv, sumv_length x y n]
theorem oct_bytes {x : List Int} (h : Bytes x) : Oct x := h
theorem bytes_oct {x : List Int} (h : Oct x) : Bytes x := h
theorem add_f (k : Nat) (x y : List Int) (hx : Oct x) (hy : Oct y) (m : Nat) (hm : m = max x.length y.length) (hb : m < 140737488355328) (hk : m < k) : octet_Add.f k x y = some (sumv x y 0 0 m) := by
  have hmx : mx (x.length : Int) (y.length : Int) = (m : Int) := by unfold mx; split <;> omega
  unfold octet_Add.f
  rw [hmx, if_pos (by omega), if_pos (by omega)]
  simp only [Option.bind_some]
  have h := add_l0 x y hx hy m k 0 0 [] rfl (by omega) (by omega) (by omega) (by omega)
  simpa using h
theorem bs_bytes : ∀ (n : Nat) (a : Int), Bytes (bs n a)
  | 0, a => fun j => by simp [bs]
  | n + 1, a => fun j => by
    cases j with
    | zero => simp only [bs, List.getElem?_cons_zero, Option.getD_some]; omega
    | succ j => simpa [bs] using bs_bytes n (a / 256) j
theorem mod_split (t M p : Int) (hp : 0 < p) : t % 256 + 256 * ((t / 256 + M) % p) = (t + 256 * M) % (p * 256) := by
  have e := Int.mul_ediv_add_emod (t / 256 + M) p
  have u0 := Int.emod_nonneg (t / 256 + M) (show p ≠ 0 by omega)
  have u1 := Int.emod_lt_of_pos (t / 256 + M) hp
  obtain ⟨u, hu⟩ : ∃ u, (t / 256 + M) % p = u := ⟨_, rfl⟩
  obtain ⟨q, hq⟩ : ∃ q, (t / 256 + M) / p = q := ⟨_, rfl⟩
  rw [hu] at e u0 u1 ⊢
  rw [hq] at e
  have e2 : p * 256 * q = 256 * (p * q) := by rw [Int.mul_comm p 256, Int.mul_assoc]
  have ea : t + 256 * M = (t % 256 + 256 * u) + (p * 256) * q := by rw [e2]; omega
  rw [ea, Int.add_mul_emod_self_left, Int.emod_eq_of_lt (a := t % 256 + 256 * u) (b := p * 256) (by omega) (by omega)]
theorem num_bs : ∀ (n : Nat) (a : Int), 0 ≤ a → num (bs n a) = a % 256 ^ n
  | 0, a, _ => by simp [bs, num, Int.emod_one]
  | n + 1, a, h => by
    have ih := num_bs n (a / 256) (by omega)
    have hp : (0 : Int) < 256 ^ n := Int.pow_pos (by omega)
    have e := mod_split a 0 (256 ^ n) hp
    simp only [bs, num, ih, Int.pow_succ]
    simpa using e
/-- The number of n bytes from a place on. -/
def N (x : List Int) : Nat → Nat → Int
  | _, 0 => 0
  | i, n + 1 => g x i + 256 * N x (i + 1) n
theorem N_num (x : List Int) : ∀ (n i : Nat), i + n = x.length → N x i n = num (x.drop i)
  | 0, i, h => by rw [List.drop_eq_nil_of_le (by omega)]; rfl
  | n + 1, i, h => by
    rw [List.drop_eq_getElem_cons (by omega)]
    simp only [N, num]
    rw [N_num x n (i + 1) (by omega)]
    congr 1
    simp [g, List.getElem?_eq_getElem (show i < x.length by omega)]
theorem num_sumv (x y : List Int) (hx : Oct x) (hy : Oct y) : ∀ (n i : Nat) (c : Int), num (sumv x y i c n) = (c + N x i n + N y i n) % 256 ^ n
  | 0, i, c => by simp [sumv, num, N, Int.emod_one]
  | n + 1, i, c => by
    have ih := num_sumv x y hx hy n (i + 1) ((c + (g x i + g y i)) / 256)
    have hp : (0 : Int) < 256 ^ n := Int.pow_pos (by omega)
    have e := mod_split (c + (g x i + g y i)) (N x (i + 1) n + N y (i + 1) n) (256 ^ n) hp
    simp only [sumv, num, ih, N, Int.pow_succ]
    rw [Int.add_assoc ((c + (g x i + g y i)) / 256), e]
    congr 1
    omega
theorem sumv_comm (x y : List Int) : ∀ (n i : Nat) (c : Int), sumv x y i c n = sumv y x i c n
  | 0, _, _ => rfl
  | n + 1, i, c => by simp only [sumv]; rw [sumv_comm x y n, Int.add_comm (g x i)]
theorem sumv_congr (x x' y : List Int) (h : ∀ i, g x i = g x' i) : ∀ (n i : Nat) (c : Int), sumv x y i c n = sumv x' y i c n
  | 0, _, _ => rfl
  | n + 1, i, c => by simp only [sumv]; rw [sumv_congr x x' y h n, h i]
theorem sumv_nil (x : List Int) (hx : Oct x) : ∀ (n i : Nat), i + n = x.length → sumv x [] i 0 n = x.drop i
  | 0, i, h => by rw [List.drop_eq_nil_of_le (by omega)]; rfl
  | n + 1, i, h => by
    have hi := hx i
    have e0 : g [] i = 0 := by simp [g]
    rw [List.drop_eq_getElem_cons (by omega)]
    simp only [sumv, e0]
    rw [show (0 + (g x i + 0)) / 256 = 0 by omega, show (0 + (g x i + 0)) % 256 = g x i by omega, sumv_nil x hx n (i + 1) (by omega)]
    congr 1
    simp [g, List.getElem?_eq_getElem (show i < x.length by omega)]
theorem sumv_oct (x y : List Int) : ∀ (n i : Nat) (c : Int), Bytes (sumv x y i c n)
  | 0, i, c => fun j => by simp [sumv]
  | n + 1, i, c => fun j => by
    cases j with
    | zero => simp only [sumv, List.getElem?_cons_zero, Option.getD_some]; omega
    | succ j => simpa [sumv] using sumv_oct x y n (i + 1) _ j
theorem g_bs : ∀ (n i : Nat) (a : Int), g (bs n a) i = if i < n then a / 256 ^ i % 256 else 0
  | 0, i, a => by simp [bs, g]
  | n + 1, 0, a => by simp [bs, g]
  | n + 1, i + 1, a => by
    have h := g_bs n i (a / 256)
    have e : g (bs (n + 1) a) (i + 1) = g (bs n (a / 256)) i := by simp [bs, g]
    rw [e, h]
    have : a / 256 / 256 ^ i = a / 256 ^ (i + 1) := by rw [Int.pow_succ, Int.mul_comm, Int.ediv_ediv_of_nonneg (by omega)]
    rw [this]
    by_cases hi : i < n
    · rw [if_pos hi, if_pos (by omega)]
    · rw [if_neg hi, if_neg (by omega)]
theorem g48 (z : Int) (h0 : 0 ≤ z) (h1 : z < 4294967296) (i : Nat) : g (bs 4 z) i = g (bs 8 z) i := by
  rw [g_bs, g_bs]
  by_cases hi : i < 4
  · rw [if_pos hi, if_pos (by omega)]
  · rw [if_neg hi]
    by_cases hj : i < 8
    · rw [if_pos hj]
      have : z / 256 ^ i = 0 := by
        have : i = 4 ∨ i = 5 ∨ i = 6 ∨ i = 7 := by omega
        rcases this with rfl | rfl | rfl | rfl <;> simp <;> omega
      rw [this]; rfl
    · rw [if_neg hj]
/-- What is handed back reads as these bytes. -/
def RowPost (n : Nat) (l : List Int) (w : World) (e : Ending) (w' : World) : Prop := ∃ A c, e = .returned (.slice A n c) ∧ n ≤ c ∧ Kd.C (Kd.int .u8) w' A n l ∧ Below w.heap.size w w'
theorem rowpost {n : Nat} {l : List Int} {w : World} (hn : l.length = n) {e : Ending} {w' : World} (h : ∃ v0_ : Value, e = .returned v0_ ∧ Kd.R (Kd.int .u8) 5 w' w.heap.size (fun _ => True) v0_ l ∧ Below w.heap.size w w') : RowPost n l w e w' := by
  obtain ⟨v, rfl, hR, hB⟩ := h
  obtain ⟨A, c, rfl, hc, hC⟩ := Kd.R_reads hR
  subst hn
  exact ⟨A, c, rfl, hc, hC, hB⟩
theorem put64_c (x : Int) (h0 : 0 ≤ x) (h1 : x < 18446744073709551616) (w : World) : Calls Try.prog 18 #[.slice none 0 0, .int .u64 x] w (RowPost 8 (bs 8 x) w) :=
  (octet_Put64.calls 20 none 0 [] x (bs 8 x) w (Kd.C_nil _ _) (Nat.le_refl _) (by rw [put64_f 20 (by omega) [] x h0 h1 (by simp)]; rfl)).mono fun _ _ h => rowpost (bs_length _ _) h
theorem put32_c (x : Int) (h0 : 0 ≤ x) (h1 : x < 4294967296) (w : World) : Calls Try.prog 20 #[.slice none 0 0, .int .u32 x] w (RowPost 4 (bs 4 x) w) :=
  (octet_Put32.calls 20 none 0 [] x (bs 4 x) w (Kd.C_nil _ _) (Nat.le_refl _) (put32_f 20 (by omega) x h0 h1)).mono fun _ _ h => rowpost (bs_length _ _) h
theorem put16_c (x : Int) (h0 : 0 ≤ x) (h1 : x < 65536) (w : World) : Calls Try.prog 19 #[.slice none 0 0, .int .u16 x] w (RowPost 2 (bs 2 x) w) :=
  (octet_Put16.calls 20 none 0 [] x (bs 2 x) w (Kd.C_nil _ _) (Nat.le_refl _) (put16_f 20 (by omega) x h0 h1)).mono fun _ _ h => rowpost (bs_length _ _) h
theorem add_c (A B : Option Addr) (n m c d p : Nat) (x y : List Int) (w : World) (hx : Kd.C (Kd.int .u8) w A n x) (hc : n ≤ c) (hy : Kd.C (Kd.int .u8) w B m y) (hd : m ≤ d) (ox : Oct x) (oy : Oct y) (hp : p = max n m) (hb : p < 3001) :
    Calls Try.prog 15 #[.slice A n c, .slice B m d] w (RowPost p (sumv x y 0 0 p) w) := by
  obtain rfl := Kd.C_len hx
  obtain rfl := Kd.C_len hy
  exact (octet_Add.calls 4000 A c x B d y _ w hx hc hy hd (add_f 4000 x y ox oy p hp (by omega) (by omega))).mono fun _ _ h => rowpost (sumv_length _ _ _ _ _) h
theorem eq_c (A B : Option Addr) (n m c d : Nat) (x y : List Int) (w : World) (hx : Kd.C (Kd.int .u8) w A n x) (hc : n ≤ c) (hy : Kd.C (Kd.int .u8) w B m y) (hd : m ≤ d) (ox : Bytes x) (oy : Bytes y) (h : x = y) :
    Calls Try.prog 22 #[.slice A n c, .slice B m d] w fun e w' => e = .returned (.bool true) ∧ Drawn0 w w' := by
  obtain rfl := Kd.C_len hx
  obtain rfl := Kd.C_len hy
  subst h
  exact bytes_Equal.calls A c x B d x true w hx hc hy hd (by simp [bytes_Equal.f])
theorem read_c (A : Option Addr) (n c : Nat) (l : List Int) (w : World) (hC : Kd.C (Kd.int .u8) w A n l) (hc : n ≤ c) (hlen : n ≤ 140737488350000) : Calls Try.prog 23 #[.slice A n c] w (ReadPost l w) := by
  obtain rfl := Kd.C_len hC
  exact read_w A c l w hC hc hlen
end Go.Proofs.Ytpejeeemefmafaa.RD
