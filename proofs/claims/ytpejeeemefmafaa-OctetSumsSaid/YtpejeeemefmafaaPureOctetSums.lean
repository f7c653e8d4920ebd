import Derived.Test.YtpejeeemefmafaaPGx2
namespace Go.Proofs.Ytpejeeemefmafaa.Pure
open Go.RowKit Go.Proofs.Ytpejeeemefmafaa.PG Go.Proofs.YtpejeeemefmafaaW.PrintWords Go.Proofs.YtpejeeemefmafaaW.PrintLast
set_option linter.unusedVariables false
set_option linter.unusedSimpArgs false
theorem s_w64 {n : Int} (h0 : -9223372036854775808 ≤ n) (h1 : n < 9223372036854775808) : wrap64 n = n := by unfold wrap64; omega
theorem u8_rng {n : Int} (h : (Lit.int .u8 n).wf = true) : 0 ≤ n ∧ n < 256 := by
  simp [Lit.wf, IntKind.min, IntKind.max, IntKind.bits, IntKind.signed] at h; omega
/-- The byte there, or none. -/
def g (x : List Int) (i : Nat) : Int := x[i]?.getD 0
def sumv (x y : List Int) : Nat → Int → Nat → List Int
  | _, _, 0 => []
  | i, c, n + 1 => ((c + (g x i + g y i)) % 256) :: sumv x y (i + 1) ((c + (g x i + g y i)) / 256) n
def Oct (x : List Int) : Prop := ∀ i, 0 ≤ g x i ∧ g x i < 256
theorem rd_g (x : List Int) (i : Nat) : rd x (i : Int) = g x i := by simp [rd, g, List.getD_eq_getElem?_getD]
theorem at_f (x : List Int) (hx : Oct x) (i : Nat) : octet_Add_c1.f x (i : Int) = some (g x i) := by
  unfold octet_Add_c1.f
  have h := hx i
  by_cases c : (i : Int) < x.length
  · rw [if_pos c, if_pos (by omega), rd_g, s_w64 (by omega) (by omega)]
  · rw [if_neg c]
    have : x[i]? = none := List.getElem?_eq_none (by omega)
    simp [g, this]
theorem add_l0 (x y : List Int) (hx : Oct x) (hy : Oct y) (n : Nat) : ∀ (k i : Nat) (c : Int) (p : List Int), p.length = i → 0 ≤ c → c ≤ 1 → i + n < 140737488355328 → n < k →
    octet_Add.l0 k x y (p ++ List.replicate n 0) c ((i + n : Nat) : Int) (i : Int) = some (p ++ sumv x y i c n) := by
  induction n with
  | zero =>
    intro k i c p hp h0 h1 hb hk
    obtain ⟨k, rfl⟩ : ∃ k', k = k' + 1 := ⟨k - 1, by omega⟩
    rw [octet_Add.l0, if_neg (by omega)]
    simp [sumv]
  | succ n ih =>
    intro k i c p hp h0 h1 hb hk
    obtain ⟨k, rfl⟩ : ∃ k', k = k' + 1 := ⟨k - 1, by omega⟩
    have hxi := hx i
    have hyi := hy i
    rw [octet_Add.l0, if_pos (by omega), at_f x hx, at_f y hy]
    simp only [Option.bind_some]
    rw [if_pos (by omega), if_pos (by simp; omega), s_w64 (n := g x i + g y i) (by omega) (by omega), s_w64 (n := c + (g x i + g y i)) (by omega) (by omega), s_w64 (n := (i : Int) + 1) (by omega) (by omega)]
    have e : (p ++ List.replicate (n + 1) 0).set (i : Int).toNat ((c + (g x i + g y i)) % 256) = (p ++ [(c + (g x i + g y i)) % 256]) ++ List.replicate n 0 := by
      subst hp
      simp [List.replicate_succ]
    have h := ih k (i + 1) ((c + (g x i + g y i)) / 256) (p ++ [(c + (g x i + g y i)) % 256]) (by simp [hp]) (by omega) (by omega) (by omega) (by omega)
    rw [e, show i + (n + 1) = i + 1 + n by omega, show ((i : Int) + 1) = ((i + 1 : Nat) : Int) by omega, h]
    simp [sumv]
theorem ref_l0 (x y : List Int) (hx : Oct x) (hy : Oct y) (n : Nat) : ∀ (k i : Nat) (c : Int) (p : List Int), p.length = i → 0 ≤ c → c ≤ 1 → i + n < 140737488355328 → n < k →
    wicketgateref01_Add.l0 k x y ((i + n : Nat) : Int) p c (i : Int) = some (p ++ sumv x y i c n) := by
  induction n with
  | zero =>
    intro k i c p hp h0 h1 hb hk
    obtain ⟨k, rfl⟩ : ∃ k', k = k' + 1 := ⟨k - 1, by omega⟩
    rw [wicketgateref01_Add.l0, if_neg (by omega)]
    simp [sumv]
  | succ n ih =>
    intro k i c p hp h0 h1 hb hk
    obtain ⟨k, rfl⟩ : ∃ k', k = k' + 1 := ⟨k - 1, by omega⟩
    have hxi := hx i
    have hyi := hy i
    have h := ih k (i + 1) ((c + (g x i + g y i)) / 256) (p ++ [(c + (g x i + g y i)) % 256]) (by simp [hp]) (by omega) (by omega) (by omega) (by omega)
    have fin : ∀ s : Int, s = c + (g x i + g y i) → Int.tmod s 256 % 256 = s % 256 ∧ wrap64 (Int.tdiv s 256) = s / 256 := fun s hs => by
      have s0 : 0 ≤ s := by omega
      rw [Int.tmod_eq_emod_of_nonneg s0, Int.tdiv_eq_ediv_of_nonneg s0]
      exact ⟨by omega, s_w64 (by omega) (by omega)⟩
    rw [wicketgateref01_Add.l0, if_pos (by omega), rd_g, rd_g, s_w64 (n := (i : Int) + 1) (by omega) (by omega), s_w64 (n := g x i) (by omega) (by omega), s_w64 (n := g y i) (by omega) (by omega), s_w64 (n := c + g x i) (by omega) (by omega), s_w64 (n := c + g x i + g y i) (by omega) (by omega), s_w64 (n := c + g y i) (by omega) (by omega)]
    rw [show i + 1 + n = i + (n + 1) by omega, show ((i + 1 : Nat) : Int) = (i : Int) + 1 by omega] at h
    have gx : ¬ ((i : Int) < x.length) → g x i = 0 := fun hc => by simp [g, List.getElem?_eq_none (show x.length ≤ i by omega)]
    have gy : ¬ ((i : Int) < y.length) → g y i = 0 := fun hc => by simp [g, List.getElem?_eq_none (show y.length ≤ i by omega)]
    have out : p ++ [(c + (g x i + g y i)) % 256] ++ sumv x y (i + 1) ((c + (g x i + g y i)) / 256) n = p ++ sumv x y i c (n + 1) := by simp [sumv]
    rw [out] at h
    have hl : p.length < 140737488355328 := by omega
    by_cases cx : (i : Int) < x.length
    · rw [if_pos cx, if_pos (by omega)]
      by_cases cy : (i : Int) < y.length
      · obtain ⟨f1, f2⟩ := fin (c + g x i + g y i) (by omega)
        rw [if_pos cy, if_pos hl, f1, f2, show c + g x i + g y i = c + (g x i + g y i) by omega]; exact h
      · have z := gy cy
        obtain ⟨f1, f2⟩ := fin (c + g x i) (by omega)
        rw [if_neg cy, if_pos hl, f1, f2, show c + g x i = c + (g x i + g y i) by omega]; exact h
    · have z := gx cx
      rw [if_neg cx]
      by_cases cy : (i : Int) < y.length
      · obtain ⟨f1, f2⟩ := fin (c + g y i) (by omega)
        rw [if_pos cy, if_pos (by omega), if_pos hl, f1, f2, show c + g y i = c + (g x i + g y i) by omega]; exact h
      · have z' := gy cy
        obtain ⟨f1, f2⟩ := fin c (by omega)
        rw [if_neg cy, if_pos hl, f1, f2, show c = c + (g x i + g y i) by omega]; simpa [z, z'] using h
theorem same_l0 (x : List Int) (n : Nat) : ∀ (k i : Nat), i + n = x.length → x.length < 140737488355328 → n < k → wicketgateref01_Same.l0 k x x (i : Int) = some true := by
  induction n with
  | zero =>
    intro k i h hb hk
    obtain ⟨k, rfl⟩ : ∃ k', k = k' + 1 := ⟨k - 1, by omega⟩
    rw [wicketgateref01_Same.l0, if_neg (by omega)]
  | succ n ih =>
    intro k i h hb hk
    obtain ⟨k, rfl⟩ : ∃ k', k = k' + 1 := ⟨k - 1, by omega⟩
    have h' := ih k (i + 1) (by omega) hb (by omega)
    rw [wicketgateref01_Same.l0, if_pos (by omega), if_pos (by omega), if_pos (by omega), if_pos rfl, s_w64 (n := (i : Int) + 1) (by omega) (by omega)]
    exact h'
theorem same_f (x : List Int) (k : Nat) (hb : x.length < 140737488355328) (hk : x.length < k) : wicketgateref01_Same.f k x x = some true := by
  unfold wicketgateref01_Same.f
  rw [if_pos rfl]
  exact same_l0 x x.length k 0 (by omega) hb hk
theorem sums_l0 (x y : List Int) (hx : x.length < 140737488355328) (hy : y.length < 140737488355328) (n : Nat) : ∀ (k i : Nat) (z : List Int), z.length = i + n → i + n < 140737488355328 → n + x.length + y.length + 1 < k →
    wicketgatelaw01_OctetSums.l0 k x y x y z ((i + n : Nat) : Int) (i : Int) = some true := by
  induction n with
  | zero =>
    intro k i z hz hb hk
    obtain ⟨k, rfl⟩ : ∃ k', k = k' + 1 := ⟨k - 1, by omega⟩
    rw [wicketgatelaw01_OctetSums.l0, if_neg (by omega), same_f x k hx (by omega)]
    simp only [Option.bind_some, if_true]
    rw [same_f y k hy (by omega)]; rfl
  | succ n ih =>
    intro k i z hz hb hk
    obtain ⟨k, rfl⟩ : ∃ k', k = k' + 1 := ⟨k - 1, by omega⟩
    have h := ih k (i + 1) (z.set (i : Int).toNat (((rd z (i : Int)) + 1) % 256)) (by simp; omega) (by omega) (by omega)
    rw [wicketgatelaw01_OctetSums.l0, if_pos (by omega), if_pos (by omega), if_pos (by omega), s_w64 (n := (i : Int) + 1) (by omega) (by omega)]
    rw [show i + 1 + n = i + (n + 1) by omega] at h
    exact h
theorem sumv_length (x y : List Int) : ∀ (n i : Nat) (c : Int), (sumv x y i c n).length = n
  | 0, _, _ => rfl
  | n + 1, i, c => by simp [sumv, sumv_length x y n]
theorem oct_of (x : List Int) (h : ∀ v ∈ x, (Lit.int .u8 v).wf = true) : Oct x := fun i => by
  unfold g
  cases hi : x[i]? with
  | none => simp
  | some v => exact u8_rng (h v (List.mem_of_getElem? hi))
theorem OctetSums : wicketgatelaw01_OctetSums.Pure := by
  intro x y _ _ hx _ _ hy
  have ox := oct_of x hx
  have oy := oct_of y hy
  refine ⟨20000, ?_⟩
  unfold wicketgatelaw01_OctetSums.f wicketgatelaw01_wakes.f
  simp only [Option.bind_some, if_true]
  by_cases c0 : (x.length : Int) > 3000
  · rw [if_pos c0, wicketgatelaw01_OctetSums.j0, if_pos rfl]
  rw [if_neg c0]
  by_cases c1 : (y.length : Int) > 3000
  · rw [show decide ((y.length : Int) > 3000) = true from decide_eq_true c1, wicketgatelaw01_OctetSums.j0, if_pos rfl]
  rw [show decide ((y.length : Int) > 3000) = false from decide_eq_false c1, wicketgatelaw01_OctetSums.j0, if_neg (by simp)]
  simp only [Option.bind_some, List.length_nil, List.nil_append, Nat.zero_add]
  rw [if_pos (by omega), if_pos (by omega)]
  obtain ⟨m, hm, hm1⟩ : ∃ m : Nat, mx (x.length : Int) (y.length : Int) = (m : Int) ∧ m ≤ 3000 ∧ (m = x.length ∨ m = y.length) ∧ x.length ≤ m ∧ y.length ≤ m := by
    by_cases c : (x.length : Int) < y.length
    · exact ⟨y.length, by unfold mx; rw [if_pos c], by omega⟩
    · exact ⟨x.length, by unfold mx; rw [if_neg c], by omega⟩
  have ha : octet_Add.f 19999 x y = some (sumv x y 0 0 m) := by
    unfold octet_Add.f
    rw [hm, if_pos (by omega), if_pos (by omega)]
    simp only [Option.bind_some]
    have h := add_l0 x y ox oy m 19999 0 0 [] rfl (by omega) (by omega) (by omega) (by omega)
    simpa using h
  have hr : wicketgateref01_Add.f 19999 x y = some (sumv x y 0 0 m) := by
    have h := ref_l0 x y ox oy m 19998 0 0 [] rfl (by omega) (by omega) (by omega) (by omega)
    simp only [Nat.zero_add, List.nil_append] at h
    unfold wicketgateref01_Add.f
    by_cases c : (y.length : Int) > x.length
    · rw [if_pos c, wicketgateref01_Add.j0, show (y.length : Int) = m by omega]; exact h
    · rw [if_neg c, wicketgateref01_Add.j0, show (x.length : Int) = m by omega]; exact h
  rw [ha, hr]
  simp only [Option.bind_some]
  rw [same_f _ 19999 (by rw [sumv_length]; omega) (by rw [sumv_length]; omega)]
  simp only [Option.bind_some, if_true]
  have h := sums_l0 x y (by omega) (by omega) m 19999 0 (sumv x y 0 0 m) (by rw [sumv_length]; omega) (by omega) (by omega)
  simp only [Nat.zero_add] at h
  rw [sumv_length]
  exact h
end Go.Proofs.Ytpejeeemefmafaa.Pure
