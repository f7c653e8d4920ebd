import Derived.Test.YtpejeeemefmafaaOA
namespace Go.Proofs.Ytpejeeemefmafaa.RD
open Go.RowKit Go.Proofs.YtpejeeemefmafaaW.PrintWords Go.Proofs.YtpejeeemefmafaaW.PrintLast Go.Proofs.YtpejeeemefmafaaW.PrintMore
open Go.Proofs.Ytpejeeemefmafaa.PE.L (err_w left_w below_drewN' below_drew' heap_new_at)
set_option linter.unusedVariables false
set_option linter.unusedSimpArgs false
/-- The number of bytes, the least one first. -/
def num : List Int → Int
  | [] => 0
  | b :: t => b + 256 * num t
def Bytes (l : List Int) : Prop := ∀ j : Nat, 0 ≤ l[j]?.getD 0 ∧ l[j]?.getD 0 < 256
theorem Bytes.drop {l : List Int} (h : Bytes l) (k : Nat) : Bytes (l.drop k) := fun j => by simpa using h (k + j)
theorem Bytes.take {l : List Int} (h : Bytes l) (k : Nat) : Bytes (l.take k) := fun j => by
  by_cases hj : j < k
  · rw [List.getElem?_take_of_lt hj]; exact h j
  · rw [List.getElem?_eq_none (by simp; omega)]; simp
theorem Bytes.tail {b : Int} {t : List Int} (h : Bytes (b :: t)) : Bytes t := fun j => by simpa using h (j + 1)
theorem num_snoc (xs : List Int) (b : Int) : num (xs ++ [b]) = num xs + b * 256 ^ xs.length := by
  induction xs with
  | nil => simp [num]
  | cons a t ih =>
    simp only [List.cons_append, num, ih, List.length_cons, Int.pow_succ]
    rw [Int.mul_add, Int.mul_comm (256 ^ t.length) 256, ← Int.mul_assoc, ← Int.mul_assoc, Int.mul_comm b 256]
    omega
theorem num_lt : ∀ {xs : List Int}, Bytes xs → 0 ≤ num xs ∧ num xs < 256 ^ xs.length
  | [], _ => by simp [num]
  | b :: t, h => by
    have h0 := h 0
    have ih := num_lt h.tail
    simp only [List.getElem?_cons_zero, Option.getD_some] at h0
    simp only [num, List.length_cons, Int.pow_succ]
    generalize (256 : Int) ^ t.length = p at ih
    omega
theorem take_snoc (l : List Int) (f k : Nat) (h : f + k < l.length) : (l.drop f).take (k + 1) = (l.drop f).take k ++ [l[f + k]?.getD 0] := by
  rw [List.take_add_one]
  congr 1
  rw [List.getElem?_drop, List.getElem?_eq_getElem h]
  rfl
theorem take_len (l : List Int) (f k : Nat) (h : f + k ≤ l.length) : ((l.drop f).take k).length = k := by simp; omega
/-- Where the reader stands behind a look at n bytes; its error; the bytes. -/
def nf (l : List Int) (f : Nat) (er n : Int) : Nat := if er = 0 ∧ 0 ≤ n ∧ n ≤ (l.length : Int) - f then f + n.toNat else f
def ne (l : List Int) (f : Nat) (er n : Int) : Int := if er = 0 then (if n < 0 then 2 else if (l.length : Int) - f < n then 7 else 0) else er
def nb (l : List Int) (f : Nat) (er n : Int) : List Int := if er = 0 ∧ 0 ≤ n ∧ n ≤ (l.length : Int) - f then (l.drop f).take n.toNat else []
structure Rdr (n₀ g s c : Nat) (A : Option Addr) (l : List Int) (f : Nat) (er : Int) (W : World) : Prop where
  hg : n₀ ≤ g
  hgs : g ≠ s
  hf : f ≤ l.length
  bg : W.heap[g]? = some (.cells #[.slice A l.length c, .int .i64 f, .int .i64 er] 77 (0, 0))
  hs : 0 < l.length → A = some ⟨s, 0, none⟩ ∧ ∃ cells, W.heap[s]? = some (.cells cells 5 (0, 0)) ∧ ∀ j, j < l.length → cells[j]? = some (.int .u8 (l[j]?.getD 0))
section
variable {n₀ g s c : Nat} {A : Option Addr} {l : List Int} {f : Nat} {er : Int} {W W' : World}
theorem Rdr.mv (h : Rdr n₀ g s c A l f er W) (h1 : W'.heap[g]? = W.heap[g]?) (h2 : 0 < l.length → W'.heap[s]? = W.heap[s]?) : Rdr n₀ g s c A l f er W' :=
  ⟨h.hg, h.hgs, h.hf, h1.trans h.bg, fun hp => by
    obtain ⟨e, cells, hb, hc⟩ := h.hs hp
    exact ⟨e, cells, (h2 hp).trans hb, hc⟩⟩
theorem Rdr.glt (h : Rdr n₀ g s c A l f er W) : g < W.heap.size := blk_lt h.bg
theorem Rdr.slt (h : Rdr n₀ g s c A l f er W) (hp : 0 < l.length) : s < W.heap.size := by
  obtain ⟨_, cells, hb, _⟩ := h.hs hp
  exact blk_lt hb
theorem Rdr.drewN (h : Rdr n₀ g s c A l f er W) (k : Nat) : Rdr n₀ g s c A l f er (W.drewN k) := h.mv rfl (fun _ => rfl)
theorem Rdr.drew (h : Rdr n₀ g s c A l f er W) : Rdr n₀ g s c A l f er W.drew := h.mv rfl (fun _ => rfl)
theorem Rdr.below {B : Nat} (h : Rdr n₀ g s c A l f er W) (hb : Below B W W') (h1 : g < B) (h2 : 0 < l.length → s < B) : Rdr n₀ g s c A l f er W' := h.mv (hb.block g h1) (fun hp => hb.block s (h2 hp))
theorem Rdr.under (h : Rdr n₀ g s c A l f er W) (hb : Below W.heap.size W W') : Rdr n₀ g s c A l f er W' := h.below hb h.glt h.slt
theorem Rdr.set1 (h : Rdr n₀ g s c A l f er W) (f' : Nat) (hf : f' ≤ l.length) : Rdr n₀ g s c A l f' er (W.setCell ⟨g, 1, none⟩ (.int .i64 f')) :=
  ⟨h.hg, h.hgs, hf, by simpa using blk_set h.bg 1 (.int .i64 (f' : Int)), fun hp => by
    obtain ⟨e, cells, hb, hc⟩ := h.hs hp
    exact ⟨e, cells, blk_far hb (fun e => h.hgs e.symm) _, hc⟩⟩
theorem Rdr.set2 (h : Rdr n₀ g s c A l f er W) (er' : Int) : Rdr n₀ g s c A l f er' (W.setCell ⟨g, 2, none⟩ (.int .i64 er')) :=
  ⟨h.hg, h.hgs, h.hf, by simpa using blk_set h.bg 2 (.int .i64 er'), fun hp => by
    obtain ⟨e, cells, hb, hc⟩ := h.hs hp
    exact ⟨e, cells, blk_far hb (fun e => h.hgs e.symm) _, hc⟩⟩
theorem Rdr.c0 (h : Rdr n₀ g s c A l f er W) : W.cell? ⟨g, 0, none⟩ = some (.slice A l.length c) := blk_cell h.bg 0
theorem Rdr.c1 (h : Rdr n₀ g s c A l f er W) : W.cell? ⟨g, 1, none⟩ = some (.int .i64 f) := blk_cell h.bg 1
theorem Rdr.c2 (h : Rdr n₀ g s c A l f er W) : W.cell? ⟨g, 2, none⟩ = some (.int .i64 er) := blk_cell h.bg 2
theorem Rdr.cs (h : Rdr n₀ g s c A l f er W) (j : Nat) (hj : j < l.length) : A = some ⟨s, 0, none⟩ ∧ W.cell? ⟨s, j, none⟩ = some (.int .u8 (l[j]?.getD 0)) := by
  obtain ⟨e, cells, hb, hc⟩ := h.hs (by omega)
  exact ⟨e, (blk_cell hb j).trans (hc j hj)⟩
end
/-- What a look leaves as it was: all but the reader's own block, of what lies below n₁. -/
structure Kp (n₀ n₁ g : Nat) (w w' : World) : Prop where
  b : Below n₀ w w'
  k : ∀ i, i < n₁ → i ≠ g → w'.heap[i]? = w.heap[i]?
theorem Kp.refl (n₀ n₁ g : Nat) (w : World) : Kp n₀ n₁ g w w := ⟨Below.refl _ _, fun _ _ _ => rfl⟩
theorem Kp.trans {n₀ n₁ g : Nat} {w w1 w2 : World} (h : Kp n₀ n₁ g w w1) (h' : Kp n₀ n₁ g w1 w2) : Kp n₀ n₁ g w w2 := ⟨h.b.trans h'.b, fun i hi hg => (h'.k i hi hg).trans (h.k i hi hg)⟩
theorem Kp.drewN {n₀ n₁ g : Nat} {w w1 : World} (h : Kp n₀ n₁ g w w1) (m : Nat) : Kp n₀ n₁ g w (w1.drewN m) := ⟨below_drewN' h.b m, fun i hi hg => h.k i hi hg⟩
theorem Kp.drew {n₀ n₁ g : Nat} {w w1 : World} (h : Kp n₀ n₁ g w w1) : Kp n₀ n₁ g w w1.drew := ⟨below_drew' h.b, fun i hi hg => h.k i hi hg⟩
theorem Kp.set {n₀ n₁ g : Nat} {w w1 : World} (h : Kp n₀ n₁ g w w1) (hg : n₀ ≤ g) (j : Nat) (v : Value) : Kp n₀ n₁ g w (w1.setCell ⟨g, j, none⟩ v) := ⟨Below.setCell h.b hg _, fun i hi hne => (Below.heap_setCell w1 _ v i hne).trans (h.k i hi hne)⟩
theorem Kp.below {n₀ n₁ g : Nat} {w w1 w2 : World} (h : Kp n₀ n₁ g w w1) (hb : Below n₁ w1 w2) (hn : n₀ ≤ n₁) : Kp n₀ n₁ g w w2 := ⟨h.b.trans (hb.mono hn), fun i hi hg => (hb.block i hi).trans (h.k i hi hg)⟩
set_option maxHeartbeats 2000000 in
theorem look_ok58 (n₀ n₁ g s c X n f : Nat) (A : Option Addr) (l : List Int) (P : Nat → World → Prop) (hlen : l.length ≤ 140737488350000) (hfn : f + n ≤ l.length) (hn : n₀ ≤ n₁) (hg1 : g < n₁) (hs1 : 0 < l.length → s < n₁)
    (hstep : ∀ k W, k < n → P k W → Calls Try.prog 58 #[.int .i64 (k : Int), .int .u8 (l[f + k]?.getD 0), .pointer (some ⟨X, 0, none⟩)] W fun e W' => e = .returned (.tuple #[]) ∧ P (k + 1) W' ∧ Below n₁ W W')
    (hdr : ∀ k W m, P k W → P k (W.drewN m)) (hset : ∀ W v, P n W → P n (W.setCell ⟨g, 1, none⟩ v))
    (w : World) (hR : Rdr n₀ g s c A l f 0 w) (hP : P 0 w) :
    Calls Try.prog 48 #[.pointer (some ⟨g, 0, none⟩), .int .i64 (n : Int), .func (.func 58) #[] #[.pointer (some ⟨X, 0, none⟩)]] w fun e w' => e = .returned (.tuple #[]) ∧ Rdr n₀ g s c A l (f + n) 0 w' ∧ P n w' ∧ Kp n₀ n₁ g w w' := by
  have hst := Aside0.mk hstep
  have hd := Aside0.mk hdr
  have he := Aside0.mk hset
  have hs1' := Aside0.mk hs1
  clear hstep hdr hset hs1
  go_enter Try.func48, Try.ntmps48
  go_wp2_with fail
  refine (err_w g 0 w hR.c2).mono ?_
  rintro e w1 ⟨rfl, ⟨k1, rfl⟩⟩
  go_wp2_with fail
  refine (left_w g A l.length c f _ ((World.cell?_drewN _ _ _).trans hR.c0) ((World.cell?_drewN _ _ _).trans hR.c1) (by omega) (by omega)).mono ?_
  rintro e w2 ⟨rfl, ⟨k2, rfl⟩⟩
  have hle : ¬ ((l.length : Int) - f < n) := by omega
  have h0n : ¬ ((n : Int) < 0) := by omega
  go_wp2_with fail
  go_loopw [23] (fun i wr => ∃ k : Nat, k ≤ n ∧ i = .int .i64 k ∧ Aside0 (Rdr n₀ g s c A l f 0 wr) ∧ Aside0 (P k wr) ∧ Aside0 (Kp n₀ n₁ g w wr)) (fun i _ => n - (intOf i).toNat)
  case atStart => exact ⟨0, Nat.zero_le _, rfl, ⟨hR.drewN _⟩, ⟨hd.out _ _ _ hP⟩, ⟨(Kp.refl _ _ _ _).drewN _⟩⟩
  case round =>
    obtain ⟨k, hk, rfl, hRr, hPr, hB⟩ := hrel
    by_cases hlt : k < n
    · have g0 := hRr.out.c0
      have g1 := hRr.out.c1
      obtain ⟨eA, gs⟩ := hRr.out.cs (f + k) (by omega)
      subst eA
      go_wp2
      have e1 : IntKind.i64.wrap ((f : Int) + k) = f + k := by simp [IntKind.wrap, IntKind.bits, IntKind.signed]; omega
      have b0 : (0 : Int) ≤ f + k := by omega
      have b1 : (f : Int) + k < l.length := by omega
      have b2 : ((f : Int) + k).toNat = f + k := by omega
      go_still_tail 16, (by kernel_rfl)
      change wpList _ _ _ _ _ wr.drew
      go_wp2_with fail
      refine (hst.out k wr.drew hlt (hd.out k wr 1 hPr.out)).mono ?_
      rintro e W3 ⟨rfl, hP3, hB3⟩
      have hP3' := Aside0.mk hP3
      clear hP3
      go_wp2
      go_roundw
      case rel => exact ⟨k + 1, by omega, by simp, ⟨hRr.out.drew.below hB3 hg1 hs1'.out⟩, ⟨hP3'.out⟩, ⟨hB.out.drew.below hB3 hn⟩⟩
      case measure => simp [intOf]; omega
    · obtain rfl : k = n := by omega
      have g1 := hRr.out.c1
      have ff := blk_frozen hRr.out.bg 1
      go_wp2
      go_end0
      have h' := hRr.out.set1 (f + k) hfn
      rw [Int.natCast_add] at h'
      exact ⟨rfl, h', he.out _ _ hPr.out, hB.out.set hRr.out.hg _ _⟩
set_option maxHeartbeats 2000000 in
theorem look_ok49 (n₀ n₁ g s c X n f : Nat) (A : Option Addr) (l : List Int) (P : Nat → World → Prop) (hlen : l.length ≤ 140737488350000) (hfn : f + n ≤ l.length) (hn : n₀ ≤ n₁) (hg1 : g < n₁) (hs1 : 0 < l.length → s < n₁)
    (hstep : ∀ k W, k < n → P k W → Calls Try.prog 49 #[.int .i64 (k : Int), .int .u8 (l[f + k]?.getD 0), .pointer (some ⟨X, 0, none⟩)] W fun e W' => e = .returned (.tuple #[]) ∧ P (k + 1) W' ∧ Below n₁ W W')
    (hdr : ∀ k W m, P k W → P k (W.drewN m)) (hset : ∀ W v, P n W → P n (W.setCell ⟨g, 1, none⟩ v))
    (w : World) (hR : Rdr n₀ g s c A l f 0 w) (hP : P 0 w) :
    Calls Try.prog 48 #[.pointer (some ⟨g, 0, none⟩), .int .i64 (n : Int), .func (.func 49) #[] #[.pointer (some ⟨X, 0, none⟩)]] w fun e w' => e = .returned (.tuple #[]) ∧ Rdr n₀ g s c A l (f + n) 0 w' ∧ P n w' ∧ Kp n₀ n₁ g w w' := by
  have hst := Aside0.mk hstep
  have hd := Aside0.mk hdr
  have he := Aside0.mk hset
  have hs1' := Aside0.mk hs1
  clear hstep hdr hset hs1
  go_enter Try.func48, Try.ntmps48
  go_wp2_with fail
  refine (err_w g 0 w hR.c2).mono ?_
  rintro e w1 ⟨rfl, ⟨k1, rfl⟩⟩
  go_wp2_with fail
  refine (left_w g A l.length c f _ ((World.cell?_drewN _ _ _).trans hR.c0) ((World.cell?_drewN _ _ _).trans hR.c1) (by omega) (by omega)).mono ?_
  rintro e w2 ⟨rfl, ⟨k2, rfl⟩⟩
  have hle : ¬ ((l.length : Int) - f < n) := by omega
  have h0n : ¬ ((n : Int) < 0) := by omega
  go_wp2_with fail
  go_loopw [23] (fun i wr => ∃ k : Nat, k ≤ n ∧ i = .int .i64 k ∧ Aside0 (Rdr n₀ g s c A l f 0 wr) ∧ Aside0 (P k wr) ∧ Aside0 (Kp n₀ n₁ g w wr)) (fun i _ => n - (intOf i).toNat)
  case atStart => exact ⟨0, Nat.zero_le _, rfl, ⟨hR.drewN _⟩, ⟨hd.out _ _ _ hP⟩, ⟨(Kp.refl _ _ _ _).drewN _⟩⟩
  case round =>
    obtain ⟨k, hk, rfl, hRr, hPr, hB⟩ := hrel
    by_cases hlt : k < n
    · have g0 := hRr.out.c0
      have g1 := hRr.out.c1
      obtain ⟨eA, gs⟩ := hRr.out.cs (f + k) (by omega)
      subst eA
      go_wp2
      have e1 : IntKind.i64.wrap ((f : Int) + k) = f + k := by simp [IntKind.wrap, IntKind.bits, IntKind.signed]; omega
      have b0 : (0 : Int) ≤ f + k := by omega
      have b1 : (f : Int) + k < l.length := by omega
      have b2 : ((f : Int) + k).toNat = f + k := by omega
      go_still_tail 16, (by kernel_rfl)
      change wpList _ _ _ _ _ wr.drew
      go_wp2_with fail
      refine (hst.out k wr.drew hlt (hd.out k wr 1 hPr.out)).mono ?_
      rintro e W3 ⟨rfl, hP3, hB3⟩
      have hP3' := Aside0.mk hP3
      clear hP3
      go_wp2
      go_roundw
      case rel => exact ⟨k + 1, by omega, by simp, ⟨hRr.out.drew.below hB3 hg1 hs1'.out⟩, ⟨hP3'.out⟩, ⟨hB.out.drew.below hB3 hn⟩⟩
      case measure => simp [intOf]; omega
    · obtain rfl : k = n := by omega
      have g1 := hRr.out.c1
      have ff := blk_frozen hRr.out.bg 1
      go_wp2
      go_end0
      have h' := hRr.out.set1 (f + k) hfn
      rw [Int.natCast_add] at h'
      exact ⟨rfl, h', he.out _ _ hPr.out, hB.out.set hRr.out.hg _ _⟩
set_option maxHeartbeats 1000000 in
theorem add_0 (X : Nat) (x m : Int) (w : World) (hc : w.cell? ⟨X, 0, none⟩ = some (.int .u64 x)) (hf : w.frozen? ⟨X, 0, none⟩ = false) (hx : 0 ≤ x) (h0 : 0 ≤ m) (h1 : m < 256) (hs : x + m < 18446744073709551616) :
    Calls Try.prog 58 #[.int .i64 0, .int .u8 m, .pointer (some ⟨X, 0, none⟩)] w fun e w' => e = .returned (.tuple #[]) ∧ w' = (w.setCell ⟨X, 0, none⟩ (.int .u64 (x + m))).drew := by
  go_enter Try.func58, Try.ntmps58
  go_wp2
  go_region
  all_goals go_end0
  all_goals exact ⟨rfl, rfl⟩
set_option maxHeartbeats 1000000 in
theorem add_1 (X : Nat) (x m : Int) (w : World) (hc : w.cell? ⟨X, 0, none⟩ = some (.int .u64 x)) (hf : w.frozen? ⟨X, 0, none⟩ = false) (hx : 0 ≤ x) (h0 : 0 ≤ m) (h1 : m < 256) (hs : x + m * 256 < 18446744073709551616) :
    Calls Try.prog 58 #[.int .i64 1, .int .u8 m, .pointer (some ⟨X, 0, none⟩)] w fun e w' => e = .returned (.tuple #[]) ∧ w' = (w.setCell ⟨X, 0, none⟩ (.int .u64 (x + m * 256))).drew := by
  go_enter Try.func58, Try.ntmps58
  go_wp2
  go_region
  all_goals go_end0
  all_goals exact ⟨rfl, rfl⟩
set_option maxHeartbeats 1000000 in
theorem add_2 (X : Nat) (x m : Int) (w : World) (hc : w.cell? ⟨X, 0, none⟩ = some (.int .u64 x)) (hf : w.frozen? ⟨X, 0, none⟩ = false) (hx : 0 ≤ x) (h0 : 0 ≤ m) (h1 : m < 256) (hs : x + m * 65536 < 18446744073709551616) :
    Calls Try.prog 58 #[.int .i64 2, .int .u8 m, .pointer (some ⟨X, 0, none⟩)] w fun e w' => e = .returned (.tuple #[]) ∧ w' = (w.setCell ⟨X, 0, none⟩ (.int .u64 (x + m * 65536))).drew := by
  go_enter Try.func58, Try.ntmps58
  go_wp2
  go_region
  all_goals go_end0
  all_goals exact ⟨rfl, rfl⟩
set_option maxHeartbeats 1000000 in
theorem add_3 (X : Nat) (x m : Int) (w : World) (hc : w.cell? ⟨X, 0, none⟩ = some (.int .u64 x)) (hf : w.frozen? ⟨X, 0, none⟩ = false) (hx : 0 ≤ x) (h0 : 0 ≤ m) (h1 : m < 256) (hs : x + m * 16777216 < 18446744073709551616) :
    Calls Try.prog 58 #[.int .i64 3, .int .u8 m, .pointer (some ⟨X, 0, none⟩)] w fun e w' => e = .returned (.tuple #[]) ∧ w' = (w.setCell ⟨X, 0, none⟩ (.int .u64 (x + m * 16777216))).drew := by
  go_enter Try.func58, Try.ntmps58
  go_wp2
  go_region
  all_goals go_end0
  all_goals exact ⟨rfl, rfl⟩
set_option maxHeartbeats 1000000 in
theorem add_4 (X : Nat) (x m : Int) (w : World) (hc : w.cell? ⟨X, 0, none⟩ = some (.int .u64 x)) (hf : w.frozen? ⟨X, 0, none⟩ = false) (hx : 0 ≤ x) (h0 : 0 ≤ m) (h1 : m < 256) (hs : x + m * 4294967296 < 18446744073709551616) :
    Calls Try.prog 58 #[.int .i64 4, .int .u8 m, .pointer (some ⟨X, 0, none⟩)] w fun e w' => e = .returned (.tuple #[]) ∧ w' = (w.setCell ⟨X, 0, none⟩ (.int .u64 (x + m * 4294967296))).drew := by
  go_enter Try.func58, Try.ntmps58
  go_wp2
  go_region
  all_goals go_end0
  all_goals exact ⟨rfl, rfl⟩
set_option maxHeartbeats 1000000 in
theorem add_5 (X : Nat) (x m : Int) (w : World) (hc : w.cell? ⟨X, 0, none⟩ = some (.int .u64 x)) (hf : w.frozen? ⟨X, 0, none⟩ = false) (hx : 0 ≤ x) (h0 : 0 ≤ m) (h1 : m < 256) (hs : x + m * 1099511627776 < 18446744073709551616) :
    Calls Try.prog 58 #[.int .i64 5, .int .u8 m, .pointer (some ⟨X, 0, none⟩)] w fun e w' => e = .returned (.tuple #[]) ∧ w' = (w.setCell ⟨X, 0, none⟩ (.int .u64 (x + m * 1099511627776))).drew := by
  go_enter Try.func58, Try.ntmps58
  go_wp2
  go_region
  all_goals go_end0
  all_goals exact ⟨rfl, rfl⟩
set_option maxHeartbeats 1000000 in
theorem add_6 (X : Nat) (x m : Int) (w : World) (hc : w.cell? ⟨X, 0, none⟩ = some (.int .u64 x)) (hf : w.frozen? ⟨X, 0, none⟩ = false) (hx : 0 ≤ x) (h0 : 0 ≤ m) (h1 : m < 256) (hs : x + m * 281474976710656 < 18446744073709551616) :
    Calls Try.prog 58 #[.int .i64 6, .int .u8 m, .pointer (some ⟨X, 0, none⟩)] w fun e w' => e = .returned (.tuple #[]) ∧ w' = (w.setCell ⟨X, 0, none⟩ (.int .u64 (x + m * 281474976710656))).drew := by
  go_enter Try.func58, Try.ntmps58
  go_wp2
  go_region
  all_goals go_end0
  all_goals exact ⟨rfl, rfl⟩
set_option maxHeartbeats 1000000 in
theorem add_7 (X : Nat) (x m : Int) (w : World) (hc : w.cell? ⟨X, 0, none⟩ = some (.int .u64 x)) (hf : w.frozen? ⟨X, 0, none⟩ = false) (hx : 0 ≤ x) (h0 : 0 ≤ m) (h1 : m < 256) (hs : x + m * 72057594037927936 < 18446744073709551616) :
    Calls Try.prog 58 #[.int .i64 7, .int .u8 m, .pointer (some ⟨X, 0, none⟩)] w fun e w' => e = .returned (.tuple #[]) ∧ w' = (w.setCell ⟨X, 0, none⟩ (.int .u64 (x + m * 72057594037927936))).drew := by
  go_enter Try.func58, Try.ntmps58
  go_wp2
  go_region
  all_goals go_end0
  all_goals exact ⟨rfl, rfl⟩
theorem add_any (k : Nat) (hk : k < 8) (X : Nat) (x m : Int) (w : World) (hc : w.cell? ⟨X, 0, none⟩ = some (.int .u64 x)) (hf : w.frozen? ⟨X, 0, none⟩ = false) (hx : 0 ≤ x) (hx' : x < 256 ^ k) (h0 : 0 ≤ m) (h1 : m < 256) :
    Calls Try.prog 58 #[.int .i64 (k : Int), .int .u8 m, .pointer (some ⟨X, 0, none⟩)] w fun e w' => e = .returned (.tuple #[]) ∧ w' = (w.setCell ⟨X, 0, none⟩ (.int .u64 (x + m * 256 ^ k))).drew := by
  obtain rfl | rfl | rfl | rfl | rfl | rfl | rfl | rfl : k = 0 ∨ k = 1 ∨ k = 2 ∨ k = 3 ∨ k = 4 ∨ k = 5 ∨ k = 6 ∨ k = 7 := by omega
  · have h := add_0 X x m w hc hf hx h0 h1 (by simp at hx'; omega)
    simpa using h
  · have h := add_1 X x m w hc hf hx h0 h1 (by simp at hx'; omega)
    simpa using h
  · have h := add_2 X x m w hc hf hx h0 h1 (by simp at hx'; omega)
    simpa using h
  · have h := add_3 X x m w hc hf hx h0 h1 (by simp at hx'; omega)
    simpa using h
  · have h := add_4 X x m w hc hf hx h0 h1 (by simp at hx'; omega)
    simpa using h
  · have h := add_5 X x m w hc hf hx h0 h1 (by simp at hx'; omega)
    simpa using h
  · have h := add_6 X x m w hc hf hx h0 h1 (by simp at hx'; omega)
    simpa using h
  · have h := add_7 X x m w hc hf hx h0 h1 (by simp at hx'; omega)
    simpa using h
/-- A variable of the call's own, at block X, holds a number. -/
def HasNum (X : Nat) (x : Int) (W : World) : Prop := W.heap[X]? = some (.cells #[.int .u64 x] 26 (0, 0))
/-- A variable of the call's own, at block X, holds a row of bytes of the call's own. -/
def HasRow (n₁ X : Nat) (xs : List Int) (W : World) : Prop := ∃ v, W.heap[X]? = some (.cells #[v] 22 (0, 0)) ∧ Kd.R (Kd.int .u8) 5 W n₁ (fun b => b ≠ X) v xs
theorem nstep (n₁ X f k : Nat) (l : List Int) (hl : Bytes l) (hk : k < 8) (hfk : f + k < l.length) (hX : n₁ ≤ X) (W : World) (hP : HasNum X (num ((l.drop f).take k)) W) :
    Calls Try.prog 58 #[.int .i64 (k : Int), .int .u8 (l[f + k]?.getD 0), .pointer (some ⟨X, 0, none⟩)] W fun e W' => e = .returned (.tuple #[]) ∧ HasNum X (num ((l.drop f).take (k + 1))) W' ∧ Below n₁ W W' := by
  have hb := num_lt ((hl.drop f).take k)
  rw [take_len l f k (by omega)] at hb
  have hm := hl (f + k)
  refine (add_any k hk X _ _ W (blk_cell hP 0) (blk_frozen hP 0) hb.1 hb.2 hm.1 hm.2).mono ?_
  rintro e W' ⟨rfl, rfl⟩
  refine ⟨rfl, ?_, below_drew' (Below.setCell (Below.refl _ _) hX _)⟩
  rw [take_snoc l f k hfk, num_snoc, take_len l f k (by omega)]
  have := blk_set hP 0 (.int .u64 (num ((l.drop f).take k) + l[f + k]?.getD 0 * 256 ^ k))
  show (W.setCell _ _).heap[X]? = _
  simpa using this
set_option maxHeartbeats 1000000 in
theorem rstep (n₁ X k : Nat) (xs : List Int) (m : Int) (W : World) (hX : n₁ ≤ X) (hl : xs.length < 140737488355328) (h0 : 0 ≤ m) (h1 : m < 256) (hP : HasRow n₁ X xs W) :
    Calls Try.prog 49 #[.int .i64 (k : Int), .int .u8 m, .pointer (some ⟨X, 0, none⟩)] W fun e W' => e = .returned (.tuple #[]) ∧ HasRow n₁ X (xs ++ [m]) W' ∧ Below n₁ W W' := by
  obtain ⟨v, hb, hR⟩ := hP
  have hc : W.cell? ⟨X, 0, none⟩ = some v := blk_cell hb 0
  have hbs := Aside0.mk hb
  have hRs := Aside0.mk hR
  have hXl := blk_lt hb
  clear hb hR
  go_enter Try.func49, Try.ntmps49
  go_wp2_with ((with_reducible refine gate_builtin (b := .append) (xs := #[.tmp 5, .tmp 7]) rfl ?_); at_builtin; refine Kd.R_append (Kd.int .u8) (w0 := W) n₁ rfl (.tmp 5) (.tmp 7) 22 5 (.int .u8 0) 1 rfl Try.underlying22 PH.info5 rfl (by decide) (by omega) v xs m [.int .u8 m] (fun b => b ≠ X) (fun _ => False) rfl rfl ?aP (fun _ hk => hk.elim) ?aF ?aO ?aB ?aS ?aL ?_; (case aP => exact rfl); (case aF => exact fun k hk => by omega); (case aO => exact hRs.out); (case aB => exact Below.refl _ _); (case aS => omega); (case aL => omega); intro v1 w1 ho hB1 hg hat; have hX1 := Aside0.mk (blk_grown hbs.out hg (fun e => hRs.out.1 X e.symm rfl)); have hc1 : w1.cell? ⟨X, 0, none⟩ = some v := (blk_cell hX1.out 0); have hf1 := blk_frozen hX1.out 0; obtain ⟨b, cap, rfl, hbb, hbl, hbc⟩ := Kd.R_form ho (by simp); have ho1 := Aside0.mk ho; have hB2 := Aside0.mk hB1; clear ho hB1 hg hat hbb hbl hbc)
  go_end0
  have := blk_set hX1.out 0 (.slice (some ⟨b, 0, none⟩) (xs ++ [m]).length cap)
  exact ⟨rfl, ⟨_, by simpa using this, Kd.R_far ho1.out (fun k hk => hk) _⟩, Below.setCell hB2.out hX _⟩
theorem HasNum.set {X : Nat} {x : Int} {W : World} (h : HasNum X x W) {g : Nat} (hg : X ≠ g) (j : Nat) (v : Value) : HasNum X x (W.setCell ⟨g, j, none⟩ v) := blk_far h hg v
theorem HasRow.set {n₁ X : Nat} {xs : List Int} {W : World} (h : HasRow n₁ X xs W) {g : Nat} (hg : g < n₁) (hX : n₁ ≤ X) (j : Nat) (v : Value) : HasRow n₁ X xs (W.setCell ⟨g, j, none⟩ v) := by
  obtain ⟨u, hb, hR⟩ := h
  refine ⟨u, blk_far hb (by intro e; simp at e; omega) v, ?_⟩
  have hR' := Kd.R_bound hR
  exact Kd.R_mono (Kd.R_far hR' (fun k hk => by have := hk.2.1; simp; omega) v) (fun k hk => hk.1)
section
variable (g : Nat) (w : World) (fn : Value) (er : Int)
set_option maxHeartbeats 1000000 in
theorem look_bad (n : Int) (her : er ≠ 0) (hc : w.cell? ⟨g, 2, none⟩ = some (.int .i64 er)) :
    Calls Try.prog 48 #[.pointer (some ⟨g, 0, none⟩), .int .i64 n, fn] w fun e w' => e = .returned (.tuple #[]) ∧ Drawn0 w w' := by
  have h1 : (er == 0) = false := by simpa using her
  have h2 : (er != 0) = true := by simpa using her
  go_enter Try.func48, Try.ntmps48
  go_wp2_with fail
  refine (err_w g er w hc).mono ?_
  rintro e w1 ⟨rfl, ⟨k1, rfl⟩⟩
  go_wp2
  refine bodyPost_ret (results_none rfl _ _ _) rfl ?_
  exact ⟨rfl, ⟨⟨_, rfl⟩⟩⟩
set_option maxHeartbeats 1000000 in
theorem look_neg (n : Int) (hn : n < 0) (hc : w.cell? ⟨g, 2, none⟩ = some (.int .i64 0)) (hf : w.frozen? ⟨g, 2, none⟩ = false) :
    Calls Try.prog 48 #[.pointer (some ⟨g, 0, none⟩), .int .i64 n, fn] w fun e w' => e = .returned (.tuple #[]) ∧ ∃ k, w' = (w.drewN k).setCell ⟨g, 2, none⟩ (.int .i64 2) := by
  go_enter Try.func48, Try.ntmps48
  go_wp2_with fail
  refine (err_w g 0 w hc).mono ?_
  rintro e w1 ⟨rfl, ⟨k1, rfl⟩⟩
  go_wp2
  refine bodyPost_ret (results_none rfl _ _ _) rfl ?_
  exact ⟨rfl, _, rfl⟩
set_option maxHeartbeats 1000000 in
theorem look_short (n : Int) (A : Option Addr) (len c f : Nat) (h0 : 0 ≤ n) (hn : (len : Int) - f < n) (hfl : f ≤ len) (hl : len ≤ 140737488351232) (hc0 : w.cell? ⟨g, 0, none⟩ = some (.slice A len c)) (hc1 : w.cell? ⟨g, 1, none⟩ = some (.int .i64 f)) (hc : w.cell? ⟨g, 2, none⟩ = some (.int .i64 0)) (hf : w.frozen? ⟨g, 2, none⟩ = false) :
    Calls Try.prog 48 #[.pointer (some ⟨g, 0, none⟩), .int .i64 n, fn] w fun e w' => e = .returned (.tuple #[]) ∧ ∃ k, w' = (w.drewN k).setCell ⟨g, 2, none⟩ (.int .i64 7) := by
  have h0n : ¬ (n < 0) := by omega
  go_enter Try.func48, Try.ntmps48
  go_wp2_with fail
  refine (err_w g 0 w hc).mono ?_
  rintro e w1 ⟨rfl, ⟨k1, rfl⟩⟩
  go_wp2_with fail
  refine (left_w g A len c f _ ((World.cell?_drewN _ _ _).trans hc0) ((World.cell?_drewN _ _ _).trans hc1) hfl (by omega)).mono ?_
  rintro e w2 ⟨rfl, ⟨k2, rfl⟩⟩
  go_wp2
  refine bodyPost_ret (results_none rfl _ _ _) rfl ?_
  exact ⟨rfl, _, rfl⟩
end
theorem err_nil (w : World) : Calls Try.prog 32 #[.pointer none] w fun e w' => e = .returned (.int .i64 1) ∧ Drawn0 w w' := by
  go_enter Try.func32, Try.ntmps32
  go_wp2
  go_ret
  exact ⟨rfl, Drawn0.refl _⟩
theorem left_nil (w : World) : Calls Try.prog 31 #[.pointer none] w fun e w' => e = .returned (.int .i64 0) ∧ Drawn0 w w' := by
  go_enter Try.func31, Try.ntmps31
  go_wp2
  go_ret
  exact ⟨rfl, Drawn0.refl _⟩
theorem look_nil (n : Int) (fn : Value) (w : World) : Calls Try.prog 48 #[.pointer none, .int .i64 n, fn] w fun e w' => e = .returned (.tuple #[]) ∧ Drawn0 w w' := by
  go_enter Try.func48, Try.ntmps48
  go_wp2_with fail
  refine (err_nil w).mono ?_
  rintro e w1 ⟨rfl, ⟨k1, rfl⟩⟩
  go_wp2
  refine bodyPost_ret (results_none rfl _ _ _) rfl ?_
  exact ⟨rfl, ⟨⟨_, rfl⟩⟩⟩
theorem number_nil (n : Int) (w : World) : Calls Try.prog 50 #[.pointer none, .int .i64 n] w fun e w' => e = .returned (.int .u64 0) ∧ Below w.heap.size w w' := by
  go_enter Try.func50, Try.ntmps50
  go_wp2_with fail
  refine (look_nil n _ _).mono ?_
  rintro e W ⟨rfl, ⟨k, rfl⟩⟩
  go_wp2
  go_ret
  exact ⟨rfl, below_drewN' ((Below.refl _ _).alloc (Nat.le_refl _) _) _⟩
theorem raw_nil (n : Int) (w : World) : Calls Try.prog 26 #[.pointer none, .int .i64 n] w fun e w' => e = .returned (.slice none 0 0) ∧ Below w.heap.size w w' := by
  go_enter Try.func26, Try.ntmps26
  go_wp2_with fail
  refine (look_nil n _ _).mono ?_
  rintro e W ⟨rfl, ⟨k, rfl⟩⟩
  go_wp2
  go_ret
  exact ⟨rfl, below_drewN' ((Below.refl _ _).alloc (Nat.le_refl _) _) _⟩
theorem u8_nil (w : World) : Calls Try.prog 27 #[.pointer none] w fun e w' => e = .returned (.int .u8 0) ∧ Below w.heap.size w w' := by
  go_enter Try.func27, Try.ntmps27
  go_wp2_with fail
  refine (number_nil 1 w).mono ?_
  rintro e W ⟨rfl, hB⟩
  go_wp2
  go_ret
  exact ⟨rfl, hB⟩
theorem u16_nil (w : World) : Calls Try.prog 28 #[.pointer none] w fun e w' => e = .returned (.int .u16 0) ∧ Below w.heap.size w w' := by
  go_enter Try.func28, Try.ntmps28
  go_wp2_with fail
  refine (number_nil 2 w).mono ?_
  rintro e W ⟨rfl, hB⟩
  go_wp2
  go_ret
  exact ⟨rfl, hB⟩
theorem u32_nil (w : World) : Calls Try.prog 29 #[.pointer none] w fun e w' => e = .returned (.int .u32 0) ∧ Below w.heap.size w w' := by
  go_enter Try.func29, Try.ntmps29
  go_wp2_with fail
  refine (number_nil 4 w).mono ?_
  rintro e W ⟨rfl, hB⟩
  go_wp2
  go_ret
  exact ⟨rfl, hB⟩
theorem u64_nil (w : World) : Calls Try.prog 30 #[.pointer none] w fun e w' => e = .returned (.int .u64 0) ∧ Below w.heap.size w w' := by
  go_enter Try.func30, Try.ntmps30
  go_wp2_with fail
  refine (number_nil 8 w).mono ?_
  rintro e W ⟨rfl, hB⟩
  go_wp2
  go_ret
  exact ⟨rfl, hB⟩
set_option maxHeartbeats 1000000 in
theorem number_w (n₀ g s c n f : Nat) (A : Option Addr) (l : List Int) (er : Int) (hn : n ≤ 8) (hl : Bytes l) (hlen : l.length ≤ 140737488350000) (w : World) (hn₀ : n₀ ≤ w.heap.size) (hR : Rdr n₀ g s c A l f er w) :
    Calls Try.prog 50 #[.pointer (some ⟨g, 0, none⟩), .int .i64 (n : Int)] w fun e w' => e = .returned (.int .u64 (num (nb l f er n))) ∧ Rdr n₀ g s c A l (nf l f er n) (ne l f er n) w' ∧ Kp n₀ w.heap.size g w w' := by
  have hk : (w.alloc (.cells #[.int .u64 0] 26)).heap[w.heap.size]? = some (.cells #[.int .u64 0] 26 (0, 0)) := heap_alloc_new w _
  have hRa := hR.under ((Below.refl w.heap.size w).alloc (Nat.le_refl _) (.cells #[.int .u64 0] 26))
  have hKa : Kp n₀ w.heap.size g w (w.alloc (.cells #[.int .u64 0] 26)) := (Kp.refl _ _ _ _).below ((Below.refl _ w).alloc (Nat.le_refl _) _) hn₀
  have q1 := hR.glt
  have hf0 := hR.hf
  have hcx := blk_cell hk 0
  simp only [List.getElem?_toArray, List.getElem?_cons_zero] at hcx
  by_cases her : er = 0
  · subst her
    by_cases hfn : f + n ≤ l.length
    · have e1 : nb l f 0 n = (l.drop f).take n := by unfold nb; rw [if_pos ⟨rfl, by omega, by omega⟩]; rfl
      have e2 : nf l f 0 n = f + n := by unfold nf; rw [if_pos ⟨rfl, by omega, by omega⟩]; rfl
      have e3 : ne l f 0 n = 0 := by unfold ne; rw [if_pos rfl, if_neg (by omega), if_neg (by omega)]
      rw [e1, e2, e3]
      clear e1 e2 e3
      go_enter Try.func50, Try.ntmps50
      go_wp2_with fail
      refine (look_ok58 n₀ w.heap.size g s c w.heap.size n f A l (fun k W => HasNum w.heap.size (num ((l.drop f).take k)) W) hlen hfn hn₀ q1 hR.slt (fun k W hk h => nstep _ _ f k l hl (by omega) (by omega) (Nat.le_refl _) W h) (fun k W m h => h) (fun W v h => h.set (by omega) _ _) _ hRa hk).mono ?_
      rintro e W ⟨rfl, hR', hN, hB⟩
      have hcN : W.cell? ⟨w.heap.size, 0, none⟩ = some (.int .u64 (num ((l.drop f).take n))) := blk_cell hN 0
      have hR2 := Aside0.mk hR'
      have hB2 := Aside0.mk hB
      clear hR' hB hN hcx
      go_wp2
      go_ret
      exact ⟨rfl, hR2.out, hKa.trans hB2.out⟩
    · have e1 : nb l f 0 n = [] := by unfold nb; rw [if_neg (by omega)]
      have e2 : nf l f 0 n = f := by unfold nf; rw [if_neg (by omega)]
      have e3 : ne l f 0 n = 7 := by unfold ne; rw [if_pos rfl, if_neg (by omega), if_pos (by omega)]
      rw [e1, e2, e3]
      clear e1 e2 e3
      go_enter Try.func50, Try.ntmps50
      go_wp2_with fail
      refine (look_short g _ _ n A l.length c f (by omega) (by omega) hf0 (by omega) hRa.c0 hRa.c1 hRa.c2 (blk_frozen hRa.bg 2)).mono ?_
      rintro e W ⟨rfl, k, rfl⟩
      have hcN : (((w.alloc (.cells #[.int .u64 0] 26)).drewN k).setCell ⟨g, 2, none⟩ (.int .i64 7)).cell? ⟨w.heap.size, 0, none⟩ = some (.int .u64 0) := blk_cell (blk_far (w := (w.alloc (.cells #[.int .u64 0] 26)).drewN k) hk (by simp; omega) _) 0
      go_wp2
      go_ret
      exact ⟨rfl, (hRa.drewN k).set2 7, (hKa.drewN k).set hR.hg _ _⟩
  · have e1 : nb l f er n = [] := by unfold nb; rw [if_neg (by omega)]
    have e2 : nf l f er n = f := by unfold nf; rw [if_neg (by omega)]
    have e3 : ne l f er n = er := by unfold ne; rw [if_neg her]
    rw [e1, e2, e3]
    clear e1 e2 e3
    go_enter Try.func50, Try.ntmps50
    go_wp2_with fail
    refine (look_bad g _ _ er n her hRa.c2).mono ?_
    rintro e W ⟨rfl, ⟨k, rfl⟩⟩
    go_wp2
    go_ret
    exact ⟨rfl, hRa.drewN k, hKa.drewN k⟩
theorem u8_w (n₀ g s c f : Nat) (A : Option Addr) (l : List Int) (er : Int) (hl : Bytes l) (hlen : l.length ≤ 140737488350000) (w : World) (hn₀ : n₀ ≤ w.heap.size) (hR : Rdr n₀ g s c A l f er w) :
    Calls Try.prog 27 #[.pointer (some ⟨g, 0, none⟩)] w fun e w' => e = .returned (.int .u8 (num (nb l f er 1))) ∧ Rdr n₀ g s c A l (nf l f er 1) (ne l f er 1) w' ∧ Kp n₀ w.heap.size g w w' := by
  have hv : 0 ≤ num (nb l f er 1) ∧ num (nb l f er 1) < 256 := by
    unfold nb
    split
    · rename_i h
      have := num_lt ((hl.drop f).take (1 : Int).toNat)
      rw [take_len l f _ (by omega)] at this
      simpa using this
    · simp [num]
  have h := number_w n₀ g s c 1 f A l er (by omega) hl hlen w hn₀ hR
  rw [show ((1 : Nat) : Int) = 1 from rfl] at h
  obtain ⟨h0, h1⟩ := hv
  generalize num (nb l f er 1) = x at *
  go_enter Try.func27, Try.ntmps27
  go_wp2_with fail
  refine h.mono ?_
  rintro e W ⟨rfl, hR', hB⟩
  go_wp2
  go_ret
  exact ⟨rfl, hR', hB⟩
theorem u16_w (n₀ g s c f : Nat) (A : Option Addr) (l : List Int) (er : Int) (hl : Bytes l) (hlen : l.length ≤ 140737488350000) (w : World) (hn₀ : n₀ ≤ w.heap.size) (hR : Rdr n₀ g s c A l f er w) :
    Calls Try.prog 28 #[.pointer (some ⟨g, 0, none⟩)] w fun e w' => e = .returned (.int .u16 (num (nb l f er 2))) ∧ Rdr n₀ g s c A l (nf l f er 2) (ne l f er 2) w' ∧ Kp n₀ w.heap.size g w w' := by
  have hv : 0 ≤ num (nb l f er 2) ∧ num (nb l f er 2) < 65536 := by
    unfold nb
    split
    · rename_i h
      have := num_lt ((hl.drop f).take (2 : Int).toNat)
      rw [take_len l f _ (by omega)] at this
      simpa using this
    · simp [num]
  have h := number_w n₀ g s c 2 f A l er (by omega) hl hlen w hn₀ hR
  rw [show ((2 : Nat) : Int) = 2 from rfl] at h
  obtain ⟨h0, h1⟩ := hv
  generalize num (nb l f er 2) = x at *
  go_enter Try.func28, Try.ntmps28
  go_wp2_with fail
  refine h.mono ?_
  rintro e W ⟨rfl, hR', hB⟩
  go_wp2
  go_ret
  exact ⟨rfl, hR', hB⟩
theorem u32_w (n₀ g s c f : Nat) (A : Option Addr) (l : List Int) (er : Int) (hl : Bytes l) (hlen : l.length ≤ 140737488350000) (w : World) (hn₀ : n₀ ≤ w.heap.size) (hR : Rdr n₀ g s c A l f er w) :
    Calls Try.prog 29 #[.pointer (some ⟨g, 0, none⟩)] w fun e w' => e = .returned (.int .u32 (num (nb l f er 4))) ∧ Rdr n₀ g s c A l (nf l f er 4) (ne l f er 4) w' ∧ Kp n₀ w.heap.size g w w' := by
  have hv : 0 ≤ num (nb l f er 4) ∧ num (nb l f er 4) < 4294967296 := by
    unfold nb
    split
    · rename_i h
      have := num_lt ((hl.drop f).take (4 : Int).toNat)
      rw [take_len l f _ (by omega)] at this
      simpa using this
    · simp [num]
  have h := number_w n₀ g s c 4 f A l er (by omega) hl hlen w hn₀ hR
  rw [show ((4 : Nat) : Int) = 4 from rfl] at h
  obtain ⟨h0, h1⟩ := hv
  generalize num (nb l f er 4) = x at *
  go_enter Try.func29, Try.ntmps29
  go_wp2_with fail
  refine h.mono ?_
  rintro e W ⟨rfl, hR', hB⟩
  go_wp2
  go_ret
  exact ⟨rfl, hR', hB⟩
theorem u64_w (n₀ g s c f : Nat) (A : Option Addr) (l : List Int) (er : Int) (hl : Bytes l) (hlen : l.length ≤ 140737488350000) (w : World) (hn₀ : n₀ ≤ w.heap.size) (hR : Rdr n₀ g s c A l f er w) :
    Calls Try.prog 30 #[.pointer (some ⟨g, 0, none⟩)] w fun e w' => e = .returned (.int .u64 (num (nb l f er 8))) ∧ Rdr n₀ g s c A l (nf l f er 8) (ne l f er 8) w' ∧ Kp n₀ w.heap.size g w w' := by
  have hv : 0 ≤ num (nb l f er 8) ∧ num (nb l f er 8) < 18446744073709551616 := by
    unfold nb
    split
    · rename_i h
      have := num_lt ((hl.drop f).take (8 : Int).toNat)
      rw [take_len l f _ (by omega)] at this
      simpa using this
    · simp [num]
  have h := number_w n₀ g s c 8 f A l er (by omega) hl hlen w hn₀ hR
  rw [show ((8 : Nat) : Int) = 8 from rfl] at h
  obtain ⟨h0, h1⟩ := hv
  generalize num (nb l f er 8) = x at *
  go_enter Try.func30, Try.ntmps30
  go_wp2_with fail
  refine h.mono ?_
  rintro e W ⟨rfl, hR', hB⟩
  go_wp2
  go_ret
  exact ⟨rfl, hR', hB⟩
def RawPost (n₀ g s c : Nat) (A : Option Addr) (l : List Int) (f : Nat) (er n : Int) (w : World) (e : Ending) (w' : World) : Prop :=
  ∃ v, e = .returned v ∧ Kd.R (Kd.int .u8) 5 w' w.heap.size (fun _ => True) v (nb l f er n) ∧ Rdr n₀ g s c A l (nf l f er n) (ne l f er n) w' ∧ Kp n₀ w.heap.size g w w'
set_option maxHeartbeats 1000000 in
theorem raw_w (n₀ g s c f : Nat) (A : Option Addr) (l : List Int) (er n : Int) (hl : Bytes l) (hlen : l.length ≤ 140737488350000) (w : World) (hn₀ : n₀ ≤ w.heap.size) (hR : Rdr n₀ g s c A l f er w) :
    Calls Try.prog 26 #[.pointer (some ⟨g, 0, none⟩), .int .i64 n] w (RawPost n₀ g s c A l f er n w) := by
  have hk : (w.alloc (.cells #[.slice none 0 0] 22)).heap[w.heap.size]? = some (.cells #[.slice none 0 0] 22 (0, 0)) := heap_alloc_new w _
  have hRa := hR.under ((Below.refl w.heap.size w).alloc (Nat.le_refl _) (.cells #[.slice none 0 0] 22))
  have hKa : Kp n₀ w.heap.size g w (w.alloc (.cells #[.slice none 0 0] 22)) := (Kp.refl _ _ _ _).below ((Below.refl _ w).alloc (Nat.le_refl _) _) hn₀
  have q1 := hR.glt
  have hf0 := hR.hf
  have hcx := blk_cell hk 0
  simp only [List.getElem?_toArray, List.getElem?_cons_zero] at hcx
  unfold RawPost
  by_cases her : er = 0
  · subst her
    by_cases h0n : n < 0
    · have e1 : nb l f 0 n = [] := by unfold nb; rw [if_neg (by omega)]
      have e2 : nf l f 0 n = f := by unfold nf; rw [if_neg (by omega)]
      have e3 : ne l f 0 n = 2 := by unfold ne; rw [if_pos rfl, if_pos h0n]
      rw [e1, e2, e3]
      clear e1 e2 e3
      go_enter Try.func26, Try.ntmps26
      go_wp2_with fail
      refine (look_neg g _ _ n h0n hRa.c2 (blk_frozen hRa.bg 2)).mono ?_
      rintro e W ⟨rfl, k, rfl⟩
      have hcN : (((w.alloc (.cells #[.slice none 0 0] 22)).drewN k).setCell ⟨g, 2, none⟩ (.int .i64 2)).cell? ⟨w.heap.size, 0, none⟩ = some (.slice none 0 0) := blk_cell (blk_far (w := (w.alloc (.cells #[.slice none 0 0] 22)).drewN k) hk (by simp; omega) _) 0
      go_wp2
      go_ret
      exact ⟨_, rfl, Kd.R_nil _ _ _ _ _, (hRa.drewN k).set2 2, (hKa.drewN k).set hR.hg _ _⟩
    · by_cases hfn : (l.length : Int) - f < n
      · have e1 : nb l f 0 n = [] := by unfold nb; rw [if_neg (by omega)]
        have e2 : nf l f 0 n = f := by unfold nf; rw [if_neg (by omega)]
        have e3 : ne l f 0 n = 7 := by unfold ne; rw [if_pos rfl, if_neg (by omega), if_pos (by omega)]
        rw [e1, e2, e3]
        clear e1 e2 e3
        go_enter Try.func26, Try.ntmps26
        go_wp2_with fail
        refine (look_short g _ _ n A l.length c f (by omega) (by omega) hf0 (by omega) hRa.c0 hRa.c1 hRa.c2 (blk_frozen hRa.bg 2)).mono ?_
        rintro e W ⟨rfl, k, rfl⟩
        have hcN : (((w.alloc (.cells #[.slice none 0 0] 22)).drewN k).setCell ⟨g, 2, none⟩ (.int .i64 7)).cell? ⟨w.heap.size, 0, none⟩ = some (.slice none 0 0) := blk_cell (blk_far (w := (w.alloc (.cells #[.slice none 0 0] 22)).drewN k) hk (by simp; omega) _) 0
        go_wp2
        go_ret
        exact ⟨_, rfl, Kd.R_nil _ _ _ _ _, (hRa.drewN k).set2 7, (hKa.drewN k).set hR.hg _ _⟩
      · obtain ⟨m, rfl⟩ : ∃ m : Nat, n = m := ⟨n.toNat, by omega⟩
        have e1 : nb l f 0 m = (l.drop f).take m := by unfold nb; rw [if_pos ⟨rfl, by omega, by omega⟩]; rfl
        have e2 : nf l f 0 m = f + m := by unfold nf; rw [if_pos ⟨rfl, by omega, by omega⟩]; rfl
        have e3 : ne l f 0 m = 0 := by unfold ne; rw [if_pos rfl, if_neg (by omega), if_neg (by omega)]
        rw [e1, e2, e3]
        clear e1 e2 e3
        go_enter Try.func26, Try.ntmps26
        go_wp2_with fail
        refine (look_ok49 n₀ w.heap.size g s c w.heap.size m f A l (fun k W => HasRow w.heap.size w.heap.size ((l.drop f).take k) W) hlen (by omega) hn₀ q1 hR.slt (fun k W hk h => by
          rw [take_snoc l f k (by omega)]
          exact rstep _ _ k _ _ W (Nat.le_refl _) (by rw [take_len l f k (by omega)]; omega) (hl (f + k)).1 (hl (f + k)).2 h) (fun k W m h => by obtain ⟨v, hb, hR⟩ := h; exact ⟨v, hb, Kd.R_drewN hR _⟩) (fun W v h => h.set q1 (Nat.le_refl _) _ _) _ hRa ⟨_, hk, Kd.R_nil _ _ _ _ _⟩).mono ?_
        rintro e W ⟨rfl, hR', hN, hB⟩
        obtain ⟨v, hbv, hRv⟩ := hN
        have hcN : W.cell? ⟨w.heap.size, 0, none⟩ = some v := blk_cell hbv 0
        have hR2 := Aside0.mk hR'
        have hB2 := Aside0.mk hB
        have hRv2 := Aside0.mk hRv
        clear hR' hB hcx hbv hRv
        go_wp2
        go_ret
        exact ⟨_, rfl, Kd.R_mono hRv2.out (fun _ _ => trivial), hR2.out, hKa.trans hB2.out⟩
  · have e1 : nb l f er n = [] := by unfold nb; rw [if_neg (by omega)]
    have e2 : nf l f er n = f := by unfold nf; rw [if_neg (by omega)]
    have e3 : ne l f er n = er := by unfold ne; rw [if_neg her]
    rw [e1, e2, e3]
    clear e1 e2 e3
    go_enter Try.func26, Try.ntmps26
    go_wp2_with fail
    refine (look_bad g _ _ er n her hRa.c2).mono ?_
    rintro e W ⟨rfl, ⟨k, rfl⟩⟩
    go_wp2
    go_ret
    exact ⟨_, rfl, Kd.R_nil _ _ _ _ _, hRa.drewN k, hKa.drewN k⟩
def ReadPost (l0 : List Int) (w : World) (e : Ending) (w' : World) : Prop := ∃ g s c A, e = .returned (.pointer (some ⟨g, 0, none⟩)) ∧ Rdr w.heap.size g s c A l0 0 0 w' ∧ Below w.heap.size w w' ∧ w.heap.size ≤ s
set_option maxHeartbeats 1000000 in
theorem read_w (A0 : Option Addr) (c0 : Nat) (l0 : List Int) (w : World) (hr0 : Kd.C (Kd.int .u8) w A0 l0.length l0) (hc0 : l0.length ≤ c0) (hlen : l0.length ≤ 140737488350000) :
    Calls Try.prog 23 #[.slice A0 l0.length c0] w (ReadPost l0 w) := by
  unfold ReadPost
  go_enter Try.func23, Try.ntmps23
  go_wp2_with fail
  refine (PH.slices_Clone_byte_byte.calls A0 c0 l0 l0 w hr0 hc0 (by simp [PH.slices_Clone_byte_byte.f]; omega)).mono ?_
  rintro e W ⟨v, rfl, hR, hB⟩
  obtain ⟨A, c, rfl⟩ := Kd.R_slice hR
  have hform : 0 < l0.length → ∃ s, A = some ⟨s, 0, none⟩ ∧ w.heap.size ≤ s ∧ s < W.heap.size ∧ ∃ cells, W.heap[s]? = some (.cells cells 5 (0, 0)) ∧ ∀ j, j < l0.length → cells[j]? = some (.int .u8 (l0[j]?.getD 0)) := fun hp => by
    obtain ⟨s, c', e, hs, hsl, cells, hb⟩ := Kd.R_form hR hp
    injection e with e1 e2 e3
    subst e1
    refine ⟨s, rfl, hs, hsl, cells, hb, fun j hj => ?_⟩
    have h := (Kd.R_celln 0 hR (j : Int) (by omega) (by omega)).1
    rw [← blk_cell hb j]
    simpa [rdOf, List.getD_eq_getElem?_getD] using h
  have hf2 := Aside0.mk hform
  clear hform hR
  go_wp2
  go_ret
  have hk : (W.alloc (.cells #[.slice A l0.length c, .int .i64 0, .int .i64 0] 77)).heap[W.heap.size]? = some (.cells #[.slice A l0.length c, .int .i64 0, .int .i64 0] 77 (0, 0)) := heap_alloc_new W _
  have hb2 : Below W.heap.size W (W.alloc (.cells #[.slice A l0.length c, .int .i64 0, .int .i64 0] 77)) := (Below.refl _ _).alloc (Nat.le_refl _) _
  have hz := hB.size
  by_cases hp : 0 < l0.length
  · obtain ⟨s, rfl, hsw, hsl, cells, hb, hcs⟩ := hf2.out hp
    exact ⟨W.heap.size, s, c, _, rfl, ⟨by omega, by omega, Nat.zero_le _, hk, fun _ => ⟨rfl, cells, (hb2.block s hsl).trans hb, hcs⟩⟩, hB.trans (hb2.mono hz), hsw⟩
  · exact ⟨W.heap.size, W.heap.size + 1, c, _, rfl, ⟨by omega, by omega, Nat.zero_le _, hk, fun h => absurd h hp⟩, hB.trans (hb2.mono hz), by omega⟩
end Go.Proofs.Ytpejeeemefmafaa.RD
