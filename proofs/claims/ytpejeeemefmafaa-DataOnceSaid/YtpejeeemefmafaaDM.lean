import Derived.Test.YtpejeeemefmafaaDJc
namespace Go.Proofs.Ytpejeeemefmafaa.RD
open Go.RowKit Go.Proofs.YtpejeeemefmafaaW.PrintWords Go.Proofs.YtpejeeemefmafaaW.PrintLast Go.Proofs.YtpejeeemefmafaaW.PrintMore
open Go.Proofs.Ytpejeeemefmafaa.PE.L (below_drewN' below_drew')
open PH
set_option linter.unusedVariables false
set_option linter.unusedSimpArgs false
theorem wb_ext (l m : List Int) : ∀ k, (∀ i, i < k → w4 l (4 * i) = w4 m (4 * i)) → wb l k = wb m k
  | 0, _ => rfl
  | k + 1, h => by rw [wb, wb, wb_ext l m k (fun i hi => h i (by omega)), h k (by omega)]
theorem words_eq {l m : List Int} (hl : Bytes l) (hm : Bytes m) (nl : l.length = 64) (nm : m.length = 64) (h : ∀ i, i < 16 → w4 l (4 * i) = w4 m (4 * i)) : l = m := by
  have e := wb_ext l m 16 h
  rw [wb_take hl nl 16 (by omega), wb_take hm nm 16 (by omega), List.take_of_length_le (by omega), List.take_of_length_le (by omega)] at e
  exact e
theorem same_eq (a b : Dt) (oka : a.Ok) (okb : b.Ok) : ((List.range 16).all fun i => w4 a.bytes (4 * i) == w4 b.bytes (4 * i)) = (a.nr == b.nr && (a.ar == b.ar && (a.ip == b.ip && (a.a0 == b.a0 && (a.a1 == b.a1 && (a.a2 == b.a2 && (a.a3 == b.a3 && (a.a4 == b.a4 && (a.a5 == b.a5))))))))) := by
  rw [Bool.eq_iff_iff]
  constructor
  · intro h
    rw [List.all_eq_true] at h
    have e := words_eq (bytes_b a) (bytes_b b) (bytes_len a) (bytes_len b) (fun i hi => by simpa using h i (by simpa using hi))
    have g : a = b := by
      have e1 : ofB a.bytes = a := by simp only [ofB, back_nr a oka, back_ar a oka, back_ip a oka, back_a0 a oka, back_a1 a oka, back_a2 a oka, back_a3 a oka, back_a4 a oka, back_a5 a oka]
      have e2 : ofB b.bytes = b := by simp only [ofB, back_nr b okb, back_ar b okb, back_ip b okb, back_a0 b okb, back_a1 b okb, back_a2 b okb, back_a3 b okb, back_a4 b okb, back_a5 b okb]
      rw [← e1, ← e2, e]
    subst g
    simp
  · intro h
    simp only [Bool.and_eq_true, beq_iff_eq] at h
    obtain ⟨h0, h1, h2, h3, h4, h5, h6, h7, h8⟩ := h
    have g : a = b := by
      cases a; cases b
      simp only at h0 h1 h2 h3 h4 h5 h6 h7 h8
      subst h0 h1 h2 h3 h4 h5 h6 h7 h8
      rfl
    subst g
    simp
/-- What stays while the law runs: its three parameters, what With gave, and all that was there before. -/
structure OS (a b : Dt) (off x : Int) (c : Array Value) (w : World) (X : Nat) (W : World) : Prop where
  ha : W.heap[w.heap.size]? = some (.cells #[.int .u32 a.nr, .int .u32 a.ar, .int .u64 a.ip, .int .u64 a.a0, .int .u64 a.a1, .int .u64 a.a2, .int .u64 a.a3, .int .u64 a.a4, .int .u64 a.a5] 58 (0, 0))
  hb : W.heap[w.heap.size + 1]? = some (.cells #[.int .u32 b.nr, .int .u32 b.ar, .int .u64 b.ip, .int .u64 b.a0, .int .u64 b.a1, .int .u64 b.a2, .int .u64 b.a3, .int .u64 b.a4, .int .u64 b.a5] 58 (0, 0))
  ht : W.heap[w.heap.size + 2]? = some (.cells #[.int .u32 off, .int .u32 x] 69 (0, 0))
  hx : W.heap[X]? = some (.cells c 58 (0, 0))
  below : Below w.heap.size w W
theorem OS.step {a b : Dt} {off x : Int} {c : Array Value} {w W W' : World} {X : Nat} (h : OS a b off x c w X W) (hB : Below W.heap.size W W') : OS a b off x c w X W' :=
  ⟨(hB.block _ (blk_lt h.ha)).trans h.ha, (hB.block _ (blk_lt h.hb)).trans h.hb, (hB.block _ (blk_lt h.ht)).trans h.ht, (hB.block _ (blk_lt h.hx)).trans h.hx, h.below.trans (hB.mono h.below.size)⟩
theorem OS.alloc {a b : Dt} {off x : Int} {c : Array Value} {w W : World} {X : Nat} (h : OS a b off x c w X W) (k : Obj) : OS a b off x c w X (W.alloc k) :=
  ⟨blk_alloc h.ha k, blk_alloc h.hb k, blk_alloc h.ht k, blk_alloc h.hx k, below_alloc h.below k⟩
theorem OS.far {a b : Dt} {off x : Int} {c : Array Value} {w W : World} {X : Nat} (h : OS a b off x c w X W) {Y j : Nat} (h1 : w.heap.size + 2 < Y) (h2 : X < Y) (v : Value) : OS a b off x c w X (W.setCell ⟨Y, j, none⟩ v) :=
  ⟨blk_far h.ha (by show _ ≠ Y; omega) v, blk_far h.hb (by show _ ≠ Y; omega) v, blk_far h.ht (by show _ ≠ Y; omega) v, blk_far h.hx (by show _ ≠ Y; omega) v, bset h.below (by omega) v⟩
theorem OS.drew {a b : Dt} {off x : Int} {c : Array Value} {w W : World} {X : Nat} (h : OS a b off x c w X W) : OS a b off x c w X W.drew :=
  ⟨blk_drew h.ha, blk_drew h.hb, blk_drew h.ht, blk_drew h.hx, below_drew' h.below⟩
end Go.Proofs.Ytpejeeemefmafaa.RD
