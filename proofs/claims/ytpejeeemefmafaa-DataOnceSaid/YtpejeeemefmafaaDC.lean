import Derived.Test.YtpejeeemefmafaaDB
namespace Go.Proofs.Ytpejeeemefmafaa.RD
open Go.RowKit Go.Proofs.YtpejeeemefmafaaW.PrintWords Go.Proofs.YtpejeeemefmafaaW.PrintLast Go.Proofs.YtpejeeemefmafaaW.PrintMore
open Go.Proofs.Ytpejeeemefmafaa.PE.L (below_drewN' below_drew')
open PH
set_option linter.unusedVariables false
set_option linter.unusedSimpArgs false
def w4 (l : List Int) (i : Nat) : Int := num ((l.drop i).take 4)
def w8 (l : List Int) (i : Nat) : Int := num ((l.drop i).take 8)
def ofB (l : List Int) : Dt := ⟨w4 l 0, w4 l 4, w8 l 8, w8 l 16, w8 l 24, w8 l 32, w8 l 40, w8 l 48, w8 l 56⟩
theorem w4_r {l : List Int} (hl : Bytes l) (i : Nat) (h : i + 4 ≤ l.length) : u32R (w4 l i) := by
  have h := num_lt ((hl.drop i).take 4)
  rw [take_len l i 4 (by omega)] at h
  exact ⟨h.1, by have := h.2; unfold w4; simpa using this⟩
theorem w8_r {l : List Int} (hl : Bytes l) (i : Nat) (h : i + 8 ≤ l.length) : u64R (w8 l i) := by
  have h := num_lt ((hl.drop i).take 8)
  rw [take_len l i 8 (by omega)] at h
  exact ⟨h.1, by have := h.2; unfold w8; simpa using this⟩
theorem nb_ok (l : List Int) (f n : Nat) (h : f + n ≤ l.length) : nb l f 0 n = (l.drop f).take n ∧ nf l f 0 n = f + n ∧ ne l f 0 n = 0 := by
  refine ⟨?_, ?_, ?_⟩
  · unfold nb; rw [if_pos ⟨rfl, by omega, by omega⟩]; rfl
  · unfold nf; rw [if_pos ⟨rfl, by omega, by omega⟩]; rfl
  · unfold ne; rw [if_pos rfl, if_neg (by omega), if_neg (by omega)]
theorem u32_ok (n₀ g s c f : Nat) (A : Option Addr) (l : List Int) (hl : Bytes l) (hlen : l.length ≤ 5000) (hf : f + 4 ≤ l.length) (w : World) (hn₀ : n₀ ≤ w.heap.size) (hR : Rdr n₀ g s c A l f 0 w) :
    Calls Try.prog 29 #[.pointer (some ⟨g, 0, none⟩)] w fun e w' => e = .returned (.int .u32 (w4 l f)) ∧ Rdr n₀ g s c A l (f + 4) 0 w' ∧ Kp n₀ w.heap.size g w w' := by
  have h := u32_w n₀ g s c f A l 0 hl (by omega) w hn₀ hR
  obtain ⟨z1, z2, z3⟩ := nb_ok l f 4 hf
  rw [show (((4 : Nat) : Int)) = 4 from rfl] at z1 z2 z3
  rw [z1, z2, z3] at h
  exact h
theorem u64_ok (n₀ g s c f : Nat) (A : Option Addr) (l : List Int) (hl : Bytes l) (hlen : l.length ≤ 5000) (hf : f + 8 ≤ l.length) (w : World) (hn₀ : n₀ ≤ w.heap.size) (hR : Rdr n₀ g s c A l f 0 w) :
    Calls Try.prog 30 #[.pointer (some ⟨g, 0, none⟩)] w fun e w' => e = .returned (.int .u64 (w8 l f)) ∧ Rdr n₀ g s c A l (f + 8) 0 w' ∧ Kp n₀ w.heap.size g w w' := by
  have h := u64_w n₀ g s c f A l 0 hl (by omega) w hn₀ hR
  obtain ⟨z1, z2, z3⟩ := nb_ok l f 8 hf
  rw [show (((8 : Nat) : Int)) = 8 from rfl] at z1 z2 z3
  rw [z1, z2, z3] at h
  exact h
/-- The cells of the data that are being read, when k of the arguments are there. -/
def dcs (l : List Int) (k : Nat) : List Value := [.int .u32 (w4 l 0), .int .u32 (w4 l 4), .int .u64 (w8 l 8), .int .u64 (if 0 < k then w8 l 16 else 0), .int .u64 (if 1 < k then w8 l 24 else 0), .int .u64 (if 2 < k then w8 l 32 else 0), .int .u64 (if 3 < k then w8 l 40 else 0), .int .u64 (if 4 < k then w8 l 48 else 0), .int .u64 (if 5 < k then w8 l 56 else 0)]
set_option maxHeartbeats 4000000 in
set_option maxRecDepth 100000 in
theorem dec_short (A : Option Addr) (n c : Nat) (hn : n < 64) (w : World) : Calls Try.prog 36 #[.slice A n c] w fun e w' => e = .returned (.tuple #[.agg #[.int .u32 0, .int .u32 0, .int .u64 0, .int .u64 0, .int .u64 0, .int .u64 0, .int .u64 0, .int .u64 0, .int .u64 0], .int .i64 7]) ∧ Below w.heap.size w w' := by
  have t1 : decide ((n : Int) < 64) = true := decide_eq_true (by omega)
  have t2 : decide (n < 64) = true := decide_eq_true (by omega)
  go_enter Try.func36, Try.ntmps36
  have HX := Aside0.mk (heap_alloc_new w (.cells #[.int .u32 0, .int .u32 0, .int .u64 0, .int .u64 0, .int .u64 0, .int .u64 0, .int .u64 0, .int .u64 0, .int .u64 0] 58))
  have hc0 : World.cell? _ ⟨w.heap.size, 0, none⟩ = some (.int .u32 0) := blk_cell HX.out 0
  have hcf0 : World.frozen? _ ⟨w.heap.size, 0, none⟩ = false := blk_frozen HX.out 0
  have hc1 : World.cell? _ ⟨w.heap.size, 1, none⟩ = some (.int .u32 0) := blk_cell HX.out 1
  have hcf1 : World.frozen? _ ⟨w.heap.size, 1, none⟩ = false := blk_frozen HX.out 1
  have hc2 : World.cell? _ ⟨w.heap.size, 2, none⟩ = some (.int .u64 0) := blk_cell HX.out 2
  have hcf2 : World.frozen? _ ⟨w.heap.size, 2, none⟩ = false := blk_frozen HX.out 2
  have hc3 : World.cell? _ ⟨w.heap.size, 3, none⟩ = some (.int .u64 0) := blk_cell HX.out 3
  have hcf3 : World.frozen? _ ⟨w.heap.size, 3, none⟩ = false := blk_frozen HX.out 3
  have hc4 : World.cell? _ ⟨w.heap.size, 4, none⟩ = some (.int .u64 0) := blk_cell HX.out 4
  have hcf4 : World.frozen? _ ⟨w.heap.size, 4, none⟩ = false := blk_frozen HX.out 4
  have hc5 : World.cell? _ ⟨w.heap.size, 5, none⟩ = some (.int .u64 0) := blk_cell HX.out 5
  have hcf5 : World.frozen? _ ⟨w.heap.size, 5, none⟩ = false := blk_frozen HX.out 5
  have hc6 : World.cell? _ ⟨w.heap.size, 6, none⟩ = some (.int .u64 0) := blk_cell HX.out 6
  have hcf6 : World.frozen? _ ⟨w.heap.size, 6, none⟩ = false := blk_frozen HX.out 6
  have hc7 : World.cell? _ ⟨w.heap.size, 7, none⟩ = some (.int .u64 0) := blk_cell HX.out 7
  have hcf7 : World.frozen? _ ⟨w.heap.size, 7, none⟩ = false := blk_frozen HX.out 7
  have hc8 : World.cell? _ ⟨w.heap.size, 8, none⟩ = some (.int .u64 0) := blk_cell HX.out 8
  have hcf8 : World.frozen? _ ⟨w.heap.size, 8, none⟩ = false := blk_frozen HX.out 8
  go_wp2
  refine bodyPost_ret (results_ct rfl _ _ w.heap.size 58 #[.int .u32 0, .int .u32 0, .int .u64 0, .int .u64 0, .int .u64 0, .int .u64 0, .int .u64 0, .int .u64 0, .int .u64 0] (0, 0) _ rfl ?hb Try.underlying58 rfl (by kernel_rfl)) rfl ?_
  case hb => simpa using HX.out
  refine ⟨rfl, ?_⟩
  repeat (first | (with_reducible exact below_alloc (Below.refl _ _) _) | (with_reducible refine bset ?_ (Nat.le_refl _) _))
set_option maxHeartbeats 4000000 in
set_option maxRecDepth 100000 in
theorem dec_long (A : Option Addr) (n c : Nat) (hn : 64 < n) (w : World) : Calls Try.prog 36 #[.slice A n c] w fun e w' => e = .returned (.tuple #[.agg #[.int .u32 0, .int .u32 0, .int .u64 0, .int .u64 0, .int .u64 0, .int .u64 0, .int .u64 0, .int .u64 0, .int .u64 0], .int .i64 3]) ∧ Below w.heap.size w w' := by
  have t1 : decide ((n : Int) < 64) = false := decide_eq_false (by omega)
  have t2 : decide (n < 64) = false := decide_eq_false (by omega)
  have t3 : decide ((64 : Int) < (n : Int)) = true := decide_eq_true (by omega)
  have t4 : decide (64 < n) = true := decide_eq_true (by omega)
  go_enter Try.func36, Try.ntmps36
  have HX := Aside0.mk (heap_alloc_new w (.cells #[.int .u32 0, .int .u32 0, .int .u64 0, .int .u64 0, .int .u64 0, .int .u64 0, .int .u64 0, .int .u64 0, .int .u64 0] 58))
  have hc0 : World.cell? _ ⟨w.heap.size, 0, none⟩ = some (.int .u32 0) := blk_cell HX.out 0
  have hcf0 : World.frozen? _ ⟨w.heap.size, 0, none⟩ = false := blk_frozen HX.out 0
  have hc1 : World.cell? _ ⟨w.heap.size, 1, none⟩ = some (.int .u32 0) := blk_cell HX.out 1
  have hcf1 : World.frozen? _ ⟨w.heap.size, 1, none⟩ = false := blk_frozen HX.out 1
  have hc2 : World.cell? _ ⟨w.heap.size, 2, none⟩ = some (.int .u64 0) := blk_cell HX.out 2
  have hcf2 : World.frozen? _ ⟨w.heap.size, 2, none⟩ = false := blk_frozen HX.out 2
  have hc3 : World.cell? _ ⟨w.heap.size, 3, none⟩ = some (.int .u64 0) := blk_cell HX.out 3
  have hcf3 : World.frozen? _ ⟨w.heap.size, 3, none⟩ = false := blk_frozen HX.out 3
  have hc4 : World.cell? _ ⟨w.heap.size, 4, none⟩ = some (.int .u64 0) := blk_cell HX.out 4
  have hcf4 : World.frozen? _ ⟨w.heap.size, 4, none⟩ = false := blk_frozen HX.out 4
  have hc5 : World.cell? _ ⟨w.heap.size, 5, none⟩ = some (.int .u64 0) := blk_cell HX.out 5
  have hcf5 : World.frozen? _ ⟨w.heap.size, 5, none⟩ = false := blk_frozen HX.out 5
  have hc6 : World.cell? _ ⟨w.heap.size, 6, none⟩ = some (.int .u64 0) := blk_cell HX.out 6
  have hcf6 : World.frozen? _ ⟨w.heap.size, 6, none⟩ = false := blk_frozen HX.out 6
  have hc7 : World.cell? _ ⟨w.heap.size, 7, none⟩ = some (.int .u64 0) := blk_cell HX.out 7
  have hcf7 : World.frozen? _ ⟨w.heap.size, 7, none⟩ = false := blk_frozen HX.out 7
  have hc8 : World.cell? _ ⟨w.heap.size, 8, none⟩ = some (.int .u64 0) := blk_cell HX.out 8
  have hcf8 : World.frozen? _ ⟨w.heap.size, 8, none⟩ = false := blk_frozen HX.out 8
  go_wp2
  refine bodyPost_ret (results_ct rfl _ _ w.heap.size 58 #[.int .u32 0, .int .u32 0, .int .u64 0, .int .u64 0, .int .u64 0, .int .u64 0, .int .u64 0, .int .u64 0, .int .u64 0] (0, 0) _ rfl ?hb Try.underlying58 rfl (by kernel_rfl)) rfl ?_
  case hb => simpa using HX.out
  refine ⟨rfl, ?_⟩
  repeat (first | (with_reducible exact below_alloc (Below.refl _ _) _) | (with_reducible refine bset ?_ (Nat.le_refl _) _))
set_option maxHeartbeats 4000000 in
set_option maxRecDepth 100000 in
theorem dec_ok (A : Option Addr) (c : Nat) (l : List Int) (hl : Bytes l) (w : World) (hC : Kd.C (Kd.int .u8) w A 64 l) (hc : 64 ≤ c) : Calls Try.prog 36 #[.slice A 64 c] w fun e w' => e = .returned (.tuple #[.agg #[.int .u32 (w4 l 0), .int .u32 (w4 l 4), .int .u64 (w8 l 8), .int .u64 (w8 l 16), .int .u64 (w8 l 24), .int .u64 (w8 l 32), .int .u64 (w8 l 40), .int .u64 (w8 l 48), .int .u64 (w8 l 56)], .int .i64 0]) ∧ Below w.heap.size w w' := by
  have HL := Aside0.mk hl
  have HC0 := Aside0.mk hC
  clear hl hC
  have hlen : l.length = 64 := Kd.C_len HC0.out
  have HLEN := Aside0.mk hlen
  clear hlen
  go_enter Try.func36, Try.ntmps36
  have HX := Aside0.mk (heap_alloc_new w (.cells #[.int .u32 0, .int .u32 0, .int .u64 0, .int .u64 0, .int .u64 0, .int .u64 0, .int .u64 0, .int .u64 0, .int .u64 0] 58))
  have HB := Aside0.mk (below_alloc (Below.refl w.heap.size w) (.cells #[.int .u32 0, .int .u32 0, .int .u64 0, .int .u64 0, .int .u64 0, .int .u64 0, .int .u64 0, .int .u64 0, .int .u64 0] 58))
  go_wp2_with fail
  refine (read_c A 64 c l _ (Kd.C_alloc HC0.out _) hc (by omega)).mono ?_
  rintro e W1 ⟨g, s, cr, Ar, rfl, hR, hB, _⟩
  have hgX : w.heap.size < g := by have h1 := hR.hg; have h2 := blk_lt HX.out; omega
  have HR := Aside0.mk (hR.base (n₀ := w.heap.size + 1) (blk_lt HX.out))
  replace HX := Aside0.mk ((hB.block _ (blk_lt HX.out)).trans HX.out)
  replace HB := Aside0.mk (HB.out.trans (hB.mono HB.out.size))
  clear hR hB
  have hsz : w.heap.size + 1 ≤ W1.heap.size := blk_lt HX.out
  go_wp2_with fail
  refine (u32_ok (w.heap.size + 1) g s cr 0 Ar l HL.out (by rw [HLEN.out]; omega) (by rw [HLEN.out]; omega) _ hsz HR.out).mono ?_
  rintro e w' ⟨rfl, hR, hK⟩
  have hsz' : w.heap.size + 1 ≤ w'.heap.size := Nat.le_trans hsz hK.b.size
  clear hsz
  have hsz := hsz'
  clear hsz'
  replace HB := Aside0.mk (HB.out.trans (hK.b.mono (Nat.le_succ _)))
  replace HX := Aside0.mk ((hK.k _ (blk_lt HX.out) (by omega)).trans HX.out)
  clear HR
  have HR := Aside0.mk hR
  clear hR hK
  go_wp2_with fail
  refine (u32_ok (w.heap.size + 1) g s cr 4 Ar l HL.out (by rw [HLEN.out]; omega) (by rw [HLEN.out]; omega) _ hsz HR.out).mono ?_
  rintro e w' ⟨rfl, hR, hK⟩
  have hsz' : w.heap.size + 1 ≤ w'.heap.size := Nat.le_trans hsz hK.b.size
  clear hsz
  have hsz := hsz'
  clear hsz'
  replace HB := Aside0.mk (HB.out.trans (hK.b.mono (Nat.le_succ _)))
  replace HX := Aside0.mk ((hK.k _ (blk_lt HX.out) (by omega)).trans HX.out)
  clear HR
  have HR := Aside0.mk hR
  clear hR hK
  go_wp2_with fail
  refine (u64_ok (w.heap.size + 1) g s cr 8 Ar l HL.out (by rw [HLEN.out]; omega) (by rw [HLEN.out]; omega) _ hsz HR.out).mono ?_
  rintro e w' ⟨rfl, hR, hK⟩
  have hsz' : w.heap.size + 1 ≤ w'.heap.size := Nat.le_trans hsz hK.b.size
  clear hsz
  have hsz := hsz'
  clear hsz'
  replace HB := Aside0.mk (HB.out.trans (hK.b.mono (Nat.le_succ _)))
  replace HX := Aside0.mk ((hK.k _ (blk_lt HX.out) (by omega)).trans HX.out)
  clear HR
  have HR := Aside0.mk hR
  clear hR hK
  go_wp2_with fail
  skip
  have HY := Aside0.mk (heap_alloc_new w' (.cells (dcs l 0).toArray 58))
  have hB : Below w'.heap.size w' (w'.alloc (.cells (dcs l 0).toArray 58)) := (Below.refl _ _).alloc (Nat.le_refl _) _
  have hgY : g < w'.heap.size := HR.out.glt
  have HSY := Aside0.mk (show 0 < l.length → s ≠ w'.heap.size from fun hp => by have := HR.out.slt hp; omega)
  replace HR := Aside0.mk (HR.out.under hB)
  replace HX := Aside0.mk ((hB.block _ (blk_lt HX.out)).trans HX.out)
  replace HB := Aside0.mk (HB.out.trans (hB.mono (by omega)))
  have hsz2 : w.heap.size + 1 ≤ (w'.alloc (.cells (dcs l 0).toArray 58)).heap.size := Nat.le_trans hsz hB.size
  have hXY : w.heap.size < w'.heap.size := by omega
  skip
  clear hB hsz
  go_loopw [32] (fun v32 wr => ∃ k : Nat, k ≤ 6 ∧ v32 = .int .i64 k ∧ Aside0 (Rdr (w.heap.size + 1) g s cr Ar l (16 + 8 * k) 0 wr) ∧ Aside0 (wr.heap[w.heap.size]? = some (.cells #[.int .u32 0, .int .u32 0, .int .u64 0, .int .u64 0, .int .u64 0, .int .u64 0, .int .u64 0, .int .u64 0, .int .u64 0] 58 (0, 0))) ∧ Aside0 (wr.heap[w'.heap.size]? = some (.cells (dcs l k).toArray 58 (0, 0))) ∧ Aside0 (w.heap.size + 1 ≤ wr.heap.size) ∧ Aside0 (Below w.heap.size w wr)) (fun v32 _ => 6 - (intOf v32).toNat)
  case atStart => exact ⟨0, by omega, rfl, HR, HX, HY, ⟨hsz2⟩, HB⟩
  case round =>
    clear HR HX HY HB hsz2
    obtain ⟨k, hk, rfl, HR, HX, HY, HS, HB⟩ := hrel
    have hsz := HS.out
    clear HS
    by_cases hlt : k < 6
    · obtain rfl | rfl | rfl | rfl | rfl | rfl : k = 0 ∨ k = 1 ∨ k = 2 ∨ k = 3 ∨ k = 4 ∨ k = 5 := by omega
      · skip
        go_wp2_with fail
        refine (u64_ok (w.heap.size + 1) g s cr 16 Ar l HL.out (by rw [HLEN.out]; omega) (by rw [HLEN.out]; omega) _ hsz HR.out).mono ?_
        rintro e w' ⟨rfl, hR, hK⟩
        have hsz' : w.heap.size + 1 ≤ w'.heap.size := Nat.le_trans hsz hK.b.size
        clear hsz
        have hsz := hsz'
        clear hsz'
        replace HB := Aside0.mk (HB.out.trans (hK.b.mono (Nat.le_succ _)))
        replace HX := Aside0.mk ((hK.k _ (blk_lt HX.out) (by omega)).trans HX.out)
        replace HY := Aside0.mk ((hK.k _ (blk_lt HY.out) (by omega)).trans HY.out)
        clear HR
        have HR := Aside0.mk hR
        clear hR hK
        have hck : World.cell? _ ⟨_, 3, none⟩ = some (.int .u64 0) := blk_cell HY.out 3
        have hfk : World.frozen? _ ⟨_, 3, none⟩ = false := blk_frozen HY.out 3
        go_wp2
        go_roundw
        case rel => exact ⟨1, by omega, rfl, ⟨HR.out.mv (Below.heap_setCell _ _ _ _ (Nat.ne_of_lt hgY)) (fun hp => Below.heap_setCell _ _ _ _ (HSY.out hp))⟩, ⟨(Below.heap_setCell _ _ _ _ (Nat.ne_of_lt hXY)).trans HX.out⟩, ⟨by have := blk_set HY.out 3 (.int .u64 (w8 l 16)); simpa [dcs] using this⟩, ⟨by simpa using hsz⟩, ⟨Below.setCell HB.out (Nat.le_of_lt hXY) _⟩⟩
        case measure => simp [intOf]
      · skip
        go_wp2_with fail
        refine (u64_ok (w.heap.size + 1) g s cr 24 Ar l HL.out (by rw [HLEN.out]; omega) (by rw [HLEN.out]; omega) _ hsz HR.out).mono ?_
        rintro e w' ⟨rfl, hR, hK⟩
        have hsz' : w.heap.size + 1 ≤ w'.heap.size := Nat.le_trans hsz hK.b.size
        clear hsz
        have hsz := hsz'
        clear hsz'
        replace HB := Aside0.mk (HB.out.trans (hK.b.mono (Nat.le_succ _)))
        replace HX := Aside0.mk ((hK.k _ (blk_lt HX.out) (by omega)).trans HX.out)
        replace HY := Aside0.mk ((hK.k _ (blk_lt HY.out) (by omega)).trans HY.out)
        clear HR
        have HR := Aside0.mk hR
        clear hR hK
        have hck : World.cell? _ ⟨_, 4, none⟩ = some (.int .u64 0) := blk_cell HY.out 4
        have hfk : World.frozen? _ ⟨_, 4, none⟩ = false := blk_frozen HY.out 4
        go_wp2
        go_roundw
        case rel => exact ⟨2, by omega, rfl, ⟨HR.out.mv (Below.heap_setCell _ _ _ _ (Nat.ne_of_lt hgY)) (fun hp => Below.heap_setCell _ _ _ _ (HSY.out hp))⟩, ⟨(Below.heap_setCell _ _ _ _ (Nat.ne_of_lt hXY)).trans HX.out⟩, ⟨by have := blk_set HY.out 4 (.int .u64 (w8 l 24)); simpa [dcs] using this⟩, ⟨by simpa using hsz⟩, ⟨Below.setCell HB.out (Nat.le_of_lt hXY) _⟩⟩
        case measure => simp [intOf]
      · skip
        go_wp2_with fail
        refine (u64_ok (w.heap.size + 1) g s cr 32 Ar l HL.out (by rw [HLEN.out]; omega) (by rw [HLEN.out]; omega) _ hsz HR.out).mono ?_
        rintro e w' ⟨rfl, hR, hK⟩
        have hsz' : w.heap.size + 1 ≤ w'.heap.size := Nat.le_trans hsz hK.b.size
        clear hsz
        have hsz := hsz'
        clear hsz'
        replace HB := Aside0.mk (HB.out.trans (hK.b.mono (Nat.le_succ _)))
        replace HX := Aside0.mk ((hK.k _ (blk_lt HX.out) (by omega)).trans HX.out)
        replace HY := Aside0.mk ((hK.k _ (blk_lt HY.out) (by omega)).trans HY.out)
        clear HR
        have HR := Aside0.mk hR
        clear hR hK
        have hck : World.cell? _ ⟨_, 5, none⟩ = some (.int .u64 0) := blk_cell HY.out 5
        have hfk : World.frozen? _ ⟨_, 5, none⟩ = false := blk_frozen HY.out 5
        go_wp2
        go_roundw
        case rel => exact ⟨3, by omega, rfl, ⟨HR.out.mv (Below.heap_setCell _ _ _ _ (Nat.ne_of_lt hgY)) (fun hp => Below.heap_setCell _ _ _ _ (HSY.out hp))⟩, ⟨(Below.heap_setCell _ _ _ _ (Nat.ne_of_lt hXY)).trans HX.out⟩, ⟨by have := blk_set HY.out 5 (.int .u64 (w8 l 32)); simpa [dcs] using this⟩, ⟨by simpa using hsz⟩, ⟨Below.setCell HB.out (Nat.le_of_lt hXY) _⟩⟩
        case measure => simp [intOf]
      · skip
        go_wp2_with fail
        refine (u64_ok (w.heap.size + 1) g s cr 40 Ar l HL.out (by rw [HLEN.out]; omega) (by rw [HLEN.out]; omega) _ hsz HR.out).mono ?_
        rintro e w' ⟨rfl, hR, hK⟩
        have hsz' : w.heap.size + 1 ≤ w'.heap.size := Nat.le_trans hsz hK.b.size
        clear hsz
        have hsz := hsz'
        clear hsz'
        replace HB := Aside0.mk (HB.out.trans (hK.b.mono (Nat.le_succ _)))
        replace HX := Aside0.mk ((hK.k _ (blk_lt HX.out) (by omega)).trans HX.out)
        replace HY := Aside0.mk ((hK.k _ (blk_lt HY.out) (by omega)).trans HY.out)
        clear HR
        have HR := Aside0.mk hR
        clear hR hK
        have hck : World.cell? _ ⟨_, 6, none⟩ = some (.int .u64 0) := blk_cell HY.out 6
        have hfk : World.frozen? _ ⟨_, 6, none⟩ = false := blk_frozen HY.out 6
        go_wp2
        go_roundw
        case rel => exact ⟨4, by omega, rfl, ⟨HR.out.mv (Below.heap_setCell _ _ _ _ (Nat.ne_of_lt hgY)) (fun hp => Below.heap_setCell _ _ _ _ (HSY.out hp))⟩, ⟨(Below.heap_setCell _ _ _ _ (Nat.ne_of_lt hXY)).trans HX.out⟩, ⟨by have := blk_set HY.out 6 (.int .u64 (w8 l 40)); simpa [dcs] using this⟩, ⟨by simpa using hsz⟩, ⟨Below.setCell HB.out (Nat.le_of_lt hXY) _⟩⟩
        case measure => simp [intOf]
      · skip
        go_wp2_with fail
        refine (u64_ok (w.heap.size + 1) g s cr 48 Ar l HL.out (by rw [HLEN.out]; omega) (by rw [HLEN.out]; omega) _ hsz HR.out).mono ?_
        rintro e w' ⟨rfl, hR, hK⟩
        have hsz' : w.heap.size + 1 ≤ w'.heap.size := Nat.le_trans hsz hK.b.size
        clear hsz
        have hsz := hsz'
        clear hsz'
        replace HB := Aside0.mk (HB.out.trans (hK.b.mono (Nat.le_succ _)))
        replace HX := Aside0.mk ((hK.k _ (blk_lt HX.out) (by omega)).trans HX.out)
        replace HY := Aside0.mk ((hK.k _ (blk_lt HY.out) (by omega)).trans HY.out)
        clear HR
        have HR := Aside0.mk hR
        clear hR hK
        have hck : World.cell? _ ⟨_, 7, none⟩ = some (.int .u64 0) := blk_cell HY.out 7
        have hfk : World.frozen? _ ⟨_, 7, none⟩ = false := blk_frozen HY.out 7
        go_wp2
        go_roundw
        case rel => exact ⟨5, by omega, rfl, ⟨HR.out.mv (Below.heap_setCell _ _ _ _ (Nat.ne_of_lt hgY)) (fun hp => Below.heap_setCell _ _ _ _ (HSY.out hp))⟩, ⟨(Below.heap_setCell _ _ _ _ (Nat.ne_of_lt hXY)).trans HX.out⟩, ⟨by have := blk_set HY.out 7 (.int .u64 (w8 l 48)); simpa [dcs] using this⟩, ⟨by simpa using hsz⟩, ⟨Below.setCell HB.out (Nat.le_of_lt hXY) _⟩⟩
        case measure => simp [intOf]
      · skip
        go_wp2_with fail
        refine (u64_ok (w.heap.size + 1) g s cr 56 Ar l HL.out (by rw [HLEN.out]; omega) (by rw [HLEN.out]; omega) _ hsz HR.out).mono ?_
        rintro e w' ⟨rfl, hR, hK⟩
        have hsz' : w.heap.size + 1 ≤ w'.heap.size := Nat.le_trans hsz hK.b.size
        clear hsz
        have hsz := hsz'
        clear hsz'
        replace HB := Aside0.mk (HB.out.trans (hK.b.mono (Nat.le_succ _)))
        replace HX := Aside0.mk ((hK.k _ (blk_lt HX.out) (by omega)).trans HX.out)
        replace HY := Aside0.mk ((hK.k _ (blk_lt HY.out) (by omega)).trans HY.out)
        clear HR
        have HR := Aside0.mk hR
        clear hR hK
        have hck : World.cell? _ ⟨_, 8, none⟩ = some (.int .u64 0) := blk_cell HY.out 8
        have hfk : World.frozen? _ ⟨_, 8, none⟩ = false := blk_frozen HY.out 8
        go_wp2
        go_roundw
        case rel => exact ⟨6, by omega, rfl, ⟨HR.out.mv (Below.heap_setCell _ _ _ _ (Nat.ne_of_lt hgY)) (fun hp => Below.heap_setCell _ _ _ _ (HSY.out hp))⟩, ⟨(Below.heap_setCell _ _ _ _ (Nat.ne_of_lt hXY)).trans HX.out⟩, ⟨by have := blk_set HY.out 8 (.int .u64 (w8 l 56)); simpa [dcs] using this⟩, ⟨by simpa using hsz⟩, ⟨Below.setCell HB.out (Nat.le_of_lt hXY) _⟩⟩
        case measure => simp [intOf]
    · obtain rfl : k = 6 := by omega
      have hz0 : World.cell? _ ⟨w.heap.size, 0, none⟩ = some (.int .u32 0) := blk_cell HX.out 0
      have hzf0 : World.frozen? _ ⟨w.heap.size, 0, none⟩ = false := blk_frozen HX.out 0
      have hz1 : World.cell? _ ⟨w.heap.size, 1, none⟩ = some (.int .u32 0) := blk_cell HX.out 1
      have hzf1 : World.frozen? _ ⟨w.heap.size, 1, none⟩ = false := blk_frozen HX.out 1
      have hz2 : World.cell? _ ⟨w.heap.size, 2, none⟩ = some (.int .u64 0) := blk_cell HX.out 2
      have hzf2 : World.frozen? _ ⟨w.heap.size, 2, none⟩ = false := blk_frozen HX.out 2
      have hz3 : World.cell? _ ⟨w.heap.size, 3, none⟩ = some (.int .u64 0) := blk_cell HX.out 3
      have hzf3 : World.frozen? _ ⟨w.heap.size, 3, none⟩ = false := blk_frozen HX.out 3
      have hz4 : World.cell? _ ⟨w.heap.size, 4, none⟩ = some (.int .u64 0) := blk_cell HX.out 4
      have hzf4 : World.frozen? _ ⟨w.heap.size, 4, none⟩ = false := blk_frozen HX.out 4
      have hz5 : World.cell? _ ⟨w.heap.size, 5, none⟩ = some (.int .u64 0) := blk_cell HX.out 5
      have hzf5 : World.frozen? _ ⟨w.heap.size, 5, none⟩ = false := blk_frozen HX.out 5
      have hz6 : World.cell? _ ⟨w.heap.size, 6, none⟩ = some (.int .u64 0) := blk_cell HX.out 6
      have hzf6 : World.frozen? _ ⟨w.heap.size, 6, none⟩ = false := blk_frozen HX.out 6
      have hz7 : World.cell? _ ⟨w.heap.size, 7, none⟩ = some (.int .u64 0) := blk_cell HX.out 7
      have hzf7 : World.frozen? _ ⟨w.heap.size, 7, none⟩ = false := blk_frozen HX.out 7
      have hz8 : World.cell? _ ⟨w.heap.size, 8, none⟩ = some (.int .u64 0) := blk_cell HX.out 8
      have hzf8 : World.frozen? _ ⟨w.heap.size, 8, none⟩ = false := blk_frozen HX.out 8
      have hy0 : World.cell? _ ⟨_, 0, none⟩ = some (.int .u32 (w4 l 0)) := blk_cell HY.out 0
      have hy1 : World.cell? _ ⟨_, 1, none⟩ = some (.int .u32 (w4 l 4)) := blk_cell HY.out 1
      have hy2 : World.cell? _ ⟨_, 2, none⟩ = some (.int .u64 (w8 l 8)) := blk_cell HY.out 2
      have hy3 : World.cell? _ ⟨_, 3, none⟩ = some (.int .u64 (w8 l 16)) := blk_cell HY.out 3
      have hy4 : World.cell? _ ⟨_, 4, none⟩ = some (.int .u64 (w8 l 24)) := blk_cell HY.out 4
      have hy5 : World.cell? _ ⟨_, 5, none⟩ = some (.int .u64 (w8 l 32)) := blk_cell HY.out 5
      have hy6 : World.cell? _ ⟨_, 6, none⟩ = some (.int .u64 (w8 l 40)) := blk_cell HY.out 6
      have hy7 : World.cell? _ ⟨_, 7, none⟩ = some (.int .u64 (w8 l 48)) := blk_cell HY.out 7
      have hy8 : World.cell? _ ⟨_, 8, none⟩ = some (.int .u64 (w8 l 56)) := blk_cell HY.out 8
      go_wp2
      refine bodyPost_ret (results_ct rfl _ _ w.heap.size 58 #[.int .u32 (w4 l 0), .int .u32 (w4 l 4), .int .u64 (w8 l 8), .int .u64 (w8 l 16), .int .u64 (w8 l 24), .int .u64 (w8 l 32), .int .u64 (w8 l 40), .int .u64 (w8 l 48), .int .u64 (w8 l 56)] (0, 0) _ rfl ?hb Try.underlying58 rfl (by kernel_rfl)) rfl ?_
      case hb =>
        have b0 := HX.out
        have b1 := blk_set b0 0 (.int .u32 (w4 l 0))
        have b2 := blk_set b1 1 (.int .u32 (w4 l 4))
        have b3 := blk_set b2 2 (.int .u64 (w8 l 8))
        have b4 := blk_set b3 3 (.int .u64 (w8 l 16))
        have b5 := blk_set b4 4 (.int .u64 (w8 l 24))
        have b6 := blk_set b5 5 (.int .u64 (w8 l 32))
        have b7 := blk_set b6 6 (.int .u64 (w8 l 40))
        have b8 := blk_set b7 7 (.int .u64 (w8 l 48))
        have b9 := blk_set b8 8 (.int .u64 (w8 l 56))
        simpa using b9
      refine ⟨rfl, ?_⟩
      repeat (first | (with_reducible exact HB.out) | (with_reducible refine bset ?_ (Nat.le_refl _) _))
end Go.Proofs.Ytpejeeemefmafaa.RD
