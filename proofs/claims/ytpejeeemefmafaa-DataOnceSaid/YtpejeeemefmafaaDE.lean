import Derived.Test.YtpejeeemefmafaaDD
namespace Go.Proofs.Ytpejeeemefmafaa.RD
open Go.RowKit Go.Proofs.YtpejeeemefmafaaW.PrintWords Go.Proofs.YtpejeeemefmafaaW.PrintLast Go.Proofs.YtpejeeemefmafaaW.PrintMore
open Go.Proofs.Ytpejeeemefmafaa.PE.L (below_drewN' below_drew')
open PH
set_option linter.unusedVariables false
set_option linter.unusedSimpArgs false
theorem bytes_len (d : Dt) : d.bytes.length = 64 := by simp [Dt.bytes, Dt.pre, bs_length]
theorem Bytes.append {x y : List Int} (hx : Bytes x) (hy : Bytes y) : Bytes (x ++ y) := fun j => by
  by_cases h : j < x.length
  · rw [List.getElem?_append_left h]; exact hx j
  · rw [List.getElem?_append_right (by omega)]; exact hy _
theorem bytes_b (d : Dt) : Bytes d.bytes := by
  unfold Dt.bytes Dt.pre
  repeat (first | exact bs_bytes _ _ | refine Bytes.append ?_ ?_)
/-- The words, when k of them are there. -/
def wl (l : List Int) (k : Nat) : List Value := (List.range 16).map fun j => if j < k then .int .u32 (w4 l (4 * j)) else .int .u32 0
theorem wl_len (l : List Int) (k : Nat) : (wl l k).length = 16 := by simp [wl]
theorem wl_at (l : List Int) (k j : Nat) (hj : j < 16) : (wl l k)[j]? = some (if j < k then .int .u32 (w4 l (4 * j)) else .int .u32 0) := by simp [wl, hj]
theorem wl_set (l : List Int) (k : Nat) (hk : k < 16) : (wl l k).set k (.int .u32 (w4 l (4 * k))) = wl l (k + 1) := by
  apply List.ext_getElem?
  intro j
  by_cases hj : j < 16
  · rw [List.getElem?_set, wl_len, wl_at l k j hj, wl_at l (k + 1) j hj]
    by_cases e : k = j
    · subst e; simp [hk]
    · rw [if_neg e]
      by_cases h : j < k
      · rw [if_pos h, if_pos (by omega)]
      · rw [if_neg h, if_neg (by omega)]
  · rw [List.getElem?_eq_none (by simp [wl_len]; omega), List.getElem?_eq_none (by simp [wl_len]; omega)]
set_option maxHeartbeats 4000000 in
set_option maxRecDepth 100000 in
theorem words_c (d : Dt) (ok : d.Ok) (w : World) : Calls Try.prog 44 #[.agg #[.int .u32 d.nr, .int .u32 d.ar, .int .u64 d.ip, .int .u64 d.a0, .int .u64 d.a1, .int .u64 d.a2, .int .u64 d.a3, .int .u64 d.a4, .int .u64 d.a5]] w fun e w' => e = .returned (.agg #[.int .u32 (w4 d.bytes 0), .int .u32 (w4 d.bytes 4), .int .u32 (w4 d.bytes 8), .int .u32 (w4 d.bytes 12), .int .u32 (w4 d.bytes 16), .int .u32 (w4 d.bytes 20), .int .u32 (w4 d.bytes 24), .int .u32 (w4 d.bytes 28), .int .u32 (w4 d.bytes 32), .int .u32 (w4 d.bytes 36), .int .u32 (w4 d.bytes 40), .int .u32 (w4 d.bytes 44), .int .u32 (w4 d.bytes 48), .int .u32 (w4 d.bytes 52), .int .u32 (w4 d.bytes 56), .int .u32 (w4 d.bytes 60)]) ∧ Below w.heap.size w w' := by
  have OK := Aside0.mk ok
  clear ok
  have HL := Aside0.mk (bytes_b d)
  have HLEN := Aside0.mk (bytes_len d)
  go_enter Try.func44, Try.ntmps44
  have HX := Aside0.mk (heap_alloc_new w (.cells #[.int .u32 d.nr, .int .u32 d.ar, .int .u64 d.ip, .int .u64 d.a0, .int .u64 d.a1, .int .u64 d.a2, .int .u64 d.a3, .int .u64 d.a4, .int .u64 d.a5] 58))
  replace HX := Aside0.mk (blk_alloc (blk_alloc HX.out (.cells #[.int .u32 0, .int .u32 0, .int .u32 0, .int .u32 0, .int .u32 0, .int .u32 0, .int .u32 0, .int .u32 0, .int .u32 0, .int .u32 0, .int .u32 0, .int .u32 0, .int .u32 0, .int .u32 0, .int .u32 0, .int .u32 0] 66)) (.cells #[.int .u32 0, .int .u32 0, .int .u32 0, .int .u32 0, .int .u32 0, .int .u32 0, .int .u32 0, .int .u32 0, .int .u32 0, .int .u32 0, .int .u32 0, .int .u32 0, .int .u32 0, .int .u32 0, .int .u32 0, .int .u32 0] 66))
  have hc0 : World.cell? _ ⟨w.heap.size, 0, none⟩ = some (.int .u32 d.nr) := blk_cell HX.out 0
  have hc1 : World.cell? _ ⟨w.heap.size, 1, none⟩ = some (.int .u32 d.ar) := blk_cell HX.out 1
  have hc2 : World.cell? _ ⟨w.heap.size, 2, none⟩ = some (.int .u64 d.ip) := blk_cell HX.out 2
  have hc3 : World.cell? _ ⟨w.heap.size, 3, none⟩ = some (.int .u64 d.a0) := blk_cell HX.out 3
  have hc4 : World.cell? _ ⟨w.heap.size, 4, none⟩ = some (.int .u64 d.a1) := blk_cell HX.out 4
  have hc5 : World.cell? _ ⟨w.heap.size, 5, none⟩ = some (.int .u64 d.a2) := blk_cell HX.out 5
  have hc6 : World.cell? _ ⟨w.heap.size, 6, none⟩ = some (.int .u64 d.a3) := blk_cell HX.out 6
  have hc7 : World.cell? _ ⟨w.heap.size, 7, none⟩ = some (.int .u64 d.a4) := blk_cell HX.out 7
  have hc8 : World.cell? _ ⟨w.heap.size, 8, none⟩ = some (.int .u64 d.a5) := blk_cell HX.out 8
  clear HX
  go_wp2_with fail
  clear hc0 hc1 hc2 hc3 hc4 hc5 hc6 hc7 hc8
  refine (enc_c d OK.out _).mono ?_
  rintro e w1 ⟨A, c, rfl, hc, hC, hb⟩
  obtain ⟨_, HX1, HX2, hB⟩ := PE.L.boxes3 hb
  have HB := Aside0.mk hB
  clear hb hB
  have HC := Aside0.mk hC
  clear hC
  go_wp2_with fail
  refine (read_c A 64 c _ _ HC.out hc (by omega)).mono ?_
  rintro e w2 ⟨g, s, cr, Ar, rfl, hR, hB, hs⟩
  have hg1 : w.heap.size + 2 < g := by have h1 := hR.hg; have h2 := blk_lt HX2.out; omega
  have hs1 : w.heap.size + 2 < s := by have h2 := blk_lt HX2.out; omega
  have HR := Aside0.mk (hR.base (n₀ := w.heap.size + 3) (by have h2 := blk_lt HX2.out; omega))
  have hsz : w.heap.size + 3 ≤ w2.heap.size := by have h2 := blk_lt HX2.out; have h3 := hB.size; omega
  replace HX1 := Aside0.mk ((hB.block _ (blk_lt HX1.out)).trans HX1.out)
  replace HX2 := Aside0.mk ((hB.block _ (blk_lt HX2.out)).trans HX2.out)
  replace HB := Aside0.mk (HB.out.trans (hB.mono HB.out.size))
  clear hR hB HC hs
  go_wp2_with fail
  go_loopw [9] (fun v9 wr => ∃ k : Nat, k ≤ 16 ∧ v9 = .int .i64 k ∧ Aside0 (Rdr (w.heap.size + 3) g s cr Ar d.bytes (4 * k) 0 wr) ∧ Aside0 (wr.heap[w.heap.size + 1]? = some (.cells #[.int .u32 0, .int .u32 0, .int .u32 0, .int .u32 0, .int .u32 0, .int .u32 0, .int .u32 0, .int .u32 0, .int .u32 0, .int .u32 0, .int .u32 0, .int .u32 0, .int .u32 0, .int .u32 0, .int .u32 0, .int .u32 0] 66 (0, 0))) ∧ Aside0 (wr.heap[w.heap.size + 2]? = some (.cells (wl d.bytes k).toArray 66 (0, 0))) ∧ Aside0 (w.heap.size + 3 ≤ wr.heap.size) ∧ Aside0 (Below w.heap.size w wr)) (fun v9 _ => 16 - (intOf v9).toNat)
  case atStart => exact ⟨0, by omega, rfl, HR, HX1, ⟨HX2.out⟩, ⟨hsz⟩, HB⟩
  case round =>
    clear HR HX1 HX2 HB hsz
    obtain ⟨k, hk, rfl, HR, HX1, HX2, HS, HB⟩ := hrel
    have hsz := HS.out
    clear HS
    by_cases hlt : k < 16
    · go_wp2_with fail
      refine (u32_ok (w.heap.size + 3) g s cr (4 * k) Ar d.bytes HL.out (by rw [HLEN.out]; omega) (by rw [HLEN.out]; omega) _ hsz HR.out).mono ?_
      rintro e w' ⟨rfl, hR, hK⟩
      have hsz' : w.heap.size + 3 ≤ w'.heap.size := Nat.le_trans hsz hK.b.size
      clear hsz
      have hsz := hsz'
      clear hsz'
      replace HB := Aside0.mk (HB.out.trans (hK.b.mono (by omega)))
      replace HX1 := Aside0.mk ((hK.k _ (blk_lt HX1.out) (by omega)).trans HX1.out)
      replace HX2 := Aside0.mk ((hK.k _ (blk_lt HX2.out) (by omega)).trans HX2.out)
      clear HR
      have HR := Aside0.mk hR
      clear hR hK
      have hck : World.cell? _ ⟨w.heap.size + 2, k, none⟩ = some (.int .u32 0) := (blk_cell HX2.out k).trans (by simp only [List.getElem?_toArray]; rw [wl_at _ _ _ hlt, if_neg (by omega)])
      have hfk : World.frozen? _ ⟨w.heap.size + 2, k, none⟩ = false := blk_frozen HX2.out k
      go_wp2
      go_roundw
      case rel => exact ⟨k + 1, by omega, by simp, ⟨HR.out.mv (Below.heap_setCell _ _ _ _ (by simp; omega)) (fun hp => Below.heap_setCell _ _ _ _ (by simp; omega))⟩, ⟨(Below.heap_setCell _ _ _ _ (by simp)).trans HX1.out⟩, ⟨by have h := blk_set HX2.out k (.int .u32 (w4 d.bytes (4 * k))); rw [List.setIfInBounds_toArray, wl_set _ _ hlt] at h; exact h⟩, ⟨by simpa using hsz⟩, ⟨Below.setCell HB.out (Nat.le_add_right _ 2) _⟩⟩
      case measure => simp [intOf]; omega
    · obtain rfl : k = 16 := by omega
      have HY : wr.heap[w.heap.size + 2]? = some (.cells #[.int .u32 (w4 d.bytes 0), .int .u32 (w4 d.bytes 4), .int .u32 (w4 d.bytes 8), .int .u32 (w4 d.bytes 12), .int .u32 (w4 d.bytes 16), .int .u32 (w4 d.bytes 20), .int .u32 (w4 d.bytes 24), .int .u32 (w4 d.bytes 28), .int .u32 (w4 d.bytes 32), .int .u32 (w4 d.bytes 36), .int .u32 (w4 d.bytes 40), .int .u32 (w4 d.bytes 44), .int .u32 (w4 d.bytes 48), .int .u32 (w4 d.bytes 52), .int .u32 (w4 d.bytes 56), .int .u32 (w4 d.bytes 60)] 66 (0, 0)) := HX2.out
      clear HX2
      have HX2 := Aside0.mk HY
      clear HY
      have hz0 : World.cell? _ ⟨w.heap.size + 1, 0, none⟩ = some (.int .u32 0) := blk_cell HX1.out 0
      have hzf0 : World.frozen? _ ⟨w.heap.size + 1, 0, none⟩ = false := blk_frozen HX1.out 0
      have hz1 : World.cell? _ ⟨w.heap.size + 1, 1, none⟩ = some (.int .u32 0) := blk_cell HX1.out 1
      have hzf1 : World.frozen? _ ⟨w.heap.size + 1, 1, none⟩ = false := blk_frozen HX1.out 1
      have hz2 : World.cell? _ ⟨w.heap.size + 1, 2, none⟩ = some (.int .u32 0) := blk_cell HX1.out 2
      have hzf2 : World.frozen? _ ⟨w.heap.size + 1, 2, none⟩ = false := blk_frozen HX1.out 2
      have hz3 : World.cell? _ ⟨w.heap.size + 1, 3, none⟩ = some (.int .u32 0) := blk_cell HX1.out 3
      have hzf3 : World.frozen? _ ⟨w.heap.size + 1, 3, none⟩ = false := blk_frozen HX1.out 3
      have hz4 : World.cell? _ ⟨w.heap.size + 1, 4, none⟩ = some (.int .u32 0) := blk_cell HX1.out 4
      have hzf4 : World.frozen? _ ⟨w.heap.size + 1, 4, none⟩ = false := blk_frozen HX1.out 4
      have hz5 : World.cell? _ ⟨w.heap.size + 1, 5, none⟩ = some (.int .u32 0) := blk_cell HX1.out 5
      have hzf5 : World.frozen? _ ⟨w.heap.size + 1, 5, none⟩ = false := blk_frozen HX1.out 5
      have hz6 : World.cell? _ ⟨w.heap.size + 1, 6, none⟩ = some (.int .u32 0) := blk_cell HX1.out 6
      have hzf6 : World.frozen? _ ⟨w.heap.size + 1, 6, none⟩ = false := blk_frozen HX1.out 6
      have hz7 : World.cell? _ ⟨w.heap.size + 1, 7, none⟩ = some (.int .u32 0) := blk_cell HX1.out 7
      have hzf7 : World.frozen? _ ⟨w.heap.size + 1, 7, none⟩ = false := blk_frozen HX1.out 7
      have hz8 : World.cell? _ ⟨w.heap.size + 1, 8, none⟩ = some (.int .u32 0) := blk_cell HX1.out 8
      have hzf8 : World.frozen? _ ⟨w.heap.size + 1, 8, none⟩ = false := blk_frozen HX1.out 8
      have hz9 : World.cell? _ ⟨w.heap.size + 1, 9, none⟩ = some (.int .u32 0) := blk_cell HX1.out 9
      have hzf9 : World.frozen? _ ⟨w.heap.size + 1, 9, none⟩ = false := blk_frozen HX1.out 9
      have hz10 : World.cell? _ ⟨w.heap.size + 1, 10, none⟩ = some (.int .u32 0) := blk_cell HX1.out 10
      have hzf10 : World.frozen? _ ⟨w.heap.size + 1, 10, none⟩ = false := blk_frozen HX1.out 10
      have hz11 : World.cell? _ ⟨w.heap.size + 1, 11, none⟩ = some (.int .u32 0) := blk_cell HX1.out 11
      have hzf11 : World.frozen? _ ⟨w.heap.size + 1, 11, none⟩ = false := blk_frozen HX1.out 11
      have hz12 : World.cell? _ ⟨w.heap.size + 1, 12, none⟩ = some (.int .u32 0) := blk_cell HX1.out 12
      have hzf12 : World.frozen? _ ⟨w.heap.size + 1, 12, none⟩ = false := blk_frozen HX1.out 12
      have hz13 : World.cell? _ ⟨w.heap.size + 1, 13, none⟩ = some (.int .u32 0) := blk_cell HX1.out 13
      have hzf13 : World.frozen? _ ⟨w.heap.size + 1, 13, none⟩ = false := blk_frozen HX1.out 13
      have hz14 : World.cell? _ ⟨w.heap.size + 1, 14, none⟩ = some (.int .u32 0) := blk_cell HX1.out 14
      have hzf14 : World.frozen? _ ⟨w.heap.size + 1, 14, none⟩ = false := blk_frozen HX1.out 14
      have hz15 : World.cell? _ ⟨w.heap.size + 1, 15, none⟩ = some (.int .u32 0) := blk_cell HX1.out 15
      have hzf15 : World.frozen? _ ⟨w.heap.size + 1, 15, none⟩ = false := blk_frozen HX1.out 15
      have hy0 : World.cell? _ ⟨w.heap.size + 2, 0, none⟩ = some (.int .u32 (w4 d.bytes 0)) := blk_cell HX2.out 0
      have hy1 : World.cell? _ ⟨w.heap.size + 2, 1, none⟩ = some (.int .u32 (w4 d.bytes 4)) := blk_cell HX2.out 1
      have hy2 : World.cell? _ ⟨w.heap.size + 2, 2, none⟩ = some (.int .u32 (w4 d.bytes 8)) := blk_cell HX2.out 2
      have hy3 : World.cell? _ ⟨w.heap.size + 2, 3, none⟩ = some (.int .u32 (w4 d.bytes 12)) := blk_cell HX2.out 3
      have hy4 : World.cell? _ ⟨w.heap.size + 2, 4, none⟩ = some (.int .u32 (w4 d.bytes 16)) := blk_cell HX2.out 4
      have hy5 : World.cell? _ ⟨w.heap.size + 2, 5, none⟩ = some (.int .u32 (w4 d.bytes 20)) := blk_cell HX2.out 5
      have hy6 : World.cell? _ ⟨w.heap.size + 2, 6, none⟩ = some (.int .u32 (w4 d.bytes 24)) := blk_cell HX2.out 6
      have hy7 : World.cell? _ ⟨w.heap.size + 2, 7, none⟩ = some (.int .u32 (w4 d.bytes 28)) := blk_cell HX2.out 7
      have hy8 : World.cell? _ ⟨w.heap.size + 2, 8, none⟩ = some (.int .u32 (w4 d.bytes 32)) := blk_cell HX2.out 8
      have hy9 : World.cell? _ ⟨w.heap.size + 2, 9, none⟩ = some (.int .u32 (w4 d.bytes 36)) := blk_cell HX2.out 9
      have hy10 : World.cell? _ ⟨w.heap.size + 2, 10, none⟩ = some (.int .u32 (w4 d.bytes 40)) := blk_cell HX2.out 10
      have hy11 : World.cell? _ ⟨w.heap.size + 2, 11, none⟩ = some (.int .u32 (w4 d.bytes 44)) := blk_cell HX2.out 11
      have hy12 : World.cell? _ ⟨w.heap.size + 2, 12, none⟩ = some (.int .u32 (w4 d.bytes 48)) := blk_cell HX2.out 12
      have hy13 : World.cell? _ ⟨w.heap.size + 2, 13, none⟩ = some (.int .u32 (w4 d.bytes 52)) := blk_cell HX2.out 13
      have hy14 : World.cell? _ ⟨w.heap.size + 2, 14, none⟩ = some (.int .u32 (w4 d.bytes 56)) := blk_cell HX2.out 14
      have hy15 : World.cell? _ ⟨w.heap.size + 2, 15, none⟩ = some (.int .u32 (w4 d.bytes 60)) := blk_cell HX2.out 15
      go_wp2
      refine bodyPost_ret (results_cell_row rfl _ _ (w.heap.size + 1) 66 #[.int .u32 (w4 d.bytes 0), .int .u32 (w4 d.bytes 4), .int .u32 (w4 d.bytes 8), .int .u32 (w4 d.bytes 12), .int .u32 (w4 d.bytes 16), .int .u32 (w4 d.bytes 20), .int .u32 (w4 d.bytes 24), .int .u32 (w4 d.bytes 28), .int .u32 (w4 d.bytes 32), .int .u32 (w4 d.bytes 36), .int .u32 (w4 d.bytes 40), .int .u32 (w4 d.bytes 44), .int .u32 (w4 d.bytes 48), .int .u32 (w4 d.bytes 52), .int .u32 (w4 d.bytes 56), .int .u32 (w4 d.bytes 60)] (0, 0) _ rfl ?hb Try.underlying66 rfl (by kernel_rfl)) rfl ?_
      case hb =>
        have b0 := HX1.out
        have b1 := blk_set b0 0 (.int .u32 (w4 d.bytes 0))
        have b2 := blk_set b1 1 (.int .u32 (w4 d.bytes 4))
        have b3 := blk_set b2 2 (.int .u32 (w4 d.bytes 8))
        have b4 := blk_set b3 3 (.int .u32 (w4 d.bytes 12))
        have b5 := blk_set b4 4 (.int .u32 (w4 d.bytes 16))
        have b6 := blk_set b5 5 (.int .u32 (w4 d.bytes 20))
        have b7 := blk_set b6 6 (.int .u32 (w4 d.bytes 24))
        have b8 := blk_set b7 7 (.int .u32 (w4 d.bytes 28))
        have b9 := blk_set b8 8 (.int .u32 (w4 d.bytes 32))
        have b10 := blk_set b9 9 (.int .u32 (w4 d.bytes 36))
        have b11 := blk_set b10 10 (.int .u32 (w4 d.bytes 40))
        have b12 := blk_set b11 11 (.int .u32 (w4 d.bytes 44))
        have b13 := blk_set b12 12 (.int .u32 (w4 d.bytes 48))
        have b14 := blk_set b13 13 (.int .u32 (w4 d.bytes 52))
        have b15 := blk_set b14 14 (.int .u32 (w4 d.bytes 56))
        have b16 := blk_set b15 15 (.int .u32 (w4 d.bytes 60))
        simpa using b16
      refine ⟨rfl, ?_⟩
      repeat (first | (with_reducible exact HB.out) | (with_reducible refine bset ?_ (Nat.le_succ _) _))
def good (off : Int) : Prop := 0 ≤ off ∧ off ≤ 60 ∧ off % 4 = 0
theorem place_f (off : Int) (h : u32R off) : data_place.f off = if off % 4 = 0 ∧ off ≤ 60 then some (off / 4, 0) else some (0, 2) := by
  obtain ⟨h0, h1⟩ := h
  unfold data_place.f
  rw [Int.tmod_eq_emod_of_nonneg h0, Int.tdiv_eq_ediv_of_nonneg h0]
  by_cases c : off % 4 = 0
  · rw [if_pos c]
    by_cases c2 : off > 60
    · rw [if_pos c2, if_neg (by omega)]
    · rw [if_neg c2, if_pos ⟨c, by omega⟩, Int.emod_eq_of_lt (by omega) (by omega)]
  · rw [if_neg c, if_neg (by omega)]
theorem right_f (off : Int) (h : u32R off) : wicketgateref03_Right.f off = some (decide (off % 4 = 0 ∧ off ≤ 60)) := by
  obtain ⟨h0, h1⟩ := h
  unfold wicketgateref03_Right.f
  rw [Int.tmod_eq_emod_of_nonneg h0]
  by_cases c : off ≤ 60
  · rw [if_pos c]; by_cases c2 : off % 4 = 0 <;> simp [c, c2]
  · rw [if_neg c, decide_eq_false (by omega)]
theorem word_ix (l : List Int) (i : Nat) (hi : i < 16) (w : World) : (Instr.index 66 (.agg #[.int .u32 (w4 l 0), .int .u32 (w4 l 4), .int .u32 (w4 l 8), .int .u32 (w4 l 12), .int .u32 (w4 l 16), .int .u32 (w4 l 20), .int .u32 (w4 l 24), .int .u32 (w4 l 28), .int .u32 (w4 l 32), .int .u32 (w4 l 36), .int .u32 (w4 l 40), .int .u32 (w4 l 44), .int .u32 (w4 l 48), .int .u32 (w4 l 52), .int .u32 (w4 l 56), .int .u32 (w4 l 60)]) (.int .i64 (i : Int))).run Try.prog w = .ok (.int .u32 (w4 l (4 * i))) w := by
  obtain rfl | rfl | rfl | rfl | rfl | rfl | rfl | rfl | rfl | rfl | rfl | rfl | rfl | rfl | rfl | rfl : i = 0 ∨ i = 1 ∨ i = 2 ∨ i = 3 ∨ i = 4 ∨ i = 5 ∨ i = 6 ∨ i = 7 ∨ i = 8 ∨ i = 9 ∨ i = 10 ∨ i = 11 ∨ i = 12 ∨ i = 13 ∨ i = 14 ∨ i = 15 := by omega
  all_goals kernel_rfl
set_option maxHeartbeats 4000000 in
set_option maxRecDepth 100000 in
theorem word_no (d : Dt) (ok : d.Ok) (off : Int) (ho : u32R off) (hg : ¬ (off % 4 = 0 ∧ off ≤ 60)) (w : World) : Calls Try.prog 40 #[.agg #[.int .u32 d.nr, .int .u32 d.ar, .int .u64 d.ip, .int .u64 d.a0, .int .u64 d.a1, .int .u64 d.a2, .int .u64 d.a3, .int .u64 d.a4, .int .u64 d.a5], .int .u32 off] w fun e w' => e = .returned (.tuple #[.int .u32 0, .int .i64 2]) ∧ Below w.heap.size w w' := by
  have OK := Aside0.mk ok
  clear ok
  have hp := data_place.calls off 0 2
  have hpf : data_place.f off = some (0, 2) := by rw [place_f _ ho, if_neg hg]
  have HP := Aside0.mk (fun W => hp W hpf)
  clear hp hpf ho hg
  go_enter Try.func40, Try.ntmps40
  have HX := Aside0.mk (heap_alloc_new w (.cells #[.int .u32 d.nr, .int .u32 d.ar, .int .u64 d.ip, .int .u64 d.a0, .int .u64 d.a1, .int .u64 d.a2, .int .u64 d.a3, .int .u64 d.a4, .int .u64 d.a5] 58))
  have HB := Aside0.mk (below_alloc (Below.refl w.heap.size w) (.cells #[.int .u32 d.nr, .int .u32 d.ar, .int .u64 d.ip, .int .u64 d.a0, .int .u64 d.a1, .int .u64 d.a2, .int .u64 d.a3, .int .u64 d.a4, .int .u64 d.a5] 58))
  go_wp2_with fail
  refine (HP.out _).mono ?_
  rintro e w1 ⟨rfl, hD⟩
  replace HX := Aside0.mk ((hD.below.block _ (blk_lt HX.out)).trans HX.out)
  replace HB := Aside0.mk (HB.out.trans (hD.below.mono HB.out.size))
  clear hD HP
  go_wp2
  go_ret2
  exact ⟨rfl, HB.out⟩
set_option maxHeartbeats 4000000 in
set_option maxRecDepth 100000 in
theorem word_ok (d : Dt) (ok : d.Ok) (off : Int) (ho : u32R off) (hg : off % 4 = 0 ∧ off ≤ 60) (w : World) : Calls Try.prog 40 #[.agg #[.int .u32 d.nr, .int .u32 d.ar, .int .u64 d.ip, .int .u64 d.a0, .int .u64 d.a1, .int .u64 d.a2, .int .u64 d.a3, .int .u64 d.a4, .int .u64 d.a5], .int .u32 off] w fun e w' => e = .returned (.tuple #[.int .u32 (w4 d.bytes (4 * (off / 4).toNat)), .int .i64 0]) ∧ Below w.heap.size w w' := by
  have OK := Aside0.mk ok
  clear ok
  have ho1 := ho.1
  obtain ⟨i, rfl⟩ : ∃ i : Nat, off = 4 * (i : Int) := ⟨(off / 4).toNat, by omega⟩
  have hi : i < 16 := by omega
  rw [show ((4 * (i : Int)) / 4).toNat = i by omega]
  have hp := data_place.calls (4 * (i : Int)) (i : Int) 0 
  have hpf : data_place.f (4 * (i : Int)) = some ((i : Int), 0) := by rw [place_f _ ho, if_pos ⟨by omega, by omega⟩]; congr 2; omega
  have HP := Aside0.mk (fun W => hp W hpf)
  have hix := word_ix d.bytes i hi
  clear hp hpf ho hg ho1
  go_enter Try.func40, Try.ntmps40
  have HX := Aside0.mk (heap_alloc_new w (.cells #[.int .u32 d.nr, .int .u32 d.ar, .int .u64 d.ip, .int .u64 d.a0, .int .u64 d.a1, .int .u64 d.a2, .int .u64 d.a3, .int .u64 d.a4, .int .u64 d.a5] 58))
  have HB := Aside0.mk (below_alloc (Below.refl w.heap.size w) (.cells #[.int .u32 d.nr, .int .u32 d.ar, .int .u64 d.ip, .int .u64 d.a0, .int .u64 d.a1, .int .u64 d.a2, .int .u64 d.a3, .int .u64 d.a4, .int .u64 d.a5] 58))
  go_wp2_with fail
  refine (HP.out _).mono ?_
  rintro e w1 ⟨rfl, hD⟩
  replace HX := Aside0.mk ((hD.below.block _ (blk_lt HX.out)).trans HX.out)
  replace HB := Aside0.mk (HB.out.trans (hD.below.mono HB.out.size))
  clear hD HP
  have hc0 : World.cell? _ ⟨w.heap.size, 0, none⟩ = some (.int .u32 d.nr) := blk_cell HX.out 0
  have hc1 : World.cell? _ ⟨w.heap.size, 1, none⟩ = some (.int .u32 d.ar) := blk_cell HX.out 1
  have hc2 : World.cell? _ ⟨w.heap.size, 2, none⟩ = some (.int .u64 d.ip) := blk_cell HX.out 2
  have hc3 : World.cell? _ ⟨w.heap.size, 3, none⟩ = some (.int .u64 d.a0) := blk_cell HX.out 3
  have hc4 : World.cell? _ ⟨w.heap.size, 4, none⟩ = some (.int .u64 d.a1) := blk_cell HX.out 4
  have hc5 : World.cell? _ ⟨w.heap.size, 5, none⟩ = some (.int .u64 d.a2) := blk_cell HX.out 5
  have hc6 : World.cell? _ ⟨w.heap.size, 6, none⟩ = some (.int .u64 d.a3) := blk_cell HX.out 6
  have hc7 : World.cell? _ ⟨w.heap.size, 7, none⟩ = some (.int .u64 d.a4) := blk_cell HX.out 7
  have hc8 : World.cell? _ ⟨w.heap.size, 8, none⟩ = some (.int .u64 d.a5) := blk_cell HX.out 8
  go_wp2_with fail
  refine (words_c d OK.out _).mono ?_
  rintro e w2 ⟨rfl, hB⟩
  replace HB := Aside0.mk (HB.out.trans (hB.mono HB.out.size))
  clear hB
  go_wp2
  go_ret2
  exact ⟨rfl, HB.out⟩
end Go.Proofs.Ytpejeeemefmafaa.RD
