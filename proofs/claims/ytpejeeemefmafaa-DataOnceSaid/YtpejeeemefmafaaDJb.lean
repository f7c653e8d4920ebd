import Derived.Test.YtpejeeemefmafaaDJs
namespace Go.Proofs.Ytpejeeemefmafaa.RD
open Go.RowKit Go.Proofs.YtpejeeemefmafaaW.PrintWords Go.Proofs.YtpejeeemefmafaaW.PrintLast Go.Proofs.YtpejeeemefmafaaW.PrintMore
open Go.Proofs.Ytpejeeemefmafaa.PE.L (below_drewN' below_drew')
open PH
set_option linter.unusedVariables false
set_option linter.unusedSimpArgs false
set_option maxHeartbeats 2000000 in
set_option maxRecDepth 100000 in
theorem with_other (d : Dt) (ok : d.Ok) (i : Nat) (hi : i < 16) (x : Int) (hx : u32R x) (hxe : ¬ x = w4 d.bytes (4 * i)) (w : World) : Calls Try.prog 42 #[.agg #[.int .u32 d.nr, .int .u32 d.ar, .int .u64 d.ip, .int .u64 d.a0, .int .u64 d.a1, .int .u64 d.a2, .int .u64 d.a3, .int .u64 d.a4, .int .u64 d.a5], .int .u32 (4 * (i : Int)), .int .u32 x] w fun e w' => e = .returned (.tuple #[.agg #[.int .u32 (w4 (put4 d.bytes (4 * i) x) 0), .int .u32 (w4 (put4 d.bytes (4 * i) x) 4), .int .u64 (w8 (put4 d.bytes (4 * i) x) 8), .int .u64 (w8 (put4 d.bytes (4 * i) x) 16), .int .u64 (w8 (put4 d.bytes (4 * i) x) 24), .int .u64 (w8 (put4 d.bytes (4 * i) x) 32), .int .u64 (w8 (put4 d.bytes (4 * i) x) 40), .int .u64 (w8 (put4 d.bytes (4 * i) x) 48), .int .u64 (w8 (put4 d.bytes (4 * i) x) 56)], .int .i64 0]) ∧ Below w.heap.size w w' := by
  have OK := Aside0.mk ok
  have HXR := Aside0.mk hx
  clear ok hx
  have hpf : data_place.f (4 * (i : Int)) = some ((i : Int), 0) := by rw [place_f _ ⟨by omega, by omega⟩, if_pos ⟨by omega, by omega⟩]; congr 2; omega
  have HP := Aside0.mk (fun W => data_place.calls (4 * (i : Int)) (i : Int) 0 W hpf)
  clear hpf
  have HL2 := Aside0.mk (put4_bytes (bytes_b d) (4 * i) x)
  have HN2 := Aside0.mk ((put4_len d.bytes (4 * i) x (by rw [bytes_len]; omega)).trans (bytes_len d))
  have hall := all_put d.bytes (bytes_b d) (bytes_len d) i hi x HXR.out
  have heq := eq66 (put4 d.bytes (4 * i) x) d.bytes
  obtain ⟨l2, hl2⟩ : ∃ l2, l2 = (put4 d.bytes (4 * i) x) := ⟨_, rfl⟩
  have HSET := Aside0.mk (wl_put d.bytes i x (bytes_len d) hi HXR.out)
  rw [← hl2] at HL2 HN2 hall heq HSET ⊢
  have HL2E := Aside0.mk hl2
  clear hl2
  have hbq : ((List.range 16).all fun j => w4 l2 (4 * j) == w4 d.bytes (4 * j)) = false := by cases h : ((List.range 16).all fun j => w4 l2 (4 * j) == w4 d.bytes (4 * j)) with | false => rfl | true => exact absurd (hall.mp h) hxe
  rw [hbq] at heq
  have HEQ := Aside0.mk heq
  have HXE := Aside0.mk hxe
  clear hall hbq heq hxe
  go_enter Try.func42, Try.ntmps42
  have HX0 := Aside0.mk (heap_alloc_new w (.cells #[.int .u32 d.nr, .int .u32 d.ar, .int .u64 d.ip, .int .u64 d.a0, .int .u64 d.a1, .int .u64 d.a2, .int .u64 d.a3, .int .u64 d.a4, .int .u64 d.a5] 58))
  have HX1 := Aside0.mk (heap_alloc_new (w.alloc (.cells #[.int .u32 d.nr, .int .u32 d.ar, .int .u64 d.ip, .int .u64 d.a0, .int .u64 d.a1, .int .u64 d.a2, .int .u64 d.a3, .int .u64 d.a4, .int .u64 d.a5] 58)) (.cells #[.int .u32 0, .int .u32 0, .int .u64 0, .int .u64 0, .int .u64 0, .int .u64 0, .int .u64 0, .int .u64 0, .int .u64 0] 58))
  replace HX0 := Aside0.mk (blk_alloc HX0.out (.cells #[.int .u32 0, .int .u32 0, .int .u64 0, .int .u64 0, .int .u64 0, .int .u64 0, .int .u64 0, .int .u64 0, .int .u64 0] 58))
  have HB := Aside0.mk (below_alloc (below_alloc (Below.refl w.heap.size w) (.cells #[.int .u32 d.nr, .int .u32 d.ar, .int .u64 d.ip, .int .u64 d.a0, .int .u64 d.a1, .int .u64 d.a2, .int .u64 d.a3, .int .u64 d.a4, .int .u64 d.a5] 58)) (.cells #[.int .u32 0, .int .u32 0, .int .u64 0, .int .u64 0, .int .u64 0, .int .u64 0, .int .u64 0, .int .u64 0, .int .u64 0] 58))
  have hs1 : (w.alloc (.cells #[.int .u32 d.nr, .int .u32 d.ar, .int .u64 d.ip, .int .u64 d.a0, .int .u64 d.a1, .int .u64 d.a2, .int .u64 d.a3, .int .u64 d.a4, .int .u64 d.a5] 58)).heap.size = w.heap.size + 1 := by simp
  rw [hs1] at HX1
  clear hs1
  go_wp2_with fail
  refine (HP.out _).mono ?_
  rintro e w1 ⟨rfl, hD⟩
  have hB := hD.below
  clear hD HP
  replace HX0 := Aside0.mk ((hB.block _ (blk_lt HX0.out)).trans HX0.out)
  replace HX1 := Aside0.mk ((hB.block _ (blk_lt HX1.out)).trans HX1.out)
  replace HB := Aside0.mk (HB.out.trans (hB.mono HB.out.size))
  clear hB
  have hc0 : World.cell? _ ⟨w.heap.size, 0, none⟩ = some (.int .u32 d.nr) := blk_cell HX0.out 0
  have hc1 : World.cell? _ ⟨w.heap.size, 1, none⟩ = some (.int .u32 d.ar) := blk_cell HX0.out 1
  have hc2 : World.cell? _ ⟨w.heap.size, 2, none⟩ = some (.int .u64 d.ip) := blk_cell HX0.out 2
  have hc3 : World.cell? _ ⟨w.heap.size, 3, none⟩ = some (.int .u64 d.a0) := blk_cell HX0.out 3
  have hc4 : World.cell? _ ⟨w.heap.size, 4, none⟩ = some (.int .u64 d.a1) := blk_cell HX0.out 4
  have hc5 : World.cell? _ ⟨w.heap.size, 5, none⟩ = some (.int .u64 d.a2) := blk_cell HX0.out 5
  have hc6 : World.cell? _ ⟨w.heap.size, 6, none⟩ = some (.int .u64 d.a3) := blk_cell HX0.out 6
  have hc7 : World.cell? _ ⟨w.heap.size, 7, none⟩ = some (.int .u64 d.a4) := blk_cell HX0.out 7
  have hc8 : World.cell? _ ⟨w.heap.size, 8, none⟩ = some (.int .u64 d.a5) := blk_cell HX0.out 8
  go_wp2_with fail
  clear hc0 hc1 hc2 hc3 hc4 hc5 hc6 hc7 hc8
  refine (words_c d OK.out _).mono ?_
  rintro e w2 ⟨rfl, hB⟩
  replace HX0 := Aside0.mk ((hB.block _ (blk_lt HX0.out)).trans HX0.out)
  replace HX1 := Aside0.mk ((hB.block _ (blk_lt HX1.out)).trans HX1.out)
  replace HB := Aside0.mk (HB.out.trans (hB.mono HB.out.size))
  clear hB
  have hsz := blk_lt HX1.out
  go_upto_region 5 with (refine storeL66 rfl rfl (.tmp 10) (.tmp 25) rfl d.bytes _ rfl rfl (heap_alloc_new _ _) ?_; intro W5 hy hf hs hb; have HY0 := Aside0.mk hy; have n_HX0 : Aside0 (W5.heap[w.heap.size]? = some (.cells #[.int .u32 d.nr, .int .u32 d.ar, .int .u64 d.ip, .int .u64 d.a0, .int .u64 d.a1, .int .u64 d.a2, .int .u64 d.a3, .int .u64 d.a4, .int .u64 d.a5] 58 (0, 0))) := ⟨(hf _ (by omega)).trans (blk_alloc HX0.out _)⟩; have n_HX1 : Aside0 (W5.heap[w.heap.size + 1]? = some (.cells #[.int .u32 0, .int .u32 0, .int .u64 0, .int .u64 0, .int .u64 0, .int .u64 0, .int .u64 0, .int .u64 0, .int .u64 0] 58 (0, 0))) := ⟨(hf _ (by omega)).trans (blk_alloc HX1.out _)⟩; have n_HB : Aside0 (Below w.heap.size w W5) := ⟨(below_alloc HB.out _).trans (hb _ (by omega))⟩; have hsz5 : w2.heap.size < W5.heap.size := blk_lt hy; clear HX0 HX1 HB; have HX0 := n_HX0; have HX1 := n_HX1; have HB := n_HB; clear n_HX0 n_HX1 n_HB; clear hy hf hs hb)
  go_upto_region 6 with (first | (refine loadL66 26 rfl rfl (.tmp 10) rfl d.bytes w2.heap.size rfl HY0.out ?_) | (refine storeL66 rfl rfl (.tmp 11) (.tmp 26) rfl d.bytes _ rfl rfl (heap_alloc_new _ _) ?_; intro W6 hy hf hs hb; have HY1 := Aside0.mk hy; have n_HX0 : Aside0 (W6.heap[w.heap.size]? = some (.cells #[.int .u32 d.nr, .int .u32 d.ar, .int .u64 d.ip, .int .u64 d.a0, .int .u64 d.a1, .int .u64 d.a2, .int .u64 d.a3, .int .u64 d.a4, .int .u64 d.a5] 58 (0, 0))) := ⟨(hf _ (by omega)).trans (blk_alloc HX0.out _)⟩; have n_HX1 : Aside0 (W6.heap[w.heap.size + 1]? = some (.cells #[.int .u32 0, .int .u32 0, .int .u64 0, .int .u64 0, .int .u64 0, .int .u64 0, .int .u64 0, .int .u64 0, .int .u64 0] 58 (0, 0))) := ⟨(hf _ (by omega)).trans (blk_alloc HX1.out _)⟩; have n_HY0 : Aside0 (W6.heap[w2.heap.size]? = some (.cells #[.int .u32 (w4 d.bytes 0), .int .u32 (w4 d.bytes 4), .int .u32 (w4 d.bytes 8), .int .u32 (w4 d.bytes 12), .int .u32 (w4 d.bytes 16), .int .u32 (w4 d.bytes 20), .int .u32 (w4 d.bytes 24), .int .u32 (w4 d.bytes 28), .int .u32 (w4 d.bytes 32), .int .u32 (w4 d.bytes 36), .int .u32 (w4 d.bytes 40), .int .u32 (w4 d.bytes 44), .int .u32 (w4 d.bytes 48), .int .u32 (w4 d.bytes 52), .int .u32 (w4 d.bytes 56), .int .u32 (w4 d.bytes 60)] 66 (0, 0))) := ⟨(hf _ (by omega)).trans (blk_alloc HY0.out _)⟩; have n_HB : Aside0 (Below w.heap.size w W6) := ⟨(below_alloc HB.out _).trans (hb _ (by omega))⟩; clear HX0 HX1 HB HY0; have HX0 := n_HX0; have HX1 := n_HX1; have HB := n_HB; have HY0 := n_HY0; clear n_HX0 n_HX1 n_HB n_HY0; clear hy hf hs hb))
  obtain ⟨Y1, hY1⟩ : ∃ Y1, Y1 = W5.heap.size := ⟨_, rfl⟩
  rw [← hY1] at HY1 hsz5 ⊢
  clear hY1
  have HYw := Aside0.mk (show W6.heap[Y1]? = some (.cells (wl d.bytes 16).toArray 66 (0, 0)) by rw [wl_lit]; exact HY1.out)
  have hck : World.cell? _ ⟨Y1, i, none⟩ = some (.int .u32 (w4 d.bytes (4 * i))) := (blk_cell HYw.out i).trans (by simp only [List.getElem?_toArray]; rw [wl_at _ _ _ hi, if_pos hi])
  have hfk : World.frozen? _ ⟨Y1, i, none⟩ = false := blk_frozen HY1.out i
  go_upto_region 7 with fail
  have HY2 := Aside0.mk (blk_set HYw.out i (.int .u32 x))
  clear HYw
  replace HY2 := Aside0.mk (by have h := HY2.out; rw [List.setIfInBounds_toArray, HSET.out] at h; exact h)
  replace HX0 := Aside0.mk (blk_far HX0.out (p := ⟨Y1, i, none⟩) (by show _ ≠ Y1; omega) (.int .u32 x))
  replace HX1 := Aside0.mk (blk_far HX1.out (p := ⟨Y1, i, none⟩) (by show _ ≠ Y1; omega) (.int .u32 x))
  replace HY0 := Aside0.mk (blk_far HY0.out (p := ⟨Y1, i, none⟩) (by show _ ≠ Y1; omega) (.int .u32 x))
  replace HB := Aside0.mk (bset (b := Y1) (j := i) HB.out (by omega) (.int .u32 x))
  clear hck hfk HY1
  generalize World.setCell W6 _ _ = W7 at HX0 HX1 HY0 HY2 HB ⊢
  have HY3 := Aside0.mk (show W7.heap[Y1]? = some (.cells #[.int .u32 (w4 l2 0), .int .u32 (w4 l2 4), .int .u32 (w4 l2 8), .int .u32 (w4 l2 12), .int .u32 (w4 l2 16), .int .u32 (w4 l2 20), .int .u32 (w4 l2 24), .int .u32 (w4 l2 28), .int .u32 (w4 l2 32), .int .u32 (w4 l2 36), .int .u32 (w4 l2 40), .int .u32 (w4 l2 44), .int .u32 (w4 l2 48), .int .u32 (w4 l2 52), .int .u32 (w4 l2 56), .int .u32 (w4 l2 60)] 66 (0, 0)) by rw [← wl_lit]; exact HY2.out)
  clear HY2
  have heq := HEQ.out
  go_wp2_with (first | (refine loadL66 30 rfl rfl (.tmp 11) rfl l2 Y1 rfl HY3.out ?_) | (refine loadL66 31 rfl rfl (.tmp 10) rfl d.bytes w2.heap.size rfl HY0.out ?_) | (refine loadL66 34 rfl rfl (.tmp 11) rfl l2 Y1 rfl HY3.out ?_))
  clear heq HX0 HY0 HY3
  go_loopw [12, 35] (fun v12 v35 wr => ∃ (k : Nat) (A : Option Addr) (c : Nat), k ≤ 16 ∧ v35 = .int .i64 k ∧ v12 = .slice A (4 * k) c ∧ 4 * k ≤ c ∧ Aside0 (Kd.C (Kd.int .u8) wr A (4 * k) (wb l2 k)) ∧ Aside0 (wr.heap[w.heap.size + 1]? = some (.cells #[.int .u32 0, .int .u32 0, .int .u64 0, .int .u64 0, .int .u64 0, .int .u64 0, .int .u64 0, .int .u64 0, .int .u64 0] 58 (0, 0))) ∧ Aside0 (Below w.heap.size w wr)) (fun _ v35 _ => 16 - (intOf v35).toNat)
  case atStart => exact ⟨0, none, 0, by omega, rfl, rfl, by omega, ⟨Kd.C_nil _ _⟩, HX1, HB⟩
  case round =>
    clear HX1 HB
    obtain ⟨k, A, c, hk, rfl, rfl, hc, HC, HX1, HB⟩ := hrel
    by_cases hlt : k < 16
    · have hix := word_ix l2 k hlt
      go_wp2_with fail
      clear hix
      refine (put32_r A (4 * k) c (4 * (k + 1)) (wb l2 k) (w4 l2 (4 * k)) (w4_r HL2.out (4 * k) (by rw [HN2.out]; omega)) _ HC.out hc (by omega) (by omega)).mono ?_
      rintro e w' ⟨A', c', rfl, l', hC, hB⟩
      replace HX1 := Aside0.mk ((hB.block _ (blk_lt HX1.out)).trans HX1.out)
      replace HB := Aside0.mk (HB.out.trans (hB.mono HB.out.size))
      clear hB
      go_wp2
      go_roundw
      case rel => exact ⟨k + 1, A', c', by omega, by simp, rfl, l', ⟨hC⟩, HX1, HB⟩
      case measure => simp [intOf]; omega
    · obtain rfl : k = 16 := by omega
      have HC2 := Aside0.mk (show Kd.C (Kd.int .u8) wr A 64 l2 by have h := HC.out; rw [wb_take HL2.out HN2.out 16 (by omega), List.take_of_length_le (by rw [HN2.out]; omega)] at h; exact h)
      go_wp2_with fail
      refine (dec_ok A c l2 HL2.out _ HC2.out hc).mono ?_
      rintro e v8 ⟨rfl, hB⟩
      replace HX1 := Aside0.mk ((hB.block _ (blk_lt HX1.out)).trans HX1.out)
      replace HB := Aside0.mk (HB.out.trans (hB.mono HB.out.size))
      clear hB
      have hz0 : World.cell? _ ⟨w.heap.size + 1, 0, none⟩ = some (.int .u32 0) := blk_cell HX1.out 0
      have hzf0 : World.frozen? _ ⟨w.heap.size + 1, 0, none⟩ = false := blk_frozen HX1.out 0
      have hz1 : World.cell? _ ⟨w.heap.size + 1, 1, none⟩ = some (.int .u32 0) := blk_cell HX1.out 1
      have hzf1 : World.frozen? _ ⟨w.heap.size + 1, 1, none⟩ = false := blk_frozen HX1.out 1
      have hz2 : World.cell? _ ⟨w.heap.size + 1, 2, none⟩ = some (.int .u64 0) := blk_cell HX1.out 2
      have hzf2 : World.frozen? _ ⟨w.heap.size + 1, 2, none⟩ = false := blk_frozen HX1.out 2
      have hz3 : World.cell? _ ⟨w.heap.size + 1, 3, none⟩ = some (.int .u64 0) := blk_cell HX1.out 3
      have hzf3 : World.frozen? _ ⟨w.heap.size + 1, 3, none⟩ = false := blk_frozen HX1.out 3
      have hz4 : World.cell? _ ⟨w.heap.size + 1, 4, none⟩ = some (.int .u64 0) := blk_cell HX1.out 4
      have hzf4 : World.frozen? _ ⟨w.heap.size + 1, 4, none⟩ = false := blk_frozen HX1.out 4
      have hz5 : World.cell? _ ⟨w.heap.size + 1, 5, none⟩ = some (.int .u64 0) := blk_cell HX1.out 5
      have hzf5 : World.frozen? _ ⟨w.heap.size + 1, 5, none⟩ = false := blk_frozen HX1.out 5
      have hz6 : World.cell? _ ⟨w.heap.size + 1, 6, none⟩ = some (.int .u64 0) := blk_cell HX1.out 6
      have hzf6 : World.frozen? _ ⟨w.heap.size + 1, 6, none⟩ = false := blk_frozen HX1.out 6
      have hz7 : World.cell? _ ⟨w.heap.size + 1, 7, none⟩ = some (.int .u64 0) := blk_cell HX1.out 7
      have hzf7 : World.frozen? _ ⟨w.heap.size + 1, 7, none⟩ = false := blk_frozen HX1.out 7
      have hz8 : World.cell? _ ⟨w.heap.size + 1, 8, none⟩ = some (.int .u64 0) := blk_cell HX1.out 8
      have hzf8 : World.frozen? _ ⟨w.heap.size + 1, 8, none⟩ = false := blk_frozen HX1.out 8
      go_wp2
      refine bodyPost_ret (results_ct rfl _ _ (w.heap.size + 1) 58 #[.int .u32 (w4 l2 0), .int .u32 (w4 l2 4), .int .u64 (w8 l2 8), .int .u64 (w8 l2 16), .int .u64 (w8 l2 24), .int .u64 (w8 l2 32), .int .u64 (w8 l2 40), .int .u64 (w8 l2 48), .int .u64 (w8 l2 56)] (0, 0) _ rfl ?hb Try.underlying58 rfl (by kernel_rfl)) rfl ?_
      case hb =>
        have b0 := HX1.out
        have b1 := blk_set b0 0 (.int .u32 (w4 l2 0))
        have b2 := blk_set b1 1 (.int .u32 (w4 l2 4))
        have b3 := blk_set b2 2 (.int .u64 (w8 l2 8))
        have b4 := blk_set b3 3 (.int .u64 (w8 l2 16))
        have b5 := blk_set b4 4 (.int .u64 (w8 l2 24))
        have b6 := blk_set b5 5 (.int .u64 (w8 l2 32))
        have b7 := blk_set b6 6 (.int .u64 (w8 l2 40))
        have b8 := blk_set b7 7 (.int .u64 (w8 l2 48))
        have b9 := blk_set b8 8 (.int .u64 (w8 l2 56))
        simpa using b9
      refine ⟨rfl, ?_⟩
      repeat (first | (with_reducible exact HB.out) | (with_reducible refine bset ?_ (Nat.le_succ _) _))
end Go.Proofs.Ytpejeeemefmafaa.RD
