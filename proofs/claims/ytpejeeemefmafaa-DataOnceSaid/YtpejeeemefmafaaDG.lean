import Derived.Test.YtpejeeemefmafaaDF
import Derived.Test.YtpejeeemefmafaaOM0
namespace Go.Proofs.Ytpejeeemefmafaa.RD
open Go.RowKit Go.Proofs.YtpejeeemefmafaaW.PrintWords Go.Proofs.YtpejeeemefmafaaW.PrintLast Go.Proofs.YtpejeeemefmafaaW.PrintMore
open Go.Proofs.Ytpejeeemefmafaa.PE.L (below_drewN' below_drew')
open PH
set_option linter.unusedVariables false
set_option linter.unusedSimpArgs false
theorem num_bs4 {x : Int} (h : u32R x) : num (bs 4 x) = x := by rw [num_bs 4 x h.1]; exact Int.emod_eq_of_lt h.1 (by simpa using h.2)
theorem num_bs8 {x : Int} (h : u64R x) : num (bs 8 x) = x := by rw [num_bs 8 x h.1]; exact Int.emod_eq_of_lt h.1 (by simpa using h.2)
theorem back_nr (d : Dt) (ok : d.Ok) : w4 d.bytes 0 = d.nr := by
  have h : (d.bytes.drop 0).take 4 = bs 4 d.nr := by rfl
  unfold w4
  rw [h, num_bs4 ok.hnr]
theorem back_ar (d : Dt) (ok : d.Ok) : w4 d.bytes 4 = d.ar := by
  have h : (d.bytes.drop 4).take 4 = bs 4 d.ar := by rfl
  unfold w4
  rw [h, num_bs4 ok.har]
theorem back_ip (d : Dt) (ok : d.Ok) : w8 d.bytes 8 = d.ip := by
  have h : (d.bytes.drop 8).take 8 = bs 8 d.ip := by rfl
  unfold w8
  rw [h, num_bs8 ok.hip]
theorem back_a0 (d : Dt) (ok : d.Ok) : w8 d.bytes 16 = d.a0 := by
  have h : (d.bytes.drop 16).take 8 = bs 8 d.a0 := by rfl
  unfold w8
  rw [h, num_bs8 ok.ha0]
theorem back_a1 (d : Dt) (ok : d.Ok) : w8 d.bytes 24 = d.a1 := by
  have h : (d.bytes.drop 24).take 8 = bs 8 d.a1 := by rfl
  unfold w8
  rw [h, num_bs8 ok.ha1]
theorem back_a2 (d : Dt) (ok : d.Ok) : w8 d.bytes 32 = d.a2 := by
  have h : (d.bytes.drop 32).take 8 = bs 8 d.a2 := by rfl
  unfold w8
  rw [h, num_bs8 ok.ha2]
theorem back_a3 (d : Dt) (ok : d.Ok) : w8 d.bytes 40 = d.a3 := by
  have h : (d.bytes.drop 40).take 8 = bs 8 d.a3 := by rfl
  unfold w8
  rw [h, num_bs8 ok.ha3]
theorem back_a4 (d : Dt) (ok : d.Ok) : w8 d.bytes 48 = d.a4 := by
  have h : (d.bytes.drop 48).take 8 = bs 8 d.a4 := by rfl
  unfold w8
  rw [h, num_bs8 ok.ha4]
theorem back_a5 (d : Dt) (ok : d.Ok) : w8 d.bytes 56 = d.a5 := by
  have h : (d.bytes.drop 56).take 8 = bs 8 d.a5 := by rfl
  unfold w8
  rw [h, num_bs8 ok.ha5]
theorem ofB_ok {l : List Int} (hl : Bytes l) (hn : l.length = 64) : (ofB l).Ok := ⟨w4_r hl 0 (by omega), w4_r hl 4 (by omega), w8_r hl 8 (by omega), w8_r hl 16 (by omega), w8_r hl 24 (by omega), w8_r hl 32 (by omega), w8_r hl 40 (by omega), w8_r hl 48 (by omega), w8_r hl 56 (by omega)⟩
theorem bs_w4 {l : List Int} (hl : Bytes l) (i : Nat) (h : i + 4 ≤ l.length) : bs 4 (w4 l i) = (l.drop i).take 4 := by
  have e := bs_num ((l.drop i).take 4) ((hl.drop i).take 4)
  rw [take_len l i 4 h] at e
  exact e
theorem bs_w8 {l : List Int} (hl : Bytes l) (i : Nat) (h : i + 8 ≤ l.length) : bs 8 (w8 l i) = (l.drop i).take 8 := by
  have e := bs_num ((l.drop i).take 8) ((hl.drop i).take 8)
  rw [take_len l i 8 h] at e
  exact e
theorem ofB_bytes {l : List Int} (hl : Bytes l) (hn : l.length = 64) : (ofB l).bytes = l := by
  simp only [Dt.bytes, Dt.pre, ofB]
  rw [bs_w4 hl 0 (by omega), bs_w4 hl 4 (by omega), bs_w8 hl 8 (by omega), bs_w8 hl 16 (by omega), bs_w8 hl 24 (by omega), bs_w8 hl 32 (by omega), bs_w8 hl 40 (by omega), bs_w8 hl 48 (by omega), bs_w8 hl 56 (by omega)]
  rw [List.drop_zero, take_more l 4 4 (by omega), take_more l 8 8 (by omega), take_more l 16 8 (by omega), take_more l 24 8 (by omega), take_more l 32 8 (by omega), take_more l 40 8 (by omega), take_more l 48 8 (by omega), take_more l 56 8 (by omega)]
  exact List.take_of_length_le (by omega)
set_option maxHeartbeats 4000000 in
set_option maxRecDepth 100000 in
theorem back_law (d : Dt) (ok : d.Ok) (A0 : Option Addr) (c0 : Nat) (l : List Int) (w : World) (hr : Kd.C (Kd.int .u8) w A0 l.length l) (hq0 : l.length ≤ c0) (hl : Bytes l) : Calls Try.prog 11 #[.agg #[.int .u32 d.nr, .int .u32 d.ar, .int .u64 d.ip, .int .u64 d.a0, .int .u64 d.a1, .int .u64 d.a2, .int .u64 d.a3, .int .u64 d.a4, .int .u64 d.a5], .slice A0 l.length c0] w fun e w' => e = .returned (.bool true) ∧ Below w.heap.size w w' := by
  have OK := Aside0.mk ok
  have HL := Aside0.mk hl
  have HR := Aside0.mk hr
  clear ok hl hr
  by_cases hb : 1000 < l.length
  · skip
    have t1 : decide (1000 < (l.length : Int)) = true := decide_eq_true (by omega)
    have t2 : decide (1000 < l.length) = true := decide_eq_true (by omega)
    go_enter Try.func11, Try.ntmps11
    have HX := Aside0.mk (heap_alloc_new w (.cells #[.int .u32 d.nr, .int .u32 d.ar, .int .u64 d.ip, .int .u64 d.a0, .int .u64 d.a1, .int .u64 d.a2, .int .u64 d.a3, .int .u64 d.a4, .int .u64 d.a5] 58))
    have HB := Aside0.mk (below_alloc (Below.refl w.heap.size w) (.cells #[.int .u32 d.nr, .int .u32 d.ar, .int .u64 d.ip, .int .u64 d.a0, .int .u64 d.a1, .int .u64 d.a2, .int .u64 d.a3, .int .u64 d.a4, .int .u64 d.a5] 58))
    go_wp2_with fail
    refine (wakes3_w _).mono ?_
    rintro e w1 ⟨rfl, hB⟩
    replace HX := Aside0.mk ((hB.block _ (blk_lt HX.out)).trans HX.out)
    replace HB := Aside0.mk (HB.out.trans (hB.mono HB.out.size))
    clear hB
    go_wp2
    go_ret
    exact ⟨rfl, HB.out⟩
  have t1 : decide (1000 < (l.length : Int)) = false := decide_eq_false (by omega)
  have t2 : decide (1000 < l.length) = false := decide_eq_false (by omega)
  go_enter Try.func11, Try.ntmps11
  have HX := Aside0.mk (heap_alloc_new w (.cells #[.int .u32 d.nr, .int .u32 d.ar, .int .u64 d.ip, .int .u64 d.a0, .int .u64 d.a1, .int .u64 d.a2, .int .u64 d.a3, .int .u64 d.a4, .int .u64 d.a5] 58))
  have HB := Aside0.mk (below_alloc (Below.refl w.heap.size w) (.cells #[.int .u32 d.nr, .int .u32 d.ar, .int .u64 d.ip, .int .u64 d.a0, .int .u64 d.a1, .int .u64 d.a2, .int .u64 d.a3, .int .u64 d.a4, .int .u64 d.a5] 58))
  go_wp2_with fail
  refine (wakes3_w _).mono ?_
  rintro e w1 ⟨rfl, hB⟩
  replace HX := Aside0.mk ((hB.block _ (blk_lt HX.out)).trans HX.out)
  replace HB := Aside0.mk (HB.out.trans (hB.mono HB.out.size))
  clear hB
  have hc0 : World.cell? _ ⟨w.heap.size, 0, none⟩ = some (.int .u32 d.nr) := blk_cell HX.out 0
  have hc1 : World.cell? _ ⟨w.heap.size, 1, none⟩ = some (.int .u32 d.ar) := blk_cell HX.out 1
  have hc2 : World.cell? _ ⟨w.heap.size, 2, none⟩ = some (.int .u64 d.ip) := blk_cell HX.out 2
  have hc3 : World.cell? _ ⟨w.heap.size, 3, none⟩ = some (.int .u64 d.a0) := blk_cell HX.out 3
  have hc4 : World.cell? _ ⟨w.heap.size, 4, none⟩ = some (.int .u64 d.a1) := blk_cell HX.out 4
  have hc5 : World.cell? _ ⟨w.heap.size, 5, none⟩ = some (.int .u64 d.a2) := blk_cell HX.out 5
  have hc6 : World.cell? _ ⟨w.heap.size, 6, none⟩ = some (.int .u64 d.a3) := blk_cell HX.out 6
  have hc7 : World.cell? _ ⟨w.heap.size, 7, none⟩ = some (.int .u64 d.a4) := blk_cell HX.out 7
  have hc8 : World.cell? _ ⟨w.heap.size, 8, none⟩ = some (.int .u64 d.a5) := blk_cell HX.out 8
  go_wp2_with fail
  clear hc0 hc1 hc2 hc3 hc4 hc5 hc6 hc7 hc8
  refine (enc_c d OK.out _).mono ?_
  rintro e w2 ⟨A, c, rfl, hc, hC, hB⟩
  have HC := Aside0.mk hC
  clear hC
  replace HX := Aside0.mk ((hB.block _ (blk_lt HX.out)).trans HX.out)
  replace HB := Aside0.mk (HB.out.trans (hB.mono HB.out.size))
  clear hB
  go_wp2_with fail
  have hdec := dec_ok A c d.bytes (bytes_b d) _ HC.out hc
  rw [back_nr d OK.out, back_ar d OK.out, back_ip d OK.out, back_a0 d OK.out, back_a1 d OK.out, back_a2 d OK.out, back_a3 d OK.out, back_a4 d OK.out, back_a5 d OK.out] at hdec
  refine hdec.mono ?_
  clear hdec
  rintro e w3 ⟨rfl, hB⟩
  clear HC
  replace HX := Aside0.mk ((hB.block _ (blk_lt HX.out)).trans HX.out)
  replace HB := Aside0.mk (HB.out.trans (hB.mono HB.out.size))
  clear hB
  skip
  have HY := Aside0.mk (heap_alloc_new w3 (.cells #[.int .u32 d.nr, .int .u32 d.ar, .int .u64 d.ip, .int .u64 d.a0, .int .u64 d.a1, .int .u64 d.a2, .int .u64 d.a3, .int .u64 d.a4, .int .u64 d.a5] 58))
  replace HX := Aside0.mk (blk_alloc HX.out (.cells #[.int .u32 d.nr, .int .u32 d.ar, .int .u64 d.ip, .int .u64 d.a0, .int .u64 d.a1, .int .u64 d.a2, .int .u64 d.a3, .int .u64 d.a4, .int .u64 d.a5] 58))
  replace HB := Aside0.mk (below_alloc HB.out (.cells #[.int .u32 d.nr, .int .u32 d.ar, .int .u64 d.ip, .int .u64 d.a0, .int .u64 d.a1, .int .u64 d.a2, .int .u64 d.a3, .int .u64 d.a4, .int .u64 d.a5] 58))
  have hc0 : World.cell? _ ⟨w.heap.size, 0, none⟩ = some (.int .u32 d.nr) := blk_cell HX.out 0
  have hc1 : World.cell? _ ⟨w.heap.size, 1, none⟩ = some (.int .u32 d.ar) := blk_cell HX.out 1
  have hc2 : World.cell? _ ⟨w.heap.size, 2, none⟩ = some (.int .u64 d.ip) := blk_cell HX.out 2
  have hc3 : World.cell? _ ⟨w.heap.size, 3, none⟩ = some (.int .u64 d.a0) := blk_cell HX.out 3
  have hc4 : World.cell? _ ⟨w.heap.size, 4, none⟩ = some (.int .u64 d.a1) := blk_cell HX.out 4
  have hc5 : World.cell? _ ⟨w.heap.size, 5, none⟩ = some (.int .u64 d.a2) := blk_cell HX.out 5
  have hc6 : World.cell? _ ⟨w.heap.size, 6, none⟩ = some (.int .u64 d.a3) := blk_cell HX.out 6
  have hc7 : World.cell? _ ⟨w.heap.size, 7, none⟩ = some (.int .u64 d.a4) := blk_cell HX.out 7
  have hc8 : World.cell? _ ⟨w.heap.size, 8, none⟩ = some (.int .u64 d.a5) := blk_cell HX.out 8
  have hd0 : World.cell? _ ⟨w3.heap.size, 0, none⟩ = some (.int .u32 d.nr) := blk_cell HY.out 0
  have hd1 : World.cell? _ ⟨w3.heap.size, 1, none⟩ = some (.int .u32 d.ar) := blk_cell HY.out 1
  have hd2 : World.cell? _ ⟨w3.heap.size, 2, none⟩ = some (.int .u64 d.ip) := blk_cell HY.out 2
  have hd3 : World.cell? _ ⟨w3.heap.size, 3, none⟩ = some (.int .u64 d.a0) := blk_cell HY.out 3
  have hd4 : World.cell? _ ⟨w3.heap.size, 4, none⟩ = some (.int .u64 d.a1) := blk_cell HY.out 4
  have hd5 : World.cell? _ ⟨w3.heap.size, 5, none⟩ = some (.int .u64 d.a2) := blk_cell HY.out 5
  have hd6 : World.cell? _ ⟨w3.heap.size, 6, none⟩ = some (.int .u64 d.a3) := blk_cell HY.out 6
  have hd7 : World.cell? _ ⟨w3.heap.size, 7, none⟩ = some (.int .u64 d.a4) := blk_cell HY.out 7
  have hd8 : World.cell? _ ⟨w3.heap.size, 8, none⟩ = some (.int .u64 d.a5) := blk_cell HY.out 8
  have heq : ∀ W : World, (Op.equalIn 10000 58 (.agg #[.int .u32 d.nr, .int .u32 d.ar, .int .u64 d.ip, .int .u64 d.a0, .int .u64 d.a1, .int .u64 d.a2, .int .u64 d.a3, .int .u64 d.a4, .int .u64 d.a5]) (.agg #[.int .u32 d.nr, .int .u32 d.ar, .int .u64 d.ip, .int .u64 d.a0, .int .u64 d.a1, .int .u64 d.a2, .int .u64 d.a3, .int .u64 d.a4, .int .u64 d.a5])).run Try.prog W = .ok true W := fun W => by rw [eq58 W _ _ _ _ _ _ _ _ _ _ _ _ _ _ _ _ _ _ 9997]; simp
  go_wp2_with fail
  clear heq
  clear hc0 hc1 hc2 hc3 hc4 hc5 hc6 hc7 hc8
  clear hd0 hd1 hd2 hd3 hd4 hd5 hd6 hd7 hd8
  rcases Nat.lt_trichotomy l.length 64 with hn | hn | hn
  · skip
    refine (dec_short A0 l.length c0 hn _).mono ?_
    rintro e u4 ⟨rfl, hB⟩
    replace HB := Aside0.mk (HB.out.trans (hB.mono HB.out.size))
    clear hB
    have HZ := Aside0.mk (heap_alloc_new u4 (.cells #[.int .u32 0, .int .u32 0, .int .u64 0, .int .u64 0, .int .u64 0, .int .u64 0, .int .u64 0, .int .u64 0, .int .u64 0] 58))
    replace HB := Aside0.mk (below_alloc HB.out (.cells #[.int .u32 0, .int .u32 0, .int .u64 0, .int .u64 0, .int .u64 0, .int .u64 0, .int .u64 0, .int .u64 0, .int .u64 0] 58))
    have hc0 : World.cell? _ ⟨u4.heap.size, 0, none⟩ = some (.int .u32 0) := blk_cell HZ.out 0
    have hc1 : World.cell? _ ⟨u4.heap.size, 1, none⟩ = some (.int .u32 0) := blk_cell HZ.out 1
    have hc2 : World.cell? _ ⟨u4.heap.size, 2, none⟩ = some (.int .u64 0) := blk_cell HZ.out 2
    have hc3 : World.cell? _ ⟨u4.heap.size, 3, none⟩ = some (.int .u64 0) := blk_cell HZ.out 3
    have hc4 : World.cell? _ ⟨u4.heap.size, 4, none⟩ = some (.int .u64 0) := blk_cell HZ.out 4
    have hc5 : World.cell? _ ⟨u4.heap.size, 5, none⟩ = some (.int .u64 0) := blk_cell HZ.out 5
    have hc6 : World.cell? _ ⟨u4.heap.size, 6, none⟩ = some (.int .u64 0) := blk_cell HZ.out 6
    have hc7 : World.cell? _ ⟨u4.heap.size, 7, none⟩ = some (.int .u64 0) := blk_cell HZ.out 7
    have hc8 : World.cell? _ ⟨u4.heap.size, 8, none⟩ = some (.int .u64 0) := blk_cell HZ.out 8
    have n1 : ((l.length : Int) == 64) = false := by simp; omega
    have n2 : ((l.length : Int) != 64) = true := by simp; omega
    have n3 : (l.length == 64) = false := by simp; omega
    have n4 : (l.length != 64) = true := by simp; omega
    have heq : ∀ W : World, (Op.equalIn 10000 58 (.agg #[.int .u32 0, .int .u32 0, .int .u64 0, .int .u64 0, .int .u64 0, .int .u64 0, .int .u64 0, .int .u64 0, .int .u64 0]) (.agg #[.int .u32 0, .int .u32 0, .int .u64 0, .int .u64 0, .int .u64 0, .int .u64 0, .int .u64 0, .int .u64 0, .int .u64 0])).run Try.prog W = .ok true W := fun W => by rw [eq58 W _ _ _ _ _ _ _ _ _ _ _ _ _ _ _ _ _ _ 9997]; simp
    go_wp2
    go_ret
    exact ⟨rfl, HB.out⟩
  · skip
    have hR := Aside0.mk (show Kd.C (Kd.int .u8) w A0 64 l by rw [← hn]; exact HR.out)
    skip
    refine (show Calls Try.prog 36 #[.slice A0 l.length c0] _ _ from hn ▸ dec_ok A0 c0 l HL.out _ (Kd.C_below hR.out HB.out) (by omega)).mono ?_
    rintro e u4 ⟨rfl, hB⟩
    replace HB := Aside0.mk (HB.out.trans (hB.mono HB.out.size))
    clear hB
    have HZ := Aside0.mk (heap_alloc_new u4 (.cells #[.int .u32 (w4 l 0), .int .u32 (w4 l 4), .int .u64 (w8 l 8), .int .u64 (w8 l 16), .int .u64 (w8 l 24), .int .u64 (w8 l 32), .int .u64 (w8 l 40), .int .u64 (w8 l 48), .int .u64 (w8 l 56)] 58))
    replace HB := Aside0.mk (below_alloc HB.out (.cells #[.int .u32 (w4 l 0), .int .u32 (w4 l 4), .int .u64 (w8 l 8), .int .u64 (w8 l 16), .int .u64 (w8 l 24), .int .u64 (w8 l 32), .int .u64 (w8 l 40), .int .u64 (w8 l 48), .int .u64 (w8 l 56)] 58))
    have hc0 : World.cell? _ ⟨u4.heap.size, 0, none⟩ = some (.int .u32 (w4 l 0)) := blk_cell HZ.out 0
    have hc1 : World.cell? _ ⟨u4.heap.size, 1, none⟩ = some (.int .u32 (w4 l 4)) := blk_cell HZ.out 1
    have hc2 : World.cell? _ ⟨u4.heap.size, 2, none⟩ = some (.int .u64 (w8 l 8)) := blk_cell HZ.out 2
    have hc3 : World.cell? _ ⟨u4.heap.size, 3, none⟩ = some (.int .u64 (w8 l 16)) := blk_cell HZ.out 3
    have hc4 : World.cell? _ ⟨u4.heap.size, 4, none⟩ = some (.int .u64 (w8 l 24)) := blk_cell HZ.out 4
    have hc5 : World.cell? _ ⟨u4.heap.size, 5, none⟩ = some (.int .u64 (w8 l 32)) := blk_cell HZ.out 5
    have hc6 : World.cell? _ ⟨u4.heap.size, 6, none⟩ = some (.int .u64 (w8 l 40)) := blk_cell HZ.out 6
    have hc7 : World.cell? _ ⟨u4.heap.size, 7, none⟩ = some (.int .u64 (w8 l 48)) := blk_cell HZ.out 7
    have hc8 : World.cell? _ ⟨u4.heap.size, 8, none⟩ = some (.int .u64 (w8 l 56)) := blk_cell HZ.out 8
    have HN := Aside0.mk hn
    clear hn
    go_wp2_with fail
    refine (enc_c (ofB l) (ofB_ok HL.out HN.out) _).mono ?_
    rintro e w5 ⟨A5, c5, rfl, hc5, hC, hB⟩
    rw [ofB_bytes HL.out HN.out] at hC
    have HC := Aside0.mk hC
    clear hC
    replace HB := Aside0.mk (HB.out.trans (hB.mono HB.out.size))
    clear hB
    go_wp2_with fail
    refine (show Calls Try.prog 22 #[.slice A5 64 c5, .slice A0 l.length c0] _ _ from eq_c A5 A0 64 l.length c5 c0 l l _ HC.out hc5 (Kd.C_below HR.out HB.out) hq0 HL.out HL.out rfl).mono ?_
    rintro e w6 ⟨rfl, hD⟩
    replace HB := Aside0.mk (HB.out.trans (hD.below.mono HB.out.size))
    go_wp2
    go_ret
    exact ⟨rfl, HB.out⟩
  · skip
    refine (dec_long A0 l.length c0 hn _).mono ?_
    rintro e u4 ⟨rfl, hB⟩
    replace HB := Aside0.mk (HB.out.trans (hB.mono HB.out.size))
    clear hB
    have HZ := Aside0.mk (heap_alloc_new u4 (.cells #[.int .u32 0, .int .u32 0, .int .u64 0, .int .u64 0, .int .u64 0, .int .u64 0, .int .u64 0, .int .u64 0, .int .u64 0] 58))
    replace HB := Aside0.mk (below_alloc HB.out (.cells #[.int .u32 0, .int .u32 0, .int .u64 0, .int .u64 0, .int .u64 0, .int .u64 0, .int .u64 0, .int .u64 0, .int .u64 0] 58))
    have hc0 : World.cell? _ ⟨u4.heap.size, 0, none⟩ = some (.int .u32 0) := blk_cell HZ.out 0
    have hc1 : World.cell? _ ⟨u4.heap.size, 1, none⟩ = some (.int .u32 0) := blk_cell HZ.out 1
    have hc2 : World.cell? _ ⟨u4.heap.size, 2, none⟩ = some (.int .u64 0) := blk_cell HZ.out 2
    have hc3 : World.cell? _ ⟨u4.heap.size, 3, none⟩ = some (.int .u64 0) := blk_cell HZ.out 3
    have hc4 : World.cell? _ ⟨u4.heap.size, 4, none⟩ = some (.int .u64 0) := blk_cell HZ.out 4
    have hc5 : World.cell? _ ⟨u4.heap.size, 5, none⟩ = some (.int .u64 0) := blk_cell HZ.out 5
    have hc6 : World.cell? _ ⟨u4.heap.size, 6, none⟩ = some (.int .u64 0) := blk_cell HZ.out 6
    have hc7 : World.cell? _ ⟨u4.heap.size, 7, none⟩ = some (.int .u64 0) := blk_cell HZ.out 7
    have hc8 : World.cell? _ ⟨u4.heap.size, 8, none⟩ = some (.int .u64 0) := blk_cell HZ.out 8
    have n1 : ((l.length : Int) == 64) = false := by simp; omega
    have n2 : ((l.length : Int) != 64) = true := by simp; omega
    have n3 : (l.length == 64) = false := by simp; omega
    have n4 : (l.length != 64) = true := by simp; omega
    have heq : ∀ W : World, (Op.equalIn 10000 58 (.agg #[.int .u32 0, .int .u32 0, .int .u64 0, .int .u64 0, .int .u64 0, .int .u64 0, .int .u64 0, .int .u64 0, .int .u64 0]) (.agg #[.int .u32 0, .int .u32 0, .int .u64 0, .int .u64 0, .int .u64 0, .int .u64 0, .int .u64 0, .int .u64 0, .int .u64 0])).run Try.prog W = .ok true W := fun W => by rw [eq58 W _ _ _ _ _ _ _ _ _ _ _ _ _ _ _ _ _ _ 9997]; simp
    go_wp2
    go_ret
    exact ⟨rfl, HB.out⟩
end Go.Proofs.Ytpejeeemefmafaa.RD
