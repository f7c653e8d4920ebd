import Derived.Test.YtpejeeemefmafaaDJc
import Derived.Test.YtpejeeemefmafaaDK
namespace Go.Proofs.Ytpejeeemefmafaa.RD
open Go.RowKit Go.Proofs.YtpejeeemefmafaaW.PrintWords Go.Proofs.YtpejeeemefmafaaW.PrintLast Go.Proofs.YtpejeeemefmafaaW.PrintMore
open Go.Proofs.Ytpejeeemefmafaa.PE.L (below_drewN' below_drew')
open PH
set_option linter.unusedVariables false
set_option linter.unusedSimpArgs false
set_option maxHeartbeats 4000000 in
set_option maxRecDepth 100000 in
theorem words_law (d : Dt) (ok : d.Ok) (off : Int) (ho : u32R off) (x : Int) (hx : u32R x) (w : World) : Calls Try.prog 12 #[.agg #[.int .u32 d.nr, .int .u32 d.ar, .int .u64 d.ip, .int .u64 d.a0, .int .u64 d.a1, .int .u64 d.a2, .int .u64 d.a3, .int .u64 d.a4, .int .u64 d.a5], .int .u32 off, .int .u32 x] w fun e w' => e = .returned (.bool true) ∧ Below w.heap.size w w' := by
  have OK := Aside0.mk ok
  clear ok
  by_cases hg : off % 4 = 0 ∧ off ≤ 60
  · skip
    have ho0 := ho.1
    obtain ⟨i, rfl⟩ : ∃ i : Nat, off = 4 * (i : Int) := ⟨(off / 4).toNat, by omega⟩
    have hi : i < 16 := by omega
    have k1 := Aside0.mk (fun W => word_ok d OK.out (4 * (i : Int)) ho hg W)
    rw [show ((4 * (i : Int)) / 4).toNat = i by omega] at k1
    have k2 := Aside0.mk (fun W => rword_ok d OK.out (4 * i) (by have := ho; rw [show ((4 * i : Nat) : Int) = 4 * (i : Int) by omega]; exact this) (by omega) W)
    rw [show ((4 * i : Nat) : Int) = 4 * (i : Int) by omega] at k2
    have k3 := Aside0.mk (fun W => with_ok d OK.out i hi x hx W)
    have k4 := Aside0.mk (fun W => rwith_ok d OK.out (4 * i) (by have := ho; rw [show ((4 * i : Nat) : Int) = 4 * (i : Int) by omega]; exact this) (by omega) x hx W)
    rw [show ((4 * i : Nat) : Int) = 4 * (i : Int) by omega] at k4
    clear ho hg hx ho0
    go_enter Try.func12, Try.ntmps12
    have HX := Aside0.mk (heap_alloc_new w (.cells #[.int .u32 d.nr, .int .u32 d.ar, .int .u64 d.ip, .int .u64 d.a0, .int .u64 d.a1, .int .u64 d.a2, .int .u64 d.a3, .int .u64 d.a4, .int .u64 d.a5] 58))
    have HB := Aside0.mk (below_alloc (Below.refl w.heap.size w) (.cells #[.int .u32 d.nr, .int .u32 d.ar, .int .u64 d.ip, .int .u64 d.a0, .int .u64 d.a1, .int .u64 d.a2, .int .u64 d.a3, .int .u64 d.a4, .int .u64 d.a5] 58))
    go_wp2_with fail
    refine (wakes3_w _).mono ?_
    rintro e w1 ⟨rfl, hB⟩
    replace HX := Aside0.mk ((hB.block _ (blk_lt HX.out)).trans HX.out)
    replace HB := Aside0.mk (HB.out.trans (hB.mono HB.out.size))
    clear hB
    have hc0 : World.cell? _ ⟨w.heap.size, 0, none⟩ = some (.int .u32 d.nr) := blk_cell HX.out 0
    have hc1 : World.cell? _ ⟨w.heap.size, 1, none⟩ = some (.int .u32 d.ar) := blk_cell HX.out 1
    have hc2 : World.cell? _ ⟨w.heap.size, 2, none⟩ = some (.int .u64 d.ip) := blk_cell HX.out 2
    have hc3 : World.cell? _ ⟨w.heap.size, 3, none⟩ = some (.int .u64 d.a0) := blk_cell HX.out 3
    have hc4 : World.cell? _ ⟨w.heap.size, 4, none⟩ = some (.int .u64 d.a1) := blk_cell HX.out 4
    have hc5 : World.cell? _ ⟨w.heap.size, 5, none⟩ = some (.int .u64 d.a2) := blk_cell HX.out 5
    have hc6 : World.cell? _ ⟨w.heap.size, 6, none⟩ = some (.int .u64 d.a3) := blk_cell HX.out 6
    have hc7 : World.cell? _ ⟨w.heap.size, 7, none⟩ = some (.int .u64 d.a4) := blk_cell HX.out 7
    have hc8 : World.cell? _ ⟨w.heap.size, 8, none⟩ = some (.int .u64 d.a5) := blk_cell HX.out 8
    go_wp2_with fail
    clear hc0 hc1 hc2 hc3 hc4 hc5 hc6 hc7 hc8
    refine (k1.out _).mono ?_
    rintro e v1 ⟨rfl, hB⟩
    replace HX := Aside0.mk ((hB.block _ (blk_lt HX.out)).trans HX.out)
    replace HB := Aside0.mk (HB.out.trans (hB.mono HB.out.size))
    clear hB
    have hc0 : World.cell? _ ⟨w.heap.size, 0, none⟩ = some (.int .u32 d.nr) := blk_cell HX.out 0
    have hc1 : World.cell? _ ⟨w.heap.size, 1, none⟩ = some (.int .u32 d.ar) := blk_cell HX.out 1
    have hc2 : World.cell? _ ⟨w.heap.size, 2, none⟩ = some (.int .u64 d.ip) := blk_cell HX.out 2
    have hc3 : World.cell? _ ⟨w.heap.size, 3, none⟩ = some (.int .u64 d.a0) := blk_cell HX.out 3
    have hc4 : World.cell? _ ⟨w.heap.size, 4, none⟩ = some (.int .u64 d.a1) := blk_cell HX.out 4
    have hc5 : World.cell? _ ⟨w.heap.size, 5, none⟩ = some (.int .u64 d.a2) := blk_cell HX.out 5
    have hc6 : World.cell? _ ⟨w.heap.size, 6, none⟩ = some (.int .u64 d.a3) := blk_cell HX.out 6
    have hc7 : World.cell? _ ⟨w.heap.size, 7, none⟩ = some (.int .u64 d.a4) := blk_cell HX.out 7
    have hc8 : World.cell? _ ⟨w.heap.size, 8, none⟩ = some (.int .u64 d.a5) := blk_cell HX.out 8
    go_wp2_with fail
    clear hc0 hc1 hc2 hc3 hc4 hc5 hc6 hc7 hc8
    refine (k2.out _).mono ?_
    rintro e v2 ⟨rfl, hB⟩
    replace HX := Aside0.mk ((hB.block _ (blk_lt HX.out)).trans HX.out)
    replace HB := Aside0.mk (HB.out.trans (hB.mono HB.out.size))
    clear hB
    have hc0 : World.cell? _ ⟨w.heap.size, 0, none⟩ = some (.int .u32 d.nr) := blk_cell HX.out 0
    have hc1 : World.cell? _ ⟨w.heap.size, 1, none⟩ = some (.int .u32 d.ar) := blk_cell HX.out 1
    have hc2 : World.cell? _ ⟨w.heap.size, 2, none⟩ = some (.int .u64 d.ip) := blk_cell HX.out 2
    have hc3 : World.cell? _ ⟨w.heap.size, 3, none⟩ = some (.int .u64 d.a0) := blk_cell HX.out 3
    have hc4 : World.cell? _ ⟨w.heap.size, 4, none⟩ = some (.int .u64 d.a1) := blk_cell HX.out 4
    have hc5 : World.cell? _ ⟨w.heap.size, 5, none⟩ = some (.int .u64 d.a2) := blk_cell HX.out 5
    have hc6 : World.cell? _ ⟨w.heap.size, 6, none⟩ = some (.int .u64 d.a3) := blk_cell HX.out 6
    have hc7 : World.cell? _ ⟨w.heap.size, 7, none⟩ = some (.int .u64 d.a4) := blk_cell HX.out 7
    have hc8 : World.cell? _ ⟨w.heap.size, 8, none⟩ = some (.int .u64 d.a5) := blk_cell HX.out 8
    go_wp2_with fail
    clear hc0 hc1 hc2 hc3 hc4 hc5 hc6 hc7 hc8
    refine (k3.out _).mono ?_
    rintro e v3 ⟨rfl, hB⟩
    replace HX := Aside0.mk ((hB.block _ (blk_lt HX.out)).trans HX.out)
    replace HB := Aside0.mk (HB.out.trans (hB.mono HB.out.size))
    clear hB
    have HY := Aside0.mk (heap_alloc_new v3 (.cells #[.int .u32 (w4 (put4 d.bytes (4 * i) x) 0), .int .u32 (w4 (put4 d.bytes (4 * i) x) 4), .int .u64 (w8 (put4 d.bytes (4 * i) x) 8), .int .u64 (w8 (put4 d.bytes (4 * i) x) 16), .int .u64 (w8 (put4 d.bytes (4 * i) x) 24), .int .u64 (w8 (put4 d.bytes (4 * i) x) 32), .int .u64 (w8 (put4 d.bytes (4 * i) x) 40), .int .u64 (w8 (put4 d.bytes (4 * i) x) 48), .int .u64 (w8 (put4 d.bytes (4 * i) x) 56)] 58))
    replace HX := Aside0.mk (blk_alloc HX.out (.cells #[.int .u32 (w4 (put4 d.bytes (4 * i) x) 0), .int .u32 (w4 (put4 d.bytes (4 * i) x) 4), .int .u64 (w8 (put4 d.bytes (4 * i) x) 8), .int .u64 (w8 (put4 d.bytes (4 * i) x) 16), .int .u64 (w8 (put4 d.bytes (4 * i) x) 24), .int .u64 (w8 (put4 d.bytes (4 * i) x) 32), .int .u64 (w8 (put4 d.bytes (4 * i) x) 40), .int .u64 (w8 (put4 d.bytes (4 * i) x) 48), .int .u64 (w8 (put4 d.bytes (4 * i) x) 56)] 58))
    replace HB := Aside0.mk (below_alloc HB.out (.cells #[.int .u32 (w4 (put4 d.bytes (4 * i) x) 0), .int .u32 (w4 (put4 d.bytes (4 * i) x) 4), .int .u64 (w8 (put4 d.bytes (4 * i) x) 8), .int .u64 (w8 (put4 d.bytes (4 * i) x) 16), .int .u64 (w8 (put4 d.bytes (4 * i) x) 24), .int .u64 (w8 (put4 d.bytes (4 * i) x) 32), .int .u64 (w8 (put4 d.bytes (4 * i) x) 40), .int .u64 (w8 (put4 d.bytes (4 * i) x) 48), .int .u64 (w8 (put4 d.bytes (4 * i) x) 56)] 58))
    have hc0 : World.cell? _ ⟨w.heap.size, 0, none⟩ = some (.int .u32 d.nr) := blk_cell HX.out 0
    have hc1 : World.cell? _ ⟨w.heap.size, 1, none⟩ = some (.int .u32 d.ar) := blk_cell HX.out 1
    have hc2 : World.cell? _ ⟨w.heap.size, 2, none⟩ = some (.int .u64 d.ip) := blk_cell HX.out 2
    have hc3 : World.cell? _ ⟨w.heap.size, 3, none⟩ = some (.int .u64 d.a0) := blk_cell HX.out 3
    have hc4 : World.cell? _ ⟨w.heap.size, 4, none⟩ = some (.int .u64 d.a1) := blk_cell HX.out 4
    have hc5 : World.cell? _ ⟨w.heap.size, 5, none⟩ = some (.int .u64 d.a2) := blk_cell HX.out 5
    have hc6 : World.cell? _ ⟨w.heap.size, 6, none⟩ = some (.int .u64 d.a3) := blk_cell HX.out 6
    have hc7 : World.cell? _ ⟨w.heap.size, 7, none⟩ = some (.int .u64 d.a4) := blk_cell HX.out 7
    have hc8 : World.cell? _ ⟨w.heap.size, 8, none⟩ = some (.int .u64 d.a5) := blk_cell HX.out 8
    go_wp2_with fail
    clear hc0 hc1 hc2 hc3 hc4 hc5 hc6 hc7 hc8
    refine (k4.out _).mono ?_
    rintro e v4 ⟨rfl, hB⟩
    replace HX := Aside0.mk ((hB.block _ (blk_lt HX.out)).trans HX.out)
    replace HY := Aside0.mk ((hB.block _ (blk_lt HY.out)).trans HY.out)
    replace HB := Aside0.mk (HB.out.trans (hB.mono HB.out.size))
    clear hB
    have HZ := Aside0.mk (heap_alloc_new v4 (.cells #[.int .u32 (w4 (put4 d.bytes (4 * i) x) 0), .int .u32 (w4 (put4 d.bytes (4 * i) x) 4), .int .u64 (w8 (put4 d.bytes (4 * i) x) 8), .int .u64 (w8 (put4 d.bytes (4 * i) x) 16), .int .u64 (w8 (put4 d.bytes (4 * i) x) 24), .int .u64 (w8 (put4 d.bytes (4 * i) x) 32), .int .u64 (w8 (put4 d.bytes (4 * i) x) 40), .int .u64 (w8 (put4 d.bytes (4 * i) x) 48), .int .u64 (w8 (put4 d.bytes (4 * i) x) 56)] 58))
    replace HX := Aside0.mk (blk_alloc HX.out (.cells #[.int .u32 (w4 (put4 d.bytes (4 * i) x) 0), .int .u32 (w4 (put4 d.bytes (4 * i) x) 4), .int .u64 (w8 (put4 d.bytes (4 * i) x) 8), .int .u64 (w8 (put4 d.bytes (4 * i) x) 16), .int .u64 (w8 (put4 d.bytes (4 * i) x) 24), .int .u64 (w8 (put4 d.bytes (4 * i) x) 32), .int .u64 (w8 (put4 d.bytes (4 * i) x) 40), .int .u64 (w8 (put4 d.bytes (4 * i) x) 48), .int .u64 (w8 (put4 d.bytes (4 * i) x) 56)] 58))
    replace HY := Aside0.mk (blk_alloc HY.out (.cells #[.int .u32 (w4 (put4 d.bytes (4 * i) x) 0), .int .u32 (w4 (put4 d.bytes (4 * i) x) 4), .int .u64 (w8 (put4 d.bytes (4 * i) x) 8), .int .u64 (w8 (put4 d.bytes (4 * i) x) 16), .int .u64 (w8 (put4 d.bytes (4 * i) x) 24), .int .u64 (w8 (put4 d.bytes (4 * i) x) 32), .int .u64 (w8 (put4 d.bytes (4 * i) x) 40), .int .u64 (w8 (put4 d.bytes (4 * i) x) 48), .int .u64 (w8 (put4 d.bytes (4 * i) x) 56)] 58))
    replace HB := Aside0.mk (below_alloc HB.out (.cells #[.int .u32 (w4 (put4 d.bytes (4 * i) x) 0), .int .u32 (w4 (put4 d.bytes (4 * i) x) 4), .int .u64 (w8 (put4 d.bytes (4 * i) x) 8), .int .u64 (w8 (put4 d.bytes (4 * i) x) 16), .int .u64 (w8 (put4 d.bytes (4 * i) x) 24), .int .u64 (w8 (put4 d.bytes (4 * i) x) 32), .int .u64 (w8 (put4 d.bytes (4 * i) x) 40), .int .u64 (w8 (put4 d.bytes (4 * i) x) 48), .int .u64 (w8 (put4 d.bytes (4 * i) x) 56)] 58))
    go_upto_region 7 with fail
    generalize World.alloc v4 _ = W7 at HX HY HZ HB ⊢
    have ha0 : World.cell? _ ⟨v3.heap.size, 0, none⟩ = some (.int .u32 (w4 (put4 d.bytes (4 * i) x) 0)) := blk_cell HY.out 0
    have ha1 : World.cell? _ ⟨v3.heap.size, 1, none⟩ = some (.int .u32 (w4 (put4 d.bytes (4 * i) x) 4)) := blk_cell HY.out 1
    have ha2 : World.cell? _ ⟨v3.heap.size, 2, none⟩ = some (.int .u64 (w8 (put4 d.bytes (4 * i) x) 8)) := blk_cell HY.out 2
    have ha3 : World.cell? _ ⟨v3.heap.size, 3, none⟩ = some (.int .u64 (w8 (put4 d.bytes (4 * i) x) 16)) := blk_cell HY.out 3
    have ha4 : World.cell? _ ⟨v3.heap.size, 4, none⟩ = some (.int .u64 (w8 (put4 d.bytes (4 * i) x) 24)) := blk_cell HY.out 4
    have ha5 : World.cell? _ ⟨v3.heap.size, 5, none⟩ = some (.int .u64 (w8 (put4 d.bytes (4 * i) x) 32)) := blk_cell HY.out 5
    have ha6 : World.cell? _ ⟨v3.heap.size, 6, none⟩ = some (.int .u64 (w8 (put4 d.bytes (4 * i) x) 40)) := blk_cell HY.out 6
    have ha7 : World.cell? _ ⟨v3.heap.size, 7, none⟩ = some (.int .u64 (w8 (put4 d.bytes (4 * i) x) 48)) := blk_cell HY.out 7
    have ha8 : World.cell? _ ⟨v3.heap.size, 8, none⟩ = some (.int .u64 (w8 (put4 d.bytes (4 * i) x) 56)) := blk_cell HY.out 8
    have hb0 : World.cell? _ ⟨v4.heap.size, 0, none⟩ = some (.int .u32 (w4 (put4 d.bytes (4 * i) x) 0)) := blk_cell HZ.out 0
    have hb1 : World.cell? _ ⟨v4.heap.size, 1, none⟩ = some (.int .u32 (w4 (put4 d.bytes (4 * i) x) 4)) := blk_cell HZ.out 1
    have hb2 : World.cell? _ ⟨v4.heap.size, 2, none⟩ = some (.int .u64 (w8 (put4 d.bytes (4 * i) x) 8)) := blk_cell HZ.out 2
    have hb3 : World.cell? _ ⟨v4.heap.size, 3, none⟩ = some (.int .u64 (w8 (put4 d.bytes (4 * i) x) 16)) := blk_cell HZ.out 3
    have hb4 : World.cell? _ ⟨v4.heap.size, 4, none⟩ = some (.int .u64 (w8 (put4 d.bytes (4 * i) x) 24)) := blk_cell HZ.out 4
    have hb5 : World.cell? _ ⟨v4.heap.size, 5, none⟩ = some (.int .u64 (w8 (put4 d.bytes (4 * i) x) 32)) := blk_cell HZ.out 5
    have hb6 : World.cell? _ ⟨v4.heap.size, 6, none⟩ = some (.int .u64 (w8 (put4 d.bytes (4 * i) x) 40)) := blk_cell HZ.out 6
    have hb7 : World.cell? _ ⟨v4.heap.size, 7, none⟩ = some (.int .u64 (w8 (put4 d.bytes (4 * i) x) 48)) := blk_cell HZ.out 7
    have hb8 : World.cell? _ ⟨v4.heap.size, 8, none⟩ = some (.int .u64 (w8 (put4 d.bytes (4 * i) x) 56)) := blk_cell HZ.out 8
    have hc0 : World.cell? _ ⟨w.heap.size, 0, none⟩ = some (.int .u32 d.nr) := blk_cell HX.out 0
    have hc1 : World.cell? _ ⟨w.heap.size, 1, none⟩ = some (.int .u32 d.ar) := blk_cell HX.out 1
    have hc2 : World.cell? _ ⟨w.heap.size, 2, none⟩ = some (.int .u64 d.ip) := blk_cell HX.out 2
    have hc3 : World.cell? _ ⟨w.heap.size, 3, none⟩ = some (.int .u64 d.a0) := blk_cell HX.out 3
    have hc4 : World.cell? _ ⟨w.heap.size, 4, none⟩ = some (.int .u64 d.a1) := blk_cell HX.out 4
    have hc5 : World.cell? _ ⟨w.heap.size, 5, none⟩ = some (.int .u64 d.a2) := blk_cell HX.out 5
    have hc6 : World.cell? _ ⟨w.heap.size, 6, none⟩ = some (.int .u64 d.a3) := blk_cell HX.out 6
    have hc7 : World.cell? _ ⟨w.heap.size, 7, none⟩ = some (.int .u64 d.a4) := blk_cell HX.out 7
    have hc8 : World.cell? _ ⟨w.heap.size, 8, none⟩ = some (.int .u64 d.a5) := blk_cell HX.out 8
    have heq : ∀ W : World, (Op.equalIn 10000 58 (.agg #[.int .u32 (w4 (put4 d.bytes (4 * i) x) 0), .int .u32 (w4 (put4 d.bytes (4 * i) x) 4), .int .u64 (w8 (put4 d.bytes (4 * i) x) 8), .int .u64 (w8 (put4 d.bytes (4 * i) x) 16), .int .u64 (w8 (put4 d.bytes (4 * i) x) 24), .int .u64 (w8 (put4 d.bytes (4 * i) x) 32), .int .u64 (w8 (put4 d.bytes (4 * i) x) 40), .int .u64 (w8 (put4 d.bytes (4 * i) x) 48), .int .u64 (w8 (put4 d.bytes (4 * i) x) 56)]) (.agg #[.int .u32 (w4 (put4 d.bytes (4 * i) x) 0), .int .u32 (w4 (put4 d.bytes (4 * i) x) 4), .int .u64 (w8 (put4 d.bytes (4 * i) x) 8), .int .u64 (w8 (put4 d.bytes (4 * i) x) 16), .int .u64 (w8 (put4 d.bytes (4 * i) x) 24), .int .u64 (w8 (put4 d.bytes (4 * i) x) 32), .int .u64 (w8 (put4 d.bytes (4 * i) x) 40), .int .u64 (w8 (put4 d.bytes (4 * i) x) 48), .int .u64 (w8 (put4 d.bytes (4 * i) x) 56)])).run Try.prog W = .ok true W := fun W => by rw [eq58 W _ _ _ _ _ _ _ _ _ _ _ _ _ _ _ _ _ _ 9997]; simp
    go_wp2_with fail
    clear hc0 hc1 hc2 hc3 hc4 hc5 hc6 hc7 hc8
    clear ha0 ha1 ha2 ha3 ha4 ha5 ha6 ha7 ha8
    clear hb0 hb1 hb2 hb3 hb4 hb5 hb6 hb7 hb8
    clear heq HY HZ k1 k2 k3 k4
    refine (words_c d OK.out _).mono ?_
    rintro e v5 ⟨rfl, hB⟩
    replace HX := Aside0.mk ((hB.block _ (blk_lt HX.out)).trans HX.out)
    replace HB := Aside0.mk (HB.out.trans (hB.mono HB.out.size))
    clear hB
    go_wp2_with fail
    go_loopw [67] (fun v67 wr => ∃ k : Nat, k ≤ 16 ∧ v67 = .int .i64 k ∧ Aside0 (wr.heap[w.heap.size]? = some (.cells #[.int .u32 d.nr, .int .u32 d.ar, .int .u64 d.ip, .int .u64 d.a0, .int .u64 d.a1, .int .u64 d.a2, .int .u64 d.a3, .int .u64 d.a4, .int .u64 d.a5] 58 (0, 0))) ∧ Aside0 (Below w.heap.size w wr)) (fun v67 _ => 16 - (intOf v67).toNat)
    case atStart => exact ⟨0, by omega, rfl, HX, HB⟩
    case round =>
      clear HX HB
      obtain ⟨k, hk, rfl, HX, HB⟩ := hrel
      by_cases hlt : k < 16
      · have hix := word_ix d.bytes k hlt
        have hcv : IntKind.u32.wrap (4 * (k : Int)) = 4 * (k : Int) := u32_id ⟨by omega, by omega⟩
        have k5 := Aside0.mk (fun W => rword_ok d OK.out (4 * k) (by rw [show ((4 * k : Nat) : Int) = 4 * (k : Int) by omega]; exact ⟨by omega, by omega⟩) (by omega) W)
        rw [show ((4 * k : Nat) : Int) = 4 * (k : Int) by omega] at k5
        have hc0 : World.cell? _ ⟨w.heap.size, 0, none⟩ = some (.int .u32 d.nr) := blk_cell HX.out 0
        have hc1 : World.cell? _ ⟨w.heap.size, 1, none⟩ = some (.int .u32 d.ar) := blk_cell HX.out 1
        have hc2 : World.cell? _ ⟨w.heap.size, 2, none⟩ = some (.int .u64 d.ip) := blk_cell HX.out 2
        have hc3 : World.cell? _ ⟨w.heap.size, 3, none⟩ = some (.int .u64 d.a0) := blk_cell HX.out 3
        have hc4 : World.cell? _ ⟨w.heap.size, 4, none⟩ = some (.int .u64 d.a1) := blk_cell HX.out 4
        have hc5 : World.cell? _ ⟨w.heap.size, 5, none⟩ = some (.int .u64 d.a2) := blk_cell HX.out 5
        have hc6 : World.cell? _ ⟨w.heap.size, 6, none⟩ = some (.int .u64 d.a3) := blk_cell HX.out 6
        have hc7 : World.cell? _ ⟨w.heap.size, 7, none⟩ = some (.int .u64 d.a4) := blk_cell HX.out 7
        have hc8 : World.cell? _ ⟨w.heap.size, 8, none⟩ = some (.int .u64 d.a5) := blk_cell HX.out 8
        go_wp2_with fail
        clear hix
        clear hc0 hc1 hc2 hc3 hc4 hc5 hc6 hc7 hc8
        refine (k5.out _).mono ?_
        rintro e v6 ⟨rfl, hB⟩
        replace HX := Aside0.mk ((hB.block _ (blk_lt HX.out)).trans HX.out)
        replace HB := Aside0.mk (HB.out.trans (hB.mono HB.out.size))
        clear hB
        go_wp2
        go_roundw
        case rel => exact ⟨k + 1, by omega, by simp, HX, HB⟩
        case measure => simp [intOf]; omega
      · obtain rfl : k = 16 := by omega
        go_wp2
        go_ret
        exact ⟨rfl, HB.out⟩
  · skip
    have k1 := Aside0.mk (fun W => word_no d OK.out off ho hg W)
    have k2 := Aside0.mk (fun W => rword_no d OK.out off ho hg W)
    have k3 := Aside0.mk (fun W => with_no d off x ho hg W)
    have k4 := Aside0.mk (fun W => rwith_no d off x ho hg W)
    clear ho hg hx
    go_enter Try.func12, Try.ntmps12
    have HX := Aside0.mk (heap_alloc_new w (.cells #[.int .u32 d.nr, .int .u32 d.ar, .int .u64 d.ip, .int .u64 d.a0, .int .u64 d.a1, .int .u64 d.a2, .int .u64 d.a3, .int .u64 d.a4, .int .u64 d.a5] 58))
    have HB := Aside0.mk (below_alloc (Below.refl w.heap.size w) (.cells #[.int .u32 d.nr, .int .u32 d.ar, .int .u64 d.ip, .int .u64 d.a0, .int .u64 d.a1, .int .u64 d.a2, .int .u64 d.a3, .int .u64 d.a4, .int .u64 d.a5] 58))
    go_wp2_with fail
    refine (wakes3_w _).mono ?_
    rintro e w1 ⟨rfl, hB⟩
    replace HX := Aside0.mk ((hB.block _ (blk_lt HX.out)).trans HX.out)
    replace HB := Aside0.mk (HB.out.trans (hB.mono HB.out.size))
    clear hB
    have hc0 : World.cell? _ ⟨w.heap.size, 0, none⟩ = some (.int .u32 d.nr) := blk_cell HX.out 0
    have hc1 : World.cell? _ ⟨w.heap.size, 1, none⟩ = some (.int .u32 d.ar) := blk_cell HX.out 1
    have hc2 : World.cell? _ ⟨w.heap.size, 2, none⟩ = some (.int .u64 d.ip) := blk_cell HX.out 2
    have hc3 : World.cell? _ ⟨w.heap.size, 3, none⟩ = some (.int .u64 d.a0) := blk_cell HX.out 3
    have hc4 : World.cell? _ ⟨w.heap.size, 4, none⟩ = some (.int .u64 d.a1) := blk_cell HX.out 4
    have hc5 : World.cell? _ ⟨w.heap.size, 5, none⟩ = some (.int .u64 d.a2) := blk_cell HX.out 5
    have hc6 : World.cell? _ ⟨w.heap.size, 6, none⟩ = some (.int .u64 d.a3) := blk_cell HX.out 6
    have hc7 : World.cell? _ ⟨w.heap.size, 7, none⟩ = some (.int .u64 d.a4) := blk_cell HX.out 7
    have hc8 : World.cell? _ ⟨w.heap.size, 8, none⟩ = some (.int .u64 d.a5) := blk_cell HX.out 8
    go_wp2_with fail
    clear hc0 hc1 hc2 hc3 hc4 hc5 hc6 hc7 hc8
    refine (k1.out _).mono ?_
    rintro e v1 ⟨rfl, hB⟩
    replace HX := Aside0.mk ((hB.block _ (blk_lt HX.out)).trans HX.out)
    replace HB := Aside0.mk (HB.out.trans (hB.mono HB.out.size))
    clear hB
    have hc0 : World.cell? _ ⟨w.heap.size, 0, none⟩ = some (.int .u32 d.nr) := blk_cell HX.out 0
    have hc1 : World.cell? _ ⟨w.heap.size, 1, none⟩ = some (.int .u32 d.ar) := blk_cell HX.out 1
    have hc2 : World.cell? _ ⟨w.heap.size, 2, none⟩ = some (.int .u64 d.ip) := blk_cell HX.out 2
    have hc3 : World.cell? _ ⟨w.heap.size, 3, none⟩ = some (.int .u64 d.a0) := blk_cell HX.out 3
    have hc4 : World.cell? _ ⟨w.heap.size, 4, none⟩ = some (.int .u64 d.a1) := blk_cell HX.out 4
    have hc5 : World.cell? _ ⟨w.heap.size, 5, none⟩ = some (.int .u64 d.a2) := blk_cell HX.out 5
    have hc6 : World.cell? _ ⟨w.heap.size, 6, none⟩ = some (.int .u64 d.a3) := blk_cell HX.out 6
    have hc7 : World.cell? _ ⟨w.heap.size, 7, none⟩ = some (.int .u64 d.a4) := blk_cell HX.out 7
    have hc8 : World.cell? _ ⟨w.heap.size, 8, none⟩ = some (.int .u64 d.a5) := blk_cell HX.out 8
    go_wp2_with fail
    clear hc0 hc1 hc2 hc3 hc4 hc5 hc6 hc7 hc8
    refine (k2.out _).mono ?_
    rintro e v2 ⟨rfl, hB⟩
    replace HX := Aside0.mk ((hB.block _ (blk_lt HX.out)).trans HX.out)
    replace HB := Aside0.mk (HB.out.trans (hB.mono HB.out.size))
    clear hB
    have hc0 : World.cell? _ ⟨w.heap.size, 0, none⟩ = some (.int .u32 d.nr) := blk_cell HX.out 0
    have hc1 : World.cell? _ ⟨w.heap.size, 1, none⟩ = some (.int .u32 d.ar) := blk_cell HX.out 1
    have hc2 : World.cell? _ ⟨w.heap.size, 2, none⟩ = some (.int .u64 d.ip) := blk_cell HX.out 2
    have hc3 : World.cell? _ ⟨w.heap.size, 3, none⟩ = some (.int .u64 d.a0) := blk_cell HX.out 3
    have hc4 : World.cell? _ ⟨w.heap.size, 4, none⟩ = some (.int .u64 d.a1) := blk_cell HX.out 4
    have hc5 : World.cell? _ ⟨w.heap.size, 5, none⟩ = some (.int .u64 d.a2) := blk_cell HX.out 5
    have hc6 : World.cell? _ ⟨w.heap.size, 6, none⟩ = some (.int .u64 d.a3) := blk_cell HX.out 6
    have hc7 : World.cell? _ ⟨w.heap.size, 7, none⟩ = some (.int .u64 d.a4) := blk_cell HX.out 7
    have hc8 : World.cell? _ ⟨w.heap.size, 8, none⟩ = some (.int .u64 d.a5) := blk_cell HX.out 8
    go_wp2_with fail
    clear hc0 hc1 hc2 hc3 hc4 hc5 hc6 hc7 hc8
    refine (k3.out _).mono ?_
    rintro e v3 ⟨rfl, hB⟩
    replace HX := Aside0.mk ((hB.block _ (blk_lt HX.out)).trans HX.out)
    replace HB := Aside0.mk (HB.out.trans (hB.mono HB.out.size))
    clear hB
    have HY := Aside0.mk (heap_alloc_new v3 (.cells #[.int .u32 0, .int .u32 0, .int .u64 0, .int .u64 0, .int .u64 0, .int .u64 0, .int .u64 0, .int .u64 0, .int .u64 0] 58))
    replace HX := Aside0.mk (blk_alloc HX.out (.cells #[.int .u32 0, .int .u32 0, .int .u64 0, .int .u64 0, .int .u64 0, .int .u64 0, .int .u64 0, .int .u64 0, .int .u64 0] 58))
    replace HB := Aside0.mk (below_alloc HB.out (.cells #[.int .u32 0, .int .u32 0, .int .u64 0, .int .u64 0, .int .u64 0, .int .u64 0, .int .u64 0, .int .u64 0, .int .u64 0] 58))
    have hc0 : World.cell? _ ⟨w.heap.size, 0, none⟩ = some (.int .u32 d.nr) := blk_cell HX.out 0
    have hc1 : World.cell? _ ⟨w.heap.size, 1, none⟩ = some (.int .u32 d.ar) := blk_cell HX.out 1
    have hc2 : World.cell? _ ⟨w.heap.size, 2, none⟩ = some (.int .u64 d.ip) := blk_cell HX.out 2
    have hc3 : World.cell? _ ⟨w.heap.size, 3, none⟩ = some (.int .u64 d.a0) := blk_cell HX.out 3
    have hc4 : World.cell? _ ⟨w.heap.size, 4, none⟩ = some (.int .u64 d.a1) := blk_cell HX.out 4
    have hc5 : World.cell? _ ⟨w.heap.size, 5, none⟩ = some (.int .u64 d.a2) := blk_cell HX.out 5
    have hc6 : World.cell? _ ⟨w.heap.size, 6, none⟩ = some (.int .u64 d.a3) := blk_cell HX.out 6
    have hc7 : World.cell? _ ⟨w.heap.size, 7, none⟩ = some (.int .u64 d.a4) := blk_cell HX.out 7
    have hc8 : World.cell? _ ⟨w.heap.size, 8, none⟩ = some (.int .u64 d.a5) := blk_cell HX.out 8
    go_wp2_with fail
    clear hc0 hc1 hc2 hc3 hc4 hc5 hc6 hc7 hc8
    refine (k4.out _).mono ?_
    rintro e v4 ⟨rfl, hB⟩
    replace HX := Aside0.mk ((hB.block _ (blk_lt HX.out)).trans HX.out)
    replace HY := Aside0.mk ((hB.block _ (blk_lt HY.out)).trans HY.out)
    replace HB := Aside0.mk (HB.out.trans (hB.mono HB.out.size))
    clear hB
    have HZ := Aside0.mk (heap_alloc_new v4 (.cells #[.int .u32 0, .int .u32 0, .int .u64 0, .int .u64 0, .int .u64 0, .int .u64 0, .int .u64 0, .int .u64 0, .int .u64 0] 58))
    replace HX := Aside0.mk (blk_alloc HX.out (.cells #[.int .u32 0, .int .u32 0, .int .u64 0, .int .u64 0, .int .u64 0, .int .u64 0, .int .u64 0, .int .u64 0, .int .u64 0] 58))
    replace HY := Aside0.mk (blk_alloc HY.out (.cells #[.int .u32 0, .int .u32 0, .int .u64 0, .int .u64 0, .int .u64 0, .int .u64 0, .int .u64 0, .int .u64 0, .int .u64 0] 58))
    replace HB := Aside0.mk (below_alloc HB.out (.cells #[.int .u32 0, .int .u32 0, .int .u64 0, .int .u64 0, .int .u64 0, .int .u64 0, .int .u64 0, .int .u64 0, .int .u64 0] 58))
    go_upto_region 7 with fail
    generalize World.alloc v4 _ = W7 at HX HY HZ HB ⊢
    have ha0 : World.cell? _ ⟨v3.heap.size, 0, none⟩ = some (.int .u32 0) := blk_cell HY.out 0
    have ha1 : World.cell? _ ⟨v3.heap.size, 1, none⟩ = some (.int .u32 0) := blk_cell HY.out 1
    have ha2 : World.cell? _ ⟨v3.heap.size, 2, none⟩ = some (.int .u64 0) := blk_cell HY.out 2
    have ha3 : World.cell? _ ⟨v3.heap.size, 3, none⟩ = some (.int .u64 0) := blk_cell HY.out 3
    have ha4 : World.cell? _ ⟨v3.heap.size, 4, none⟩ = some (.int .u64 0) := blk_cell HY.out 4
    have ha5 : World.cell? _ ⟨v3.heap.size, 5, none⟩ = some (.int .u64 0) := blk_cell HY.out 5
    have ha6 : World.cell? _ ⟨v3.heap.size, 6, none⟩ = some (.int .u64 0) := blk_cell HY.out 6
    have ha7 : World.cell? _ ⟨v3.heap.size, 7, none⟩ = some (.int .u64 0) := blk_cell HY.out 7
    have ha8 : World.cell? _ ⟨v3.heap.size, 8, none⟩ = some (.int .u64 0) := blk_cell HY.out 8
    have hb0 : World.cell? _ ⟨v4.heap.size, 0, none⟩ = some (.int .u32 0) := blk_cell HZ.out 0
    have hb1 : World.cell? _ ⟨v4.heap.size, 1, none⟩ = some (.int .u32 0) := blk_cell HZ.out 1
    have hb2 : World.cell? _ ⟨v4.heap.size, 2, none⟩ = some (.int .u64 0) := blk_cell HZ.out 2
    have hb3 : World.cell? _ ⟨v4.heap.size, 3, none⟩ = some (.int .u64 0) := blk_cell HZ.out 3
    have hb4 : World.cell? _ ⟨v4.heap.size, 4, none⟩ = some (.int .u64 0) := blk_cell HZ.out 4
    have hb5 : World.cell? _ ⟨v4.heap.size, 5, none⟩ = some (.int .u64 0) := blk_cell HZ.out 5
    have hb6 : World.cell? _ ⟨v4.heap.size, 6, none⟩ = some (.int .u64 0) := blk_cell HZ.out 6
    have hb7 : World.cell? _ ⟨v4.heap.size, 7, none⟩ = some (.int .u64 0) := blk_cell HZ.out 7
    have hb8 : World.cell? _ ⟨v4.heap.size, 8, none⟩ = some (.int .u64 0) := blk_cell HZ.out 8
    have hc0 : World.cell? _ ⟨w.heap.size, 0, none⟩ = some (.int .u32 d.nr) := blk_cell HX.out 0
    have hc1 : World.cell? _ ⟨w.heap.size, 1, none⟩ = some (.int .u32 d.ar) := blk_cell HX.out 1
    have hc2 : World.cell? _ ⟨w.heap.size, 2, none⟩ = some (.int .u64 d.ip) := blk_cell HX.out 2
    have hc3 : World.cell? _ ⟨w.heap.size, 3, none⟩ = some (.int .u64 d.a0) := blk_cell HX.out 3
    have hc4 : World.cell? _ ⟨w.heap.size, 4, none⟩ = some (.int .u64 d.a1) := blk_cell HX.out 4
    have hc5 : World.cell? _ ⟨w.heap.size, 5, none⟩ = some (.int .u64 d.a2) := blk_cell HX.out 5
    have hc6 : World.cell? _ ⟨w.heap.size, 6, none⟩ = some (.int .u64 d.a3) := blk_cell HX.out 6
    have hc7 : World.cell? _ ⟨w.heap.size, 7, none⟩ = some (.int .u64 d.a4) := blk_cell HX.out 7
    have hc8 : World.cell? _ ⟨w.heap.size, 8, none⟩ = some (.int .u64 d.a5) := blk_cell HX.out 8
    have heq : ∀ W : World, (Op.equalIn 10000 58 (.agg #[.int .u32 0, .int .u32 0, .int .u64 0, .int .u64 0, .int .u64 0, .int .u64 0, .int .u64 0, .int .u64 0, .int .u64 0]) (.agg #[.int .u32 0, .int .u32 0, .int .u64 0, .int .u64 0, .int .u64 0, .int .u64 0, .int .u64 0, .int .u64 0, .int .u64 0])).run Try.prog W = .ok true W := fun W => by rw [eq58 W _ _ _ _ _ _ _ _ _ _ _ _ _ _ _ _ _ _ 9997]; simp
    go_wp2_with fail
    clear hc0 hc1 hc2 hc3 hc4 hc5 hc6 hc7 hc8
    clear ha0 ha1 ha2 ha3 ha4 ha5 ha6 ha7 ha8
    clear hb0 hb1 hb2 hb3 hb4 hb5 hb6 hb7 hb8
    clear heq HY HZ k1 k2 k3 k4
    refine (words_c d OK.out _).mono ?_
    rintro e v5 ⟨rfl, hB⟩
    replace HX := Aside0.mk ((hB.block _ (blk_lt HX.out)).trans HX.out)
    replace HB := Aside0.mk (HB.out.trans (hB.mono HB.out.size))
    clear hB
    go_wp2_with fail
    go_loopw [67] (fun v67 wr => ∃ k : Nat, k ≤ 16 ∧ v67 = .int .i64 k ∧ Aside0 (wr.heap[w.heap.size]? = some (.cells #[.int .u32 d.nr, .int .u32 d.ar, .int .u64 d.ip, .int .u64 d.a0, .int .u64 d.a1, .int .u64 d.a2, .int .u64 d.a3, .int .u64 d.a4, .int .u64 d.a5] 58 (0, 0))) ∧ Aside0 (Below w.heap.size w wr)) (fun v67 _ => 16 - (intOf v67).toNat)
    case atStart => exact ⟨0, by omega, rfl, HX, HB⟩
    case round =>
      clear HX HB
      obtain ⟨k, hk, rfl, HX, HB⟩ := hrel
      by_cases hlt : k < 16
      · have hix := word_ix d.bytes k hlt
        have hcv : IntKind.u32.wrap (4 * (k : Int)) = 4 * (k : Int) := u32_id ⟨by omega, by omega⟩
        have k5 := Aside0.mk (fun W => rword_ok d OK.out (4 * k) (by rw [show ((4 * k : Nat) : Int) = 4 * (k : Int) by omega]; exact ⟨by omega, by omega⟩) (by omega) W)
        rw [show ((4 * k : Nat) : Int) = 4 * (k : Int) by omega] at k5
        have hc0 : World.cell? _ ⟨w.heap.size, 0, none⟩ = some (.int .u32 d.nr) := blk_cell HX.out 0
        have hc1 : World.cell? _ ⟨w.heap.size, 1, none⟩ = some (.int .u32 d.ar) := blk_cell HX.out 1
        have hc2 : World.cell? _ ⟨w.heap.size, 2, none⟩ = some (.int .u64 d.ip) := blk_cell HX.out 2
        have hc3 : World.cell? _ ⟨w.heap.size, 3, none⟩ = some (.int .u64 d.a0) := blk_cell HX.out 3
        have hc4 : World.cell? _ ⟨w.heap.size, 4, none⟩ = some (.int .u64 d.a1) := blk_cell HX.out 4
        have hc5 : World.cell? _ ⟨w.heap.size, 5, none⟩ = some (.int .u64 d.a2) := blk_cell HX.out 5
        have hc6 : World.cell? _ ⟨w.heap.size, 6, none⟩ = some (.int .u64 d.a3) := blk_cell HX.out 6
        have hc7 : World.cell? _ ⟨w.heap.size, 7, none⟩ = some (.int .u64 d.a4) := blk_cell HX.out 7
        have hc8 : World.cell? _ ⟨w.heap.size, 8, none⟩ = some (.int .u64 d.a5) := blk_cell HX.out 8
        go_wp2_with fail
        clear hix
        clear hc0 hc1 hc2 hc3 hc4 hc5 hc6 hc7 hc8
        refine (k5.out _).mono ?_
        rintro e v6 ⟨rfl, hB⟩
        replace HX := Aside0.mk ((hB.block _ (blk_lt HX.out)).trans HX.out)
        replace HB := Aside0.mk (HB.out.trans (hB.mono HB.out.size))
        clear hB
        go_wp2
        go_roundw
        case rel => exact ⟨k + 1, by omega, by simp, HX, HB⟩
        case measure => simp [intOf]; omega
      · obtain rfl : k = 16 := by omega
        go_wp2
        go_ret
        exact ⟨rfl, HB.out⟩
end Go.Proofs.Ytpejeeemefmafaa.RD
