import Derived.Test.YtpejeeemefmafaaDM
namespace Go.Proofs.Ytpejeeemefmafaa.RD
open Go.RowKit Go.Proofs.YtpejeeemefmafaaW.PrintWords Go.Proofs.YtpejeeemefmafaaW.PrintLast Go.Proofs.YtpejeeemefmafaaW.PrintMore
open Go.Proofs.Ytpejeeemefmafaa.PE.L (below_drewN' below_drew')
open PH
set_option linter.unusedVariables false
set_option linter.unusedSimpArgs false
set_option maxHeartbeats 4000000 in
set_option maxRecDepth 100000 in
theorem once_no (a b : Dt) (oka : a.Ok) (okb : b.Ok) (off : Int) (ho : u32R off) (hg : ¬ (off % 4 = 0 ∧ off ≤ 60)) (x : Int) (hx : u32R x) (w : World) : Calls Try.prog 13 #[.agg #[.int .u32 a.nr, .int .u32 a.ar, .int .u64 a.ip, .int .u64 a.a0, .int .u64 a.a1, .int .u64 a.a2, .int .u64 a.a3, .int .u64 a.a4, .int .u64 a.a5], .agg #[.int .u32 b.nr, .int .u32 b.ar, .int .u64 b.ip, .int .u64 b.a0, .int .u64 b.a1, .int .u64 b.a2, .int .u64 b.a3, .int .u64 b.a4, .int .u64 b.a5], .agg #[.int .u32 off, .int .u32 x]] w fun e w' => e = .returned (.bool true) ∧ Below w.heap.size w w' := by
  have OKA := Aside0.mk oka
  have OKB := Aside0.mk okb
  clear oka okb
  go_enter Try.func13, Try.ntmps13
  have HA := Aside0.mk (heap_alloc_new w (.cells #[.int .u32 a.nr, .int .u32 a.ar, .int .u64 a.ip, .int .u64 a.a0, .int .u64 a.a1, .int .u64 a.a2, .int .u64 a.a3, .int .u64 a.a4, .int .u64 a.a5] 58))
  have HB_ := Aside0.mk (heap_alloc_new (w.alloc (.cells #[.int .u32 a.nr, .int .u32 a.ar, .int .u64 a.ip, .int .u64 a.a0, .int .u64 a.a1, .int .u64 a.a2, .int .u64 a.a3, .int .u64 a.a4, .int .u64 a.a5] 58)) (.cells #[.int .u32 b.nr, .int .u32 b.ar, .int .u64 b.ip, .int .u64 b.a0, .int .u64 b.a1, .int .u64 b.a2, .int .u64 b.a3, .int .u64 b.a4, .int .u64 b.a5] 58))
  have HT := Aside0.mk (heap_alloc_new ((w.alloc (.cells #[.int .u32 a.nr, .int .u32 a.ar, .int .u64 a.ip, .int .u64 a.a0, .int .u64 a.a1, .int .u64 a.a2, .int .u64 a.a3, .int .u64 a.a4, .int .u64 a.a5] 58)).alloc (.cells #[.int .u32 b.nr, .int .u32 b.ar, .int .u64 b.ip, .int .u64 b.a0, .int .u64 b.a1, .int .u64 b.a2, .int .u64 b.a3, .int .u64 b.a4, .int .u64 b.a5] 58)) (.cells #[.int .u32 off, .int .u32 x] 69))
  replace HA := Aside0.mk (blk_alloc (blk_alloc HA.out (.cells #[.int .u32 b.nr, .int .u32 b.ar, .int .u64 b.ip, .int .u64 b.a0, .int .u64 b.a1, .int .u64 b.a2, .int .u64 b.a3, .int .u64 b.a4, .int .u64 b.a5] 58)) (.cells #[.int .u32 off, .int .u32 x] 69))
  replace HB_ := Aside0.mk (blk_alloc HB_.out (.cells #[.int .u32 off, .int .u32 x] 69))
  have HB := Aside0.mk (below_alloc (below_alloc (below_alloc (Below.refl w.heap.size w) (.cells #[.int .u32 a.nr, .int .u32 a.ar, .int .u64 a.ip, .int .u64 a.a0, .int .u64 a.a1, .int .u64 a.a2, .int .u64 a.a3, .int .u64 a.a4, .int .u64 a.a5] 58)) (.cells #[.int .u32 b.nr, .int .u32 b.ar, .int .u64 b.ip, .int .u64 b.a0, .int .u64 b.a1, .int .u64 b.a2, .int .u64 b.a3, .int .u64 b.a4, .int .u64 b.a5] 58)) (.cells #[.int .u32 off, .int .u32 x] 69))
  have s1 : (w.alloc (.cells #[.int .u32 a.nr, .int .u32 a.ar, .int .u64 a.ip, .int .u64 a.a0, .int .u64 a.a1, .int .u64 a.a2, .int .u64 a.a3, .int .u64 a.a4, .int .u64 a.a5] 58)).heap.size = w.heap.size + 1 := by simp
  have s2 : ((w.alloc (.cells #[.int .u32 a.nr, .int .u32 a.ar, .int .u64 a.ip, .int .u64 a.a0, .int .u64 a.a1, .int .u64 a.a2, .int .u64 a.a3, .int .u64 a.a4, .int .u64 a.a5] 58)).alloc (.cells #[.int .u32 b.nr, .int .u32 b.ar, .int .u64 b.ip, .int .u64 b.a0, .int .u64 b.a1, .int .u64 b.a2, .int .u64 b.a3, .int .u64 b.a4, .int .u64 b.a5] 58)).heap.size = w.heap.size + 2 := by simp
  rw [s1] at HB_
  rw [s2] at HT
  clear s1 s2
  go_wp2_with fail
  refine (wakes3_w _).mono ?_
  rintro e w1 ⟨rfl, hB⟩
  replace HA := Aside0.mk ((hB.block _ (blk_lt HA.out)).trans HA.out)
  replace HB_ := Aside0.mk ((hB.block _ (blk_lt HB_.out)).trans HB_.out)
  replace HT := Aside0.mk ((hB.block _ (blk_lt HT.out)).trans HT.out)
  replace HB := Aside0.mk (HB.out.trans (hB.mono HB.out.size))
  clear hB
  have hc0 : World.cell? _ ⟨w.heap.size, 0, none⟩ = some (.int .u32 a.nr) := blk_cell HA.out 0
  have hc1 : World.cell? _ ⟨w.heap.size, 1, none⟩ = some (.int .u32 a.ar) := blk_cell HA.out 1
  have hc2 : World.cell? _ ⟨w.heap.size, 2, none⟩ = some (.int .u64 a.ip) := blk_cell HA.out 2
  have hc3 : World.cell? _ ⟨w.heap.size, 3, none⟩ = some (.int .u64 a.a0) := blk_cell HA.out 3
  have hc4 : World.cell? _ ⟨w.heap.size, 4, none⟩ = some (.int .u64 a.a1) := blk_cell HA.out 4
  have hc5 : World.cell? _ ⟨w.heap.size, 5, none⟩ = some (.int .u64 a.a2) := blk_cell HA.out 5
  have hc6 : World.cell? _ ⟨w.heap.size, 6, none⟩ = some (.int .u64 a.a3) := blk_cell HA.out 6
  have hc7 : World.cell? _ ⟨w.heap.size, 7, none⟩ = some (.int .u64 a.a4) := blk_cell HA.out 7
  have hc8 : World.cell? _ ⟨w.heap.size, 8, none⟩ = some (.int .u64 a.a5) := blk_cell HA.out 8
  have ht0 : World.cell? _ ⟨w.heap.size + 2, 0, none⟩ = some (.int .u32 off) := blk_cell HT.out 0
  have ht1 : World.cell? _ ⟨w.heap.size + 2, 1, none⟩ = some (.int .u32 x) := blk_cell HT.out 1
  go_wp2_with fail
  clear hc0 hc1 hc2 hc3 hc4 hc5 hc6 hc7 hc8
  clear ht0 ht1
  refine (with_no a off x ho hg _).mono ?_
  rintro e w2 ⟨rfl, hB⟩
  replace HA := Aside0.mk ((hB.block _ (blk_lt HA.out)).trans HA.out)
  replace HB_ := Aside0.mk ((hB.block _ (blk_lt HB_.out)).trans HB_.out)
  replace HT := Aside0.mk ((hB.block _ (blk_lt HT.out)).trans HT.out)
  replace HB := Aside0.mk (HB.out.trans (hB.mono HB.out.size))
  clear hB
  replace HT := Aside0.mk (blk_alloc HT.out (.cells #[.int .u32 0, .int .u32 0, .int .u64 0, .int .u64 0, .int .u64 0, .int .u64 0, .int .u64 0, .int .u64 0, .int .u64 0] 58))
  replace HB := Aside0.mk (below_alloc HB.out (.cells #[.int .u32 0, .int .u32 0, .int .u64 0, .int .u64 0, .int .u64 0, .int .u64 0, .int .u64 0, .int .u64 0, .int .u64 0] 58))
  clear HA HB_
  go_upto_region 4 with fail
  generalize World.alloc w2 _ = W4 at HT HB ⊢
  have ht0 : World.cell? _ ⟨w.heap.size + 2, 0, none⟩ = some (.int .u32 off) := blk_cell HT.out 0
  have ht1 : World.cell? _ ⟨w.heap.size + 2, 1, none⟩ = some (.int .u32 x) := blk_cell HT.out 1
  have ht4 : off.tmod 4 = off % 4 := Int.tmod_eq_emod_of_nonneg ho.1
  by_cases h4 : off.tmod 4 = 0
  · have h60 : 60 < off := by have := ho.1; have := ho.2; omega
    have t1 : decide (60 < off) = true := decide_eq_true h60
    go_wp2
    go_ret
    first | exact ⟨rfl, HB.out⟩ | exact ⟨by simp [t1], HB.out⟩
  · have n1 : (off.tmod 4 == 0) = false := by simp [h4]
    have n2 : (off.tmod 4 != 0) = true := by simp [h4]
    clear ht4
    go_wp2
    all_goals go_ret
    all_goals first | exact ⟨rfl, HB.out⟩ | (exfalso; omega) | (exfalso; simp_all; done) | trace_state
end Go.Proofs.Ytpejeeemefmafaa.RD
