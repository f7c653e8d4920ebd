import Derived.Test.YtpejeeemefmafaaDNa
import Derived.Test.YtpejeeemefmafaaDNs
namespace Go.Proofs.Ytpejeeemefmafaa.RD
open Go.RowKit Go.Proofs.YtpejeeemefmafaaW.PrintWords Go.Proofs.YtpejeeemefmafaaW.PrintLast Go.Proofs.YtpejeeemefmafaaW.PrintMore
open Go.Proofs.Ytpejeeemefmafaa.PE.L (below_drewN' below_drew')
open PH
set_option linter.unusedVariables false
set_option linter.unusedSimpArgs false
def once9.T9 : Bool × List (List Nat × List Nat) := (true, [([], []), ([0], [0]), ([], []), ([2, 1], [2]), ([], []), ([], []), ([4, 1, 3, 0, 1, 4, 5], [1, 4]), ([5, 3, 6, 0, 1, 2, 3, 4, 5, 6], [3, 5])])
def once9.B9 : List Nat := [0, 1, 0, 7, 0, 0, 63, 127]
theorem once9.tab9 : rtab .any (opsOf Try.f13 9) = once9.T9 := by kernel_rfl
theorem once9.bits9 : waitsOk once9.T9.2 once9.B9 = true := by kernel_rfl
def once13.T13 : Bool × List (List Nat × List Nat) := (true, [([], []), ([], []), ([1], [1]), ([2], [2]), ([3], [3]), ([0, 4], [0, 4]), ([5], [5]), ([6], [6]), ([7, 6], [6, 7]), ([8, 6], [6, 8]), ([6], [6]), ([10, 6], [6, 10]), ([11, 6], [6, 11]), ([9, 12, 6], [6, 9, 12]), ([6, 13], [6, 13])])
def once13.B13 : List Nat := [0, 0, 2, 6, 14, 31, 63, 127, 255, 511, 127, 1151, 3199, 8191, 16383]
theorem once13.tab13 : rtab .any (opsOf Try.f13 13) = once13.T13 := by kernel_rfl
theorem once13.bits13 : waitsOk once13.T13.2 once13.B13 = true := by kernel_rfl
def once16.T16 : Bool × List (List Nat × List Nat) := (true, [([], []), ([0], [0]), ([], []), ([2, 1], [2]), ([1, 3], [1, 3]), ([], []), ([], []), ([5, 6], [5, 6]), ([4, 7], [4, 7]), ([8, 3, 0, 1, 2, 3, 4, 5, 6, 7, 8], [8])])
def once16.B16 : List Nat := [0, 1, 0, 7, 15, 0, 0, 96, 255, 511]
theorem once16.tab16 : rtab .any (opsOf Try.f13 16) = once16.T16 := by kernel_rfl
theorem once16.bits16 : waitsOk once16.T16.2 once16.B16 = true := by kernel_rfl
set_option maxHeartbeats 4000000 in
set_option maxRecDepth 100000 in
theorem once_ok (a b : Dt) (oka : a.Ok) (okb : b.Ok) (i : Nat) (hi : i < 16) (ho : u32R (4 * (i : Int))) (x : Int) (hx : u32R x) (w : World) : Calls Try.prog 13 #[.agg #[.int .u32 a.nr, .int .u32 a.ar, .int .u64 a.ip, .int .u64 a.a0, .int .u64 a.a1, .int .u64 a.a2, .int .u64 a.a3, .int .u64 a.a4, .int .u64 a.a5], .agg #[.int .u32 b.nr, .int .u32 b.ar, .int .u64 b.ip, .int .u64 b.a0, .int .u64 b.a1, .int .u64 b.a2, .int .u64 b.a3, .int .u64 b.a4, .int .u64 b.a5], .agg #[.int .u32 (4 * (i : Int)), .int .u32 x]] w fun e w' => e = .returned (.bool true) ∧ Below w.heap.size w w' := by
  have HO := Aside0.mk ho
  have kW := Aside0.mk (fun W => with_ok a oka i hi x hx W)
  have kA := Aside0.mk (fun W => words_c a oka W)
  have kB := Aside0.mk (fun W => words_c b okb W)
  have hl2 := put4_bytes (bytes_b a) (4 * i) x
  have hn2 := (put4_len a.bytes (4 * i) x (by rw [bytes_len]; omega)).trans (bytes_len a)
  have hs2 := put4_same a.bytes (4 * i) x (by rw [bytes_len]; omega) hx
  have hf2 : ∀ j, j < 16 → j ≠ i → w4 (put4 a.bytes (4 * i) x) (4 * j) = w4 a.bytes (4 * j) := fun j hj hne => put4_at a.bytes (4 * i) x (by rw [bytes_len]; omega) hx (4 * j) (by rw [bytes_len]; omega) (by omega)
  generalize put4 a.bytes (4 * i) x = l2 at kW hl2 hn2 hs2 hf2
  have kX0 := fun W => word_ok (ofB l2) (ofB_ok hl2 hn2) (4 * (i : Int)) ho ⟨by omega, by omega⟩ W
  rw [ofB_bytes hl2 hn2, show ((4 * (i : Int)) / 4).toNat = i by omega, hs2] at kX0
  have kX := Aside0.mk kX0
  clear kX0
  have kY0 := fun W => words_c (ofB l2) (ofB_ok hl2 hn2) W
  rw [ofB_bytes hl2 hn2] at kY0
  have kY := Aside0.mk kY0
  clear kY0
  have HF := Aside0.mk hf2
  clear hf2 hs2 hl2 hn2 hx
  have HSAME := Aside0.mk (same_eq a b oka okb)
  have HQ66 := Aside0.mk (eq66 a.bytes b.bytes)
  have OKA := Aside0.mk oka
  have OKB := Aside0.mk okb
  clear oka okb
  go_enter Try.func13, Try.ntmps13
  have HA := Aside0.mk (heap_alloc_new w (.cells #[.int .u32 a.nr, .int .u32 a.ar, .int .u64 a.ip, .int .u64 a.a0, .int .u64 a.a1, .int .u64 a.a2, .int .u64 a.a3, .int .u64 a.a4, .int .u64 a.a5] 58))
  have HB_ := Aside0.mk (heap_alloc_new (w.alloc (.cells #[.int .u32 a.nr, .int .u32 a.ar, .int .u64 a.ip, .int .u64 a.a0, .int .u64 a.a1, .int .u64 a.a2, .int .u64 a.a3, .int .u64 a.a4, .int .u64 a.a5] 58)) (.cells #[.int .u32 b.nr, .int .u32 b.ar, .int .u64 b.ip, .int .u64 b.a0, .int .u64 b.a1, .int .u64 b.a2, .int .u64 b.a3, .int .u64 b.a4, .int .u64 b.a5] 58))
  have HT := Aside0.mk (heap_alloc_new ((w.alloc (.cells #[.int .u32 a.nr, .int .u32 a.ar, .int .u64 a.ip, .int .u64 a.a0, .int .u64 a.a1, .int .u64 a.a2, .int .u64 a.a3, .int .u64 a.a4, .int .u64 a.a5] 58)).alloc (.cells #[.int .u32 b.nr, .int .u32 b.ar, .int .u64 b.ip, .int .u64 b.a0, .int .u64 b.a1, .int .u64 b.a2, .int .u64 b.a3, .int .u64 b.a4, .int .u64 b.a5] 58)) (.cells #[.int .u32 (4 * (i : Int)), .int .u32 x] 69))
  replace HA := Aside0.mk (blk_alloc (blk_alloc HA.out (.cells #[.int .u32 b.nr, .int .u32 b.ar, .int .u64 b.ip, .int .u64 b.a0, .int .u64 b.a1, .int .u64 b.a2, .int .u64 b.a3, .int .u64 b.a4, .int .u64 b.a5] 58)) (.cells #[.int .u32 (4 * (i : Int)), .int .u32 x] 69))
  replace HB_ := Aside0.mk (blk_alloc HB_.out (.cells #[.int .u32 (4 * (i : Int)), .int .u32 x] 69))
  have HB := Aside0.mk (below_alloc (below_alloc (below_alloc (Below.refl w.heap.size w) (.cells #[.int .u32 a.nr, .int .u32 a.ar, .int .u64 a.ip, .int .u64 a.a0, .int .u64 a.a1, .int .u64 a.a2, .int .u64 a.a3, .int .u64 a.a4, .int .u64 a.a5] 58)) (.cells #[.int .u32 b.nr, .int .u32 b.ar, .int .u64 b.ip, .int .u64 b.a0, .int .u64 b.a1, .int .u64 b.a2, .int .u64 b.a3, .int .u64 b.a4, .int .u64 b.a5] 58)) (.cells #[.int .u32 (4 * (i : Int)), .int .u32 x] 69))
  have s1 : (w.alloc (.cells #[.int .u32 a.nr, .int .u32 a.ar, .int .u64 a.ip, .int .u64 a.a0, .int .u64 a.a1, .int .u64 a.a2, .int .u64 a.a3, .int .u64 a.a4, .int .u64 a.a5] 58)).heap.size = w.heap.size + 1 := by simp
  have s2 : ((w.alloc (.cells #[.int .u32 a.nr, .int .u32 a.ar, .int .u64 a.ip, .int .u64 a.a0, .int .u64 a.a1, .int .u64 a.a2, .int .u64 a.a3, .int .u64 a.a4, .int .u64 a.a5] 58)).alloc (.cells #[.int .u32 b.nr, .int .u32 b.ar, .int .u64 b.ip, .int .u64 b.a0, .int .u64 b.a1, .int .u64 b.a2, .int .u64 b.a3, .int .u64 b.a4, .int .u64 b.a5] 58)).heap.size = w.heap.size + 2 := by simp
  rw [s1] at HB_
  rw [s2] at HT
  clear s1 s2
  go_wp2_with fail
  refine (wakes3_w _).mono ?_
  rintro e w1 ⟨rfl, hB⟩
  replace HA := Aside0.mk ((hB.block _ (blk_lt HA.out)).trans HA.out)
  replace HB_ := Aside0.mk ((hB.block _ (blk_lt HB_.out)).trans HB_.out)
  replace HT := Aside0.mk ((hB.block _ (blk_lt HT.out)).trans HT.out)
  replace HB := Aside0.mk (HB.out.trans (hB.mono HB.out.size))
  clear hB
  have hc0 : World.cell? _ ⟨w.heap.size, 0, none⟩ = some (.int .u32 a.nr) := blk_cell HA.out 0
  have hc1 : World.cell? _ ⟨w.heap.size, 1, none⟩ = some (.int .u32 a.ar) := blk_cell HA.out 1
  have hc2 : World.cell? _ ⟨w.heap.size, 2, none⟩ = some (.int .u64 a.ip) := blk_cell HA.out 2
  have hc3 : World.cell? _ ⟨w.heap.size, 3, none⟩ = some (.int .u64 a.a0) := blk_cell HA.out 3
  have hc4 : World.cell? _ ⟨w.heap.size, 4, none⟩ = some (.int .u64 a.a1) := blk_cell HA.out 4
  have hc5 : World.cell? _ ⟨w.heap.size, 5, none⟩ = some (.int .u64 a.a2) := blk_cell HA.out 5
  have hc6 : World.cell? _ ⟨w.heap.size, 6, none⟩ = some (.int .u64 a.a3) := blk_cell HA.out 6
  have hc7 : World.cell? _ ⟨w.heap.size, 7, none⟩ = some (.int .u64 a.a4) := blk_cell HA.out 7
  have hc8 : World.cell? _ ⟨w.heap.size, 8, none⟩ = some (.int .u64 a.a5) := blk_cell HA.out 8
  have ht0 : World.cell? _ ⟨w.heap.size + 2, 0, none⟩ = some (.int .u32 (4 * (i : Int))) := blk_cell HT.out 0
  have ht1 : World.cell? _ ⟨w.heap.size + 2, 1, none⟩ = some (.int .u32 x) := blk_cell HT.out 1
  go_wp2_with fail
  clear hc0 hc1 hc2 hc3 hc4 hc5 hc6 hc7 hc8
  clear ht0 ht1
  refine (kW.out _).mono ?_
  rintro e w2 ⟨rfl, hB⟩
  replace HA := Aside0.mk ((hB.block _ (blk_lt HA.out)).trans HA.out)
  replace HB_ := Aside0.mk ((hB.block _ (blk_lt HB_.out)).trans HB_.out)
  replace HT := Aside0.mk ((hB.block _ (blk_lt HT.out)).trans HT.out)
  replace HB := Aside0.mk (HB.out.trans (hB.mono HB.out.size))
  clear hB
  clear kW
  have HX := Aside0.mk (heap_alloc_new w2 (.cells #[.int .u32 (w4 l2 0), .int .u32 (w4 l2 4), .int .u64 (w8 l2 8), .int .u64 (w8 l2 16), .int .u64 (w8 l2 24), .int .u64 (w8 l2 32), .int .u64 (w8 l2 40), .int .u64 (w8 l2 48), .int .u64 (w8 l2 56)] 58))
  replace HA := Aside0.mk (blk_alloc HA.out (.cells #[.int .u32 (w4 l2 0), .int .u32 (w4 l2 4), .int .u64 (w8 l2 8), .int .u64 (w8 l2 16), .int .u64 (w8 l2 24), .int .u64 (w8 l2 32), .int .u64 (w8 l2 40), .int .u64 (w8 l2 48), .int .u64 (w8 l2 56)] 58))
  replace HB_ := Aside0.mk (blk_alloc HB_.out (.cells #[.int .u32 (w4 l2 0), .int .u32 (w4 l2 4), .int .u64 (w8 l2 8), .int .u64 (w8 l2 16), .int .u64 (w8 l2 24), .int .u64 (w8 l2 32), .int .u64 (w8 l2 40), .int .u64 (w8 l2 48), .int .u64 (w8 l2 56)] 58))
  replace HT := Aside0.mk (blk_alloc HT.out (.cells #[.int .u32 (w4 l2 0), .int .u32 (w4 l2 4), .int .u64 (w8 l2 8), .int .u64 (w8 l2 16), .int .u64 (w8 l2 24), .int .u64 (w8 l2 32), .int .u64 (w8 l2 40), .int .u64 (w8 l2 48), .int .u64 (w8 l2 56)] 58))
  replace HB := Aside0.mk (below_alloc HB.out (.cells #[.int .u32 (w4 l2 0), .int .u32 (w4 l2 4), .int .u64 (w8 l2 8), .int .u64 (w8 l2 16), .int .u64 (w8 l2 24), .int .u64 (w8 l2 32), .int .u64 (w8 l2 40), .int .u64 (w8 l2 48), .int .u64 (w8 l2 56)] 58))
  skip
  go_upto_region 4 with fail
  obtain ⟨X, hX⟩ : ∃ X, X = w2.heap.size := ⟨_, rfl⟩
  rw [← hX] at HX ⊢
  clear hX
  generalize World.alloc w2 _ = W4 at HA HB_ HT HX HB ⊢
  have HS : OS a b (4 * (i : Int)) x #[.int .u32 (w4 l2 0), .int .u32 (w4 l2 4), .int .u64 (w8 l2 8), .int .u64 (w8 l2 16), .int .u64 (w8 l2 24), .int .u64 (w8 l2 32), .int .u64 (w8 l2 40), .int .u64 (w8 l2 48), .int .u64 (w8 l2 56)] w X W4 := ⟨HA.out, HB_.out, HT.out, HX.out, HB.out⟩
  clear HA HB_ HT HX HB
  go_upto_region 6 with fail
  have HX := Aside0.mk HS.hx
  have HT := Aside0.mk HS.ht
  have hc0 : World.cell? _ ⟨X, 0, none⟩ = some (.int .u32 (w4 l2 0)) := blk_cell HX.out 0
  have hc1 : World.cell? _ ⟨X, 1, none⟩ = some (.int .u32 (w4 l2 4)) := blk_cell HX.out 1
  have hc2 : World.cell? _ ⟨X, 2, none⟩ = some (.int .u64 (w8 l2 8)) := blk_cell HX.out 2
  have hc3 : World.cell? _ ⟨X, 3, none⟩ = some (.int .u64 (w8 l2 16)) := blk_cell HX.out 3
  have hc4 : World.cell? _ ⟨X, 4, none⟩ = some (.int .u64 (w8 l2 24)) := blk_cell HX.out 4
  have hc5 : World.cell? _ ⟨X, 5, none⟩ = some (.int .u64 (w8 l2 32)) := blk_cell HX.out 5
  have hc6 : World.cell? _ ⟨X, 6, none⟩ = some (.int .u64 (w8 l2 40)) := blk_cell HX.out 6
  have hc7 : World.cell? _ ⟨X, 7, none⟩ = some (.int .u64 (w8 l2 48)) := blk_cell HX.out 7
  have hc8 : World.cell? _ ⟨X, 8, none⟩ = some (.int .u64 (w8 l2 56)) := blk_cell HX.out 8
  have ht0 : World.cell? _ ⟨w.heap.size + 2, 0, none⟩ = some (.int .u32 (4 * (i : Int))) := blk_cell HT.out 0
  have ht1 : World.cell? _ ⟨w.heap.size + 2, 1, none⟩ = some (.int .u32 x) := blk_cell HT.out 1
  go_wp2_with fail
  clear hc0 hc1 hc2 hc3 hc4 hc5 hc6 hc7 hc8
  clear ht0 ht1
  clear HX HT
  refine (kX.out _).mono ?_
  rintro e w6 ⟨rfl, hB⟩
  replace HS := HS.step hB
  clear hB kX
  have HT := Aside0.mk HS.ht
  have ht0 : World.cell? _ ⟨w.heap.size + 2, 0, none⟩ = some (.int .u32 (4 * (i : Int))) := blk_cell HT.out 0
  have ht1 : World.cell? _ ⟨w.heap.size + 2, 1, none⟩ = some (.int .u32 x) := blk_cell HT.out 1
  go_upto_region 9 with fail
  clear ht0 ht1
  clear HT
  refine start_ (n := 8) (S := fun w' => OS a b (4 * (i : Int)) x #[.int .u32 (w4 l2 0), .int .u32 (w4 l2 4), .int .u64 (w8 l2 8), .int .u64 (w8 l2 16), .int .u64 (w8 l2 24), .int .u64 (w8 l2 32), .int .u64 (w8 l2 40), .int .u64 (w8 l2 48), .int .u64 (w8 l2 56)] w X w') (ds := []) #[false, false, false, false, false, false, false, false] (by kernel_rfl) rfl rfl (HS.drew) (fun hHeld => ?_); refine with_tabW once9.tab9 once9.bits9 (fun HT_ HW_ => ?_)
  clear HS
  generalize World.drew _ = W9 at hHeld ⊢
  refine take_ (i := 0) (N := some 51) (v := ?_) (a' := ?_) #[true, false, false, false, false, false, false, false] rfl rfl (take_ofW HT_.out HW_.out (by kernel_rfl)) (fun _ _ _ h => h) (Or.inl ⟨by rfl, ?_⟩) hHeld ?_ ?_
  rotate_left
  · intro w' hS_
    have hx0 : w'.cell? ⟨w.heap.size, 0, none⟩ = some (.int .u32 a.nr) := blk_cell hS_.ha 0
    have hx1 : w'.cell? ⟨w.heap.size, 1, none⟩ = some (.int .u32 a.ar) := blk_cell hS_.ha 1
    have hx2 : w'.cell? ⟨w.heap.size, 2, none⟩ = some (.int .u64 a.ip) := blk_cell hS_.ha 2
    have hx3 : w'.cell? ⟨w.heap.size, 3, none⟩ = some (.int .u64 a.a0) := blk_cell hS_.ha 3
    have hx4 : w'.cell? ⟨w.heap.size, 4, none⟩ = some (.int .u64 a.a1) := blk_cell hS_.ha 4
    have hx5 : w'.cell? ⟨w.heap.size, 5, none⟩ = some (.int .u64 a.a2) := blk_cell hS_.ha 5
    have hx6 : w'.cell? ⟨w.heap.size, 6, none⟩ = some (.int .u64 a.a3) := blk_cell hS_.ha 6
    have hx7 : w'.cell? ⟨w.heap.size, 7, none⟩ = some (.int .u64 a.a4) := blk_cell hS_.ha 7
    have hx8 : w'.cell? ⟨w.heap.size, 8, none⟩ = some (.int .u64 a.a5) := blk_cell hS_.ha 8
    go_simp
    with_reducible rfl
  rotate_left
  · (try simp only [Act.put, List.setIfInBounds_toArray, List.set_cons_zero, List.set_cons_succ])
    rfl
  refine take_ (i := 2) (N := some 53) (v := ?_) (a' := ?_) #[true, false, true, false, false, false, false, false] rfl rfl (take_ofW HT_.out HW_.out (by kernel_rfl)) (fun _ _ _ h => h) (Or.inl ⟨by rfl, ?_⟩) hHeld ?_ ?_
  rotate_left
  · intro w' hS_
    have hx0 : w'.cell? ⟨X, 0, none⟩ = some (.int .u32 (w4 l2 0)) := blk_cell hS_.hx 0
    have hx1 : w'.cell? ⟨X, 1, none⟩ = some (.int .u32 (w4 l2 4)) := blk_cell hS_.hx 1
    have hx2 : w'.cell? ⟨X, 2, none⟩ = some (.int .u64 (w8 l2 8)) := blk_cell hS_.hx 2
    have hx3 : w'.cell? ⟨X, 3, none⟩ = some (.int .u64 (w8 l2 16)) := blk_cell hS_.hx 3
    have hx4 : w'.cell? ⟨X, 4, none⟩ = some (.int .u64 (w8 l2 24)) := blk_cell hS_.hx 4
    have hx5 : w'.cell? ⟨X, 5, none⟩ = some (.int .u64 (w8 l2 32)) := blk_cell hS_.hx 5
    have hx6 : w'.cell? ⟨X, 6, none⟩ = some (.int .u64 (w8 l2 40)) := blk_cell hS_.hx 6
    have hx7 : w'.cell? ⟨X, 7, none⟩ = some (.int .u64 (w8 l2 48)) := blk_cell hS_.hx 7
    have hx8 : w'.cell? ⟨X, 8, none⟩ = some (.int .u64 (w8 l2 56)) := blk_cell hS_.hx 8
    go_simp
    with_reducible rfl
  rotate_left
  · (try simp only [Act.put, List.setIfInBounds_toArray, List.set_cons_zero, List.set_cons_succ])
    rfl
  refine join_ (σ := Nat × Nat) 2 #[true, true, true, true, true, true, false, false] (fun s => [(52, .agg #[.int .u32 (w4 a.bytes 0), .int .u32 (w4 a.bytes 4), .int .u32 (w4 a.bytes 8), .int .u32 (w4 a.bytes 12), .int .u32 (w4 a.bytes 16), .int .u32 (w4 a.bytes 20), .int .u32 (w4 a.bytes 24), .int .u32 (w4 a.bytes 28), .int .u32 (w4 a.bytes 32), .int .u32 (w4 a.bytes 36), .int .u32 (w4 a.bytes 40), .int .u32 (w4 a.bytes 44), .int .u32 (w4 a.bytes 48), .int .u32 (w4 a.bytes 52), .int .u32 (w4 a.bytes 56), .int .u32 (w4 a.bytes 60)]), (54, .agg #[.int .u32 (w4 l2 0), .int .u32 (w4 l2 4), .int .u32 (w4 l2 8), .int .u32 (w4 l2 12), .int .u32 (w4 l2 16), .int .u32 (w4 l2 20), .int .u32 (w4 l2 24), .int .u32 (w4 l2 28), .int .u32 (w4 l2 32), .int .u32 (w4 l2 36), .int .u32 (w4 l2 40), .int .u32 (w4 l2 44), .int .u32 (w4 l2 48), .int .u32 (w4 l2 52), .int .u32 (w4 l2 56), .int .u32 (w4 l2 60)]), (11, .pointer (some ⟨s.1, 0, none⟩)), (12, .pointer (some ⟨s.2, 0, none⟩))]) (fun s w' => OS a b (4 * (i : Int)) x #[.int .u32 (w4 l2 0), .int .u32 (w4 l2 4), .int .u64 (w8 l2 8), .int .u64 (w8 l2 16), .int .u64 (w8 l2 24), .int .u64 (w8 l2 32), .int .u64 (w8 l2 40), .int .u64 (w8 l2 48), .int .u64 (w8 l2 56)] w X w' ∧ Aside0 (w'.heap[s.1]? = some (.cells #[.int .u32 0, .int .u32 0, .int .u32 0, .int .u32 0, .int .u32 0, .int .u32 0, .int .u32 0, .int .u32 0, .int .u32 0, .int .u32 0, .int .u32 0, .int .u32 0, .int .u32 0, .int .u32 0, .int .u32 0, .int .u32 0] 66 (0, 0))) ∧ Aside0 (w'.heap[s.2]? = some (.cells #[.int .u32 0, .int .u32 0, .int .u32 0, .int .u32 0, .int .u32 0, .int .u32 0, .int .u32 0, .int .u32 0, .int .u32 0, .int .u32 0, .int .u32 0, .int .u32 0, .int .u32 0, .int .u32 0, .int .u32 0, .int .u32 0] 66 (0, 0))) ∧ s.1 ≠ s.2 ∧ w.heap.size + 2 < s.1 ∧ X < s.1 ∧ w.heap.size + 2 < s.2 ∧ X < s.2) ?_ (fun J => ?_)
  rotate_left
  · skip
    refine three_ (i := 1) (j := 4) (k := 5) (Ni := some 52) (Nj := some 11) (Nk := some 12) #[true, true, true, false, false, false, false, false] #[true, false, true, false, true, false, false, false] #[true, false, true, false, false, true, false, false] rfl rfl rfl rfl rfl rfl (three_of HT_.out (by kernel_rfl)) (by decide) (by decide) (by decide) (fun K hK => ?_) (fun K hK => ?_) (fun K hK => ?_) 
    · skip
      refine goes_ Try.func44 (by kernel_rfl) rfl #[.agg #[.int .u32 a.nr, .int .u32 a.ar, .int .u64 a.ip, .int .u64 a.a0, .int .u64 a.a1, .int .u64 a.a2, .int .u64 a.a3, .int .u64 a.a4, .int .u64 a.a5]] (by rfl) rfl rfl (by (try simp only [List.map_toArray, List.map_cons, List.map_nil]); first | done | rfl) ?_
      refine (kA.out _).mono ?_
      rintro e u1 ⟨rfl, hB⟩
      refine ⟨_, rfl, ?_⟩
      have hS2 := hHeld.step hB
      clear hB
      clear hHeld
      refine hK.out _ _ hS2 (fun hHeld => ?_)
      clear hK K hS2
      refine norm_ (a' := ?_) ?_ ?_
      rotate_left
      · show Act.put _ (some 52) _ = _
        (try simp only [Act.put, List.setIfInBounds_toArray, List.set_cons_zero, List.set_cons_succ])
        rfl
      refine three_ (i := 3) (j := 4) (k := 5) (Ni := some 54) (Nj := some 11) (Nk := some 12) #[true, true, true, true, false, false, false, false] #[true, true, true, false, true, false, false, false] #[true, true, true, false, false, true, false, false] rfl rfl rfl rfl rfl rfl (three_of HT_.out (by kernel_rfl)) (by decide) (by decide) (by decide) (fun K hK => ?_) (fun K hK => ?_) (fun K hK => ?_) 
      · skip
        refine goes_ Try.func44 (by kernel_rfl) rfl #[.agg #[.int .u32 (w4 l2 0), .int .u32 (w4 l2 4), .int .u64 (w8 l2 8), .int .u64 (w8 l2 16), .int .u64 (w8 l2 24), .int .u64 (w8 l2 32), .int .u64 (w8 l2 40), .int .u64 (w8 l2 48), .int .u64 (w8 l2 56)]] (by rfl) rfl rfl (by (try simp only [List.map_toArray, List.map_cons, List.map_nil]); first | done | rfl) ?_
        refine (kY.out _).mono ?_
        rintro e u2 ⟨rfl, hB⟩
        refine ⟨_, rfl, ?_⟩
        have hS2 := hHeld.step hB
        clear hB
        clear hHeld
        refine hK.out _ _ hS2 (fun hHeld => ?_)
        clear hK K hS2
        refine norm_ (a' := ?_) ?_ ?_
        rotate_left
        · show Act.put _ (some 54) _ = _
          (try simp only [Act.put, List.setIfInBounds_toArray, List.set_cons_zero, List.set_cons_succ])
          rfl
        refine two_ (i := 4) (j := 5) (Ni := some 11) (Nj := some 12) #[true, true, true, true, true, false, false, false] #[true, true, true, true, false, true, false, false] rfl rfl rfl rfl (two_of HT_.out (by kernel_rfl)) (by decide) (by decide) (fun K hK => ?_) (fun K hK => ?_) 
        · skip
          refine value_ (v := ?_) (w1 := ?_) (by rfl) rfl ?_ ?_
          rotate_left 2
          · go_simp
            (constructor <;> with_reducible rfl)
          have g1_4 := blk_lt hHeld.ht
          have g2_4 := blk_lt hHeld.hx
          have hS2 := hHeld.alloc (.cells #[.int .u32 0, .int .u32 0, .int .u32 0, .int .u32 0, .int .u32 0, .int .u32 0, .int .u32 0, .int .u32 0, .int .u32 0, .int .u32 0, .int .u32 0, .int .u32 0, .int .u32 0, .int .u32 0, .int .u32 0, .int .u32 0] 66)
          have HY4 := Aside0.mk (heap_alloc_new u2 (.cells #[.int .u32 0, .int .u32 0, .int .u32 0, .int .u32 0, .int .u32 0, .int .u32 0, .int .u32 0, .int .u32 0, .int .u32 0, .int .u32 0, .int .u32 0, .int .u32 0, .int .u32 0, .int .u32 0, .int .u32 0, .int .u32 0] 66))
          clear hHeld
          refine hK.out _ _ hS2 (fun hHeld => ?_)
          clear hK K hS2
          refine norm_ (a' := ?_) ?_ ?_
          rotate_left
          · show Act.put _ (some 11) _ = _
            (try simp only [Act.put, List.setIfInBounds_toArray, List.set_cons_zero, List.set_cons_succ])
            rfl
          obtain ⟨Y4, hY4⟩ : ∃ Y, Y = u2.heap.size := ⟨_, rfl⟩
          rw [← hY4] at HY4 g1_4 g2_4 ⊢
          clear hY4
          generalize World.alloc u2 _ = u3 at  HY4 hHeld ⊢
          refine one_ (i := 5) (N := some 12) #[true, true, true, true, true, true, false, false] rfl rfl (one_of HT_.out (by kernel_rfl)) (by decide) (fun K hK => ?_) 
          · skip
            refine value_ (v := ?_) (w1 := ?_) (by rfl) rfl ?_ ?_
            rotate_left 2
            · go_simp
              (constructor <;> with_reducible rfl)
            have g1_5 := blk_lt hHeld.ht
            have g2_5 := blk_lt hHeld.hx
            have g3_5 := blk_lt HY4.out
            have hS2 := hHeld.alloc (.cells #[.int .u32 0, .int .u32 0, .int .u32 0, .int .u32 0, .int .u32 0, .int .u32 0, .int .u32 0, .int .u32 0, .int .u32 0, .int .u32 0, .int .u32 0, .int .u32 0, .int .u32 0, .int .u32 0, .int .u32 0, .int .u32 0] 66)
            have HY5 := Aside0.mk (heap_alloc_new u3 (.cells #[.int .u32 0, .int .u32 0, .int .u32 0, .int .u32 0, .int .u32 0, .int .u32 0, .int .u32 0, .int .u32 0, .int .u32 0, .int .u32 0, .int .u32 0, .int .u32 0, .int .u32 0, .int .u32 0, .int .u32 0, .int .u32 0] 66))
            replace HY4 := Aside0.mk (blk_alloc HY4.out (.cells #[.int .u32 0, .int .u32 0, .int .u32 0, .int .u32 0, .int .u32 0, .int .u32 0, .int .u32 0, .int .u32 0, .int .u32 0, .int .u32 0, .int .u32 0, .int .u32 0, .int .u32 0, .int .u32 0, .int .u32 0, .int .u32 0] 66))
            clear hHeld
            refine hK.out _ _ hS2 (fun hHeld => ?_)
            clear hK K hS2
            refine norm_ (a' := ?_) ?_ ?_
            rotate_left
            · show Act.put _ (some 12) _ = _
              (try simp only [Act.put, List.setIfInBounds_toArray, List.set_cons_zero, List.set_cons_succ])
              rfl
            obtain ⟨Y5, hY5⟩ : ∃ Y, Y = u3.heap.size := ⟨_, rfl⟩
            rw [← hY5] at HY5 g1_5 g2_5 g3_5 ⊢
            clear hY5
            generalize World.alloc u3 _ = u4 at HY4 HY5 hHeld ⊢
            refine norm_ ?_ (J (Y4, Y5) _ ⟨hHeld, HY4, HY5, by show Y4 ≠ Y5; omega, g1_4, g2_4, g1_5, g2_5⟩)
            try simp only [putAll, Act.put, List.setIfInBounds_toArray, List.set_cons_zero, List.set_cons_succ]
            try rfl
        · skip
          refine value_ (v := ?_) (w1 := ?_) (by rfl) rfl ?_ ?_
          rotate_left 2
          · go_simp
            (constructor <;> with_reducible rfl)
          have g1_5 := blk_lt hHeld.ht
          have g2_5 := blk_lt hHeld.hx
          have hS2 := hHeld.alloc (.cells #[.int .u32 0, .int .u32 0, .int .u32 0, .int .u32 0, .int .u32 0, .int .u32 0, .int .u32 0, .int .u32 0, .int .u32 0, .int .u32 0, .int .u32 0, .int .u32 0, .int .u32 0, .int .u32 0, .int .u32 0, .int .u32 0] 66)
          have HY5 := Aside0.mk (heap_alloc_new u2 (.cells #[.int .u32 0, .int .u32 0, .int .u32 0, .int .u32 0, .int .u32 0, .int .u32 0, .int .u32 0, .int .u32 0, .int .u32 0, .int .u32 0, .int .u32 0, .int .u32 0, .int .u32 0, .int .u32 0, .int .u32 0, .int .u32 0] 66))
          clear hHeld
          refine hK.out _ _ hS2 (fun hHeld => ?_)
          clear hK K hS2
          refine norm_ (a' := ?_) ?_ ?_
          rotate_left
          · show Act.put _ (some 12) _ = _
            (try simp only [Act.put, List.setIfInBounds_toArray, List.set_cons_zero, List.set_cons_succ])
            rfl
          obtain ⟨Y5, hY5⟩ : ∃ Y, Y = u2.heap.size := ⟨_, rfl⟩
          rw [← hY5] at HY5 g1_5 g2_5 ⊢
          clear hY5
          generalize World.alloc u2 _ = u5 at  HY5 hHeld ⊢
          refine one_ (i := 4) (N := some 11) #[true, true, true, true, true, true, false, false] rfl rfl (one_of HT_.out (by kernel_rfl)) (by decide) (fun K hK => ?_) 
          · skip
            refine value_ (v := ?_) (w1 := ?_) (by rfl) rfl ?_ ?_
            rotate_left 2
            · go_simp
              (constructor <;> with_reducible rfl)
            have g1_4 := blk_lt hHeld.ht
            have g2_4 := blk_lt hHeld.hx
            have g3_4 := blk_lt HY5.out
            have hS2 := hHeld.alloc (.cells #[.int .u32 0, .int .u32 0, .int .u32 0, .int .u32 0, .int .u32 0, .int .u32 0, .int .u32 0, .int .u32 0, .int .u32 0, .int .u32 0, .int .u32 0, .int .u32 0, .int .u32 0, .int .u32 0, .int .u32 0, .int .u32 0] 66)
            have HY4 := Aside0.mk (heap_alloc_new u5 (.cells #[.int .u32 0, .int .u32 0, .int .u32 0, .int .u32 0, .int .u32 0, .int .u32 0, .int .u32 0, .int .u32 0, .int .u32 0, .int .u32 0, .int .u32 0, .int .u32 0, .int .u32 0, .int .u32 0, .int .u32 0, .int .u32 0] 66))
            replace HY5 := Aside0.mk (blk_alloc HY5.out (.cells #[.int .u32 0, .int .u32 0, .int .u32 0, .int .u32 0, .int .u32 0, .int .u32 0, .int .u32 0, .int .u32 0, .int .u32 0, .int .u32 0, .int .u32 0, .int .u32 0, .int .u32 0, .int .u32 0, .int .u32 0, .int .u32 0] 66))
            clear hHeld
            refine hK.out _ _ hS2 (fun hHeld => ?_)
            clear hK K hS2
            refine norm_ (a' := ?_) ?_ ?_
            rotate_left
            · show Act.put _ (some 11) _ = _
              (try simp only [Act.put, List.setIfInBounds_toArray, List.set_cons_zero, List.set_cons_succ])
              rfl
            obtain ⟨Y4, hY4⟩ : ∃ Y, Y = u5.heap.size := ⟨_, rfl⟩
            rw [← hY4] at HY4 g1_4 g2_4 g3_4 ⊢
            clear hY4
            generalize World.alloc u5 _ = u6 at HY5 HY4 hHeld ⊢
            refine norm_ ?_ (J (Y4, Y5) _ ⟨hHeld, HY4, HY5, by show Y4 ≠ Y5; omega, g1_4, g2_4, g1_5, g2_5⟩)
            try simp only [putAll, Act.put, List.setIfInBounds_toArray, List.set_cons_zero, List.set_cons_succ]
            try rfl
      · skip
        refine value_ (v := ?_) (w1 := ?_) (by rfl) rfl ?_ ?_
        rotate_left 2
        · go_simp
          (constructor <;> with_reducible rfl)
        have g1_4 := blk_lt hHeld.ht
        have g2_4 := blk_lt hHeld.hx
        have hS2 := hHeld.alloc (.cells #[.int .u32 0, .int .u32 0, .int .u32 0, .int .u32 0, .int .u32 0, .int .u32 0, .int .u32 0, .int .u32 0, .int .u32 0, .int .u32 0, .int .u32 0, .int .u32 0, .int .u32 0, .int .u32 0, .int .u32 0, .int .u32 0] 66)
        have HY4 := Aside0.mk (heap_alloc_new u1 (.cells #[.int .u32 0, .int .u32 0, .int .u32 0, .int .u32 0, .int .u32 0, .int .u32 0, .int .u32 0, .int .u32 0, .int .u32 0, .int .u32 0, .int .u32 0, .int .u32 0, .int .u32 0, .int .u32 0, .int .u32 0, .int .u32 0] 66))
        clear hHeld
        refine hK.out _ _ hS2 (fun hHeld => ?_)
        clear hK K hS2
        refine norm_ (a' := ?_) ?_ ?_
        rotate_left
        · show Act.put _ (some 11) _ = _
          (try simp only [Act.put, List.setIfInBounds_toArray, List.set_cons_zero, List.set_cons_succ])
          rfl
        obtain ⟨Y4, hY4⟩ : ∃ Y, Y = u1.heap.size := ⟨_, rfl⟩
        rw [← hY4] at HY4 g1_4 g2_4 ⊢
        clear hY4
        generalize World.alloc u1 _ = u7 at  HY4 hHeld ⊢
        refine two_ (i := 3) (j := 5) (Ni := some 54) (Nj := some 12) #[true, true, true, true, true, false, false, false] #[true, true, true, false, true, true, false, false] rfl rfl rfl rfl (two_of HT_.out (by kernel_rfl)) (by decide) (by decide) (fun K hK => ?_) (fun K hK => ?_) 
        · skip
          refine goes_ Try.func44 (by kernel_rfl) rfl #[.agg #[.int .u32 (w4 l2 0), .int .u32 (w4 l2 4), .int .u64 (w8 l2 8), .int .u64 (w8 l2 16), .int .u64 (w8 l2 24), .int .u64 (w8 l2 32), .int .u64 (w8 l2 40), .int .u64 (w8 l2 48), .int .u64 (w8 l2 56)]] (by rfl) rfl rfl (by (try simp only [List.map_toArray, List.map_cons, List.map_nil]); first | done | rfl) ?_
          refine (kY.out _).mono ?_
          rintro e u8 ⟨rfl, hB⟩
          refine ⟨_, rfl, ?_⟩
          have hS2 := hHeld.step hB
          replace HY4 := Aside0.mk ((hB.block _ (blk_lt HY4.out)).trans HY4.out)
          clear hB
          clear hHeld
          refine hK.out _ _ hS2 (fun hHeld => ?_)
          clear hK K hS2
          refine norm_ (a' := ?_) ?_ ?_
          rotate_left
          · show Act.put _ (some 54) _ = _
            (try simp only [Act.put, List.setIfInBounds_toArray, List.set_cons_zero, List.set_cons_succ])
            rfl
          refine one_ (i := 5) (N := some 12) #[true, true, true, true, true, true, false, false] rfl rfl (one_of HT_.out (by kernel_rfl)) (by decide) (fun K hK => ?_) 
          · skip
            refine value_ (v := ?_) (w1 := ?_) (by rfl) rfl ?_ ?_
            rotate_left 2
            · go_simp
              (constructor <;> with_reducible rfl)
            have g1_5 := blk_lt hHeld.ht
            have g2_5 := blk_lt hHeld.hx
            have g3_5 := blk_lt HY4.out
            have hS2 := hHeld.alloc (.cells #[.int .u32 0, .int .u32 0, .int .u32 0, .int .u32 0, .int .u32 0, .int .u32 0, .int .u32 0, .int .u32 0, .int .u32 0, .int .u32 0, .int .u32 0, .int .u32 0, .int .u32 0, .int .u32 0, .int .u32 0, .int .u32 0] 66)
            have HY5 := Aside0.mk (heap_alloc_new u8 (.cells #[.int .u32 0, .int .u32 0, .int .u32 0, .int .u32 0, .int .u32 0, .int .u32 0, .int .u32 0, .int .u32 0, .int .u32 0, .int .u32 0, .int .u32 0, .int .u32 0, .int .u32 0, .int .u32 0, .int .u32 0, .int .u32 0] 66))
            replace HY4 := Aside0.mk (blk_alloc HY4.out (.cells #[.int .u32 0, .int .u32 0, .int .u32 0, .int .u32 0, .int .u32 0, .int .u32 0, .int .u32 0, .int .u32 0, .int .u32 0, .int .u32 0, .int .u32 0, .int .u32 0, .int .u32 0, .int .u32 0, .int .u32 0, .int .u32 0] 66))
            clear hHeld
            refine hK.out _ _ hS2 (fun hHeld => ?_)
            clear hK K hS2
            refine norm_ (a' := ?_) ?_ ?_
            rotate_left
            · show Act.put _ (some 12) _ = _
              (try simp only [Act.put, List.setIfInBounds_toArray, List.set_cons_zero, List.set_cons_succ])
              rfl
            obtain ⟨Y5, hY5⟩ : ∃ Y, Y = u8.heap.size := ⟨_, rfl⟩
            rw [← hY5] at HY5 g1_5 g2_5 g3_5 ⊢
            clear hY5
            generalize World.alloc u8 _ = u9 at HY4 HY5 hHeld ⊢
            refine norm_ ?_ (J (Y4, Y5) _ ⟨hHeld, HY4, HY5, by show Y4 ≠ Y5; omega, g1_4, g2_4, g1_5, g2_5⟩)
            try simp only [putAll, Act.put, List.setIfInBounds_toArray, List.set_cons_zero, List.set_cons_succ]
            try rfl
        · skip
          refine value_ (v := ?_) (w1 := ?_) (by rfl) rfl ?_ ?_
          rotate_left 2
          · go_simp
            (constructor <;> with_reducible rfl)
          have g1_5 := blk_lt hHeld.ht
          have g2_5 := blk_lt hHeld.hx
          have g3_5 := blk_lt HY4.out
          have hS2 := hHeld.alloc (.cells #[.int .u32 0, .int .u32 0, .int .u32 0, .int .u32 0, .int .u32 0, .int .u32 0, .int .u32 0, .int .u32 0, .int .u32 0, .int .u32 0, .int .u32 0, .int .u32 0, .int .u32 0, .int .u32 0, .int .u32 0, .int .u32 0] 66)
          have HY5 := Aside0.mk (heap_alloc_new u7 (.cells #[.int .u32 0, .int .u32 0, .int .u32 0, .int .u32 0, .int .u32 0, .int .u32 0, .int .u32 0, .int .u32 0, .int .u32 0, .int .u32 0, .int .u32 0, .int .u32 0, .int .u32 0, .int .u32 0, .int .u32 0, .int .u32 0] 66))
          replace HY4 := Aside0.mk (blk_alloc HY4.out (.cells #[.int .u32 0, .int .u32 0, .int .u32 0, .int .u32 0, .int .u32 0, .int .u32 0, .int .u32 0, .int .u32 0, .int .u32 0, .int .u32 0, .int .u32 0, .int .u32 0, .int .u32 0, .int .u32 0, .int .u32 0, .int .u32 0] 66))
          clear hHeld
          refine hK.out _ _ hS2 (fun hHeld => ?_)
          clear hK K hS2
          refine norm_ (a' := ?_) ?_ ?_
          rotate_left
          · show Act.put _ (some 12) _ = _
            (try simp only [Act.put, List.setIfInBounds_toArray, List.set_cons_zero, List.set_cons_succ])
            rfl
          obtain ⟨Y5, hY5⟩ : ∃ Y, Y = u7.heap.size := ⟨_, rfl⟩
          rw [← hY5] at HY5 g1_5 g2_5 g3_5 ⊢
          clear hY5
          generalize World.alloc u7 _ = u10 at HY4 HY5 hHeld ⊢
          refine one_ (i := 3) (N := some 54) #[true, true, true, true, true, true, false, false] rfl rfl (one_of HT_.out (by kernel_rfl)) (by decide) (fun K hK => ?_) 
          · skip
            refine goes_ Try.func44 (by kernel_rfl) rfl #[.agg #[.int .u32 (w4 l2 0), .int .u32 (w4 l2 4), .int .u64 (w8 l2 8), .int .u64 (w8 l2 16), .int .u64 (w8 l2 24), .int .u64 (w8 l2 32), .int .u64 (w8 l2 40), .int .u64 (w8 l2 48), .int .u64 (w8 l2 56)]] (by rfl) rfl rfl (by (try simp only [List.map_toArray, List.map_cons, List.map_nil]); first | done | rfl) ?_
            refine (kY.out _).mono ?_
            rintro e u11 ⟨rfl, hB⟩
            refine ⟨_, rfl, ?_⟩
            have hS2 := hHeld.step hB
            replace HY4 := Aside0.mk ((hB.block _ (blk_lt HY4.out)).trans HY4.out)
            replace HY5 := Aside0.mk ((hB.block _ (blk_lt HY5.out)).trans HY5.out)
            clear hB
            clear hHeld
            refine hK.out _ _ hS2 (fun hHeld => ?_)
            clear hK K hS2
            refine norm_ (a' := ?_) ?_ ?_
            rotate_left
            · show Act.put _ (some 54) _ = _
              (try simp only [Act.put, List.setIfInBounds_toArray, List.set_cons_zero, List.set_cons_succ])
              rfl
            refine norm_ ?_ (J (Y4, Y5) _ ⟨hHeld, HY4, HY5, by show Y4 ≠ Y5; omega, g1_4, g2_4, g1_5, g2_5⟩)
            try simp only [putAll, Act.put, List.setIfInBounds_toArray, List.set_cons_zero, List.set_cons_succ]
            try rfl
      · skip
        refine value_ (v := ?_) (w1 := ?_) (by rfl) rfl ?_ ?_
        rotate_left 2
        · go_simp
          (constructor <;> with_reducible rfl)
        have g1_5 := blk_lt hHeld.ht
        have g2_5 := blk_lt hHeld.hx
        have hS2 := hHeld.alloc (.cells #[.int .u32 0, .int .u32 0, .int .u32 0, .int .u32 0, .int .u32 0, .int .u32 0, .int .u32 0, .int .u32 0, .int .u32 0, .int .u32 0, .int .u32 0, .int .u32 0, .int .u32 0, .int .u32 0, .int .u32 0, .int .u32 0] 66)
        have HY5 := Aside0.mk (heap_alloc_new u1 (.cells #[.int .u32 0, .int .u32 0, .int .u32 0, .int .u32 0, .int .u32 0, .int .u32 0, .int .u32 0, .int .u32 0, .int .u32 0, .int .u32 0, .int .u32 0, .int .u32 0, .int .u32 0, .int .u32 0, .int .u32 0, .int .u32 0] 66))
        clear hHeld
        refine hK.out _ _ hS2 (fun hHeld => ?_)
        clear hK K hS2
        refine norm_ (a' := ?_) ?_ ?_
        rotate_left
        · show Act.put _ (some 12) _ = _
          (try simp only [Act.put, List.setIfInBounds_toArray, List.set_cons_zero, List.set_cons_succ])
          rfl
        obtain ⟨Y5, hY5⟩ : ∃ Y, Y = u1.heap.size := ⟨_, rfl⟩
        rw [← hY5] at HY5 g1_5 g2_5 ⊢
        clear hY5
        generalize World.alloc u1 _ = u12 at  HY5 hHeld ⊢
        refine two_ (i := 3) (j := 4) (Ni := some 54) (Nj := some 11) #[true, true, true, true, false, true, false, false] #[true, true, true, false, true, true, false, false] rfl rfl rfl rfl (two_of HT_.out (by kernel_rfl)) (by decide) (by decide) (fun K hK => ?_) (fun K hK => ?_) 
        · skip
          refine goes_ Try.func44 (by kernel_rfl) rfl #[.agg #[.int .u32 (w4 l2 0), .int .u32 (w4 l2 4), .int .u64 (w8 l2 8), .int .u64 (w8 l2 16), .int .u64 (w8 l2 24), .int .u64 (w8 l2 32), .int .u64 (w8 l2 40), .int .u64 (w8 l2 48), .int .u64 (w8 l2 56)]] (by rfl) rfl rfl (by (try simp only [List.map_toArray, List.map_cons, List.map_nil]); first | done | rfl) ?_
          refine (kY.out _).mono ?_
          rintro e u13 ⟨rfl, hB⟩
          refine ⟨_, rfl, ?_⟩
          have hS2 := hHeld.step hB
          replace HY5 := Aside0.mk ((hB.block _ (blk_lt HY5.out)).trans HY5.out)
          clear hB
          clear hHeld
          refine hK.out _ _ hS2 (fun hHeld => ?_)
          clear hK K hS2
          refine norm_ (a' := ?_) ?_ ?_
          rotate_left
          · show Act.put _ (some 54) _ = _
            (try simp only [Act.put, List.setIfInBounds_toArray, List.set_cons_zero, List.set_cons_succ])
            rfl
          refine one_ (i := 4) (N := some 11) #[true, true, true, true, true, true, false, false] rfl rfl (one_of HT_.out (by kernel_rfl)) (by decide) (fun K hK => ?_) 
          · skip
            refine value_ (v := ?_) (w1 := ?_) (by rfl) rfl ?_ ?_
            rotate_left 2
            · go_simp
              (constructor <;> with_reducible rfl)
            have g1_4 := blk_lt hHeld.ht
            have g2_4 := blk_lt hHeld.hx
            have g3_4 := blk_lt HY5.out
            have hS2 := hHeld.alloc (.cells #[.int .u32 0, .int .u32 0, .int .u32 0, .int .u32 0, .int .u32 0, .int .u32 0, .int .u32 0, .int .u32 0, .int .u32 0, .int .u32 0, .int .u32 0, .int .u32 0, .int .u32 0, .int .u32 0, .int .u32 0, .int .u32 0] 66)
            have HY4 := Aside0.mk (heap_alloc_new u13 (.cells #[.int .u32 0, .int .u32 0, .int .u32 0, .int .u32 0, .int .u32 0, .int .u32 0, .int .u32 0, .int .u32 0, .int .u32 0, .int .u32 0, .int .u32 0, .int .u32 0, .int .u32 0, .int .u32 0, .int .u32 0, .int .u32 0] 66))
            replace HY5 := Aside0.mk (blk_alloc HY5.out (.cells #[.int .u32 0, .int .u32 0, .int .u32 0, .int .u32 0, .int .u32 0, .int .u32 0, .int .u32 0, .int .u32 0, .int .u32 0, .int .u32 0, .int .u32 0, .int .u32 0, .int .u32 0, .int .u32 0, .int .u32 0, .int .u32 0] 66))
            clear hHeld
            refine hK.out _ _ hS2 (fun hHeld => ?_)
            clear hK K hS2
            refine norm_ (a' := ?_) ?_ ?_
            rotate_left
            · show Act.put _ (some 11) _ = _
              (try simp only [Act.put, List.setIfInBounds_toArray, List.set_cons_zero, List.set_cons_succ])
              rfl
            obtain ⟨Y4, hY4⟩ : ∃ Y, Y = u13.heap.size := ⟨_, rfl⟩
            rw [← hY4] at HY4 g1_4 g2_4 g3_4 ⊢
            clear hY4
            generalize World.alloc u13 _ = u14 at HY5 HY4 hHeld ⊢
            refine norm_ ?_ (J (Y4, Y5) _ ⟨hHeld, HY4, HY5, by show Y4 ≠ Y5; omega, g1_4, g2_4, g1_5, g2_5⟩)
            try simp only [putAll, Act.put, List.setIfInBounds_toArray, List.set_cons_zero, List.set_cons_succ]
            try rfl
        · skip
          refine value_ (v := ?_) (w1 := ?_) (by rfl) rfl ?_ ?_
          rotate_left 2
          · go_simp
            (constructor <;> with_reducible rfl)
          have g1_4 := blk_lt hHeld.ht
          have g2_4 := blk_lt hHeld.hx
          have g3_4 := blk_lt HY5.out
          have hS2 := hHeld.alloc (.cells #[.int .u32 0, .int .u32 0, .int .u32 0, .int .u32 0, .int .u32 0, .int .u32 0, .int .u32 0, .int .u32 0, .int .u32 0, .int .u32 0, .int .u32 0, .int .u32 0, .int .u32 0, .int .u32 0, .int .u32 0, .int .u32 0] 66)
          have HY4 := Aside0.mk (heap_alloc_new u12 (.cells #[.int .u32 0, .int .u32 0, .int .u32 0, .int .u32 0, .int .u32 0, .int .u32 0, .int .u32 0, .int .u32 0, .int .u32 0, .int .u32 0, .int .u32 0, .int .u32 0, .int .u32 0, .int .u32 0, .int .u32 0, .int .u32 0] 66))
          replace HY5 := Aside0.mk (blk_alloc HY5.out (.cells #[.int .u32 0, .int .u32 0, .int .u32 0, .int .u32 0, .int .u32 0, .int .u32 0, .int .u32 0, .int .u32 0, .int .u32 0, .int .u32 0, .int .u32 0, .int .u32 0, .int .u32 0, .int .u32 0, .int .u32 0, .int .u32 0] 66))
          clear hHeld
          refine hK.out _ _ hS2 (fun hHeld => ?_)
          clear hK K hS2
          refine norm_ (a' := ?_) ?_ ?_
          rotate_left
          · show Act.put _ (some 11) _ = _
            (try simp only [Act.put, List.setIfInBounds_toArray, List.set_cons_zero, List.set_cons_succ])
            rfl
          obtain ⟨Y4, hY4⟩ : ∃ Y, Y = u12.heap.size := ⟨_, rfl⟩
          rw [← hY4] at HY4 g1_4 g2_4 g3_4 ⊢
          clear hY4
          generalize World.alloc u12 _ = u15 at HY5 HY4 hHeld ⊢
          refine one_ (i := 3) (N := some 54) #[true, true, true, true, true, true, false, false] rfl rfl (one_of HT_.out (by kernel_rfl)) (by decide) (fun K hK => ?_) 
          · skip
            refine goes_ Try.func44 (by kernel_rfl) rfl #[.agg #[.int .u32 (w4 l2 0), .int .u32 (w4 l2 4), .int .u64 (w8 l2 8), .int .u64 (w8 l2 16), .int .u64 (w8 l2 24), .int .u64 (w8 l2 32), .int .u64 (w8 l2 40), .int .u64 (w8 l2 48), .int .u64 (w8 l2 56)]] (by rfl) rfl rfl (by (try simp only [List.map_toArray, List.map_cons, List.map_nil]); first | done | rfl) ?_
            refine (kY.out _).mono ?_
            rintro e u16 ⟨rfl, hB⟩
            refine ⟨_, rfl, ?_⟩
            have hS2 := hHeld.step hB
            replace HY5 := Aside0.mk ((hB.block _ (blk_lt HY5.out)).trans HY5.out)
            replace HY4 := Aside0.mk ((hB.block _ (blk_lt HY4.out)).trans HY4.out)
            clear hB
            clear hHeld
            refine hK.out _ _ hS2 (fun hHeld => ?_)
            clear hK K hS2
            refine norm_ (a' := ?_) ?_ ?_
            rotate_left
            · show Act.put _ (some 54) _ = _
              (try simp only [Act.put, List.setIfInBounds_toArray, List.set_cons_zero, List.set_cons_succ])
              rfl
            refine norm_ ?_ (J (Y4, Y5) _ ⟨hHeld, HY4, HY5, by show Y4 ≠ Y5; omega, g1_4, g2_4, g1_5, g2_5⟩)
            try simp only [putAll, Act.put, List.setIfInBounds_toArray, List.set_cons_zero, List.set_cons_succ]
            try rfl
    · skip
      refine value_ (v := ?_) (w1 := ?_) (by rfl) rfl ?_ ?_
      rotate_left 2
      · go_simp
        (constructor <;> with_reducible rfl)
      have g1_4 := blk_lt hHeld.ht
      have g2_4 := blk_lt hHeld.hx
      have hS2 := hHeld.alloc (.cells #[.int .u32 0, .int .u32 0, .int .u32 0, .int .u32 0, .int .u32 0, .int .u32 0, .int .u32 0, .int .u32 0, .int .u32 0, .int .u32 0, .int .u32 0, .int .u32 0, .int .u32 0, .int .u32 0, .int .u32 0, .int .u32 0] 66)
      have HY4 := Aside0.mk (heap_alloc_new W9 (.cells #[.int .u32 0, .int .u32 0, .int .u32 0, .int .u32 0, .int .u32 0, .int .u32 0, .int .u32 0, .int .u32 0, .int .u32 0, .int .u32 0, .int .u32 0, .int .u32 0, .int .u32 0, .int .u32 0, .int .u32 0, .int .u32 0] 66))
      clear hHeld
      refine hK.out _ _ hS2 (fun hHeld => ?_)
      clear hK K hS2
      refine norm_ (a' := ?_) ?_ ?_
      rotate_left
      · show Act.put _ (some 11) _ = _
        (try simp only [Act.put, List.setIfInBounds_toArray, List.set_cons_zero, List.set_cons_succ])
        rfl
      obtain ⟨Y4, hY4⟩ : ∃ Y, Y = W9.heap.size := ⟨_, rfl⟩
      rw [← hY4] at HY4 g1_4 g2_4 ⊢
      clear hY4
      generalize World.alloc W9 _ = u17 at  HY4 hHeld ⊢
      refine two_ (i := 1) (j := 5) (Ni := some 52) (Nj := some 12) #[true, true, true, false, true, false, false, false] #[true, false, true, false, true, true, false, false] rfl rfl rfl rfl (two_of HT_.out (by kernel_rfl)) (by decide) (by decide) (fun K hK => ?_) (fun K hK => ?_) 
      · skip
        refine goes_ Try.func44 (by kernel_rfl) rfl #[.agg #[.int .u32 a.nr, .int .u32 a.ar, .int .u64 a.ip, .int .u64 a.a0, .int .u64 a.a1, .int .u64 a.a2, .int .u64 a.a3, .int .u64 a.a4, .int .u64 a.a5]] (by rfl) rfl rfl (by (try simp only [List.map_toArray, List.map_cons, List.map_nil]); first | done | rfl) ?_
        refine (kA.out _).mono ?_
        rintro e u18 ⟨rfl, hB⟩
        refine ⟨_, rfl, ?_⟩
        have hS2 := hHeld.step hB
        replace HY4 := Aside0.mk ((hB.block _ (blk_lt HY4.out)).trans HY4.out)
        clear hB
        clear hHeld
        refine hK.out _ _ hS2 (fun hHeld => ?_)
        clear hK K hS2
        refine norm_ (a' := ?_) ?_ ?_
        rotate_left
        · show Act.put _ (some 52) _ = _
          (try simp only [Act.put, List.setIfInBounds_toArray, List.set_cons_zero, List.set_cons_succ])
          rfl
        refine two_ (i := 3) (j := 5) (Ni := some 54) (Nj := some 12) #[true, true, true, true, true, false, false, false] #[true, true, true, false, true, true, false, false] rfl rfl rfl rfl (two_of HT_.out (by kernel_rfl)) (by decide) (by decide) (fun K hK => ?_) (fun K hK => ?_) 
        · skip
          refine goes_ Try.func44 (by kernel_rfl) rfl #[.agg #[.int .u32 (w4 l2 0), .int .u32 (w4 l2 4), .int .u64 (w8 l2 8), .int .u64 (w8 l2 16), .int .u64 (w8 l2 24), .int .u64 (w8 l2 32), .int .u64 (w8 l2 40), .int .u64 (w8 l2 48), .int .u64 (w8 l2 56)]] (by rfl) rfl rfl (by (try simp only [List.map_toArray, List.map_cons, List.map_nil]); first | done | rfl) ?_
          refine (kY.out _).mono ?_
          rintro e u19 ⟨rfl, hB⟩
          refine ⟨_, rfl, ?_⟩
          have hS2 := hHeld.step hB
          replace HY4 := Aside0.mk ((hB.block _ (blk_lt HY4.out)).trans HY4.out)
          clear hB
          clear hHeld
          refine hK.out _ _ hS2 (fun hHeld => ?_)
          clear hK K hS2
          refine norm_ (a' := ?_) ?_ ?_
          rotate_left
          · show Act.put _ (some 54) _ = _
            (try simp only [Act.put, List.setIfInBounds_toArray, List.set_cons_zero, List.set_cons_succ])
            rfl
          refine one_ (i := 5) (N := some 12) #[true, true, true, true, true, true, false, false] rfl rfl (one_of HT_.out (by kernel_rfl)) (by decide) (fun K hK => ?_) 
          · skip
            refine value_ (v := ?_) (w1 := ?_) (by rfl) rfl ?_ ?_
            rotate_left 2
            · go_simp
              (constructor <;> with_reducible rfl)
            have g1_5 := blk_lt hHeld.ht
            have g2_5 := blk_lt hHeld.hx
            have g3_5 := blk_lt HY4.out
            have hS2 := hHeld.alloc (.cells #[.int .u32 0, .int .u32 0, .int .u32 0, .int .u32 0, .int .u32 0, .int .u32 0, .int .u32 0, .int .u32 0, .int .u32 0, .int .u32 0, .int .u32 0, .int .u32 0, .int .u32 0, .int .u32 0, .int .u32 0, .int .u32 0] 66)
            have HY5 := Aside0.mk (heap_alloc_new u19 (.cells #[.int .u32 0, .int .u32 0, .int .u32 0, .int .u32 0, .int .u32 0, .int .u32 0, .int .u32 0, .int .u32 0, .int .u32 0, .int .u32 0, .int .u32 0, .int .u32 0, .int .u32 0, .int .u32 0, .int .u32 0, .int .u32 0] 66))
            replace HY4 := Aside0.mk (blk_alloc HY4.out (.cells #[.int .u32 0, .int .u32 0, .int .u32 0, .int .u32 0, .int .u32 0, .int .u32 0, .int .u32 0, .int .u32 0, .int .u32 0, .int .u32 0, .int .u32 0, .int .u32 0, .int .u32 0, .int .u32 0, .int .u32 0, .int .u32 0] 66))
            clear hHeld
            refine hK.out _ _ hS2 (fun hHeld => ?_)
            clear hK K hS2
            refine norm_ (a' := ?_) ?_ ?_
            rotate_left
            · show Act.put _ (some 12) _ = _
              (try simp only [Act.put, List.setIfInBounds_toArray, List.set_cons_zero, List.set_cons_succ])
              rfl
            obtain ⟨Y5, hY5⟩ : ∃ Y, Y = u19.heap.size := ⟨_, rfl⟩
            rw [← hY5] at HY5 g1_5 g2_5 g3_5 ⊢
            clear hY5
            generalize World.alloc u19 _ = u20 at HY4 HY5 hHeld ⊢
            refine norm_ ?_ (J (Y4, Y5) _ ⟨hHeld, HY4, HY5, by show Y4 ≠ Y5; omega, g1_4, g2_4, g1_5, g2_5⟩)
            try simp only [putAll, Act.put, List.setIfInBounds_toArray, List.set_cons_zero, List.set_cons_succ]
            try rfl
        · skip
          refine value_ (v := ?_) (w1 := ?_) (by rfl) rfl ?_ ?_
          rotate_left 2
          · go_simp
            (constructor <;> with_reducible rfl)
          have g1_5 := blk_lt hHeld.ht
          have g2_5 := blk_lt hHeld.hx
          have g3_5 := blk_lt HY4.out
          have hS2 := hHeld.alloc (.cells #[.int .u32 0, .int .u32 0, .int .u32 0, .int .u32 0, .int .u32 0, .int .u32 0, .int .u32 0, .int .u32 0, .int .u32 0, .int .u32 0, .int .u32 0, .int .u32 0, .int .u32 0, .int .u32 0, .int .u32 0, .int .u32 0] 66)
          have HY5 := Aside0.mk (heap_alloc_new u18 (.cells #[.int .u32 0, .int .u32 0, .int .u32 0, .int .u32 0, .int .u32 0, .int .u32 0, .int .u32 0, .int .u32 0, .int .u32 0, .int .u32 0, .int .u32 0, .int .u32 0, .int .u32 0, .int .u32 0, .int .u32 0, .int .u32 0] 66))
          replace HY4 := Aside0.mk (blk_alloc HY4.out (.cells #[.int .u32 0, .int .u32 0, .int .u32 0, .int .u32 0, .int .u32 0, .int .u32 0, .int .u32 0, .int .u32 0, .int .u32 0, .int .u32 0, .int .u32 0, .int .u32 0, .int .u32 0, .int .u32 0, .int .u32 0, .int .u32 0] 66))
          clear hHeld
          refine hK.out _ _ hS2 (fun hHeld => ?_)
          clear hK K hS2
          refine norm_ (a' := ?_) ?_ ?_
          rotate_left
          · show Act.put _ (some 12) _ = _
            (try simp only [Act.put, List.setIfInBounds_toArray, List.set_cons_zero, List.set_cons_succ])
            rfl
          obtain ⟨Y5, hY5⟩ : ∃ Y, Y = u18.heap.size := ⟨_, rfl⟩
          rw [← hY5] at HY5 g1_5 g2_5 g3_5 ⊢
          clear hY5
          generalize World.alloc u18 _ = u21 at HY4 HY5 hHeld ⊢
          refine one_ (i := 3) (N := some 54) #[true, true, true, true, true, true, false, false] rfl rfl (one_of HT_.out (by kernel_rfl)) (by decide) (fun K hK => ?_) 
          · skip
            refine goes_ Try.func44 (by kernel_rfl) rfl #[.agg #[.int .u32 (w4 l2 0), .int .u32 (w4 l2 4), .int .u64 (w8 l2 8), .int .u64 (w8 l2 16), .int .u64 (w8 l2 24), .int .u64 (w8 l2 32), .int .u64 (w8 l2 40), .int .u64 (w8 l2 48), .int .u64 (w8 l2 56)]] (by rfl) rfl rfl (by (try simp only [List.map_toArray, List.map_cons, List.map_nil]); first | done | rfl) ?_
            refine (kY.out _).mono ?_
            rintro e u22 ⟨rfl, hB⟩
            refine ⟨_, rfl, ?_⟩
            have hS2 := hHeld.step hB
            replace HY4 := Aside0.mk ((hB.block _ (blk_lt HY4.out)).trans HY4.out)
            replace HY5 := Aside0.mk ((hB.block _ (blk_lt HY5.out)).trans HY5.out)
            clear hB
            clear hHeld
            refine hK.out _ _ hS2 (fun hHeld => ?_)
            clear hK K hS2
            refine norm_ (a' := ?_) ?_ ?_
            rotate_left
            · show Act.put _ (some 54) _ = _
              (try simp only [Act.put, List.setIfInBounds_toArray, List.set_cons_zero, List.set_cons_succ])
              rfl
            refine norm_ ?_ (J (Y4, Y5) _ ⟨hHeld, HY4, HY5, by show Y4 ≠ Y5; omega, g1_4, g2_4, g1_5, g2_5⟩)
            try simp only [putAll, Act.put, List.setIfInBounds_toArray, List.set_cons_zero, List.set_cons_succ]
            try rfl
      · skip
        refine value_ (v := ?_) (w1 := ?_) (by rfl) rfl ?_ ?_
        rotate_left 2
        · go_simp
          (constructor <;> with_reducible rfl)
        have g1_5 := blk_lt hHeld.ht
        have g2_5 := blk_lt hHeld.hx
        have g3_5 := blk_lt HY4.out
        have hS2 := hHeld.alloc (.cells #[.int .u32 0, .int .u32 0, .int .u32 0, .int .u32 0, .int .u32 0, .int .u32 0, .int .u32 0, .int .u32 0, .int .u32 0, .int .u32 0, .int .u32 0, .int .u32 0, .int .u32 0, .int .u32 0, .int .u32 0, .int .u32 0] 66)
        have HY5 := Aside0.mk (heap_alloc_new u17 (.cells #[.int .u32 0, .int .u32 0, .int .u32 0, .int .u32 0, .int .u32 0, .int .u32 0, .int .u32 0, .int .u32 0, .int .u32 0, .int .u32 0, .int .u32 0, .int .u32 0, .int .u32 0, .int .u32 0, .int .u32 0, .int .u32 0] 66))
        replace HY4 := Aside0.mk (blk_alloc HY4.out (.cells #[.int .u32 0, .int .u32 0, .int .u32 0, .int .u32 0, .int .u32 0, .int .u32 0, .int .u32 0, .int .u32 0, .int .u32 0, .int .u32 0, .int .u32 0, .int .u32 0, .int .u32 0, .int .u32 0, .int .u32 0, .int .u32 0] 66))
        clear hHeld
        refine hK.out _ _ hS2 (fun hHeld => ?_)
        clear hK K hS2
        refine norm_ (a' := ?_) ?_ ?_
        rotate_left
        · show Act.put _ (some 12) _ = _
          (try simp only [Act.put, List.setIfInBounds_toArray, List.set_cons_zero, List.set_cons_succ])
          rfl
        obtain ⟨Y5, hY5⟩ : ∃ Y, Y = u17.heap.size := ⟨_, rfl⟩
        rw [← hY5] at HY5 g1_5 g2_5 g3_5 ⊢
        clear hY5
        generalize World.alloc u17 _ = u23 at HY4 HY5 hHeld ⊢
        refine one_ (i := 1) (N := some 52) #[true, true, true, false, true, true, false, false] rfl rfl (one_of HT_.out (by kernel_rfl)) (by decide) (fun K hK => ?_) 
        · skip
          refine goes_ Try.func44 (by kernel_rfl) rfl #[.agg #[.int .u32 a.nr, .int .u32 a.ar, .int .u64 a.ip, .int .u64 a.a0, .int .u64 a.a1, .int .u64 a.a2, .int .u64 a.a3, .int .u64 a.a4, .int .u64 a.a5]] (by rfl) rfl rfl (by (try simp only [List.map_toArray, List.map_cons, List.map_nil]); first | done | rfl) ?_
          refine (kA.out _).mono ?_
          rintro e u24 ⟨rfl, hB⟩
          refine ⟨_, rfl, ?_⟩
          have hS2 := hHeld.step hB
          replace HY4 := Aside0.mk ((hB.block _ (blk_lt HY4.out)).trans HY4.out)
          replace HY5 := Aside0.mk ((hB.block _ (blk_lt HY5.out)).trans HY5.out)
          clear hB
          clear hHeld
          refine hK.out _ _ hS2 (fun hHeld => ?_)
          clear hK K hS2
          refine norm_ (a' := ?_) ?_ ?_
          rotate_left
          · show Act.put _ (some 52) _ = _
            (try simp only [Act.put, List.setIfInBounds_toArray, List.set_cons_zero, List.set_cons_succ])
            rfl
          refine one_ (i := 3) (N := some 54) #[true, true, true, true, true, true, false, false] rfl rfl (one_of HT_.out (by kernel_rfl)) (by decide) (fun K hK => ?_) 
          · skip
            refine goes_ Try.func44 (by kernel_rfl) rfl #[.agg #[.int .u32 (w4 l2 0), .int .u32 (w4 l2 4), .int .u64 (w8 l2 8), .int .u64 (w8 l2 16), .int .u64 (w8 l2 24), .int .u64 (w8 l2 32), .int .u64 (w8 l2 40), .int .u64 (w8 l2 48), .int .u64 (w8 l2 56)]] (by rfl) rfl rfl (by (try simp only [List.map_toArray, List.map_cons, List.map_nil]); first | done | rfl) ?_
            refine (kY.out _).mono ?_
            rintro e u25 ⟨rfl, hB⟩
            refine ⟨_, rfl, ?_⟩
            have hS2 := hHeld.step hB
            replace HY4 := Aside0.mk ((hB.block _ (blk_lt HY4.out)).trans HY4.out)
            replace HY5 := Aside0.mk ((hB.block _ (blk_lt HY5.out)).trans HY5.out)
            clear hB
            clear hHeld
            refine hK.out _ _ hS2 (fun hHeld => ?_)
            clear hK K hS2
            refine norm_ (a' := ?_) ?_ ?_
            rotate_left
            · show Act.put _ (some 54) _ = _
              (try simp only [Act.put, List.setIfInBounds_toArray, List.set_cons_zero, List.set_cons_succ])
              rfl
            refine norm_ ?_ (J (Y4, Y5) _ ⟨hHeld, HY4, HY5, by show Y4 ≠ Y5; omega, g1_4, g2_4, g1_5, g2_5⟩)
            try simp only [putAll, Act.put, List.setIfInBounds_toArray, List.set_cons_zero, List.set_cons_succ]
            try rfl
    · skip
      refine value_ (v := ?_) (w1 := ?_) (by rfl) rfl ?_ ?_
      rotate_left 2
      · go_simp
        (constructor <;> with_reducible rfl)
      have g1_5 := blk_lt hHeld.ht
      have g2_5 := blk_lt hHeld.hx
      have hS2 := hHeld.alloc (.cells #[.int .u32 0, .int .u32 0, .int .u32 0, .int .u32 0, .int .u32 0, .int .u32 0, .int .u32 0, .int .u32 0, .int .u32 0, .int .u32 0, .int .u32 0, .int .u32 0, .int .u32 0, .int .u32 0, .int .u32 0, .int .u32 0] 66)
      have HY5 := Aside0.mk (heap_alloc_new W9 (.cells #[.int .u32 0, .int .u32 0, .int .u32 0, .int .u32 0, .int .u32 0, .int .u32 0, .int .u32 0, .int .u32 0, .int .u32 0, .int .u32 0, .int .u32 0, .int .u32 0, .int .u32 0, .int .u32 0, .int .u32 0, .int .u32 0] 66))
      clear hHeld
      refine hK.out _ _ hS2 (fun hHeld => ?_)
      clear hK K hS2
      refine norm_ (a' := ?_) ?_ ?_
      rotate_left
      · show Act.put _ (some 12) _ = _
        (try simp only [Act.put, List.setIfInBounds_toArray, List.set_cons_zero, List.set_cons_succ])
        rfl
      obtain ⟨Y5, hY5⟩ : ∃ Y, Y = W9.heap.size := ⟨_, rfl⟩
      rw [← hY5] at HY5 g1_5 g2_5 ⊢
      clear hY5
      generalize World.alloc W9 _ = u26 at  HY5 hHeld ⊢
      refine two_ (i := 1) (j := 4) (Ni := some 52) (Nj := some 11) #[true, true, true, false, false, true, false, false] #[true, false, true, false, true, true, false, false] rfl rfl rfl rfl (two_of HT_.out (by kernel_rfl)) (by decide) (by decide) (fun K hK => ?_) (fun K hK => ?_) 
      · skip
        refine goes_ Try.func44 (by kernel_rfl) rfl #[.agg #[.int .u32 a.nr, .int .u32 a.ar, .int .u64 a.ip, .int .u64 a.a0, .int .u64 a.a1, .int .u64 a.a2, .int .u64 a.a3, .int .u64 a.a4, .int .u64 a.a5]] (by rfl) rfl rfl (by (try simp only [List.map_toArray, List.map_cons, List.map_nil]); first | done | rfl) ?_
        refine (kA.out _).mono ?_
        rintro e u27 ⟨rfl, hB⟩
        refine ⟨_, rfl, ?_⟩
        have hS2 := hHeld.step hB
        replace HY5 := Aside0.mk ((hB.block _ (blk_lt HY5.out)).trans HY5.out)
        clear hB
        clear hHeld
        refine hK.out _ _ hS2 (fun hHeld => ?_)
        clear hK K hS2
        refine norm_ (a' := ?_) ?_ ?_
        rotate_left
        · show Act.put _ (some 52) _ = _
          (try simp only [Act.put, List.setIfInBounds_toArray, List.set_cons_zero, List.set_cons_succ])
          rfl
        refine two_ (i := 3) (j := 4) (Ni := some 54) (Nj := some 11) #[true, true, true, true, false, true, false, false] #[true, true, true, false, true, true, false, false] rfl rfl rfl rfl (two_of HT_.out (by kernel_rfl)) (by decide) (by decide) (fun K hK => ?_) (fun K hK => ?_) 
        · skip
          refine goes_ Try.func44 (by kernel_rfl) rfl #[.agg #[.int .u32 (w4 l2 0), .int .u32 (w4 l2 4), .int .u64 (w8 l2 8), .int .u64 (w8 l2 16), .int .u64 (w8 l2 24), .int .u64 (w8 l2 32), .int .u64 (w8 l2 40), .int .u64 (w8 l2 48), .int .u64 (w8 l2 56)]] (by rfl) rfl rfl (by (try simp only [List.map_toArray, List.map_cons, List.map_nil]); first | done | rfl) ?_
          refine (kY.out _).mono ?_
          rintro e u28 ⟨rfl, hB⟩
          refine ⟨_, rfl, ?_⟩
          have hS2 := hHeld.step hB
          replace HY5 := Aside0.mk ((hB.block _ (blk_lt HY5.out)).trans HY5.out)
          clear hB
          clear hHeld
          refine hK.out _ _ hS2 (fun hHeld => ?_)
          clear hK K hS2
          refine norm_ (a' := ?_) ?_ ?_
          rotate_left
          · show Act.put _ (some 54) _ = _
            (try simp only [Act.put, List.setIfInBounds_toArray, List.set_cons_zero, List.set_cons_succ])
            rfl
          refine one_ (i := 4) (N := some 11) #[true, true, true, true, true, true, false, false] rfl rfl (one_of HT_.out (by kernel_rfl)) (by decide) (fun K hK => ?_) 
          · skip
            refine value_ (v := ?_) (w1 := ?_) (by rfl) rfl ?_ ?_
            rotate_left 2
            · go_simp
              (constructor <;> with_reducible rfl)
            have g1_4 := blk_lt hHeld.ht
            have g2_4 := blk_lt hHeld.hx
            have g3_4 := blk_lt HY5.out
            have hS2 := hHeld.alloc (.cells #[.int .u32 0, .int .u32 0, .int .u32 0, .int .u32 0, .int .u32 0, .int .u32 0, .int .u32 0, .int .u32 0, .int .u32 0, .int .u32 0, .int .u32 0, .int .u32 0, .int .u32 0, .int .u32 0, .int .u32 0, .int .u32 0] 66)
            have HY4 := Aside0.mk (heap_alloc_new u28 (.cells #[.int .u32 0, .int .u32 0, .int .u32 0, .int .u32 0, .int .u32 0, .int .u32 0, .int .u32 0, .int .u32 0, .int .u32 0, .int .u32 0, .int .u32 0, .int .u32 0, .int .u32 0, .int .u32 0, .int .u32 0, .int .u32 0] 66))
            replace HY5 := Aside0.mk (blk_alloc HY5.out (.cells #[.int .u32 0, .int .u32 0, .int .u32 0, .int .u32 0, .int .u32 0, .int .u32 0, .int .u32 0, .int .u32 0, .int .u32 0, .int .u32 0, .int .u32 0, .int .u32 0, .int .u32 0, .int .u32 0, .int .u32 0, .int .u32 0] 66))
            clear hHeld
            refine hK.out _ _ hS2 (fun hHeld => ?_)
            clear hK K hS2
            refine norm_ (a' := ?_) ?_ ?_
            rotate_left
            · show Act.put _ (some 11) _ = _
              (try simp only [Act.put, List.setIfInBounds_toArray, List.set_cons_zero, List.set_cons_succ])
              rfl
            obtain ⟨Y4, hY4⟩ : ∃ Y, Y = u28.heap.size := ⟨_, rfl⟩
            rw [← hY4] at HY4 g1_4 g2_4 g3_4 ⊢
            clear hY4
            generalize World.alloc u28 _ = u29 at HY5 HY4 hHeld ⊢
            refine norm_ ?_ (J (Y4, Y5) _ ⟨hHeld, HY4, HY5, by show Y4 ≠ Y5; omega, g1_4, g2_4, g1_5, g2_5⟩)
            try simp only [putAll, Act.put, List.setIfInBounds_toArray, List.set_cons_zero, List.set_cons_succ]
            try rfl
        · skip
          refine value_ (v := ?_) (w1 := ?_) (by rfl) rfl ?_ ?_
          rotate_left 2
          · go_simp
            (constructor <;> with_reducible rfl)
          have g1_4 := blk_lt hHeld.ht
          have g2_4 := blk_lt hHeld.hx
          have g3_4 := blk_lt HY5.out
          have hS2 := hHeld.alloc (.cells #[.int .u32 0, .int .u32 0, .int .u32 0, .int .u32 0, .int .u32 0, .int .u32 0, .int .u32 0, .int .u32 0, .int .u32 0, .int .u32 0, .int .u32 0, .int .u32 0, .int .u32 0, .int .u32 0, .int .u32 0, .int .u32 0] 66)
          have HY4 := Aside0.mk (heap_alloc_new u27 (.cells #[.int .u32 0, .int .u32 0, .int .u32 0, .int .u32 0, .int .u32 0, .int .u32 0, .int .u32 0, .int .u32 0, .int .u32 0, .int .u32 0, .int .u32 0, .int .u32 0, .int .u32 0, .int .u32 0, .int .u32 0, .int .u32 0] 66))
          replace HY5 := Aside0.mk (blk_alloc HY5.out (.cells #[.int .u32 0, .int .u32 0, .int .u32 0, .int .u32 0, .int .u32 0, .int .u32 0, .int .u32 0, .int .u32 0, .int .u32 0, .int .u32 0, .int .u32 0, .int .u32 0, .int .u32 0, .int .u32 0, .int .u32 0, .int .u32 0] 66))
          clear hHeld
          refine hK.out _ _ hS2 (fun hHeld => ?_)
          clear hK K hS2
          refine norm_ (a' := ?_) ?_ ?_
          rotate_left
          · show Act.put _ (some 11) _ = _
            (try simp only [Act.put, List.setIfInBounds_toArray, List.set_cons_zero, List.set_cons_succ])
            rfl
          obtain ⟨Y4, hY4⟩ : ∃ Y, Y = u27.heap.size := ⟨_, rfl⟩
          rw [← hY4] at HY4 g1_4 g2_4 g3_4 ⊢
          clear hY4
          generalize World.alloc u27 _ = u30 at HY5 HY4 hHeld ⊢
          refine one_ (i := 3) (N := some 54) #[true, true, true, true, true, true, false, false] rfl rfl (one_of HT_.out (by kernel_rfl)) (by decide) (fun K hK => ?_) 
          · skip
            refine goes_ Try.func44 (by kernel_rfl) rfl #[.agg #[.int .u32 (w4 l2 0), .int .u32 (w4 l2 4), .int .u64 (w8 l2 8), .int .u64 (w8 l2 16), .int .u64 (w8 l2 24), .int .u64 (w8 l2 32), .int .u64 (w8 l2 40), .int .u64 (w8 l2 48), .int .u64 (w8 l2 56)]] (by rfl) rfl rfl (by (try simp only [List.map_toArray, List.map_cons, List.map_nil]); first | done | rfl) ?_
            refine (kY.out _).mono ?_
            rintro e u31 ⟨rfl, hB⟩
            refine ⟨_, rfl, ?_⟩
            have hS2 := hHeld.step hB
            replace HY5 := Aside0.mk ((hB.block _ (blk_lt HY5.out)).trans HY5.out)
            replace HY4 := Aside0.mk ((hB.block _ (blk_lt HY4.out)).trans HY4.out)
            clear hB
            clear hHeld
            refine hK.out _ _ hS2 (fun hHeld => ?_)
            clear hK K hS2
            refine norm_ (a' := ?_) ?_ ?_
            rotate_left
            · show Act.put _ (some 54) _ = _
              (try simp only [Act.put, List.setIfInBounds_toArray, List.set_cons_zero, List.set_cons_succ])
              rfl
            refine norm_ ?_ (J (Y4, Y5) _ ⟨hHeld, HY4, HY5, by show Y4 ≠ Y5; omega, g1_4, g2_4, g1_5, g2_5⟩)
            try simp only [putAll, Act.put, List.setIfInBounds_toArray, List.set_cons_zero, List.set_cons_succ]
            try rfl
      · skip
        refine value_ (v := ?_) (w1 := ?_) (by rfl) rfl ?_ ?_
        rotate_left 2
        · go_simp
          (constructor <;> with_reducible rfl)
        have g1_4 := blk_lt hHeld.ht
        have g2_4 := blk_lt hHeld.hx
        have g3_4 := blk_lt HY5.out
        have hS2 := hHeld.alloc (.cells #[.int .u32 0, .int .u32 0, .int .u32 0, .int .u32 0, .int .u32 0, .int .u32 0, .int .u32 0, .int .u32 0, .int .u32 0, .int .u32 0, .int .u32 0, .int .u32 0, .int .u32 0, .int .u32 0, .int .u32 0, .int .u32 0] 66)
        have HY4 := Aside0.mk (heap_alloc_new u26 (.cells #[.int .u32 0, .int .u32 0, .int .u32 0, .int .u32 0, .int .u32 0, .int .u32 0, .int .u32 0, .int .u32 0, .int .u32 0, .int .u32 0, .int .u32 0, .int .u32 0, .int .u32 0, .int .u32 0, .int .u32 0, .int .u32 0] 66))
        replace HY5 := Aside0.mk (blk_alloc HY5.out (.cells #[.int .u32 0, .int .u32 0, .int .u32 0, .int .u32 0, .int .u32 0, .int .u32 0, .int .u32 0, .int .u32 0, .int .u32 0, .int .u32 0, .int .u32 0, .int .u32 0, .int .u32 0, .int .u32 0, .int .u32 0, .int .u32 0] 66))
        clear hHeld
        refine hK.out _ _ hS2 (fun hHeld => ?_)
        clear hK K hS2
        refine norm_ (a' := ?_) ?_ ?_
        rotate_left
        · show Act.put _ (some 11) _ = _
          (try simp only [Act.put, List.setIfInBounds_toArray, List.set_cons_zero, List.set_cons_succ])
          rfl
        obtain ⟨Y4, hY4⟩ : ∃ Y, Y = u26.heap.size := ⟨_, rfl⟩
        rw [← hY4] at HY4 g1_4 g2_4 g3_4 ⊢
        clear hY4
        generalize World.alloc u26 _ = u32 at HY5 HY4 hHeld ⊢
        refine one_ (i := 1) (N := some 52) #[true, true, true, false, true, true, false, false] rfl rfl (one_of HT_.out (by kernel_rfl)) (by decide) (fun K hK => ?_) 
        · skip
          refine goes_ Try.func44 (by kernel_rfl) rfl #[.agg #[.int .u32 a.nr, .int .u32 a.ar, .int .u64 a.ip, .int .u64 a.a0, .int .u64 a.a1, .int .u64 a.a2, .int .u64 a.a3, .int .u64 a.a4, .int .u64 a.a5]] (by rfl) rfl rfl (by (try simp only [List.map_toArray, List.map_cons, List.map_nil]); first | done | rfl) ?_
          refine (kA.out _).mono ?_
          rintro e u33 ⟨rfl, hB⟩
          refine ⟨_, rfl, ?_⟩
          have hS2 := hHeld.step hB
          replace HY5 := Aside0.mk ((hB.block _ (blk_lt HY5.out)).trans HY5.out)
          replace HY4 := Aside0.mk ((hB.block _ (blk_lt HY4.out)).trans HY4.out)
          clear hB
          clear hHeld
          refine hK.out _ _ hS2 (fun hHeld => ?_)
          clear hK K hS2
          refine norm_ (a' := ?_) ?_ ?_
          rotate_left
          · show Act.put _ (some 52) _ = _
            (try simp only [Act.put, List.setIfInBounds_toArray, List.set_cons_zero, List.set_cons_succ])
            rfl
          refine one_ (i := 3) (N := some 54) #[true, true, true, true, true, true, false, false] rfl rfl (one_of HT_.out (by kernel_rfl)) (by decide) (fun K hK => ?_) 
          · skip
            refine goes_ Try.func44 (by kernel_rfl) rfl #[.agg #[.int .u32 (w4 l2 0), .int .u32 (w4 l2 4), .int .u64 (w8 l2 8), .int .u64 (w8 l2 16), .int .u64 (w8 l2 24), .int .u64 (w8 l2 32), .int .u64 (w8 l2 40), .int .u64 (w8 l2 48), .int .u64 (w8 l2 56)]] (by rfl) rfl rfl (by (try simp only [List.map_toArray, List.map_cons, List.map_nil]); first | done | rfl) ?_
            refine (kY.out _).mono ?_
            rintro e u34 ⟨rfl, hB⟩
            refine ⟨_, rfl, ?_⟩
            have hS2 := hHeld.step hB
            replace HY5 := Aside0.mk ((hB.block _ (blk_lt HY5.out)).trans HY5.out)
            replace HY4 := Aside0.mk ((hB.block _ (blk_lt HY4.out)).trans HY4.out)
            clear hB
            clear hHeld
            refine hK.out _ _ hS2 (fun hHeld => ?_)
            clear hK K hS2
            refine norm_ (a' := ?_) ?_ ?_
            rotate_left
            · show Act.put _ (some 54) _ = _
              (try simp only [Act.put, List.setIfInBounds_toArray, List.set_cons_zero, List.set_cons_succ])
              rfl
            refine norm_ ?_ (J (Y4, Y5) _ ⟨hHeld, HY4, HY5, by show Y4 ≠ Y5; omega, g1_4, g2_4, g1_5, g2_5⟩)
            try simp only [putAll, Act.put, List.setIfInBounds_toArray, List.set_cons_zero, List.set_cons_succ]
            try rfl
  intro s W9 hF
  obtain ⟨hHeld, HY, HZ, hne, g1, g2, g3, g4⟩ := hF
  obtain ⟨Y, Z⟩ := s
  skip
  dsimp only at HY HZ hne g1 g2 g3 g4 ⊢
  refine norm_ (a' := ?_) ?_ ?_
  rotate_left
  · (try simp only [putAll, Act.put, List.setIfInBounds_toArray, List.set_cons_zero, List.set_cons_succ])
    rfl
  refine one_ (i := 6) (N := none) #[true, true, true, true, true, true, true, false] rfl rfl (one_of HT_.out (by kernel_rfl)) (by decide) (fun K hK => ?_)
  refine store66_ (by rfl) rfl (.tmp 11) (.tmp 52) rfl a.bytes Y (by rfl) (by rfl) HY.out ?_
  intro W10 hY1 hS1 hF1
  have HZ2 := Aside0.mk (hF1 Z _ _ (Ne.symm hne) HZ.out)
  replace HY := Aside0.mk hY1
  have hS2 := hS1 _ _ _ _ _ _ _ hHeld g1 g2
  clear hY1 hS1 hF1 HZ hHeld
  refine hK.out _ _ hS2 (fun hHeld => ?_)
  clear hK K hS2
  refine one_ (i := 7) (N := none) #[true, true, true, true, true, true, true, true] rfl rfl (one_of HT_.out (by kernel_rfl)) (by decide) (fun K hK => ?_)
  refine store66_ (by rfl) rfl (.tmp 12) (.tmp 54) rfl l2 Z (by rfl) (by rfl) HZ2.out ?_
  intro W11 hY1 hS1 hF1
  replace HY := Aside0.mk (hF1 Y _ _ hne HY.out)
  have HZ := Aside0.mk hY1
  have hS2 := hS1 _ _ _ _ _ _ _ hHeld g3 g4
  clear hY1 hS1 hF1 HZ2 hHeld
  refine hK.out _ _ hS2 (fun hHeld => ?_)
  clear hK K hS2
  refine done_ (done_of HT_.out (by kernel_rfl)) ?_
  have HS := hHeld
  clear hHeld HT_ HW_
  go_wp2_with fail
  go_loopw [55] (fun v55 wr => ∃ k : Nat, k ≤ 16 ∧ v55 = .int .i64 k ∧ Aside0 (OS a b (4 * (i : Int)) x #[.int .u32 (w4 l2 0), .int .u32 (w4 l2 4), .int .u64 (w8 l2 8), .int .u64 (w8 l2 16), .int .u64 (w8 l2 24), .int .u64 (w8 l2 32), .int .u64 (w8 l2 40), .int .u64 (w8 l2 48), .int .u64 (w8 l2 56)] w X wr) ∧ Aside0 (wr.heap[Y]? = some (.cells #[.int .u32 (w4 a.bytes 0), .int .u32 (w4 a.bytes 4), .int .u32 (w4 a.bytes 8), .int .u32 (w4 a.bytes 12), .int .u32 (w4 a.bytes 16), .int .u32 (w4 a.bytes 20), .int .u32 (w4 a.bytes 24), .int .u32 (w4 a.bytes 28), .int .u32 (w4 a.bytes 32), .int .u32 (w4 a.bytes 36), .int .u32 (w4 a.bytes 40), .int .u32 (w4 a.bytes 44), .int .u32 (w4 a.bytes 48), .int .u32 (w4 a.bytes 52), .int .u32 (w4 a.bytes 56), .int .u32 (w4 a.bytes 60)] 66 (0, 0))) ∧ Aside0 (wr.heap[Z]? = some (.cells #[.int .u32 (w4 l2 0), .int .u32 (w4 l2 4), .int .u32 (w4 l2 8), .int .u32 (w4 l2 12), .int .u32 (w4 l2 16), .int .u32 (w4 l2 20), .int .u32 (w4 l2 24), .int .u32 (w4 l2 28), .int .u32 (w4 l2 32), .int .u32 (w4 l2 36), .int .u32 (w4 l2 40), .int .u32 (w4 l2 44), .int .u32 (w4 l2 48), .int .u32 (w4 l2 52), .int .u32 (w4 l2 56), .int .u32 (w4 l2 60)] 66 (0, 0)))) (fun v55 _ => 16 - (intOf v55).toNat)
  case atStart => exact ⟨0, by omega, rfl, ⟨HS⟩, HY, HZ⟩
  case round =>
    clear HS HY HZ
    obtain ⟨k, hk, rfl, HS, HY, HZ⟩ := hrel
    by_cases hlt : k < 16
    · skip
      have hcv : IntKind.i64.wrap (i : Int) = i := by simp [IntKind.wrap, IntKind.bits, IntKind.signed]; omega
      have hqd : (4 * (i : Int)).tdiv 4 = i := by rw [Int.tdiv_eq_ediv_of_nonneg (by omega)]; omega
      have hcv2 : IntKind.i64.wrap (IntKind.u32.wrap (i : Int)) = i := by simp [IntKind.wrap, IntKind.bits, IntKind.signed]; omega
      go_upto_region 13 with fail
      have hY0 := HY.out
      have hZ0 := HZ.out
      rw [← wl_lit] at hY0 hZ0
      have HS0 := HS.out
      by_cases hki : k = i
      · subst hki
        refine start_ (n := 15) (S := fun w' => OS a b (4 * (k : Int)) x #[.int .u32 (w4 l2 0), .int .u32 (w4 l2 4), .int .u64 (w8 l2 8), .int .u64 (w8 l2 16), .int .u64 (w8 l2 24), .int .u64 (w8 l2 32), .int .u64 (w8 l2 40), .int .u64 (w8 l2 48), .int .u64 (w8 l2 56)] w X w' ∧ w'.heap[Y]? = some (.cells (wl a.bytes 16).toArray 66 (0, 0)) ∧ w'.heap[Z]? = some (.cells (wl l2 16).toArray 66 (0, 0))) (ds := []) #[false, false, false, false, false, false, false, false, false, false, false, false, false, false, false] (by kernel_rfl) rfl rfl ⟨HS0.drew, blk_drew hY0, blk_drew hZ0⟩ (fun hHeld => ?_); refine with_tabW once13.tab13 once13.bits13 (fun HT_ HW_ => ?_)
        clear HS HY HZ hY0 hZ0 HS0
        generalize World.drew _ = W13 at hHeld ⊢
        refine pure_ (i := 0) (N := some 58) (v := ?_) (a' := ?_) #[true, false, false, false, false, false, false, false, false, false, false, false, false, false, false] rfl rfl (any_of HT_.out (by kernel_rfl)) (fun _ _ _ h => h) (Or.inl ⟨by rfl, ?_⟩) ?_ ?_
        rotate_left
        · intro w'
          go_simp
          with_reducible rfl
        rotate_left
        · (try simp only [Act.put, List.setIfInBounds_toArray, List.set_cons_zero, List.set_cons_succ])
          rfl
        refine pure_ (i := 1) (N := some 59) (v := ?_) (a' := ?_) #[true, true, false, false, false, false, false, false, false, false, false, false, false, false, false] rfl rfl (any_of HT_.out (by kernel_rfl)) (fun _ _ _ h => h) (Or.inl ⟨by rfl, ?_⟩) ?_ ?_
        rotate_left
        · intro w'
          go_simp
          with_reducible rfl
        rotate_left
        · (try simp only [Act.put, List.setIfInBounds_toArray, List.set_cons_zero, List.set_cons_succ])
          rfl
        refine take_ (i := 2) (N := some 60) (v := ?_) (a' := ?_) #[true, true, true, false, false, false, false, false, false, false, false, false, false, false, false] rfl rfl (take_ofW HT_.out HW_.out (by kernel_rfl)) (fun _ _ _ h => h) (Or.inl ⟨by rfl, ?_⟩) hHeld ?_ ?_
        rotate_left
        · intro w' hS_
          have hx_ : w'.cell? ⟨w.heap.size + 2, 0, none⟩ = some (.int .u32 (4 * (k : Int))) := blk_cell hS_.1.ht 0
          go_simp
          with_reducible rfl
        rotate_left
        · (try simp only [Act.put, List.setIfInBounds_toArray, List.set_cons_zero, List.set_cons_succ])
          rfl
        refine pure_ (i := 3) (N := some 61) (v := ?_) (a' := ?_) #[true, true, true, true, false, false, false, false, false, false, false, false, false, false, false] rfl rfl (any_of HT_.out (by kernel_rfl)) (fun _ _ _ h => h) (Or.inl ⟨by rfl, ?_⟩) ?_ ?_
        rotate_left
        · intro w'
          go_simp
          with_reducible rfl
        rotate_left
        · (try simp only [Act.put, List.setIfInBounds_toArray, List.set_cons_zero, List.set_cons_succ])
          rfl
        refine pure_ (i := 4) (N := some 62) (v := ?_) (a' := ?_) #[true, true, true, true, true, false, false, false, false, false, false, false, false, false, false] rfl rfl (any_of HT_.out (by kernel_rfl)) (fun _ _ _ h => h) (Or.inl ⟨by rfl, ?_⟩) ?_ ?_
        rotate_left
        · intro w'
          go_simp
          with_reducible rfl
        rotate_left
        · (try simp only [Act.put, List.setIfInBounds_toArray, List.set_cons_zero, List.set_cons_succ])
          rfl
        refine pure_ (i := 5) (N := some 63) (v := .bool false) (a' := ?_) #[true, true, true, true, true, true, false, false, false, false, false, false, false, false, false] rfl rfl (any_of HT_.out (by kernel_rfl)) (fun _ _ _ h => h) (Or.inl ⟨by rfl, ?_⟩) ?_ ?_
        · intro w'
          go_simp
          all_goals exact hcv2.symm
        rotate_left
        · (try simp only [Act.put, List.setIfInBounds_toArray, List.set_cons_zero, List.set_cons_succ])
          rfl
        refine pure_ (i := 6) (N := some 64) (v := ?_) (a' := ?_) #[true, true, true, true, true, true, true, false, false, false, false, false, false, false, false] rfl rfl (any_of HT_.out (by kernel_rfl)) (fun _ _ _ h => h) (Or.inl ⟨by rfl, ?_⟩) ?_ ?_
        rotate_left
        · intro w'
          go_simp
          with_reducible rfl
        rotate_left
        · (try simp only [Act.put, List.setIfInBounds_toArray, List.set_cons_zero, List.set_cons_succ])
          rfl
        refine pure_ (i := 7) (N := some 65) (v := undef) (a' := ?_) #[true, true, true, true, true, true, true, true, false, false, false, false, false, false, false] rfl rfl (any_of HT_.out (by kernel_rfl)) (fun _ _ _ h => h) (Or.inr ⟨by rfl, rfl⟩) ?_ ?_
        rotate_left
        · (try simp only [Act.put, List.setIfInBounds_toArray, List.set_cons_zero, List.set_cons_succ])
          rfl
        refine pure_ (i := 8) (N := some 66) (v := undef) (a' := ?_) #[true, true, true, true, true, true, true, true, true, false, false, false, false, false, false] rfl rfl (any_of HT_.out (by kernel_rfl)) (fun _ _ _ h => h) (Or.inr ⟨by rfl, rfl⟩) ?_ ?_
        rotate_left
        · (try simp only [Act.put, List.setIfInBounds_toArray, List.set_cons_zero, List.set_cons_succ])
          rfl
        refine pure_ (i := 9) (N := some 67) (v := undef) (a' := ?_) #[true, true, true, true, true, true, true, true, true, true, false, false, false, false, false] rfl rfl (any_of HT_.out (by kernel_rfl)) (fun _ _ _ h => h) (Or.inr ⟨by rfl, rfl⟩) ?_ ?_
        rotate_left
        · (try simp only [Act.put, List.setIfInBounds_toArray, List.set_cons_zero, List.set_cons_succ])
          rfl
        refine pure_ (i := 10) (N := some 68) (v := undef) (a' := ?_) #[true, true, true, true, true, true, true, true, true, true, true, false, false, false, false] rfl rfl (any_of HT_.out (by kernel_rfl)) (fun _ _ _ h => h) (Or.inr ⟨by rfl, rfl⟩) ?_ ?_
        rotate_left
        · (try simp only [Act.put, List.setIfInBounds_toArray, List.set_cons_zero, List.set_cons_succ])
          rfl
        refine pure_ (i := 11) (N := some 69) (v := undef) (a' := ?_) #[true, true, true, true, true, true, true, true, true, true, true, true, false, false, false] rfl rfl (any_of HT_.out (by kernel_rfl)) (fun _ _ _ h => h) (Or.inr ⟨by rfl, rfl⟩) ?_ ?_
        rotate_left
        · (try simp only [Act.put, List.setIfInBounds_toArray, List.set_cons_zero, List.set_cons_succ])
          rfl
        refine pure_ (i := 12) (N := some 70) (v := undef) (a' := ?_) #[true, true, true, true, true, true, true, true, true, true, true, true, true, false, false] rfl rfl (any_of HT_.out (by kernel_rfl)) (fun _ _ _ h => h) (Or.inr ⟨by rfl, rfl⟩) ?_ ?_
        rotate_left
        · (try simp only [Act.put, List.setIfInBounds_toArray, List.set_cons_zero, List.set_cons_succ])
          rfl
        refine pure_ (i := 13) (N := some 71) (v := undef) (a' := ?_) #[true, true, true, true, true, true, true, true, true, true, true, true, true, true, false] rfl rfl (any_of HT_.out (by kernel_rfl)) (fun _ _ _ h => h) (Or.inr ⟨by rfl, rfl⟩) ?_ ?_
        rotate_left
        · (try simp only [Act.put, List.setIfInBounds_toArray, List.set_cons_zero, List.set_cons_succ])
          rfl
        refine pure_ (i := 14) (N := some 72) (v := ?_) (a' := ?_) #[true, true, true, true, true, true, true, true, true, true, true, true, true, true, true] rfl rfl (any_of HT_.out (by kernel_rfl)) (fun _ _ _ h => h) (Or.inl ⟨by rfl, ?_⟩) ?_ ?_
        rotate_left
        · intro w'
          go_simp
          with_reducible rfl
        rotate_left
        · (try simp only [Act.put, List.setIfInBounds_toArray, List.set_cons_zero, List.set_cons_succ])
          rfl
        refine done_ (done_of HT_.out (by kernel_rfl)) ?_
        go_wp2
        go_roundw
        case rel => exact ⟨k + 1, by omega, by simp, ⟨hHeld.1⟩, ⟨by rw [← wl_lit]; exact hHeld.2.1⟩, ⟨by rw [← wl_lit]; exact hHeld.2.2⟩⟩
        case measure => simp [intOf]; omega
      · have hw := HF.out k hlt hki
        have hne1 : ((k : Int) == (i : Int)) = false := by simp; omega
        have hne2 : ¬ ((k : Int) = (i : Int)) := by omega
        skip
        refine start_ (n := 15) (S := fun w' => OS a b (4 * (i : Int)) x #[.int .u32 (w4 l2 0), .int .u32 (w4 l2 4), .int .u64 (w8 l2 8), .int .u64 (w8 l2 16), .int .u64 (w8 l2 24), .int .u64 (w8 l2 32), .int .u64 (w8 l2 40), .int .u64 (w8 l2 48), .int .u64 (w8 l2 56)] w X w' ∧ w'.heap[Y]? = some (.cells (wl a.bytes 16).toArray 66 (0, 0)) ∧ w'.heap[Z]? = some (.cells (wl l2 16).toArray 66 (0, 0))) (ds := []) #[false, false, false, false, false, false, false, false, false, false, false, false, false, false, false] (by kernel_rfl) rfl rfl ⟨HS0.drew, blk_drew hY0, blk_drew hZ0⟩ (fun hHeld => ?_); refine with_tabW once13.tab13 once13.bits13 (fun HT_ HW_ => ?_)
        clear HS HY HZ hY0 hZ0 HS0
        generalize World.drew _ = W13 at hHeld ⊢
        refine pure_ (i := 0) (N := some 58) (v := ?_) (a' := ?_) #[true, false, false, false, false, false, false, false, false, false, false, false, false, false, false] rfl rfl (any_of HT_.out (by kernel_rfl)) (fun _ _ _ h => h) (Or.inl ⟨by rfl, ?_⟩) ?_ ?_
        rotate_left
        · intro w'
          go_simp
          with_reducible rfl
        rotate_left
        · (try simp only [Act.put, List.setIfInBounds_toArray, List.set_cons_zero, List.set_cons_succ])
          rfl
        refine pure_ (i := 1) (N := some 59) (v := ?_) (a' := ?_) #[true, true, false, false, false, false, false, false, false, false, false, false, false, false, false] rfl rfl (any_of HT_.out (by kernel_rfl)) (fun _ _ _ h => h) (Or.inl ⟨by rfl, ?_⟩) ?_ ?_
        rotate_left
        · intro w'
          go_simp
          with_reducible rfl
        rotate_left
        · (try simp only [Act.put, List.setIfInBounds_toArray, List.set_cons_zero, List.set_cons_succ])
          rfl
        refine take_ (i := 2) (N := some 60) (v := ?_) (a' := ?_) #[true, true, true, false, false, false, false, false, false, false, false, false, false, false, false] rfl rfl (take_ofW HT_.out HW_.out (by kernel_rfl)) (fun _ _ _ h => h) (Or.inl ⟨by rfl, ?_⟩) hHeld ?_ ?_
        rotate_left
        · intro w' hS_
          have hx_ : w'.cell? ⟨w.heap.size + 2, 0, none⟩ = some (.int .u32 (4 * (i : Int))) := blk_cell hS_.1.ht 0
          go_simp
          with_reducible rfl
        rotate_left
        · (try simp only [Act.put, List.setIfInBounds_toArray, List.set_cons_zero, List.set_cons_succ])
          rfl
        refine pure_ (i := 3) (N := some 61) (v := ?_) (a' := ?_) #[true, true, true, true, false, false, false, false, false, false, false, false, false, false, false] rfl rfl (any_of HT_.out (by kernel_rfl)) (fun _ _ _ h => h) (Or.inl ⟨by rfl, ?_⟩) ?_ ?_
        rotate_left
        · intro w'
          go_simp
          with_reducible rfl
        rotate_left
        · (try simp only [Act.put, List.setIfInBounds_toArray, List.set_cons_zero, List.set_cons_succ])
          rfl
        refine pure_ (i := 4) (N := some 62) (v := ?_) (a' := ?_) #[true, true, true, true, true, false, false, false, false, false, false, false, false, false, false] rfl rfl (any_of HT_.out (by kernel_rfl)) (fun _ _ _ h => h) (Or.inl ⟨by rfl, ?_⟩) ?_ ?_
        rotate_left
        · intro w'
          go_simp
          with_reducible rfl
        rotate_left
        · (try simp only [Act.put, List.setIfInBounds_toArray, List.set_cons_zero, List.set_cons_succ])
          rfl
        refine pure_ (i := 5) (N := some 63) (v := .bool true) (a' := ?_) #[true, true, true, true, true, true, false, false, false, false, false, false, false, false, false] rfl rfl (any_of HT_.out (by kernel_rfl)) (fun _ _ _ h => h) (Or.inl ⟨by rfl, ?_⟩) ?_ ?_
        · intro w'
          go_simp
          all_goals (rw [hcv2]; omega)
        rotate_left
        · (try simp only [Act.put, List.setIfInBounds_toArray, List.set_cons_zero, List.set_cons_succ])
          rfl
        refine pure_ (i := 6) (N := some 64) (v := ?_) (a' := ?_) #[true, true, true, true, true, true, true, false, false, false, false, false, false, false, false] rfl rfl (any_of HT_.out (by kernel_rfl)) (fun _ _ _ h => h) (Or.inl ⟨by rfl, ?_⟩) ?_ ?_
        rotate_left
        · intro w'
          go_simp
          with_reducible rfl
        rotate_left
        · (try simp only [Act.put, List.setIfInBounds_toArray, List.set_cons_zero, List.set_cons_succ])
          rfl
        refine pure_ (i := 7) (N := some 65) (v := ?_) (a' := ?_) #[true, true, true, true, true, true, true, true, false, false, false, false, false, false, false] rfl rfl (any_of HT_.out (by kernel_rfl)) (fun _ _ _ h => h) (Or.inl ⟨by rfl, ?_⟩) ?_ ?_
        rotate_left
        · intro w'
          go_simp
          with_reducible rfl
        rotate_left
        · (try simp only [Act.put, List.setIfInBounds_toArray, List.set_cons_zero, List.set_cons_succ])
          rfl
        refine pure_ (i := 8) (N := some 66) (v := ?_) (a' := ?_) #[true, true, true, true, true, true, true, true, true, false, false, false, false, false, false] rfl rfl (any_of HT_.out (by kernel_rfl)) (fun _ _ _ h => h) (Or.inl ⟨by rfl, ?_⟩) ?_ ?_
        rotate_left
        · intro w'
          go_simp
          with_reducible rfl
        rotate_left
        · (try simp only [Act.put, List.setIfInBounds_toArray, List.set_cons_zero, List.set_cons_succ])
          rfl
        refine take_ (i := 9) (N := some 67) (v := ?_) (a' := ?_) #[true, true, true, true, true, true, true, true, true, true, false, false, false, false, false] rfl rfl (take_ofW HT_.out HW_.out (by kernel_rfl)) (fun _ _ _ h => h) (Or.inl ⟨by rfl, ?_⟩) hHeld ?_ ?_
        rotate_left
        · intro w' hS_
          have hx_ : w'.cell? ⟨Y, k, none⟩ = some (.int .u32 (w4 a.bytes (4 * k))) := (blk_cell hS_.2.1 k).trans (by simp only [List.getElem?_toArray]; rw [wl_at _ _ _ hlt, if_pos hlt])
          go_simp
          with_reducible rfl
        rotate_left
        · (try simp only [Act.put, List.setIfInBounds_toArray, List.set_cons_zero, List.set_cons_succ])
          rfl
        refine pure_ (i := 10) (N := some 68) (v := ?_) (a' := ?_) #[true, true, true, true, true, true, true, true, true, true, true, false, false, false, false] rfl rfl (any_of HT_.out (by kernel_rfl)) (fun _ _ _ h => h) (Or.inl ⟨by rfl, ?_⟩) ?_ ?_
        rotate_left
        · intro w'
          go_simp
          with_reducible rfl
        rotate_left
        · (try simp only [Act.put, List.setIfInBounds_toArray, List.set_cons_zero, List.set_cons_succ])
          rfl
        refine pure_ (i := 11) (N := some 69) (v := ?_) (a' := ?_) #[true, true, true, true, true, true, true, true, true, true, true, true, false, false, false] rfl rfl (any_of HT_.out (by kernel_rfl)) (fun _ _ _ h => h) (Or.inl ⟨by rfl, ?_⟩) ?_ ?_
        rotate_left
        · intro w'
          go_simp
          with_reducible rfl
        rotate_left
        · (try simp only [Act.put, List.setIfInBounds_toArray, List.set_cons_zero, List.set_cons_succ])
          rfl
        refine take_ (i := 12) (N := some 70) (v := ?_) (a' := ?_) #[true, true, true, true, true, true, true, true, true, true, true, true, true, false, false] rfl rfl (take_ofW HT_.out HW_.out (by kernel_rfl)) (fun _ _ _ h => h) (Or.inl ⟨by rfl, ?_⟩) hHeld ?_ ?_
        rotate_left
        · intro w' hS_
          have hx_ : w'.cell? ⟨Z, k, none⟩ = some (.int .u32 (w4 l2 (4 * k))) := (blk_cell hS_.2.2 k).trans (by simp only [List.getElem?_toArray]; rw [wl_at _ _ _ hlt, if_pos hlt])
          go_simp
          with_reducible rfl
        rotate_left
        · (try simp only [Act.put, List.setIfInBounds_toArray, List.set_cons_zero, List.set_cons_succ])
          rfl
        refine pure_ (i := 13) (N := some 71) (v := ?_) (a' := ?_) #[true, true, true, true, true, true, true, true, true, true, true, true, true, true, false] rfl rfl (any_of HT_.out (by kernel_rfl)) (fun _ _ _ h => h) (Or.inl ⟨by rfl, ?_⟩) ?_ ?_
        rotate_left
        · intro w'
          go_simp
          with_reducible rfl
        rotate_left
        · (try simp only [Act.put, List.setIfInBounds_toArray, List.set_cons_zero, List.set_cons_succ])
          rfl
        refine pure_ (i := 14) (N := some 72) (v := ?_) (a' := ?_) #[true, true, true, true, true, true, true, true, true, true, true, true, true, true, true] rfl rfl (any_of HT_.out (by kernel_rfl)) (fun _ _ _ h => h) (Or.inl ⟨by rfl, ?_⟩) ?_ ?_
        rotate_left
        · intro w'
          go_simp
          with_reducible rfl
        rotate_left
        · (try simp only [Act.put, List.setIfInBounds_toArray, List.set_cons_zero, List.set_cons_succ])
          rfl
        refine done_ (done_of HT_.out (by kernel_rfl)) ?_
        go_wp2
        go_roundw
        case rel => exact ⟨k + 1, by omega, by simp, ⟨hHeld.1⟩, ⟨by rw [← wl_lit]; exact hHeld.2.1⟩, ⟨by rw [← wl_lit]; exact hHeld.2.2⟩⟩
        case measure => simp [intOf]; omega
    · obtain rfl : k = 16 := by omega
      clear HY HZ HF
      go_upto_region 16 with fail
      have HS0 := HS.out
      obtain ⟨e58, he58⟩ : ∃ e58, e58 = (a.nr == b.nr && (a.ar == b.ar && (a.ip == b.ip && (a.a0 == b.a0 && (a.a1 == b.a1 && (a.a2 == b.a2 && (a.a3 == b.a3 && (a.a4 == b.a4 && (a.a5 == b.a5))))))))) := ⟨_, rfl⟩
      obtain ⟨e66, he66⟩ : ∃ e66, e66 = ((List.range 16).all fun i => w4 a.bytes (4 * i) == w4 b.bytes (4 * i)) := ⟨_, rfl⟩
      have HEE := Aside0.mk (show e66 = e58 from by rw [he66, he58]; exact HSAME.out)
      replace HQ66 := HQ66.out
      rw [← he66] at HQ66
      replace HQ66 := Aside0.mk HQ66
      have HE58 := Aside0.mk he58
      clear he58 he66 HSAME
      have HQ58 : Aside0 (∀ W : World, (Op.equalIn 10000 58 (.agg #[.int .u32 a.nr, .int .u32 a.ar, .int .u64 a.ip, .int .u64 a.a0, .int .u64 a.a1, .int .u64 a.a2, .int .u64 a.a3, .int .u64 a.a4, .int .u64 a.a5]) (.agg #[.int .u32 b.nr, .int .u32 b.ar, .int .u64 b.ip, .int .u64 b.a0, .int .u64 b.a1, .int .u64 b.a2, .int .u64 b.a3, .int .u64 b.a4, .int .u64 b.a5])).run Try.prog W = .ok e58 W) := ⟨fun W => by rw [HE58.out]; exact eq58 W a.nr b.nr a.ar b.ar a.ip b.ip a.a0 b.a0 a.a1 b.a1 a.a2 b.a2 a.a3 b.a3 a.a4 b.a4 a.a5 b.a5 9997⟩
      refine start_ (n := 10) (S := fun w' => OS a b (4 * (i : Int)) x #[.int .u32 (w4 l2 0), .int .u32 (w4 l2 4), .int .u64 (w8 l2 8), .int .u64 (w8 l2 16), .int .u64 (w8 l2 24), .int .u64 (w8 l2 32), .int .u64 (w8 l2 40), .int .u64 (w8 l2 48), .int .u64 (w8 l2 56)] w X w') (ds := []) #[false, false, false, false, false, false, false, false, false, false] (by kernel_rfl) rfl rfl (HS0.drew) (fun hHeld => ?_); refine with_tabW once16.tab16 once16.bits16 (fun HT_ HW_ => ?_)
      clear HS HS0
      generalize World.drew _ = W16 at hHeld ⊢
      refine take_ (i := 0) (N := some 74) (v := ?_) (a' := ?_) #[true, false, false, false, false, false, false, false, false, false] rfl rfl (take_ofW HT_.out HW_.out (by kernel_rfl)) (fun _ _ _ h => h) (Or.inl ⟨by rfl, ?_⟩) hHeld ?_ ?_
      rotate_left
      · intro w' hS_
        have hx0 : w'.cell? ⟨w.heap.size, 0, none⟩ = some (.int .u32 a.nr) := blk_cell hS_.ha 0
        have hx1 : w'.cell? ⟨w.heap.size, 1, none⟩ = some (.int .u32 a.ar) := blk_cell hS_.ha 1
        have hx2 : w'.cell? ⟨w.heap.size, 2, none⟩ = some (.int .u64 a.ip) := blk_cell hS_.ha 2
        have hx3 : w'.cell? ⟨w.heap.size, 3, none⟩ = some (.int .u64 a.a0) := blk_cell hS_.ha 3
        have hx4 : w'.cell? ⟨w.heap.size, 4, none⟩ = some (.int .u64 a.a1) := blk_cell hS_.ha 4
        have hx5 : w'.cell? ⟨w.heap.size, 5, none⟩ = some (.int .u64 a.a2) := blk_cell hS_.ha 5
        have hx6 : w'.cell? ⟨w.heap.size, 6, none⟩ = some (.int .u64 a.a3) := blk_cell hS_.ha 6
        have hx7 : w'.cell? ⟨w.heap.size, 7, none⟩ = some (.int .u64 a.a4) := blk_cell hS_.ha 7
        have hx8 : w'.cell? ⟨w.heap.size, 8, none⟩ = some (.int .u64 a.a5) := blk_cell hS_.ha 8
        go_simp
        with_reducible rfl
      rotate_left
      · (try simp only [Act.put, List.setIfInBounds_toArray, List.set_cons_zero, List.set_cons_succ])
        rfl
      refine take_ (i := 5) (N := some 79) (v := ?_) (a' := ?_) #[true, false, false, false, false, true, false, false, false, false] rfl rfl (take_ofW HT_.out HW_.out (by kernel_rfl)) (fun _ _ _ h => h) (Or.inl ⟨by rfl, ?_⟩) hHeld ?_ ?_
      rotate_left
      · intro w' hS_
        have hx0 : w'.cell? ⟨w.heap.size, 0, none⟩ = some (.int .u32 a.nr) := blk_cell hS_.ha 0
        have hx1 : w'.cell? ⟨w.heap.size, 1, none⟩ = some (.int .u32 a.ar) := blk_cell hS_.ha 1
        have hx2 : w'.cell? ⟨w.heap.size, 2, none⟩ = some (.int .u64 a.ip) := blk_cell hS_.ha 2
        have hx3 : w'.cell? ⟨w.heap.size, 3, none⟩ = some (.int .u64 a.a0) := blk_cell hS_.ha 3
        have hx4 : w'.cell? ⟨w.heap.size, 4, none⟩ = some (.int .u64 a.a1) := blk_cell hS_.ha 4
        have hx5 : w'.cell? ⟨w.heap.size, 5, none⟩ = some (.int .u64 a.a2) := blk_cell hS_.ha 5
        have hx6 : w'.cell? ⟨w.heap.size, 6, none⟩ = some (.int .u64 a.a3) := blk_cell hS_.ha 6
        have hx7 : w'.cell? ⟨w.heap.size, 7, none⟩ = some (.int .u64 a.a4) := blk_cell hS_.ha 7
        have hx8 : w'.cell? ⟨w.heap.size, 8, none⟩ = some (.int .u64 a.a5) := blk_cell hS_.ha 8
        go_simp
        with_reducible rfl
      rotate_left
      · (try simp only [Act.put, List.setIfInBounds_toArray, List.set_cons_zero, List.set_cons_succ])
        rfl
      refine take_ (i := 2) (N := some 76) (v := ?_) (a' := ?_) #[true, false, true, false, false, true, false, false, false, false] rfl rfl (take_ofW HT_.out HW_.out (by kernel_rfl)) (fun _ _ _ h => h) (Or.inl ⟨by rfl, ?_⟩) hHeld ?_ ?_
      rotate_left
      · intro w' hS_
        have hx0 : w'.cell? ⟨w.heap.size + 1, 0, none⟩ = some (.int .u32 b.nr) := blk_cell hS_.hb 0
        have hx1 : w'.cell? ⟨w.heap.size + 1, 1, none⟩ = some (.int .u32 b.ar) := blk_cell hS_.hb 1
        have hx2 : w'.cell? ⟨w.heap.size + 1, 2, none⟩ = some (.int .u64 b.ip) := blk_cell hS_.hb 2
        have hx3 : w'.cell? ⟨w.heap.size + 1, 3, none⟩ = some (.int .u64 b.a0) := blk_cell hS_.hb 3
        have hx4 : w'.cell? ⟨w.heap.size + 1, 4, none⟩ = some (.int .u64 b.a1) := blk_cell hS_.hb 4
        have hx5 : w'.cell? ⟨w.heap.size + 1, 5, none⟩ = some (.int .u64 b.a2) := blk_cell hS_.hb 5
        have hx6 : w'.cell? ⟨w.heap.size + 1, 6, none⟩ = some (.int .u64 b.a3) := blk_cell hS_.hb 6
        have hx7 : w'.cell? ⟨w.heap.size + 1, 7, none⟩ = some (.int .u64 b.a4) := blk_cell hS_.hb 7
        have hx8 : w'.cell? ⟨w.heap.size + 1, 8, none⟩ = some (.int .u64 b.a5) := blk_cell hS_.hb 8
        go_simp
        with_reducible rfl
      rotate_left
      · (try simp only [Act.put, List.setIfInBounds_toArray, List.set_cons_zero, List.set_cons_succ])
        rfl
      refine take_ (i := 6) (N := some 80) (v := ?_) (a' := ?_) #[true, false, true, false, false, true, true, false, false, false] rfl rfl (take_ofW HT_.out HW_.out (by kernel_rfl)) (fun _ _ _ h => h) (Or.inl ⟨by rfl, ?_⟩) hHeld ?_ ?_
      rotate_left
      · intro w' hS_
        have hx0 : w'.cell? ⟨w.heap.size + 1, 0, none⟩ = some (.int .u32 b.nr) := blk_cell hS_.hb 0
        have hx1 : w'.cell? ⟨w.heap.size + 1, 1, none⟩ = some (.int .u32 b.ar) := blk_cell hS_.hb 1
        have hx2 : w'.cell? ⟨w.heap.size + 1, 2, none⟩ = some (.int .u64 b.ip) := blk_cell hS_.hb 2
        have hx3 : w'.cell? ⟨w.heap.size + 1, 3, none⟩ = some (.int .u64 b.a0) := blk_cell hS_.hb 3
        have hx4 : w'.cell? ⟨w.heap.size + 1, 4, none⟩ = some (.int .u64 b.a1) := blk_cell hS_.hb 4
        have hx5 : w'.cell? ⟨w.heap.size + 1, 5, none⟩ = some (.int .u64 b.a2) := blk_cell hS_.hb 5
        have hx6 : w'.cell? ⟨w.heap.size + 1, 6, none⟩ = some (.int .u64 b.a3) := blk_cell hS_.hb 6
        have hx7 : w'.cell? ⟨w.heap.size + 1, 7, none⟩ = some (.int .u64 b.a4) := blk_cell hS_.hb 7
        have hx8 : w'.cell? ⟨w.heap.size + 1, 8, none⟩ = some (.int .u64 b.a5) := blk_cell hS_.hb 8
        go_simp
        with_reducible rfl
      rotate_left
      · (try simp only [Act.put, List.setIfInBounds_toArray, List.set_cons_zero, List.set_cons_succ])
        rfl
      refine pure_ (i := 7) (N := some 81) (v := ?_) (a' := ?_) #[true, false, true, false, false, true, true, true, false, false] rfl rfl (any_of HT_.out (by kernel_rfl)) (fun _ _ _ h => h) (Or.inl ⟨by rfl, ?_⟩) ?_ ?_
      rotate_left
      · intro w'
        have heq := HQ58.out
        go_simp
        with_reducible rfl
      rotate_left
      · (try simp only [Act.put, List.setIfInBounds_toArray, List.set_cons_zero, List.set_cons_succ])
        rfl
      refine one_ (i := 1) (N := some 75) #[true, true, true, false, false, true, true, true, false, false] rfl rfl (one_of HT_.out (by kernel_rfl)) (by decide) (fun K hK => ?_)
      refine goes_ Try.func44 (by kernel_rfl) rfl #[.agg #[.int .u32 a.nr, .int .u32 a.ar, .int .u64 a.ip, .int .u64 a.a0, .int .u64 a.a1, .int .u64 a.a2, .int .u64 a.a3, .int .u64 a.a4, .int .u64 a.a5]] (by rfl) rfl rfl (by (try simp only [List.map_toArray, List.map_cons, List.map_nil]); first | done | rfl) ?_
      refine (kA.out _).mono ?_
      rintro e u ⟨rfl, hB⟩
      refine ⟨_, rfl, ?_⟩
      have hS2 := hHeld.step hB
      clear hB hHeld
      refine hK.out _ _ hS2 (fun hHeld => ?_)
      clear hK K hS2
      refine norm_ (a' := ?_) ?_ ?_
      rotate_left
      · show Act.put _ (some 75) _ = _
        (try simp only [Act.put, List.setIfInBounds_toArray, List.set_cons_zero, List.set_cons_succ])
        rfl
      refine one_ (i := 3) (N := some 77) #[true, true, true, true, false, true, true, true, false, false] rfl rfl (one_of HT_.out (by kernel_rfl)) (by decide) (fun K hK => ?_)
      refine goes_ Try.func44 (by kernel_rfl) rfl #[.agg #[.int .u32 b.nr, .int .u32 b.ar, .int .u64 b.ip, .int .u64 b.a0, .int .u64 b.a1, .int .u64 b.a2, .int .u64 b.a3, .int .u64 b.a4, .int .u64 b.a5]] (by rfl) rfl rfl (by (try simp only [List.map_toArray, List.map_cons, List.map_nil]); first | done | rfl) ?_
      refine (kB.out _).mono ?_
      rintro e u ⟨rfl, hB⟩
      refine ⟨_, rfl, ?_⟩
      have hS2 := hHeld.step hB
      clear hB hHeld
      refine hK.out _ _ hS2 (fun hHeld => ?_)
      clear hK K hS2
      refine norm_ (a' := ?_) ?_ ?_
      rotate_left
      · show Act.put _ (some 77) _ = _
        (try simp only [Act.put, List.setIfInBounds_toArray, List.set_cons_zero, List.set_cons_succ])
        rfl
      refine pure_ (i := 4) (N := some 78) (v := ?_) (a' := ?_) #[true, true, true, true, true, true, true, true, false, false] rfl rfl (any_of HT_.out (by kernel_rfl)) (fun _ _ _ h => h) (Or.inl ⟨by rfl, ?_⟩) ?_ ?_
      rotate_left
      · intro w'
        have hq := HQ66.out w'
        go_simp
        with_reducible rfl
      rotate_left
      · (try simp only [Act.put, List.setIfInBounds_toArray, List.set_cons_zero, List.set_cons_succ])
        rfl
      refine pure_ (i := 8) (N := some 82) (v := ?_) (a' := ?_) #[true, true, true, true, true, true, true, true, true, false] rfl rfl (any_of HT_.out (by kernel_rfl)) (fun _ _ _ h => h) (Or.inl ⟨by rfl, ?_⟩) ?_ ?_
      rotate_left
      · intro w'
        go_simp
        with_reducible rfl
      rotate_left
      · (try simp only [Act.put, List.setIfInBounds_toArray, List.set_cons_zero, List.set_cons_succ])
        rfl
      refine pure_ (i := 9) (N := some 6) (v := ?_) (a' := ?_) #[true, true, true, true, true, true, true, true, true, true] rfl rfl (any_of HT_.out (by kernel_rfl)) (fun _ _ _ h => h) (Or.inl ⟨by rfl, ?_⟩) ?_ ?_
      rotate_left
      · intro w'
        go_simp
        with_reducible rfl
      rotate_left
      · (try simp only [Act.put, List.setIfInBounds_toArray, List.set_cons_zero, List.set_cons_succ])
        rfl
      refine done_ (done_of HT_.out (by kernel_rfl)) ?_
      go_wp2
      go_ret
      exact ⟨by rw [HEE.out]; simp, hHeld.below⟩
end Go.Proofs.Ytpejeeemefmafaa.RD
