import Derived.Test.YtcpabgijmknldaaDoorPUx3
import Derived.Test.YtcpabgijmknldaaDoorRH
import Derived.StillTailTactics
namespace Go.Proofs.YtcpabgijmknldaaDoor.RG
open Go.RowKit Go.Shelf Go.Proofs.YtcpabgijmknldaaDoorW.PrintWords Go.Proofs.YtcpabgijmknldaaDoorW.PrintLast Go.Proofs.YtcpabgijmknldaaDoorW.PrintMore
open Go.Proofs.YtcpabgijmknldaaDoor.PS (S29 S31 k29 k31 k31_open k31_openM k31_mkM k31_mk rd_T31 at_T31 z31 Rok rd_at)
set_option linter.unusedVariables false
set_option linter.unusedSimpArgs false

def minStep (m x : S31) : S31 := if x.f4.f0 < m.f4.f0 then x else m
/-- The least line of the first k + 1. -/
def minV (ls : List S31) : Nat → S31
  | 0 => rd_T31 ls 0
  | k + 1 => minStep (minV ls k) (rd_T31 ls ((k + 1 : Nat) : Int))
abbrev lineC (x : S31) : Obj := .cells #[.int .u64 x.f0, .int .i64 x.f1, .int .u32 x.f2, .int .u32 x.f3, .int .i64 x.f4.f0, .int .u16 x.f4.f1] 31 (0, 0)
set_option maxRecDepth 100000 in
set_option maxHeartbeats 8000000 in
theorem minfunc_w (A : Option Addr) (c : Nat) (ls : List S31) (hl : ls.length ≤ 1000) (h0 : 0 < ls.length) (hact : ∀ i : Nat, i < ls.length → 0 ≤ (rd_T31 ls i).f4.f0 ∧ (rd_T31 ls i).f4.f0 ≤ 7) (w : World) (hC : Kd.C k31 w A ls.length ls) :
    Calls Tryd.prog 33 #[.slice A ls.length c, .func (.func 34) #[] #[]] w fun e w' => e = .returned (lineV (minV ls (ls.length - 1))) ∧ Below w.heap.size w w' := by
  obtain ⟨m, hm⟩ : ∃ m, m = ls.length := ⟨_, rfl⟩
  have HM := Lib.hid hm
  have HC := Lib.hid hC
  have HA := Lib.hid hact
  obtain ⟨ad, hA, hx0, hx1, hx2, hx3, hx4, hx5⟩ := at_T31 hC 0 (by omega) (by omega)
  subst hA
  rw [← hm] at hl h0 ⊢
  have hmr : ∀ k : Nat, k < m → 0 ≤ (minV ls k).f4.f0 ∧ (minV ls k).f4.f0 ≤ 7 := by
    intro k
    induction k with
    | zero => intro _; exact HA.out 0 (by omega)
    | succ k ih =>
      intro hk
      have a := ih (by omega)
      have b := HA.out (k + 1) (by omega)
      unfold minV minStep
      split
      · exact b
      · exact a
  have HR := Lib.hid hmr
  have hx : minV ls 0 = rd_T31 ls 0 := rfl
  clear hm hC hact hmr
  rw [← hx] at hx0 hx1 hx2 hx3 hx4 hx5
  have HX := Lib.hid hx
  clear hx
  simp only [Int.toNat_zero, Nat.zero_mul, show ad.add 0 = ad from rfl] at hx0 hx1 hx2 hx3 hx4 hx5
  have hbl := World.block_lt_of_cell? _ _ hx0
  go_enter Tryd.func33, Tryd.ntmps33
  go_wp2_with fail
  have h4 : ((w.alloc (.cells #[.int .u64 0, .int .i64 0, .int .u32 0, .int .u32 0, .int .i64 0, .int .u16 0] 31)).alloc (.cells #[.int .u64 (minV ls 0).f0, .int .i64 (minV ls 0).f1, .int .u32 (minV ls 0).f2, .int .u32 (minV ls 0).f3, .int .i64 (minV ls 0).f4.f0, .int .u16 (minV ls 0).f4.f1] 31)).heap[w.heap.size]? = some (.cells #[.int .u64 0, .int .i64 0, .int .u32 0, .int .u32 0, .int .i64 0, .int .u16 0] 31 (0, 0)) := (Below.heap_alloc _ _ _ (by simp)).trans (World.alloc_heap_new w _)
  have h5 : ((w.alloc (.cells #[.int .u64 0, .int .i64 0, .int .u32 0, .int .u32 0, .int .i64 0, .int .u16 0] 31)).alloc (.cells #[.int .u64 (minV ls 0).f0, .int .i64 (minV ls 0).f1, .int .u32 (minV ls 0).f2, .int .u32 (minV ls 0).f3, .int .i64 (minV ls 0).f4.f0, .int .u16 (minV ls 0).f4.f1] 31)).heap[w.heap.size + 1]? = some (.cells #[.int .u64 (minV ls 0).f0, .int .i64 (minV ls 0).f1, .int .u32 (minV ls 0).f2, .int .u32 (minV ls 0).f3, .int .i64 (minV ls 0).f4.f0, .int .u16 (minV ls 0).f4.f1] 31 (0, 0)) := by
    have e := World.alloc_heap_new (w.alloc (.cells #[.int .u64 0, .int .i64 0, .int .u32 0, .int .u32 0, .int .i64 0, .int .u16 0] 31)) (.cells #[.int .u64 (minV ls 0).f0, .int .i64 (minV ls 0).f1, .int .u32 (minV ls 0).f2, .int .u32 (minV ls 0).f3, .int .i64 (minV ls 0).f4.f0, .int .u16 (minV ls 0).f4.f1] 31)
    rw [World.size_alloc] at e
    exact e
  have hB : Below w.heap.size w ((w.alloc (.cells #[.int .u64 0, .int .i64 0, .int .u32 0, .int .u32 0, .int .i64 0, .int .u16 0] 31)).alloc (.cells #[.int .u64 (minV ls 0).f0, .int .i64 (minV ls 0).f1, .int .u32 (minV ls 0).f2, .int .u32 (minV ls 0).f3, .int .i64 (minV ls 0).f4.f0, .int .u16 (minV ls 0).f4.f1] 31)) := ((Below.refl _ w).alloc (Nat.le_refl _) _).alloc (by simp) _
  have H4 := Lib.hid h4
  have H5 := Lib.hid h5
  have HB := Lib.hid hB
  clear h4 h5 hB hx0 hx1 hx2 hx3 hx4 hx5
  go_loopw [6] (fun i wr => ∃ (k : Nat) (j : Int), k + 1 ≤ m ∧ i = .int .i64 j ∧ Hid (j = (k : Int) + 1) ∧ 1 ≤ j ∧ j ≤ (m : Int) ∧ Hid (wr.heap[w.heap.size]? = some (.cells #[.int .u64 0, .int .i64 0, .int .u32 0, .int .u32 0, .int .i64 0, .int .u16 0] 31 (0, 0))) ∧ Hid (wr.heap[w.heap.size + 1]? = some (.cells #[.int .u64 (minV ls k).f0, .int .i64 (minV ls k).f1, .int .u32 (minV ls k).f2, .int .u32 (minV ls k).f3, .int .i64 (minV ls k).f4.f0, .int .u16 (minV ls k).f4.f1] 31 (0, 0))) ∧ Hid (Below w.heap.size w wr)) (fun i _ => (m - intOf i).toNat)
  case atStart => exact ⟨0, 1, by omega, rfl, Lib.hid (by simp), by omega, by omega, H4, H5, HB⟩
  case round =>
    obtain ⟨k, j, hk, rfl, HJ, hj1, hj2, K4, K5, KB⟩ := hrel
    clear H4 H5 HB
    have hmk := HR.out k (by omega)
    obtain ⟨M, hM⟩ : ∃ M, M = minV ls k := ⟨_, rfl⟩
    rw [← hM] at K5 hmk
    have HMK := Lib.hid hM
    clear hM
    have c0 := blk_cell K5.out 0
    have c1 := blk_cell K5.out 1
    have c2 := blk_cell K5.out 2
    have c3 := blk_cell K5.out 3
    have c4 := blk_cell K5.out 4
    have c5 := blk_cell K5.out 5
    have hl5 := blk_lt K5.out
    by_cases hlt : j < (m : Int)
    · obtain ⟨ad2, hA2, hx0, hx1, hx2, hx3, hx4, hx5⟩ := at_T31 (Kd.C_below HC.out KB.out) j (by omega) (by rw [← HM.out]; exact hlt)
      obtain rfl := Option.some.inj hA2
      have hxa := HA.out (k + 1) (by rw [← HM.out]; have := HJ.out; omega)
      rw [show ((k + 1 : Nat) : Int) = j by have := HJ.out; omega] at hxa
      obtain ⟨x, hx⟩ : ∃ x, x = rd_T31 ls j := ⟨_, rfl⟩
      rw [← hx] at hx0 hx1 hx2 hx3 hx4 hx5 hxa
      have HXK := Lib.hid hx
      have HX0 := Lib.hid (And.intro hx0 (And.intro hx1 (And.intro hx2 (And.intro hx3 (And.intro hx4 hx5)))))
      clear hx hA2
      obtain ⟨r, hr⟩ : ∃ r, r = x.f4.f0 - M.f4.f0 := ⟨_, rfl⟩
      have hw : wrap64 (x.f4.f0 - M.f4.f0) = r := by rw [hr]; unfold wrap64; omega
      have HW := Lib.hid hw
      have HRR := Lib.hid hr
      clear hw hr hxa hmk
      go_wp2_with fail
      have b0 : (0 : Int) ≤ j := by omega
      go_still_tail 6, (by kernel_rfl)
      change wpList _ _ _ _ _ wr.drew
      by_cases hlr : r < 0
      · have hmin : minV ls (k + 1) = x := by
          have e1 : ((k + 1 : Nat) : Int) = j := by have := HJ.out; omega
          show minStep (minV ls k) (rd_T31 ls ((k + 1 : Nat) : Int)) = x
          rw [e1, ← HXK.out, ← HMK.out]
          unfold minStep
          rw [if_pos (by have := HRR.out; omega)]
        have HMIN := Lib.hid hmin
        clear hmin
        go_wp2_with fail
        refine (PS.U.log_Worst_c1.calls x.f0 x.f1 x.f2 x.f3 x.f4.f0 x.f4.f1 M.f0 M.f1 M.f2 M.f3 M.f4.f0 M.f4.f1 r _ (congrArg some HW.out)).mono ?_
        rintro e w1 ⟨rfl, hb⟩
        have L4 := Lib.hid ((hb.block _ (blk_lt (blk_drew K4.out))).trans (blk_drew K4.out))
        have L5 := Lib.hid ((hb.block _ (blk_lt (blk_drew K5.out))).trans (blk_drew K5.out))
        have LB := Lib.hid ((below_drew KB.out).trans (hb.mono (below_drew KB.out).size))
        clear hb hx0 hx1 hx2 hx3 hx4 hx5 c0 c1 c2 c3 c4 c5
        obtain ⟨ad3, hA3, g0, g1, g2, g3, g4, g5⟩ := at_T31 (Kd.C_below HC.out LB.out) j (by omega) (by rw [← HM.out]; exact hlt)
        obtain rfl := Option.some.inj hA3
        rw [← HXK.out] at g0 g1 g2 g3 g4 g5
        clear hA3
        have d0 := blk_cell L5.out 0
        have d1 := blk_cell L5.out 1
        have d2 := blk_cell L5.out 2
        have d3 := blk_cell L5.out 3
        have d4 := blk_cell L5.out 4
        have d5 := blk_cell L5.out 5
        have f0 := blk_frozen L5.out 0
        have f1 := blk_frozen L5.out 1
        have f2 := blk_frozen L5.out 2
        have f3 := blk_frozen L5.out 3
        have f4 := blk_frozen L5.out 4
        have f5 := blk_frozen L5.out 5
        have hl5b := blk_lt L5.out
        go_wp2_with fail
        refine ⟨⟨k + 1, j + 1, by have := HJ.out; omega, rfl, Lib.hid (by have := HJ.out; omega), by omega, by omega, Lib.hid ?_, Lib.hid ?_, Lib.hid ?_⟩, by simp [intOf]; omega⟩
        · repeat (with_reducible first | exact L4.out | refine (Below.heap_setCell _ _ _ _ (by dsimp only; omega)).trans ?_)
        · rw [HMIN.out]
          (repeat (with_reducible first | exact L5.out | apply blk_put)); all_goals rfl
        · repeat (with_reducible first | exact LB.out | refine Below.setCell ?_ (by dsimp only; omega) _)
      · have hmin : minV ls (k + 1) = M := by
          have e1 : ((k + 1 : Nat) : Int) = j := by have := HJ.out; omega
          show minStep (minV ls k) (rd_T31 ls ((k + 1 : Nat) : Int)) = M
          rw [e1, ← HXK.out, ← HMK.out]
          unfold minStep
          rw [if_neg (by have := HRR.out; omega)]
        have HMIN := Lib.hid hmin
        clear hmin
        go_wp2_with fail
        refine (PS.U.log_Worst_c1.calls x.f0 x.f1 x.f2 x.f3 x.f4.f0 x.f4.f1 M.f0 M.f1 M.f2 M.f3 M.f4.f0 M.f4.f1 r _ (congrArg some HW.out)).mono ?_
        rintro e w1 ⟨rfl, hb⟩
        have L4 := Lib.hid ((hb.block _ (blk_lt (blk_drew K4.out))).trans (blk_drew K4.out))
        have L5 := Lib.hid ((hb.block _ (blk_lt (blk_drew K5.out))).trans (blk_drew K5.out))
        have LB := Lib.hid ((below_drew KB.out).trans (hb.mono (below_drew KB.out).size))
        clear hb hx0 hx1 hx2 hx3 hx4 hx5 c0 c1 c2 c3 c4 c5
        obtain ⟨ad3, hA3, g0, g1, g2, g3, g4, g5⟩ := at_T31 (Kd.C_below HC.out LB.out) j (by omega) (by rw [← HM.out]; exact hlt)
        obtain rfl := Option.some.inj hA3
        rw [← HXK.out] at g0 g1 g2 g3 g4 g5
        clear hA3
        have d0 := blk_cell L5.out 0
        have d1 := blk_cell L5.out 1
        have d2 := blk_cell L5.out 2
        have d3 := blk_cell L5.out 3
        have d4 := blk_cell L5.out 4
        have d5 := blk_cell L5.out 5
        have f0 := blk_frozen L5.out 0
        have f1 := blk_frozen L5.out 1
        have f2 := blk_frozen L5.out 2
        have f3 := blk_frozen L5.out 3
        have f4 := blk_frozen L5.out 4
        have f5 := blk_frozen L5.out 5
        have hl5b := blk_lt L5.out
        go_wp2_with fail
        refine ⟨⟨k + 1, j + 1, by have := HJ.out; omega, rfl, Lib.hid (by have := HJ.out; omega), by omega, by omega, L4, Lib.hid ?_, LB⟩, by simp [intOf]; omega⟩
        rw [HMIN.out]
        exact L5.out
    · have e : k = m - 1 := by have := HJ.out; omega
      have d0 := blk_cell K4.out 0
      have d1 := blk_cell K4.out 1
      have d2 := blk_cell K4.out 2
      have d3 := blk_cell K4.out 3
      have d4 := blk_cell K4.out 4
      have d5 := blk_cell K4.out 5
      have f0 := blk_frozen K4.out 0
      have f1 := blk_frozen K4.out 1
      have f2 := blk_frozen K4.out 2
      have f3 := blk_frozen K4.out 3
      have f4 := blk_frozen K4.out 4
      have f5 := blk_frozen K4.out 5
      have hl4 := blk_lt K4.out
      go_wp2_with fail
      refine bodyPost_ret (v := lineV M) (by simp [results, Tryd.results33, go_sem, d0, d1, d2, d3, d4, d5, hl4]) rfl ⟨by rw [HMK.out, e], ?_⟩
      repeat (with_reducible first | exact KB.out | refine Below.setCell ?_ (by dsimp only; omega) _)
end Go.Proofs.YtcpabgijmknldaaDoor.RG
