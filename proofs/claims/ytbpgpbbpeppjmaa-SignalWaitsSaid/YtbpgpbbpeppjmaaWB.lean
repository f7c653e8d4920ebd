import Derived.Test.YtbpgpbbpeppjmaaWA
import Derived.Lib.Hide
import Derived.Outline
namespace Go.Proofs.Ytbpgpbbpeppjmaa.PD
open Go.RowKit Go.Proofs.YtbpgpbbpeppjmaaW.PrintWords Go.Proofs.YtbpgpbbpeppjmaaW.PrintLast Go.Proofs.YtbpgpbbpeppjmaaW.PrintMore
open Go.Proofs.Ytbpgpbbpeppjmaa.SG (Sg Ht Outs store27 store33 block_c send_c)
set_option linter.unusedVariables false
set_option linter.unusedSimpArgs false
theorem heap_new_at (w : World) (o : Obj) (n : Nat) (hn : n = w.heap.size) : (w.alloc o).heap[n]? = some o := hn ▸ heap_alloc_new w o
theorem below_drewN' {B : Nat} {w W : World} (h : Below B w W) (n : Nat) : Below B w (W.drewN n) := pw_below_drewN h n
theorem below_drew' {B : Nat} {w W : World} (h : Below B w W) : Below B w W.drew := below_drew h
theorem boxes1 {w w' : World} {c0 : Array Value} {t0 : TypeId} (hb : Below (w.alloc (.cells c0 t0)).heap.size (w.alloc (.cells c0 t0)) w') :
    Aside0 (w'.heap[w.heap.size]? = some (.cells c0 t0 (0, 0))) ∧ Below w.heap.size w w' := by
  have h0 : w'.heap[w.heap.size]? = some (.cells c0 t0 (0, 0)) := (hb.block _ (by simp only [World.size_alloc]; omega)).trans (heap_new_at w (.cells c0 t0) (w.heap.size) (by simp only [World.size_alloc]))
  exact ⟨⟨h0⟩, ((Below.refl _ _).alloc (Nat.le_refl _) _).trans (hb.mono (by simp only [World.size_alloc]; omega))⟩

theorem boxes2 {w w' : World} {c0 c1 : Array Value} {t0 t1 : TypeId} (hb : Below ((w.alloc (.cells c0 t0)).alloc (.cells c1 t1)).heap.size ((w.alloc (.cells c0 t0)).alloc (.cells c1 t1)) w') :
    Aside0 (w'.heap[w.heap.size]? = some (.cells c0 t0 (0, 0))) ∧ Aside0 (w'.heap[w.heap.size + 1]? = some (.cells c1 t1 (0, 0))) ∧ Below w.heap.size w w' := by
  have h0 : w'.heap[w.heap.size]? = some (.cells c0 t0 (0, 0)) := (hb.block _ (by simp only [World.size_alloc]; omega)).trans ((Below.heap_alloc (w.alloc (.cells c0 t0)) (.cells c1 t1) (w.heap.size) (by simp only [World.size_alloc]; omega)).trans (heap_new_at w (.cells c0 t0) (w.heap.size) (by simp only [World.size_alloc])))
  have h1 : w'.heap[w.heap.size + 1]? = some (.cells c1 t1 (0, 0)) := (hb.block _ (by simp only [World.size_alloc]; omega)).trans (heap_new_at (w.alloc (.cells c0 t0)) (.cells c1 t1) (w.heap.size + 1) (by simp only [World.size_alloc]))
  exact ⟨⟨h0⟩, ⟨h1⟩, (((Below.refl _ _).alloc (Nat.le_refl _) _).alloc (by simp only [World.size_alloc]; omega) _).trans (hb.mono (by simp only [World.size_alloc]; omega))⟩

theorem boxes3 {w w' : World} {c0 c1 c2 : Array Value} {t0 t1 t2 : TypeId} (hb : Below (((w.alloc (.cells c0 t0)).alloc (.cells c1 t1)).alloc (.cells c2 t2)).heap.size (((w.alloc (.cells c0 t0)).alloc (.cells c1 t1)).alloc (.cells c2 t2)) w') :
    Aside0 (w'.heap[w.heap.size]? = some (.cells c0 t0 (0, 0))) ∧ Aside0 (w'.heap[w.heap.size + 1]? = some (.cells c1 t1 (0, 0))) ∧ Aside0 (w'.heap[w.heap.size + 2]? = some (.cells c2 t2 (0, 0))) ∧ Below w.heap.size w w' := by
  have h0 : w'.heap[w.heap.size]? = some (.cells c0 t0 (0, 0)) := (hb.block _ (by simp only [World.size_alloc]; omega)).trans ((Below.heap_alloc ((w.alloc (.cells c0 t0)).alloc (.cells c1 t1)) (.cells c2 t2) (w.heap.size) (by simp only [World.size_alloc]; omega)).trans ((Below.heap_alloc (w.alloc (.cells c0 t0)) (.cells c1 t1) (w.heap.size) (by simp only [World.size_alloc]; omega)).trans (heap_new_at w (.cells c0 t0) (w.heap.size) (by simp only [World.size_alloc]))))
  have h1 : w'.heap[w.heap.size + 1]? = some (.cells c1 t1 (0, 0)) := (hb.block _ (by simp only [World.size_alloc]; omega)).trans ((Below.heap_alloc ((w.alloc (.cells c0 t0)).alloc (.cells c1 t1)) (.cells c2 t2) (w.heap.size + 1) (by simp only [World.size_alloc]; omega)).trans (heap_new_at (w.alloc (.cells c0 t0)) (.cells c1 t1) (w.heap.size + 1) (by simp only [World.size_alloc])))
  have h2 : w'.heap[w.heap.size + 2]? = some (.cells c2 t2 (0, 0)) := (hb.block _ (by simp only [World.size_alloc]; omega)).trans (heap_new_at ((w.alloc (.cells c0 t0)).alloc (.cells c1 t1)) (.cells c2 t2) (w.heap.size + 2) (by simp only [World.size_alloc]))
  exact ⟨⟨h0⟩, ⟨h1⟩, ⟨h2⟩, ((((Below.refl _ _).alloc (Nat.le_refl _) _).alloc (by simp only [World.size_alloc]; omega) _).alloc (by simp only [World.size_alloc]; omega) _).trans (hb.mono (by simp only [World.size_alloc]; omega))⟩
set_option maxHeartbeats 4000000 in
set_option maxRecDepth 100000 in
theorem waits_no (ac co er nr ar : Int) (op bl pe : Bool) (l : List Bool) (A : Option Addr) (c : Nat) (x y z u x' y' z' u' : Int) (w : World) (hr0 : Kd.C Kd.bool w A l.length l) (hc0 : l.length ≤ c) (q : List Bool) (hq : q = l.take (mn (l.length : Int) 6).toNat) (hchk : (⟨ac, op, bl, pe, co, er, nr, ar, q⟩ : Sg).chk = 360) :
    Calls Try.prog 3 #[.agg #[.int .i64 ac, .bool op, .bool bl, .bool pe, .int .i64 co, .int .i64 er, .int .u32 nr, .int .u32 ar, .slice A l.length c], .agg #[.int .i64 x, .int .i64 y, .int .u32 z, .int .u32 u], .agg #[.int .i64 x', .int .i64 y', .int .u32 z', .int .u32 u']] w fun e w' => e = .returned (.bool true) ∧ Below w.heap.size w w' := by
  obtain ⟨m, hm⟩ : ∃ m, m = l.length := ⟨_, rfl⟩
  rw [← hm] at hr0 hc0 ⊢
  have HM := Lib.hid hm
  have HR := Lib.hid hr0
  have HC := Lib.hid hc0
  have HG := Lib.hid hchk
  have HQ := Lib.hid hq
  clear hm hr0 hc0 hchk hq
  go_enter Try.func3, Try.ntmps3
  go_wp2_with fail
  refine (wicketgatelaw26_wakes.calls true _ wicketgatelaw26_wakes.tt).mono ?_
  rintro e w1 ⟨rfl, hb⟩
  obtain ⟨HKs, HKi, HKo, hB⟩ := boxes3 hb
  have HB := Aside0.mk hB
  have HR1 := Lib.hid (Kd.C_below HR.out HB.out)
  clear hb hB HR
  have hcs0 : w1.cell? ⟨w.heap.size, 0, none⟩ = some (.int .i64 ac) := blk_cell HKs.out 0
  have hcs1 : w1.cell? ⟨w.heap.size, 1, none⟩ = some (.bool op) := blk_cell HKs.out 1
  have hcs2 : w1.cell? ⟨w.heap.size, 2, none⟩ = some (.bool bl) := blk_cell HKs.out 2
  have hcs3 : w1.cell? ⟨w.heap.size, 3, none⟩ = some (.bool pe) := blk_cell HKs.out 3
  have hcs4 : w1.cell? ⟨w.heap.size, 4, none⟩ = some (.int .i64 co) := blk_cell HKs.out 4
  have hcs5 : w1.cell? ⟨w.heap.size, 5, none⟩ = some (.int .i64 er) := blk_cell HKs.out 5
  have hcs6 : w1.cell? ⟨w.heap.size, 6, none⟩ = some (.int .u32 nr) := blk_cell HKs.out 6
  have hcs7 : w1.cell? ⟨w.heap.size, 7, none⟩ = some (.int .u32 ar) := blk_cell HKs.out 7
  have hcs8 : w1.cell? ⟨w.heap.size, 8, none⟩ = some (.slice A m c) := blk_cell HKs.out 8
  go_wp2_with fail
  refine (short_e HQ.out HM.out HR1.out HC.out).mono ?_
  rintro e w2 ⟨A2, m2, c2, rfl, hF2, hB2⟩
  have HRq : Aside0 (Fl w2 w.heap.size A2 m2 c2 q) := ⟨hF2.lower HB.out.size⟩
  clear hF2 HR1
  replace HKs : Aside0 (w2.heap[w.heap.size]? = some (.cells #[.int .i64 ac, .bool op, .bool bl, .bool pe, .int .i64 co, .int .i64 er, .int .u32 nr, .int .u32 ar, .slice A m c] 27 (0, 0))) := ⟨(hB2.block _ (blk_lt HKs.out)).trans HKs.out⟩
  replace HKi : Aside0 (w2.heap[w.heap.size + 1]? = some (.cells #[.int .i64 x, .int .i64 y, .int .u32 z, .int .u32 u] 24 (0, 0))) := ⟨(hB2.block _ (blk_lt HKi.out)).trans HKi.out⟩
  replace HKo : Aside0 (w2.heap[w.heap.size + 2]? = some (.cells #[.int .i64 x', .int .i64 y', .int .u32 z', .int .u32 u'] 24 (0, 0))) := ⟨(hB2.block _ (blk_lt HKo.out)).trans HKo.out⟩
  replace HB : Aside0 (Below w.heap.size w w2) := ⟨HB.out.trans (hB2.mono HB.out.size)⟩
  clear hcs0 hcs1 hcs2 hcs3 hcs4 hcs5 hcs6 hcs7 hcs8
  clear hB2
  go_wp2_with (refine storeP27 rfl rfl _ _ rfl ac co er nr ar op bl pe A2 m2 c2 (w.heap.size) rfl rfl HKs.out ?_; intro w3 hb3 ho3 hs3 hB3; replace HRq : Aside0 (Fl w3 w.heap.size A2 m2 c2 q) := ⟨HRq.out.st HKs.out (by decide) ho3⟩; replace HKi : Aside0 (w3.heap[w.heap.size + 1]? = some (.cells #[.int .i64 x, .int .i64 y, .int .u32 z, .int .u32 u] 24 (0, 0))) := ⟨(ho3 _ (by omega)).trans HKi.out⟩; replace HKo : Aside0 (w3.heap[w.heap.size + 2]? = some (.cells #[.int .i64 x', .int .i64 y', .int .u32 z', .int .u32 u'] 24 (0, 0))) := ⟨(ho3 _ (by omega)).trans HKo.out⟩; replace HKs : Aside0 (w3.heap[w.heap.size]? = some (.cells #[.int .i64 ac, .bool op, .bool bl, .bool pe, .int .i64 co, .int .i64 er, .int .u32 nr, .int .u32 ar, .slice A2 m2 c2] 27 (0, 0))) := ⟨hb3⟩; replace HB : Aside0 (Below w.heap.size w w3) := ⟨HB.out.trans (hB3 _ (Nat.le_refl _))⟩; clear hb3 ho3 hs3 hB3; have hcs0 : w3.cell? ⟨w.heap.size, 0, none⟩ = some (.int .i64 ac) := blk_cell HKs.out 0; have hcs1 : w3.cell? ⟨w.heap.size, 1, none⟩ = some (.bool op) := blk_cell HKs.out 1; have hcs2 : w3.cell? ⟨w.heap.size, 2, none⟩ = some (.bool bl) := blk_cell HKs.out 2; have hcs3 : w3.cell? ⟨w.heap.size, 3, none⟩ = some (.bool pe) := blk_cell HKs.out 3; have hcs4 : w3.cell? ⟨w.heap.size, 4, none⟩ = some (.int .i64 co) := blk_cell HKs.out 4; have hcs5 : w3.cell? ⟨w.heap.size, 5, none⟩ = some (.int .i64 er) := blk_cell HKs.out 5; have hcs6 : w3.cell? ⟨w.heap.size, 6, none⟩ = some (.int .u32 nr) := blk_cell HKs.out 6; have hcs7 : w3.cell? ⟨w.heap.size, 7, none⟩ = some (.int .u32 ar) := blk_cell HKs.out 7; have hcs8 : w3.cell? ⟨w.heap.size, 8, none⟩ = some (.slice A2 m2 c2) := blk_cell HKs.out 8)
  refine (check_e HG.out HRq.out).mono ?_
  rintro e w4 ⟨rfl, hB4⟩
  replace HKs : Aside0 (w4.heap[w.heap.size]? = some (.cells #[.int .i64 ac, .bool op, .bool bl, .bool pe, .int .i64 co, .int .i64 er, .int .u32 nr, .int .u32 ar, .slice A2 m2 c2] 27 (0, 0))) := ⟨(hB4.block _ (blk_lt HKs.out)).trans HKs.out⟩
  replace HKi : Aside0 (w4.heap[w.heap.size + 1]? = some (.cells #[.int .i64 x, .int .i64 y, .int .u32 z, .int .u32 u] 24 (0, 0))) := ⟨(hB4.block _ (blk_lt HKi.out)).trans HKi.out⟩
  replace HKo : Aside0 (w4.heap[w.heap.size + 2]? = some (.cells #[.int .i64 x', .int .i64 y', .int .u32 z', .int .u32 u'] 24 (0, 0))) := ⟨(hB4.block _ (blk_lt HKo.out)).trans HKo.out⟩
  replace HRq : Aside0 (Fl w4 w.heap.size A2 m2 c2 q) := ⟨HRq.out.below hB4⟩
  replace HB : Aside0 (Below w.heap.size w w4) := ⟨HB.out.trans (hB4.mono HB.out.size)⟩
  clear hcs0 hcs1 hcs2 hcs3 hcs4 hcs5 hcs6 hcs7 hcs8
  clear hB4
  have hcs0 : w4.cell? ⟨w.heap.size, 0, none⟩ = some (.int .i64 ac) := blk_cell HKs.out 0
  have hcs1 : w4.cell? ⟨w.heap.size, 1, none⟩ = some (.bool op) := blk_cell HKs.out 1
  have hcs2 : w4.cell? ⟨w.heap.size, 2, none⟩ = some (.bool bl) := blk_cell HKs.out 2
  have hcs3 : w4.cell? ⟨w.heap.size, 3, none⟩ = some (.bool pe) := blk_cell HKs.out 3
  have hcs4 : w4.cell? ⟨w.heap.size, 4, none⟩ = some (.int .i64 co) := blk_cell HKs.out 4
  have hcs5 : w4.cell? ⟨w.heap.size, 5, none⟩ = some (.int .i64 er) := blk_cell HKs.out 5
  have hcs6 : w4.cell? ⟨w.heap.size, 6, none⟩ = some (.int .u32 nr) := blk_cell HKs.out 6
  have hcs7 : w4.cell? ⟨w.heap.size, 7, none⟩ = some (.int .u32 ar) := blk_cell HKs.out 7
  have hcs8 : w4.cell? ⟨w.heap.size, 8, none⟩ = some (.slice A2 m2 c2) := blk_cell HKs.out 8
  go_wp2_with fail
  go_ret
  exact ⟨rfl, HB.out⟩
set_option maxHeartbeats 4000000 in
set_option maxRecDepth 100000 in
theorem waits_pe (ac co er nr ar : Int) (op bl : Bool) (l : List Bool) (A : Option Addr) (c : Nat) (x y z u x' y' z' u' : Int) (w : World) (hr0 : Kd.C Kd.bool w A l.length l) (hc0 : l.length ≤ c) (q : List Bool) (hq : q = l.take (mn (l.length : Int) 6).toNat) (hchk : (⟨ac, op, bl, true, co, er, nr, ar, q⟩ : Sg).chk = 0) :
    Calls Try.prog 3 #[.agg #[.int .i64 ac, .bool op, .bool bl, .bool true, .int .i64 co, .int .i64 er, .int .u32 nr, .int .u32 ar, .slice A l.length c], .agg #[.int .i64 x, .int .i64 y, .int .u32 z, .int .u32 u], .agg #[.int .i64 x', .int .i64 y', .int .u32 z', .int .u32 u']] w fun e w' => e = .returned (.bool true) ∧ Below w.heap.size w w' := by
  obtain ⟨m, hm⟩ : ∃ m, m = l.length := ⟨_, rfl⟩
  rw [← hm] at hr0 hc0 ⊢
  have HM := Lib.hid hm
  have HR := Lib.hid hr0
  have HC := Lib.hid hc0
  have HG := Lib.hid hchk
  have HQ := Lib.hid hq
  clear hm hr0 hc0 hchk hq
  go_enter Try.func3, Try.ntmps3
  go_wp2_with fail
  refine (wicketgatelaw26_wakes.calls true _ wicketgatelaw26_wakes.tt).mono ?_
  rintro e w1 ⟨rfl, hb⟩
  obtain ⟨HKs, HKi, HKo, hB⟩ := boxes3 hb
  have HB := Aside0.mk hB
  have HR1 := Lib.hid (Kd.C_below HR.out HB.out)
  clear hb hB HR
  have hcs0 : w1.cell? ⟨w.heap.size, 0, none⟩ = some (.int .i64 ac) := blk_cell HKs.out 0
  have hcs1 : w1.cell? ⟨w.heap.size, 1, none⟩ = some (.bool op) := blk_cell HKs.out 1
  have hcs2 : w1.cell? ⟨w.heap.size, 2, none⟩ = some (.bool bl) := blk_cell HKs.out 2
  have hcs3 : w1.cell? ⟨w.heap.size, 3, none⟩ = some (.bool true) := blk_cell HKs.out 3
  have hcs4 : w1.cell? ⟨w.heap.size, 4, none⟩ = some (.int .i64 co) := blk_cell HKs.out 4
  have hcs5 : w1.cell? ⟨w.heap.size, 5, none⟩ = some (.int .i64 er) := blk_cell HKs.out 5
  have hcs6 : w1.cell? ⟨w.heap.size, 6, none⟩ = some (.int .u32 nr) := blk_cell HKs.out 6
  have hcs7 : w1.cell? ⟨w.heap.size, 7, none⟩ = some (.int .u32 ar) := blk_cell HKs.out 7
  have hcs8 : w1.cell? ⟨w.heap.size, 8, none⟩ = some (.slice A m c) := blk_cell HKs.out 8
  go_wp2_with fail
  refine (short_e HQ.out HM.out HR1.out HC.out).mono ?_
  rintro e w2 ⟨A2, m2, c2, rfl, hF2, hB2⟩
  have HRq : Aside0 (Fl w2 w.heap.size A2 m2 c2 q) := ⟨hF2.lower HB.out.size⟩
  clear hF2 HR1
  replace HKs : Aside0 (w2.heap[w.heap.size]? = some (.cells #[.int .i64 ac, .bool op, .bool bl, .bool true, .int .i64 co, .int .i64 er, .int .u32 nr, .int .u32 ar, .slice A m c] 27 (0, 0))) := ⟨(hB2.block _ (blk_lt HKs.out)).trans HKs.out⟩
  replace HKi : Aside0 (w2.heap[w.heap.size + 1]? = some (.cells #[.int .i64 x, .int .i64 y, .int .u32 z, .int .u32 u] 24 (0, 0))) := ⟨(hB2.block _ (blk_lt HKi.out)).trans HKi.out⟩
  replace HKo : Aside0 (w2.heap[w.heap.size + 2]? = some (.cells #[.int .i64 x', .int .i64 y', .int .u32 z', .int .u32 u'] 24 (0, 0))) := ⟨(hB2.block _ (blk_lt HKo.out)).trans HKo.out⟩
  replace HB : Aside0 (Below w.heap.size w w2) := ⟨HB.out.trans (hB2.mono HB.out.size)⟩
  clear hcs0 hcs1 hcs2 hcs3 hcs4 hcs5 hcs6 hcs7 hcs8
  clear hB2
  go_wp2_with (refine storeP27 rfl rfl _ _ rfl ac co er nr ar op bl true A2 m2 c2 (w.heap.size) rfl rfl HKs.out ?_; intro w3 hb3 ho3 hs3 hB3; replace HRq : Aside0 (Fl w3 w.heap.size A2 m2 c2 q) := ⟨HRq.out.st HKs.out (by decide) ho3⟩; replace HKi : Aside0 (w3.heap[w.heap.size + 1]? = some (.cells #[.int .i64 x, .int .i64 y, .int .u32 z, .int .u32 u] 24 (0, 0))) := ⟨(ho3 _ (by omega)).trans HKi.out⟩; replace HKo : Aside0 (w3.heap[w.heap.size + 2]? = some (.cells #[.int .i64 x', .int .i64 y', .int .u32 z', .int .u32 u'] 24 (0, 0))) := ⟨(ho3 _ (by omega)).trans HKo.out⟩; replace HKs : Aside0 (w3.heap[w.heap.size]? = some (.cells #[.int .i64 ac, .bool op, .bool bl, .bool true, .int .i64 co, .int .i64 er, .int .u32 nr, .int .u32 ar, .slice A2 m2 c2] 27 (0, 0))) := ⟨hb3⟩; replace HB : Aside0 (Below w.heap.size w w3) := ⟨HB.out.trans (hB3 _ (Nat.le_refl _))⟩; clear hb3 ho3 hs3 hB3; have hcs0 : w3.cell? ⟨w.heap.size, 0, none⟩ = some (.int .i64 ac) := blk_cell HKs.out 0; have hcs1 : w3.cell? ⟨w.heap.size, 1, none⟩ = some (.bool op) := blk_cell HKs.out 1; have hcs2 : w3.cell? ⟨w.heap.size, 2, none⟩ = some (.bool bl) := blk_cell HKs.out 2; have hcs3 : w3.cell? ⟨w.heap.size, 3, none⟩ = some (.bool true) := blk_cell HKs.out 3; have hcs4 : w3.cell? ⟨w.heap.size, 4, none⟩ = some (.int .i64 co) := blk_cell HKs.out 4; have hcs5 : w3.cell? ⟨w.heap.size, 5, none⟩ = some (.int .i64 er) := blk_cell HKs.out 5; have hcs6 : w3.cell? ⟨w.heap.size, 6, none⟩ = some (.int .u32 nr) := blk_cell HKs.out 6; have hcs7 : w3.cell? ⟨w.heap.size, 7, none⟩ = some (.int .u32 ar) := blk_cell HKs.out 7; have hcs8 : w3.cell? ⟨w.heap.size, 8, none⟩ = some (.slice A2 m2 c2) := blk_cell HKs.out 8)
  refine (check_e HG.out HRq.out).mono ?_
  rintro e w4 ⟨rfl, hB4⟩
  replace HKs : Aside0 (w4.heap[w.heap.size]? = some (.cells #[.int .i64 ac, .bool op, .bool bl, .bool true, .int .i64 co, .int .i64 er, .int .u32 nr, .int .u32 ar, .slice A2 m2 c2] 27 (0, 0))) := ⟨(hB4.block _ (blk_lt HKs.out)).trans HKs.out⟩
  replace HKi : Aside0 (w4.heap[w.heap.size + 1]? = some (.cells #[.int .i64 x, .int .i64 y, .int .u32 z, .int .u32 u] 24 (0, 0))) := ⟨(hB4.block _ (blk_lt HKi.out)).trans HKi.out⟩
  replace HKo : Aside0 (w4.heap[w.heap.size + 2]? = some (.cells #[.int .i64 x', .int .i64 y', .int .u32 z', .int .u32 u'] 24 (0, 0))) := ⟨(hB4.block _ (blk_lt HKo.out)).trans HKo.out⟩
  replace HRq : Aside0 (Fl w4 w.heap.size A2 m2 c2 q) := ⟨HRq.out.below hB4⟩
  replace HB : Aside0 (Below w.heap.size w w4) := ⟨HB.out.trans (hB4.mono HB.out.size)⟩
  clear hcs0 hcs1 hcs2 hcs3 hcs4 hcs5 hcs6 hcs7 hcs8
  clear hB4
  have hcs0 : w4.cell? ⟨w.heap.size, 0, none⟩ = some (.int .i64 ac) := blk_cell HKs.out 0
  have hcs1 : w4.cell? ⟨w.heap.size, 1, none⟩ = some (.bool op) := blk_cell HKs.out 1
  have hcs2 : w4.cell? ⟨w.heap.size, 2, none⟩ = some (.bool bl) := blk_cell HKs.out 2
  have hcs3 : w4.cell? ⟨w.heap.size, 3, none⟩ = some (.bool true) := blk_cell HKs.out 3
  have hcs4 : w4.cell? ⟨w.heap.size, 4, none⟩ = some (.int .i64 co) := blk_cell HKs.out 4
  have hcs5 : w4.cell? ⟨w.heap.size, 5, none⟩ = some (.int .i64 er) := blk_cell HKs.out 5
  have hcs6 : w4.cell? ⟨w.heap.size, 6, none⟩ = some (.int .u32 nr) := blk_cell HKs.out 6
  have hcs7 : w4.cell? ⟨w.heap.size, 7, none⟩ = some (.int .u32 ar) := blk_cell HKs.out 7
  have hcs8 : w4.cell? ⟨w.heap.size, 8, none⟩ = some (.slice A2 m2 c2) := blk_cell HKs.out 8
  go_wp2_with fail
  go_ret
  exact ⟨rfl, HB.out⟩
set_option maxHeartbeats 4000000 in
set_option maxRecDepth 100000 in
theorem waits_ig (co er nr ar : Int) (op bl : Bool) (l : List Bool) (A : Option Addr) (c : Nat) (x y z u x' y' z' u' : Int) (w : World) (hr0 : Kd.C Kd.bool w A l.length l) (hc0 : l.length ≤ c) (q : List Bool) (hq : q = l.take (mn (l.length : Int) 6).toNat) (hchk : (⟨1, op, bl, false, co, er, nr, ar, q⟩ : Sg).chk = 0) :
    Calls Try.prog 3 #[.agg #[.int .i64 1, .bool op, .bool bl, .bool false, .int .i64 co, .int .i64 er, .int .u32 nr, .int .u32 ar, .slice A l.length c], .agg #[.int .i64 x, .int .i64 y, .int .u32 z, .int .u32 u], .agg #[.int .i64 x', .int .i64 y', .int .u32 z', .int .u32 u']] w fun e w' => e = .returned (.bool true) ∧ Below w.heap.size w w' := by
  obtain ⟨m, hm⟩ : ∃ m, m = l.length := ⟨_, rfl⟩
  rw [← hm] at hr0 hc0 ⊢
  have HM := Lib.hid hm
  have HR := Lib.hid hr0
  have HC := Lib.hid hc0
  have HG := Lib.hid hchk
  have HQ := Lib.hid hq
  clear hm hr0 hc0 hchk hq
  go_enter Try.func3, Try.ntmps3
  go_wp2_with fail
  refine (wicketgatelaw26_wakes.calls true _ wicketgatelaw26_wakes.tt).mono ?_
  rintro e w1 ⟨rfl, hb⟩
  obtain ⟨HKs, HKi, HKo, hB⟩ := boxes3 hb
  have HB := Aside0.mk hB
  have HR1 := Lib.hid (Kd.C_below HR.out HB.out)
  clear hb hB HR
  have hcs0 : w1.cell? ⟨w.heap.size, 0, none⟩ = some (.int .i64 1) := blk_cell HKs.out 0
  have hcs1 : w1.cell? ⟨w.heap.size, 1, none⟩ = some (.bool op) := blk_cell HKs.out 1
  have hcs2 : w1.cell? ⟨w.heap.size, 2, none⟩ = some (.bool bl) := blk_cell HKs.out 2
  have hcs3 : w1.cell? ⟨w.heap.size, 3, none⟩ = some (.bool false) := blk_cell HKs.out 3
  have hcs4 : w1.cell? ⟨w.heap.size, 4, none⟩ = some (.int .i64 co) := blk_cell HKs.out 4
  have hcs5 : w1.cell? ⟨w.heap.size, 5, none⟩ = some (.int .i64 er) := blk_cell HKs.out 5
  have hcs6 : w1.cell? ⟨w.heap.size, 6, none⟩ = some (.int .u32 nr) := blk_cell HKs.out 6
  have hcs7 : w1.cell? ⟨w.heap.size, 7, none⟩ = some (.int .u32 ar) := blk_cell HKs.out 7
  have hcs8 : w1.cell? ⟨w.heap.size, 8, none⟩ = some (.slice A m c) := blk_cell HKs.out 8
  go_wp2_with fail
  refine (short_e HQ.out HM.out HR1.out HC.out).mono ?_
  rintro e w2 ⟨A2, m2, c2, rfl, hF2, hB2⟩
  have HRq : Aside0 (Fl w2 w.heap.size A2 m2 c2 q) := ⟨hF2.lower HB.out.size⟩
  clear hF2 HR1
  replace HKs : Aside0 (w2.heap[w.heap.size]? = some (.cells #[.int .i64 1, .bool op, .bool bl, .bool false, .int .i64 co, .int .i64 er, .int .u32 nr, .int .u32 ar, .slice A m c] 27 (0, 0))) := ⟨(hB2.block _ (blk_lt HKs.out)).trans HKs.out⟩
  replace HKi : Aside0 (w2.heap[w.heap.size + 1]? = some (.cells #[.int .i64 x, .int .i64 y, .int .u32 z, .int .u32 u] 24 (0, 0))) := ⟨(hB2.block _ (blk_lt HKi.out)).trans HKi.out⟩
  replace HKo : Aside0 (w2.heap[w.heap.size + 2]? = some (.cells #[.int .i64 x', .int .i64 y', .int .u32 z', .int .u32 u'] 24 (0, 0))) := ⟨(hB2.block _ (blk_lt HKo.out)).trans HKo.out⟩
  replace HB : Aside0 (Below w.heap.size w w2) := ⟨HB.out.trans (hB2.mono HB.out.size)⟩
  clear hcs0 hcs1 hcs2 hcs3 hcs4 hcs5 hcs6 hcs7 hcs8
  clear hB2
  go_wp2_with (refine storeP27 rfl rfl _ _ rfl 1 co er nr ar op bl false A2 m2 c2 (w.heap.size) rfl rfl HKs.out ?_; intro w3 hb3 ho3 hs3 hB3; replace HRq : Aside0 (Fl w3 w.heap.size A2 m2 c2 q) := ⟨HRq.out.st HKs.out (by decide) ho3⟩; replace HKi : Aside0 (w3.heap[w.heap.size + 1]? = some (.cells #[.int .i64 x, .int .i64 y, .int .u32 z, .int .u32 u] 24 (0, 0))) := ⟨(ho3 _ (by omega)).trans HKi.out⟩; replace HKo : Aside0 (w3.heap[w.heap.size + 2]? = some (.cells #[.int .i64 x', .int .i64 y', .int .u32 z', .int .u32 u'] 24 (0, 0))) := ⟨(ho3 _ (by omega)).trans HKo.out⟩; replace HKs : Aside0 (w3.heap[w.heap.size]? = some (.cells #[.int .i64 1, .bool op, .bool bl, .bool false, .int .i64 co, .int .i64 er, .int .u32 nr, .int .u32 ar, .slice A2 m2 c2] 27 (0, 0))) := ⟨hb3⟩; replace HB : Aside0 (Below w.heap.size w w3) := ⟨HB.out.trans (hB3 _ (Nat.le_refl _))⟩; clear hb3 ho3 hs3 hB3; have hcs0 : w3.cell? ⟨w.heap.size, 0, none⟩ = some (.int .i64 1) := blk_cell HKs.out 0; have hcs1 : w3.cell? ⟨w.heap.size, 1, none⟩ = some (.bool op) := blk_cell HKs.out 1; have hcs2 : w3.cell? ⟨w.heap.size, 2, none⟩ = some (.bool bl) := blk_cell HKs.out 2; have hcs3 : w3.cell? ⟨w.heap.size, 3, none⟩ = some (.bool false) := blk_cell HKs.out 3; have hcs4 : w3.cell? ⟨w.heap.size, 4, none⟩ = some (.int .i64 co) := blk_cell HKs.out 4; have hcs5 : w3.cell? ⟨w.heap.size, 5, none⟩ = some (.int .i64 er) := blk_cell HKs.out 5; have hcs6 : w3.cell? ⟨w.heap.size, 6, none⟩ = some (.int .u32 nr) := blk_cell HKs.out 6; have hcs7 : w3.cell? ⟨w.heap.size, 7, none⟩ = some (.int .u32 ar) := blk_cell HKs.out 7; have hcs8 : w3.cell? ⟨w.heap.size, 8, none⟩ = some (.slice A2 m2 c2) := blk_cell HKs.out 8)
  refine (check_e HG.out HRq.out).mono ?_
  rintro e w4 ⟨rfl, hB4⟩
  replace HKs : Aside0 (w4.heap[w.heap.size]? = some (.cells #[.int .i64 1, .bool op, .bool bl, .bool false, .int .i64 co, .int .i64 er, .int .u32 nr, .int .u32 ar, .slice A2 m2 c2] 27 (0, 0))) := ⟨(hB4.block _ (blk_lt HKs.out)).trans HKs.out⟩
  replace HKi : Aside0 (w4.heap[w.heap.size + 1]? = some (.cells #[.int .i64 x, .int .i64 y, .int .u32 z, .int .u32 u] 24 (0, 0))) := ⟨(hB4.block _ (blk_lt HKi.out)).trans HKi.out⟩
  replace HKo : Aside0 (w4.heap[w.heap.size + 2]? = some (.cells #[.int .i64 x', .int .i64 y', .int .u32 z', .int .u32 u'] 24 (0, 0))) := ⟨(hB4.block _ (blk_lt HKo.out)).trans HKo.out⟩
  replace HRq : Aside0 (Fl w4 w.heap.size A2 m2 c2 q) := ⟨HRq.out.below hB4⟩
  replace HB : Aside0 (Below w.heap.size w w4) := ⟨HB.out.trans (hB4.mono HB.out.size)⟩
  clear hcs0 hcs1 hcs2 hcs3 hcs4 hcs5 hcs6 hcs7 hcs8
  clear hB4
  have hcs0 : w4.cell? ⟨w.heap.size, 0, none⟩ = some (.int .i64 1) := blk_cell HKs.out 0
  have hcs1 : w4.cell? ⟨w.heap.size, 1, none⟩ = some (.bool op) := blk_cell HKs.out 1
  have hcs2 : w4.cell? ⟨w.heap.size, 2, none⟩ = some (.bool bl) := blk_cell HKs.out 2
  have hcs3 : w4.cell? ⟨w.heap.size, 3, none⟩ = some (.bool false) := blk_cell HKs.out 3
  have hcs4 : w4.cell? ⟨w.heap.size, 4, none⟩ = some (.int .i64 co) := blk_cell HKs.out 4
  have hcs5 : w4.cell? ⟨w.heap.size, 5, none⟩ = some (.int .i64 er) := blk_cell HKs.out 5
  have hcs6 : w4.cell? ⟨w.heap.size, 6, none⟩ = some (.int .u32 nr) := blk_cell HKs.out 6
  have hcs7 : w4.cell? ⟨w.heap.size, 7, none⟩ = some (.int .u32 ar) := blk_cell HKs.out 7
  have hcs8 : w4.cell? ⟨w.heap.size, 8, none⟩ = some (.slice A2 m2 c2) := blk_cell HKs.out 8
  go_wp2_with fail
  go_ret
  exact ⟨rfl, HB.out⟩
end Go.Proofs.Ytbpgpbbpeppjmaa.PD
