import Derived.Test.YtbpgpbbpeppjmaaWB
import Derived.Lib.Hide
import Derived.Outline
namespace Go.Proofs.Ytbpgpbbpeppjmaa.PD
open Go.RowKit Go.Proofs.YtbpgpbbpeppjmaaW.PrintWords Go.Proofs.YtbpgpbbpeppjmaaW.PrintLast Go.Proofs.YtbpgpbbpeppjmaaW.PrintMore
open Go.Proofs.Ytbpgpbbpeppjmaa.SG (Sg Ht Outs store27 store33 block_c send_c)
set_option linter.unusedVariables false
set_option linter.unusedSimpArgs false
set_option maxHeartbeats 4000000 in
set_option maxRecDepth 100000 in
theorem waits_ok (ac : Int) (op bl : Bool) (l : List Bool) (A : Option Addr) (c : Nat) (x y z u x' y' z' u' : Int) (w : World) (hr0 : Kd.C Kd.bool w A l.length l) (hc0 : l.length ≤ c) (q : List Bool) (hq : q = l.take (mn (l.length : Int) 6).toNat) (hchk : (⟨ac, op, bl, false, 0, 0, 0, 0, q⟩ : Sg).chk = 0) (h0 : 0 ≤ ac) (h1 : ac ≠ 1) (h2 : ac ≤ 2) (h3 : q.length ≤ 4) (h4 : op = true → ac = 2) :
    Calls Try.prog 3 #[.agg #[.int .i64 ac, .bool op, .bool bl, .bool false, .int .i64 0, .int .i64 0, .int .u32 0, .int .u32 0, .slice A l.length c], .agg #[.int .i64 x, .int .i64 y, .int .u32 z, .int .u32 u], .agg #[.int .i64 x', .int .i64 y', .int .u32 z', .int .u32 u']] w fun e w' => e = .returned (.bool true) ∧ Below w.heap.size w w' := by
  have H1 := Lib.hid (block_t ac op bl q h0 h2 h3 h4)
  have H2 := Lib.hid (send_1 ac op q h0 h1 h2 h3 h4 x y z u)
  have H3 := Lib.hid (send_2 ac op q h0 h1 h2 h3 h4 x y z u x' y' z' u')
  obtain ⟨bl', l', di, h5, h6⟩ := block_2 ac op q h0 h1 h2 h3 h4 x y z u
  have H4 := Lib.hid h6
  have H5 := Lib.hid (block_f ac op bl' l' h0 h2 h5 h4)
  have HL := Lib.hid (show q.length ≤ 5 by omega)
  have h1' : (ac == 1) = false := by simpa using h1
  clear h0 h2 h3 h4 h5 h6 h1
  obtain ⟨m, hm⟩ : ∃ m, m = l.length := ⟨_, rfl⟩
  rw [← hm] at hr0 hc0 ⊢
  have HM := Lib.hid hm
  have HR := Lib.hid hr0
  have HC := Lib.hid hc0
  have HG := Lib.hid hchk
  have HQ := Lib.hid hq
  clear hm hr0 hc0 hchk hq
  go_enter Try.func3, Try.ntmps3
  go_wp2_with fail
  refine (wicketgatelaw26_wakes.calls true _ wicketgatelaw26_wakes.tt).mono ?_
  rintro e w1 ⟨rfl, hb⟩
  obtain ⟨HKs, HKi, HKo, hB⟩ := boxes3 hb
  have HB := Aside0.mk hB
  have HR1 := Lib.hid (Kd.C_below HR.out HB.out)
  clear hb hB HR
  have hcs0 : w1.cell? ⟨w.heap.size, 0, none⟩ = some (.int .i64 ac) := blk_cell HKs.out 0
  have hcs1 : w1.cell? ⟨w.heap.size, 1, none⟩ = some (.bool op) := blk_cell HKs.out 1
  have hcs2 : w1.cell? ⟨w.heap.size, 2, none⟩ = some (.bool bl) := blk_cell HKs.out 2
  have hcs3 : w1.cell? ⟨w.heap.size, 3, none⟩ = some (.bool false) := blk_cell HKs.out 3
  have hcs4 : w1.cell? ⟨w.heap.size, 4, none⟩ = some (.int .i64 0) := blk_cell HKs.out 4
  have hcs5 : w1.cell? ⟨w.heap.size, 5, none⟩ = some (.int .i64 0) := blk_cell HKs.out 5
  have hcs6 : w1.cell? ⟨w.heap.size, 6, none⟩ = some (.int .u32 0) := blk_cell HKs.out 6
  have hcs7 : w1.cell? ⟨w.heap.size, 7, none⟩ = some (.int .u32 0) := blk_cell HKs.out 7
  have hcs8 : w1.cell? ⟨w.heap.size, 8, none⟩ = some (.slice A m c) := blk_cell HKs.out 8
  go_wp2_with fail
  refine (short_e HQ.out HM.out HR1.out HC.out).mono ?_
  rintro e w2 ⟨A2, m2, c2, rfl, hF2, hB2⟩
  have HRq : Aside0 (Fl w2 w.heap.size A2 m2 c2 q) := ⟨hF2.lower HB.out.size⟩
  clear hF2 HR1
  replace HKs : Aside0 (w2.heap[w.heap.size]? = some (.cells #[.int .i64 ac, .bool op, .bool bl, .bool false, .int .i64 0, .int .i64 0, .int .u32 0, .int .u32 0, .slice A m c] 27 (0, 0))) := ⟨(hB2.block _ (blk_lt HKs.out)).trans HKs.out⟩
  replace HKi : Aside0 (w2.heap[w.heap.size + 1]? = some (.cells #[.int .i64 x, .int .i64 y, .int .u32 z, .int .u32 u] 24 (0, 0))) := ⟨(hB2.block _ (blk_lt HKi.out)).trans HKi.out⟩
  replace HKo : Aside0 (w2.heap[w.heap.size + 2]? = some (.cells #[.int .i64 x', .int .i64 y', .int .u32 z', .int .u32 u'] 24 (0, 0))) := ⟨(hB2.block _ (blk_lt HKo.out)).trans HKo.out⟩
  replace HB : Aside0 (Below w.heap.size w w2) := ⟨HB.out.trans (hB2.mono HB.out.size)⟩
  clear hcs0 hcs1 hcs2 hcs3 hcs4 hcs5 hcs6 hcs7 hcs8
  clear hB2
  go_wp2_with (refine storeP27 rfl rfl _ _ rfl ac 0 0 0 0 op bl false A2 m2 c2 (w.heap.size) rfl rfl HKs.out ?_; intro w3 hb3 ho3 hs3 hB3; replace HRq : Aside0 (Fl w3 w.heap.size A2 m2 c2 q) := ⟨HRq.out.st HKs.out (by decide) ho3⟩; replace HKi : Aside0 (w3.heap[w.heap.size + 1]? = some (.cells #[.int .i64 x, .int .i64 y, .int .u32 z, .int .u32 u] 24 (0, 0))) := ⟨(ho3 _ (by omega)).trans HKi.out⟩; replace HKo : Aside0 (w3.heap[w.heap.size + 2]? = some (.cells #[.int .i64 x', .int .i64 y', .int .u32 z', .int .u32 u'] 24 (0, 0))) := ⟨(ho3 _ (by omega)).trans HKo.out⟩; replace HKs : Aside0 (w3.heap[w.heap.size]? = some (.cells #[.int .i64 ac, .bool op, .bool bl, .bool false, .int .i64 0, .int .i64 0, .int .u32 0, .int .u32 0, .slice A2 m2 c2] 27 (0, 0))) := ⟨hb3⟩; replace HB : Aside0 (Below w.heap.size w w3) := ⟨HB.out.trans (hB3 _ (Nat.le_refl _))⟩; clear hb3 ho3 hs3 hB3; have hcs0 : w3.cell? ⟨w.heap.size, 0, none⟩ = some (.int .i64 ac) := blk_cell HKs.out 0; have hcs1 : w3.cell? ⟨w.heap.size, 1, none⟩ = some (.bool op) := blk_cell HKs.out 1; have hcs2 : w3.cell? ⟨w.heap.size, 2, none⟩ = some (.bool bl) := blk_cell HKs.out 2; have hcs3 : w3.cell? ⟨w.heap.size, 3, none⟩ = some (.bool false) := blk_cell HKs.out 3; have hcs4 : w3.cell? ⟨w.heap.size, 4, none⟩ = some (.int .i64 0) := blk_cell HKs.out 4; have hcs5 : w3.cell? ⟨w.heap.size, 5, none⟩ = some (.int .i64 0) := blk_cell HKs.out 5; have hcs6 : w3.cell? ⟨w.heap.size, 6, none⟩ = some (.int .u32 0) := blk_cell HKs.out 6; have hcs7 : w3.cell? ⟨w.heap.size, 7, none⟩ = some (.int .u32 0) := blk_cell HKs.out 7; have hcs8 : w3.cell? ⟨w.heap.size, 8, none⟩ = some (.slice A2 m2 c2) := blk_cell HKs.out 8)
  refine (check_e HG.out HRq.out).mono ?_
  rintro e w4 ⟨rfl, hB4⟩
  replace HKs : Aside0 (w4.heap[w.heap.size]? = some (.cells #[.int .i64 ac, .bool op, .bool bl, .bool false, .int .i64 0, .int .i64 0, .int .u32 0, .int .u32 0, .slice A2 m2 c2] 27 (0, 0))) := ⟨(hB4.block _ (blk_lt HKs.out)).trans HKs.out⟩
  replace HKi : Aside0 (w4.heap[w.heap.size + 1]? = some (.cells #[.int .i64 x, .int .i64 y, .int .u32 z, .int .u32 u] 24 (0, 0))) := ⟨(hB4.block _ (blk_lt HKi.out)).trans HKi.out⟩
  replace HKo : Aside0 (w4.heap[w.heap.size + 2]? = some (.cells #[.int .i64 x', .int .i64 y', .int .u32 z', .int .u32 u'] 24 (0, 0))) := ⟨(hB4.block _ (blk_lt HKo.out)).trans HKo.out⟩
  replace HRq : Aside0 (Fl w4 w.heap.size A2 m2 c2 q) := ⟨HRq.out.below hB4⟩
  replace HB : Aside0 (Below w.heap.size w w4) := ⟨HB.out.trans (hB4.mono HB.out.size)⟩
  clear hcs0 hcs1 hcs2 hcs3 hcs4 hcs5 hcs6 hcs7 hcs8
  clear hB4
  have hcs0 : w4.cell? ⟨w.heap.size, 0, none⟩ = some (.int .i64 ac) := blk_cell HKs.out 0
  have hcs1 : w4.cell? ⟨w.heap.size, 1, none⟩ = some (.bool op) := blk_cell HKs.out 1
  have hcs2 : w4.cell? ⟨w.heap.size, 2, none⟩ = some (.bool bl) := blk_cell HKs.out 2
  have hcs3 : w4.cell? ⟨w.heap.size, 3, none⟩ = some (.bool false) := blk_cell HKs.out 3
  have hcs4 : w4.cell? ⟨w.heap.size, 4, none⟩ = some (.int .i64 0) := blk_cell HKs.out 4
  have hcs5 : w4.cell? ⟨w.heap.size, 5, none⟩ = some (.int .i64 0) := blk_cell HKs.out 5
  have hcs6 : w4.cell? ⟨w.heap.size, 6, none⟩ = some (.int .u32 0) := blk_cell HKs.out 6
  have hcs7 : w4.cell? ⟨w.heap.size, 7, none⟩ = some (.int .u32 0) := blk_cell HKs.out 7
  have hcs8 : w4.cell? ⟨w.heap.size, 8, none⟩ = some (.slice A2 m2 c2) := blk_cell HKs.out 8
  go_wp2_with fail
  refine (block_e true H1.out HRq.out).mono ?_
  rintro e w5 ⟨A5, m5, c5, rfl, hF, hBc⟩
  have HRq_ : Aside0 (Fl w5 w.heap.size A5 m5 c5 q) := ⟨hF.lower HB.out.size⟩
  clear hF
  replace HKs : Aside0 (w5.heap[w.heap.size]? = some (.cells #[.int .i64 ac, .bool op, .bool bl, .bool false, .int .i64 0, .int .i64 0, .int .u32 0, .int .u32 0, .slice A2 m2 c2] 27 (0, 0))) := ⟨(hBc.block _ (blk_lt HKs.out)).trans HKs.out⟩
  replace HKi : Aside0 (w5.heap[w.heap.size + 1]? = some (.cells #[.int .i64 x, .int .i64 y, .int .u32 z, .int .u32 u] 24 (0, 0))) := ⟨(hBc.block _ (blk_lt HKi.out)).trans HKi.out⟩
  replace HKo : Aside0 (w5.heap[w.heap.size + 2]? = some (.cells #[.int .i64 x', .int .i64 y', .int .u32 z', .int .u32 u'] 24 (0, 0))) := ⟨(hBc.block _ (blk_lt HKo.out)).trans HKo.out⟩
  replace HRq : Aside0 (Fl w5 w.heap.size A2 m2 c2 q) := ⟨HRq.out.below hBc⟩
  replace HB : Aside0 (Below w.heap.size w w5) := ⟨HB.out.trans (hBc.mono HB.out.size)⟩
  clear hcs0 hcs1 hcs2 hcs3 hcs4 hcs5 hcs6 hcs7 hcs8
  clear hBc
  replace HRq := HRq_
  clear HRq_
  go_wp2_with (first | (refine storeP27 rfl rfl _ _ rfl ac 0 0 0 0 op true false A5 m5 c5 (w.heap.size) rfl rfl (blk_alloc HKs.out _) ?_; intro w6 hb6 ho6 hs6 hB6) | (refine storeP33 rfl rfl _ _ rfl 0 0 0 0 false false (w5.heap.size) rfl rfl ((ho6 _ (by have := blk_lt HKs.out; omega)).trans (heap_new_at w5 _ _ rfl)) ?_; intro w7 hb7 ho7 hs7 hB7; replace HRq : Aside0 (Fl w7 w.heap.size A5 m5 c5 q) := ⟨((HRq.out.alloc _).st (blk_alloc HKs.out _) (by decide) ho6).st ((ho6 _ (by have := blk_lt HKs.out; omega)).trans (heap_new_at w5 _ _ rfl)) (by decide) ho7⟩; have HNs : Aside0 (w7.heap[w.heap.size]? = some (.cells #[.int .i64 ac, .bool op, .bool true, .bool false, .int .i64 0, .int .i64 0, .int .u32 0, .int .u32 0, .slice A5 m5 c5] 27 (0, 0))) := ⟨(ho7 _ (by have := blk_lt HKs.out; omega)).trans hb6⟩; have HNi : Aside0 (w7.heap[w.heap.size + 1]? = some (.cells #[.int .i64 x, .int .i64 y, .int .u32 z, .int .u32 u] 24 (0, 0))) := ⟨(ho7 _ (by have := blk_lt HKi.out; omega)).trans ((ho6 _ (by have := blk_lt HKi.out; have := blk_lt HKs.out; omega)).trans (blk_alloc HKi.out _))⟩; have HNo : Aside0 (w7.heap[w.heap.size + 2]? = some (.cells #[.int .i64 x', .int .i64 y', .int .u32 z', .int .u32 u'] 24 (0, 0))) := ⟨(ho7 _ (by have := blk_lt HKo.out; omega)).trans ((ho6 _ (by have := blk_lt HKo.out; have := blk_lt HKs.out; omega)).trans (blk_alloc HKo.out _))⟩; have HBN : Aside0 (Below w.heap.size w w7) := ⟨((below_alloc HB.out _).trans (hB6 _ (by omega))).trans (hB7 _ (by have := HB.out.size; omega))⟩; clear HKs; have HKs := HNs; clear HNs; clear HKi; have HKi := HNi; clear HNi; clear HKo; have HKo := HNo; clear HNo; clear HB; have HB := HBN; clear HBN; have HKh7 : Aside0 (w7.heap[w5.heap.size]? = some (.cells #[.bool false, .bool false, .int .i64 0, .int .i64 0, .int .u32 0, .int .u32 0] 33 (0, 0))) := ⟨hb7⟩; clear hb6 ho6 hs6 hB6 hb7 ho7 hs7 hB7; have hcs0 : w7.cell? ⟨w.heap.size, 0, none⟩ = some (.int .i64 ac) := blk_cell HKs.out 0; have hcs1 : w7.cell? ⟨w.heap.size, 1, none⟩ = some (.bool op) := blk_cell HKs.out 1; have hcs2 : w7.cell? ⟨w.heap.size, 2, none⟩ = some (.bool true) := blk_cell HKs.out 2; have hcs3 : w7.cell? ⟨w.heap.size, 3, none⟩ = some (.bool false) := blk_cell HKs.out 3; have hcs4 : w7.cell? ⟨w.heap.size, 4, none⟩ = some (.int .i64 0) := blk_cell HKs.out 4; have hcs5 : w7.cell? ⟨w.heap.size, 5, none⟩ = some (.int .i64 0) := blk_cell HKs.out 5; have hcs6 : w7.cell? ⟨w.heap.size, 6, none⟩ = some (.int .u32 0) := blk_cell HKs.out 6; have hcs7 : w7.cell? ⟨w.heap.size, 7, none⟩ = some (.int .u32 0) := blk_cell HKs.out 7; have hcs8 : w7.cell? ⟨w.heap.size, 8, none⟩ = some (.slice A5 m5 c5) := blk_cell HKs.out 8; have hci0 : w7.cell? ⟨w.heap.size + 1, 0, none⟩ = some (.int .i64 x) := blk_cell HKi.out 0; have hci1 : w7.cell? ⟨w.heap.size + 1, 1, none⟩ = some (.int .i64 y) := blk_cell HKi.out 1; have hci2 : w7.cell? ⟨w.heap.size + 1, 2, none⟩ = some (.int .u32 z) := blk_cell HKi.out 2; have hci3 : w7.cell? ⟨w.heap.size + 1, 3, none⟩ = some (.int .u32 u) := blk_cell HKi.out 3))
  refine (send_e x y z u H2.out HRq.out).mono ?_
  rintro e w8 ⟨A8, m8, c8, rfl, hF, hBc⟩
  have HRa_ : Aside0 (Fl w8 w.heap.size A8 m8 c8 q) := ⟨hF.lower HB.out.size⟩
  clear hF
  replace HKs : Aside0 (w8.heap[w.heap.size]? = some (.cells #[.int .i64 ac, .bool op, .bool true, .bool false, .int .i64 0, .int .i64 0, .int .u32 0, .int .u32 0, .slice A5 m5 c5] 27 (0, 0))) := ⟨(hBc.block _ (blk_lt HKs.out)).trans HKs.out⟩
  replace HKi : Aside0 (w8.heap[w.heap.size + 1]? = some (.cells #[.int .i64 x, .int .i64 y, .int .u32 z, .int .u32 u] 24 (0, 0))) := ⟨(hBc.block _ (blk_lt HKi.out)).trans HKi.out⟩
  replace HKo : Aside0 (w8.heap[w.heap.size + 2]? = some (.cells #[.int .i64 x', .int .i64 y', .int .u32 z', .int .u32 u'] 24 (0, 0))) := ⟨(hBc.block _ (blk_lt HKo.out)).trans HKo.out⟩
  replace HKh7 : Aside0 (w8.heap[w5.heap.size]? = some (.cells #[.bool false, .bool false, .int .i64 0, .int .i64 0, .int .u32 0, .int .u32 0] 33 (0, 0))) := ⟨(hBc.block _ (blk_lt HKh7.out)).trans HKh7.out⟩
  replace HRq : Aside0 (Fl w8 w.heap.size A5 m5 c5 q) := ⟨HRq.out.below hBc⟩
  replace HB : Aside0 (Below w.heap.size w w8) := ⟨HB.out.trans (hBc.mono HB.out.size)⟩
  clear hcs0 hcs1 hcs2 hcs3 hcs4 hcs5 hcs6 hcs7 hcs8 hci0 hci1 hci2 hci3
  clear hBc
  have HRa := HRa_
  clear HRa_
  go_wp2_with (first | (refine storeP27 rfl rfl _ _ rfl ac x y z u op true true A8 m8 c8 (w8.heap.size) rfl rfl (blk_alloc (heap_new_at _ _ _ rfl) _) ?_; intro w9 hb9 ho9 hs9 hB9) | (refine storeP33 rfl rfl _ _ rfl 0 0 0 0 false false (w8.heap.size + 1) rfl rfl ((ho9 _ (by omega)).trans (heap_new_at (w8.alloc _) _ _ (by simp only [World.size_alloc]))) ?_; intro w10 hb10 ho10 hs10 hB10; replace HRq : Aside0 (Fl w10 w.heap.size A5 m5 c5 q) := ⟨(((HRq.out.alloc _).alloc _).st (blk_alloc (heap_new_at _ _ _ rfl) _) (by decide) ho9).st ((ho9 _ (by omega)).trans (heap_new_at (w8.alloc _) _ _ (by simp only [World.size_alloc]))) (by decide) ho10⟩; replace HRa : Aside0 (Fl w10 w.heap.size A8 m8 c8 q) := ⟨(((HRa.out.alloc _).alloc _).st (blk_alloc (heap_new_at _ _ _ rfl) _) (by decide) ho9).st ((ho9 _ (by omega)).trans (heap_new_at (w8.alloc _) _ _ (by simp only [World.size_alloc]))) (by decide) ho10⟩; have HNs : Aside0 (w10.heap[w.heap.size]? = some (.cells #[.int .i64 ac, .bool op, .bool true, .bool false, .int .i64 0, .int .i64 0, .int .u32 0, .int .u32 0, .slice A5 m5 c5] 27 (0, 0))) := ⟨(ho10 _ (by have := blk_lt HKs.out; omega)).trans ((ho9 _ (by have := blk_lt HKs.out; omega)).trans (blk_alloc (blk_alloc HKs.out _) _))⟩; have HNi : Aside0 (w10.heap[w.heap.size + 1]? = some (.cells #[.int .i64 x, .int .i64 y, .int .u32 z, .int .u32 u] 24 (0, 0))) := ⟨(ho10 _ (by have := blk_lt HKi.out; omega)).trans ((ho9 _ (by have := blk_lt HKi.out; omega)).trans (blk_alloc (blk_alloc HKi.out _) _))⟩; have HNo : Aside0 (w10.heap[w.heap.size + 2]? = some (.cells #[.int .i64 x', .int .i64 y', .int .u32 z', .int .u32 u'] 24 (0, 0))) := ⟨(ho10 _ (by have := blk_lt HKo.out; omega)).trans ((ho9 _ (by have := blk_lt HKo.out; omega)).trans (blk_alloc (blk_alloc HKo.out _) _))⟩; have HNh7 : Aside0 (w10.heap[w5.heap.size]? = some (.cells #[.bool false, .bool false, .int .i64 0, .int .i64 0, .int .u32 0, .int .u32 0] 33 (0, 0))) := ⟨(ho10 _ (by have := blk_lt HKh7.out; omega)).trans ((ho9 _ (by have := blk_lt HKh7.out; omega)).trans (blk_alloc (blk_alloc HKh7.out _) _))⟩; have HBN : Aside0 (Below w.heap.size w w10) := ⟨((below_alloc (below_alloc HB.out _) _).trans (hB9 _ HB.out.size)).trans (hB10 _ (by have := HB.out.size; omega))⟩; clear HKs; have HKs := HNs; clear HNs; clear HKi; have HKi := HNi; clear HNi; clear HKo; have HKo := HNo; clear HNo; clear HKh7; have HKh7 := HNh7; clear HNh7; clear HB; have HB := HBN; clear HBN; have HKa : Aside0 (w10.heap[w8.heap.size]? = some (.cells #[.int .i64 ac, .bool op, .bool true, .bool true, .int .i64 x, .int .i64 y, .int .u32 z, .int .u32 u, .slice A8 m8 c8] 27 (0, 0))) := ⟨(ho10 _ (by omega)).trans hb9⟩; have HKhx : Aside0 (w10.heap[w8.heap.size + 1]? = some (.cells #[.bool false, .bool false, .int .i64 0, .int .i64 0, .int .u32 0, .int .u32 0] 33 (0, 0))) := ⟨hb10⟩; clear hb9 ho9 hs9 hB9 hb10 ho10 hs10 hB10; have hca0 : w10.cell? ⟨w8.heap.size, 0, none⟩ = some (.int .i64 ac) := blk_cell HKa.out 0; have hca1 : w10.cell? ⟨w8.heap.size, 1, none⟩ = some (.bool op) := blk_cell HKa.out 1; have hca2 : w10.cell? ⟨w8.heap.size, 2, none⟩ = some (.bool true) := blk_cell HKa.out 2; have hca3 : w10.cell? ⟨w8.heap.size, 3, none⟩ = some (.bool true) := blk_cell HKa.out 3; have hca4 : w10.cell? ⟨w8.heap.size, 4, none⟩ = some (.int .i64 x) := blk_cell HKa.out 4; have hca5 : w10.cell? ⟨w8.heap.size, 5, none⟩ = some (.int .i64 y) := blk_cell HKa.out 5; have hca6 : w10.cell? ⟨w8.heap.size, 6, none⟩ = some (.int .u32 z) := blk_cell HKa.out 6; have hca7 : w10.cell? ⟨w8.heap.size, 7, none⟩ = some (.int .u32 u) := blk_cell HKa.out 7; have hca8 : w10.cell? ⟨w8.heap.size, 8, none⟩ = some (.slice A8 m8 c8) := blk_cell HKa.out 8; have hco0 : w10.cell? ⟨w.heap.size + 2, 0, none⟩ = some (.int .i64 x') := blk_cell HKo.out 0; have hco1 : w10.cell? ⟨w.heap.size + 2, 1, none⟩ = some (.int .i64 y') := blk_cell HKo.out 1; have hco2 : w10.cell? ⟨w.heap.size + 2, 2, none⟩ = some (.int .u32 z') := blk_cell HKo.out 2; have hco3 : w10.cell? ⟨w.heap.size + 2, 3, none⟩ = some (.int .u32 u') := blk_cell HKo.out 3))
  refine (send_e x' y' z' u' H3.out HRa.out).mono ?_
  rintro e w11 ⟨A11, m11, c11, rfl, hF, hBc⟩
  have HRb_ : Aside0 (Fl w11 w.heap.size A11 m11 c11 q) := ⟨hF.lower HB.out.size⟩
  clear hF
  replace HKs : Aside0 (w11.heap[w.heap.size]? = some (.cells #[.int .i64 ac, .bool op, .bool true, .bool false, .int .i64 0, .int .i64 0, .int .u32 0, .int .u32 0, .slice A5 m5 c5] 27 (0, 0))) := ⟨(hBc.block _ (blk_lt HKs.out)).trans HKs.out⟩
  replace HKi : Aside0 (w11.heap[w.heap.size + 1]? = some (.cells #[.int .i64 x, .int .i64 y, .int .u32 z, .int .u32 u] 24 (0, 0))) := ⟨(hBc.block _ (blk_lt HKi.out)).trans HKi.out⟩
  replace HKo : Aside0 (w11.heap[w.heap.size + 2]? = some (.cells #[.int .i64 x', .int .i64 y', .int .u32 z', .int .u32 u'] 24 (0, 0))) := ⟨(hBc.block _ (blk_lt HKo.out)).trans HKo.out⟩
  replace HKh7 : Aside0 (w11.heap[w5.heap.size]? = some (.cells #[.bool false, .bool false, .int .i64 0, .int .i64 0, .int .u32 0, .int .u32 0] 33 (0, 0))) := ⟨(hBc.block _ (blk_lt HKh7.out)).trans HKh7.out⟩
  replace HKa : Aside0 (w11.heap[w8.heap.size]? = some (.cells #[.int .i64 ac, .bool op, .bool true, .bool true, .int .i64 x, .int .i64 y, .int .u32 z, .int .u32 u, .slice A8 m8 c8] 27 (0, 0))) := ⟨(hBc.block _ (blk_lt HKa.out)).trans HKa.out⟩
  replace HKhx : Aside0 (w11.heap[w8.heap.size + 1]? = some (.cells #[.bool false, .bool false, .int .i64 0, .int .i64 0, .int .u32 0, .int .u32 0] 33 (0, 0))) := ⟨(hBc.block _ (blk_lt HKhx.out)).trans HKhx.out⟩
  replace HRq : Aside0 (Fl w11 w.heap.size A5 m5 c5 q) := ⟨HRq.out.below hBc⟩
  replace HRa : Aside0 (Fl w11 w.heap.size A8 m8 c8 q) := ⟨HRa.out.below hBc⟩
  replace HB : Aside0 (Below w.heap.size w w11) := ⟨HB.out.trans (hBc.mono HB.out.size)⟩
  clear hca0 hca1 hca2 hca3 hca4 hca5 hca6 hca7 hca8 hco0 hco1 hco2 hco3
  clear hBc
  have HRb := HRb_
  clear HRb_
  go_wp2_with (first | (refine storeP27 rfl rfl _ _ rfl ac x y z u op true true A11 m11 c11 (w11.heap.size) rfl rfl (blk_alloc (heap_new_at _ _ _ rfl) _) ?_; intro w12 hb12 ho12 hs12 hB12) | (refine storeP33 rfl rfl _ _ rfl 0 0 0 0 false false (w11.heap.size + 1) rfl rfl ((ho12 _ (by omega)).trans (heap_new_at (w11.alloc _) _ _ (by simp only [World.size_alloc]))) ?_; intro w13 hb13 ho13 hs13 hB13; replace HRq : Aside0 (Fl w13 w.heap.size A5 m5 c5 q) := ⟨(((HRq.out.alloc _).alloc _).st (blk_alloc (heap_new_at _ _ _ rfl) _) (by decide) ho12).st ((ho12 _ (by omega)).trans (heap_new_at (w11.alloc _) _ _ (by simp only [World.size_alloc]))) (by decide) ho13⟩; replace HRa : Aside0 (Fl w13 w.heap.size A8 m8 c8 q) := ⟨(((HRa.out.alloc _).alloc _).st (blk_alloc (heap_new_at _ _ _ rfl) _) (by decide) ho12).st ((ho12 _ (by omega)).trans (heap_new_at (w11.alloc _) _ _ (by simp only [World.size_alloc]))) (by decide) ho13⟩; replace HRb : Aside0 (Fl w13 w.heap.size A11 m11 c11 q) := ⟨(((HRb.out.alloc _).alloc _).st (blk_alloc (heap_new_at _ _ _ rfl) _) (by decide) ho12).st ((ho12 _ (by omega)).trans (heap_new_at (w11.alloc _) _ _ (by simp only [World.size_alloc]))) (by decide) ho13⟩; have HNs : Aside0 (w13.heap[w.heap.size]? = some (.cells #[.int .i64 ac, .bool op, .bool true, .bool false, .int .i64 0, .int .i64 0, .int .u32 0, .int .u32 0, .slice A5 m5 c5] 27 (0, 0))) := ⟨(ho13 _ (by have := blk_lt HKs.out; omega)).trans ((ho12 _ (by have := blk_lt HKs.out; omega)).trans (blk_alloc (blk_alloc HKs.out _) _))⟩; have HNi : Aside0 (w13.heap[w.heap.size + 1]? = some (.cells #[.int .i64 x, .int .i64 y, .int .u32 z, .int .u32 u] 24 (0, 0))) := ⟨(ho13 _ (by have := blk_lt HKi.out; omega)).trans ((ho12 _ (by have := blk_lt HKi.out; omega)).trans (blk_alloc (blk_alloc HKi.out _) _))⟩; have HNo : Aside0 (w13.heap[w.heap.size + 2]? = some (.cells #[.int .i64 x', .int .i64 y', .int .u32 z', .int .u32 u'] 24 (0, 0))) := ⟨(ho13 _ (by have := blk_lt HKo.out; omega)).trans ((ho12 _ (by have := blk_lt HKo.out; omega)).trans (blk_alloc (blk_alloc HKo.out _) _))⟩; have HNh7 : Aside0 (w13.heap[w5.heap.size]? = some (.cells #[.bool false, .bool false, .int .i64 0, .int .i64 0, .int .u32 0, .int .u32 0] 33 (0, 0))) := ⟨(ho13 _ (by have := blk_lt HKh7.out; omega)).trans ((ho12 _ (by have := blk_lt HKh7.out; omega)).trans (blk_alloc (blk_alloc HKh7.out _) _))⟩; have HNa : Aside0 (w13.heap[w8.heap.size]? = some (.cells #[.int .i64 ac, .bool op, .bool true, .bool true, .int .i64 x, .int .i64 y, .int .u32 z, .int .u32 u, .slice A8 m8 c8] 27 (0, 0))) := ⟨(ho13 _ (by have := blk_lt HKa.out; omega)).trans ((ho12 _ (by have := blk_lt HKa.out; omega)).trans (blk_alloc (blk_alloc HKa.out _) _))⟩; have HNhx : Aside0 (w13.heap[w8.heap.size + 1]? = some (.cells #[.bool false, .bool false, .int .i64 0, .int .i64 0, .int .u32 0, .int .u32 0] 33 (0, 0))) := ⟨(ho13 _ (by have := blk_lt HKhx.out; omega)).trans ((ho12 _ (by have := blk_lt HKhx.out; omega)).trans (blk_alloc (blk_alloc HKhx.out _) _))⟩; have HBN : Aside0 (Below w.heap.size w w13) := ⟨((below_alloc (below_alloc HB.out _) _).trans (hB12 _ HB.out.size)).trans (hB13 _ (by have := HB.out.size; omega))⟩; clear HKs; have HKs := HNs; clear HNs; clear HKi; have HKi := HNi; clear HNi; clear HKo; have HKo := HNo; clear HNo; clear HKh7; have HKh7 := HNh7; clear HNh7; clear HKa; have HKa := HNa; clear HNa; clear HKhx; have HKhx := HNhx; clear HNhx; clear HB; have HB := HBN; clear HBN; have HKb : Aside0 (w13.heap[w11.heap.size]? = some (.cells #[.int .i64 ac, .bool op, .bool true, .bool true, .int .i64 x, .int .i64 y, .int .u32 z, .int .u32 u, .slice A11 m11 c11] 27 (0, 0))) := ⟨(ho13 _ (by omega)).trans hb12⟩; have HKhy : Aside0 (w13.heap[w11.heap.size + 1]? = some (.cells #[.bool false, .bool false, .int .i64 0, .int .i64 0, .int .u32 0, .int .u32 0] 33 (0, 0))) := ⟨hb13⟩; clear hb12 ho12 hs12 hB12 hb13 ho13 hs13 hB13; have hca0 : w13.cell? ⟨w8.heap.size, 0, none⟩ = some (.int .i64 ac) := blk_cell HKa.out 0; have hca1 : w13.cell? ⟨w8.heap.size, 1, none⟩ = some (.bool op) := blk_cell HKa.out 1; have hca2 : w13.cell? ⟨w8.heap.size, 2, none⟩ = some (.bool true) := blk_cell HKa.out 2; have hca3 : w13.cell? ⟨w8.heap.size, 3, none⟩ = some (.bool true) := blk_cell HKa.out 3; have hca4 : w13.cell? ⟨w8.heap.size, 4, none⟩ = some (.int .i64 x) := blk_cell HKa.out 4; have hca5 : w13.cell? ⟨w8.heap.size, 5, none⟩ = some (.int .i64 y) := blk_cell HKa.out 5; have hca6 : w13.cell? ⟨w8.heap.size, 6, none⟩ = some (.int .u32 z) := blk_cell HKa.out 6; have hca7 : w13.cell? ⟨w8.heap.size, 7, none⟩ = some (.int .u32 u) := blk_cell HKa.out 7; have hca8 : w13.cell? ⟨w8.heap.size, 8, none⟩ = some (.slice A8 m8 c8) := blk_cell HKa.out 8; have hcb0 : w13.cell? ⟨w11.heap.size, 0, none⟩ = some (.int .i64 ac) := blk_cell HKb.out 0; have hcb1 : w13.cell? ⟨w11.heap.size, 1, none⟩ = some (.bool op) := blk_cell HKb.out 1; have hcb2 : w13.cell? ⟨w11.heap.size, 2, none⟩ = some (.bool true) := blk_cell HKb.out 2; have hcb3 : w13.cell? ⟨w11.heap.size, 3, none⟩ = some (.bool true) := blk_cell HKb.out 3; have hcb4 : w13.cell? ⟨w11.heap.size, 4, none⟩ = some (.int .i64 x) := blk_cell HKb.out 4; have hcb5 : w13.cell? ⟨w11.heap.size, 5, none⟩ = some (.int .i64 y) := blk_cell HKb.out 5; have hcb6 : w13.cell? ⟨w11.heap.size, 6, none⟩ = some (.int .u32 z) := blk_cell HKb.out 6; have hcb7 : w13.cell? ⟨w11.heap.size, 7, none⟩ = some (.int .u32 u) := blk_cell HKb.out 7; have hcb8 : w13.cell? ⟨w11.heap.size, 8, none⟩ = some (.slice A11 m11 c11) := blk_cell HKb.out 8; have hchx0 : w13.cell? ⟨w8.heap.size + 1, 0, none⟩ = some (.bool false) := blk_cell HKhx.out 0; have hchx1 : w13.cell? ⟨w8.heap.size + 1, 1, none⟩ = some (.bool false) := blk_cell HKhx.out 1; have hchx2 : w13.cell? ⟨w8.heap.size + 1, 2, none⟩ = some (.int .i64 0) := blk_cell HKhx.out 2; have hchx3 : w13.cell? ⟨w8.heap.size + 1, 3, none⟩ = some (.int .i64 0) := blk_cell HKhx.out 3; have hchx4 : w13.cell? ⟨w8.heap.size + 1, 4, none⟩ = some (.int .u32 0) := blk_cell HKhx.out 4; have hchx5 : w13.cell? ⟨w8.heap.size + 1, 5, none⟩ = some (.int .u32 0) := blk_cell HKhx.out 5; have hchy0 : w13.cell? ⟨w11.heap.size + 1, 0, none⟩ = some (.bool false) := blk_cell HKhy.out 0; have hchy1 : w13.cell? ⟨w11.heap.size + 1, 1, none⟩ = some (.bool false) := blk_cell HKhy.out 1; have hchy2 : w13.cell? ⟨w11.heap.size + 1, 2, none⟩ = some (.int .i64 0) := blk_cell HKhy.out 2; have hchy3 : w13.cell? ⟨w11.heap.size + 1, 3, none⟩ = some (.int .i64 0) := blk_cell HKhy.out 3; have hchy4 : w13.cell? ⟨w11.heap.size + 1, 4, none⟩ = some (.int .u32 0) := blk_cell HKhy.out 4; have hchy5 : w13.cell? ⟨w11.heap.size + 1, 5, none⟩ = some (.int .u32 0) := blk_cell HKhy.out 5))
  refine (same_e HL.out HRa.out HRb.out).mono ?_
  rintro e w14 ⟨rfl, hBc⟩
  replace HKs : Aside0 (w14.heap[w.heap.size]? = some (.cells #[.int .i64 ac, .bool op, .bool true, .bool false, .int .i64 0, .int .i64 0, .int .u32 0, .int .u32 0, .slice A5 m5 c5] 27 (0, 0))) := ⟨(hBc.block _ (blk_lt HKs.out)).trans HKs.out⟩
  replace HKi : Aside0 (w14.heap[w.heap.size + 1]? = some (.cells #[.int .i64 x, .int .i64 y, .int .u32 z, .int .u32 u] 24 (0, 0))) := ⟨(hBc.block _ (blk_lt HKi.out)).trans HKi.out⟩
  replace HKo : Aside0 (w14.heap[w.heap.size + 2]? = some (.cells #[.int .i64 x', .int .i64 y', .int .u32 z', .int .u32 u'] 24 (0, 0))) := ⟨(hBc.block _ (blk_lt HKo.out)).trans HKo.out⟩
  replace HKh7 : Aside0 (w14.heap[w5.heap.size]? = some (.cells #[.bool false, .bool false, .int .i64 0, .int .i64 0, .int .u32 0, .int .u32 0] 33 (0, 0))) := ⟨(hBc.block _ (blk_lt HKh7.out)).trans HKh7.out⟩
  replace HKa : Aside0 (w14.heap[w8.heap.size]? = some (.cells #[.int .i64 ac, .bool op, .bool true, .bool true, .int .i64 x, .int .i64 y, .int .u32 z, .int .u32 u, .slice A8 m8 c8] 27 (0, 0))) := ⟨(hBc.block _ (blk_lt HKa.out)).trans HKa.out⟩
  replace HKhx : Aside0 (w14.heap[w8.heap.size + 1]? = some (.cells #[.bool false, .bool false, .int .i64 0, .int .i64 0, .int .u32 0, .int .u32 0] 33 (0, 0))) := ⟨(hBc.block _ (blk_lt HKhx.out)).trans HKhx.out⟩
  replace HKb : Aside0 (w14.heap[w11.heap.size]? = some (.cells #[.int .i64 ac, .bool op, .bool true, .bool true, .int .i64 x, .int .i64 y, .int .u32 z, .int .u32 u, .slice A11 m11 c11] 27 (0, 0))) := ⟨(hBc.block _ (blk_lt HKb.out)).trans HKb.out⟩
  replace HKhy : Aside0 (w14.heap[w11.heap.size + 1]? = some (.cells #[.bool false, .bool false, .int .i64 0, .int .i64 0, .int .u32 0, .int .u32 0] 33 (0, 0))) := ⟨(hBc.block _ (blk_lt HKhy.out)).trans HKhy.out⟩
  replace HRq : Aside0 (Fl w14 w.heap.size A5 m5 c5 q) := ⟨HRq.out.below hBc⟩
  replace HRa : Aside0 (Fl w14 w.heap.size A8 m8 c8 q) := ⟨HRa.out.below hBc⟩
  replace HRb : Aside0 (Fl w14 w.heap.size A11 m11 c11 q) := ⟨HRb.out.below hBc⟩
  replace HB : Aside0 (Below w.heap.size w w14) := ⟨HB.out.trans (hBc.mono HB.out.size)⟩
  clear hca0 hca1 hca2 hca3 hca4 hca5 hca6 hca7 hca8 hcb0 hcb1 hcb2 hcb3 hcb4 hcb5 hcb6 hcb7 hcb8 hchx0 hchx1 hchx2 hchx3 hchx4 hchx5 hchy0 hchy1 hchy2 hchy3 hchy4 hchy5
  clear hBc
  have hca0 : w14.cell? ⟨w8.heap.size, 0, none⟩ = some (.int .i64 ac) := blk_cell HKa.out 0
  have hca1 : w14.cell? ⟨w8.heap.size, 1, none⟩ = some (.bool op) := blk_cell HKa.out 1
  have hca2 : w14.cell? ⟨w8.heap.size, 2, none⟩ = some (.bool true) := blk_cell HKa.out 2
  have hca3 : w14.cell? ⟨w8.heap.size, 3, none⟩ = some (.bool true) := blk_cell HKa.out 3
  have hca4 : w14.cell? ⟨w8.heap.size, 4, none⟩ = some (.int .i64 x) := blk_cell HKa.out 4
  have hca5 : w14.cell? ⟨w8.heap.size, 5, none⟩ = some (.int .i64 y) := blk_cell HKa.out 5
  have hca6 : w14.cell? ⟨w8.heap.size, 6, none⟩ = some (.int .u32 z) := blk_cell HKa.out 6
  have hca7 : w14.cell? ⟨w8.heap.size, 7, none⟩ = some (.int .u32 u) := blk_cell HKa.out 7
  have hca8 : w14.cell? ⟨w8.heap.size, 8, none⟩ = some (.slice A8 m8 c8) := blk_cell HKa.out 8
  have hcb0 : w14.cell? ⟨w11.heap.size, 0, none⟩ = some (.int .i64 ac) := blk_cell HKb.out 0
  have hcb1 : w14.cell? ⟨w11.heap.size, 1, none⟩ = some (.bool op) := blk_cell HKb.out 1
  have hcb2 : w14.cell? ⟨w11.heap.size, 2, none⟩ = some (.bool true) := blk_cell HKb.out 2
  have hcb3 : w14.cell? ⟨w11.heap.size, 3, none⟩ = some (.bool true) := blk_cell HKb.out 3
  have hcb4 : w14.cell? ⟨w11.heap.size, 4, none⟩ = some (.int .i64 x) := blk_cell HKb.out 4
  have hcb5 : w14.cell? ⟨w11.heap.size, 5, none⟩ = some (.int .i64 y) := blk_cell HKb.out 5
  have hcb6 : w14.cell? ⟨w11.heap.size, 6, none⟩ = some (.int .u32 z) := blk_cell HKb.out 6
  have hcb7 : w14.cell? ⟨w11.heap.size, 7, none⟩ = some (.int .u32 u) := blk_cell HKb.out 7
  have hcb8 : w14.cell? ⟨w11.heap.size, 8, none⟩ = some (.slice A11 m11 c11) := blk_cell HKb.out 8
  have hci0 : w14.cell? ⟨w.heap.size + 1, 0, none⟩ = some (.int .i64 x) := blk_cell HKi.out 0
  have hci1 : w14.cell? ⟨w.heap.size + 1, 1, none⟩ = some (.int .i64 y) := blk_cell HKi.out 1
  have hci2 : w14.cell? ⟨w.heap.size + 1, 2, none⟩ = some (.int .u32 z) := blk_cell HKi.out 2
  have hci3 : w14.cell? ⟨w.heap.size + 1, 3, none⟩ = some (.int .u32 u) := blk_cell HKi.out 3
  go_wp2_with fail
  refine (block_e false H4.out HRb.out).mono ?_
  rintro e w15 ⟨A15, m15, c15, rfl, hF, hBc⟩
  have HRc_ : Aside0 (Fl w15 w.heap.size A15 m15 c15 l') := ⟨hF.lower HB.out.size⟩
  clear hF
  replace HKs : Aside0 (w15.heap[w.heap.size]? = some (.cells #[.int .i64 ac, .bool op, .bool true, .bool false, .int .i64 0, .int .i64 0, .int .u32 0, .int .u32 0, .slice A5 m5 c5] 27 (0, 0))) := ⟨(hBc.block _ (blk_lt HKs.out)).trans HKs.out⟩
  replace HKi : Aside0 (w15.heap[w.heap.size + 1]? = some (.cells #[.int .i64 x, .int .i64 y, .int .u32 z, .int .u32 u] 24 (0, 0))) := ⟨(hBc.block _ (blk_lt HKi.out)).trans HKi.out⟩
  replace HKo : Aside0 (w15.heap[w.heap.size + 2]? = some (.cells #[.int .i64 x', .int .i64 y', .int .u32 z', .int .u32 u'] 24 (0, 0))) := ⟨(hBc.block _ (blk_lt HKo.out)).trans HKo.out⟩
  replace HKh7 : Aside0 (w15.heap[w5.heap.size]? = some (.cells #[.bool false, .bool false, .int .i64 0, .int .i64 0, .int .u32 0, .int .u32 0] 33 (0, 0))) := ⟨(hBc.block _ (blk_lt HKh7.out)).trans HKh7.out⟩
  replace HKa : Aside0 (w15.heap[w8.heap.size]? = some (.cells #[.int .i64 ac, .bool op, .bool true, .bool true, .int .i64 x, .int .i64 y, .int .u32 z, .int .u32 u, .slice A8 m8 c8] 27 (0, 0))) := ⟨(hBc.block _ (blk_lt HKa.out)).trans HKa.out⟩
  replace HKhx : Aside0 (w15.heap[w8.heap.size + 1]? = some (.cells #[.bool false, .bool false, .int .i64 0, .int .i64 0, .int .u32 0, .int .u32 0] 33 (0, 0))) := ⟨(hBc.block _ (blk_lt HKhx.out)).trans HKhx.out⟩
  replace HKb : Aside0 (w15.heap[w11.heap.size]? = some (.cells #[.int .i64 ac, .bool op, .bool true, .bool true, .int .i64 x, .int .i64 y, .int .u32 z, .int .u32 u, .slice A11 m11 c11] 27 (0, 0))) := ⟨(hBc.block _ (blk_lt HKb.out)).trans HKb.out⟩
  replace HKhy : Aside0 (w15.heap[w11.heap.size + 1]? = some (.cells #[.bool false, .bool false, .int .i64 0, .int .i64 0, .int .u32 0, .int .u32 0] 33 (0, 0))) := ⟨(hBc.block _ (blk_lt HKhy.out)).trans HKhy.out⟩
  replace HRq : Aside0 (Fl w15 w.heap.size A5 m5 c5 q) := ⟨HRq.out.below hBc⟩
  replace HRa : Aside0 (Fl w15 w.heap.size A8 m8 c8 q) := ⟨HRa.out.below hBc⟩
  replace HRb : Aside0 (Fl w15 w.heap.size A11 m11 c11 q) := ⟨HRb.out.below hBc⟩
  replace HB : Aside0 (Below w.heap.size w w15) := ⟨HB.out.trans (hBc.mono HB.out.size)⟩
  clear hca0 hca1 hca2 hca3 hca4 hca5 hca6 hca7 hca8 hcb0 hcb1 hcb2 hcb3 hcb4 hcb5 hcb6 hcb7 hcb8 hci0 hci1 hci2 hci3
  clear hBc
  have HRc := HRc_
  clear HRc_
  clear HRq
  clear HRa
  clear HRb
  clear HKs
  clear HKo
  clear HKa
  clear HKb
  clear HKhx
  clear HKhy
  clear HKh7
  have hdi : (di == !di) = false := by cases di <;> rfl
  go_wp2_with (first | (refine storeP27 rfl rfl _ _ rfl ac 0 0 0 0 op bl' false A15 m15 c15 (w15.heap.size) rfl rfl (blk_alloc (heap_new_at _ _ _ rfl) _) ?_; intro w16 hb16 ho16 hs16 hB16) | (refine storeP33 rfl rfl _ _ rfl x y z u di (!di) (w15.heap.size + 1) rfl rfl ((ho16 _ (by omega)).trans (heap_new_at (w15.alloc _) _ _ (by simp only [World.size_alloc]))) ?_; intro w17 hb17 ho17 hs17 hB17; replace HRc : Aside0 (Fl w17 w.heap.size A15 m15 c15 l') := ⟨(((HRc.out.alloc _).alloc _).st (blk_alloc (heap_new_at _ _ _ rfl) _) (by decide) ho16).st ((ho16 _ (by omega)).trans (heap_new_at (w15.alloc _) _ _ (by simp only [World.size_alloc]))) (by decide) ho17⟩; have HNi : Aside0 (w17.heap[w.heap.size + 1]? = some (.cells #[.int .i64 x, .int .i64 y, .int .u32 z, .int .u32 u] 24 (0, 0))) := ⟨(ho17 _ (by have := blk_lt HKi.out; omega)).trans ((ho16 _ (by have := blk_lt HKi.out; omega)).trans (blk_alloc (blk_alloc HKi.out _) _))⟩; have HBN : Aside0 (Below w.heap.size w w17) := ⟨((below_alloc (below_alloc HB.out _) _).trans (hB16 _ HB.out.size)).trans (hB17 _ (by have := HB.out.size; omega))⟩; clear HKi; have HKi := HNi; clear HNi; clear HB; have HB := HBN; clear HBN; have HKc : Aside0 (w17.heap[w15.heap.size]? = some (.cells #[.int .i64 ac, .bool op, .bool bl', .bool false, .int .i64 0, .int .i64 0, .int .u32 0, .int .u32 0, .slice A15 m15 c15] 27 (0, 0))) := ⟨(ho17 _ (by omega)).trans hb16⟩; have HKhz : Aside0 (w17.heap[w15.heap.size + 1]? = some (.cells #[.bool di, .bool (!di), .int .i64 x, .int .i64 y, .int .u32 z, .int .u32 u] 33 (0, 0))) := ⟨hb17⟩; clear hb16 ho16 hs16 hB16 hb17 ho17 hs17 hB17; have hcc0 : w17.cell? ⟨w15.heap.size, 0, none⟩ = some (.int .i64 ac) := blk_cell HKc.out 0; have hcc1 : w17.cell? ⟨w15.heap.size, 1, none⟩ = some (.bool op) := blk_cell HKc.out 1; have hcc2 : w17.cell? ⟨w15.heap.size, 2, none⟩ = some (.bool bl') := blk_cell HKc.out 2; have hcc3 : w17.cell? ⟨w15.heap.size, 3, none⟩ = some (.bool false) := blk_cell HKc.out 3; have hcc4 : w17.cell? ⟨w15.heap.size, 4, none⟩ = some (.int .i64 0) := blk_cell HKc.out 4; have hcc5 : w17.cell? ⟨w15.heap.size, 5, none⟩ = some (.int .i64 0) := blk_cell HKc.out 5; have hcc6 : w17.cell? ⟨w15.heap.size, 6, none⟩ = some (.int .u32 0) := blk_cell HKc.out 6; have hcc7 : w17.cell? ⟨w15.heap.size, 7, none⟩ = some (.int .u32 0) := blk_cell HKc.out 7; have hcc8 : w17.cell? ⟨w15.heap.size, 8, none⟩ = some (.slice A15 m15 c15) := blk_cell HKc.out 8; have hchz0 : w17.cell? ⟨w15.heap.size + 1, 0, none⟩ = some (.bool di) := blk_cell HKhz.out 0; have hchz1 : w17.cell? ⟨w15.heap.size + 1, 1, none⟩ = some (.bool (!di)) := blk_cell HKhz.out 1; have hchz2 : w17.cell? ⟨w15.heap.size + 1, 2, none⟩ = some (.int .i64 x) := blk_cell HKhz.out 2; have hchz3 : w17.cell? ⟨w15.heap.size + 1, 3, none⟩ = some (.int .i64 y) := blk_cell HKhz.out 3; have hchz4 : w17.cell? ⟨w15.heap.size + 1, 4, none⟩ = some (.int .u32 z) := blk_cell HKhz.out 4; have hchz5 : w17.cell? ⟨w15.heap.size + 1, 5, none⟩ = some (.int .u32 u) := blk_cell HKhz.out 5; have hci0 : w17.cell? ⟨w.heap.size + 1, 0, none⟩ = some (.int .i64 x) := blk_cell HKi.out 0; have hci1 : w17.cell? ⟨w.heap.size + 1, 1, none⟩ = some (.int .i64 y) := blk_cell HKi.out 1; have hci2 : w17.cell? ⟨w.heap.size + 1, 2, none⟩ = some (.int .u32 z) := blk_cell HKi.out 2; have hci3 : w17.cell? ⟨w.heap.size + 1, 3, none⟩ = some (.int .u32 u) := blk_cell HKi.out 3))
  refine (block_e false H5.out HRc.out).mono ?_
  rintro e w18 ⟨A18, m18, c18, rfl, hF, hBc⟩
  have HRd_ : Aside0 (Fl w18 w.heap.size A18 m18 c18 l') := ⟨hF.lower HB.out.size⟩
  clear hF
  replace HKi : Aside0 (w18.heap[w.heap.size + 1]? = some (.cells #[.int .i64 x, .int .i64 y, .int .u32 z, .int .u32 u] 24 (0, 0))) := ⟨(hBc.block _ (blk_lt HKi.out)).trans HKi.out⟩
  replace HKc : Aside0 (w18.heap[w15.heap.size]? = some (.cells #[.int .i64 ac, .bool op, .bool bl', .bool false, .int .i64 0, .int .i64 0, .int .u32 0, .int .u32 0, .slice A15 m15 c15] 27 (0, 0))) := ⟨(hBc.block _ (blk_lt HKc.out)).trans HKc.out⟩
  replace HKhz : Aside0 (w18.heap[w15.heap.size + 1]? = some (.cells #[.bool di, .bool (!di), .int .i64 x, .int .i64 y, .int .u32 z, .int .u32 u] 33 (0, 0))) := ⟨(hBc.block _ (blk_lt HKhz.out)).trans HKhz.out⟩
  replace HRc : Aside0 (Fl w18 w.heap.size A15 m15 c15 l') := ⟨HRc.out.below hBc⟩
  replace HB : Aside0 (Below w.heap.size w w18) := ⟨HB.out.trans (hBc.mono HB.out.size)⟩
  clear hcc0 hcc1 hcc2 hcc3 hcc4 hcc5 hcc6 hcc7 hcc8 hchz0 hchz1 hchz2 hchz3 hchz4 hchz5 hci0 hci1 hci2 hci3
  clear hBc
  have HRd := HRd_
  clear HRd_
  go_wp2_with (first | (refine storeP27 rfl rfl _ _ rfl ac 0 0 0 0 op false false A18 m18 c18 (w18.heap.size) rfl rfl (blk_alloc (heap_new_at _ _ _ rfl) _) ?_; intro w19 hb19 ho19 hs19 hB19) | (refine storeP33 rfl rfl _ _ rfl 0 0 0 0 false false (w18.heap.size + 1) rfl rfl ((ho19 _ (by omega)).trans (heap_new_at (w18.alloc _) _ _ (by simp only [World.size_alloc]))) ?_; intro w20 hb20 ho20 hs20 hB20; replace HRc : Aside0 (Fl w20 w.heap.size A15 m15 c15 l') := ⟨(((HRc.out.alloc _).alloc _).st (blk_alloc (heap_new_at _ _ _ rfl) _) (by decide) ho19).st ((ho19 _ (by omega)).trans (heap_new_at (w18.alloc _) _ _ (by simp only [World.size_alloc]))) (by decide) ho20⟩; replace HRd : Aside0 (Fl w20 w.heap.size A18 m18 c18 l') := ⟨(((HRd.out.alloc _).alloc _).st (blk_alloc (heap_new_at _ _ _ rfl) _) (by decide) ho19).st ((ho19 _ (by omega)).trans (heap_new_at (w18.alloc _) _ _ (by simp only [World.size_alloc]))) (by decide) ho20⟩; have HNi : Aside0 (w20.heap[w.heap.size + 1]? = some (.cells #[.int .i64 x, .int .i64 y, .int .u32 z, .int .u32 u] 24 (0, 0))) := ⟨(ho20 _ (by have := blk_lt HKi.out; omega)).trans ((ho19 _ (by have := blk_lt HKi.out; omega)).trans (blk_alloc (blk_alloc HKi.out _) _))⟩; have HNc : Aside0 (w20.heap[w15.heap.size]? = some (.cells #[.int .i64 ac, .bool op, .bool bl', .bool false, .int .i64 0, .int .i64 0, .int .u32 0, .int .u32 0, .slice A15 m15 c15] 27 (0, 0))) := ⟨(ho20 _ (by have := blk_lt HKc.out; omega)).trans ((ho19 _ (by have := blk_lt HKc.out; omega)).trans (blk_alloc (blk_alloc HKc.out _) _))⟩; have HNhz : Aside0 (w20.heap[w15.heap.size + 1]? = some (.cells #[.bool di, .bool (!di), .int .i64 x, .int .i64 y, .int .u32 z, .int .u32 u] 33 (0, 0))) := ⟨(ho20 _ (by have := blk_lt HKhz.out; omega)).trans ((ho19 _ (by have := blk_lt HKhz.out; omega)).trans (blk_alloc (blk_alloc HKhz.out _) _))⟩; have HBN : Aside0 (Below w.heap.size w w20) := ⟨((below_alloc (below_alloc HB.out _) _).trans (hB19 _ HB.out.size)).trans (hB20 _ (by have := HB.out.size; omega))⟩; clear HKi; have HKi := HNi; clear HNi; clear HKc; have HKc := HNc; clear HNc; clear HKhz; have HKhz := HNhz; clear HNhz; clear HB; have HB := HBN; clear HBN; have HKd : Aside0 (w20.heap[w18.heap.size]? = some (.cells #[.int .i64 ac, .bool op, .bool false, .bool false, .int .i64 0, .int .i64 0, .int .u32 0, .int .u32 0, .slice A18 m18 c18] 27 (0, 0))) := ⟨(ho20 _ (by omega)).trans hb19⟩; have HKhw : Aside0 (w20.heap[w18.heap.size + 1]? = some (.cells #[.bool false, .bool false, .int .i64 0, .int .i64 0, .int .u32 0, .int .u32 0] 33 (0, 0))) := ⟨hb20⟩; clear hb19 ho19 hs19 hB19 hb20 ho20 hs20 hB20; have hcd0 : w20.cell? ⟨w18.heap.size, 0, none⟩ = some (.int .i64 ac) := blk_cell HKd.out 0; have hcd1 : w20.cell? ⟨w18.heap.size, 1, none⟩ = some (.bool op) := blk_cell HKd.out 1; have hcd2 : w20.cell? ⟨w18.heap.size, 2, none⟩ = some (.bool false) := blk_cell HKd.out 2; have hcd3 : w20.cell? ⟨w18.heap.size, 3, none⟩ = some (.bool false) := blk_cell HKd.out 3; have hcd4 : w20.cell? ⟨w18.heap.size, 4, none⟩ = some (.int .i64 0) := blk_cell HKd.out 4; have hcd5 : w20.cell? ⟨w18.heap.size, 5, none⟩ = some (.int .i64 0) := blk_cell HKd.out 5; have hcd6 : w20.cell? ⟨w18.heap.size, 6, none⟩ = some (.int .u32 0) := blk_cell HKd.out 6; have hcd7 : w20.cell? ⟨w18.heap.size, 7, none⟩ = some (.int .u32 0) := blk_cell HKd.out 7; have hcd8 : w20.cell? ⟨w18.heap.size, 8, none⟩ = some (.slice A18 m18 c18) := blk_cell HKd.out 8; have hchw0 : w20.cell? ⟨w18.heap.size + 1, 0, none⟩ = some (.bool false) := blk_cell HKhw.out 0; have hchw1 : w20.cell? ⟨w18.heap.size + 1, 1, none⟩ = some (.bool false) := blk_cell HKhw.out 1; have hchw2 : w20.cell? ⟨w18.heap.size + 1, 2, none⟩ = some (.int .i64 0) := blk_cell HKhw.out 2; have hchw3 : w20.cell? ⟨w18.heap.size + 1, 3, none⟩ = some (.int .i64 0) := blk_cell HKhw.out 3; have hchw4 : w20.cell? ⟨w18.heap.size + 1, 4, none⟩ = some (.int .u32 0) := blk_cell HKhw.out 4; have hchw5 : w20.cell? ⟨w18.heap.size + 1, 5, none⟩ = some (.int .u32 0) := blk_cell HKhw.out 5))
  go_ret
  exact ⟨rfl, HB.out⟩

theorem chk_or (s : Sg) : s.chk = 0 ∨ s.chk = 360 := by
  unfold Sg.chk
  rcases Classical.em (Good s) with h | h
  · exact .inl (if_pos h)
  · exact .inr (if_neg h)
theorem SignalWaits_w (s : Sg) (A : Option Addr) (c : Nat) (x y z u x' y' z' u' : Int) (w : World) (hr0 : Kd.C Kd.bool w A s.l.length s.l) (hc0 : s.l.length ≤ c) :
    Calls Try.prog 3 #[.agg #[.int .i64 s.ac, .bool s.op, .bool s.bl, .bool s.pe, .int .i64 s.co, .int .i64 s.er, .int .u32 s.nr, .int .u32 s.ar, .slice A s.l.length c], .agg #[.int .i64 x, .int .i64 y, .int .u32 z, .int .u32 u], .agg #[.int .i64 x', .int .i64 y', .int .u32 z', .int .u32 u']] w fun e w' => e = .returned (.bool true) ∧ Below w.heap.size w w' := by
  obtain ⟨ac, op, bl, pe, co, er, nr, ar, l⟩ := s
  dsimp only at hr0 hc0 ⊢
  obtain ⟨q, hq⟩ : ∃ q, q = l.take (mn (l.length : Int) 6).toNat := ⟨_, rfl⟩
  by_cases hc : (⟨ac, op, bl, pe, co, er, nr, ar, q⟩ : Sg).chk = 0
  · obtain ⟨g1, g2, g3, g4, g5⟩ := (good_iff _).1 hc
    dsimp only at g1 g2 g3 g4 g5
    cases pe
    · rw [if_neg (by simp)] at g5
      obtain ⟨rfl, rfl, rfl, rfl⟩ := g5
      by_cases ha : ac = 1
      · subst ha
        exact waits_ig 0 0 0 0 op bl l A c x y z u x' y' z' u' w hr0 hc0 q hq hc
      · exact waits_ok ac op bl l A c x y z u x' y' z' u' w hr0 hc0 q hq hc g1 ha g2 g3 g4
    · exact waits_pe ac co er nr ar op bl l A c x y z u x' y' z' u' w hr0 hc0 q hq hc
  · have hc' := (chk_or (⟨ac, op, bl, pe, co, er, nr, ar, q⟩ : Sg)).resolve_left hc
    exact waits_no ac co er nr ar op bl pe l A c x y z u x' y' z' u' w hr0 hc0 q hq hc'
end Go.Proofs.Ytbpgpbbpeppjmaa.PD
