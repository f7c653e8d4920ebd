import Derived.Test.YtpejeeemefmafaaDE
import Derived.ChangeKeysEq
import Derived.Laws.StructEq
namespace Go.Proofs.Ytpejeeemefmafaa.RD
open Go.RowKit Go.Proofs.YtpejeeemefmafaaW.PrintWords Go.Proofs.YtpejeeemefmafaaW.PrintLast Go.Proofs.YtpejeeemefmafaaW.PrintMore
open Go.Proofs.Ytpejeeemefmafaa.PE.L (below_drewN' below_drew')
open PH
set_option linter.unusedVariables false
set_option linter.unusedSimpArgs false
theorem run_items (d : Nat) (e : TypeId) (k : IntKind) (he : Try.prog.underlying e = some (.int k)) (hc : Try.prog.cellsOf e = 1) (w : World) (X Y : Array Value) (f g : Nat → Int) : ∀ is : List Nat,
    (∀ i, i ∈ is → X[i]? = some (.int k (f i)) ∧ Y[i]? = some (.int k (g i))) → (Op.eqItems (d + 1) e (Try.prog.cellsOf e) X Y is).run Try.prog w = .ok (is.all fun i => f i == g i) w
  | [], _ => by simp [Op.eqItems]
  | i :: is, h => by
    obtain ⟨hx, hy⟩ := h i (by simp)
    have ih := run_items d e k he hc w X Y f g is (fun j hj => h j (by simp [hj]))
    have px : (part e X (i * 1)).run Try.prog w = .ok (.int k (f i)) w := by simp [part, isAgg, run_underlying he, Array.getD_eq_getD_getElem?, hx]
    have py : (part e Y (i * 1)).run Try.prog w = .ok (.int k (g i)) w := by simp [part, isAgg, run_underlying he, Array.getD_eq_getD_getElem?, hy]
    rw [hc] at ih ⊢
    simp only [Op.eqItems, Sem.run_bind, px, py, Result.andThen_ok, run_equalIn_int w d e k k (f i) (g i) he, List.all_cons]
    cases hb : (f i == g i)
    · simp
    · simpa using ih
theorem eq56 (d : Nat) (w : World) (x3 y3 x4 y4 x5 y5 x6 y6 x7 y7 x8 y8 : Int) : (Op.equalIn (d + 2) 56 (.agg #[.int .u64 x3, .int .u64 x4, .int .u64 x5, .int .u64 x6, .int .u64 x7, .int .u64 x8]) (.agg #[.int .u64 y3, .int .u64 y4, .int .u64 y5, .int .u64 y6, .int .u64 y7, .int .u64 y8])).run Try.prog w = .ok (x3 == y3 && (x4 == y4 && (x5 == y5 && (x6 == y6 && (x7 == y7 && x8 == y8))))) w := by
  obtain ⟨i, hi, _⟩ := info_parts (show (Try.prog.info? 26).map (fun i => (i.zero, i.size, i.bytes)) = some (some (.int .u64 0), 1, 8) by kernel_rfl)
  rw [run_equalIn_array w (d + 1) _ _ Try.underlying56 hi, run_items d 26 .u64 Try.underlying26 (by kernel_rfl) w _ _ (fun i => [x3, x4, x5, x6, x7, x8].getD i 0) (fun i => [y3, y4, y5, y6, y7, y8].getD i 0)]
  · simp [List.range, List.range.loop]
  · intro j hj
    have : j = 0 ∨ j = 1 ∨ j = 2 ∨ j = 3 ∨ j = 4 ∨ j = 5 := by simp at hj; omega
    rcases this with rfl | rfl | rfl | rfl | rfl | rfl <;> exact ⟨rfl, rfl⟩
theorem eq58 (w : World) (x0 y0 x1 y1 x2 y2 x3 y3 x4 y4 x5 y5 x6 y6 x7 y7 x8 y8 : Int) (d : Nat) : (Op.equalIn (d + 3) 58 (.agg #[.int .u32 x0, .int .u32 x1, .int .u64 x2, .int .u64 x3, .int .u64 x4, .int .u64 x5, .int .u64 x6, .int .u64 x7, .int .u64 x8]) (.agg #[.int .u32 y0, .int .u32 y1, .int .u64 y2, .int .u64 y3, .int .u64 y4, .int .u64 y5, .int .u64 y6, .int .u64 y7, .int .u64 y8])).run Try.prog w = .ok (x0 == y0 && (x1 == y1 && (x2 == y2 && (x3 == y3 && (x4 == y4 && (x5 == y5 && (x6 == y6 && (x7 == y7 && x8 == y8)))))))) w := by
  refine eqA_of Try.underlying58 (by kernel_rfl) ?_
  refine eqf_cons (by rfl) (by go_simp; rfl) (by go_simp; rfl) (by go_simp) ?_
  refine eqf_cons (by rfl) (by go_simp; rfl) (by go_simp; rfl) (by go_simp) ?_
  refine eqf_cons (by rfl) (by go_simp; rfl) (by go_simp; rfl) (by go_simp) ?_
  exact eqf_last (by rfl) (by go_simp) (by go_simp) (eq56 d w _ _ _ _ _ _ _ _ _ _ _ _)
theorem eql58 (w : World) (x0 y0 x1 y1 x2 y2 x3 y3 x4 y4 x5 y5 x6 y6 x7 y7 x8 y8 : Int) : (binOp .eql 58 (.agg #[.int .u32 x0, .int .u32 x1, .int .u64 x2, .int .u64 x3, .int .u64 x4, .int .u64 x5, .int .u64 x6, .int .u64 x7, .int .u64 x8]) (.agg #[.int .u32 y0, .int .u32 y1, .int .u64 y2, .int .u64 y3, .int .u64 y4, .int .u64 y5, .int .u64 y6, .int .u64 y7, .int .u64 y8])).run Try.prog w = .ok (.bool (x0 == y0 && (x1 == y1 && (x2 == y2 && (x3 == y3 && (x4 == y4 && (x5 == y5 && (x6 == y6 && (x7 == y7 && x8 == y8))))))))) w := by
  rw [run_eql_struct, eq58 w _ _ _ _ _ _ _ _ _ _ _ _ _ _ _ _ _ _ 9997]
  rfl
theorem eql66 (l m : List Int) (w : World) : (binOp .eql 66 (.agg (wl l 16).toArray) (.agg (wl m 16).toArray)).run Try.prog w = .ok (.bool ((List.range 16).all fun i => w4 l (4 * i) == w4 m (4 * i))) w := by
  obtain ⟨i, hi, _⟩ := info_parts (show (Try.prog.info? 33).map (fun i => (i.zero, i.size, i.bytes)) = some (some (.int .u32 0), 1, 4) by kernel_rfl)
  rw [run_eql_struct, run_equalIn_array w 9999 _ _ Try.underlying66 hi, run_items 9998 33 .u32 Try.underlying33 (by kernel_rfl) w _ _ (fun i => w4 l (4 * i)) (fun i => w4 m (4 * i))]
  · rfl
  · intro j hj
    have hj' : j < 16 := by simpa using hj
    simp only [List.getElem?_toArray]
    rw [wl_at _ _ _ hj', wl_at _ _ _ hj', if_pos hj', if_pos hj']
    exact ⟨rfl, rfl⟩
set_option maxHeartbeats 4000000 in
set_option maxRecDepth 100000 in
theorem rdec_short (A : Option Addr) (n c : Nat) (hn : n < 64) (w : World) : Calls Try.prog 37 #[.slice A n c] w fun e w' => e = .returned (.tuple #[.agg #[.int .u32 0, .int .u32 0, .int .u64 0, .int .u64 0, .int .u64 0, .int .u64 0, .int .u64 0, .int .u64 0, .int .u64 0], .int .i64 7]) ∧ Below w.heap.size w w' := by
  have t1 : decide ((n : Int) < 64) = true := decide_eq_true (by omega)
  have t2 : decide (n < 64) = true := decide_eq_true (by omega)
  go_enter Try.func37, Try.ntmps37
  have HX := Aside0.mk (heap_alloc_new w (.cells #[.int .u32 0, .int .u32 0, .int .u64 0, .int .u64 0, .int .u64 0, .int .u64 0, .int .u64 0, .int .u64 0, .int .u64 0] 58))
  have hc0 : World.cell? _ ⟨w.heap.size, 0, none⟩ = some (.int .u32 0) := blk_cell HX.out 0
  have hcf0 : World.frozen? _ ⟨w.heap.size, 0, none⟩ = false := blk_frozen HX.out 0
  have hc1 : World.cell? _ ⟨w.heap.size, 1, none⟩ = some (.int .u32 0) := blk_cell HX.out 1
  have hcf1 : World.frozen? _ ⟨w.heap.size, 1, none⟩ = false := blk_frozen HX.out 1
  have hc2 : World.cell? _ ⟨w.heap.size, 2, none⟩ = some (.int .u64 0) := blk_cell HX.out 2
  have hcf2 : World.frozen? _ ⟨w.heap.size, 2, none⟩ = false := blk_frozen HX.out 2
  have hc3 : World.cell? _ ⟨w.heap.size, 3, none⟩ = some (.int .u64 0) := blk_cell HX.out 3
  have hcf3 : World.frozen? _ ⟨w.heap.size, 3, none⟩ = false := blk_frozen HX.out 3
  have hc4 : World.cell? _ ⟨w.heap.size, 4, none⟩ = some (.int .u64 0) := blk_cell HX.out 4
  have hcf4 : World.frozen? _ ⟨w.heap.size, 4, none⟩ = false := blk_frozen HX.out 4
  have hc5 : World.cell? _ ⟨w.heap.size, 5, none⟩ = some (.int .u64 0) := blk_cell HX.out 5
  have hcf5 : World.frozen? _ ⟨w.heap.size, 5, none⟩ = false := blk_frozen HX.out 5
  have hc6 : World.cell? _ ⟨w.heap.size, 6, none⟩ = some (.int .u64 0) := blk_cell HX.out 6
  have hcf6 : World.frozen? _ ⟨w.heap.size, 6, none⟩ = false := blk_frozen HX.out 6
  have hc7 : World.cell? _ ⟨w.heap.size, 7, none⟩ = some (.int .u64 0) := blk_cell HX.out 7
  have hcf7 : World.frozen? _ ⟨w.heap.size, 7, none⟩ = false := blk_frozen HX.out 7
  have hc8 : World.cell? _ ⟨w.heap.size, 8, none⟩ = some (.int .u64 0) := blk_cell HX.out 8
  have hcf8 : World.frozen? _ ⟨w.heap.size, 8, none⟩ = false := blk_frozen HX.out 8
  go_wp2
  refine bodyPost_ret (results_ct rfl _ _ w.heap.size 58 #[.int .u32 0, .int .u32 0, .int .u64 0, .int .u64 0, .int .u64 0, .int .u64 0, .int .u64 0, .int .u64 0, .int .u64 0] (0, 0) _ rfl ?hb Try.underlying58 rfl (by kernel_rfl)) rfl ?_
  case hb => simpa using HX.out
  refine ⟨rfl, ?_⟩
  repeat (first | (with_reducible exact below_alloc (Below.refl _ _) _) | (with_reducible refine bset ?_ (Nat.le_refl _) _))
set_option maxHeartbeats 4000000 in
set_option maxRecDepth 100000 in
theorem rdec_long (A : Option Addr) (n c : Nat) (hn : 64 < n) (w : World) : Calls Try.prog 37 #[.slice A n c] w fun e w' => e = .returned (.tuple #[.agg #[.int .u32 0, .int .u32 0, .int .u64 0, .int .u64 0, .int .u64 0, .int .u64 0, .int .u64 0, .int .u64 0, .int .u64 0], .int .i64 3]) ∧ Below w.heap.size w w' := by
  have t1 : decide ((n : Int) < 64) = false := decide_eq_false (by omega)
  have t2 : decide (n < 64) = false := decide_eq_false (by omega)
  have t3 : decide ((64 : Int) < (n : Int)) = true := decide_eq_true (by omega)
  have t4 : decide (64 < n) = true := decide_eq_true (by omega)
  go_enter Try.func37, Try.ntmps37
  have HX := Aside0.mk (heap_alloc_new w (.cells #[.int .u32 0, .int .u32 0, .int .u64 0, .int .u64 0, .int .u64 0, .int .u64 0, .int .u64 0, .int .u64 0, .int .u64 0] 58))
  have hc0 : World.cell? _ ⟨w.heap.size, 0, none⟩ = some (.int .u32 0) := blk_cell HX.out 0
  have hcf0 : World.frozen? _ ⟨w.heap.size, 0, none⟩ = false := blk_frozen HX.out 0
  have hc1 : World.cell? _ ⟨w.heap.size, 1, none⟩ = some (.int .u32 0) := blk_cell HX.out 1
  have hcf1 : World.frozen? _ ⟨w.heap.size, 1, none⟩ = false := blk_frozen HX.out 1
  have hc2 : World.cell? _ ⟨w.heap.size, 2, none⟩ = some (.int .u64 0) := blk_cell HX.out 2
  have hcf2 : World.frozen? _ ⟨w.heap.size, 2, none⟩ = false := blk_frozen HX.out 2
  have hc3 : World.cell? _ ⟨w.heap.size, 3, none⟩ = some (.int .u64 0) := blk_cell HX.out 3
  have hcf3 : World.frozen? _ ⟨w.heap.size, 3, none⟩ = false := blk_frozen HX.out 3
  have hc4 : World.cell? _ ⟨w.heap.size, 4, none⟩ = some (.int .u64 0) := blk_cell HX.out 4
  have hcf4 : World.frozen? _ ⟨w.heap.size, 4, none⟩ = false := blk_frozen HX.out 4
  have hc5 : World.cell? _ ⟨w.heap.size, 5, none⟩ = some (.int .u64 0) := blk_cell HX.out 5
  have hcf5 : World.frozen? _ ⟨w.heap.size, 5, none⟩ = false := blk_frozen HX.out 5
  have hc6 : World.cell? _ ⟨w.heap.size, 6, none⟩ = some (.int .u64 0) := blk_cell HX.out 6
  have hcf6 : World.frozen? _ ⟨w.heap.size, 6, none⟩ = false := blk_frozen HX.out 6
  have hc7 : World.cell? _ ⟨w.heap.size, 7, none⟩ = some (.int .u64 0) := blk_cell HX.out 7
  have hcf7 : World.frozen? _ ⟨w.heap.size, 7, none⟩ = false := blk_frozen HX.out 7
  have hc8 : World.cell? _ ⟨w.heap.size, 8, none⟩ = some (.int .u64 0) := blk_cell HX.out 8
  have hcf8 : World.frozen? _ ⟨w.heap.size, 8, none⟩ = false := blk_frozen HX.out 8
  go_wp2
  refine bodyPost_ret (results_ct rfl _ _ w.heap.size 58 #[.int .u32 0, .int .u32 0, .int .u64 0, .int .u64 0, .int .u64 0, .int .u64 0, .int .u64 0, .int .u64 0, .int .u64 0] (0, 0) _ rfl ?hb Try.underlying58 rfl (by kernel_rfl)) rfl ?_
  case hb => simpa using HX.out
  refine ⟨rfl, ?_⟩
  repeat (first | (with_reducible exact below_alloc (Below.refl _ _) _) | (with_reducible refine bset ?_ (Nat.le_refl _) _))
set_option maxHeartbeats 4000000 in
set_option maxRecDepth 100000 in
theorem rdec_ok (A : Option Addr) (c : Nat) (l : List Int) (hl : Bytes l) (w : World) (hC : Kd.C (Kd.int .u8) w A 64 l) (hc : 64 ≤ c) : Calls Try.prog 37 #[.slice A 64 c] w fun e w' => e = .returned (.tuple #[.agg #[.int .u32 (w4 l 0), .int .u32 (w4 l 4), .int .u64 (w8 l 8), .int .u64 (w8 l 16), .int .u64 (w8 l 24), .int .u64 (w8 l 32), .int .u64 (w8 l 40), .int .u64 (w8 l 48), .int .u64 (w8 l 56)], .int .i64 0]) ∧ Below w.heap.size w w' := by
  have HL := Aside0.mk hl
  have HC := Aside0.mk hC
  clear hl hC
  go_enter Try.func37, Try.ntmps37
  have HX := Aside0.mk (heap_alloc_new w (.cells #[.int .u32 0, .int .u32 0, .int .u64 0, .int .u64 0, .int .u64 0, .int .u64 0, .int .u64 0, .int .u64 0, .int .u64 0] 58))
  have HB := Aside0.mk (below_alloc (Below.refl w.heap.size w) (.cells #[.int .u32 0, .int .u32 0, .int .u64 0, .int .u64 0, .int .u64 0, .int .u64 0, .int .u64 0, .int .u64 0, .int .u64 0] 58))
  go_wp2_with fail
  refine (of_c A c l HL.out _ (Kd.C_alloc HC.out _) hc).mono ?_
  rintro e w1 ⟨rfl, hB⟩
  replace HX := Aside0.mk ((hB.block _ (blk_lt HX.out)).trans HX.out)
  replace HB := Aside0.mk (HB.out.trans (hB.mono HB.out.size))
  clear hB
  have hz0 : World.cell? _ ⟨w.heap.size, 0, none⟩ = some (.int .u32 0) := blk_cell HX.out 0
  have hzf0 : World.frozen? _ ⟨w.heap.size, 0, none⟩ = false := blk_frozen HX.out 0
  have hz1 : World.cell? _ ⟨w.heap.size, 1, none⟩ = some (.int .u32 0) := blk_cell HX.out 1
  have hzf1 : World.frozen? _ ⟨w.heap.size, 1, none⟩ = false := blk_frozen HX.out 1
  have hz2 : World.cell? _ ⟨w.heap.size, 2, none⟩ = some (.int .u64 0) := blk_cell HX.out 2
  have hzf2 : World.frozen? _ ⟨w.heap.size, 2, none⟩ = false := blk_frozen HX.out 2
  have hz3 : World.cell? _ ⟨w.heap.size, 3, none⟩ = some (.int .u64 0) := blk_cell HX.out 3
  have hzf3 : World.frozen? _ ⟨w.heap.size, 3, none⟩ = false := blk_frozen HX.out 3
  have hz4 : World.cell? _ ⟨w.heap.size, 4, none⟩ = some (.int .u64 0) := blk_cell HX.out 4
  have hzf4 : World.frozen? _ ⟨w.heap.size, 4, none⟩ = false := blk_frozen HX.out 4
  have hz5 : World.cell? _ ⟨w.heap.size, 5, none⟩ = some (.int .u64 0) := blk_cell HX.out 5
  have hzf5 : World.frozen? _ ⟨w.heap.size, 5, none⟩ = false := blk_frozen HX.out 5
  have hz6 : World.cell? _ ⟨w.heap.size, 6, none⟩ = some (.int .u64 0) := blk_cell HX.out 6
  have hzf6 : World.frozen? _ ⟨w.heap.size, 6, none⟩ = false := blk_frozen HX.out 6
  have hz7 : World.cell? _ ⟨w.heap.size, 7, none⟩ = some (.int .u64 0) := blk_cell HX.out 7
  have hzf7 : World.frozen? _ ⟨w.heap.size, 7, none⟩ = false := blk_frozen HX.out 7
  have hz8 : World.cell? _ ⟨w.heap.size, 8, none⟩ = some (.int .u64 0) := blk_cell HX.out 8
  have hzf8 : World.frozen? _ ⟨w.heap.size, 8, none⟩ = false := blk_frozen HX.out 8
  go_wp2
  refine bodyPost_ret (results_ct rfl _ _ w.heap.size 58 #[.int .u32 (w4 l 0), .int .u32 (w4 l 4), .int .u64 (w8 l 8), .int .u64 (w8 l 16), .int .u64 (w8 l 24), .int .u64 (w8 l 32), .int .u64 (w8 l 40), .int .u64 (w8 l 48), .int .u64 (w8 l 56)] (0, 0) _ rfl ?hb Try.underlying58 rfl (by kernel_rfl)) rfl ?_
  case hb =>
    have b0 := HX.out
    have b1 := blk_set b0 0 (.int .u32 (w4 l 0))
    have b2 := blk_set b1 1 (.int .u32 (w4 l 4))
    have b3 := blk_set b2 2 (.int .u64 (w8 l 8))
    have b4 := blk_set b3 3 (.int .u64 (w8 l 16))
    have b5 := blk_set b4 4 (.int .u64 (w8 l 24))
    have b6 := blk_set b5 5 (.int .u64 (w8 l 32))
    have b7 := blk_set b6 6 (.int .u64 (w8 l 40))
    have b8 := blk_set b7 7 (.int .u64 (w8 l 48))
    have b9 := blk_set b8 8 (.int .u64 (w8 l 56))
    simpa using b9
  refine ⟨rfl, ?_⟩
  repeat (first | (with_reducible exact HB.out) | (with_reducible refine bset ?_ (Nat.le_refl _) _))
set_option maxHeartbeats 4000000 in
set_option maxRecDepth 100000 in
theorem wakes3_w (w : World) : Calls Try.prog 35 #[] w fun e w' => e = .returned (.bool true) ∧ Below w.heap.size w w' := by
  go_enter Try.func35, Try.ntmps35
  go_wp2_with fail
  refine (word_ok (⟨0, 0, 4294967301, 0, 0, 0, 0, 0, 0⟩ : Dt) (by constructor <;> exact ⟨by decide, by decide⟩) 12 ⟨by decide, by decide⟩ ⟨by decide, by decide⟩ _).mono ?_
  rintro e w1 ⟨rfl, hB⟩
  have HB := Aside0.mk hB
  clear hB
  rw [show w4 (⟨0, 0, 4294967301, 0, 0, 0, 0, 0, 0⟩ : Dt).bytes (4 * ((12 : Int) / 4).toNat) = 1 from by decide]
  go_wp2_with fail
  refine (enc_c (⟨0, 0, 0, 0, 0, 0, 0, 0, 0⟩ : Dt) (by constructor <;> exact ⟨by decide, by decide⟩) _).mono ?_
  rintro e w2 ⟨A, c, rfl, hc, hC, hB⟩
  replace HB := Aside0.mk (HB.out.trans (hB.mono HB.out.size))
  clear hB hC
  go_wp2
  go_ret
  exact ⟨rfl, HB.out⟩
end Go.Proofs.Ytpejeeemefmafaa.RD
