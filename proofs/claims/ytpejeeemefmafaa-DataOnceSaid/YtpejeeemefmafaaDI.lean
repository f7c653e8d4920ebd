import Derived.Test.YtpejeeemefmafaaDG
namespace Go.Proofs.Ytpejeeemefmafaa.RD
open Go.RowKit Go.Proofs.YtpejeeemefmafaaW.PrintWords Go.Proofs.YtpejeeemefmafaaW.PrintLast Go.Proofs.YtpejeeemefmafaaW.PrintMore
open Go.Proofs.Ytpejeeemefmafaa.PE.L (below_drewN' below_drew')
open PH
set_option linter.unusedVariables false
set_option linter.unusedSimpArgs false
theorem right_no {off : Int} (h : u32R off) (hg : ¬ (off % 4 = 0 ∧ off ≤ 60)) (w : World) : Calls Try.prog 57 #[.int .u32 off] w fun e w' => e = .returned (.bool false) ∧ Drawn0 w w' :=
  wicketgateref03_Right.calls off false w (by rw [right_f off h, decide_eq_false hg])
theorem right_ok {off : Int} (h : u32R off) (hg : off % 4 = 0 ∧ off ≤ 60) (w : World) : Calls Try.prog 57 #[.int .u32 off] w fun e w' => e = .returned (.bool true) ∧ Drawn0 w w' :=
  wicketgateref03_Right.calls off true w (by rw [right_f off h, decide_eq_true hg])
/-- The bytes with another word at a place. -/
def put4 (l : List Int) (o : Nat) (x : Int) : List Int := l.take o ++ bs 4 x ++ l.drop (o + 4)
theorem put4_len (l : List Int) (o : Nat) (x : Int) (h : o + 4 ≤ l.length) : (put4 l o x).length = l.length := by simp [put4, bs_length]; omega
theorem put4_bytes {l : List Int} (hl : Bytes l) (o : Nat) (x : Int) : Bytes (put4 l o x) := Bytes.append (Bytes.append (hl.take _) (bs_bytes _ _)) (hl.drop _)
theorem put4_at (l : List Int) (o : Nat) (x : Int) (h : o + 4 ≤ l.length) (hx : u32R x) (j : Nat) (hj : j + 4 ≤ l.length) (hd : j + 4 ≤ o ∨ o + 4 ≤ j) : w4 (put4 l o x) j = w4 l j := by
  unfold w4 put4
  congr 1
  rcases hd with hd | hd
  · rw [List.append_assoc, List.drop_append_of_le_length (by simp; omega), List.take_append_of_le_length (by simp; omega), List.drop_take, List.take_take, Nat.min_eq_left (by omega)]
  · rw [List.drop_append, List.drop_eq_nil_of_le (by simp [bs_length]; omega), List.nil_append, List.drop_drop]
    congr 2
    simp [bs_length]; omega
theorem put4_same (l : List Int) (o : Nat) (x : Int) (h : o + 4 ≤ l.length) (hx : u32R x) : w4 (put4 l o x) o = x := by
  unfold w4 put4
  have e : ((l.take o ++ bs 4 x ++ l.drop (o + 4)).drop o).take 4 = bs 4 x := by
    rw [List.append_assoc, List.drop_append, List.drop_eq_nil_of_le (by simp; omega), List.nil_append]
    have : o - (l.take o).length = 0 := by simp; omega
    rw [this, List.drop_zero, List.take_append_of_le_length (by simp [bs_length])]
    exact List.take_of_length_le (by simp [bs_length])
  rw [e, num_bs4 hx]
theorem put4_id {l : List Int} (hl : Bytes l) (o : Nat) (h : o + 4 ≤ l.length) : put4 l o (w4 l o) = l := by
  unfold put4
  rw [bs_w4 hl o h, take_more l o 4 h, List.take_append_drop]
set_option maxHeartbeats 4000000 in
set_option maxRecDepth 100000 in
theorem rword_no (d : Dt) (ok : d.Ok) (off : Int) (ho : u32R off) (hg : ¬ (off % 4 = 0 ∧ off ≤ 60)) (w : World) : Calls Try.prog 41 #[.agg #[.int .u32 d.nr, .int .u32 d.ar, .int .u64 d.ip, .int .u64 d.a0, .int .u64 d.a1, .int .u64 d.a2, .int .u64 d.a3, .int .u64 d.a4, .int .u64 d.a5], .int .u32 off] w fun e w' => e = .returned (.tuple #[.int .u32 0, .int .i64 2]) ∧ Below w.heap.size w w' := by
  have OK := Aside0.mk ok
  clear ok
  have HP := Aside0.mk (fun W => right_no ho hg W)
  clear ho hg
  go_enter Try.func41, Try.ntmps41
  have HX := Aside0.mk (heap_alloc_new w (.cells #[.int .u32 d.nr, .int .u32 d.ar, .int .u64 d.ip, .int .u64 d.a0, .int .u64 d.a1, .int .u64 d.a2, .int .u64 d.a3, .int .u64 d.a4, .int .u64 d.a5] 58))
  have HB := Aside0.mk (below_alloc (Below.refl w.heap.size w) (.cells #[.int .u32 d.nr, .int .u32 d.ar, .int .u64 d.ip, .int .u64 d.a0, .int .u64 d.a1, .int .u64 d.a2, .int .u64 d.a3, .int .u64 d.a4, .int .u64 d.a5] 58))
  go_wp2_with fail
  refine (HP.out _).mono ?_
  rintro e w1 ⟨rfl, hD⟩
  replace HX := Aside0.mk ((hD.below.block _ (blk_lt HX.out)).trans HX.out)
  replace HB := Aside0.mk (HB.out.trans (hD.below.mono HB.out.size))
  clear hD HP
  go_wp2
  go_ret2
  exact ⟨rfl, HB.out⟩
set_option maxHeartbeats 4000000 in
set_option maxRecDepth 100000 in
theorem rword_ok (d : Dt) (ok : d.Ok) (o : Nat) (ho : u32R (o : Int)) (hg : (o : Int) % 4 = 0 ∧ (o : Int) ≤ 60) (w : World) : Calls Try.prog 41 #[.agg #[.int .u32 d.nr, .int .u32 d.ar, .int .u64 d.ip, .int .u64 d.a0, .int .u64 d.a1, .int .u64 d.a2, .int .u64 d.a3, .int .u64 d.a4, .int .u64 d.a5], .int .u32 (o : Int)] w fun e w' => e = .returned (.tuple #[.int .u32 (w4 d.bytes o), .int .i64 0]) ∧ Below w.heap.size w w' := by
  have OK := Aside0.mk ok
  clear ok
  have h60 : o ≤ 60 := by omega
  have HP := Aside0.mk (fun W => right_ok ho hg W)
  have HW := Aside0.mk (w4_r (bytes_b d) o (by rw [bytes_len]; omega))
  have hw := u32_id HW.out
  clear ho hg
  go_enter Try.func41, Try.ntmps41
  have HX := Aside0.mk (heap_alloc_new w (.cells #[.int .u32 d.nr, .int .u32 d.ar, .int .u64 d.ip, .int .u64 d.a0, .int .u64 d.a1, .int .u64 d.a2, .int .u64 d.a3, .int .u64 d.a4, .int .u64 d.a5] 58))
  have HB := Aside0.mk (below_alloc (Below.refl w.heap.size w) (.cells #[.int .u32 d.nr, .int .u32 d.ar, .int .u64 d.ip, .int .u64 d.a0, .int .u64 d.a1, .int .u64 d.a2, .int .u64 d.a3, .int .u64 d.a4, .int .u64 d.a5] 58))
  go_wp2_with fail
  refine (HP.out _).mono ?_
  rintro e w1 ⟨rfl, hD⟩
  replace HX := Aside0.mk ((hD.below.block _ (blk_lt HX.out)).trans HX.out)
  replace HB := Aside0.mk (HB.out.trans (hD.below.mono HB.out.size))
  clear hD HP
  have hc0 : World.cell? _ ⟨w.heap.size, 0, none⟩ = some (.int .u32 d.nr) := blk_cell HX.out 0
  have hc1 : World.cell? _ ⟨w.heap.size, 1, none⟩ = some (.int .u32 d.ar) := blk_cell HX.out 1
  have hc2 : World.cell? _ ⟨w.heap.size, 2, none⟩ = some (.int .u64 d.ip) := blk_cell HX.out 2
  have hc3 : World.cell? _ ⟨w.heap.size, 3, none⟩ = some (.int .u64 d.a0) := blk_cell HX.out 3
  have hc4 : World.cell? _ ⟨w.heap.size, 4, none⟩ = some (.int .u64 d.a1) := blk_cell HX.out 4
  have hc5 : World.cell? _ ⟨w.heap.size, 5, none⟩ = some (.int .u64 d.a2) := blk_cell HX.out 5
  have hc6 : World.cell? _ ⟨w.heap.size, 6, none⟩ = some (.int .u64 d.a3) := blk_cell HX.out 6
  have hc7 : World.cell? _ ⟨w.heap.size, 7, none⟩ = some (.int .u64 d.a4) := blk_cell HX.out 7
  have hc8 : World.cell? _ ⟨w.heap.size, 8, none⟩ = some (.int .u64 d.a5) := blk_cell HX.out 8
  go_wp2_with fail
  clear hc0 hc1 hc2 hc3 hc4 hc5 hc6 hc7 hc8
  refine (rbytes_c d OK.out _).mono ?_
  rintro e w2 ⟨A, c, rfl, hc, hC, hB⟩
  replace HB := Aside0.mk (HB.out.trans (hB.mono HB.out.size))
  clear hB
  have HC := Aside0.mk hC
  clear hC
  obtain ⟨Bq, dq, hr, hd, hq⟩ := cut_win A 64 c d.bytes .u32 o 4 (bytes_len d) (by omega) hc
  have HD := Aside0.mk hd
  clear hd
  rw [show ((o + 4 : Nat) : Int) = (o : Int) + 4 from by omega] at hr
  go_wp2_with fail
  refine (num4_c Bq dq d.bytes o _ (HD.out _ HC.out) hq (bytes_b d) (by rw [bytes_len]; omega)).mono ?_
  rintro e w3 ⟨rfl, hD⟩
  replace HB := Aside0.mk (HB.out.trans (hD.below.mono HB.out.size))
  clear hD
  go_wp2
  go_ret2
  exact ⟨rfl, HB.out⟩
set_option maxHeartbeats 4000000 in
set_option maxRecDepth 100000 in
theorem with_no (d : Dt) (off x : Int) (ho : u32R off) (hg : ¬ (off % 4 = 0 ∧ off ≤ 60)) (w : World) : Calls Try.prog 42 #[.agg #[.int .u32 d.nr, .int .u32 d.ar, .int .u64 d.ip, .int .u64 d.a0, .int .u64 d.a1, .int .u64 d.a2, .int .u64 d.a3, .int .u64 d.a4, .int .u64 d.a5], .int .u32 off, .int .u32 x] w fun e w' => e = .returned (.tuple #[.agg #[.int .u32 0, .int .u32 0, .int .u64 0, .int .u64 0, .int .u64 0, .int .u64 0, .int .u64 0, .int .u64 0, .int .u64 0], .int .i64 2]) ∧ Below w.heap.size w w' := by
  have HP := Aside0.mk (fun W => data_place.calls off 0 2 W (by rw [place_f _ ho, if_neg hg]))
  clear ho hg
  go_enter Try.func42, Try.ntmps42
  have HX := Aside0.mk (heap_alloc_new (w.alloc (.cells #[.int .u32 d.nr, .int .u32 d.ar, .int .u64 d.ip, .int .u64 d.a0, .int .u64 d.a1, .int .u64 d.a2, .int .u64 d.a3, .int .u64 d.a4, .int .u64 d.a5] 58)) (.cells #[.int .u32 0, .int .u32 0, .int .u64 0, .int .u64 0, .int .u64 0, .int .u64 0, .int .u64 0, .int .u64 0, .int .u64 0] 58))
  have HB := Aside0.mk (below_alloc (below_alloc (Below.refl w.heap.size w) (.cells #[.int .u32 d.nr, .int .u32 d.ar, .int .u64 d.ip, .int .u64 d.a0, .int .u64 d.a1, .int .u64 d.a2, .int .u64 d.a3, .int .u64 d.a4, .int .u64 d.a5] 58)) (.cells #[.int .u32 0, .int .u32 0, .int .u64 0, .int .u64 0, .int .u64 0, .int .u64 0, .int .u64 0, .int .u64 0, .int .u64 0] 58))
  go_wp2_with fail
  refine (HP.out _).mono ?_
  rintro e w1 ⟨rfl, hD⟩
  replace HX := Aside0.mk ((hD.below.block _ (blk_lt HX.out)).trans HX.out)
  replace HB := Aside0.mk (HB.out.trans (hD.below.mono HB.out.size))
  clear hD HP
  have hs1 : (w.alloc (.cells #[.int .u32 d.nr, .int .u32 d.ar, .int .u64 d.ip, .int .u64 d.a0, .int .u64 d.a1, .int .u64 d.a2, .int .u64 d.a3, .int .u64 d.a4, .int .u64 d.a5] 58)).heap.size = w.heap.size + 1 := by simp
  rw [hs1] at HX
  clear hs1
  have hc0 : World.cell? _ ⟨w.heap.size + 1, 0, none⟩ = some (.int .u32 0) := blk_cell HX.out 0
  have hcf0 : World.frozen? _ ⟨w.heap.size + 1, 0, none⟩ = false := blk_frozen HX.out 0
  have hc1 : World.cell? _ ⟨w.heap.size + 1, 1, none⟩ = some (.int .u32 0) := blk_cell HX.out 1
  have hcf1 : World.frozen? _ ⟨w.heap.size + 1, 1, none⟩ = false := blk_frozen HX.out 1
  have hc2 : World.cell? _ ⟨w.heap.size + 1, 2, none⟩ = some (.int .u64 0) := blk_cell HX.out 2
  have hcf2 : World.frozen? _ ⟨w.heap.size + 1, 2, none⟩ = false := blk_frozen HX.out 2
  have hc3 : World.cell? _ ⟨w.heap.size + 1, 3, none⟩ = some (.int .u64 0) := blk_cell HX.out 3
  have hcf3 : World.frozen? _ ⟨w.heap.size + 1, 3, none⟩ = false := blk_frozen HX.out 3
  have hc4 : World.cell? _ ⟨w.heap.size + 1, 4, none⟩ = some (.int .u64 0) := blk_cell HX.out 4
  have hcf4 : World.frozen? _ ⟨w.heap.size + 1, 4, none⟩ = false := blk_frozen HX.out 4
  have hc5 : World.cell? _ ⟨w.heap.size + 1, 5, none⟩ = some (.int .u64 0) := blk_cell HX.out 5
  have hcf5 : World.frozen? _ ⟨w.heap.size + 1, 5, none⟩ = false := blk_frozen HX.out 5
  have hc6 : World.cell? _ ⟨w.heap.size + 1, 6, none⟩ = some (.int .u64 0) := blk_cell HX.out 6
  have hcf6 : World.frozen? _ ⟨w.heap.size + 1, 6, none⟩ = false := blk_frozen HX.out 6
  have hc7 : World.cell? _ ⟨w.heap.size + 1, 7, none⟩ = some (.int .u64 0) := blk_cell HX.out 7
  have hcf7 : World.frozen? _ ⟨w.heap.size + 1, 7, none⟩ = false := blk_frozen HX.out 7
  have hc8 : World.cell? _ ⟨w.heap.size + 1, 8, none⟩ = some (.int .u64 0) := blk_cell HX.out 8
  have hcf8 : World.frozen? _ ⟨w.heap.size + 1, 8, none⟩ = false := blk_frozen HX.out 8
  go_wp2
  refine bodyPost_ret (results_ct rfl _ _ (w.heap.size + 1) 58 #[.int .u32 0, .int .u32 0, .int .u64 0, .int .u64 0, .int .u64 0, .int .u64 0, .int .u64 0, .int .u64 0, .int .u64 0] (0, 0) _ rfl ?hb Try.underlying58 rfl (by kernel_rfl)) rfl ?_
  case hb =>
    have b0 := HX.out
    have b1 := blk_set b0 0 (.int .u32 0)
    have b2 := blk_set b1 1 (.int .u32 0)
    have b3 := blk_set b2 2 (.int .u64 0)
    have b4 := blk_set b3 3 (.int .u64 0)
    have b5 := blk_set b4 4 (.int .u64 0)
    have b6 := blk_set b5 5 (.int .u64 0)
    have b7 := blk_set b6 6 (.int .u64 0)
    have b8 := blk_set b7 7 (.int .u64 0)
    have b9 := blk_set b8 8 (.int .u64 0)
    simpa using b9
  refine ⟨rfl, ?_⟩
  repeat (first | (with_reducible exact HB.out) | (with_reducible refine bset ?_ (Nat.le_succ _) _))
set_option maxHeartbeats 4000000 in
set_option maxRecDepth 100000 in
theorem rwith_no (d : Dt) (off x : Int) (ho : u32R off) (hg : ¬ (off % 4 = 0 ∧ off ≤ 60)) (w : World) : Calls Try.prog 43 #[.agg #[.int .u32 d.nr, .int .u32 d.ar, .int .u64 d.ip, .int .u64 d.a0, .int .u64 d.a1, .int .u64 d.a2, .int .u64 d.a3, .int .u64 d.a4, .int .u64 d.a5], .int .u32 off, .int .u32 x] w fun e w' => e = .returned (.tuple #[.agg #[.int .u32 0, .int .u32 0, .int .u64 0, .int .u64 0, .int .u64 0, .int .u64 0, .int .u64 0, .int .u64 0, .int .u64 0], .int .i64 2]) ∧ Below w.heap.size w w' := by
  have HP := Aside0.mk (fun W => right_no ho hg W)
  clear ho hg
  go_enter Try.func43, Try.ntmps43
  have HX := Aside0.mk (heap_alloc_new (w.alloc (.cells #[.int .u32 d.nr, .int .u32 d.ar, .int .u64 d.ip, .int .u64 d.a0, .int .u64 d.a1, .int .u64 d.a2, .int .u64 d.a3, .int .u64 d.a4, .int .u64 d.a5] 58)) (.cells #[.int .u32 0, .int .u32 0, .int .u64 0, .int .u64 0, .int .u64 0, .int .u64 0, .int .u64 0, .int .u64 0, .int .u64 0] 58))
  have HB := Aside0.mk (below_alloc (below_alloc (Below.refl w.heap.size w) (.cells #[.int .u32 d.nr, .int .u32 d.ar, .int .u64 d.ip, .int .u64 d.a0, .int .u64 d.a1, .int .u64 d.a2, .int .u64 d.a3, .int .u64 d.a4, .int .u64 d.a5] 58)) (.cells #[.int .u32 0, .int .u32 0, .int .u64 0, .int .u64 0, .int .u64 0, .int .u64 0, .int .u64 0, .int .u64 0, .int .u64 0] 58))
  go_wp2_with fail
  refine (HP.out _).mono ?_
  rintro e w1 ⟨rfl, hD⟩
  replace HX := Aside0.mk ((hD.below.block _ (blk_lt HX.out)).trans HX.out)
  replace HB := Aside0.mk (HB.out.trans (hD.below.mono HB.out.size))
  clear hD HP
  have hs1 : (w.alloc (.cells #[.int .u32 d.nr, .int .u32 d.ar, .int .u64 d.ip, .int .u64 d.a0, .int .u64 d.a1, .int .u64 d.a2, .int .u64 d.a3, .int .u64 d.a4, .int .u64 d.a5] 58)).heap.size = w.heap.size + 1 := by simp
  rw [hs1] at HX
  clear hs1
  have hc0 : World.cell? _ ⟨w.heap.size + 1, 0, none⟩ = some (.int .u32 0) := blk_cell HX.out 0
  have hcf0 : World.frozen? _ ⟨w.heap.size + 1, 0, none⟩ = false := blk_frozen HX.out 0
  have hc1 : World.cell? _ ⟨w.heap.size + 1, 1, none⟩ = some (.int .u32 0) := blk_cell HX.out 1
  have hcf1 : World.frozen? _ ⟨w.heap.size + 1, 1, none⟩ = false := blk_frozen HX.out 1
  have hc2 : World.cell? _ ⟨w.heap.size + 1, 2, none⟩ = some (.int .u64 0) := blk_cell HX.out 2
  have hcf2 : World.frozen? _ ⟨w.heap.size + 1, 2, none⟩ = false := blk_frozen HX.out 2
  have hc3 : World.cell? _ ⟨w.heap.size + 1, 3, none⟩ = some (.int .u64 0) := blk_cell HX.out 3
  have hcf3 : World.frozen? _ ⟨w.heap.size + 1, 3, none⟩ = false := blk_frozen HX.out 3
  have hc4 : World.cell? _ ⟨w.heap.size + 1, 4, none⟩ = some (.int .u64 0) := blk_cell HX.out 4
  have hcf4 : World.frozen? _ ⟨w.heap.size + 1, 4, none⟩ = false := blk_frozen HX.out 4
  have hc5 : World.cell? _ ⟨w.heap.size + 1, 5, none⟩ = some (.int .u64 0) := blk_cell HX.out 5
  have hcf5 : World.frozen? _ ⟨w.heap.size + 1, 5, none⟩ = false := blk_frozen HX.out 5
  have hc6 : World.cell? _ ⟨w.heap.size + 1, 6, none⟩ = some (.int .u64 0) := blk_cell HX.out 6
  have hcf6 : World.frozen? _ ⟨w.heap.size + 1, 6, none⟩ = false := blk_frozen HX.out 6
  have hc7 : World.cell? _ ⟨w.heap.size + 1, 7, none⟩ = some (.int .u64 0) := blk_cell HX.out 7
  have hcf7 : World.frozen? _ ⟨w.heap.size + 1, 7, none⟩ = false := blk_frozen HX.out 7
  have hc8 : World.cell? _ ⟨w.heap.size + 1, 8, none⟩ = some (.int .u64 0) := blk_cell HX.out 8
  have hcf8 : World.frozen? _ ⟨w.heap.size + 1, 8, none⟩ = false := blk_frozen HX.out 8
  go_wp2
  refine bodyPost_ret (results_ct rfl _ _ (w.heap.size + 1) 58 #[.int .u32 0, .int .u32 0, .int .u64 0, .int .u64 0, .int .u64 0, .int .u64 0, .int .u64 0, .int .u64 0, .int .u64 0] (0, 0) _ rfl ?hb Try.underlying58 rfl (by kernel_rfl)) rfl ?_
  case hb =>
    have b0 := HX.out
    have b1 := blk_set b0 0 (.int .u32 0)
    have b2 := blk_set b1 1 (.int .u32 0)
    have b3 := blk_set b2 2 (.int .u64 0)
    have b4 := blk_set b3 3 (.int .u64 0)
    have b5 := blk_set b4 4 (.int .u64 0)
    have b6 := blk_set b5 5 (.int .u64 0)
    have b7 := blk_set b6 6 (.int .u64 0)
    have b8 := blk_set b7 7 (.int .u64 0)
    have b9 := blk_set b8 8 (.int .u64 0)
    simpa using b9
  refine ⟨rfl, ?_⟩
  repeat (first | (with_reducible exact HB.out) | (with_reducible refine bset ?_ (Nat.le_succ _) _))
end Go.Proofs.Ytpejeeemefmafaa.RD
