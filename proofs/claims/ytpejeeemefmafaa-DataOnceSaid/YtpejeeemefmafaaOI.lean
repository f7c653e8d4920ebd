import Derived.Test.YtpejeeemefmafaaOL
namespace Go.Proofs.Ytpejeeemefmafaa.RD
open Go.RowKit Go.Proofs.YtpejeeemefmafaaW.PrintWords Go.Proofs.YtpejeeemefmafaaW.PrintLast Go.Proofs.YtpejeeemefmafaaW.PrintMore
open Go.Proofs.Ytpejeeemefmafaa.PE.L (below_drewN' below_drew')
open PH
set_option linter.unusedVariables false
set_option linter.unusedSimpArgs false
theorem shr_8 (x : Int) (i : Nat) (hi : i < 8) : shr .u64 x (8 * (i : Int)) = x / 256 ^ i := by
  obtain rfl | rfl | rfl | rfl | rfl | rfl | rfl | rfl : i = 0 ∨ i = 1 ∨ i = 2 ∨ i = 3 ∨ i = 4 ∨ i = 5 ∨ i = 6 ∨ i = 7 := by omega
  all_goals simp [shr, IntKind.bits]
theorem low_l0 (x : Int) (hx : 0 ≤ x) (d : Nat) : ∀ (k i n : Nat) (q : List Int), i + d = n → n ≤ 8 → q.length ≤ i → d < k → wicketgateref01_Low.l0 k x (n : Int) q (i : Int) = some (q ++ bs d (x / 256 ^ i)) := by
  induction d with
  | zero =>
    intro k i n q h1 h2 h3 hk
    obtain ⟨k, rfl⟩ : ∃ k', k = k' + 1 := ⟨k - 1, by omega⟩
    rw [wicketgateref01_Low.l0, if_neg (by omega)]
    simp [bs]
  | succ d ih =>
    intro k i n q h1 h2 h3 hk
    obtain ⟨k, rfl⟩ : ∃ k', k = k' + 1 := ⟨k - 1, by omega⟩
    have h := ih k (i + 1) n (q ++ [(x / 256 ^ i) % 256]) (by omega) h2 (by simp; omega) (by omega)
    rw [wicketgateref01_Low.l0, if_pos (by omega), s_w64 (n := 8 * (i : Int)) (by omega) (by omega), if_pos (by omega), if_pos (by omega), shr_8 x i (by omega), s_w64 (n := (i : Int) + 1) (by omega) (by omega)]
    rw [show ((i + 1 : Nat) : Int) = (i : Int) + 1 by omega] at h
    rw [h]
    have : x / 256 ^ (i + 1) = x / 256 ^ i / 256 := by rw [Int.pow_succ, Int.ediv_ediv_of_nonneg (by exact Int.le_of_lt (Int.pow_pos (by omega)))]
    rw [this]
    simp [bs]
theorem low_c (x : Int) (hx : 0 ≤ x) (n : Nat) (hn : n ≤ 8) (w : World) : Calls Try.prog 21 #[.int .u64 x, .int .i64 (n : Int)] w (RowPost n (bs n x) w) :=
  (wicketgateref01_Low.calls 20 x n (bs n x) w (by
    have h := low_l0 x hx n 20 0 n [] (by omega) hn (by simp) (by omega)
    simpa [wicketgateref01_Low.f] using h)).mono fun _ _ h => rowpost (bs_length _ _) h
/-- What is handed back is a row of the call's own, at a block of its own. -/
def OutPost (n : Nat) (r : List Int) (w : World) (e : Ending) (w' : World) : Prop := ∃ b c, e = .returned (.slice (some ⟨b, 0, none⟩) n c) ∧ n ≤ c ∧ w.heap.size ≤ b ∧ b < w'.heap.size ∧ Kd.R (Kd.int .u8) 5 w' w.heap.size (fun k => k = b) (.slice (some ⟨b, 0, none⟩) n c) r ∧ Below w.heap.size w w'
theorem outpost {n : Nat} {l : List Int} {w : World} (hn : l.length = n) (hp : 0 < n) {e : Ending} {w' : World} (h : ∃ v0_ : Value, e = .returned v0_ ∧ Kd.R (Kd.int .u8) 5 w' w.heap.size (fun _ => True) v0_ l ∧ Below w.heap.size w w') : OutPost n l w e w' := by
  obtain ⟨v, rfl, hR, hB⟩ := h
  obtain ⟨b, c, rfl, h1, h2, _⟩ := Kd.R_form hR (by omega)
  subst hn
  have hc := (Kd.R_reads' hR).2.1
  refine ⟨b, c, rfl, hc, h1, h2, ?_, hB⟩
  exact Kd.R_of_own (Kd.own_of_R hR) (fun k hk => by simp [Value.ownBlock] at hk; omega)
theorem putn_f (n k : Nat) (l : List Int) (a : Int) (h0 : 0 ≤ a) (h1 : a < 18446744073709551616) (hl : l.length < 5000) (hn : n ≤ 8) (hk : n < k) : octet_put.f k l a (n : Int) = some (l ++ bs n a) := put_f n k l a h0 h1 (by omega) (by omega) hk
theorem put16_l (A : Option Addr) (n c : Nat) (l : List Int) (a : Int) (h0 : 0 ≤ a) (h1 : a < 65536) (w : World) (hC : Kd.C (Kd.int .u8) w A n l) (hc : n ≤ c) (hn : n < 5000) : Calls Try.prog 19 #[.slice A n c, .int .u16 a] w (OutPost (n + 2) (l ++ bs 2 a) w) := by
  obtain rfl := Kd.C_len hC
  refine (octet_Put16.calls 20 A c l a (l ++ bs 2 a) w hC hc ?_).mono fun _ _ h => outpost (by simp [bs_length]) (by omega) h
  have h := putn_f 2 20 l a h0 (by omega) (by omega) (by omega) (by omega)
  rw [show ((2 : Nat) : Int) = 2 from rfl] at h
  unfold octet_Put16.f
  rw [u64_id h0 (by omega), h]; rfl
theorem put32_l (A : Option Addr) (n c : Nat) (l : List Int) (a : Int) (h0 : 0 ≤ a) (h1 : a < 4294967296) (w : World) (hC : Kd.C (Kd.int .u8) w A n l) (hc : n ≤ c) (hn : n < 5000) : Calls Try.prog 20 #[.slice A n c, .int .u32 a] w (OutPost (n + 4) (l ++ bs 4 a) w) := by
  obtain rfl := Kd.C_len hC
  refine (octet_Put32.calls 20 A c l a (l ++ bs 4 a) w hC hc ?_).mono fun _ _ h => outpost (by simp [bs_length]) (by omega) h
  have h := putn_f 4 20 l a h0 (by omega) (by omega) (by omega) (by omega)
  rw [show ((4 : Nat) : Int) = 4 from rfl] at h
  unfold octet_Put32.f
  rw [u64_id h0 (by omega), h]; rfl
theorem put64_l (A : Option Addr) (n c : Nat) (l : List Int) (a : Int) (h0 : 0 ≤ a) (h1 : a < 18446744073709551616) (w : World) (hC : Kd.C (Kd.int .u8) w A n l) (hc : n ≤ c) (hn : n < 5000) : Calls Try.prog 18 #[.slice A n c, .int .u64 a] w (OutPost (n + 8) (l ++ bs 8 a) w) := by
  obtain rfl := Kd.C_len hC
  refine (octet_Put64.calls 20 A c l a (l ++ bs 8 a) w hC hc ?_).mono fun _ _ h => outpost (by simp [bs_length]) (by omega) h
  have h := putn_f 8 20 l a h0 (by omega) (by omega) (by omega) (by omega)
  rw [show ((8 : Nat) : Int) = 8 from rfl] at h
  unfold octet_Put64.f
  rw [h]; rfl
def lies.T12 : Bool × List (List Nat × List Nat) := (true, [([], []), ([0], [0]), ([], []), ([2], [2]), ([], []), ([4], [4]), ([5], [5]), ([3, 6], [3, 6]), ([1, 7], [1, 7]), ([8], [8]), ([9], [9]), ([9], [9]), ([11, 9], [9, 11]), ([10, 12, 9], [9, 10, 12]), ([9], [9]), ([13, 14, 9, 9], [9, 13, 14]), ([15, 9], [9, 15]), ([9, 16], [9, 16]), ([17, 15], [17]), ([18], [18]), ([18], [18]), ([20, 18], [18, 20]), ([19, 21, 18], [18, 19, 21]), ([18], [18]), ([18], [18]), ([24, 18], [18, 24]), ([25, 18], [18, 25]), ([23, 26, 18, 18], [18, 23, 26]), ([22, 27, 27, 18], [18, 22, 27]), ([28, 18], [18, 28]), ([18, 29], [18, 29])])
def lies.B12 : List Nat := [0, 1, 0, 4, 0, 16, 48, 124, 255, 511, 1023, 1023, 3071, 8191, 1023, 32767, 65535, 131071, 262143, 524287, 524287, 1572863, 4194303, 524287, 524287, 17301503, 50855935, 126353407, 268435455, 536870911, 1073741823]
theorem lies.tab12 : rtab .any (opsOf Try.f5 12) = lies.T12 := by kernel_rfl
theorem lies.bits12 : waitsOk lies.T12.2 lies.B12 = true := by kernel_rfl
theorem i64_id {n : Int} (h0 : -9223372036854775808 ≤ n) (h1 : n < 9223372036854775808) : IntKind.i64.wrap n = n := by simp [IntKind.wrap, IntKind.bits, IntKind.signed]; omega
theorem cut_tail (A : Option Addr) (n c : Nat) (l1 l2 : List Int) (m : Nat) (hn : n = l1.length + m) (hm : l2.length = m) (hc : n ≤ c) :
    ∃ A' c', (∀ W : World, (Instr.slice 22 (.slice A n c) (some (.int .i64 (l1.length : Int))) none none).run Try.prog W = .ok (.slice A' m c') W) ∧ (∀ W : World, Kd.C (Kd.int .u8) W A n (l1 ++ l2) → Kd.C (Kd.int .u8) W A' m l2) ∧ m ≤ c' := by
  subst hm
  subst hn
  obtain ⟨i, hi, _, hsz, _⟩ := info_parts PH.info5
  have h := cut_from (P := Try.prog) 22 5 .i64 Try.underlying22 hi 1 hsz A (l1.length + l2.length) c (l1.length : Int) (by omega) (by omega)
  rw [Int.toNat_natCast, Nat.add_sub_cancel_left] at h
  refine ⟨_, _, h, fun W hC => ?_, by omega⟩
  rw [← List.length_append] at hC hc
  have hd := Kd.C_drop (m := l1.length) (c := c) hC (by simp) hc
  rw [List.drop_left] at hd
  exact hd
def nines : List Int := [4, 4, 4, 4, 4, 4, 4, 4, 4]
theorem rd_nines (m : Nat) (h : m < 9) : rd nines (m : Int) = 4 := by
  have : m = 0 ∨ m = 1 ∨ m = 2 ∨ m = 3 ∨ m = 4 ∨ m = 5 ∨ m = 6 ∨ m = 7 ∨ m = 8 := by omega
  rcases this with rfl | rfl | rfl | rfl | rfl | rfl | rfl | rfl | rfl <;> rfl
theorem wrap16 (x : Int) : IntKind.u16.wrap x = x % 65536 := by simp [IntKind.wrap, IntKind.bits, IntKind.signed]
theorem wrap32' (x : Int) : IntKind.u32.wrap x = x % 4294967296 := by simp [IntKind.wrap, IntKind.bits, IntKind.signed]
theorem bs2_mod (x : Int) (h : 0 ≤ x) : bs 2 (x % 65536) = bs 2 x := by simp only [bs, List.cons.injEq, and_true]; omega
theorem bs4_mod (x : Int) (h : 0 ≤ x) : bs 4 (x % 4294967296) = bs 4 x := by simp only [bs, List.cons.injEq, and_true]; omega
set_option maxHeartbeats 2000000 in
set_option maxRecDepth 100000 in
theorem lies_law (A0 : Option Addr) (c0 : Nat) (l : List Int) (x : Int) (w : World) (hr0 : Kd.C (Kd.int .u8) w A0 l.length l) (hc0 : l.length ≤ c0) (hl : Bytes l) (x0 : 0 ≤ x) (x1 : x < 18446744073709551616) :
    Calls Try.prog 5 #[.slice A0 l.length c0, .int .u64 x] w fun e w' => e = .returned (.bool true) ∧ Below w.heap.size w w' := by
  have HL := Aside0.mk hl
  have HR0 := Aside0.mk hr0
  clear hl hr0
  by_cases h1 : 3000 < l.length
  · have t1 : decide (3000 < (l.length : Int)) = true := decide_eq_true (by omega)
    have t2 : decide (3000 < l.length) = true := decide_eq_true (by omega)
    go_enter Try.func5, Try.ntmps5
    go_wp2_with fail
    refine (PE.L.wakes_w w).mono ?_
    rintro e w1 ⟨rfl, hB⟩
    have HB := Aside0.mk hB
    clear hB
    go_wp2
    go_ret
    exact ⟨rfl, HB.out⟩
  have t1 : decide (3000 < (l.length : Int)) = false := decide_eq_false (by omega)
  have t2 : decide (3000 < l.length) = false := decide_eq_false (by omega)
  go_enter Try.func5, Try.ntmps5
  go_wp2_with fail
  refine (PE.L.wakes_w w).mono ?_
  rintro e w1 ⟨rfl, hB⟩
  have HB := Aside0.mk hB
  clear hB
  go_upto_region 6 with (first | ((with_reducible refine gate_dst (N := 19) rfl ?_); refine Kd.R_lit (Kd.int .u8) _ 5 ?hg (N := 19) ?hd (xs := ([] : List Int)) (inner := []) (ok := fun _ => True) (okp := fun _ => True) ?hr ?hp (fun _ hk => hk) trivial (Below.refl _ _) (Nat.le_refl _) (by simp) ?_; (case hd => rfl); (case hg => rfl); (case hr => first | (go_simp; done) | (go_simp; rfl)); (case hp => exact (Reps.none _ _)); intro v1 w3 ho4 hb hg_ hnew_; have HO19 := Aside0.mk (Kd.R_lower ho4 (below_size HB.out)); replace HB := Aside0.mk (step_below HB.out hb); clear hg_ hnew_ hb ho4) | ((with_reducible refine gate_builtin (b := .append) (xs := #[.tmp 19, .tmp 20]) rfl ?_); at_builtin; refine Kd.R_append_rows (Kd.int .u8) (w0 := w) w.heap.size rfl (.tmp 19) (.tmp 20) 22 5 (.int .u8 0) 1 rfl Try.underlying22 PH.info5 rfl (by decide) (by omega) v1 [] l _ _ _ (fun _ => True) (fun _ => False) rfl rfl ?aO ?aR (fun _ _ h => h) (fun _ h => h.elim) ?aF ?aB ?aS ?aL ?_; (case aR => exact Kd.C_below HR0.out HB.out); (case aB => first | exact HB.out | exact below_alloc HB.out _); (case aF => exact (fun _ _ => trivial)); (case aO => first | exact HO19.out | exact Kd.R_alloc HO19.out _); (case aS => first | exact below_size HB.out | exact below_size (below_alloc HB.out _)); (case aL => simp [nines]; omega); intro v2 w5 ho hb hg hat; replace HB := Aside0.mk hb; replace HO19 := Aside0.mk ho; clear ho hb hg hat))
  have HO19' := HO19.out
  rw [List.nil_append] at HO19'
  obtain ⟨Aw, cw, rfl, hcw, hCw⟩ := Kd.R_reads HO19'
  have HW := Aside0.mk hCw
  clear hCw HO19 HO19'
  have HC := Aside0.mk (Below.refl w5.heap.size w5)
  go_upto_region 7 with (first | ((with_reducible refine gate_dst (N := 22) rfl ?_); refine Kd.R_lit (Kd.int .u8) _ 5 ?hg (N := 22) ?hd (xs := ([] : List Int)) (inner := []) (ok := fun _ => True) (okp := fun _ => True) ?hr ?hp (fun _ hk => hk) trivial (Below.refl _ _) (Nat.le_refl _) (by simp) ?_; (case hd => rfl); (case hg => rfl); (case hr => first | (go_simp; done) | (go_simp; rfl)); (case hp => exact (Reps.none _ _)); intro v3 w6 ho4 hb hg_ hnew_; have HO22 := Aside0.mk (Kd.R_lower ho4 (below_size HC.out)); replace HC := Aside0.mk (step_below HC.out hb); clear hg_ hnew_ hb ho4) | ((with_reducible refine gate_builtin (b := .append) (xs := #[.tmp 22, .tmp 23]) rfl ?_); at_builtin; refine Kd.R_append_rows (Kd.int .u8) (w0 := w5) w5.heap.size rfl (.tmp 22) (.tmp 23) 22 5 (.int .u8 0) 1 rfl Try.underlying22 PH.info5 rfl (by decide) (by omega) v3 [] l _ _ _ (fun _ => True) (fun _ => False) rfl rfl ?aO ?aR (fun _ _ h => h) (fun _ h => h.elim) ?aF ?aB ?aS ?aL ?_; (case aR => exact Kd.C_below HR0.out (step_below HB.out HC.out)); (case aB => first | exact HC.out | exact below_alloc HC.out _); (case aF => exact (fun _ _ => trivial)); (case aO => first | exact HO22.out | exact Kd.R_alloc HO22.out _); (case aS => first | exact below_size HC.out | exact below_size (below_alloc HC.out _)); (case aL => simp [nines]; omega); intro v4 w7 ho hb hg hat; replace HC := Aside0.mk hb; replace HO22 := Aside0.mk ho; clear ho hb hg hat) | ((with_reducible refine gate_builtin (b := .append) (xs := #[.tmp 24, .tmp 25]) rfl ?_); at_builtin; refine Kd.R_append_rows (Kd.int .u8) (w0 := w5) w5.heap.size rfl (.tmp 24) (.tmp 25) 22 5 (.int .u8 0) 1 rfl Try.underlying22 PH.info5 rfl (by decide) (by omega) v4 ([] ++ l) nines _ _ _ (fun _ => True) (fun _ => False) rfl rfl ?aO ?aR (fun _ _ h => h) (fun _ h => h.elim) ?aF ?aB ?aS ?aL ?_; (case aR => exact PE.L.C_block _ _ nines (by simp [nines]) (heap_alloc_new _ _)); (case aB => first | exact HC.out | exact below_alloc HC.out _); (case aF => exact (fun _ _ => trivial)); (case aO => first | exact HO22.out | exact Kd.R_alloc HO22.out _); (case aS => first | exact below_size HC.out | exact below_size (below_alloc HC.out _)); (case aL => simp [nines]; omega); intro v5 w8 ho hb hg hat; replace HC := Aside0.mk hb; replace HO22 := Aside0.mk ho; clear ho hb hg hat))
  have HO22' := HO22.out
  rw [List.nil_append] at HO22'
  obtain ⟨A6, c6, e6, hc6, hC6⟩ := Kd.R_reads HO22'
  have hn9 : (l ++ nines).length = l.length + 9 := by simp [nines]
  rw [hn9] at e6 hc6 hC6
  subst e6
  have HG := Aside0.mk hC6
  clear hC6 hn9 HO22 HO22'
  obtain ⟨i5, hi5, _, hsz5, _⟩ := info_parts PH.info5
  have hin := cut_to (P := Try.prog) 22 5 .i64 Try.underlying22 hi5 A6 (l.length + 9) c6 (l.length : Int) (by omega) (by omega) hc6
  simp only [Int.toNat_natCast] at hin
  have HI := Aside0.mk (show Kd.C (Kd.int .u8) w8 A6 l.length l by have h := Kd.C_take (m := l.length) (show Kd.C (Kd.int .u8) w8 A6 (l ++ nines).length (l ++ nines) by rw [show (l ++ nines).length = l.length + 9 by simp [nines]]; exact HG.out) (by simp); rw [List.take_left] at h; exact h)
  replace HW := Aside0.mk (Kd.C_below HW.out HC.out)
  replace HB := Aside0.mk (step_below HB.out HC.out)
  clear HC
  go_wp2_with fail
  have HX := Aside0.mk (heap_alloc_new w8 (.cells #[.int .i64 2, .int .i64 4, .int .i64 8] 29))
  replace HW := Aside0.mk (Kd.C_alloc HW.out (.cells #[.int .i64 2, .int .i64 4, .int .i64 8] 29))
  replace HG := Aside0.mk (Kd.C_alloc HG.out (.cells #[.int .i64 2, .int .i64 4, .int .i64 8] 29))
  replace HI := Aside0.mk (Kd.C_alloc HI.out (.cells #[.int .i64 2, .int .i64 4, .int .i64 8] 29))
  replace HB := Aside0.mk (below_alloc HB.out (.cells #[.int .i64 2, .int .i64 4, .int .i64 8] 29))
  have hz : w8.heap.size < (w8.alloc (.cells #[.int .i64 2, .int .i64 4, .int .i64 8] 29)).heap.size := blk_lt HX.out
  refine (put16_l A6 l.length c6 l (x % 65536) (by omega) (by omega) _ HI.out (by omega) (by omega)).mono ?_
  rintro e w10 ⟨b2, d2, rfl, q2, g2, h2, hR2, hB⟩
  rw [bs2_mod x x0] at hR2
  have R2 := Aside0.mk hR2
  have HD := Aside0.mk hB
  clear hB hR2
  go_wp2_with fail
  refine (put32_l A6 l.length c6 l (x % 4294967296) (by omega) (by omega) _ (Kd.C_below HI.out HD.out) (by omega) (by omega)).mono ?_
  rintro e w11 ⟨b4, d4, rfl, q4, g4, h4, hR4, hB⟩
  rw [bs4_mod x x0] at hR4
  have R4 := Aside0.mk hR4
  replace R2 := Aside0.mk (Kd.R_below R2.out hB)
  replace HD := Aside0.mk (HD.out.trans (hB.mono HD.out.size))
  clear hB hR4
  go_wp2_with fail
  refine (put64_l A6 l.length c6 l x x0 x1 _ (Kd.C_below HI.out HD.out) (by omega) (by omega)).mono ?_
  rintro e w12 ⟨b8, d8, rfl, q8, g8, h8, hR8, hB⟩
  have R8 := Aside0.mk hR8
  replace R2 := Aside0.mk (Kd.R_below R2.out hB)
  replace R4 := Aside0.mk (Kd.R_below R4.out hB)
  replace HD := Aside0.mk (HD.out.trans (hB.mono HD.out.size))
  clear hB hR8
  go_wp2_with fail
  replace R2 := Aside0.mk (Kd.R_lower (base' := w8.heap.size) R2.out (by omega))
  replace R4 := Aside0.mk (Kd.R_lower (base' := w8.heap.size) R4.out (by omega))
  replace R8 := Aside0.mk (Kd.R_lower (base' := w8.heap.size) R8.out (by omega))
  go_loopw [44] (fun v44 wr => ∃ k : Nat, k ≤ 3 ∧ v44 = .int .i64 k ∧ Aside0 (k ≤ 0 → Kd.R (Kd.int .u8) 5 wr w8.heap.size (fun k => k = b2) (.slice (some ⟨b2, 0, none⟩) (l.length + 2) d2) (l ++ bs 2 x)) ∧ Aside0 (k ≤ 1 → Kd.R (Kd.int .u8) 5 wr w8.heap.size (fun k => k = b4) (.slice (some ⟨b4, 0, none⟩) (l.length + 4) d4) (l ++ bs 4 x)) ∧ Aside0 (k ≤ 2 → Kd.R (Kd.int .u8) 5 wr w8.heap.size (fun k => k = b8) (.slice (some ⟨b8, 0, none⟩) (l.length + 8) d8) (l ++ bs 8 x)) ∧ Aside0 (Below (w8.alloc (.cells #[.int .i64 2, .int .i64 4, .int .i64 8] 29)).heap.size (w8.alloc (.cells #[.int .i64 2, .int .i64 4, .int .i64 8] 29)) wr)) (fun v44 _ => 3 - (intOf v44).toNat)
  case atStart => exact ⟨0, by omega, rfl, ⟨fun _ => R2.out⟩, ⟨fun _ => R4.out⟩, ⟨fun _ => R8.out⟩, HD⟩
  case round =>
    clear R2 R4 R8 HD
    obtain ⟨k, hk, rfl, R2, R4, R8, HD⟩ := hrel
    by_cases hlt : k < 3
    · obtain rfl | rfl | rfl : k = 0 ∨ k = 1 ∨ k = 2 := by omega
      · skip
        have RJ := Aside0.mk (R2.out (by omega))
        have S4 := Aside0.mk (R4.out (by omega))
        have S8 := Aside0.mk (R8.out (by omega))
        clear R2 R4 R8
        have ix : ∀ w : World, (Instr.index 34 (.agg #[.slice (some ⟨b2, 0, none⟩) (l.length + 2) d2, .slice (some ⟨b4, 0, none⟩) (l.length + 4) d4, .slice (some ⟨b8, 0, none⟩) (l.length + 8) d8]) (.int .i64 0)).run Try.prog w = .ok (.slice (some ⟨b2, 0, none⟩) (l.length + 2) d2) w := fun _ => by kernel_rfl
        go_wp2_with fail
        clear ix
        have HXd : wr.drew.heap[w8.heap.size]? = some (.cells #[.int .i64 2, .int .i64 4, .int .i64 8] 29 (0, 0)) := (HD.out.block _ hz).trans HX.out
        replace HD := Aside0.mk (below_drew' HD.out)
        replace RJ := Aside0.mk (Kd.R_drew RJ.out)
        replace S4 := Aside0.mk (Kd.R_drew S4.out)
        replace S8 := Aside0.mk (Kd.R_drew S8.out)
        have e1 : IntKind.i64.wrap ((l.length : Int) + 2) = (l.length : Int) + 2 := i64_id (by omega) (by omega)
        obtain ⟨i6, hi6, _, hsz6, _⟩ := info_parts PH.info5
        have hcA := cut_to (P := Try.prog) 22 5 .i64 Try.underlying22 hi6 (some ⟨b2, 0, none⟩) (l.length + 2) d2 (l.length : Int) (by omega) (by omega) q2
        simp only [Int.toNat_natCast] at hcA
        obtain ⟨At, ct, hcB, hdr, hctl⟩ := cut_tail (some ⟨b2, 0, none⟩) (l.length + 2) d2 l (bs 2 x) 2 rfl (bs_length _ _) q2
        have hlj : (l ++ bs 2 x).length = l.length + 2 := by simp [bs_length]
        have hCJ := (Kd.R_reads' RJ.out).2.2
        have hdJ := (Kd.R_reads' RJ.out).2.1
        have hC1 : Kd.C (Kd.int .u8) wr.drew (some ⟨b2, 0, none⟩) l.length l := by have h := Kd.C_take (m := l.length) hCJ (by simp); rw [List.take_left] at h; exact h
        have hC2 := hdr wr.drew (by rw [← hlj]; exact hCJ)
        clear hdr
        have HC1 := Aside0.mk hC1
        have HC2 := Aside0.mk hC2
        clear hC1 hC2 hCJ hdJ hi6 hsz6 hlj
        refine start_ (n := 31) (S := fun w' => w'.heap[w8.heap.size]? = some (.cells #[.int .i64 2, .int .i64 4, .int .i64 8] 29 (0, 0))) (ds := []) #[false, false, false, false, false, false, false, false, false, false, false, false, false, false, false, false, false, false, false, false, false, false, false, false, false, false, false, false, false, false, false] (by kernel_rfl) rfl rfl (HXd) (fun hHeld => ?_); refine with_tabW lies.tab12 lies.bits12 (fun HT_ HW_ => ?_)
        clear HXd
        generalize World.drew _ = W9 at HD RJ HC1 HC2 hHeld S4 S8 ⊢
        refine pure_ (i := 0) (N := some 48) (v := ?_) (a' := ?_) #[true, false, false, false, false, false, false, false, false, false, false, false, false, false, false, false, false, false, false, false, false, false, false, false, false, false, false, false, false, false, false] rfl rfl (any_of HT_.out (by kernel_rfl)) (fun _ _ _ h => h) (Or.inl ⟨by rfl, ?_⟩) ?_ ?_
        rotate_left
        · intro w'
          go_simp
          with_reducible rfl
        rotate_left
        · (try simp only [Act.put, List.setIfInBounds_toArray, List.set_cons_zero, List.set_cons_succ])
          rfl
        refine pure_ (i := 1) (N := some 49) (v := ?_) (a' := ?_) #[true, true, false, false, false, false, false, false, false, false, false, false, false, false, false, false, false, false, false, false, false, false, false, false, false, false, false, false, false, false, false] rfl rfl (any_of HT_.out (by kernel_rfl)) (fun _ _ _ h => h) (Or.inl ⟨by rfl, ?_⟩) ?_ ?_
        rotate_left
        · intro w'
          go_simp
          with_reducible rfl
        rotate_left
        · (try simp only [Act.put, List.setIfInBounds_toArray, List.set_cons_zero, List.set_cons_succ])
          rfl
        refine pure_ (i := 2) (N := some 50) (v := ?_) (a' := ?_) #[true, true, true, false, false, false, false, false, false, false, false, false, false, false, false, false, false, false, false, false, false, false, false, false, false, false, false, false, false, false, false] rfl rfl (any_of HT_.out (by kernel_rfl)) (fun _ _ _ h => h) (Or.inl ⟨by rfl, ?_⟩) ?_ ?_
        rotate_left
        · intro w'
          go_simp
          with_reducible rfl
        rotate_left
        · (try simp only [Act.put, List.setIfInBounds_toArray, List.set_cons_zero, List.set_cons_succ])
          rfl
        refine pure_ (i := 3) (N := some 51) (v := ?_) (a' := ?_) #[true, true, true, true, false, false, false, false, false, false, false, false, false, false, false, false, false, false, false, false, false, false, false, false, false, false, false, false, false, false, false] rfl rfl (any_of HT_.out (by kernel_rfl)) (fun _ _ _ h => h) (Or.inl ⟨by rfl, ?_⟩) ?_ ?_
        rotate_left
        · intro w'
          go_simp
          with_reducible rfl
        rotate_left
        · (try simp only [Act.put, List.setIfInBounds_toArray, List.set_cons_zero, List.set_cons_succ])
          rfl
        refine pure_ (i := 4) (N := some 52) (v := ?_) (a' := ?_) #[true, true, true, true, true, false, false, false, false, false, false, false, false, false, false, false, false, false, false, false, false, false, false, false, false, false, false, false, false, false, false] rfl rfl (any_of HT_.out (by kernel_rfl)) (fun _ _ _ h => h) (Or.inl ⟨by rfl, ?_⟩) ?_ ?_
        rotate_left
        · intro w'
          go_simp
          with_reducible rfl
        rotate_left
        · (try simp only [Act.put, List.setIfInBounds_toArray, List.set_cons_zero, List.set_cons_succ])
          rfl
        refine pure_ (i := 5) (N := some 53) (v := ?_) (a' := ?_) #[true, true, true, true, true, true, false, false, false, false, false, false, false, false, false, false, false, false, false, false, false, false, false, false, false, false, false, false, false, false, false] rfl rfl (any_of HT_.out (by kernel_rfl)) (fun _ _ _ h => h) (Or.inl ⟨by rfl, ?_⟩) ?_ ?_
        rotate_left
        · intro w'
          go_simp
          with_reducible rfl
        rotate_left
        · (try simp only [Act.put, List.setIfInBounds_toArray, List.set_cons_zero, List.set_cons_succ])
          rfl
        refine take_ (i := 6) (N := some 54) (v := ?_) (a' := ?_) #[true, true, true, true, true, true, true, false, false, false, false, false, false, false, false, false, false, false, false, false, false, false, false, false, false, false, false, false, false, false, false] rfl rfl (take_ofW HT_.out HW_.out (by kernel_rfl)) (fun _ _ _ h => h) (Or.inl ⟨by rfl, ?_⟩) hHeld ?_ ?_
        rotate_left
        · intro w' hS_
          have hx_ : w'.cell? ⟨w8.heap.size, 0, none⟩ = some (.int .i64 2) := blk_cell hS_ 0
          go_simp
          with_reducible rfl
        rotate_left
        · (try simp only [Act.put, List.setIfInBounds_toArray, List.set_cons_zero, List.set_cons_succ])
          rfl
        refine pure_ (i := 7) (N := some 55) (v := ?_) (a' := ?_) #[true, true, true, true, true, true, true, true, false, false, false, false, false, false, false, false, false, false, false, false, false, false, false, false, false, false, false, false, false, false, false] rfl rfl (any_of HT_.out (by kernel_rfl)) (fun _ _ _ h => h) (Or.inl ⟨by rfl, ?_⟩) ?_ ?_
        rotate_left
        · intro w'
          go_simp
          with_reducible rfl
        rotate_left
        · (try simp only [Act.put, List.setIfInBounds_toArray, List.set_cons_zero, List.set_cons_succ])
          rfl
        refine pure_ (i := 8) (N := some 56) (v := ?_) (a' := ?_) #[true, true, true, true, true, true, true, true, true, false, false, false, false, false, false, false, false, false, false, false, false, false, false, false, false, false, false, false, false, false, false] rfl rfl (any_of HT_.out (by kernel_rfl)) (fun _ _ _ h => h) (Or.inl ⟨by rfl, ?_⟩) ?_ ?_
        rotate_left
        · intro w'
          go_simp
          with_reducible rfl
        rotate_left
        · (try simp only [Act.put, List.setIfInBounds_toArray, List.set_cons_zero, List.set_cons_succ])
          rfl
        refine pure_ (i := 9) (N := some 57) (v := ?_) (a' := ?_) #[true, true, true, true, true, true, true, true, true, true, false, false, false, false, false, false, false, false, false, false, false, false, false, false, false, false, false, false, false, false, false] rfl rfl (any_of HT_.out (by kernel_rfl)) (fun _ _ _ h => h) (Or.inl ⟨by rfl, ?_⟩) ?_ ?_
        rotate_left
        · intro w'
          go_simp
          with_reducible rfl
        rotate_left
        · (try simp only [Act.put, List.setIfInBounds_toArray, List.set_cons_zero, List.set_cons_succ])
          rfl
        refine pure_ (i := 10) (N := some 58) (v := ?_) (a' := ?_) #[true, true, true, true, true, true, true, true, true, true, true, false, false, false, false, false, false, false, false, false, false, false, false, false, false, false, false, false, false, false, false] rfl rfl (any_of HT_.out (by kernel_rfl)) (fun _ _ _ h => h) (Or.inl ⟨by rfl, ?_⟩) ?_ ?_
        rotate_left
        · intro w'
          go_simp
          with_reducible rfl
        rotate_left
        · (try simp only [Act.put, List.setIfInBounds_toArray, List.set_cons_zero, List.set_cons_succ])
          rfl
        refine pure_ (i := 11) (N := some 59) (v := ?_) (a' := ?_) #[true, true, true, true, true, true, true, true, true, true, true, true, false, false, false, false, false, false, false, false, false, false, false, false, false, false, false, false, false, false, false] rfl rfl (any_of HT_.out (by kernel_rfl)) (fun _ _ _ h => h) (Or.inl ⟨by rfl, ?_⟩) ?_ ?_
        rotate_left
        · intro w'
          go_simp
          with_reducible rfl
        rotate_left
        · (try simp only [Act.put, List.setIfInBounds_toArray, List.set_cons_zero, List.set_cons_succ])
          rfl
        refine pure_ (i := 12) (N := some 60) (v := ?_) (a' := ?_) #[true, true, true, true, true, true, true, true, true, true, true, true, true, false, false, false, false, false, false, false, false, false, false, false, false, false, false, false, false, false, false] rfl rfl (any_of HT_.out (by kernel_rfl)) (fun _ _ _ h => h) (Or.inl ⟨by rfl, ?_⟩) ?_ ?_
        rotate_left
        · intro w'
          go_simp
          with_reducible rfl
        rotate_left
        · (try simp only [Act.put, List.setIfInBounds_toArray, List.set_cons_zero, List.set_cons_succ])
          rfl
        refine pure_ (i := 13) (N := some 61) (v := ?_) (a' := ?_) #[true, true, true, true, true, true, true, true, true, true, true, true, true, true, false, false, false, false, false, false, false, false, false, false, false, false, false, false, false, false, false] rfl rfl (any_of HT_.out (by kernel_rfl)) (fun _ _ _ h => h) (Or.inl ⟨by rfl, ?_⟩) ?_ ?_
        rotate_left
        · intro w'
          go_simp
          with_reducible rfl
        rotate_left
        · (try simp only [Act.put, List.setIfInBounds_toArray, List.set_cons_zero, List.set_cons_succ])
          rfl
        refine pure_ (i := 14) (N := some 62) (v := ?_) (a' := ?_) #[true, true, true, true, true, true, true, true, true, true, true, true, true, true, true, false, false, false, false, false, false, false, false, false, false, false, false, false, false, false, false] rfl rfl (any_of HT_.out (by kernel_rfl)) (fun _ _ _ h => h) (Or.inl ⟨by rfl, ?_⟩) ?_ ?_
        rotate_left
        · intro w'
          go_simp
          with_reducible rfl
        rotate_left
        · (try simp only [Act.put, List.setIfInBounds_toArray, List.set_cons_zero, List.set_cons_succ])
          rfl
        refine one_ (i := 15) (N := some 63) #[true, true, true, true, true, true, true, true, true, true, true, true, true, true, true, true, false, false, false, false, false, false, false, false, false, false, false, false, false, false, false] rfl rfl (one_of HT_.out (by kernel_rfl)) (by decide) (fun K hK => ?_)
        refine goes_ Try.func16 (by kernel_rfl) rfl #[.slice (some ⟨b2, 0, none⟩) l.length d2, .slice Aw l.length cw] (by rfl) rfl rfl (by (try simp only [List.map_toArray, List.map_cons, List.map_nil]); first | done | rfl) ?_
        refine (same_c (some ⟨b2, 0, none⟩) Aw l.length l.length d2 cw l _ HC1.out (by omega) (Kd.C_below HW.out HD.out) hcw (by omega)).mono ?_
        rintro e w' ⟨rfl, hD⟩
        refine ⟨_, rfl, ?_⟩
        have hB := hD.below
        have HXn := Aside0.mk ((hB.block _ (blk_lt hHeld)).trans hHeld)
        replace HD := Aside0.mk (HD.out.trans (hB.mono HD.out.size))
        replace RJ := Aside0.mk (Kd.R_below RJ.out hB)
        replace S4 := Aside0.mk (Kd.R_below S4.out hB)
        replace S8 := Aside0.mk (Kd.R_below S8.out hB)
        replace HC1 := Aside0.mk (Kd.C_below HC1.out hB)
        replace HC2 := Aside0.mk (Kd.C_below HC2.out hB)
        clear hB hD
        clear hHeld
        refine hK.out _ _ (HXn.out) (fun hHeld => ?_)
        clear hK K
        refine norm_ (a' := ?_) ?_ ?_
        rotate_left
        · show Act.put _ (some 63) _ = _
          (try simp only [Act.put, List.setIfInBounds_toArray, List.set_cons_zero, List.set_cons_succ])
          rfl
        refine pure_ (i := 16) (N := some 64) (v := ?_) (a' := ?_) #[true, true, true, true, true, true, true, true, true, true, true, true, true, true, true, true, true, false, false, false, false, false, false, false, false, false, false, false, false, false, false] rfl rfl (any_of HT_.out (by kernel_rfl)) (fun _ _ _ h => h) (Or.inl ⟨by rfl, ?_⟩) ?_ ?_
        rotate_left
        · intro w'
          go_simp
          with_reducible rfl
        rotate_left
        · (try simp only [Act.put, List.setIfInBounds_toArray, List.set_cons_zero, List.set_cons_succ])
          rfl
        refine pure_ (i := 17) (N := some 65) (v := ?_) (a' := ?_) #[true, true, true, true, true, true, true, true, true, true, true, true, true, true, true, true, true, true, false, false, false, false, false, false, false, false, false, false, false, false, false] rfl rfl (any_of HT_.out (by kernel_rfl)) (fun _ _ _ h => h) (Or.inl ⟨by rfl, ?_⟩) ?_ ?_
        rotate_left
        · intro w'
          go_simp
          with_reducible rfl
        rotate_left
        · (try simp only [Act.put, List.setIfInBounds_toArray, List.set_cons_zero, List.set_cons_succ])
          rfl
        refine pure_ (i := 18) (N := some 66) (v := ?_) (a' := ?_) #[true, true, true, true, true, true, true, true, true, true, true, true, true, true, true, true, true, true, true, false, false, false, false, false, false, false, false, false, false, false, false] rfl rfl (any_of HT_.out (by kernel_rfl)) (fun _ _ _ h => h) (Or.inl ⟨by rfl, ?_⟩) ?_ ?_
        rotate_left
        · intro w'
          go_simp
          with_reducible rfl
        rotate_left
        · (try simp only [Act.put, List.setIfInBounds_toArray, List.set_cons_zero, List.set_cons_succ])
          rfl
        refine pure_ (i := 19) (N := some 67) (v := ?_) (a' := ?_) #[true, true, true, true, true, true, true, true, true, true, true, true, true, true, true, true, true, true, true, true, false, false, false, false, false, false, false, false, false, false, false] rfl rfl (any_of HT_.out (by kernel_rfl)) (fun _ _ _ h => h) (Or.inl ⟨by rfl, ?_⟩) ?_ ?_
        rotate_left
        · intro w'
          go_simp
          with_reducible rfl
        rotate_left
        · (try simp only [Act.put, List.setIfInBounds_toArray, List.set_cons_zero, List.set_cons_succ])
          rfl
        refine pure_ (i := 20) (N := some 68) (v := ?_) (a' := ?_) #[true, true, true, true, true, true, true, true, true, true, true, true, true, true, true, true, true, true, true, true, true, false, false, false, false, false, false, false, false, false, false] rfl rfl (any_of HT_.out (by kernel_rfl)) (fun _ _ _ h => h) (Or.inl ⟨by rfl, ?_⟩) ?_ ?_
        rotate_left
        · intro w'
          go_simp
          with_reducible rfl
        rotate_left
        · (try simp only [Act.put, List.setIfInBounds_toArray, List.set_cons_zero, List.set_cons_succ])
          rfl
        refine pure_ (i := 21) (N := some 69) (v := ?_) (a' := ?_) #[true, true, true, true, true, true, true, true, true, true, true, true, true, true, true, true, true, true, true, true, true, true, false, false, false, false, false, false, false, false, false] rfl rfl (any_of HT_.out (by kernel_rfl)) (fun _ _ _ h => h) (Or.inl ⟨by rfl, ?_⟩) ?_ ?_
        rotate_left
        · intro w'
          go_simp
          with_reducible rfl
        rotate_left
        · (try simp only [Act.put, List.setIfInBounds_toArray, List.set_cons_zero, List.set_cons_succ])
          rfl
        refine pure_ (i := 22) (N := some 70) (v := ?_) (a' := ?_) #[true, true, true, true, true, true, true, true, true, true, true, true, true, true, true, true, true, true, true, true, true, true, true, false, false, false, false, false, false, false, false] rfl rfl (any_of HT_.out (by kernel_rfl)) (fun _ _ _ h => h) (Or.inl ⟨by rfl, ?_⟩) ?_ ?_
        rotate_left
        · intro w'
          go_simp
          with_reducible rfl
        rotate_left
        · (try simp only [Act.put, List.setIfInBounds_toArray, List.set_cons_zero, List.set_cons_succ])
          rfl
        refine pure_ (i := 23) (N := some 71) (v := ?_) (a' := ?_) #[true, true, true, true, true, true, true, true, true, true, true, true, true, true, true, true, true, true, true, true, true, true, true, true, false, false, false, false, false, false, false] rfl rfl (any_of HT_.out (by kernel_rfl)) (fun _ _ _ h => h) (Or.inl ⟨by rfl, ?_⟩) ?_ ?_
        rotate_left
        · intro w'
          go_simp
          with_reducible rfl
        rotate_left
        · (try simp only [Act.put, List.setIfInBounds_toArray, List.set_cons_zero, List.set_cons_succ])
          rfl
        refine pure_ (i := 24) (N := some 72) (v := ?_) (a' := ?_) #[true, true, true, true, true, true, true, true, true, true, true, true, true, true, true, true, true, true, true, true, true, true, true, true, true, false, false, false, false, false, false] rfl rfl (any_of HT_.out (by kernel_rfl)) (fun _ _ _ h => h) (Or.inl ⟨by rfl, ?_⟩) ?_ ?_
        rotate_left
        · intro w'
          go_simp
          with_reducible rfl
        rotate_left
        · (try simp only [Act.put, List.setIfInBounds_toArray, List.set_cons_zero, List.set_cons_succ])
          rfl
        refine pure_ (i := 25) (N := some 73) (v := ?_) (a' := ?_) #[true, true, true, true, true, true, true, true, true, true, true, true, true, true, true, true, true, true, true, true, true, true, true, true, true, true, false, false, false, false, false] rfl rfl (any_of HT_.out (by kernel_rfl)) (fun _ _ _ h => h) (Or.inl ⟨by rfl, ?_⟩) ?_ ?_
        rotate_left
        · intro w'
          go_simp
          with_reducible rfl
        rotate_left
        · (try simp only [Act.put, List.setIfInBounds_toArray, List.set_cons_zero, List.set_cons_succ])
          rfl
        refine take_ (i := 26) (N := some 74) (v := ?_) (a' := ?_) #[true, true, true, true, true, true, true, true, true, true, true, true, true, true, true, true, true, true, true, true, true, true, true, true, true, true, true, false, false, false, false] rfl rfl (take_ofW HT_.out HW_.out (by kernel_rfl)) (fun _ _ _ h => h) (Or.inl ⟨by rfl, ?_⟩) hHeld ?_ ?_
        rotate_left
        · intro w' hS_
          have hx_ : w'.cell? ⟨w8.heap.size, 0, none⟩ = some (.int .i64 2) := blk_cell hS_ 0
          go_simp
          with_reducible rfl
        rotate_left
        · (try simp only [Act.put, List.setIfInBounds_toArray, List.set_cons_zero, List.set_cons_succ])
          rfl
        refine one_ (i := 27) (N := some 75) #[true, true, true, true, true, true, true, true, true, true, true, true, true, true, true, true, true, true, true, true, true, true, true, true, true, true, true, true, false, false, false] rfl rfl (one_of HT_.out (by kernel_rfl)) (by decide) (fun K hK => ?_)
        refine goes_ Try.func21 (by kernel_rfl) rfl #[.int .u64 x, .int .i64 2] (by rfl) rfl rfl (by (try simp only [List.map_toArray, List.map_cons, List.map_nil]); first | done | rfl) ?_
        refine (low_c x x0 2 (by omega) _).mono ?_
        rintro e w' ⟨Al, cl, rfl, hcl, hCl, hB⟩
        refine ⟨_, rfl, ?_⟩
        have HXn := Aside0.mk ((hB.block _ (blk_lt hHeld)).trans hHeld)
        replace HD := Aside0.mk (HD.out.trans (hB.mono HD.out.size))
        replace RJ := Aside0.mk (Kd.R_below RJ.out hB)
        replace S4 := Aside0.mk (Kd.R_below S4.out hB)
        replace S8 := Aside0.mk (Kd.R_below S8.out hB)
        replace HC1 := Aside0.mk (Kd.C_below HC1.out hB)
        replace HC2 := Aside0.mk (Kd.C_below HC2.out hB)
        have HCl := Aside0.mk hCl
        clear hB hCl
        clear hHeld
        refine hK.out _ _ (HXn.out) (fun hHeld => ?_)
        clear hK K
        refine norm_ (a' := ?_) ?_ ?_
        rotate_left
        · show Act.put _ (some 75) _ = _
          (try simp only [Act.put, List.setIfInBounds_toArray, List.set_cons_zero, List.set_cons_succ])
          rfl
        refine one_ (i := 28) (N := some 76) #[true, true, true, true, true, true, true, true, true, true, true, true, true, true, true, true, true, true, true, true, true, true, true, true, true, true, true, true, true, false, false] rfl rfl (one_of HT_.out (by kernel_rfl)) (by decide) (fun K hK => ?_)
        refine goes_ Try.func16 (by kernel_rfl) rfl #[.slice At 2 ct, .slice Al 2 cl] (by rfl) rfl rfl (by (try simp only [List.map_toArray, List.map_cons, List.map_nil]); first | done | rfl) ?_
        refine (same_c At Al 2 2 ct cl (bs 2 x) _ HC2.out hctl HCl.out hcl (by omega)).mono ?_
        rintro e w' ⟨rfl, hD⟩
        refine ⟨_, rfl, ?_⟩
        have hB := hD.below
        have HXn := Aside0.mk ((hB.block _ (blk_lt hHeld)).trans hHeld)
        replace HD := Aside0.mk (HD.out.trans (hB.mono HD.out.size))
        replace RJ := Aside0.mk (Kd.R_below RJ.out hB)
        replace S4 := Aside0.mk (Kd.R_below S4.out hB)
        replace S8 := Aside0.mk (Kd.R_below S8.out hB)
        replace HC1 := Aside0.mk (Kd.C_below HC1.out hB)
        replace HC2 := Aside0.mk (Kd.C_below HC2.out hB)
        clear hB hD
        clear hHeld
        refine hK.out _ _ (HXn.out) (fun hHeld => ?_)
        clear hK K
        refine norm_ (a' := ?_) ?_ ?_
        rotate_left
        · show Act.put _ (some 76) _ = _
          (try simp only [Act.put, List.setIfInBounds_toArray, List.set_cons_zero, List.set_cons_succ])
          rfl
        refine pure_ (i := 29) (N := some 77) (v := ?_) (a' := ?_) #[true, true, true, true, true, true, true, true, true, true, true, true, true, true, true, true, true, true, true, true, true, true, true, true, true, true, true, true, true, true, false] rfl rfl (any_of HT_.out (by kernel_rfl)) (fun _ _ _ h => h) (Or.inl ⟨by rfl, ?_⟩) ?_ ?_
        rotate_left
        · intro w'
          go_simp
          with_reducible rfl
        rotate_left
        · (try simp only [Act.put, List.setIfInBounds_toArray, List.set_cons_zero, List.set_cons_succ])
          rfl
        refine pure_ (i := 30) (N := some 78) (v := ?_) (a' := ?_) #[true, true, true, true, true, true, true, true, true, true, true, true, true, true, true, true, true, true, true, true, true, true, true, true, true, true, true, true, true, true, true] rfl rfl (any_of HT_.out (by kernel_rfl)) (fun _ _ _ h => h) (Or.inl ⟨by rfl, ?_⟩) ?_ ?_
        rotate_left
        · intro w'
          go_simp
          with_reducible rfl
        rotate_left
        · (try simp only [Act.put, List.setIfInBounds_toArray, List.set_cons_zero, List.set_cons_succ])
          rfl
        refine done_ (done_of HT_.out (by kernel_rfl)) ?_
        clear hHeld HC1 HC2
        try clear HXn HCl
        go_wp2_with fail
        go_loopw [81] (fun v81 wr => ∃ (m : Nat) (ys : List Int), m ≤ l.length + 2 ∧ v81 = .int .i64 m ∧ Aside0 (ys.length = l.length + 2) ∧ Aside0 (Kd.R (Kd.int .u8) 5 wr w8.heap.size (fun k => k = b2) (.slice (some ⟨b2, 0, none⟩) (l.length + 2) d2) ys) ∧ Aside0 (Kd.R (Kd.int .u8) 5 wr w8.heap.size (fun k => k = b4) (.slice (some ⟨b4, 0, none⟩) (l.length + 4) d4) (l ++ bs 4 x)) ∧ Aside0 (Kd.R (Kd.int .u8) 5 wr w8.heap.size (fun k => k = b8) (.slice (some ⟨b8, 0, none⟩) (l.length + 8) d8) (l ++ bs 8 x)) ∧ Aside0 (Below (w8.alloc (.cells #[.int .i64 2, .int .i64 4, .int .i64 8] 29)).heap.size (w8.alloc (.cells #[.int .i64 2, .int .i64 4, .int .i64 8] 29)) wr)) (fun v81 _ => l.length + 2 - (intOf v81).toNat)
        case atStart => exact ⟨0, _, Nat.zero_le _, rfl, ⟨by simp [bs_length]⟩, RJ, S4, S8, HD⟩
        case round =>
          clear RJ HD S4 S8
          obtain ⟨m, ys, hm, rfl, hys, RJ, S4, S8, HD⟩ := hrel
          by_cases hlm : m < l.length + 2
          · obtain ⟨hcc, hff⟩ := Kd.R_celln 0 RJ.out (m : Int) (by omega) (by omega)
            simp only [Int.toNat_natCast] at hcc hff
            go_wp2
            go_roundw
            case rel => exact ⟨m + 1, _, by omega, by simp, ⟨(List.length_set).trans hys.out⟩, ⟨by exact R_putk RJ.out m _⟩, ⟨by exact Kd.R_far S4.out (fun k hk => by simp; omega) _⟩, ⟨by exact Kd.R_far S8.out (fun k hk => by simp; omega) _⟩, ⟨by exact Below.setCell HD.out (by simp; omega) _⟩⟩
            case measure => simp [intOf]; omega
          · obtain rfl : m = l.length + 2 := by omega
            go_wp2
            go_roundw
            case rel => exact ⟨1, by omega, by simp, ⟨fun h => absurd h (by omega)⟩, ⟨fun _ => S4.out⟩, ⟨fun _ => S8.out⟩, HD⟩
            case measure => simp [intOf]
      · skip
        have RJ := Aside0.mk (R4.out (by omega))
        have S8 := Aside0.mk (R8.out (by omega))
        clear R2 R4 R8
        have ix : ∀ w : World, (Instr.index 34 (.agg #[.slice (some ⟨b2, 0, none⟩) (l.length + 2) d2, .slice (some ⟨b4, 0, none⟩) (l.length + 4) d4, .slice (some ⟨b8, 0, none⟩) (l.length + 8) d8]) (.int .i64 1)).run Try.prog w = .ok (.slice (some ⟨b4, 0, none⟩) (l.length + 4) d4) w := fun _ => by kernel_rfl
        go_wp2_with fail
        clear ix
        have HXd : wr.drew.heap[w8.heap.size]? = some (.cells #[.int .i64 2, .int .i64 4, .int .i64 8] 29 (0, 0)) := (HD.out.block _ hz).trans HX.out
        replace HD := Aside0.mk (below_drew' HD.out)
        replace RJ := Aside0.mk (Kd.R_drew RJ.out)
        replace S8 := Aside0.mk (Kd.R_drew S8.out)
        have e1 : IntKind.i64.wrap ((l.length : Int) + 4) = (l.length : Int) + 4 := i64_id (by omega) (by omega)
        obtain ⟨i6, hi6, _, hsz6, _⟩ := info_parts PH.info5
        have hcA := cut_to (P := Try.prog) 22 5 .i64 Try.underlying22 hi6 (some ⟨b4, 0, none⟩) (l.length + 4) d4 (l.length : Int) (by omega) (by omega) q4
        simp only [Int.toNat_natCast] at hcA
        obtain ⟨At, ct, hcB, hdr, hctl⟩ := cut_tail (some ⟨b4, 0, none⟩) (l.length + 4) d4 l (bs 4 x) 4 rfl (bs_length _ _) q4
        have hlj : (l ++ bs 4 x).length = l.length + 4 := by simp [bs_length]
        have hCJ := (Kd.R_reads' RJ.out).2.2
        have hdJ := (Kd.R_reads' RJ.out).2.1
        have hC1 : Kd.C (Kd.int .u8) wr.drew (some ⟨b4, 0, none⟩) l.length l := by have h := Kd.C_take (m := l.length) hCJ (by simp); rw [List.take_left] at h; exact h
        have hC2 := hdr wr.drew (by rw [← hlj]; exact hCJ)
        clear hdr
        have HC1 := Aside0.mk hC1
        have HC2 := Aside0.mk hC2
        clear hC1 hC2 hCJ hdJ hi6 hsz6 hlj
        refine start_ (n := 31) (S := fun w' => w'.heap[w8.heap.size]? = some (.cells #[.int .i64 2, .int .i64 4, .int .i64 8] 29 (0, 0))) (ds := []) #[false, false, false, false, false, false, false, false, false, false, false, false, false, false, false, false, false, false, false, false, false, false, false, false, false, false, false, false, false, false, false] (by kernel_rfl) rfl rfl (HXd) (fun hHeld => ?_); refine with_tabW lies.tab12 lies.bits12 (fun HT_ HW_ => ?_)
        clear HXd
        generalize World.drew _ = W9 at HD RJ HC1 HC2 hHeld S8 ⊢
        refine pure_ (i := 0) (N := some 48) (v := ?_) (a' := ?_) #[true, false, false, false, false, false, false, false, false, false, false, false, false, false, false, false, false, false, false, false, false, false, false, false, false, false, false, false, false, false, false] rfl rfl (any_of HT_.out (by kernel_rfl)) (fun _ _ _ h => h) (Or.inl ⟨by rfl, ?_⟩) ?_ ?_
        rotate_left
        · intro w'
          go_simp
          with_reducible rfl
        rotate_left
        · (try simp only [Act.put, List.setIfInBounds_toArray, List.set_cons_zero, List.set_cons_succ])
          rfl
        refine pure_ (i := 1) (N := some 49) (v := ?_) (a' := ?_) #[true, true, false, false, false, false, false, false, false, false, false, false, false, false, false, false, false, false, false, false, false, false, false, false, false, false, false, false, false, false, false] rfl rfl (any_of HT_.out (by kernel_rfl)) (fun _ _ _ h => h) (Or.inl ⟨by rfl, ?_⟩) ?_ ?_
        rotate_left
        · intro w'
          go_simp
          with_reducible rfl
        rotate_left
        · (try simp only [Act.put, List.setIfInBounds_toArray, List.set_cons_zero, List.set_cons_succ])
          rfl
        refine pure_ (i := 2) (N := some 50) (v := ?_) (a' := ?_) #[true, true, true, false, false, false, false, false, false, false, false, false, false, false, false, false, false, false, false, false, false, false, false, false, false, false, false, false, false, false, false] rfl rfl (any_of HT_.out (by kernel_rfl)) (fun _ _ _ h => h) (Or.inl ⟨by rfl, ?_⟩) ?_ ?_
        rotate_left
        · intro w'
          go_simp
          with_reducible rfl
        rotate_left
        · (try simp only [Act.put, List.setIfInBounds_toArray, List.set_cons_zero, List.set_cons_succ])
          rfl
        refine pure_ (i := 3) (N := some 51) (v := ?_) (a' := ?_) #[true, true, true, true, false, false, false, false, false, false, false, false, false, false, false, false, false, false, false, false, false, false, false, false, false, false, false, false, false, false, false] rfl rfl (any_of HT_.out (by kernel_rfl)) (fun _ _ _ h => h) (Or.inl ⟨by rfl, ?_⟩) ?_ ?_
        rotate_left
        · intro w'
          go_simp
          with_reducible rfl
        rotate_left
        · (try simp only [Act.put, List.setIfInBounds_toArray, List.set_cons_zero, List.set_cons_succ])
          rfl
        refine pure_ (i := 4) (N := some 52) (v := ?_) (a' := ?_) #[true, true, true, true, true, false, false, false, false, false, false, false, false, false, false, false, false, false, false, false, false, false, false, false, false, false, false, false, false, false, false] rfl rfl (any_of HT_.out (by kernel_rfl)) (fun _ _ _ h => h) (Or.inl ⟨by rfl, ?_⟩) ?_ ?_
        rotate_left
        · intro w'
          go_simp
          with_reducible rfl
        rotate_left
        · (try simp only [Act.put, List.setIfInBounds_toArray, List.set_cons_zero, List.set_cons_succ])
          rfl
        refine pure_ (i := 5) (N := some 53) (v := ?_) (a' := ?_) #[true, true, true, true, true, true, false, false, false, false, false, false, false, false, false, false, false, false, false, false, false, false, false, false, false, false, false, false, false, false, false] rfl rfl (any_of HT_.out (by kernel_rfl)) (fun _ _ _ h => h) (Or.inl ⟨by rfl, ?_⟩) ?_ ?_
        rotate_left
        · intro w'
          go_simp
          with_reducible rfl
        rotate_left
        · (try simp only [Act.put, List.setIfInBounds_toArray, List.set_cons_zero, List.set_cons_succ])
          rfl
        refine take_ (i := 6) (N := some 54) (v := ?_) (a' := ?_) #[true, true, true, true, true, true, true, false, false, false, false, false, false, false, false, false, false, false, false, false, false, false, false, false, false, false, false, false, false, false, false] rfl rfl (take_ofW HT_.out HW_.out (by kernel_rfl)) (fun _ _ _ h => h) (Or.inl ⟨by rfl, ?_⟩) hHeld ?_ ?_
        rotate_left
        · intro w' hS_
          have hx_ : w'.cell? ⟨w8.heap.size, 1, none⟩ = some (.int .i64 4) := blk_cell hS_ 1
          go_simp
          with_reducible rfl
        rotate_left
        · (try simp only [Act.put, List.setIfInBounds_toArray, List.set_cons_zero, List.set_cons_succ])
          rfl
        refine pure_ (i := 7) (N := some 55) (v := ?_) (a' := ?_) #[true, true, true, true, true, true, true, true, false, false, false, false, false, false, false, false, false, false, false, false, false, false, false, false, false, false, false, false, false, false, false] rfl rfl (any_of HT_.out (by kernel_rfl)) (fun _ _ _ h => h) (Or.inl ⟨by rfl, ?_⟩) ?_ ?_
        rotate_left
        · intro w'
          go_simp
          with_reducible rfl
        rotate_left
        · (try simp only [Act.put, List.setIfInBounds_toArray, List.set_cons_zero, List.set_cons_succ])
          rfl
        refine pure_ (i := 8) (N := some 56) (v := ?_) (a' := ?_) #[true, true, true, true, true, true, true, true, true, false, false, false, false, false, false, false, false, false, false, false, false, false, false, false, false, false, false, false, false, false, false] rfl rfl (any_of HT_.out (by kernel_rfl)) (fun _ _ _ h => h) (Or.inl ⟨by rfl, ?_⟩) ?_ ?_
        rotate_left
        · intro w'
          go_simp
          with_reducible rfl
        rotate_left
        · (try simp only [Act.put, List.setIfInBounds_toArray, List.set_cons_zero, List.set_cons_succ])
          rfl
        refine pure_ (i := 9) (N := some 57) (v := ?_) (a' := ?_) #[true, true, true, true, true, true, true, true, true, true, false, false, false, false, false, false, false, false, false, false, false, false, false, false, false, false, false, false, false, false, false] rfl rfl (any_of HT_.out (by kernel_rfl)) (fun _ _ _ h => h) (Or.inl ⟨by rfl, ?_⟩) ?_ ?_
        rotate_left
        · intro w'
          go_simp
          with_reducible rfl
        rotate_left
        · (try simp only [Act.put, List.setIfInBounds_toArray, List.set_cons_zero, List.set_cons_succ])
          rfl
        refine pure_ (i := 10) (N := some 58) (v := ?_) (a' := ?_) #[true, true, true, true, true, true, true, true, true, true, true, false, false, false, false, false, false, false, false, false, false, false, false, false, false, false, false, false, false, false, false] rfl rfl (any_of HT_.out (by kernel_rfl)) (fun _ _ _ h => h) (Or.inl ⟨by rfl, ?_⟩) ?_ ?_
        rotate_left
        · intro w'
          go_simp
          with_reducible rfl
        rotate_left
        · (try simp only [Act.put, List.setIfInBounds_toArray, List.set_cons_zero, List.set_cons_succ])
          rfl
        refine pure_ (i := 11) (N := some 59) (v := ?_) (a' := ?_) #[true, true, true, true, true, true, true, true, true, true, true, true, false, false, false, false, false, false, false, false, false, false, false, false, false, false, false, false, false, false, false] rfl rfl (any_of HT_.out (by kernel_rfl)) (fun _ _ _ h => h) (Or.inl ⟨by rfl, ?_⟩) ?_ ?_
        rotate_left
        · intro w'
          go_simp
          with_reducible rfl
        rotate_left
        · (try simp only [Act.put, List.setIfInBounds_toArray, List.set_cons_zero, List.set_cons_succ])
          rfl
        refine pure_ (i := 12) (N := some 60) (v := ?_) (a' := ?_) #[true, true, true, true, true, true, true, true, true, true, true, true, true, false, false, false, false, false, false, false, false, false, false, false, false, false, false, false, false, false, false] rfl rfl (any_of HT_.out (by kernel_rfl)) (fun _ _ _ h => h) (Or.inl ⟨by rfl, ?_⟩) ?_ ?_
        rotate_left
        · intro w'
          go_simp
          with_reducible rfl
        rotate_left
        · (try simp only [Act.put, List.setIfInBounds_toArray, List.set_cons_zero, List.set_cons_succ])
          rfl
        refine pure_ (i := 13) (N := some 61) (v := ?_) (a' := ?_) #[true, true, true, true, true, true, true, true, true, true, true, true, true, true, false, false, false, false, false, false, false, false, false, false, false, false, false, false, false, false, false] rfl rfl (any_of HT_.out (by kernel_rfl)) (fun _ _ _ h => h) (Or.inl ⟨by rfl, ?_⟩) ?_ ?_
        rotate_left
        · intro w'
          go_simp
          with_reducible rfl
        rotate_left
        · (try simp only [Act.put, List.setIfInBounds_toArray, List.set_cons_zero, List.set_cons_succ])
          rfl
        refine pure_ (i := 14) (N := some 62) (v := ?_) (a' := ?_) #[true, true, true, true, true, true, true, true, true, true, true, true, true, true, true, false, false, false, false, false, false, false, false, false, false, false, false, false, false, false, false] rfl rfl (any_of HT_.out (by kernel_rfl)) (fun _ _ _ h => h) (Or.inl ⟨by rfl, ?_⟩) ?_ ?_
        rotate_left
        · intro w'
          go_simp
          with_reducible rfl
        rotate_left
        · (try simp only [Act.put, List.setIfInBounds_toArray, List.set_cons_zero, List.set_cons_succ])
          rfl
        refine one_ (i := 15) (N := some 63) #[true, true, true, true, true, true, true, true, true, true, true, true, true, true, true, true, false, false, false, false, false, false, false, false, false, false, false, false, false, false, false] rfl rfl (one_of HT_.out (by kernel_rfl)) (by decide) (fun K hK => ?_)
        refine goes_ Try.func16 (by kernel_rfl) rfl #[.slice (some ⟨b4, 0, none⟩) l.length d4, .slice Aw l.length cw] (by rfl) rfl rfl (by (try simp only [List.map_toArray, List.map_cons, List.map_nil]); first | done | rfl) ?_
        refine (same_c (some ⟨b4, 0, none⟩) Aw l.length l.length d4 cw l _ HC1.out (by omega) (Kd.C_below HW.out HD.out) hcw (by omega)).mono ?_
        rintro e w' ⟨rfl, hD⟩
        refine ⟨_, rfl, ?_⟩
        have hB := hD.below
        have HXn := Aside0.mk ((hB.block _ (blk_lt hHeld)).trans hHeld)
        replace HD := Aside0.mk (HD.out.trans (hB.mono HD.out.size))
        replace RJ := Aside0.mk (Kd.R_below RJ.out hB)
        replace S8 := Aside0.mk (Kd.R_below S8.out hB)
        replace HC1 := Aside0.mk (Kd.C_below HC1.out hB)
        replace HC2 := Aside0.mk (Kd.C_below HC2.out hB)
        clear hB hD
        clear hHeld
        refine hK.out _ _ (HXn.out) (fun hHeld => ?_)
        clear hK K
        refine norm_ (a' := ?_) ?_ ?_
        rotate_left
        · show Act.put _ (some 63) _ = _
          (try simp only [Act.put, List.setIfInBounds_toArray, List.set_cons_zero, List.set_cons_succ])
          rfl
        refine pure_ (i := 16) (N := some 64) (v := ?_) (a' := ?_) #[true, true, true, true, true, true, true, true, true, true, true, true, true, true, true, true, true, false, false, false, false, false, false, false, false, false, false, false, false, false, false] rfl rfl (any_of HT_.out (by kernel_rfl)) (fun _ _ _ h => h) (Or.inl ⟨by rfl, ?_⟩) ?_ ?_
        rotate_left
        · intro w'
          go_simp
          with_reducible rfl
        rotate_left
        · (try simp only [Act.put, List.setIfInBounds_toArray, List.set_cons_zero, List.set_cons_succ])
          rfl
        refine pure_ (i := 17) (N := some 65) (v := ?_) (a' := ?_) #[true, true, true, true, true, true, true, true, true, true, true, true, true, true, true, true, true, true, false, false, false, false, false, false, false, false, false, false, false, false, false] rfl rfl (any_of HT_.out (by kernel_rfl)) (fun _ _ _ h => h) (Or.inl ⟨by rfl, ?_⟩) ?_ ?_
        rotate_left
        · intro w'
          go_simp
          with_reducible rfl
        rotate_left
        · (try simp only [Act.put, List.setIfInBounds_toArray, List.set_cons_zero, List.set_cons_succ])
          rfl
        refine pure_ (i := 18) (N := some 66) (v := ?_) (a' := ?_) #[true, true, true, true, true, true, true, true, true, true, true, true, true, true, true, true, true, true, true, false, false, false, false, false, false, false, false, false, false, false, false] rfl rfl (any_of HT_.out (by kernel_rfl)) (fun _ _ _ h => h) (Or.inl ⟨by rfl, ?_⟩) ?_ ?_
        rotate_left
        · intro w'
          go_simp
          with_reducible rfl
        rotate_left
        · (try simp only [Act.put, List.setIfInBounds_toArray, List.set_cons_zero, List.set_cons_succ])
          rfl
        refine pure_ (i := 19) (N := some 67) (v := ?_) (a' := ?_) #[true, true, true, true, true, true, true, true, true, true, true, true, true, true, true, true, true, true, true, true, false, false, false, false, false, false, false, false, false, false, false] rfl rfl (any_of HT_.out (by kernel_rfl)) (fun _ _ _ h => h) (Or.inl ⟨by rfl, ?_⟩) ?_ ?_
        rotate_left
        · intro w'
          go_simp
          with_reducible rfl
        rotate_left
        · (try simp only [Act.put, List.setIfInBounds_toArray, List.set_cons_zero, List.set_cons_succ])
          rfl
        refine pure_ (i := 20) (N := some 68) (v := ?_) (a' := ?_) #[true, true, true, true, true, true, true, true, true, true, true, true, true, true, true, true, true, true, true, true, true, false, false, false, false, false, false, false, false, false, false] rfl rfl (any_of HT_.out (by kernel_rfl)) (fun _ _ _ h => h) (Or.inl ⟨by rfl, ?_⟩) ?_ ?_
        rotate_left
        · intro w'
          go_simp
          with_reducible rfl
        rotate_left
        · (try simp only [Act.put, List.setIfInBounds_toArray, List.set_cons_zero, List.set_cons_succ])
          rfl
        refine pure_ (i := 21) (N := some 69) (v := ?_) (a' := ?_) #[true, true, true, true, true, true, true, true, true, true, true, true, true, true, true, true, true, true, true, true, true, true, false, false, false, false, false, false, false, false, false] rfl rfl (any_of HT_.out (by kernel_rfl)) (fun _ _ _ h => h) (Or.inl ⟨by rfl, ?_⟩) ?_ ?_
        rotate_left
        · intro w'
          go_simp
          with_reducible rfl
        rotate_left
        · (try simp only [Act.put, List.setIfInBounds_toArray, List.set_cons_zero, List.set_cons_succ])
          rfl
        refine pure_ (i := 22) (N := some 70) (v := ?_) (a' := ?_) #[true, true, true, true, true, true, true, true, true, true, true, true, true, true, true, true, true, true, true, true, true, true, true, false, false, false, false, false, false, false, false] rfl rfl (any_of HT_.out (by kernel_rfl)) (fun _ _ _ h => h) (Or.inl ⟨by rfl, ?_⟩) ?_ ?_
        rotate_left
        · intro w'
          go_simp
          with_reducible rfl
        rotate_left
        · (try simp only [Act.put, List.setIfInBounds_toArray, List.set_cons_zero, List.set_cons_succ])
          rfl
        refine pure_ (i := 23) (N := some 71) (v := ?_) (a' := ?_) #[true, true, true, true, true, true, true, true, true, true, true, true, true, true, true, true, true, true, true, true, true, true, true, true, false, false, false, false, false, false, false] rfl rfl (any_of HT_.out (by kernel_rfl)) (fun _ _ _ h => h) (Or.inl ⟨by rfl, ?_⟩) ?_ ?_
        rotate_left
        · intro w'
          go_simp
          with_reducible rfl
        rotate_left
        · (try simp only [Act.put, List.setIfInBounds_toArray, List.set_cons_zero, List.set_cons_succ])
          rfl
        refine pure_ (i := 24) (N := some 72) (v := ?_) (a' := ?_) #[true, true, true, true, true, true, true, true, true, true, true, true, true, true, true, true, true, true, true, true, true, true, true, true, true, false, false, false, false, false, false] rfl rfl (any_of HT_.out (by kernel_rfl)) (fun _ _ _ h => h) (Or.inl ⟨by rfl, ?_⟩) ?_ ?_
        rotate_left
        · intro w'
          go_simp
          with_reducible rfl
        rotate_left
        · (try simp only [Act.put, List.setIfInBounds_toArray, List.set_cons_zero, List.set_cons_succ])
          rfl
        refine pure_ (i := 25) (N := some 73) (v := ?_) (a' := ?_) #[true, true, true, true, true, true, true, true, true, true, true, true, true, true, true, true, true, true, true, true, true, true, true, true, true, true, false, false, false, false, false] rfl rfl (any_of HT_.out (by kernel_rfl)) (fun _ _ _ h => h) (Or.inl ⟨by rfl, ?_⟩) ?_ ?_
        rotate_left
        · intro w'
          go_simp
          with_reducible rfl
        rotate_left
        · (try simp only [Act.put, List.setIfInBounds_toArray, List.set_cons_zero, List.set_cons_succ])
          rfl
        refine take_ (i := 26) (N := some 74) (v := ?_) (a' := ?_) #[true, true, true, true, true, true, true, true, true, true, true, true, true, true, true, true, true, true, true, true, true, true, true, true, true, true, true, false, false, false, false] rfl rfl (take_ofW HT_.out HW_.out (by kernel_rfl)) (fun _ _ _ h => h) (Or.inl ⟨by rfl, ?_⟩) hHeld ?_ ?_
        rotate_left
        · intro w' hS_
          have hx_ : w'.cell? ⟨w8.heap.size, 1, none⟩ = some (.int .i64 4) := blk_cell hS_ 1
          go_simp
          with_reducible rfl
        rotate_left
        · (try simp only [Act.put, List.setIfInBounds_toArray, List.set_cons_zero, List.set_cons_succ])
          rfl
        refine one_ (i := 27) (N := some 75) #[true, true, true, true, true, true, true, true, true, true, true, true, true, true, true, true, true, true, true, true, true, true, true, true, true, true, true, true, false, false, false] rfl rfl (one_of HT_.out (by kernel_rfl)) (by decide) (fun K hK => ?_)
        refine goes_ Try.func21 (by kernel_rfl) rfl #[.int .u64 x, .int .i64 4] (by rfl) rfl rfl (by (try simp only [List.map_toArray, List.map_cons, List.map_nil]); first | done | rfl) ?_
        refine (low_c x x0 4 (by omega) _).mono ?_
        rintro e w' ⟨Al, cl, rfl, hcl, hCl, hB⟩
        refine ⟨_, rfl, ?_⟩
        have HXn := Aside0.mk ((hB.block _ (blk_lt hHeld)).trans hHeld)
        replace HD := Aside0.mk (HD.out.trans (hB.mono HD.out.size))
        replace RJ := Aside0.mk (Kd.R_below RJ.out hB)
        replace S8 := Aside0.mk (Kd.R_below S8.out hB)
        replace HC1 := Aside0.mk (Kd.C_below HC1.out hB)
        replace HC2 := Aside0.mk (Kd.C_below HC2.out hB)
        have HCl := Aside0.mk hCl
        clear hB hCl
        clear hHeld
        refine hK.out _ _ (HXn.out) (fun hHeld => ?_)
        clear hK K
        refine norm_ (a' := ?_) ?_ ?_
        rotate_left
        · show Act.put _ (some 75) _ = _
          (try simp only [Act.put, List.setIfInBounds_toArray, List.set_cons_zero, List.set_cons_succ])
          rfl
        refine one_ (i := 28) (N := some 76) #[true, true, true, true, true, true, true, true, true, true, true, true, true, true, true, true, true, true, true, true, true, true, true, true, true, true, true, true, true, false, false] rfl rfl (one_of HT_.out (by kernel_rfl)) (by decide) (fun K hK => ?_)
        refine goes_ Try.func16 (by kernel_rfl) rfl #[.slice At 4 ct, .slice Al 4 cl] (by rfl) rfl rfl (by (try simp only [List.map_toArray, List.map_cons, List.map_nil]); first | done | rfl) ?_
        refine (same_c At Al 4 4 ct cl (bs 4 x) _ HC2.out hctl HCl.out hcl (by omega)).mono ?_
        rintro e w' ⟨rfl, hD⟩
        refine ⟨_, rfl, ?_⟩
        have hB := hD.below
        have HXn := Aside0.mk ((hB.block _ (blk_lt hHeld)).trans hHeld)
        replace HD := Aside0.mk (HD.out.trans (hB.mono HD.out.size))
        replace RJ := Aside0.mk (Kd.R_below RJ.out hB)
        replace S8 := Aside0.mk (Kd.R_below S8.out hB)
        replace HC1 := Aside0.mk (Kd.C_below HC1.out hB)
        replace HC2 := Aside0.mk (Kd.C_below HC2.out hB)
        clear hB hD
        clear hHeld
        refine hK.out _ _ (HXn.out) (fun hHeld => ?_)
        clear hK K
        refine norm_ (a' := ?_) ?_ ?_
        rotate_left
        · show Act.put _ (some 76) _ = _
          (try simp only [Act.put, List.setIfInBounds_toArray, List.set_cons_zero, List.set_cons_succ])
          rfl
        refine pure_ (i := 29) (N := some 77) (v := ?_) (a' := ?_) #[true, true, true, true, true, true, true, true, true, true, true, true, true, true, true, true, true, true, true, true, true, true, true, true, true, true, true, true, true, true, false] rfl rfl (any_of HT_.out (by kernel_rfl)) (fun _ _ _ h => h) (Or.inl ⟨by rfl, ?_⟩) ?_ ?_
        rotate_left
        · intro w'
          go_simp
          with_reducible rfl
        rotate_left
        · (try simp only [Act.put, List.setIfInBounds_toArray, List.set_cons_zero, List.set_cons_succ])
          rfl
        refine pure_ (i := 30) (N := some 78) (v := ?_) (a' := ?_) #[true, true, true, true, true, true, true, true, true, true, true, true, true, true, true, true, true, true, true, true, true, true, true, true, true, true, true, true, true, true, true] rfl rfl (any_of HT_.out (by kernel_rfl)) (fun _ _ _ h => h) (Or.inl ⟨by rfl, ?_⟩) ?_ ?_
        rotate_left
        · intro w'
          go_simp
          with_reducible rfl
        rotate_left
        · (try simp only [Act.put, List.setIfInBounds_toArray, List.set_cons_zero, List.set_cons_succ])
          rfl
        refine done_ (done_of HT_.out (by kernel_rfl)) ?_
        clear hHeld HC1 HC2
        try clear HXn HCl
        go_wp2_with fail
        go_loopw [81] (fun v81 wr => ∃ (m : Nat) (ys : List Int), m ≤ l.length + 4 ∧ v81 = .int .i64 m ∧ Aside0 (ys.length = l.length + 4) ∧ Aside0 (Kd.R (Kd.int .u8) 5 wr w8.heap.size (fun k => k = b4) (.slice (some ⟨b4, 0, none⟩) (l.length + 4) d4) ys) ∧ Aside0 (Kd.R (Kd.int .u8) 5 wr w8.heap.size (fun k => k = b8) (.slice (some ⟨b8, 0, none⟩) (l.length + 8) d8) (l ++ bs 8 x)) ∧ Aside0 (Below (w8.alloc (.cells #[.int .i64 2, .int .i64 4, .int .i64 8] 29)).heap.size (w8.alloc (.cells #[.int .i64 2, .int .i64 4, .int .i64 8] 29)) wr)) (fun v81 _ => l.length + 4 - (intOf v81).toNat)
        case atStart => exact ⟨0, _, Nat.zero_le _, rfl, ⟨by simp [bs_length]⟩, RJ, S8, HD⟩
        case round =>
          clear RJ HD S8
          obtain ⟨m, ys, hm, rfl, hys, RJ, S8, HD⟩ := hrel
          by_cases hlm : m < l.length + 4
          · obtain ⟨hcc, hff⟩ := Kd.R_celln 0 RJ.out (m : Int) (by omega) (by omega)
            simp only [Int.toNat_natCast] at hcc hff
            go_wp2
            go_roundw
            case rel => exact ⟨m + 1, _, by omega, by simp, ⟨(List.length_set).trans hys.out⟩, ⟨by exact R_putk RJ.out m _⟩, ⟨by exact Kd.R_far S8.out (fun k hk => by simp; omega) _⟩, ⟨by exact Below.setCell HD.out (by simp; omega) _⟩⟩
            case measure => simp [intOf]; omega
          · obtain rfl : m = l.length + 4 := by omega
            go_wp2
            go_roundw
            case rel => exact ⟨2, by omega, by simp, ⟨fun h => absurd h (by omega)⟩, ⟨fun h => absurd h (by omega)⟩, ⟨fun _ => S8.out⟩, HD⟩
            case measure => simp [intOf]
      · skip
        have RJ := Aside0.mk (R8.out (by omega))
        clear R2 R4 R8
        have ix : ∀ w : World, (Instr.index 34 (.agg #[.slice (some ⟨b2, 0, none⟩) (l.length + 2) d2, .slice (some ⟨b4, 0, none⟩) (l.length + 4) d4, .slice (some ⟨b8, 0, none⟩) (l.length + 8) d8]) (.int .i64 2)).run Try.prog w = .ok (.slice (some ⟨b8, 0, none⟩) (l.length + 8) d8) w := fun _ => by kernel_rfl
        go_wp2_with fail
        clear ix
        have HXd : wr.drew.heap[w8.heap.size]? = some (.cells #[.int .i64 2, .int .i64 4, .int .i64 8] 29 (0, 0)) := (HD.out.block _ hz).trans HX.out
        replace HD := Aside0.mk (below_drew' HD.out)
        replace RJ := Aside0.mk (Kd.R_drew RJ.out)
        have e1 : IntKind.i64.wrap ((l.length : Int) + 8) = (l.length : Int) + 8 := i64_id (by omega) (by omega)
        obtain ⟨i6, hi6, _, hsz6, _⟩ := info_parts PH.info5
        have hcA := cut_to (P := Try.prog) 22 5 .i64 Try.underlying22 hi6 (some ⟨b8, 0, none⟩) (l.length + 8) d8 (l.length : Int) (by omega) (by omega) q8
        simp only [Int.toNat_natCast] at hcA
        obtain ⟨At, ct, hcB, hdr, hctl⟩ := cut_tail (some ⟨b8, 0, none⟩) (l.length + 8) d8 l (bs 8 x) 8 rfl (bs_length _ _) q8
        have hlj : (l ++ bs 8 x).length = l.length + 8 := by simp [bs_length]
        have hCJ := (Kd.R_reads' RJ.out).2.2
        have hdJ := (Kd.R_reads' RJ.out).2.1
        have hC1 : Kd.C (Kd.int .u8) wr.drew (some ⟨b8, 0, none⟩) l.length l := by have h := Kd.C_take (m := l.length) hCJ (by simp); rw [List.take_left] at h; exact h
        have hC2 := hdr wr.drew (by rw [← hlj]; exact hCJ)
        clear hdr
        have HC1 := Aside0.mk hC1
        have HC2 := Aside0.mk hC2
        clear hC1 hC2 hCJ hdJ hi6 hsz6 hlj
        refine start_ (n := 31) (S := fun w' => w'.heap[w8.heap.size]? = some (.cells #[.int .i64 2, .int .i64 4, .int .i64 8] 29 (0, 0))) (ds := []) #[false, false, false, false, false, false, false, false, false, false, false, false, false, false, false, false, false, false, false, false, false, false, false, false, false, false, false, false, false, false, false] (by kernel_rfl) rfl rfl (HXd) (fun hHeld => ?_); refine with_tabW lies.tab12 lies.bits12 (fun HT_ HW_ => ?_)
        clear HXd
        generalize World.drew _ = W9 at HD RJ HC1 HC2 hHeld  ⊢
        refine pure_ (i := 0) (N := some 48) (v := ?_) (a' := ?_) #[true, false, false, false, false, false, false, false, false, false, false, false, false, false, false, false, false, false, false, false, false, false, false, false, false, false, false, false, false, false, false] rfl rfl (any_of HT_.out (by kernel_rfl)) (fun _ _ _ h => h) (Or.inl ⟨by rfl, ?_⟩) ?_ ?_
        rotate_left
        · intro w'
          go_simp
          with_reducible rfl
        rotate_left
        · (try simp only [Act.put, List.setIfInBounds_toArray, List.set_cons_zero, List.set_cons_succ])
          rfl
        refine pure_ (i := 1) (N := some 49) (v := ?_) (a' := ?_) #[true, true, false, false, false, false, false, false, false, false, false, false, false, false, false, false, false, false, false, false, false, false, false, false, false, false, false, false, false, false, false] rfl rfl (any_of HT_.out (by kernel_rfl)) (fun _ _ _ h => h) (Or.inl ⟨by rfl, ?_⟩) ?_ ?_
        rotate_left
        · intro w'
          go_simp
          with_reducible rfl
        rotate_left
        · (try simp only [Act.put, List.setIfInBounds_toArray, List.set_cons_zero, List.set_cons_succ])
          rfl
        refine pure_ (i := 2) (N := some 50) (v := ?_) (a' := ?_) #[true, true, true, false, false, false, false, false, false, false, false, false, false, false, false, false, false, false, false, false, false, false, false, false, false, false, false, false, false, false, false] rfl rfl (any_of HT_.out (by kernel_rfl)) (fun _ _ _ h => h) (Or.inl ⟨by rfl, ?_⟩) ?_ ?_
        rotate_left
        · intro w'
          go_simp
          with_reducible rfl
        rotate_left
        · (try simp only [Act.put, List.setIfInBounds_toArray, List.set_cons_zero, List.set_cons_succ])
          rfl
        refine pure_ (i := 3) (N := some 51) (v := ?_) (a' := ?_) #[true, true, true, true, false, false, false, false, false, false, false, false, false, false, false, false, false, false, false, false, false, false, false, false, false, false, false, false, false, false, false] rfl rfl (any_of HT_.out (by kernel_rfl)) (fun _ _ _ h => h) (Or.inl ⟨by rfl, ?_⟩) ?_ ?_
        rotate_left
        · intro w'
          go_simp
          with_reducible rfl
        rotate_left
        · (try simp only [Act.put, List.setIfInBounds_toArray, List.set_cons_zero, List.set_cons_succ])
          rfl
        refine pure_ (i := 4) (N := some 52) (v := ?_) (a' := ?_) #[true, true, true, true, true, false, false, false, false, false, false, false, false, false, false, false, false, false, false, false, false, false, false, false, false, false, false, false, false, false, false] rfl rfl (any_of HT_.out (by kernel_rfl)) (fun _ _ _ h => h) (Or.inl ⟨by rfl, ?_⟩) ?_ ?_
        rotate_left
        · intro w'
          go_simp
          with_reducible rfl
        rotate_left
        · (try simp only [Act.put, List.setIfInBounds_toArray, List.set_cons_zero, List.set_cons_succ])
          rfl
        refine pure_ (i := 5) (N := some 53) (v := ?_) (a' := ?_) #[true, true, true, true, true, true, false, false, false, false, false, false, false, false, false, false, false, false, false, false, false, false, false, false, false, false, false, false, false, false, false] rfl rfl (any_of HT_.out (by kernel_rfl)) (fun _ _ _ h => h) (Or.inl ⟨by rfl, ?_⟩) ?_ ?_
        rotate_left
        · intro w'
          go_simp
          with_reducible rfl
        rotate_left
        · (try simp only [Act.put, List.setIfInBounds_toArray, List.set_cons_zero, List.set_cons_succ])
          rfl
        refine take_ (i := 6) (N := some 54) (v := ?_) (a' := ?_) #[true, true, true, true, true, true, true, false, false, false, false, false, false, false, false, false, false, false, false, false, false, false, false, false, false, false, false, false, false, false, false] rfl rfl (take_ofW HT_.out HW_.out (by kernel_rfl)) (fun _ _ _ h => h) (Or.inl ⟨by rfl, ?_⟩) hHeld ?_ ?_
        rotate_left
        · intro w' hS_
          have hx_ : w'.cell? ⟨w8.heap.size, 2, none⟩ = some (.int .i64 8) := blk_cell hS_ 2
          go_simp
          with_reducible rfl
        rotate_left
        · (try simp only [Act.put, List.setIfInBounds_toArray, List.set_cons_zero, List.set_cons_succ])
          rfl
        refine pure_ (i := 7) (N := some 55) (v := ?_) (a' := ?_) #[true, true, true, true, true, true, true, true, false, false, false, false, false, false, false, false, false, false, false, false, false, false, false, false, false, false, false, false, false, false, false] rfl rfl (any_of HT_.out (by kernel_rfl)) (fun _ _ _ h => h) (Or.inl ⟨by rfl, ?_⟩) ?_ ?_
        rotate_left
        · intro w'
          go_simp
          with_reducible rfl
        rotate_left
        · (try simp only [Act.put, List.setIfInBounds_toArray, List.set_cons_zero, List.set_cons_succ])
          rfl
        refine pure_ (i := 8) (N := some 56) (v := ?_) (a' := ?_) #[true, true, true, true, true, true, true, true, true, false, false, false, false, false, false, false, false, false, false, false, false, false, false, false, false, false, false, false, false, false, false] rfl rfl (any_of HT_.out (by kernel_rfl)) (fun _ _ _ h => h) (Or.inl ⟨by rfl, ?_⟩) ?_ ?_
        rotate_left
        · intro w'
          go_simp
          with_reducible rfl
        rotate_left
        · (try simp only [Act.put, List.setIfInBounds_toArray, List.set_cons_zero, List.set_cons_succ])
          rfl
        refine pure_ (i := 9) (N := some 57) (v := ?_) (a' := ?_) #[true, true, true, true, true, true, true, true, true, true, false, false, false, false, false, false, false, false, false, false, false, false, false, false, false, false, false, false, false, false, false] rfl rfl (any_of HT_.out (by kernel_rfl)) (fun _ _ _ h => h) (Or.inl ⟨by rfl, ?_⟩) ?_ ?_
        rotate_left
        · intro w'
          go_simp
          with_reducible rfl
        rotate_left
        · (try simp only [Act.put, List.setIfInBounds_toArray, List.set_cons_zero, List.set_cons_succ])
          rfl
        refine pure_ (i := 10) (N := some 58) (v := ?_) (a' := ?_) #[true, true, true, true, true, true, true, true, true, true, true, false, false, false, false, false, false, false, false, false, false, false, false, false, false, false, false, false, false, false, false] rfl rfl (any_of HT_.out (by kernel_rfl)) (fun _ _ _ h => h) (Or.inl ⟨by rfl, ?_⟩) ?_ ?_
        rotate_left
        · intro w'
          go_simp
          with_reducible rfl
        rotate_left
        · (try simp only [Act.put, List.setIfInBounds_toArray, List.set_cons_zero, List.set_cons_succ])
          rfl
        refine pure_ (i := 11) (N := some 59) (v := ?_) (a' := ?_) #[true, true, true, true, true, true, true, true, true, true, true, true, false, false, false, false, false, false, false, false, false, false, false, false, false, false, false, false, false, false, false] rfl rfl (any_of HT_.out (by kernel_rfl)) (fun _ _ _ h => h) (Or.inl ⟨by rfl, ?_⟩) ?_ ?_
        rotate_left
        · intro w'
          go_simp
          with_reducible rfl
        rotate_left
        · (try simp only [Act.put, List.setIfInBounds_toArray, List.set_cons_zero, List.set_cons_succ])
          rfl
        refine pure_ (i := 12) (N := some 60) (v := ?_) (a' := ?_) #[true, true, true, true, true, true, true, true, true, true, true, true, true, false, false, false, false, false, false, false, false, false, false, false, false, false, false, false, false, false, false] rfl rfl (any_of HT_.out (by kernel_rfl)) (fun _ _ _ h => h) (Or.inl ⟨by rfl, ?_⟩) ?_ ?_
        rotate_left
        · intro w'
          go_simp
          with_reducible rfl
        rotate_left
        · (try simp only [Act.put, List.setIfInBounds_toArray, List.set_cons_zero, List.set_cons_succ])
          rfl
        refine pure_ (i := 13) (N := some 61) (v := ?_) (a' := ?_) #[true, true, true, true, true, true, true, true, true, true, true, true, true, true, false, false, false, false, false, false, false, false, false, false, false, false, false, false, false, false, false] rfl rfl (any_of HT_.out (by kernel_rfl)) (fun _ _ _ h => h) (Or.inl ⟨by rfl, ?_⟩) ?_ ?_
        rotate_left
        · intro w'
          go_simp
          with_reducible rfl
        rotate_left
        · (try simp only [Act.put, List.setIfInBounds_toArray, List.set_cons_zero, List.set_cons_succ])
          rfl
        refine pure_ (i := 14) (N := some 62) (v := ?_) (a' := ?_) #[true, true, true, true, true, true, true, true, true, true, true, true, true, true, true, false, false, false, false, false, false, false, false, false, false, false, false, false, false, false, false] rfl rfl (any_of HT_.out (by kernel_rfl)) (fun _ _ _ h => h) (Or.inl ⟨by rfl, ?_⟩) ?_ ?_
        rotate_left
        · intro w'
          go_simp
          with_reducible rfl
        rotate_left
        · (try simp only [Act.put, List.setIfInBounds_toArray, List.set_cons_zero, List.set_cons_succ])
          rfl
        refine one_ (i := 15) (N := some 63) #[true, true, true, true, true, true, true, true, true, true, true, true, true, true, true, true, false, false, false, false, false, false, false, false, false, false, false, false, false, false, false] rfl rfl (one_of HT_.out (by kernel_rfl)) (by decide) (fun K hK => ?_)
        refine goes_ Try.func16 (by kernel_rfl) rfl #[.slice (some ⟨b8, 0, none⟩) l.length d8, .slice Aw l.length cw] (by rfl) rfl rfl (by (try simp only [List.map_toArray, List.map_cons, List.map_nil]); first | done | rfl) ?_
        refine (same_c (some ⟨b8, 0, none⟩) Aw l.length l.length d8 cw l _ HC1.out (by omega) (Kd.C_below HW.out HD.out) hcw (by omega)).mono ?_
        rintro e w' ⟨rfl, hD⟩
        refine ⟨_, rfl, ?_⟩
        have hB := hD.below
        have HXn := Aside0.mk ((hB.block _ (blk_lt hHeld)).trans hHeld)
        replace HD := Aside0.mk (HD.out.trans (hB.mono HD.out.size))
        replace RJ := Aside0.mk (Kd.R_below RJ.out hB)
        replace HC1 := Aside0.mk (Kd.C_below HC1.out hB)
        replace HC2 := Aside0.mk (Kd.C_below HC2.out hB)
        clear hB hD
        clear hHeld
        refine hK.out _ _ (HXn.out) (fun hHeld => ?_)
        clear hK K
        refine norm_ (a' := ?_) ?_ ?_
        rotate_left
        · show Act.put _ (some 63) _ = _
          (try simp only [Act.put, List.setIfInBounds_toArray, List.set_cons_zero, List.set_cons_succ])
          rfl
        refine pure_ (i := 16) (N := some 64) (v := ?_) (a' := ?_) #[true, true, true, true, true, true, true, true, true, true, true, true, true, true, true, true, true, false, false, false, false, false, false, false, false, false, false, false, false, false, false] rfl rfl (any_of HT_.out (by kernel_rfl)) (fun _ _ _ h => h) (Or.inl ⟨by rfl, ?_⟩) ?_ ?_
        rotate_left
        · intro w'
          go_simp
          with_reducible rfl
        rotate_left
        · (try simp only [Act.put, List.setIfInBounds_toArray, List.set_cons_zero, List.set_cons_succ])
          rfl
        refine pure_ (i := 17) (N := some 65) (v := ?_) (a' := ?_) #[true, true, true, true, true, true, true, true, true, true, true, true, true, true, true, true, true, true, false, false, false, false, false, false, false, false, false, false, false, false, false] rfl rfl (any_of HT_.out (by kernel_rfl)) (fun _ _ _ h => h) (Or.inl ⟨by rfl, ?_⟩) ?_ ?_
        rotate_left
        · intro w'
          go_simp
          with_reducible rfl
        rotate_left
        · (try simp only [Act.put, List.setIfInBounds_toArray, List.set_cons_zero, List.set_cons_succ])
          rfl
        refine pure_ (i := 18) (N := some 66) (v := ?_) (a' := ?_) #[true, true, true, true, true, true, true, true, true, true, true, true, true, true, true, true, true, true, true, false, false, false, false, false, false, false, false, false, false, false, false] rfl rfl (any_of HT_.out (by kernel_rfl)) (fun _ _ _ h => h) (Or.inl ⟨by rfl, ?_⟩) ?_ ?_
        rotate_left
        · intro w'
          go_simp
          with_reducible rfl
        rotate_left
        · (try simp only [Act.put, List.setIfInBounds_toArray, List.set_cons_zero, List.set_cons_succ])
          rfl
        refine pure_ (i := 19) (N := some 67) (v := ?_) (a' := ?_) #[true, true, true, true, true, true, true, true, true, true, true, true, true, true, true, true, true, true, true, true, false, false, false, false, false, false, false, false, false, false, false] rfl rfl (any_of HT_.out (by kernel_rfl)) (fun _ _ _ h => h) (Or.inl ⟨by rfl, ?_⟩) ?_ ?_
        rotate_left
        · intro w'
          go_simp
          with_reducible rfl
        rotate_left
        · (try simp only [Act.put, List.setIfInBounds_toArray, List.set_cons_zero, List.set_cons_succ])
          rfl
        refine pure_ (i := 20) (N := some 68) (v := ?_) (a' := ?_) #[true, true, true, true, true, true, true, true, true, true, true, true, true, true, true, true, true, true, true, true, true, false, false, false, false, false, false, false, false, false, false] rfl rfl (any_of HT_.out (by kernel_rfl)) (fun _ _ _ h => h) (Or.inl ⟨by rfl, ?_⟩) ?_ ?_
        rotate_left
        · intro w'
          go_simp
          with_reducible rfl
        rotate_left
        · (try simp only [Act.put, List.setIfInBounds_toArray, List.set_cons_zero, List.set_cons_succ])
          rfl
        refine pure_ (i := 21) (N := some 69) (v := ?_) (a' := ?_) #[true, true, true, true, true, true, true, true, true, true, true, true, true, true, true, true, true, true, true, true, true, true, false, false, false, false, false, false, false, false, false] rfl rfl (any_of HT_.out (by kernel_rfl)) (fun _ _ _ h => h) (Or.inl ⟨by rfl, ?_⟩) ?_ ?_
        rotate_left
        · intro w'
          go_simp
          with_reducible rfl
        rotate_left
        · (try simp only [Act.put, List.setIfInBounds_toArray, List.set_cons_zero, List.set_cons_succ])
          rfl
        refine pure_ (i := 22) (N := some 70) (v := ?_) (a' := ?_) #[true, true, true, true, true, true, true, true, true, true, true, true, true, true, true, true, true, true, true, true, true, true, true, false, false, false, false, false, false, false, false] rfl rfl (any_of HT_.out (by kernel_rfl)) (fun _ _ _ h => h) (Or.inl ⟨by rfl, ?_⟩) ?_ ?_
        rotate_left
        · intro w'
          go_simp
          with_reducible rfl
        rotate_left
        · (try simp only [Act.put, List.setIfInBounds_toArray, List.set_cons_zero, List.set_cons_succ])
          rfl
        refine pure_ (i := 23) (N := some 71) (v := ?_) (a' := ?_) #[true, true, true, true, true, true, true, true, true, true, true, true, true, true, true, true, true, true, true, true, true, true, true, true, false, false, false, false, false, false, false] rfl rfl (any_of HT_.out (by kernel_rfl)) (fun _ _ _ h => h) (Or.inl ⟨by rfl, ?_⟩) ?_ ?_
        rotate_left
        · intro w'
          go_simp
          with_reducible rfl
        rotate_left
        · (try simp only [Act.put, List.setIfInBounds_toArray, List.set_cons_zero, List.set_cons_succ])
          rfl
        refine pure_ (i := 24) (N := some 72) (v := ?_) (a' := ?_) #[true, true, true, true, true, true, true, true, true, true, true, true, true, true, true, true, true, true, true, true, true, true, true, true, true, false, false, false, false, false, false] rfl rfl (any_of HT_.out (by kernel_rfl)) (fun _ _ _ h => h) (Or.inl ⟨by rfl, ?_⟩) ?_ ?_
        rotate_left
        · intro w'
          go_simp
          with_reducible rfl
        rotate_left
        · (try simp only [Act.put, List.setIfInBounds_toArray, List.set_cons_zero, List.set_cons_succ])
          rfl
        refine pure_ (i := 25) (N := some 73) (v := ?_) (a' := ?_) #[true, true, true, true, true, true, true, true, true, true, true, true, true, true, true, true, true, true, true, true, true, true, true, true, true, true, false, false, false, false, false] rfl rfl (any_of HT_.out (by kernel_rfl)) (fun _ _ _ h => h) (Or.inl ⟨by rfl, ?_⟩) ?_ ?_
        rotate_left
        · intro w'
          go_simp
          with_reducible rfl
        rotate_left
        · (try simp only [Act.put, List.setIfInBounds_toArray, List.set_cons_zero, List.set_cons_succ])
          rfl
        refine take_ (i := 26) (N := some 74) (v := ?_) (a' := ?_) #[true, true, true, true, true, true, true, true, true, true, true, true, true, true, true, true, true, true, true, true, true, true, true, true, true, true, true, false, false, false, false] rfl rfl (take_ofW HT_.out HW_.out (by kernel_rfl)) (fun _ _ _ h => h) (Or.inl ⟨by rfl, ?_⟩) hHeld ?_ ?_
        rotate_left
        · intro w' hS_
          have hx_ : w'.cell? ⟨w8.heap.size, 2, none⟩ = some (.int .i64 8) := blk_cell hS_ 2
          go_simp
          with_reducible rfl
        rotate_left
        · (try simp only [Act.put, List.setIfInBounds_toArray, List.set_cons_zero, List.set_cons_succ])
          rfl
        refine one_ (i := 27) (N := some 75) #[true, true, true, true, true, true, true, true, true, true, true, true, true, true, true, true, true, true, true, true, true, true, true, true, true, true, true, true, false, false, false] rfl rfl (one_of HT_.out (by kernel_rfl)) (by decide) (fun K hK => ?_)
        refine goes_ Try.func21 (by kernel_rfl) rfl #[.int .u64 x, .int .i64 8] (by rfl) rfl rfl (by (try simp only [List.map_toArray, List.map_cons, List.map_nil]); first | done | rfl) ?_
        refine (low_c x x0 8 (by omega) _).mono ?_
        rintro e w' ⟨Al, cl, rfl, hcl, hCl, hB⟩
        refine ⟨_, rfl, ?_⟩
        have HXn := Aside0.mk ((hB.block _ (blk_lt hHeld)).trans hHeld)
        replace HD := Aside0.mk (HD.out.trans (hB.mono HD.out.size))
        replace RJ := Aside0.mk (Kd.R_below RJ.out hB)
        replace HC1 := Aside0.mk (Kd.C_below HC1.out hB)
        replace HC2 := Aside0.mk (Kd.C_below HC2.out hB)
        have HCl := Aside0.mk hCl
        clear hB hCl
        clear hHeld
        refine hK.out _ _ (HXn.out) (fun hHeld => ?_)
        clear hK K
        refine norm_ (a' := ?_) ?_ ?_
        rotate_left
        · show Act.put _ (some 75) _ = _
          (try simp only [Act.put, List.setIfInBounds_toArray, List.set_cons_zero, List.set_cons_succ])
          rfl
        refine one_ (i := 28) (N := some 76) #[true, true, true, true, true, true, true, true, true, true, true, true, true, true, true, true, true, true, true, true, true, true, true, true, true, true, true, true, true, false, false] rfl rfl (one_of HT_.out (by kernel_rfl)) (by decide) (fun K hK => ?_)
        refine goes_ Try.func16 (by kernel_rfl) rfl #[.slice At 8 ct, .slice Al 8 cl] (by rfl) rfl rfl (by (try simp only [List.map_toArray, List.map_cons, List.map_nil]); first | done | rfl) ?_
        refine (same_c At Al 8 8 ct cl (bs 8 x) _ HC2.out hctl HCl.out hcl (by omega)).mono ?_
        rintro e w' ⟨rfl, hD⟩
        refine ⟨_, rfl, ?_⟩
        have hB := hD.below
        have HXn := Aside0.mk ((hB.block _ (blk_lt hHeld)).trans hHeld)
        replace HD := Aside0.mk (HD.out.trans (hB.mono HD.out.size))
        replace RJ := Aside0.mk (Kd.R_below RJ.out hB)
        replace HC1 := Aside0.mk (Kd.C_below HC1.out hB)
        replace HC2 := Aside0.mk (Kd.C_below HC2.out hB)
        clear hB hD
        clear hHeld
        refine hK.out _ _ (HXn.out) (fun hHeld => ?_)
        clear hK K
        refine norm_ (a' := ?_) ?_ ?_
        rotate_left
        · show Act.put _ (some 76) _ = _
          (try simp only [Act.put, List.setIfInBounds_toArray, List.set_cons_zero, List.set_cons_succ])
          rfl
        refine pure_ (i := 29) (N := some 77) (v := ?_) (a' := ?_) #[true, true, true, true, true, true, true, true, true, true, true, true, true, true, true, true, true, true, true, true, true, true, true, true, true, true, true, true, true, true, false] rfl rfl (any_of HT_.out (by kernel_rfl)) (fun _ _ _ h => h) (Or.inl ⟨by rfl, ?_⟩) ?_ ?_
        rotate_left
        · intro w'
          go_simp
          with_reducible rfl
        rotate_left
        · (try simp only [Act.put, List.setIfInBounds_toArray, List.set_cons_zero, List.set_cons_succ])
          rfl
        refine pure_ (i := 30) (N := some 78) (v := ?_) (a' := ?_) #[true, true, true, true, true, true, true, true, true, true, true, true, true, true, true, true, true, true, true, true, true, true, true, true, true, true, true, true, true, true, true] rfl rfl (any_of HT_.out (by kernel_rfl)) (fun _ _ _ h => h) (Or.inl ⟨by rfl, ?_⟩) ?_ ?_
        rotate_left
        · intro w'
          go_simp
          with_reducible rfl
        rotate_left
        · (try simp only [Act.put, List.setIfInBounds_toArray, List.set_cons_zero, List.set_cons_succ])
          rfl
        refine done_ (done_of HT_.out (by kernel_rfl)) ?_
        clear hHeld HC1 HC2
        try clear HXn HCl
        go_wp2_with fail
        go_loopw [81] (fun v81 wr => ∃ (m : Nat) (ys : List Int), m ≤ l.length + 8 ∧ v81 = .int .i64 m ∧ Aside0 (ys.length = l.length + 8) ∧ Aside0 (Kd.R (Kd.int .u8) 5 wr w8.heap.size (fun k => k = b8) (.slice (some ⟨b8, 0, none⟩) (l.length + 8) d8) ys) ∧ Aside0 (Below (w8.alloc (.cells #[.int .i64 2, .int .i64 4, .int .i64 8] 29)).heap.size (w8.alloc (.cells #[.int .i64 2, .int .i64 4, .int .i64 8] 29)) wr)) (fun v81 _ => l.length + 8 - (intOf v81).toNat)
        case atStart => exact ⟨0, _, Nat.zero_le _, rfl, ⟨by simp [bs_length]⟩, RJ, HD⟩
        case round =>
          clear RJ HD
          obtain ⟨m, ys, hm, rfl, hys, RJ, HD⟩ := hrel
          by_cases hlm : m < l.length + 8
          · obtain ⟨hcc, hff⟩ := Kd.R_celln 0 RJ.out (m : Int) (by omega) (by omega)
            simp only [Int.toNat_natCast] at hcc hff
            go_wp2
            go_roundw
            case rel => exact ⟨m + 1, _, by omega, by simp, ⟨(List.length_set).trans hys.out⟩, ⟨by exact R_putk RJ.out m _⟩, ⟨by exact Below.setCell HD.out (by simp; omega) _⟩⟩
            case measure => simp [intOf]; omega
          · obtain rfl : m = l.length + 8 := by omega
            go_wp2
            go_roundw
            case rel => exact ⟨3, by omega, by simp, ⟨fun h => absurd h (by omega)⟩, ⟨fun h => absurd h (by omega)⟩, ⟨fun h => absurd h (by omega)⟩, HD⟩
            case measure => simp [intOf]
    · obtain rfl : k = 3 := by omega
      clear R2 R4 R8
      have HB2 := Aside0.mk (step_below HB.out HD.out)
      obtain ⟨At, ct, hcB, hdr, hctl⟩ := cut_tail A6 (l.length + 9) c6 l nines 9 rfl rfl hc6
      have hC2 := hdr wr (Kd.C_below HG.out HD.out)
      clear hdr
      have HC2 := Aside0.mk hC2
      clear hC2
      obtain ⟨ad, eA, _⟩ := Kd.at_int HC2.out 0 (by omega) (by omega)
      subst eA
      go_wp2_with fail
      go_loopw [97] (fun v97 wx => ∃ m : Nat, m ≤ 9 ∧ v97 = .int .i64 m ∧ Aside0 (Kd.C (Kd.int .u8) wx (some ad) 9 nines) ∧ Aside0 (Kd.C (Kd.int .u8) wx Aw l.length l) ∧ Aside0 (Kd.C (Kd.int .u8) wx A6 l.length l) ∧ Aside0 (Below w.heap.size w wx)) (fun v97 _ => 9 - (intOf v97).toNat)
      case atStart => exact ⟨0, by omega, rfl, HC2, ⟨Kd.C_below HW.out HD.out⟩, ⟨Kd.C_below HI.out HD.out⟩, HB2⟩
      case round =>
        clear HC2 HB2
        obtain ⟨m, hm, rfl, HC2, HW2, HI2, HB2⟩ := hrel
        by_cases hlm : m < 9
        · obtain ⟨ad', e', hx⟩ := Kd.at_int HC2.out (m : Int) (by omega) (by omega)
          injection e' with e'
          subst e'
          rw [rd_nines m hlm, Int.toNat_natCast] at hx
          go_wp2
          go_roundw
          case rel => exact ⟨m + 1, by omega, by simp, HC2, HW2, HI2, HB2⟩
          case measure => simp [intOf]; omega
        · obtain rfl : m = 9 := by omega
          go_wp2_with fail
          refine (same_c A6 Aw l.length l.length c6 cw l _ HI2.out (by omega) HW2.out hcw (by omega)).mono ?_
          rintro e w' ⟨rfl, hD⟩
          go_wp2
          go_ret
          exact ⟨rfl, step_below HB2.out hD.below⟩
end Go.Proofs.Ytpejeeemefmafaa.RD
