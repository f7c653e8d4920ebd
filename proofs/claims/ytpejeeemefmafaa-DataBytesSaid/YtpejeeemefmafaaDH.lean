import Derived.Test.YtpejeeemefmafaaDG
namespace Go.Proofs.Ytpejeeemefmafaa.RD
open Go.RowKit Go.Proofs.YtpejeeemefmafaaW.PrintWords Go.Proofs.YtpejeeemefmafaaW.PrintLast Go.Proofs.YtpejeeemefmafaaW.PrintMore
open Go.Proofs.Ytpejeeemefmafaa.PE.L (below_drewN' below_drew')
open PH
set_option linter.unusedVariables false
set_option linter.unusedSimpArgs false
def dbytes.T7 : Bool × List (List Nat × List Nat) := (true, [([], []), ([0], [0]), ([], []), ([2, 1], [2]), ([1, 3, 3], [1, 3]), ([4, 4], [4]), ([5], [5]), ([5], [5]), ([6, 7, 5], [5, 6, 7]), ([5, 8], [5, 8]), ([9, 5], [9]), ([10], [10]), ([10], [10]), ([11, 12, 10], [10, 11, 12]), ([10, 13], [10, 13]), ([14, 10, 0, 1, 2, 3, 4, 5, 6, 7, 8, 9, 10, 11, 12, 13, 14], [14])])
def dbytes.B7 : List Nat := [0, 1, 0, 7, 15, 31, 63, 63, 255, 511, 1023, 2047, 2047, 8191, 16383, 32767]
theorem dbytes.tab7 : rtab .any (opsOf Try.f10 7) = dbytes.T7 := by kernel_rfl
theorem dbytes.bits7 : waitsOk dbytes.T7.2 dbytes.B7 = true := by kernel_rfl
set_option maxHeartbeats 4000000 in
set_option maxRecDepth 100000 in
theorem bytes_law (d : Dt) (ok : d.Ok) (A0 : Option Addr) (c0 : Nat) (l : List Int) (w : World) (hr : Kd.C (Kd.int .u8) w A0 l.length l) (hq0 : l.length ≤ c0) (hl : Bytes l) : Calls Try.prog 10 #[.agg #[.int .u32 d.nr, .int .u32 d.ar, .int .u64 d.ip, .int .u64 d.a0, .int .u64 d.a1, .int .u64 d.a2, .int .u64 d.a3, .int .u64 d.a4, .int .u64 d.a5], .slice A0 l.length c0] w fun e w' => e = .returned (.bool true) ∧ Below w.heap.size w w' := by
  have OK := Aside0.mk ok
  have HL := Aside0.mk hl
  have HR := Aside0.mk hr
  clear ok hl hr
  by_cases hb : 1000 < l.length
  · skip
    have t1 : decide (1000 < (l.length : Int)) = true := decide_eq_true (by omega)
    have t2 : decide (1000 < l.length) = true := decide_eq_true (by omega)
    go_enter Try.func10, Try.ntmps10
    have HX := Aside0.mk (heap_alloc_new w (.cells #[.int .u32 d.nr, .int .u32 d.ar, .int .u64 d.ip, .int .u64 d.a0, .int .u64 d.a1, .int .u64 d.a2, .int .u64 d.a3, .int .u64 d.a4, .int .u64 d.a5] 58))
    have HB := Aside0.mk (below_alloc (Below.refl w.heap.size w) (.cells #[.int .u32 d.nr, .int .u32 d.ar, .int .u64 d.ip, .int .u64 d.a0, .int .u64 d.a1, .int .u64 d.a2, .int .u64 d.a3, .int .u64 d.a4, .int .u64 d.a5] 58))
    go_wp2_with fail
    refine (wakes3_w _).mono ?_
    rintro e w1 ⟨rfl, hB⟩
    replace HX := Aside0.mk ((hB.block _ (blk_lt HX.out)).trans HX.out)
    replace HB := Aside0.mk (HB.out.trans (hB.mono HB.out.size))
    clear hB
    go_wp2
    go_ret
    exact ⟨rfl, HB.out⟩
  have t1 : decide (1000 < (l.length : Int)) = false := decide_eq_false (by omega)
  have t2 : decide (1000 < l.length) = false := decide_eq_false (by omega)
  go_enter Try.func10, Try.ntmps10
  have HX := Aside0.mk (heap_alloc_new w (.cells #[.int .u32 d.nr, .int .u32 d.ar, .int .u64 d.ip, .int .u64 d.a0, .int .u64 d.a1, .int .u64 d.a2, .int .u64 d.a3, .int .u64 d.a4, .int .u64 d.a5] 58))
  have HB := Aside0.mk (below_alloc (Below.refl w.heap.size w) (.cells #[.int .u32 d.nr, .int .u32 d.ar, .int .u64 d.ip, .int .u64 d.a0, .int .u64 d.a1, .int .u64 d.a2, .int .u64 d.a3, .int .u64 d.a4, .int .u64 d.a5] 58))
  go_wp2_with fail
  refine (wakes3_w _).mono ?_
  rintro e w1 ⟨rfl, hB⟩
  replace HX := Aside0.mk ((hB.block _ (blk_lt HX.out)).trans HX.out)
  replace HB := Aside0.mk (HB.out.trans (hB.mono HB.out.size))
  clear hB
  go_wp2_with (first | ((with_reducible refine gate_dst (N := 15) rfl ?_); refine Kd.R_lit (Kd.int .u8) _ 5 ?hg (N := 15) ?hd (xs := ([] : List Int)) (inner := []) (ok := fun _ => True) (okp := fun _ => True) ?hr ?hp (fun _ hk => hk) trivial (Below.refl _ _) (Nat.le_refl _) (by simp) ?_; (case hd => rfl); (case hg => rfl); (case hr => first | (go_simp; done) | (go_simp; rfl)); (case hp => exact (Reps.none _ _)); intro v1 w9 ho4 hb hg_ hnew_; have HO := Aside0.mk ho4; have hBl := Aside0.mk hb; clear hg_ hnew_ hb ho4) | ((with_reducible refine gate_builtin (b := .append) (xs := #[.tmp 15, .tmp 16]) rfl ?_); at_builtin; refine Kd.R_append_rows (Kd.int .u8) (w0 := w1) w1.heap.size rfl (.tmp 15) (.tmp 16) 22 5 (.int .u8 0) 1 rfl Try.underlying22 PH.info5 rfl (by decide) (by omega) v1 [] l _ _ _ (fun _ => True) (fun _ => False) rfl rfl ?aO ?aR (fun _ _ h => h) (fun _ h => h.elim) ?aF ?aB ?aS ?aL ?_; (case aR => exact Kd.C_below HR.out (HB.out.trans (hBl.out.mono HB.out.size))); (case aB => exact hBl.out); (case aF => exact (fun _ _ => trivial)); (case aO => exact HO.out); (case aS => exact below_size hBl.out); (case aL => simp; omega); intro v2 w2 ho hb2 hg hat; rw [List.nil_append] at ho; have hB := hb2; obtain ⟨Ac, cc, rfl, hcc, hCc⟩ := Kd.R_reads ho; have HCc := Aside0.mk hCc; clear hCc ho hb2 hg hat HO hBl))
  replace HX := Aside0.mk ((hB.block _ (blk_lt HX.out)).trans HX.out)
  replace HB := Aside0.mk (HB.out.trans (hB.mono HB.out.size))
  clear hB
  rcases Nat.lt_trichotomy l.length 64 with hn | hn | hn
  · skip
    have HN := Aside0.mk hn
    clear hn
    refine (dec_short Ac l.length cc HN.out _).mono ?_
    rintro e w3 ⟨rfl, hB⟩
    replace HX := Aside0.mk ((hB.block _ (blk_lt HX.out)).trans HX.out)
    replace HB := Aside0.mk (HB.out.trans (hB.mono HB.out.size))
    clear hB
    clear HCc
    have HY := Aside0.mk (heap_alloc_new w3 (.cells #[.int .u32 0, .int .u32 0, .int .u64 0, .int .u64 0, .int .u64 0, .int .u64 0, .int .u64 0, .int .u64 0, .int .u64 0] 58))
    replace HX := Aside0.mk (blk_alloc HX.out (.cells #[.int .u32 0, .int .u32 0, .int .u64 0, .int .u64 0, .int .u64 0, .int .u64 0, .int .u64 0, .int .u64 0, .int .u64 0] 58))
    replace HB := Aside0.mk (below_alloc HB.out (.cells #[.int .u32 0, .int .u32 0, .int .u64 0, .int .u64 0, .int .u64 0, .int .u64 0, .int .u64 0, .int .u64 0, .int .u64 0] 58))
    go_wp2_with fail
    refine (rdec_short A0 l.length c0 HN.out _).mono ?_
    rintro e u4 ⟨rfl, hB⟩
    replace HX := Aside0.mk ((hB.block _ (blk_lt HX.out)).trans HX.out)
    replace HY := Aside0.mk ((hB.block _ (blk_lt HY.out)).trans HY.out)
    replace HB := Aside0.mk (HB.out.trans (hB.mono HB.out.size))
    clear hB
    have HZ := Aside0.mk (heap_alloc_new u4 (.cells #[.int .u32 0, .int .u32 0, .int .u64 0, .int .u64 0, .int .u64 0, .int .u64 0, .int .u64 0, .int .u64 0, .int .u64 0] 58))
    replace HX := Aside0.mk (blk_alloc HX.out (.cells #[.int .u32 0, .int .u32 0, .int .u64 0, .int .u64 0, .int .u64 0, .int .u64 0, .int .u64 0, .int .u64 0, .int .u64 0] 58))
    replace HY := Aside0.mk (blk_alloc HY.out (.cells #[.int .u32 0, .int .u32 0, .int .u64 0, .int .u64 0, .int .u64 0, .int .u64 0, .int .u64 0, .int .u64 0, .int .u64 0] 58))
    replace HB := Aside0.mk (below_alloc HB.out (.cells #[.int .u32 0, .int .u32 0, .int .u64 0, .int .u64 0, .int .u64 0, .int .u64 0, .int .u64 0, .int .u64 0, .int .u64 0] 58))
    go_wp2_with fail
    have HB2 := Aside0.mk (below_drew' HB.out)
    have HXd := Aside0.mk (show _ ∧ _ ∧ _ from ⟨blk_drew HX.out, blk_drew HY.out, blk_drew HZ.out⟩)
    clear HB HX HY HZ
    obtain ⟨X5, hX5⟩ : ∃ X5, X5 = w3.heap.size := ⟨_, rfl⟩
    obtain ⟨X7, hX7⟩ : ∃ X7, X7 = u4.heap.size := ⟨_, rfl⟩
    rw [← hX5, ← hX7] at HXd ⊢
    clear hX5 hX7
    have HB := HB2
    clear HB2
    have heq : ∀ W : World, (Op.equalIn 10000 58 (.agg #[.int .u32 0, .int .u32 0, .int .u64 0, .int .u64 0, .int .u64 0, .int .u64 0, .int .u64 0, .int .u64 0, .int .u64 0]) (.agg #[.int .u32 0, .int .u32 0, .int .u64 0, .int .u64 0, .int .u64 0, .int .u64 0, .int .u64 0, .int .u64 0, .int .u64 0])).run Try.prog W = .ok true W := fun W => by rw [eq58 W _ _ _ _ _ _ _ _ _ _ _ _ _ _ _ _ _ _ 9997]; simp
    refine start_ (n := 16) (S := fun w' => w'.heap[w.heap.size]? = some (.cells #[.int .u32 d.nr, .int .u32 d.ar, .int .u64 d.ip, .int .u64 d.a0, .int .u64 d.a1, .int .u64 d.a2, .int .u64 d.a3, .int .u64 d.a4, .int .u64 d.a5] 58 (0, 0)) ∧ w'.heap[X5]? = some (.cells #[.int .u32 0, .int .u32 0, .int .u64 0, .int .u64 0, .int .u64 0, .int .u64 0, .int .u64 0, .int .u64 0, .int .u64 0] 58 (0, 0)) ∧ w'.heap[X7]? = some (.cells #[.int .u32 0, .int .u32 0, .int .u64 0, .int .u64 0, .int .u64 0, .int .u64 0, .int .u64 0, .int .u64 0, .int .u64 0] 58 (0, 0))) (ds := []) #[false, false, false, false, false, false, false, false, false, false, false, false, false, false, false, false] (by kernel_rfl) rfl rfl (HXd.out) (fun hHeld => ?_); refine with_tabW dbytes.tab7 dbytes.bits7 (fun HT_ HW_ => ?_)
    clear HXd
    generalize World.drew _ = W9 at HB hHeld ⊢
    refine take_ (i := 0) (N := some 26) (v := ?_) (a' := ?_) #[true, false, false, false, false, false, false, false, false, false, false, false, false, false, false, false] rfl rfl (take_ofW HT_.out HW_.out (by kernel_rfl)) (fun _ _ _ h => h) (Or.inl ⟨by rfl, ?_⟩) hHeld ?_ ?_
    rotate_left
    · intro w' hS_
      have hx0_ : w'.cell? ⟨w.heap.size, 0, none⟩ = some (.int .u32 d.nr) := blk_cell hS_.1 0
      have hx1_ : w'.cell? ⟨w.heap.size, 1, none⟩ = some (.int .u32 d.ar) := blk_cell hS_.1 1
      have hx2_ : w'.cell? ⟨w.heap.size, 2, none⟩ = some (.int .u64 d.ip) := blk_cell hS_.1 2
      have hx3_ : w'.cell? ⟨w.heap.size, 3, none⟩ = some (.int .u64 d.a0) := blk_cell hS_.1 3
      have hx4_ : w'.cell? ⟨w.heap.size, 4, none⟩ = some (.int .u64 d.a1) := blk_cell hS_.1 4
      have hx5_ : w'.cell? ⟨w.heap.size, 5, none⟩ = some (.int .u64 d.a2) := blk_cell hS_.1 5
      have hx6_ : w'.cell? ⟨w.heap.size, 6, none⟩ = some (.int .u64 d.a3) := blk_cell hS_.1 6
      have hx7_ : w'.cell? ⟨w.heap.size, 7, none⟩ = some (.int .u64 d.a4) := blk_cell hS_.1 7
      have hx8_ : w'.cell? ⟨w.heap.size, 8, none⟩ = some (.int .u64 d.a5) := blk_cell hS_.1 8
      go_simp
      with_reducible rfl
    rotate_left
    · (try simp only [Act.put, List.setIfInBounds_toArray, List.set_cons_zero, List.set_cons_succ])
      rfl
    refine take_ (i := 2) (N := some 28) (v := ?_) (a' := ?_) #[true, false, true, false, false, false, false, false, false, false, false, false, false, false, false, false] rfl rfl (take_ofW HT_.out HW_.out (by kernel_rfl)) (fun _ _ _ h => h) (Or.inl ⟨by rfl, ?_⟩) hHeld ?_ ?_
    rotate_left
    · intro w' hS_
      have hx0_ : w'.cell? ⟨w.heap.size, 0, none⟩ = some (.int .u32 d.nr) := blk_cell hS_.1 0
      have hx1_ : w'.cell? ⟨w.heap.size, 1, none⟩ = some (.int .u32 d.ar) := blk_cell hS_.1 1
      have hx2_ : w'.cell? ⟨w.heap.size, 2, none⟩ = some (.int .u64 d.ip) := blk_cell hS_.1 2
      have hx3_ : w'.cell? ⟨w.heap.size, 3, none⟩ = some (.int .u64 d.a0) := blk_cell hS_.1 3
      have hx4_ : w'.cell? ⟨w.heap.size, 4, none⟩ = some (.int .u64 d.a1) := blk_cell hS_.1 4
      have hx5_ : w'.cell? ⟨w.heap.size, 5, none⟩ = some (.int .u64 d.a2) := blk_cell hS_.1 5
      have hx6_ : w'.cell? ⟨w.heap.size, 6, none⟩ = some (.int .u64 d.a3) := blk_cell hS_.1 6
      have hx7_ : w'.cell? ⟨w.heap.size, 7, none⟩ = some (.int .u64 d.a4) := blk_cell hS_.1 7
      have hx8_ : w'.cell? ⟨w.heap.size, 8, none⟩ = some (.int .u64 d.a5) := blk_cell hS_.1 8
      go_simp
      with_reducible rfl
    rotate_left
    · (try simp only [Act.put, List.setIfInBounds_toArray, List.set_cons_zero, List.set_cons_succ])
      rfl
    refine one_ (i := 1) (N := some 27) #[true, true, true, false, false, false, false, false, false, false, false, false, false, false, false, false] rfl rfl (one_of HT_.out (by kernel_rfl)) (by decide) (fun K hK => ?_)
    refine goes_ Try.func38 (by kernel_rfl) rfl #[.agg #[.int .u32 d.nr, .int .u32 d.ar, .int .u64 d.ip, .int .u64 d.a0, .int .u64 d.a1, .int .u64 d.a2, .int .u64 d.a3, .int .u64 d.a4, .int .u64 d.a5]] (by rfl) rfl rfl (by (try simp only [List.map_toArray, List.map_cons, List.map_nil]); first | done | rfl) ?_
    refine (enc_c d OK.out _).mono ?_
    rintro e w' ⟨A1, c1, rfl, l1, hC, hB⟩
    refine ⟨_, rfl, ?_⟩
    have HXn := Aside0.mk (show _ ∧ _ ∧ _ from ⟨(hB.block _ (blk_lt hHeld.1)).trans hHeld.1, (hB.block _ (blk_lt hHeld.2.1)).trans hHeld.2.1, (hB.block _ (blk_lt hHeld.2.2)).trans hHeld.2.2⟩)
    replace HB := Aside0.mk (HB.out.trans (hB.mono HB.out.size))
    have H1 := Aside0.mk hC
    clear hC hB
    clear hHeld
    refine hK.out _ _ (HXn.out) (fun hHeld => ?_)
    clear hK K
    refine norm_ (a' := ?_) ?_ ?_
    rotate_left
    · show Act.put _ (some 27) _ = _
      (try simp only [Act.put, List.setIfInBounds_toArray, List.set_cons_zero, List.set_cons_succ])
      rfl
    refine one_ (i := 3) (N := some 29) #[true, true, true, true, false, false, false, false, false, false, false, false, false, false, false, false] rfl rfl (one_of HT_.out (by kernel_rfl)) (by decide) (fun K hK => ?_)
    refine goes_ Try.func39 (by kernel_rfl) rfl #[.agg #[.int .u32 d.nr, .int .u32 d.ar, .int .u64 d.ip, .int .u64 d.a0, .int .u64 d.a1, .int .u64 d.a2, .int .u64 d.a3, .int .u64 d.a4, .int .u64 d.a5]] (by rfl) rfl rfl (by (try simp only [List.map_toArray, List.map_cons, List.map_nil]); first | done | rfl) ?_
    refine (rbytes_c d OK.out _).mono ?_
    rintro e w' ⟨A2, c2, rfl, l2, hC, hB⟩
    refine ⟨_, rfl, ?_⟩
    clear HXn
    have HXn := Aside0.mk (show _ ∧ _ ∧ _ from ⟨(hB.block _ (blk_lt hHeld.1)).trans hHeld.1, (hB.block _ (blk_lt hHeld.2.1)).trans hHeld.2.1, (hB.block _ (blk_lt hHeld.2.2)).trans hHeld.2.2⟩)
    replace HB := Aside0.mk (HB.out.trans (hB.mono HB.out.size))
    replace H1 := Aside0.mk (Kd.C_below H1.out hB)
    have H2 := Aside0.mk hC
    clear hC hB
    clear hHeld
    refine hK.out _ _ (HXn.out) (fun hHeld => ?_)
    clear hK K
    refine norm_ (a' := ?_) ?_ ?_
    rotate_left
    · show Act.put _ (some 29) _ = _
      (try simp only [Act.put, List.setIfInBounds_toArray, List.set_cons_zero, List.set_cons_succ])
      rfl
    refine one_ (i := 4) (N := some 30) #[true, true, true, true, true, false, false, false, false, false, false, false, false, false, false, false] rfl rfl (one_of HT_.out (by kernel_rfl)) (by decide) (fun K hK => ?_)
    refine goes_ Try.func16 (by kernel_rfl) rfl #[.slice A1 64 c1, .slice A2 64 c2] (by rfl) rfl rfl (by (try simp only [List.map_toArray, List.map_cons, List.map_nil]); first | done | rfl) ?_
    refine (same_c A1 A2 64 64 c1 c2 d.bytes _ H1.out l1 H2.out l2 (by omega)).mono ?_
    rintro e w' ⟨rfl, hD⟩
    refine ⟨_, rfl, ?_⟩
    clear HXn
    have hB := hD.below
    have HXn := Aside0.mk (show _ ∧ _ ∧ _ from ⟨(hB.block _ (blk_lt hHeld.1)).trans hHeld.1, (hB.block _ (blk_lt hHeld.2.1)).trans hHeld.2.1, (hB.block _ (blk_lt hHeld.2.2)).trans hHeld.2.2⟩)
    replace HB := Aside0.mk (HB.out.trans (hB.mono HB.out.size))
    clear hB hD
    clear hHeld
    refine hK.out _ _ (HXn.out) (fun hHeld => ?_)
    clear hK K
    refine norm_ (a' := ?_) ?_ ?_
    rotate_left
    · show Act.put _ (some 30) _ = _
      (try simp only [Act.put, List.setIfInBounds_toArray, List.set_cons_zero, List.set_cons_succ])
      rfl
    refine pure_ (i := 5) (N := some 31) (v := ?_) (a' := ?_) #[true, true, true, true, true, true, false, false, false, false, false, false, false, false, false, false] rfl rfl (any_of HT_.out (by kernel_rfl)) (fun _ _ _ h => h) (Or.inl ⟨by rfl, ?_⟩) ?_ ?_
    rotate_left
    · intro w'
      go_simp
      with_reducible rfl
    rotate_left
    · (try simp only [Act.put, List.setIfInBounds_toArray, List.set_cons_zero, List.set_cons_succ])
      rfl
    refine take_ (i := 6) (N := some 32) (v := ?_) (a' := ?_) #[true, true, true, true, true, true, true, false, false, false, false, false, false, false, false, false] rfl rfl (take_ofW HT_.out HW_.out (by kernel_rfl)) (fun _ _ _ h => h) (Or.inl ⟨by rfl, ?_⟩) hHeld ?_ ?_
    rotate_left
    · intro w' hS_
      have hx0_ : w'.cell? ⟨X5, 0, none⟩ = some (.int .u32 0) := blk_cell hS_.2.1 0
      have hx1_ : w'.cell? ⟨X5, 1, none⟩ = some (.int .u32 0) := blk_cell hS_.2.1 1
      have hx2_ : w'.cell? ⟨X5, 2, none⟩ = some (.int .u64 0) := blk_cell hS_.2.1 2
      have hx3_ : w'.cell? ⟨X5, 3, none⟩ = some (.int .u64 0) := blk_cell hS_.2.1 3
      have hx4_ : w'.cell? ⟨X5, 4, none⟩ = some (.int .u64 0) := blk_cell hS_.2.1 4
      have hx5_ : w'.cell? ⟨X5, 5, none⟩ = some (.int .u64 0) := blk_cell hS_.2.1 5
      have hx6_ : w'.cell? ⟨X5, 6, none⟩ = some (.int .u64 0) := blk_cell hS_.2.1 6
      have hx7_ : w'.cell? ⟨X5, 7, none⟩ = some (.int .u64 0) := blk_cell hS_.2.1 7
      have hx8_ : w'.cell? ⟨X5, 8, none⟩ = some (.int .u64 0) := blk_cell hS_.2.1 8
      go_simp
      with_reducible rfl
    rotate_left
    · (try simp only [Act.put, List.setIfInBounds_toArray, List.set_cons_zero, List.set_cons_succ])
      rfl
    refine take_ (i := 7) (N := some 33) (v := ?_) (a' := ?_) #[true, true, true, true, true, true, true, true, false, false, false, false, false, false, false, false] rfl rfl (take_ofW HT_.out HW_.out (by kernel_rfl)) (fun _ _ _ h => h) (Or.inl ⟨by rfl, ?_⟩) hHeld ?_ ?_
    rotate_left
    · intro w' hS_
      have hx0_ : w'.cell? ⟨X7, 0, none⟩ = some (.int .u32 0) := blk_cell hS_.2.2 0
      have hx1_ : w'.cell? ⟨X7, 1, none⟩ = some (.int .u32 0) := blk_cell hS_.2.2 1
      have hx2_ : w'.cell? ⟨X7, 2, none⟩ = some (.int .u64 0) := blk_cell hS_.2.2 2
      have hx3_ : w'.cell? ⟨X7, 3, none⟩ = some (.int .u64 0) := blk_cell hS_.2.2 3
      have hx4_ : w'.cell? ⟨X7, 4, none⟩ = some (.int .u64 0) := blk_cell hS_.2.2 4
      have hx5_ : w'.cell? ⟨X7, 5, none⟩ = some (.int .u64 0) := blk_cell hS_.2.2 5
      have hx6_ : w'.cell? ⟨X7, 6, none⟩ = some (.int .u64 0) := blk_cell hS_.2.2 6
      have hx7_ : w'.cell? ⟨X7, 7, none⟩ = some (.int .u64 0) := blk_cell hS_.2.2 7
      have hx8_ : w'.cell? ⟨X7, 8, none⟩ = some (.int .u64 0) := blk_cell hS_.2.2 8
      go_simp
      with_reducible rfl
    rotate_left
    · (try simp only [Act.put, List.setIfInBounds_toArray, List.set_cons_zero, List.set_cons_succ])
      rfl
    refine pure_ (i := 8) (N := some 34) (v := ?_) (a' := ?_) #[true, true, true, true, true, true, true, true, true, false, false, false, false, false, false, false] rfl rfl (any_of HT_.out (by kernel_rfl)) (fun _ _ _ h => h) (Or.inl ⟨by rfl, ?_⟩) ?_ ?_
    rotate_left
    · intro w'
      go_simp
      with_reducible rfl
    rotate_left
    · (try simp only [Act.put, List.setIfInBounds_toArray, List.set_cons_zero, List.set_cons_succ])
      rfl
    refine pure_ (i := 9) (N := some 35) (v := ?_) (a' := ?_) #[true, true, true, true, true, true, true, true, true, true, false, false, false, false, false, false] rfl rfl (any_of HT_.out (by kernel_rfl)) (fun _ _ _ h => h) (Or.inl ⟨by rfl, ?_⟩) ?_ ?_
    rotate_left
    · intro w'
      go_simp
      with_reducible rfl
    rotate_left
    · (try simp only [Act.put, List.setIfInBounds_toArray, List.set_cons_zero, List.set_cons_succ])
      rfl
    refine pure_ (i := 10) (N := some 36) (v := ?_) (a' := ?_) #[true, true, true, true, true, true, true, true, true, true, true, false, false, false, false, false] rfl rfl (any_of HT_.out (by kernel_rfl)) (fun _ _ _ h => h) (Or.inl ⟨by rfl, ?_⟩) ?_ ?_
    rotate_left
    · intro w'
      go_simp
      with_reducible rfl
    rotate_left
    · (try simp only [Act.put, List.setIfInBounds_toArray, List.set_cons_zero, List.set_cons_succ])
      rfl
    refine pure_ (i := 11) (N := some 37) (v := ?_) (a' := ?_) #[true, true, true, true, true, true, true, true, true, true, true, true, false, false, false, false] rfl rfl (any_of HT_.out (by kernel_rfl)) (fun _ _ _ h => h) (Or.inl ⟨by rfl, ?_⟩) ?_ ?_
    rotate_left
    · intro w'
      go_simp
      with_reducible rfl
    rotate_left
    · (try simp only [Act.put, List.setIfInBounds_toArray, List.set_cons_zero, List.set_cons_succ])
      rfl
    refine pure_ (i := 12) (N := some 38) (v := ?_) (a' := ?_) #[true, true, true, true, true, true, true, true, true, true, true, true, true, false, false, false] rfl rfl (any_of HT_.out (by kernel_rfl)) (fun _ _ _ h => h) (Or.inl ⟨by rfl, ?_⟩) ?_ ?_
    rotate_left
    · intro w'
      go_simp
      with_reducible rfl
    rotate_left
    · (try simp only [Act.put, List.setIfInBounds_toArray, List.set_cons_zero, List.set_cons_succ])
      rfl
    refine pure_ (i := 13) (N := some 39) (v := ?_) (a' := ?_) #[true, true, true, true, true, true, true, true, true, true, true, true, true, true, false, false] rfl rfl (any_of HT_.out (by kernel_rfl)) (fun _ _ _ h => h) (Or.inl ⟨by rfl, ?_⟩) ?_ ?_
    rotate_left
    · intro w'
      go_simp
      with_reducible rfl
    rotate_left
    · (try simp only [Act.put, List.setIfInBounds_toArray, List.set_cons_zero, List.set_cons_succ])
      rfl
    refine pure_ (i := 14) (N := some 40) (v := ?_) (a' := ?_) #[true, true, true, true, true, true, true, true, true, true, true, true, true, true, true, false] rfl rfl (any_of HT_.out (by kernel_rfl)) (fun _ _ _ h => h) (Or.inl ⟨by rfl, ?_⟩) ?_ ?_
    rotate_left
    · intro w'
      go_simp
      with_reducible rfl
    rotate_left
    · (try simp only [Act.put, List.setIfInBounds_toArray, List.set_cons_zero, List.set_cons_succ])
      rfl
    refine pure_ (i := 15) (N := some 4) (v := ?_) (a' := ?_) #[true, true, true, true, true, true, true, true, true, true, true, true, true, true, true, true] rfl rfl (any_of HT_.out (by kernel_rfl)) (fun _ _ _ h => h) (Or.inl ⟨by rfl, ?_⟩) ?_ ?_
    rotate_left
    · intro w'
      go_simp
      with_reducible rfl
    rotate_left
    · (try simp only [Act.put, List.setIfInBounds_toArray, List.set_cons_zero, List.set_cons_succ])
      rfl
    refine done_ (done_of HT_.out (by kernel_rfl)) ?_
    try go_wp2
    go_ret
    exact ⟨rfl, HB.out⟩
  · skip
    have HN := Aside0.mk hn
    clear hn
    have hd1 := dec_ok Ac cc l HL.out _ (by rw [← HN.out]; exact HCc.out) (by have := HN.out; omega)
    rw [← HN.out] at hd1
    refine hd1.mono ?_
    clear hd1
    rintro e w3 ⟨rfl, hB⟩
    replace HX := Aside0.mk ((hB.block _ (blk_lt HX.out)).trans HX.out)
    replace HB := Aside0.mk (HB.out.trans (hB.mono HB.out.size))
    clear hB
    clear HCc
    have HY := Aside0.mk (heap_alloc_new w3 (.cells #[.int .u32 (w4 l 0), .int .u32 (w4 l 4), .int .u64 (w8 l 8), .int .u64 (w8 l 16), .int .u64 (w8 l 24), .int .u64 (w8 l 32), .int .u64 (w8 l 40), .int .u64 (w8 l 48), .int .u64 (w8 l 56)] 58))
    replace HX := Aside0.mk (blk_alloc HX.out (.cells #[.int .u32 (w4 l 0), .int .u32 (w4 l 4), .int .u64 (w8 l 8), .int .u64 (w8 l 16), .int .u64 (w8 l 24), .int .u64 (w8 l 32), .int .u64 (w8 l 40), .int .u64 (w8 l 48), .int .u64 (w8 l 56)] 58))
    replace HB := Aside0.mk (below_alloc HB.out (.cells #[.int .u32 (w4 l 0), .int .u32 (w4 l 4), .int .u64 (w8 l 8), .int .u64 (w8 l 16), .int .u64 (w8 l 24), .int .u64 (w8 l 32), .int .u64 (w8 l 40), .int .u64 (w8 l 48), .int .u64 (w8 l 56)] 58))
    go_wp2_with fail
    have hd1 := rdec_ok A0 c0 l HL.out _ (by rw [← HN.out]; exact Kd.C_below HR.out HB.out) (by have := HN.out; omega)
    rw [← HN.out] at hd1
    refine hd1.mono ?_
    clear hd1
    rintro e u4 ⟨rfl, hB⟩
    replace HX := Aside0.mk ((hB.block _ (blk_lt HX.out)).trans HX.out)
    replace HY := Aside0.mk ((hB.block _ (blk_lt HY.out)).trans HY.out)
    replace HB := Aside0.mk (HB.out.trans (hB.mono HB.out.size))
    clear hB
    have HZ := Aside0.mk (heap_alloc_new u4 (.cells #[.int .u32 (w4 l 0), .int .u32 (w4 l 4), .int .u64 (w8 l 8), .int .u64 (w8 l 16), .int .u64 (w8 l 24), .int .u64 (w8 l 32), .int .u64 (w8 l 40), .int .u64 (w8 l 48), .int .u64 (w8 l 56)] 58))
    replace HX := Aside0.mk (blk_alloc HX.out (.cells #[.int .u32 (w4 l 0), .int .u32 (w4 l 4), .int .u64 (w8 l 8), .int .u64 (w8 l 16), .int .u64 (w8 l 24), .int .u64 (w8 l 32), .int .u64 (w8 l 40), .int .u64 (w8 l 48), .int .u64 (w8 l 56)] 58))
    replace HY := Aside0.mk (blk_alloc HY.out (.cells #[.int .u32 (w4 l 0), .int .u32 (w4 l 4), .int .u64 (w8 l 8), .int .u64 (w8 l 16), .int .u64 (w8 l 24), .int .u64 (w8 l 32), .int .u64 (w8 l 40), .int .u64 (w8 l 48), .int .u64 (w8 l 56)] 58))
    replace HB := Aside0.mk (below_alloc HB.out (.cells #[.int .u32 (w4 l 0), .int .u32 (w4 l 4), .int .u64 (w8 l 8), .int .u64 (w8 l 16), .int .u64 (w8 l 24), .int .u64 (w8 l 32), .int .u64 (w8 l 40), .int .u64 (w8 l 48), .int .u64 (w8 l 56)] 58))
    go_wp2_with fail
    have HB2 := Aside0.mk (below_drew' HB.out)
    have HXd := Aside0.mk (show _ ∧ _ ∧ _ from ⟨blk_drew HX.out, blk_drew HY.out, blk_drew HZ.out⟩)
    clear HB HX HY HZ
    obtain ⟨X5, hX5⟩ : ∃ X5, X5 = w3.heap.size := ⟨_, rfl⟩
    obtain ⟨X7, hX7⟩ : ∃ X7, X7 = u4.heap.size := ⟨_, rfl⟩
    rw [← hX5, ← hX7] at HXd ⊢
    clear hX5 hX7
    have HB := HB2
    clear HB2
    have heq : ∀ W : World, (Op.equalIn 10000 58 (.agg #[.int .u32 (w4 l 0), .int .u32 (w4 l 4), .int .u64 (w8 l 8), .int .u64 (w8 l 16), .int .u64 (w8 l 24), .int .u64 (w8 l 32), .int .u64 (w8 l 40), .int .u64 (w8 l 48), .int .u64 (w8 l 56)]) (.agg #[.int .u32 (w4 l 0), .int .u32 (w4 l 4), .int .u64 (w8 l 8), .int .u64 (w8 l 16), .int .u64 (w8 l 24), .int .u64 (w8 l 32), .int .u64 (w8 l 40), .int .u64 (w8 l 48), .int .u64 (w8 l 56)])).run Try.prog W = .ok true W := fun W => by rw [eq58 W _ _ _ _ _ _ _ _ _ _ _ _ _ _ _ _ _ _ 9997]; simp
    refine start_ (n := 16) (S := fun w' => w'.heap[w.heap.size]? = some (.cells #[.int .u32 d.nr, .int .u32 d.ar, .int .u64 d.ip, .int .u64 d.a0, .int .u64 d.a1, .int .u64 d.a2, .int .u64 d.a3, .int .u64 d.a4, .int .u64 d.a5] 58 (0, 0)) ∧ w'.heap[X5]? = some (.cells #[.int .u32 (w4 l 0), .int .u32 (w4 l 4), .int .u64 (w8 l 8), .int .u64 (w8 l 16), .int .u64 (w8 l 24), .int .u64 (w8 l 32), .int .u64 (w8 l 40), .int .u64 (w8 l 48), .int .u64 (w8 l 56)] 58 (0, 0)) ∧ w'.heap[X7]? = some (.cells #[.int .u32 (w4 l 0), .int .u32 (w4 l 4), .int .u64 (w8 l 8), .int .u64 (w8 l 16), .int .u64 (w8 l 24), .int .u64 (w8 l 32), .int .u64 (w8 l 40), .int .u64 (w8 l 48), .int .u64 (w8 l 56)] 58 (0, 0))) (ds := []) #[false, false, false, false, false, false, false, false, false, false, false, false, false, false, false, false] (by kernel_rfl) rfl rfl (HXd.out) (fun hHeld => ?_); refine with_tabW dbytes.tab7 dbytes.bits7 (fun HT_ HW_ => ?_)
    clear HXd
    generalize World.drew _ = W9 at HB hHeld ⊢
    refine take_ (i := 0) (N := some 26) (v := ?_) (a' := ?_) #[true, false, false, false, false, false, false, false, false, false, false, false, false, false, false, false] rfl rfl (take_ofW HT_.out HW_.out (by kernel_rfl)) (fun _ _ _ h => h) (Or.inl ⟨by rfl, ?_⟩) hHeld ?_ ?_
    rotate_left
    · intro w' hS_
      have hx0_ : w'.cell? ⟨w.heap.size, 0, none⟩ = some (.int .u32 d.nr) := blk_cell hS_.1 0
      have hx1_ : w'.cell? ⟨w.heap.size, 1, none⟩ = some (.int .u32 d.ar) := blk_cell hS_.1 1
      have hx2_ : w'.cell? ⟨w.heap.size, 2, none⟩ = some (.int .u64 d.ip) := blk_cell hS_.1 2
      have hx3_ : w'.cell? ⟨w.heap.size, 3, none⟩ = some (.int .u64 d.a0) := blk_cell hS_.1 3
      have hx4_ : w'.cell? ⟨w.heap.size, 4, none⟩ = some (.int .u64 d.a1) := blk_cell hS_.1 4
      have hx5_ : w'.cell? ⟨w.heap.size, 5, none⟩ = some (.int .u64 d.a2) := blk_cell hS_.1 5
      have hx6_ : w'.cell? ⟨w.heap.size, 6, none⟩ = some (.int .u64 d.a3) := blk_cell hS_.1 6
      have hx7_ : w'.cell? ⟨w.heap.size, 7, none⟩ = some (.int .u64 d.a4) := blk_cell hS_.1 7
      have hx8_ : w'.cell? ⟨w.heap.size, 8, none⟩ = some (.int .u64 d.a5) := blk_cell hS_.1 8
      go_simp
      with_reducible rfl
    rotate_left
    · (try simp only [Act.put, List.setIfInBounds_toArray, List.set_cons_zero, List.set_cons_succ])
      rfl
    refine take_ (i := 2) (N := some 28) (v := ?_) (a' := ?_) #[true, false, true, false, false, false, false, false, false, false, false, false, false, false, false, false] rfl rfl (take_ofW HT_.out HW_.out (by kernel_rfl)) (fun _ _ _ h => h) (Or.inl ⟨by rfl, ?_⟩) hHeld ?_ ?_
    rotate_left
    · intro w' hS_
      have hx0_ : w'.cell? ⟨w.heap.size, 0, none⟩ = some (.int .u32 d.nr) := blk_cell hS_.1 0
      have hx1_ : w'.cell? ⟨w.heap.size, 1, none⟩ = some (.int .u32 d.ar) := blk_cell hS_.1 1
      have hx2_ : w'.cell? ⟨w.heap.size, 2, none⟩ = some (.int .u64 d.ip) := blk_cell hS_.1 2
      have hx3_ : w'.cell? ⟨w.heap.size, 3, none⟩ = some (.int .u64 d.a0) := blk_cell hS_.1 3
      have hx4_ : w'.cell? ⟨w.heap.size, 4, none⟩ = some (.int .u64 d.a1) := blk_cell hS_.1 4
      have hx5_ : w'.cell? ⟨w.heap.size, 5, none⟩ = some (.int .u64 d.a2) := blk_cell hS_.1 5
      have hx6_ : w'.cell? ⟨w.heap.size, 6, none⟩ = some (.int .u64 d.a3) := blk_cell hS_.1 6
      have hx7_ : w'.cell? ⟨w.heap.size, 7, none⟩ = some (.int .u64 d.a4) := blk_cell hS_.1 7
      have hx8_ : w'.cell? ⟨w.heap.size, 8, none⟩ = some (.int .u64 d.a5) := blk_cell hS_.1 8
      go_simp
      with_reducible rfl
    rotate_left
    · (try simp only [Act.put, List.setIfInBounds_toArray, List.set_cons_zero, List.set_cons_succ])
      rfl
    refine one_ (i := 1) (N := some 27) #[true, true, true, false, false, false, false, false, false, false, false, false, false, false, false, false] rfl rfl (one_of HT_.out (by kernel_rfl)) (by decide) (fun K hK => ?_)
    refine goes_ Try.func38 (by kernel_rfl) rfl #[.agg #[.int .u32 d.nr, .int .u32 d.ar, .int .u64 d.ip, .int .u64 d.a0, .int .u64 d.a1, .int .u64 d.a2, .int .u64 d.a3, .int .u64 d.a4, .int .u64 d.a5]] (by rfl) rfl rfl (by (try simp only [List.map_toArray, List.map_cons, List.map_nil]); first | done | rfl) ?_
    refine (enc_c d OK.out _).mono ?_
    rintro e w' ⟨A1, c1, rfl, l1, hC, hB⟩
    refine ⟨_, rfl, ?_⟩
    have HXn := Aside0.mk (show _ ∧ _ ∧ _ from ⟨(hB.block _ (blk_lt hHeld.1)).trans hHeld.1, (hB.block _ (blk_lt hHeld.2.1)).trans hHeld.2.1, (hB.block _ (blk_lt hHeld.2.2)).trans hHeld.2.2⟩)
    replace HB := Aside0.mk (HB.out.trans (hB.mono HB.out.size))
    have H1 := Aside0.mk hC
    clear hC hB
    clear hHeld
    refine hK.out _ _ (HXn.out) (fun hHeld => ?_)
    clear hK K
    refine norm_ (a' := ?_) ?_ ?_
    rotate_left
    · show Act.put _ (some 27) _ = _
      (try simp only [Act.put, List.setIfInBounds_toArray, List.set_cons_zero, List.set_cons_succ])
      rfl
    refine one_ (i := 3) (N := some 29) #[true, true, true, true, false, false, false, false, false, false, false, false, false, false, false, false] rfl rfl (one_of HT_.out (by kernel_rfl)) (by decide) (fun K hK => ?_)
    refine goes_ Try.func39 (by kernel_rfl) rfl #[.agg #[.int .u32 d.nr, .int .u32 d.ar, .int .u64 d.ip, .int .u64 d.a0, .int .u64 d.a1, .int .u64 d.a2, .int .u64 d.a3, .int .u64 d.a4, .int .u64 d.a5]] (by rfl) rfl rfl (by (try simp only [List.map_toArray, List.map_cons, List.map_nil]); first | done | rfl) ?_
    refine (rbytes_c d OK.out _).mono ?_
    rintro e w' ⟨A2, c2, rfl, l2, hC, hB⟩
    refine ⟨_, rfl, ?_⟩
    clear HXn
    have HXn := Aside0.mk (show _ ∧ _ ∧ _ from ⟨(hB.block _ (blk_lt hHeld.1)).trans hHeld.1, (hB.block _ (blk_lt hHeld.2.1)).trans hHeld.2.1, (hB.block _ (blk_lt hHeld.2.2)).trans hHeld.2.2⟩)
    replace HB := Aside0.mk (HB.out.trans (hB.mono HB.out.size))
    replace H1 := Aside0.mk (Kd.C_below H1.out hB)
    have H2 := Aside0.mk hC
    clear hC hB
    clear hHeld
    refine hK.out _ _ (HXn.out) (fun hHeld => ?_)
    clear hK K
    refine norm_ (a' := ?_) ?_ ?_
    rotate_left
    · show Act.put _ (some 29) _ = _
      (try simp only [Act.put, List.setIfInBounds_toArray, List.set_cons_zero, List.set_cons_succ])
      rfl
    refine one_ (i := 4) (N := some 30) #[true, true, true, true, true, false, false, false, false, false, false, false, false, false, false, false] rfl rfl (one_of HT_.out (by kernel_rfl)) (by decide) (fun K hK => ?_)
    refine goes_ Try.func16 (by kernel_rfl) rfl #[.slice A1 64 c1, .slice A2 64 c2] (by rfl) rfl rfl (by (try simp only [List.map_toArray, List.map_cons, List.map_nil]); first | done | rfl) ?_
    refine (same_c A1 A2 64 64 c1 c2 d.bytes _ H1.out l1 H2.out l2 (by omega)).mono ?_
    rintro e w' ⟨rfl, hD⟩
    refine ⟨_, rfl, ?_⟩
    clear HXn
    have hB := hD.below
    have HXn := Aside0.mk (show _ ∧ _ ∧ _ from ⟨(hB.block _ (blk_lt hHeld.1)).trans hHeld.1, (hB.block _ (blk_lt hHeld.2.1)).trans hHeld.2.1, (hB.block _ (blk_lt hHeld.2.2)).trans hHeld.2.2⟩)
    replace HB := Aside0.mk (HB.out.trans (hB.mono HB.out.size))
    clear hB hD
    clear hHeld
    refine hK.out _ _ (HXn.out) (fun hHeld => ?_)
    clear hK K
    refine norm_ (a' := ?_) ?_ ?_
    rotate_left
    · show Act.put _ (some 30) _ = _
      (try simp only [Act.put, List.setIfInBounds_toArray, List.set_cons_zero, List.set_cons_succ])
      rfl
    refine pure_ (i := 5) (N := some 31) (v := ?_) (a' := ?_) #[true, true, true, true, true, true, false, false, false, false, false, false, false, false, false, false] rfl rfl (any_of HT_.out (by kernel_rfl)) (fun _ _ _ h => h) (Or.inl ⟨by rfl, ?_⟩) ?_ ?_
    rotate_left
    · intro w'
      go_simp
      with_reducible rfl
    rotate_left
    · (try simp only [Act.put, List.setIfInBounds_toArray, List.set_cons_zero, List.set_cons_succ])
      rfl
    refine take_ (i := 6) (N := some 32) (v := ?_) (a' := ?_) #[true, true, true, true, true, true, true, false, false, false, false, false, false, false, false, false] rfl rfl (take_ofW HT_.out HW_.out (by kernel_rfl)) (fun _ _ _ h => h) (Or.inl ⟨by rfl, ?_⟩) hHeld ?_ ?_
    rotate_left
    · intro w' hS_
      have hx0_ : w'.cell? ⟨X5, 0, none⟩ = some (.int .u32 (w4 l 0)) := blk_cell hS_.2.1 0
      have hx1_ : w'.cell? ⟨X5, 1, none⟩ = some (.int .u32 (w4 l 4)) := blk_cell hS_.2.1 1
      have hx2_ : w'.cell? ⟨X5, 2, none⟩ = some (.int .u64 (w8 l 8)) := blk_cell hS_.2.1 2
      have hx3_ : w'.cell? ⟨X5, 3, none⟩ = some (.int .u64 (w8 l 16)) := blk_cell hS_.2.1 3
      have hx4_ : w'.cell? ⟨X5, 4, none⟩ = some (.int .u64 (w8 l 24)) := blk_cell hS_.2.1 4
      have hx5_ : w'.cell? ⟨X5, 5, none⟩ = some (.int .u64 (w8 l 32)) := blk_cell hS_.2.1 5
      have hx6_ : w'.cell? ⟨X5, 6, none⟩ = some (.int .u64 (w8 l 40)) := blk_cell hS_.2.1 6
      have hx7_ : w'.cell? ⟨X5, 7, none⟩ = some (.int .u64 (w8 l 48)) := blk_cell hS_.2.1 7
      have hx8_ : w'.cell? ⟨X5, 8, none⟩ = some (.int .u64 (w8 l 56)) := blk_cell hS_.2.1 8
      go_simp
      with_reducible rfl
    rotate_left
    · (try simp only [Act.put, List.setIfInBounds_toArray, List.set_cons_zero, List.set_cons_succ])
      rfl
    refine take_ (i := 7) (N := some 33) (v := ?_) (a' := ?_) #[true, true, true, true, true, true, true, true, false, false, false, false, false, false, false, false] rfl rfl (take_ofW HT_.out HW_.out (by kernel_rfl)) (fun _ _ _ h => h) (Or.inl ⟨by rfl, ?_⟩) hHeld ?_ ?_
    rotate_left
    · intro w' hS_
      have hx0_ : w'.cell? ⟨X7, 0, none⟩ = some (.int .u32 (w4 l 0)) := blk_cell hS_.2.2 0
      have hx1_ : w'.cell? ⟨X7, 1, none⟩ = some (.int .u32 (w4 l 4)) := blk_cell hS_.2.2 1
      have hx2_ : w'.cell? ⟨X7, 2, none⟩ = some (.int .u64 (w8 l 8)) := blk_cell hS_.2.2 2
      have hx3_ : w'.cell? ⟨X7, 3, none⟩ = some (.int .u64 (w8 l 16)) := blk_cell hS_.2.2 3
      have hx4_ : w'.cell? ⟨X7, 4, none⟩ = some (.int .u64 (w8 l 24)) := blk_cell hS_.2.2 4
      have hx5_ : w'.cell? ⟨X7, 5, none⟩ = some (.int .u64 (w8 l 32)) := blk_cell hS_.2.2 5
      have hx6_ : w'.cell? ⟨X7, 6, none⟩ = some (.int .u64 (w8 l 40)) := blk_cell hS_.2.2 6
      have hx7_ : w'.cell? ⟨X7, 7, none⟩ = some (.int .u64 (w8 l 48)) := blk_cell hS_.2.2 7
      have hx8_ : w'.cell? ⟨X7, 8, none⟩ = some (.int .u64 (w8 l 56)) := blk_cell hS_.2.2 8
      go_simp
      with_reducible rfl
    rotate_left
    · (try simp only [Act.put, List.setIfInBounds_toArray, List.set_cons_zero, List.set_cons_succ])
      rfl
    refine pure_ (i := 8) (N := some 34) (v := ?_) (a' := ?_) #[true, true, true, true, true, true, true, true, true, false, false, false, false, false, false, false] rfl rfl (any_of HT_.out (by kernel_rfl)) (fun _ _ _ h => h) (Or.inl ⟨by rfl, ?_⟩) ?_ ?_
    rotate_left
    · intro w'
      go_simp
      with_reducible rfl
    rotate_left
    · (try simp only [Act.put, List.setIfInBounds_toArray, List.set_cons_zero, List.set_cons_succ])
      rfl
    refine pure_ (i := 9) (N := some 35) (v := ?_) (a' := ?_) #[true, true, true, true, true, true, true, true, true, true, false, false, false, false, false, false] rfl rfl (any_of HT_.out (by kernel_rfl)) (fun _ _ _ h => h) (Or.inl ⟨by rfl, ?_⟩) ?_ ?_
    rotate_left
    · intro w'
      go_simp
      with_reducible rfl
    rotate_left
    · (try simp only [Act.put, List.setIfInBounds_toArray, List.set_cons_zero, List.set_cons_succ])
      rfl
    refine pure_ (i := 10) (N := some 36) (v := ?_) (a' := ?_) #[true, true, true, true, true, true, true, true, true, true, true, false, false, false, false, false] rfl rfl (any_of HT_.out (by kernel_rfl)) (fun _ _ _ h => h) (Or.inl ⟨by rfl, ?_⟩) ?_ ?_
    rotate_left
    · intro w'
      go_simp
      with_reducible rfl
    rotate_left
    · (try simp only [Act.put, List.setIfInBounds_toArray, List.set_cons_zero, List.set_cons_succ])
      rfl
    refine pure_ (i := 11) (N := some 37) (v := ?_) (a' := ?_) #[true, true, true, true, true, true, true, true, true, true, true, true, false, false, false, false] rfl rfl (any_of HT_.out (by kernel_rfl)) (fun _ _ _ h => h) (Or.inl ⟨by rfl, ?_⟩) ?_ ?_
    rotate_left
    · intro w'
      go_simp
      with_reducible rfl
    rotate_left
    · (try simp only [Act.put, List.setIfInBounds_toArray, List.set_cons_zero, List.set_cons_succ])
      rfl
    refine pure_ (i := 12) (N := some 38) (v := ?_) (a' := ?_) #[true, true, true, true, true, true, true, true, true, true, true, true, true, false, false, false] rfl rfl (any_of HT_.out (by kernel_rfl)) (fun _ _ _ h => h) (Or.inl ⟨by rfl, ?_⟩) ?_ ?_
    rotate_left
    · intro w'
      go_simp
      with_reducible rfl
    rotate_left
    · (try simp only [Act.put, List.setIfInBounds_toArray, List.set_cons_zero, List.set_cons_succ])
      rfl
    refine pure_ (i := 13) (N := some 39) (v := ?_) (a' := ?_) #[true, true, true, true, true, true, true, true, true, true, true, true, true, true, false, false] rfl rfl (any_of HT_.out (by kernel_rfl)) (fun _ _ _ h => h) (Or.inl ⟨by rfl, ?_⟩) ?_ ?_
    rotate_left
    · intro w'
      go_simp
      with_reducible rfl
    rotate_left
    · (try simp only [Act.put, List.setIfInBounds_toArray, List.set_cons_zero, List.set_cons_succ])
      rfl
    refine pure_ (i := 14) (N := some 40) (v := ?_) (a' := ?_) #[true, true, true, true, true, true, true, true, true, true, true, true, true, true, true, false] rfl rfl (any_of HT_.out (by kernel_rfl)) (fun _ _ _ h => h) (Or.inl ⟨by rfl, ?_⟩) ?_ ?_
    rotate_left
    · intro w'
      go_simp
      with_reducible rfl
    rotate_left
    · (try simp only [Act.put, List.setIfInBounds_toArray, List.set_cons_zero, List.set_cons_succ])
      rfl
    refine pure_ (i := 15) (N := some 4) (v := ?_) (a' := ?_) #[true, true, true, true, true, true, true, true, true, true, true, true, true, true, true, true] rfl rfl (any_of HT_.out (by kernel_rfl)) (fun _ _ _ h => h) (Or.inl ⟨by rfl, ?_⟩) ?_ ?_
    rotate_left
    · intro w'
      go_simp
      with_reducible rfl
    rotate_left
    · (try simp only [Act.put, List.setIfInBounds_toArray, List.set_cons_zero, List.set_cons_succ])
      rfl
    refine done_ (done_of HT_.out (by kernel_rfl)) ?_
    try go_wp2
    go_ret
    exact ⟨rfl, HB.out⟩
  · skip
    have HN := Aside0.mk hn
    clear hn
    refine (dec_long Ac l.length cc HN.out _).mono ?_
    rintro e w3 ⟨rfl, hB⟩
    replace HX := Aside0.mk ((hB.block _ (blk_lt HX.out)).trans HX.out)
    replace HB := Aside0.mk (HB.out.trans (hB.mono HB.out.size))
    clear hB
    clear HCc
    have HY := Aside0.mk (heap_alloc_new w3 (.cells #[.int .u32 0, .int .u32 0, .int .u64 0, .int .u64 0, .int .u64 0, .int .u64 0, .int .u64 0, .int .u64 0, .int .u64 0] 58))
    replace HX := Aside0.mk (blk_alloc HX.out (.cells #[.int .u32 0, .int .u32 0, .int .u64 0, .int .u64 0, .int .u64 0, .int .u64 0, .int .u64 0, .int .u64 0, .int .u64 0] 58))
    replace HB := Aside0.mk (below_alloc HB.out (.cells #[.int .u32 0, .int .u32 0, .int .u64 0, .int .u64 0, .int .u64 0, .int .u64 0, .int .u64 0, .int .u64 0, .int .u64 0] 58))
    go_wp2_with fail
    refine (rdec_long A0 l.length c0 HN.out _).mono ?_
    rintro e u4 ⟨rfl, hB⟩
    replace HX := Aside0.mk ((hB.block _ (blk_lt HX.out)).trans HX.out)
    replace HY := Aside0.mk ((hB.block _ (blk_lt HY.out)).trans HY.out)
    replace HB := Aside0.mk (HB.out.trans (hB.mono HB.out.size))
    clear hB
    have HZ := Aside0.mk (heap_alloc_new u4 (.cells #[.int .u32 0, .int .u32 0, .int .u64 0, .int .u64 0, .int .u64 0, .int .u64 0, .int .u64 0, .int .u64 0, .int .u64 0] 58))
    replace HX := Aside0.mk (blk_alloc HX.out (.cells #[.int .u32 0, .int .u32 0, .int .u64 0, .int .u64 0, .int .u64 0, .int .u64 0, .int .u64 0, .int .u64 0, .int .u64 0] 58))
    replace HY := Aside0.mk (blk_alloc HY.out (.cells #[.int .u32 0, .int .u32 0, .int .u64 0, .int .u64 0, .int .u64 0, .int .u64 0, .int .u64 0, .int .u64 0, .int .u64 0] 58))
    replace HB := Aside0.mk (below_alloc HB.out (.cells #[.int .u32 0, .int .u32 0, .int .u64 0, .int .u64 0, .int .u64 0, .int .u64 0, .int .u64 0, .int .u64 0, .int .u64 0] 58))
    go_wp2_with fail
    have HB2 := Aside0.mk (below_drew' HB.out)
    have HXd := Aside0.mk (show _ ∧ _ ∧ _ from ⟨blk_drew HX.out, blk_drew HY.out, blk_drew HZ.out⟩)
    clear HB HX HY HZ
    obtain ⟨X5, hX5⟩ : ∃ X5, X5 = w3.heap.size := ⟨_, rfl⟩
    obtain ⟨X7, hX7⟩ : ∃ X7, X7 = u4.heap.size := ⟨_, rfl⟩
    rw [← hX5, ← hX7] at HXd ⊢
    clear hX5 hX7
    have HB := HB2
    clear HB2
    have heq : ∀ W : World, (Op.equalIn 10000 58 (.agg #[.int .u32 0, .int .u32 0, .int .u64 0, .int .u64 0, .int .u64 0, .int .u64 0, .int .u64 0, .int .u64 0, .int .u64 0]) (.agg #[.int .u32 0, .int .u32 0, .int .u64 0, .int .u64 0, .int .u64 0, .int .u64 0, .int .u64 0, .int .u64 0, .int .u64 0])).run Try.prog W = .ok true W := fun W => by rw [eq58 W _ _ _ _ _ _ _ _ _ _ _ _ _ _ _ _ _ _ 9997]; simp
    refine start_ (n := 16) (S := fun w' => w'.heap[w.heap.size]? = some (.cells #[.int .u32 d.nr, .int .u32 d.ar, .int .u64 d.ip, .int .u64 d.a0, .int .u64 d.a1, .int .u64 d.a2, .int .u64 d.a3, .int .u64 d.a4, .int .u64 d.a5] 58 (0, 0)) ∧ w'.heap[X5]? = some (.cells #[.int .u32 0, .int .u32 0, .int .u64 0, .int .u64 0, .int .u64 0, .int .u64 0, .int .u64 0, .int .u64 0, .int .u64 0] 58 (0, 0)) ∧ w'.heap[X7]? = some (.cells #[.int .u32 0, .int .u32 0, .int .u64 0, .int .u64 0, .int .u64 0, .int .u64 0, .int .u64 0, .int .u64 0, .int .u64 0] 58 (0, 0))) (ds := []) #[false, false, false, false, false, false, false, false, false, false, false, false, false, false, false, false] (by kernel_rfl) rfl rfl (HXd.out) (fun hHeld => ?_); refine with_tabW dbytes.tab7 dbytes.bits7 (fun HT_ HW_ => ?_)
    clear HXd
    generalize World.drew _ = W9 at HB hHeld ⊢
    refine take_ (i := 0) (N := some 26) (v := ?_) (a' := ?_) #[true, false, false, false, false, false, false, false, false, false, false, false, false, false, false, false] rfl rfl (take_ofW HT_.out HW_.out (by kernel_rfl)) (fun _ _ _ h => h) (Or.inl ⟨by rfl, ?_⟩) hHeld ?_ ?_
    rotate_left
    · intro w' hS_
      have hx0_ : w'.cell? ⟨w.heap.size, 0, none⟩ = some (.int .u32 d.nr) := blk_cell hS_.1 0
      have hx1_ : w'.cell? ⟨w.heap.size, 1, none⟩ = some (.int .u32 d.ar) := blk_cell hS_.1 1
      have hx2_ : w'.cell? ⟨w.heap.size, 2, none⟩ = some (.int .u64 d.ip) := blk_cell hS_.1 2
      have hx3_ : w'.cell? ⟨w.heap.size, 3, none⟩ = some (.int .u64 d.a0) := blk_cell hS_.1 3
      have hx4_ : w'.cell? ⟨w.heap.size, 4, none⟩ = some (.int .u64 d.a1) := blk_cell hS_.1 4
      have hx5_ : w'.cell? ⟨w.heap.size, 5, none⟩ = some (.int .u64 d.a2) := blk_cell hS_.1 5
      have hx6_ : w'.cell? ⟨w.heap.size, 6, none⟩ = some (.int .u64 d.a3) := blk_cell hS_.1 6
      have hx7_ : w'.cell? ⟨w.heap.size, 7, none⟩ = some (.int .u64 d.a4) := blk_cell hS_.1 7
      have hx8_ : w'.cell? ⟨w.heap.size, 8, none⟩ = some (.int .u64 d.a5) := blk_cell hS_.1 8
      go_simp
      with_reducible rfl
    rotate_left
    · (try simp only [Act.put, List.setIfInBounds_toArray, List.set_cons_zero, List.set_cons_succ])
      rfl
    refine take_ (i := 2) (N := some 28) (v := ?_) (a' := ?_) #[true, false, true, false, false, false, false, false, false, false, false, false, false, false, false, false] rfl rfl (take_ofW HT_.out HW_.out (by kernel_rfl)) (fun _ _ _ h => h) (Or.inl ⟨by rfl, ?_⟩) hHeld ?_ ?_
    rotate_left
    · intro w' hS_
      have hx0_ : w'.cell? ⟨w.heap.size, 0, none⟩ = some (.int .u32 d.nr) := blk_cell hS_.1 0
      have hx1_ : w'.cell? ⟨w.heap.size, 1, none⟩ = some (.int .u32 d.ar) := blk_cell hS_.1 1
      have hx2_ : w'.cell? ⟨w.heap.size, 2, none⟩ = some (.int .u64 d.ip) := blk_cell hS_.1 2
      have hx3_ : w'.cell? ⟨w.heap.size, 3, none⟩ = some (.int .u64 d.a0) := blk_cell hS_.1 3
      have hx4_ : w'.cell? ⟨w.heap.size, 4, none⟩ = some (.int .u64 d.a1) := blk_cell hS_.1 4
      have hx5_ : w'.cell? ⟨w.heap.size, 5, none⟩ = some (.int .u64 d.a2) := blk_cell hS_.1 5
      have hx6_ : w'.cell? ⟨w.heap.size, 6, none⟩ = some (.int .u64 d.a3) := blk_cell hS_.1 6
      have hx7_ : w'.cell? ⟨w.heap.size, 7, none⟩ = some (.int .u64 d.a4) := blk_cell hS_.1 7
      have hx8_ : w'.cell? ⟨w.heap.size, 8, none⟩ = some (.int .u64 d.a5) := blk_cell hS_.1 8
      go_simp
      with_reducible rfl
    rotate_left
    · (try simp only [Act.put, List.setIfInBounds_toArray, List.set_cons_zero, List.set_cons_succ])
      rfl
    refine one_ (i := 1) (N := some 27) #[true, true, true, false, false, false, false, false, false, false, false, false, false, false, false, false] rfl rfl (one_of HT_.out (by kernel_rfl)) (by decide) (fun K hK => ?_)
    refine goes_ Try.func38 (by kernel_rfl) rfl #[.agg #[.int .u32 d.nr, .int .u32 d.ar, .int .u64 d.ip, .int .u64 d.a0, .int .u64 d.a1, .int .u64 d.a2, .int .u64 d.a3, .int .u64 d.a4, .int .u64 d.a5]] (by rfl) rfl rfl (by (try simp only [List.map_toArray, List.map_cons, List.map_nil]); first | done | rfl) ?_
    refine (enc_c d OK.out _).mono ?_
    rintro e w' ⟨A1, c1, rfl, l1, hC, hB⟩
    refine ⟨_, rfl, ?_⟩
    have HXn := Aside0.mk (show _ ∧ _ ∧ _ from ⟨(hB.block _ (blk_lt hHeld.1)).trans hHeld.1, (hB.block _ (blk_lt hHeld.2.1)).trans hHeld.2.1, (hB.block _ (blk_lt hHeld.2.2)).trans hHeld.2.2⟩)
    replace HB := Aside0.mk (HB.out.trans (hB.mono HB.out.size))
    have H1 := Aside0.mk hC
    clear hC hB
    clear hHeld
    refine hK.out _ _ (HXn.out) (fun hHeld => ?_)
    clear hK K
    refine norm_ (a' := ?_) ?_ ?_
    rotate_left
    · show Act.put _ (some 27) _ = _
      (try simp only [Act.put, List.setIfInBounds_toArray, List.set_cons_zero, List.set_cons_succ])
      rfl
    refine one_ (i := 3) (N := some 29) #[true, true, true, true, false, false, false, false, false, false, false, false, false, false, false, false] rfl rfl (one_of HT_.out (by kernel_rfl)) (by decide) (fun K hK => ?_)
    refine goes_ Try.func39 (by kernel_rfl) rfl #[.agg #[.int .u32 d.nr, .int .u32 d.ar, .int .u64 d.ip, .int .u64 d.a0, .int .u64 d.a1, .int .u64 d.a2, .int .u64 d.a3, .int .u64 d.a4, .int .u64 d.a5]] (by rfl) rfl rfl (by (try simp only [List.map_toArray, List.map_cons, List.map_nil]); first | done | rfl) ?_
    refine (rbytes_c d OK.out _).mono ?_
    rintro e w' ⟨A2, c2, rfl, l2, hC, hB⟩
    refine ⟨_, rfl, ?_⟩
    clear HXn
    have HXn := Aside0.mk (show _ ∧ _ ∧ _ from ⟨(hB.block _ (blk_lt hHeld.1)).trans hHeld.1, (hB.block _ (blk_lt hHeld.2.1)).trans hHeld.2.1, (hB.block _ (blk_lt hHeld.2.2)).trans hHeld.2.2⟩)
    replace HB := Aside0.mk (HB.out.trans (hB.mono HB.out.size))
    replace H1 := Aside0.mk (Kd.C_below H1.out hB)
    have H2 := Aside0.mk hC
    clear hC hB
    clear hHeld
    refine hK.out _ _ (HXn.out) (fun hHeld => ?_)
    clear hK K
    refine norm_ (a' := ?_) ?_ ?_
    rotate_left
    · show Act.put _ (some 29) _ = _
      (try simp only [Act.put, List.setIfInBounds_toArray, List.set_cons_zero, List.set_cons_succ])
      rfl
    refine one_ (i := 4) (N := some 30) #[true, true, true, true, true, false, false, false, false, false, false, false, false, false, false, false] rfl rfl (one_of HT_.out (by kernel_rfl)) (by decide) (fun K hK => ?_)
    refine goes_ Try.func16 (by kernel_rfl) rfl #[.slice A1 64 c1, .slice A2 64 c2] (by rfl) rfl rfl (by (try simp only [List.map_toArray, List.map_cons, List.map_nil]); first | done | rfl) ?_
    refine (same_c A1 A2 64 64 c1 c2 d.bytes _ H1.out l1 H2.out l2 (by omega)).mono ?_
    rintro e w' ⟨rfl, hD⟩
    refine ⟨_, rfl, ?_⟩
    clear HXn
    have hB := hD.below
    have HXn := Aside0.mk (show _ ∧ _ ∧ _ from ⟨(hB.block _ (blk_lt hHeld.1)).trans hHeld.1, (hB.block _ (blk_lt hHeld.2.1)).trans hHeld.2.1, (hB.block _ (blk_lt hHeld.2.2)).trans hHeld.2.2⟩)
    replace HB := Aside0.mk (HB.out.trans (hB.mono HB.out.size))
    clear hB hD
    clear hHeld
    refine hK.out _ _ (HXn.out) (fun hHeld => ?_)
    clear hK K
    refine norm_ (a' := ?_) ?_ ?_
    rotate_left
    · show Act.put _ (some 30) _ = _
      (try simp only [Act.put, List.setIfInBounds_toArray, List.set_cons_zero, List.set_cons_succ])
      rfl
    refine pure_ (i := 5) (N := some 31) (v := ?_) (a' := ?_) #[true, true, true, true, true, true, false, false, false, false, false, false, false, false, false, false] rfl rfl (any_of HT_.out (by kernel_rfl)) (fun _ _ _ h => h) (Or.inl ⟨by rfl, ?_⟩) ?_ ?_
    rotate_left
    · intro w'
      go_simp
      with_reducible rfl
    rotate_left
    · (try simp only [Act.put, List.setIfInBounds_toArray, List.set_cons_zero, List.set_cons_succ])
      rfl
    refine take_ (i := 6) (N := some 32) (v := ?_) (a' := ?_) #[true, true, true, true, true, true, true, false, false, false, false, false, false, false, false, false] rfl rfl (take_ofW HT_.out HW_.out (by kernel_rfl)) (fun _ _ _ h => h) (Or.inl ⟨by rfl, ?_⟩) hHeld ?_ ?_
    rotate_left
    · intro w' hS_
      have hx0_ : w'.cell? ⟨X5, 0, none⟩ = some (.int .u32 0) := blk_cell hS_.2.1 0
      have hx1_ : w'.cell? ⟨X5, 1, none⟩ = some (.int .u32 0) := blk_cell hS_.2.1 1
      have hx2_ : w'.cell? ⟨X5, 2, none⟩ = some (.int .u64 0) := blk_cell hS_.2.1 2
      have hx3_ : w'.cell? ⟨X5, 3, none⟩ = some (.int .u64 0) := blk_cell hS_.2.1 3
      have hx4_ : w'.cell? ⟨X5, 4, none⟩ = some (.int .u64 0) := blk_cell hS_.2.1 4
      have hx5_ : w'.cell? ⟨X5, 5, none⟩ = some (.int .u64 0) := blk_cell hS_.2.1 5
      have hx6_ : w'.cell? ⟨X5, 6, none⟩ = some (.int .u64 0) := blk_cell hS_.2.1 6
      have hx7_ : w'.cell? ⟨X5, 7, none⟩ = some (.int .u64 0) := blk_cell hS_.2.1 7
      have hx8_ : w'.cell? ⟨X5, 8, none⟩ = some (.int .u64 0) := blk_cell hS_.2.1 8
      go_simp
      with_reducible rfl
    rotate_left
    · (try simp only [Act.put, List.setIfInBounds_toArray, List.set_cons_zero, List.set_cons_succ])
      rfl
    refine take_ (i := 7) (N := some 33) (v := ?_) (a' := ?_) #[true, true, true, true, true, true, true, true, false, false, false, false, false, false, false, false] rfl rfl (take_ofW HT_.out HW_.out (by kernel_rfl)) (fun _ _ _ h => h) (Or.inl ⟨by rfl, ?_⟩) hHeld ?_ ?_
    rotate_left
    · intro w' hS_
      have hx0_ : w'.cell? ⟨X7, 0, none⟩ = some (.int .u32 0) := blk_cell hS_.2.2 0
      have hx1_ : w'.cell? ⟨X7, 1, none⟩ = some (.int .u32 0) := blk_cell hS_.2.2 1
      have hx2_ : w'.cell? ⟨X7, 2, none⟩ = some (.int .u64 0) := blk_cell hS_.2.2 2
      have hx3_ : w'.cell? ⟨X7, 3, none⟩ = some (.int .u64 0) := blk_cell hS_.2.2 3
      have hx4_ : w'.cell? ⟨X7, 4, none⟩ = some (.int .u64 0) := blk_cell hS_.2.2 4
      have hx5_ : w'.cell? ⟨X7, 5, none⟩ = some (.int .u64 0) := blk_cell hS_.2.2 5
      have hx6_ : w'.cell? ⟨X7, 6, none⟩ = some (.int .u64 0) := blk_cell hS_.2.2 6
      have hx7_ : w'.cell? ⟨X7, 7, none⟩ = some (.int .u64 0) := blk_cell hS_.2.2 7
      have hx8_ : w'.cell? ⟨X7, 8, none⟩ = some (.int .u64 0) := blk_cell hS_.2.2 8
      go_simp
      with_reducible rfl
    rotate_left
    · (try simp only [Act.put, List.setIfInBounds_toArray, List.set_cons_zero, List.set_cons_succ])
      rfl
    refine pure_ (i := 8) (N := some 34) (v := ?_) (a' := ?_) #[true, true, true, true, true, true, true, true, true, false, false, false, false, false, false, false] rfl rfl (any_of HT_.out (by kernel_rfl)) (fun _ _ _ h => h) (Or.inl ⟨by rfl, ?_⟩) ?_ ?_
    rotate_left
    · intro w'
      go_simp
      with_reducible rfl
    rotate_left
    · (try simp only [Act.put, List.setIfInBounds_toArray, List.set_cons_zero, List.set_cons_succ])
      rfl
    refine pure_ (i := 9) (N := some 35) (v := ?_) (a' := ?_) #[true, true, true, true, true, true, true, true, true, true, false, false, false, false, false, false] rfl rfl (any_of HT_.out (by kernel_rfl)) (fun _ _ _ h => h) (Or.inl ⟨by rfl, ?_⟩) ?_ ?_
    rotate_left
    · intro w'
      go_simp
      with_reducible rfl
    rotate_left
    · (try simp only [Act.put, List.setIfInBounds_toArray, List.set_cons_zero, List.set_cons_succ])
      rfl
    refine pure_ (i := 10) (N := some 36) (v := ?_) (a' := ?_) #[true, true, true, true, true, true, true, true, true, true, true, false, false, false, false, false] rfl rfl (any_of HT_.out (by kernel_rfl)) (fun _ _ _ h => h) (Or.inl ⟨by rfl, ?_⟩) ?_ ?_
    rotate_left
    · intro w'
      go_simp
      with_reducible rfl
    rotate_left
    · (try simp only [Act.put, List.setIfInBounds_toArray, List.set_cons_zero, List.set_cons_succ])
      rfl
    refine pure_ (i := 11) (N := some 37) (v := ?_) (a' := ?_) #[true, true, true, true, true, true, true, true, true, true, true, true, false, false, false, false] rfl rfl (any_of HT_.out (by kernel_rfl)) (fun _ _ _ h => h) (Or.inl ⟨by rfl, ?_⟩) ?_ ?_
    rotate_left
    · intro w'
      go_simp
      with_reducible rfl
    rotate_left
    · (try simp only [Act.put, List.setIfInBounds_toArray, List.set_cons_zero, List.set_cons_succ])
      rfl
    refine pure_ (i := 12) (N := some 38) (v := ?_) (a' := ?_) #[true, true, true, true, true, true, true, true, true, true, true, true, true, false, false, false] rfl rfl (any_of HT_.out (by kernel_rfl)) (fun _ _ _ h => h) (Or.inl ⟨by rfl, ?_⟩) ?_ ?_
    rotate_left
    · intro w'
      go_simp
      with_reducible rfl
    rotate_left
    · (try simp only [Act.put, List.setIfInBounds_toArray, List.set_cons_zero, List.set_cons_succ])
      rfl
    refine pure_ (i := 13) (N := some 39) (v := ?_) (a' := ?_) #[true, true, true, true, true, true, true, true, true, true, true, true, true, true, false, false] rfl rfl (any_of HT_.out (by kernel_rfl)) (fun _ _ _ h => h) (Or.inl ⟨by rfl, ?_⟩) ?_ ?_
    rotate_left
    · intro w'
      go_simp
      with_reducible rfl
    rotate_left
    · (try simp only [Act.put, List.setIfInBounds_toArray, List.set_cons_zero, List.set_cons_succ])
      rfl
    refine pure_ (i := 14) (N := some 40) (v := ?_) (a' := ?_) #[true, true, true, true, true, true, true, true, true, true, true, true, true, true, true, false] rfl rfl (any_of HT_.out (by kernel_rfl)) (fun _ _ _ h => h) (Or.inl ⟨by rfl, ?_⟩) ?_ ?_
    rotate_left
    · intro w'
      go_simp
      with_reducible rfl
    rotate_left
    · (try simp only [Act.put, List.setIfInBounds_toArray, List.set_cons_zero, List.set_cons_succ])
      rfl
    refine pure_ (i := 15) (N := some 4) (v := ?_) (a' := ?_) #[true, true, true, true, true, true, true, true, true, true, true, true, true, true, true, true] rfl rfl (any_of HT_.out (by kernel_rfl)) (fun _ _ _ h => h) (Or.inl ⟨by rfl, ?_⟩) ?_ ?_
    rotate_left
    · intro w'
      go_simp
      with_reducible rfl
    rotate_left
    · (try simp only [Act.put, List.setIfInBounds_toArray, List.set_cons_zero, List.set_cons_succ])
      rfl
    refine done_ (done_of HT_.out (by kernel_rfl)) ?_
    try go_wp2
    go_ret
    exact ⟨rfl, HB.out⟩
end Go.Proofs.Ytpejeeemefmafaa.RD
