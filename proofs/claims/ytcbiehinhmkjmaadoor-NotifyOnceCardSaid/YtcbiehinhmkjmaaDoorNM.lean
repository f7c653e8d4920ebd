import Derived.Test.YtcbiehinhmkjmaaDoorNL
namespace Go.Proofs.YtcbiehinhmkjmaaDoor.NB
open Go.RowKit Go.Proofs.YtcbiehinhmkjmaaDoorW.PrintWords Go.Proofs.YtcbiehinhmkjmaaDoorW.PrintLast Go.Proofs.YtcbiehinhmkjmaaDoorW.PrintMore
open Go.Proofs.YtcbiehinhmkjmaaDoor.PB
set_option linter.unusedVariables false
set_option linter.unusedSimpArgs false
abbrev NMb0 : Array Bool := #[false, false, false, false, false, false]
abbrev NMb1 : Array Bool := #[false, false, true, false, false, false]
abbrev NMb2 : Array Bool := #[true, false, true, false, false, false]
abbrev NMb3 : Array Bool := #[true, true, true, false, false, false]
abbrev NMb4 : Array Bool := #[true, true, true, true, false, false]
abbrev NMb5 : Array Bool := #[true, true, true, true, true, false]
abbrev NMb6 : Array Bool := #[true, true, true, true, true, true]
open Go.Proofs.YtcbiehinhmkjmaaDoor.PE.L (Tab)
theorem abs3 {α : Type} (r : α) : ∃ s, s = r := ⟨_, rfl⟩
def gone.T3 : Bool × List (List Nat × List Nat) := (true, [([], []), ([], []), ([], []), ([0, 0], [0]), ([1, 3, 0, 1, 3], [1]), ([2, 4, 0, 1, 2, 3, 4], [2])])
def gone.B3 : List Nat := [0, 0, 0, 1, 11, 31]
theorem gone.tab3 : rtab .any (opsOf Tryd.f17 3) = gone.T3 := by kernel_rfl
theorem gone.bits3 : waitsOk gone.T3.2 gone.B3 = true := by kernel_rfl
set_option maxRecDepth 100000 in
set_option maxHeartbeats 4000000 in
theorem gone_w (nx : Int) (A : Option Addr) (c : Nat) (l : List S36) (t : Int) (hc : l.length ≤ c) (w : World) (hr : Kd.C k36 w A l.length l) :
  Calls Tryd.prog 17 #[.agg #[.int .u64 nx, .slice A l.length c], .int .i64 t] w fun e w' => ∃ v : Value, e = .returned (.tuple #[.agg #[.int .u64 (goneR nx l t).1, v], .bool (goneR nx l t).2.2.2, .int .i64 (goneR nx l t).2.2.1]) ∧ Kd.R k36 36 w' w.heap.size (fun _ => True) v (goneR nx l t).2.1 ∧ Below w.heap.size w w' := by
 have hB1 : Below w.heap.size w ((((w.alloc (.cells #[.int .u64 nx, .slice A l.length c] 25)).alloc (.cells #[.int .i64 t] 3)).alloc (.cells #[.int .u64 0, .slice none 0 0] 25)).alloc (.cells #[.bool false] 4)) := (bel_al (bel_al (bel_al (bel_al (Below.refl w.heap.size w) (.cells #[.int .u64 nx, .slice A l.length c] 25)) (.cells #[.int .i64 t] 3)) (.cells #[.int .u64 0, .slice none 0 0] 25)) (.cells #[.bool false] 4))
 have HB1 := Lib.hid hB1
 have HC1 := Lib.hid (Kd.C_below hr hB1)
 have h0 := (al_keep (o := .cells #[.bool false] 4) (al_keep (o := .cells #[.int .u64 0, .slice none 0 0] 25) (al_keep (o := .cells #[.int .i64 t] 3) (al_new w (.cells #[.int .u64 nx, .slice A l.length c] 25)))))
 (try simp only [World.size_alloc] at h0)
 have H0 := Lib.hid h0
 clear h0
 have h1 := (al_keep (o := .cells #[.bool false] 4) (al_keep (o := .cells #[.int .u64 0, .slice none 0 0] 25) (al_new (w.alloc (.cells #[.int .u64 nx, .slice A l.length c] 25)) (.cells #[.int .i64 t] 3))))
 (try simp only [World.size_alloc] at h1)
 have H1 := Lib.hid h1
 clear h1
 have h2 := (al_keep (o := .cells #[.bool false] 4) (al_new ((w.alloc (.cells #[.int .u64 nx, .slice A l.length c] 25)).alloc (.cells #[.int .i64 t] 3)) (.cells #[.int .u64 0, .slice none 0 0] 25)))
 (try simp only [World.size_alloc] at h2)
 have H2 := Lib.hid h2
 clear h2
 have h3 := (al_new (((w.alloc (.cells #[.int .u64 nx, .slice A l.length c] 25)).alloc (.cells #[.int .i64 t] 3)).alloc (.cells #[.int .u64 0, .slice none 0 0] 25)) (.cells #[.bool false] 4))
 (try simp only [World.size_alloc] at h3)
 have H3 := Lib.hid h3
 clear h3
 have hsz : (((((w.alloc (.cells #[.int .u64 nx, .slice A l.length c] 25)).alloc (.cells #[.int .i64 t] 3)).alloc (.cells #[.int .u64 0, .slice none 0 0] 25)).alloc (.cells #[.bool false] 4))).heap.size = w.heap.size + 1 + 1 + 1 + 1 := by simp only [World.size_alloc]
 have HSZ := Lib.hid hsz
 clear hB1 hr hsz
 go_enter Tryd.func17, Tryd.ntmps17
 go_wp2_with (first | (go_at_call 25; refine (turn38_w (w.heap.size + 1) (w.heap.size + 1 + 1 + 1) t nx A c l hc _ HC1.out (by omega) H1.out H3.out).mono ?_; rintro e w2 ⟨v, rfl, hR2, hcap, hst⟩; rw [HSZ.out] at hR2 hst; obtain ⟨r, hr⟩ := abs3 (goneR nx l t); rw [← hr] at hR2 hcap ⊢; have HRR := Lib.hid hr; clear hr; obtain ⟨A2, c2, rfl⟩ := Kd.R_slice hR2; obtain ⟨n2, hn2⟩ : ∃ n, n = r.2.1.length := ⟨_, rfl⟩; rw [← hn2] at hR2 ⊢; clear hn2; have HB2 := Lib.hid (show Below w.heap.size w w2 from ⟨hst.os.trans HB1.out.os, hst.tape.trans HB1.out.tape, hst.output.trans HB1.out.output, Nat.le_trans HB1.out.size hst.size, fun q hq => (hst.block q (by omega) (by omega)).trans (HB1.out.block q hq)⟩); have HR2 := Lib.hid (Kd.R_mono (Kd.R_bound hR2) (fun k hk => (show w.heap.size + 1 + 1 + 1 + 1 ≤ k from hk.2.1))); have hs2 : w.heap.size + 1 + 1 + 1 + 1 ≤ w2.heap.size := (by have := hst.size; rw [HSZ.out] at this; exact this); have HE0 := Lib.hid ((hst.block (w.heap.size + 1 + 1) (by omega) (by omega)).trans H2.out); have HP0 := Lib.hid (hcap); clear hR2 hcap hst))
 have HY3 := Lib.hid (blk_drew (al_new w2 (.cells #[.int .u64 r.1, .slice A2 n2 c2] 25)))
 have HB3 := Lib.hid (below_drew (bel_al HB2.out (.cells #[.int .u64 r.1, .slice A2 n2 c2] 25)))
 have HR3 := Lib.hid (Kd.R_drew (Kd.R_alloc HR2.out (.cells #[.int .u64 r.1, .slice A2 n2 c2] 25)))
 have HF0 := Lib.hid (blk_drew (al_keep (o := (.cells #[.int .u64 r.1, .slice A2 n2 c2] 25)) HE0.out))
 have HQ0 := Lib.hid (blk_drew (al_keep (o := (.cells #[.int .u64 r.1, .slice A2 n2 c2] 25)) HP0.out))
 refine start_ (n := 6) (S := fun w' => ∀ q, q ≠ w.heap.size + 1 + 1 → w'.heap[q]? = (w2.alloc (.cells #[.int .u64 r.1, .slice A2 n2 c2] 25)).drew.heap[q]?) (ds := []) NMb0 (by kernel_rfl) rfl rfl (fun _ _ => rfl) (fun hHeld => ?_); refine with_tabW gone.tab3 gone.bits3 (fun HT_ HW_ => ?_)
 generalize (w2.alloc (.cells #[.int .u64 r.1, .slice A2 n2 c2] 25)).drew = w3 at HY3 HB3 HR3 HF0 HQ0 hHeld ⊢
 have d0_0 := blk_cell HF0.out 0
 have d0_1 := blk_cell HF0.out 1
 have f0_0 := blk_frozen HF0.out 0
 have f0_1 := blk_frozen HF0.out 1
 have e0_l := blk_lt HF0.out
 refine pure_ (i := 2) (N := some 18) (v := ?_) (a' := ?_) NMb1 rfl rfl (any_of HT_.out (by kernel_rfl)) (fun _ _ _ h => h) (Or.inl ⟨by rfl, ?_⟩) ?_ ?_
 rotate_left
 ·intro w'
  go_simp
  with_reducible rfl
 rotate_left
 ·(try simp only [Act.put, List.setIfInBounds_toArray, List.set_cons_zero, List.set_cons_succ])
  rfl
 refine take_ (i := 0) (N := some 16) (v := ?_) (a' := ?_) NMb2 rfl rfl (take_ofW HT_.out HW_.out (by kernel_rfl)) (fun _ _ _ h => h) (Or.inl ⟨by rfl, ?_⟩) hHeld ?_ ?_
 rotate_left
 ·intro w' hS_
  have hx_0 : w'.cell? ⟨w2.heap.size, 0, none⟩ = _ := blk_cell ((hS_ _ (by omega)).trans HY3.out) 0
  have hx_1 : w'.cell? ⟨w2.heap.size, 1, none⟩ = _ := blk_cell ((hS_ _ (by omega)).trans HY3.out) 1
  go_simp
  with_reducible rfl
 rotate_left
 ·(try simp only [Act.put, List.setIfInBounds_toArray, List.set_cons_zero, List.set_cons_succ])
  rfl
 refine take_ (i := 1) (N := some 17) (v := ?_) (a' := ?_) NMb3 rfl rfl (take_ofW HT_.out HW_.out (by kernel_rfl)) (fun _ _ _ h => h) (Or.inl ⟨by rfl, ?_⟩) hHeld ?_ ?_
 rotate_left
 ·intro w' hS_
  have hx_0 : w'.cell? ⟨w.heap.size + 1 + 1 + 1, 0, none⟩ = _ := blk_cell ((hS_ _ (by omega)).trans HQ0.out) 0
  go_simp
  with_reducible rfl
 rotate_left
 ·(try simp only [Act.put, List.setIfInBounds_toArray, List.set_cons_zero, List.set_cons_succ])
  rfl
 refine one_ (i := 3) (N := none) NMb4 rfl rfl (one_of HT_.out (by kernel_rfl)) (by decide) (fun K hK => ?_)
 refine skip_ (w1 := ?_) (by rfl) rfl ?_ ?_
 rotate_left
 ·go_simp
  with_reducible rfl
 refine hK.out _ _ (fun q n0 => (Below.heap_setCell _ _ _ _ n0).trans (Below.heap_setCell _ _ _ _ n0)) (fun hHeld => ?_)
 clear hK K
 refine pure_ (i := 4) (N := some 5) (v := ?_) (a' := ?_) NMb5 rfl rfl (any_of HT_.out (by kernel_rfl)) (fun _ _ _ h => h) (Or.inl ⟨by rfl, ?_⟩) ?_ ?_
 rotate_left
 ·intro w'
  go_simp
  with_reducible rfl
 rotate_left
 ·(try simp only [Act.put, List.setIfInBounds_toArray, List.set_cons_zero, List.set_cons_succ])
  rfl
 refine pure_ (i := 5) (N := some 6) (v := ?_) (a' := ?_) NMb6 rfl rfl (any_of HT_.out (by kernel_rfl)) (fun _ _ _ h => h) (Or.inl ⟨by rfl, ?_⟩) ?_ ?_
 rotate_left
 ·intro w'
  go_simp
  with_reducible rfl
 rotate_left
 ·(try simp only [Act.put, List.setIfInBounds_toArray, List.set_cons_zero, List.set_cons_succ])
  rfl
 refine done_ (done_of HT_.out (by kernel_rfl)) ?_
 clear HT_ HW_
 (try clear hHeld)
 go_wp2_with fail
 refine bodyPost_ret (v := .tuple #[.agg #[.int .u64 r.1, .slice A2 n2 c2], .bool r.2.2.2, .int .i64 r.2.2.1]) (by simp [results, Tryd.results17, go_sem, d0_0, d0_1, e0_l]) rfl ?_
 rw [← HRR.out]
 refine ⟨.slice A2 n2 c2, rfl, ?_, ?_⟩
 ·refine Kd.R_mono (ok := fun k => w.heap.size + 1 + 1 + 1 + 1 ≤ k) (Kd.R_lower (base := w.heap.size + 1 + 1 + 1 + 1) ?_ (by omega)) (fun _ _ => trivial)
  (repeat (with_reducible first | exact HR3.out | refine Kd.R_far ?_ (fun q hq e => by dsimp only at e; omega) _))
 ·(repeat (with_reducible first | exact HB3.out | refine Below.setCell ?_ (by dsimp only; omega) _))
def take.T3 : Bool × List (List Nat × List Nat) := (true, [([], []), ([], []), ([], []), ([0, 0], [0]), ([1, 3, 0, 1, 3], [1]), ([2, 4, 0, 1, 2, 3, 4], [2])])
def take.B3 : List Nat := [0, 0, 0, 1, 11, 31]
theorem take.tab3 : rtab .any (opsOf Tryd.f12 3) = take.T3 := by kernel_rfl
theorem take.bits3 : waitsOk take.T3.2 take.B3 = true := by kernel_rfl
set_option maxRecDepth 100000 in
set_option maxHeartbeats 4000000 in
theorem take_w (nx : Int) (A : Option Addr) (c : Nat) (l : List S36)  (hc : l.length ≤ c) (w : World) (hr : Kd.C k36 w A l.length l) :
  Calls Tryd.prog 12 #[.agg #[.int .u64 nx, .slice A l.length c]] w fun e w' => ∃ v : Value, e = .returned (.tuple #[.agg #[.int .u64 (takeR nx l).1, v], .agg #[.int .u64 (takeR nx l).2.2.2.f0, .int .i64 (takeR nx l).2.2.2.f1, .int .u32 (takeR nx l).2.2.2.f2.f0, .int .u32 (takeR nx l).2.2.2.f2.f1, .int .u64 (takeR nx l).2.2.2.f2.f2, .int .u64 (takeR nx l).2.2.2.f2.f3.f0, .int .u64 (takeR nx l).2.2.2.f2.f3.f1, .int .u64 (takeR nx l).2.2.2.f2.f3.f2, .int .u64 (takeR nx l).2.2.2.f2.f3.f3, .int .u64 (takeR nx l).2.2.2.f2.f3.f4, .int .u64 (takeR nx l).2.2.2.f2.f3.f5, .bool (takeR nx l).2.2.2.f3], .int .i64 (takeR nx l).2.2.1]) ∧ Kd.R k36 36 w' w.heap.size (fun _ => True) v (takeR nx l).2.1 ∧ Below w.heap.size w w' := by
 have hB1 : Below w.heap.size w ((((w.alloc (.cells #[.int .u64 nx, .slice A l.length c] 25)).alloc (.cells #[.int .u64 0, .slice none 0 0] 25)).alloc (.cells #[.int .u64 0, .int .i64 0, .int .u32 0, .int .u32 0, .int .u64 0, .int .u64 0, .int .u64 0, .int .u64 0, .int .u64 0, .int .u64 0, .int .u64 0, .bool false] 36)).alloc (.cells #[.int .u64 0, .int .i64 0, .int .u32 0, .int .u32 0, .int .u64 0, .int .u64 0, .int .u64 0, .int .u64 0, .int .u64 0, .int .u64 0, .int .u64 0, .bool false] 36)) := (bel_al (bel_al (bel_al (bel_al (Below.refl w.heap.size w) (.cells #[.int .u64 nx, .slice A l.length c] 25)) (.cells #[.int .u64 0, .slice none 0 0] 25)) (.cells #[.int .u64 0, .int .i64 0, .int .u32 0, .int .u32 0, .int .u64 0, .int .u64 0, .int .u64 0, .int .u64 0, .int .u64 0, .int .u64 0, .int .u64 0, .bool false] 36)) (.cells #[.int .u64 0, .int .i64 0, .int .u32 0, .int .u32 0, .int .u64 0, .int .u64 0, .int .u64 0, .int .u64 0, .int .u64 0, .int .u64 0, .int .u64 0, .bool false] 36))
 have HB1 := Lib.hid hB1
 have HC1 := Lib.hid (Kd.C_below hr hB1)
 have h0 := (al_keep (o := .cells #[.int .u64 0, .int .i64 0, .int .u32 0, .int .u32 0, .int .u64 0, .int .u64 0, .int .u64 0, .int .u64 0, .int .u64 0, .int .u64 0, .int .u64 0, .bool false] 36) (al_keep (o := .cells #[.int .u64 0, .int .i64 0, .int .u32 0, .int .u32 0, .int .u64 0, .int .u64 0, .int .u64 0, .int .u64 0, .int .u64 0, .int .u64 0, .int .u64 0, .bool false] 36) (al_keep (o := .cells #[.int .u64 0, .slice none 0 0] 25) (al_new w (.cells #[.int .u64 nx, .slice A l.length c] 25)))))
 (try simp only [World.size_alloc] at h0)
 have H0 := Lib.hid h0
 clear h0
 have h1 := (al_keep (o := .cells #[.int .u64 0, .int .i64 0, .int .u32 0, .int .u32 0, .int .u64 0, .int .u64 0, .int .u64 0, .int .u64 0, .int .u64 0, .int .u64 0, .int .u64 0, .bool false] 36) (al_keep (o := .cells #[.int .u64 0, .int .i64 0, .int .u32 0, .int .u32 0, .int .u64 0, .int .u64 0, .int .u64 0, .int .u64 0, .int .u64 0, .int .u64 0, .int .u64 0, .bool false] 36) (al_new (w.alloc (.cells #[.int .u64 nx, .slice A l.length c] 25)) (.cells #[.int .u64 0, .slice none 0 0] 25))))
 (try simp only [World.size_alloc] at h1)
 have H1 := Lib.hid h1
 clear h1
 have h2 := (al_keep (o := .cells #[.int .u64 0, .int .i64 0, .int .u32 0, .int .u32 0, .int .u64 0, .int .u64 0, .int .u64 0, .int .u64 0, .int .u64 0, .int .u64 0, .int .u64 0, .bool false] 36) (al_new ((w.alloc (.cells #[.int .u64 nx, .slice A l.length c] 25)).alloc (.cells #[.int .u64 0, .slice none 0 0] 25)) (.cells #[.int .u64 0, .int .i64 0, .int .u32 0, .int .u32 0, .int .u64 0, .int .u64 0, .int .u64 0, .int .u64 0, .int .u64 0, .int .u64 0, .int .u64 0, .bool false] 36)))
 (try simp only [World.size_alloc] at h2)
 have H2 := Lib.hid h2
 clear h2
 have h3 := (al_new (((w.alloc (.cells #[.int .u64 nx, .slice A l.length c] 25)).alloc (.cells #[.int .u64 0, .slice none 0 0] 25)).alloc (.cells #[.int .u64 0, .int .i64 0, .int .u32 0, .int .u32 0, .int .u64 0, .int .u64 0, .int .u64 0, .int .u64 0, .int .u64 0, .int .u64 0, .int .u64 0, .bool false] 36)) (.cells #[.int .u64 0, .int .i64 0, .int .u32 0, .int .u32 0, .int .u64 0, .int .u64 0, .int .u64 0, .int .u64 0, .int .u64 0, .int .u64 0, .int .u64 0, .bool false] 36))
 (try simp only [World.size_alloc] at h3)
 have H3 := Lib.hid h3
 clear h3
 have hsz : (((((w.alloc (.cells #[.int .u64 nx, .slice A l.length c] 25)).alloc (.cells #[.int .u64 0, .slice none 0 0] 25)).alloc (.cells #[.int .u64 0, .int .i64 0, .int .u32 0, .int .u32 0, .int .u64 0, .int .u64 0, .int .u64 0, .int .u64 0, .int .u64 0, .int .u64 0, .int .u64 0, .bool false] 36)).alloc (.cells #[.int .u64 0, .int .i64 0, .int .u32 0, .int .u32 0, .int .u64 0, .int .u64 0, .int .u64 0, .int .u64 0, .int .u64 0, .int .u64 0, .int .u64 0, .bool false] 36))).heap.size = w.heap.size + 1 + 1 + 1 + 1 := by simp only [World.size_alloc]
 have HSZ := Lib.hid hsz
 clear hB1 hr hsz
 go_enter Tryd.func12, Tryd.ntmps12
 go_wp2_with (first | (go_at_call 25; refine (turn30_w (w.heap.size + 1 + 1 + 1)  nx A c l hc _ HC1.out  H3.out).mono ?_; rintro e w2 ⟨v, rfl, hR2, hcap, hst⟩; rw [HSZ.out] at hR2 hst; obtain ⟨r, hr⟩ := abs3 (takeR nx l); rw [← hr] at hR2 hcap ⊢; have HRR := Lib.hid hr; clear hr; obtain ⟨A2, c2, rfl⟩ := Kd.R_slice hR2; obtain ⟨n2, hn2⟩ : ∃ n, n = r.2.1.length := ⟨_, rfl⟩; rw [← hn2] at hR2 ⊢; clear hn2; have HB2 := Lib.hid (show Below w.heap.size w w2 from ⟨hst.os.trans HB1.out.os, hst.tape.trans HB1.out.tape, hst.output.trans HB1.out.output, Nat.le_trans HB1.out.size hst.size, fun q hq => (hst.block q (by omega) (by omega)).trans (HB1.out.block q hq)⟩); have HR2 := Lib.hid (Kd.R_mono (Kd.R_bound hR2) (fun k hk => (show w.heap.size + 1 + 1 + 1 + 1 ≤ k from hk.2.1))); have hs2 : w.heap.size + 1 + 1 + 1 + 1 ≤ w2.heap.size := (by have := hst.size; rw [HSZ.out] at this; exact this); have HE0 := Lib.hid ((hst.block (w.heap.size + 1) (by omega) (by omega)).trans H1.out); have HE1 := Lib.hid ((hst.block (w.heap.size + 1 + 1) (by omega) (by omega)).trans H2.out); have HP0 := Lib.hid (hcap); clear hR2 hcap hst))
 have HY3 := Lib.hid (blk_drew (al_new w2 (.cells #[.int .u64 r.1, .slice A2 n2 c2] 25)))
 have HB3 := Lib.hid (below_drew (bel_al HB2.out (.cells #[.int .u64 r.1, .slice A2 n2 c2] 25)))
 have HR3 := Lib.hid (Kd.R_drew (Kd.R_alloc HR2.out (.cells #[.int .u64 r.1, .slice A2 n2 c2] 25)))
 have HF0 := Lib.hid (blk_drew (al_keep (o := (.cells #[.int .u64 r.1, .slice A2 n2 c2] 25)) HE0.out))
 have HF1 := Lib.hid (blk_drew (al_keep (o := (.cells #[.int .u64 r.1, .slice A2 n2 c2] 25)) HE1.out))
 have HQ0 := Lib.hid (blk_drew (al_keep (o := (.cells #[.int .u64 r.1, .slice A2 n2 c2] 25)) HP0.out))
 refine start_ (n := 6) (S := fun w' => ∀ q, q ≠ w.heap.size + 1 → q ≠ w.heap.size + 1 + 1 → w'.heap[q]? = (w2.alloc (.cells #[.int .u64 r.1, .slice A2 n2 c2] 25)).drew.heap[q]?) (ds := [4]) NMb0 (by kernel_rfl) rfl rfl (fun _ _ _ => rfl) (fun hHeld => ?_); refine with_tabW take.tab3 take.bits3 (fun HT_ HW_ => ?_)
 generalize (w2.alloc (.cells #[.int .u64 r.1, .slice A2 n2 c2] 25)).drew = w3 at HY3 HB3 HR3 HF0 HF1 HQ0 hHeld ⊢
 have d0_0 := blk_cell HF0.out 0
 have d0_1 := blk_cell HF0.out 1
 have f0_0 := blk_frozen HF0.out 0
 have f0_1 := blk_frozen HF0.out 1
 have e0_l := blk_lt HF0.out
 have d1_0 := blk_cell HF1.out 0
 have d1_1 := blk_cell HF1.out 1
 have d1_2 := blk_cell HF1.out 2
 have d1_3 := blk_cell HF1.out 3
 have d1_4 := blk_cell HF1.out 4
 have d1_5 := blk_cell HF1.out 5
 have d1_6 := blk_cell HF1.out 6
 have d1_7 := blk_cell HF1.out 7
 have d1_8 := blk_cell HF1.out 8
 have d1_9 := blk_cell HF1.out 9
 have d1_10 := blk_cell HF1.out 10
 have d1_11 := blk_cell HF1.out 11
 have f1_0 := blk_frozen HF1.out 0
 have f1_1 := blk_frozen HF1.out 1
 have f1_2 := blk_frozen HF1.out 2
 have f1_3 := blk_frozen HF1.out 3
 have f1_4 := blk_frozen HF1.out 4
 have f1_5 := blk_frozen HF1.out 5
 have f1_6 := blk_frozen HF1.out 6
 have f1_7 := blk_frozen HF1.out 7
 have f1_8 := blk_frozen HF1.out 8
 have f1_9 := blk_frozen HF1.out 9
 have f1_10 := blk_frozen HF1.out 10
 have f1_11 := blk_frozen HF1.out 11
 have e1_l := blk_lt HF1.out
 refine pure_ (i := 2) (N := some 16) (v := ?_) (a' := ?_) NMb1 rfl rfl (any_of HT_.out (by kernel_rfl)) (fun _ _ _ h => h) (Or.inl ⟨by rfl, ?_⟩) ?_ ?_
 rotate_left
 ·intro w'
  go_simp
  with_reducible rfl
 rotate_left
 ·(try simp only [Act.put, List.setIfInBounds_toArray, List.set_cons_zero, List.set_cons_succ])
  rfl
 refine take_ (i := 0) (N := some 14) (v := ?_) (a' := ?_) NMb2 rfl rfl (take_ofW HT_.out HW_.out (by kernel_rfl)) (fun _ _ _ h => h) (Or.inl ⟨by rfl, ?_⟩) hHeld ?_ ?_
 rotate_left
 ·intro w' hS_
  have hx_0 : w'.cell? ⟨w2.heap.size, 0, none⟩ = _ := blk_cell ((hS_ _ (by omega) (by omega)).trans HY3.out) 0
  have hx_1 : w'.cell? ⟨w2.heap.size, 1, none⟩ = _ := blk_cell ((hS_ _ (by omega) (by omega)).trans HY3.out) 1
  go_simp
  with_reducible rfl
 rotate_left
 ·(try simp only [Act.put, List.setIfInBounds_toArray, List.set_cons_zero, List.set_cons_succ])
  rfl
 refine take_ (i := 1) (N := some 15) (v := ?_) (a' := ?_) NMb3 rfl rfl (take_ofW HT_.out HW_.out (by kernel_rfl)) (fun _ _ _ h => h) (Or.inl ⟨by rfl, ?_⟩) hHeld ?_ ?_
 rotate_left
 ·intro w' hS_
  have hx_0 : w'.cell? ⟨w.heap.size + 1 + 1 + 1, 0, none⟩ = _ := blk_cell ((hS_ _ (by omega) (by omega)).trans HQ0.out) 0
  have hx_1 : w'.cell? ⟨w.heap.size + 1 + 1 + 1, 1, none⟩ = _ := blk_cell ((hS_ _ (by omega) (by omega)).trans HQ0.out) 1
  have hx_2 : w'.cell? ⟨w.heap.size + 1 + 1 + 1, 2, none⟩ = _ := blk_cell ((hS_ _ (by omega) (by omega)).trans HQ0.out) 2
  have hx_3 : w'.cell? ⟨w.heap.size + 1 + 1 + 1, 3, none⟩ = _ := blk_cell ((hS_ _ (by omega) (by omega)).trans HQ0.out) 3
  have hx_4 : w'.cell? ⟨w.heap.size + 1 + 1 + 1, 4, none⟩ = _ := blk_cell ((hS_ _ (by omega) (by omega)).trans HQ0.out) 4
  have hx_5 : w'.cell? ⟨w.heap.size + 1 + 1 + 1, 5, none⟩ = _ := blk_cell ((hS_ _ (by omega) (by omega)).trans HQ0.out) 5
  have hx_6 : w'.cell? ⟨w.heap.size + 1 + 1 + 1, 6, none⟩ = _ := blk_cell ((hS_ _ (by omega) (by omega)).trans HQ0.out) 6
  have hx_7 : w'.cell? ⟨w.heap.size + 1 + 1 + 1, 7, none⟩ = _ := blk_cell ((hS_ _ (by omega) (by omega)).trans HQ0.out) 7
  have hx_8 : w'.cell? ⟨w.heap.size + 1 + 1 + 1, 8, none⟩ = _ := blk_cell ((hS_ _ (by omega) (by omega)).trans HQ0.out) 8
  have hx_9 : w'.cell? ⟨w.heap.size + 1 + 1 + 1, 9, none⟩ = _ := blk_cell ((hS_ _ (by omega) (by omega)).trans HQ0.out) 9
  have hx_10 : w'.cell? ⟨w.heap.size + 1 + 1 + 1, 10, none⟩ = _ := blk_cell ((hS_ _ (by omega) (by omega)).trans HQ0.out) 10
  have hx_11 : w'.cell? ⟨w.heap.size + 1 + 1 + 1, 11, none⟩ = _ := blk_cell ((hS_ _ (by omega) (by omega)).trans HQ0.out) 11
  go_simp
  with_reducible rfl
 rotate_left
 ·(try simp only [Act.put, List.setIfInBounds_toArray, List.set_cons_zero, List.set_cons_succ])
  rfl
 refine one_ (i := 3) (N := none) NMb4 rfl rfl (one_of HT_.out (by kernel_rfl)) (by decide) (fun K hK => ?_)
 refine skip_ (w1 := ?_) (by rfl) rfl ?_ ?_
 rotate_left
 ·go_simp
  with_reducible rfl
 refine hK.out _ _ (fun q n0 n1 => (Below.heap_setCell _ _ _ _ n0).trans (Below.heap_setCell _ _ _ _ n0)) (fun hHeld => ?_)
 clear hK K
 refine last_ (i := 4) (N := none) NMb5 rfl rfl (one_of HT_.out (by kernel_rfl)) (by decide) (fun K hK => ?_)
 refine skip_ (w1 := ?_) (by rfl) rfl ?_ ?_
 rotate_left
 ·go_simp
  with_reducible rfl
 refine hK.out _ _ ?_
 clear hK K
 refine pure_ (i := 5) (N := some 4) (v := ?_) (a' := ?_) NMb6 rfl rfl (any_of HT_.out (by kernel_rfl)) (fun _ _ _ h => h) (Or.inl ⟨by rfl, ?_⟩) ?_ ?_
 rotate_left
 ·intro w'
  go_simp
  with_reducible rfl
 rotate_left
 ·(try simp only [Act.put, List.setIfInBounds_toArray, List.set_cons_zero, List.set_cons_succ])
  rfl
 refine done_ (done_of HT_.out (by kernel_rfl)) ?_
 clear HT_ HW_
 (try clear hHeld)
 go_wp2_with fail
 refine bodyPost_ret (v := .tuple #[.agg #[.int .u64 r.1, .slice A2 n2 c2], .agg #[.int .u64 r.2.2.2.f0, .int .i64 r.2.2.2.f1, .int .u32 r.2.2.2.f2.f0, .int .u32 r.2.2.2.f2.f1, .int .u64 r.2.2.2.f2.f2, .int .u64 r.2.2.2.f2.f3.f0, .int .u64 r.2.2.2.f2.f3.f1, .int .u64 r.2.2.2.f2.f3.f2, .int .u64 r.2.2.2.f2.f3.f3, .int .u64 r.2.2.2.f2.f3.f4, .int .u64 r.2.2.2.f2.f3.f5, .bool r.2.2.2.f3], .int .i64 r.2.2.1]) (by simp [results, Tryd.results12, go_sem, d0_0, d0_1, d1_0, d1_1, d1_2, d1_3, d1_4, d1_5, d1_6, d1_7, d1_8, d1_9, d1_10, d1_11, e0_l, e1_l]) rfl ?_
 rw [← HRR.out]
 refine ⟨.slice A2 n2 c2, rfl, ?_, ?_⟩
 ·refine Kd.R_mono (ok := fun k => w.heap.size + 1 + 1 + 1 + 1 ≤ k) (Kd.R_lower (base := w.heap.size + 1 + 1 + 1 + 1) ?_ (by omega)) (fun _ _ => trivial)
  (repeat (with_reducible first | exact HR3.out | refine Kd.R_far ?_ (fun q hq e => by dsimp only at e; omega) _))
 ·(repeat (with_reducible first | exact HB3.out | refine Below.setCell ?_ (by dsimp only; omega) _))
def ask.T3 : Bool × List (List Nat × List Nat) := (true, [([], []), ([], []), ([], []), ([0, 0], [0]), ([1, 3, 0, 1, 3], [1]), ([2, 4, 0, 1, 2, 3, 4], [2])])
def ask.B3 : List Nat := [0, 0, 0, 1, 11, 31]
theorem ask.tab3 : rtab .any (opsOf Tryd.f10 3) = ask.T3 := by kernel_rfl
theorem ask.bits3 : waitsOk ask.T3.2 ask.B3 = true := by kernel_rfl
set_option maxRecDepth 100000 in
set_option maxHeartbeats 4000000 in
theorem ask_w (nx : Int) (A : Option Addr) (c : Nat) (l : List S36) (t : Int) (x : S29) (hc : l.length ≤ c) (w : World) (hr : Kd.C k36 w A l.length l) :
  Calls Tryd.prog 10 #[.agg #[.int .u64 nx, .slice A l.length c], .int .i64 t, .agg #[.int .u32 x.f0, .int .u32 x.f1, .int .u64 x.f2, .int .u64 x.f3.f0, .int .u64 x.f3.f1, .int .u64 x.f3.f2, .int .u64 x.f3.f3, .int .u64 x.f3.f4, .int .u64 x.f3.f5]] w fun e w' => ∃ v : Value, e = .returned (.tuple #[.agg #[.int .u64 (askR nx l t x).1, v], .int .u64 (askR nx l t x).2.2.2, .int .i64 (askR nx l t x).2.2.1]) ∧ Kd.R k36 36 w' w.heap.size (fun _ => True) v (askR nx l t x).2.1 ∧ Below w.heap.size w w' := by
 have hB1 : Below w.heap.size w (((((w.alloc (.cells #[.int .u64 nx, .slice A l.length c] 25)).alloc (.cells #[.int .i64 t] 3)).alloc (.cells #[.int .u32 x.f0, .int .u32 x.f1, .int .u64 x.f2, .int .u64 x.f3.f0, .int .u64 x.f3.f1, .int .u64 x.f3.f2, .int .u64 x.f3.f3, .int .u64 x.f3.f4, .int .u64 x.f3.f5] 29)).alloc (.cells #[.int .u64 0, .slice none 0 0] 25)).alloc (.cells #[.int .u64 0] 22)) := (bel_al (bel_al (bel_al (bel_al (bel_al (Below.refl w.heap.size w) (.cells #[.int .u64 nx, .slice A l.length c] 25)) (.cells #[.int .i64 t] 3)) (.cells #[.int .u32 x.f0, .int .u32 x.f1, .int .u64 x.f2, .int .u64 x.f3.f0, .int .u64 x.f3.f1, .int .u64 x.f3.f2, .int .u64 x.f3.f3, .int .u64 x.f3.f4, .int .u64 x.f3.f5] 29)) (.cells #[.int .u64 0, .slice none 0 0] 25)) (.cells #[.int .u64 0] 22))
 have HB1 := Lib.hid hB1
 have HC1 := Lib.hid (Kd.C_below hr hB1)
 have h0 := (al_keep (o := .cells #[.int .u64 0] 22) (al_keep (o := .cells #[.int .u64 0, .slice none 0 0] 25) (al_keep (o := .cells #[.int .u32 x.f0, .int .u32 x.f1, .int .u64 x.f2, .int .u64 x.f3.f0, .int .u64 x.f3.f1, .int .u64 x.f3.f2, .int .u64 x.f3.f3, .int .u64 x.f3.f4, .int .u64 x.f3.f5] 29) (al_keep (o := .cells #[.int .i64 t] 3) (al_new w (.cells #[.int .u64 nx, .slice A l.length c] 25))))))
 (try simp only [World.size_alloc] at h0)
 have H0 := Lib.hid h0
 clear h0
 have h1 := (al_keep (o := .cells #[.int .u64 0] 22) (al_keep (o := .cells #[.int .u64 0, .slice none 0 0] 25) (al_keep (o := .cells #[.int .u32 x.f0, .int .u32 x.f1, .int .u64 x.f2, .int .u64 x.f3.f0, .int .u64 x.f3.f1, .int .u64 x.f3.f2, .int .u64 x.f3.f3, .int .u64 x.f3.f4, .int .u64 x.f3.f5] 29) (al_new (w.alloc (.cells #[.int .u64 nx, .slice A l.length c] 25)) (.cells #[.int .i64 t] 3)))))
 (try simp only [World.size_alloc] at h1)
 have H1 := Lib.hid h1
 clear h1
 have h2 := (al_keep (o := .cells #[.int .u64 0] 22) (al_keep (o := .cells #[.int .u64 0, .slice none 0 0] 25) (al_new ((w.alloc (.cells #[.int .u64 nx, .slice A l.length c] 25)).alloc (.cells #[.int .i64 t] 3)) (.cells #[.int .u32 x.f0, .int .u32 x.f1, .int .u64 x.f2, .int .u64 x.f3.f0, .int .u64 x.f3.f1, .int .u64 x.f3.f2, .int .u64 x.f3.f3, .int .u64 x.f3.f4, .int .u64 x.f3.f5] 29))))
 (try simp only [World.size_alloc] at h2)
 have H2 := Lib.hid h2
 clear h2
 have h3 := (al_keep (o := .cells #[.int .u64 0] 22) (al_new (((w.alloc (.cells #[.int .u64 nx, .slice A l.length c] 25)).alloc (.cells #[.int .i64 t] 3)).alloc (.cells #[.int .u32 x.f0, .int .u32 x.f1, .int .u64 x.f2, .int .u64 x.f3.f0, .int .u64 x.f3.f1, .int .u64 x.f3.f2, .int .u64 x.f3.f3, .int .u64 x.f3.f4, .int .u64 x.f3.f5] 29)) (.cells #[.int .u64 0, .slice none 0 0] 25)))
 (try simp only [World.size_alloc] at h3)
 have H3 := Lib.hid h3
 clear h3
 have h4 := (al_new ((((w.alloc (.cells #[.int .u64 nx, .slice A l.length c] 25)).alloc (.cells #[.int .i64 t] 3)).alloc (.cells #[.int .u32 x.f0, .int .u32 x.f1, .int .u64 x.f2, .int .u64 x.f3.f0, .int .u64 x.f3.f1, .int .u64 x.f3.f2, .int .u64 x.f3.f3, .int .u64 x.f3.f4, .int .u64 x.f3.f5] 29)).alloc (.cells #[.int .u64 0, .slice none 0 0] 25)) (.cells #[.int .u64 0] 22))
 (try simp only [World.size_alloc] at h4)
 have H4 := Lib.hid h4
 clear h4
 have hsz : ((((((w.alloc (.cells #[.int .u64 nx, .slice A l.length c] 25)).alloc (.cells #[.int .i64 t] 3)).alloc (.cells #[.int .u32 x.f0, .int .u32 x.f1, .int .u64 x.f2, .int .u64 x.f3.f0, .int .u64 x.f3.f1, .int .u64 x.f3.f2, .int .u64 x.f3.f3, .int .u64 x.f3.f4, .int .u64 x.f3.f5] 29)).alloc (.cells #[.int .u64 0, .slice none 0 0] 25)).alloc (.cells #[.int .u64 0] 22))).heap.size = w.heap.size + 1 + 1 + 1 + 1 + 1 := by simp only [World.size_alloc]
 have HSZ := Lib.hid hsz
 clear hB1 hr hsz
 go_enter Tryd.func10, Tryd.ntmps10
 go_wp2_with (first | (go_at_call 25; refine (turn26_w (w.heap.size + 1) (w.heap.size + 1 + 1 + 1 + 1) (w.heap.size + 1 + 1) t x nx A c l hc _ HC1.out (by omega) (by omega) H1.out H4.out H2.out).mono ?_; rintro e w2 ⟨v, rfl, hR2, hcap, hst⟩; rw [HSZ.out] at hR2 hst; obtain ⟨r, hr⟩ := abs3 (askR nx l t x); rw [← hr] at hR2 hcap ⊢; have HRR := Lib.hid hr; clear hr; obtain ⟨A2, c2, rfl⟩ := Kd.R_slice hR2; obtain ⟨n2, hn2⟩ : ∃ n, n = r.2.1.length := ⟨_, rfl⟩; rw [← hn2] at hR2 ⊢; clear hn2; have HB2 := Lib.hid (show Below w.heap.size w w2 from ⟨hst.os.trans HB1.out.os, hst.tape.trans HB1.out.tape, hst.output.trans HB1.out.output, Nat.le_trans HB1.out.size hst.size, fun q hq => (hst.block q (by omega) (by omega)).trans (HB1.out.block q hq)⟩); have HR2 := Lib.hid (Kd.R_mono (Kd.R_bound hR2) (fun k hk => (show w.heap.size + 1 + 1 + 1 + 1 + 1 ≤ k from hk.2.1))); have hs2 : w.heap.size + 1 + 1 + 1 + 1 + 1 ≤ w2.heap.size := (by have := hst.size; rw [HSZ.out] at this; exact this); have HE0 := Lib.hid ((hst.block (w.heap.size + 1 + 1 + 1) (by omega) (by omega)).trans H3.out); have HP0 := Lib.hid (hcap); clear hR2 hcap hst))
 have HY3 := Lib.hid (blk_drew (al_new w2 (.cells #[.int .u64 r.1, .slice A2 n2 c2] 25)))
 have HB3 := Lib.hid (below_drew (bel_al HB2.out (.cells #[.int .u64 r.1, .slice A2 n2 c2] 25)))
 have HR3 := Lib.hid (Kd.R_drew (Kd.R_alloc HR2.out (.cells #[.int .u64 r.1, .slice A2 n2 c2] 25)))
 have HF0 := Lib.hid (blk_drew (al_keep (o := (.cells #[.int .u64 r.1, .slice A2 n2 c2] 25)) HE0.out))
 have HQ0 := Lib.hid (blk_drew (al_keep (o := (.cells #[.int .u64 r.1, .slice A2 n2 c2] 25)) HP0.out))
 refine start_ (n := 6) (S := fun w' => ∀ q, q ≠ w.heap.size + 1 + 1 + 1 → w'.heap[q]? = (w2.alloc (.cells #[.int .u64 r.1, .slice A2 n2 c2] 25)).drew.heap[q]?) (ds := []) NMb0 (by kernel_rfl) rfl rfl (fun _ _ => rfl) (fun hHeld => ?_); refine with_tabW ask.tab3 ask.bits3 (fun HT_ HW_ => ?_)
 generalize (w2.alloc (.cells #[.int .u64 r.1, .slice A2 n2 c2] 25)).drew = w3 at HY3 HB3 HR3 HF0 HQ0 hHeld ⊢
 have d0_0 := blk_cell HF0.out 0
 have d0_1 := blk_cell HF0.out 1
 have f0_0 := blk_frozen HF0.out 0
 have f0_1 := blk_frozen HF0.out 1
 have e0_l := blk_lt HF0.out
 refine pure_ (i := 2) (N := some 20) (v := ?_) (a' := ?_) NMb1 rfl rfl (any_of HT_.out (by kernel_rfl)) (fun _ _ _ h => h) (Or.inl ⟨by rfl, ?_⟩) ?_ ?_
 rotate_left
 ·intro w'
  go_simp
  with_reducible rfl
 rotate_left
 ·(try simp only [Act.put, List.setIfInBounds_toArray, List.set_cons_zero, List.set_cons_succ])
  rfl
 refine take_ (i := 0) (N := some 18) (v := ?_) (a' := ?_) NMb2 rfl rfl (take_ofW HT_.out HW_.out (by kernel_rfl)) (fun _ _ _ h => h) (Or.inl ⟨by rfl, ?_⟩) hHeld ?_ ?_
 rotate_left
 ·intro w' hS_
  have hx_0 : w'.cell? ⟨w2.heap.size, 0, none⟩ = _ := blk_cell ((hS_ _ (by omega)).trans HY3.out) 0
  have hx_1 : w'.cell? ⟨w2.heap.size, 1, none⟩ = _ := blk_cell ((hS_ _ (by omega)).trans HY3.out) 1
  go_simp
  with_reducible rfl
 rotate_left
 ·(try simp only [Act.put, List.setIfInBounds_toArray, List.set_cons_zero, List.set_cons_succ])
  rfl
 refine take_ (i := 1) (N := some 19) (v := ?_) (a' := ?_) NMb3 rfl rfl (take_ofW HT_.out HW_.out (by kernel_rfl)) (fun _ _ _ h => h) (Or.inl ⟨by rfl, ?_⟩) hHeld ?_ ?_
 rotate_left
 ·intro w' hS_
  have hx_0 : w'.cell? ⟨w.heap.size + 1 + 1 + 1 + 1, 0, none⟩ = _ := blk_cell ((hS_ _ (by omega)).trans HQ0.out) 0
  go_simp
  with_reducible rfl
 rotate_left
 ·(try simp only [Act.put, List.setIfInBounds_toArray, List.set_cons_zero, List.set_cons_succ])
  rfl
 refine one_ (i := 3) (N := none) NMb4 rfl rfl (one_of HT_.out (by kernel_rfl)) (by decide) (fun K hK => ?_)
 refine skip_ (w1 := ?_) (by rfl) rfl ?_ ?_
 rotate_left
 ·go_simp
  with_reducible rfl
 refine hK.out _ _ (fun q n0 => (Below.heap_setCell _ _ _ _ n0).trans (Below.heap_setCell _ _ _ _ n0)) (fun hHeld => ?_)
 clear hK K
 refine pure_ (i := 4) (N := some 7) (v := ?_) (a' := ?_) NMb5 rfl rfl (any_of HT_.out (by kernel_rfl)) (fun _ _ _ h => h) (Or.inl ⟨by rfl, ?_⟩) ?_ ?_
 rotate_left
 ·intro w'
  go_simp
  with_reducible rfl
 rotate_left
 ·(try simp only [Act.put, List.setIfInBounds_toArray, List.set_cons_zero, List.set_cons_succ])
  rfl
 refine pure_ (i := 5) (N := some 8) (v := ?_) (a' := ?_) NMb6 rfl rfl (any_of HT_.out (by kernel_rfl)) (fun _ _ _ h => h) (Or.inl ⟨by rfl, ?_⟩) ?_ ?_
 rotate_left
 ·intro w'
  go_simp
  with_reducible rfl
 rotate_left
 ·(try simp only [Act.put, List.setIfInBounds_toArray, List.set_cons_zero, List.set_cons_succ])
  rfl
 refine done_ (done_of HT_.out (by kernel_rfl)) ?_
 clear HT_ HW_
 (try clear hHeld)
 go_wp2_with fail
 refine bodyPost_ret (v := .tuple #[.agg #[.int .u64 r.1, .slice A2 n2 c2], .int .u64 r.2.2.2, .int .i64 r.2.2.1]) (by simp [results, Tryd.results10, go_sem, d0_0, d0_1, e0_l]) rfl ?_
 rw [← HRR.out]
 refine ⟨.slice A2 n2 c2, rfl, ?_, ?_⟩
 ·refine Kd.R_mono (ok := fun k => w.heap.size + 1 + 1 + 1 + 1 + 1 ≤ k) (Kd.R_lower (base := w.heap.size + 1 + 1 + 1 + 1 + 1) ?_ (by omega)) (fun _ _ => trivial)
  (repeat (with_reducible first | exact HR3.out | refine Kd.R_far ?_ (fun q hq e => by dsimp only at e; omega) _))
 ·(repeat (with_reducible first | exact HB3.out | refine Below.setCell ?_ (by dsimp only; omega) _))
def ans.T3 : Bool × List (List Nat × List Nat) := (true, [([], []), ([], []), ([], []), ([], []), ([0, 0], [0]), ([1, 4, 0, 1, 4], [1]), ([2, 5, 0, 1, 2, 4, 5], [2]), ([3, 6, 0, 1, 2, 3, 4, 5, 6], [3])])
def ans.B3 : List Nat := [0, 0, 0, 0, 1, 19, 55, 127]
theorem ans.tab3 : rtab .any (opsOf Tryd.f15 3) = ans.T3 := by kernel_rfl
theorem ans.bits3 : waitsOk ans.T3.2 ans.B3 = true := by kernel_rfl
set_option maxRecDepth 100000 in
set_option maxHeartbeats 4000000 in
theorem ans_w (nx : Int) (A : Option Addr) (c : Nat) (l : List S36) (ck : Int) (go : Bool) (ret : Int) (hc : l.length ≤ c) (w : World) (hT : Tab w) (hr : Kd.C k36 w A l.length l) :
  Calls Tryd.prog 15 #[.agg #[.int .u64 nx, .slice A l.length c], .int .u64 ck, .agg #[.bool go, .int .i64 ret]] w fun e w' => ∃ v : Value, e = .returned (.tuple #[.agg #[.int .u64 (ansR nx l ck go ret).1, v], .int .i64 (ansR nx l ck go ret).2.2.2.1, .agg #[.int .i64 0, .bool (ansR nx l ck go ret).2.2.2.2.1, .int .i64 (ansR nx l ck go ret).2.2.2.2.2, .bool false, .int .u16 0, .bool false, .int .i64 0], .int .i64 (ansR nx l ck go ret).2.2.1]) ∧ Kd.R k36 36 w' w.heap.size (fun _ => True) v (ansR nx l ck go ret).2.1 ∧ Below w.heap.size w w' := by
 have hB1 : Below w.heap.size w (((((((w.alloc (.cells #[.int .u64 nx, .slice A l.length c] 25)).alloc (.cells #[.int .u64 ck] 22)).alloc (.cells #[.bool go, .int .i64 ret] 42)).alloc (.cells #[.int .u64 0, .slice none 0 0] 25)).alloc (.cells #[.int .i64 0, .bool false, .int .i64 0, .bool false, .int .u16 0, .bool false, .int .i64 0] 45)).alloc (.cells #[.int .i64 0] 3)).alloc (.cells #[.int .i64 0, .bool false, .int .i64 0, .bool false, .int .u16 0, .bool false, .int .i64 0] 45)) := (bel_al (bel_al (bel_al (bel_al (bel_al (bel_al (bel_al (Below.refl w.heap.size w) (.cells #[.int .u64 nx, .slice A l.length c] 25)) (.cells #[.int .u64 ck] 22)) (.cells #[.bool go, .int .i64 ret] 42)) (.cells #[.int .u64 0, .slice none 0 0] 25)) (.cells #[.int .i64 0, .bool false, .int .i64 0, .bool false, .int .u16 0, .bool false, .int .i64 0] 45)) (.cells #[.int .i64 0] 3)) (.cells #[.int .i64 0, .bool false, .int .i64 0, .bool false, .int .u16 0, .bool false, .int .i64 0] 45))
 have HB1 := Lib.hid hB1
 have HC1 := Lib.hid (Kd.C_below hr hB1)
 have HT1 := Lib.hid (hT.below hB1)
 clear hT
 have h0 := (al_keep (o := .cells #[.int .i64 0, .bool false, .int .i64 0, .bool false, .int .u16 0, .bool false, .int .i64 0] 45) (al_keep (o := .cells #[.int .i64 0] 3) (al_keep (o := .cells #[.int .i64 0, .bool false, .int .i64 0, .bool false, .int .u16 0, .bool false, .int .i64 0] 45) (al_keep (o := .cells #[.int .u64 0, .slice none 0 0] 25) (al_keep (o := .cells #[.bool go, .int .i64 ret] 42) (al_keep (o := .cells #[.int .u64 ck] 22) (al_new w (.cells #[.int .u64 nx, .slice A l.length c] 25))))))))
 (try simp only [World.size_alloc] at h0)
 have H0 := Lib.hid h0
 clear h0
 have h1 := (al_keep (o := .cells #[.int .i64 0, .bool false, .int .i64 0, .bool false, .int .u16 0, .bool false, .int .i64 0] 45) (al_keep (o := .cells #[.int .i64 0] 3) (al_keep (o := .cells #[.int .i64 0, .bool false, .int .i64 0, .bool false, .int .u16 0, .bool false, .int .i64 0] 45) (al_keep (o := .cells #[.int .u64 0, .slice none 0 0] 25) (al_keep (o := .cells #[.bool go, .int .i64 ret] 42) (al_new (w.alloc (.cells #[.int .u64 nx, .slice A l.length c] 25)) (.cells #[.int .u64 ck] 22)))))))
 (try simp only [World.size_alloc] at h1)
 have H1 := Lib.hid h1
 clear h1
 have h2 := (al_keep (o := .cells #[.int .i64 0, .bool false, .int .i64 0, .bool false, .int .u16 0, .bool false, .int .i64 0] 45) (al_keep (o := .cells #[.int .i64 0] 3) (al_keep (o := .cells #[.int .i64 0, .bool false, .int .i64 0, .bool false, .int .u16 0, .bool false, .int .i64 0] 45) (al_keep (o := .cells #[.int .u64 0, .slice none 0 0] 25) (al_new ((w.alloc (.cells #[.int .u64 nx, .slice A l.length c] 25)).alloc (.cells #[.int .u64 ck] 22)) (.cells #[.bool go, .int .i64 ret] 42))))))
 (try simp only [World.size_alloc] at h2)
 have H2 := Lib.hid h2
 clear h2
 have h3 := (al_keep (o := .cells #[.int .i64 0, .bool false, .int .i64 0, .bool false, .int .u16 0, .bool false, .int .i64 0] 45) (al_keep (o := .cells #[.int .i64 0] 3) (al_keep (o := .cells #[.int .i64 0, .bool false, .int .i64 0, .bool false, .int .u16 0, .bool false, .int .i64 0] 45) (al_new (((w.alloc (.cells #[.int .u64 nx, .slice A l.length c] 25)).alloc (.cells #[.int .u64 ck] 22)).alloc (.cells #[.bool go, .int .i64 ret] 42)) (.cells #[.int .u64 0, .slice none 0 0] 25)))))
 (try simp only [World.size_alloc] at h3)
 have H3 := Lib.hid h3
 clear h3
 have h4 := (al_keep (o := .cells #[.int .i64 0, .bool false, .int .i64 0, .bool false, .int .u16 0, .bool false, .int .i64 0] 45) (al_keep (o := .cells #[.int .i64 0] 3) (al_new ((((w.alloc (.cells #[.int .u64 nx, .slice A l.length c] 25)).alloc (.cells #[.int .u64 ck] 22)).alloc (.cells #[.bool go, .int .i64 ret] 42)).alloc (.cells #[.int .u64 0, .slice none 0 0] 25)) (.cells #[.int .i64 0, .bool false, .int .i64 0, .bool false, .int .u16 0, .bool false, .int .i64 0] 45))))
 (try simp only [World.size_alloc] at h4)
 have H4 := Lib.hid h4
 clear h4
 have h5 := (al_keep (o := .cells #[.int .i64 0, .bool false, .int .i64 0, .bool false, .int .u16 0, .bool false, .int .i64 0] 45) (al_new (((((w.alloc (.cells #[.int .u64 nx, .slice A l.length c] 25)).alloc (.cells #[.int .u64 ck] 22)).alloc (.cells #[.bool go, .int .i64 ret] 42)).alloc (.cells #[.int .u64 0, .slice none 0 0] 25)).alloc (.cells #[.int .i64 0, .bool false, .int .i64 0, .bool false, .int .u16 0, .bool false, .int .i64 0] 45)) (.cells #[.int .i64 0] 3)))
 (try simp only [World.size_alloc] at h5)
 have H5 := Lib.hid h5
 clear h5
 have h6 := (al_new ((((((w.alloc (.cells #[.int .u64 nx, .slice A l.length c] 25)).alloc (.cells #[.int .u64 ck] 22)).alloc (.cells #[.bool go, .int .i64 ret] 42)).alloc (.cells #[.int .u64 0, .slice none 0 0] 25)).alloc (.cells #[.int .i64 0, .bool false, .int .i64 0, .bool false, .int .u16 0, .bool false, .int .i64 0] 45)).alloc (.cells #[.int .i64 0] 3)) (.cells #[.int .i64 0, .bool false, .int .i64 0, .bool false, .int .u16 0, .bool false, .int .i64 0] 45))
 (try simp only [World.size_alloc] at h6)
 have H6 := Lib.hid h6
 clear h6
 have hsz : ((((((((w.alloc (.cells #[.int .u64 nx, .slice A l.length c] 25)).alloc (.cells #[.int .u64 ck] 22)).alloc (.cells #[.bool go, .int .i64 ret] 42)).alloc (.cells #[.int .u64 0, .slice none 0 0] 25)).alloc (.cells #[.int .i64 0, .bool false, .int .i64 0, .bool false, .int .u16 0, .bool false, .int .i64 0] 45)).alloc (.cells #[.int .i64 0] 3)).alloc (.cells #[.int .i64 0, .bool false, .int .i64 0, .bool false, .int .u16 0, .bool false, .int .i64 0] 45))).heap.size = w.heap.size + 1 + 1 + 1 + 1 + 1 + 1 + 1 := by simp only [World.size_alloc]
 have HSZ := Lib.hid hsz
 clear hB1 hr hsz
 go_enter Tryd.func15, Tryd.ntmps15
 go_wp2_with (first | (go_at_call 25; refine (turn33_w (w.heap.size + 1) (w.heap.size + 1 + 1) (w.heap.size + 1 + 1 + 1 + 1 + 1) (w.heap.size + 1 + 1 + 1 + 1 + 1 + 1) ck go ret nx A c l hc _ HC1.out (by omega) HT1.out H1.out H2.out H5.out H6.out).mono ?_; rintro e w2 ⟨v, rfl, hR2, hcap, hst⟩; rw [HSZ.out] at hR2 hst; obtain ⟨r, hr⟩ := abs3 (ansR nx l ck go ret); rw [← hr] at hR2 hcap ⊢; have HRR := Lib.hid hr; clear hr; obtain ⟨A2, c2, rfl⟩ := Kd.R_slice hR2; obtain ⟨n2, hn2⟩ : ∃ n, n = r.2.1.length := ⟨_, rfl⟩; rw [← hn2] at hR2 ⊢; clear hn2; have HB2 := Lib.hid (show Below w.heap.size w w2 from ⟨hst.os.trans HB1.out.os, hst.tape.trans HB1.out.tape, hst.output.trans HB1.out.output, Nat.le_trans HB1.out.size hst.size, fun q hq => (hst.block q (by omega) (by omega)).trans (HB1.out.block q hq)⟩); have HR2 := Lib.hid (Kd.R_mono (Kd.R_bound hR2) (fun k hk => (show w.heap.size + 1 + 1 + 1 + 1 + 1 + 1 + 1 ≤ k from hk.2.1))); have hs2 : w.heap.size + 1 + 1 + 1 + 1 + 1 + 1 + 1 ≤ w2.heap.size := (by have := hst.size; rw [HSZ.out] at this; exact this); have HE0 := Lib.hid ((hst.block (w.heap.size + 1 + 1 + 1) (by omega) (by omega)).trans H3.out); have HE1 := Lib.hid ((hst.block (w.heap.size + 1 + 1 + 1 + 1) (by omega) (by omega)).trans H4.out); have HP0 := Lib.hid (hcap.1); have HP1 := Lib.hid (hcap.2); clear hR2 hcap hst))
 have HY3 := Lib.hid (blk_drew (al_new w2 (.cells #[.int .u64 r.1, .slice A2 n2 c2] 25)))
 have HB3 := Lib.hid (below_drew (bel_al HB2.out (.cells #[.int .u64 r.1, .slice A2 n2 c2] 25)))
 have HR3 := Lib.hid (Kd.R_drew (Kd.R_alloc HR2.out (.cells #[.int .u64 r.1, .slice A2 n2 c2] 25)))
 have HF0 := Lib.hid (blk_drew (al_keep (o := (.cells #[.int .u64 r.1, .slice A2 n2 c2] 25)) HE0.out))
 have HF1 := Lib.hid (blk_drew (al_keep (o := (.cells #[.int .u64 r.1, .slice A2 n2 c2] 25)) HE1.out))
 have HQ0 := Lib.hid (blk_drew (al_keep (o := (.cells #[.int .u64 r.1, .slice A2 n2 c2] 25)) HP0.out))
 have HQ1 := Lib.hid (blk_drew (al_keep (o := (.cells #[.int .u64 r.1, .slice A2 n2 c2] 25)) HP1.out))
 refine start_ (n := 8) (S := fun w' => ∀ q, q ≠ w.heap.size + 1 + 1 + 1 → q ≠ w.heap.size + 1 + 1 + 1 + 1 → w'.heap[q]? = (w2.alloc (.cells #[.int .u64 r.1, .slice A2 n2 c2] 25)).drew.heap[q]?) (ds := [6]) #[false, false, false, false, false, false, false, false] (by kernel_rfl) rfl rfl (fun _ _ _ => rfl) (fun hHeld => ?_); refine with_tabW ans.tab3 ans.bits3 (fun HT_ HW_ => ?_)
 generalize (w2.alloc (.cells #[.int .u64 r.1, .slice A2 n2 c2] 25)).drew = w3 at HY3 HB3 HR3 HF0 HF1 HQ0 HQ1 hHeld ⊢
 have d0_0 := blk_cell HF0.out 0
 have d0_1 := blk_cell HF0.out 1
 have f0_0 := blk_frozen HF0.out 0
 have f0_1 := blk_frozen HF0.out 1
 have e0_l := blk_lt HF0.out
 have d1_0 := blk_cell HF1.out 0
 have d1_1 := blk_cell HF1.out 1
 have d1_2 := blk_cell HF1.out 2
 have d1_3 := blk_cell HF1.out 3
 have d1_4 := blk_cell HF1.out 4
 have d1_5 := blk_cell HF1.out 5
 have d1_6 := blk_cell HF1.out 6
 have f1_0 := blk_frozen HF1.out 0
 have f1_1 := blk_frozen HF1.out 1
 have f1_2 := blk_frozen HF1.out 2
 have f1_3 := blk_frozen HF1.out 3
 have f1_4 := blk_frozen HF1.out 4
 have f1_5 := blk_frozen HF1.out 5
 have f1_6 := blk_frozen HF1.out 6
 have e1_l := blk_lt HF1.out
 refine pure_ (i := 3) (N := some 24) (v := ?_) (a' := ?_) #[false, false, false, true, false, false, false, false] rfl rfl (any_of HT_.out (by kernel_rfl)) (fun _ _ _ h => h) (Or.inl ⟨by rfl, ?_⟩) ?_ ?_
 rotate_left
 ·intro w'
  go_simp
  with_reducible rfl
 rotate_left
 ·(try simp only [Act.put, List.setIfInBounds_toArray, List.set_cons_zero, List.set_cons_succ])
  rfl
 refine take_ (i := 0) (N := some 21) (v := ?_) (a' := ?_) #[true, false, false, true, false, false, false, false] rfl rfl (take_ofW HT_.out HW_.out (by kernel_rfl)) (fun _ _ _ h => h) (Or.inl ⟨by rfl, ?_⟩) hHeld ?_ ?_
 rotate_left
 ·intro w' hS_
  have hx_0 : w'.cell? ⟨w2.heap.size, 0, none⟩ = _ := blk_cell ((hS_ _ (by omega) (by omega)).trans HY3.out) 0
  have hx_1 : w'.cell? ⟨w2.heap.size, 1, none⟩ = _ := blk_cell ((hS_ _ (by omega) (by omega)).trans HY3.out) 1
  go_simp
  with_reducible rfl
 rotate_left
 ·(try simp only [Act.put, List.setIfInBounds_toArray, List.set_cons_zero, List.set_cons_succ])
  rfl
 refine take_ (i := 1) (N := some 22) (v := ?_) (a' := ?_) #[true, true, false, true, false, false, false, false] rfl rfl (take_ofW HT_.out HW_.out (by kernel_rfl)) (fun _ _ _ h => h) (Or.inl ⟨by rfl, ?_⟩) hHeld ?_ ?_
 rotate_left
 ·intro w' hS_
  have hx_0 : w'.cell? ⟨w.heap.size + 1 + 1 + 1 + 1 + 1, 0, none⟩ = _ := blk_cell ((hS_ _ (by omega) (by omega)).trans HQ0.out) 0
  go_simp
  with_reducible rfl
 rotate_left
 ·(try simp only [Act.put, List.setIfInBounds_toArray, List.set_cons_zero, List.set_cons_succ])
  rfl
 refine take_ (i := 2) (N := some 23) (v := ?_) (a' := ?_) #[true, true, true, true, false, false, false, false] rfl rfl (take_ofW HT_.out HW_.out (by kernel_rfl)) (fun _ _ _ h => h) (Or.inl ⟨by rfl, ?_⟩) hHeld ?_ ?_
 rotate_left
 ·intro w' hS_
  have hx_0 : w'.cell? ⟨w.heap.size + 1 + 1 + 1 + 1 + 1 + 1, 0, none⟩ = _ := blk_cell ((hS_ _ (by omega) (by omega)).trans HQ1.out) 0
  have hx_1 : w'.cell? ⟨w.heap.size + 1 + 1 + 1 + 1 + 1 + 1, 1, none⟩ = _ := blk_cell ((hS_ _ (by omega) (by omega)).trans HQ1.out) 1
  have hx_2 : w'.cell? ⟨w.heap.size + 1 + 1 + 1 + 1 + 1 + 1, 2, none⟩ = _ := blk_cell ((hS_ _ (by omega) (by omega)).trans HQ1.out) 2
  have hx_3 : w'.cell? ⟨w.heap.size + 1 + 1 + 1 + 1 + 1 + 1, 3, none⟩ = _ := blk_cell ((hS_ _ (by omega) (by omega)).trans HQ1.out) 3
  have hx_4 : w'.cell? ⟨w.heap.size + 1 + 1 + 1 + 1 + 1 + 1, 4, none⟩ = _ := blk_cell ((hS_ _ (by omega) (by omega)).trans HQ1.out) 4
  have hx_5 : w'.cell? ⟨w.heap.size + 1 + 1 + 1 + 1 + 1 + 1, 5, none⟩ = _ := blk_cell ((hS_ _ (by omega) (by omega)).trans HQ1.out) 5
  have hx_6 : w'.cell? ⟨w.heap.size + 1 + 1 + 1 + 1 + 1 + 1, 6, none⟩ = _ := blk_cell ((hS_ _ (by omega) (by omega)).trans HQ1.out) 6
  go_simp
  with_reducible rfl
 rotate_left
 ·(try simp only [Act.put, List.setIfInBounds_toArray, List.set_cons_zero, List.set_cons_succ])
  rfl
 refine one_ (i := 4) (N := none) #[true, true, true, true, true, false, false, false] rfl rfl (one_of HT_.out (by kernel_rfl)) (by decide) (fun K hK => ?_)
 refine skip_ (w1 := ?_) (by rfl) rfl ?_ ?_
 rotate_left
 ·go_simp
  with_reducible rfl
 refine hK.out _ _ (fun q n0 n1 => (Below.heap_setCell _ _ _ _ n0).trans (Below.heap_setCell _ _ _ _ n0)) (fun hHeld => ?_)
 clear hK K
 refine pure_ (i := 5) (N := some 7) (v := ?_) (a' := ?_) #[true, true, true, true, true, true, false, false] rfl rfl (any_of HT_.out (by kernel_rfl)) (fun _ _ _ h => h) (Or.inl ⟨by rfl, ?_⟩) ?_ ?_
 rotate_left
 ·intro w'
  go_simp
  with_reducible rfl
 rotate_left
 ·(try simp only [Act.put, List.setIfInBounds_toArray, List.set_cons_zero, List.set_cons_succ])
  rfl
 refine last_ (i := 6) (N := none) #[true, true, true, true, true, true, true, false] rfl rfl (one_of HT_.out (by kernel_rfl)) (by decide) (fun K hK => ?_)
 refine skip_ (w1 := ?_) (by rfl) rfl ?_ ?_
 rotate_left
 ·go_simp
  with_reducible rfl
 refine hK.out _ _ ?_
 clear hK K
 refine pure_ (i := 7) (N := some 9) (v := ?_) (a' := ?_) #[true, true, true, true, true, true, true, true] rfl rfl (any_of HT_.out (by kernel_rfl)) (fun _ _ _ h => h) (Or.inl ⟨by rfl, ?_⟩) ?_ ?_
 rotate_left
 ·intro w'
  go_simp
  with_reducible rfl
 rotate_left
 ·(try simp only [Act.put, List.setIfInBounds_toArray, List.set_cons_zero, List.set_cons_succ])
  rfl
 refine done_ (done_of HT_.out (by kernel_rfl)) ?_
 clear HT_ HW_
 (try clear hHeld)
 go_wp2_with fail
 refine bodyPost_ret (v := .tuple #[.agg #[.int .u64 r.1, .slice A2 n2 c2], .int .i64 r.2.2.2.1, .agg #[.int .i64 0, .bool r.2.2.2.2.1, .int .i64 r.2.2.2.2.2, .bool false, .int .u16 0, .bool false, .int .i64 0], .int .i64 r.2.2.1]) (by simp [results, Tryd.results15, go_sem, d0_0, d0_1, d1_0, d1_1, d1_2, d1_3, d1_4, d1_5, d1_6, e0_l, e1_l]) rfl ?_
 rw [← HRR.out]
 refine ⟨.slice A2 n2 c2, rfl, ?_, ?_⟩
 ·refine Kd.R_mono (ok := fun k => w.heap.size + 1 + 1 + 1 + 1 + 1 + 1 + 1 ≤ k) (Kd.R_lower (base := w.heap.size + 1 + 1 + 1 + 1 + 1 + 1 + 1) ?_ (by omega)) (fun _ _ => trivial)
  (repeat (with_reducible first | exact HR3.out | refine Kd.R_far ?_ (fun q hq e => by dsimp only at e; omega) _))
 ·(repeat (with_reducible first | exact HB3.out | refine Below.setCell ?_ (by dsimp only; omega) _))
end Go.Proofs.YtcbiehinhmkjmaaDoor.NB
