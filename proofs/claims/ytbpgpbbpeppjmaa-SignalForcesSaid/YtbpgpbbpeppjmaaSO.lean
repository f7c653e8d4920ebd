import Derived.Test.YtbpgpbbpeppjmaaSG
namespace Go.Proofs.Ytbpgpbbpeppjmaa.SG
open Go.RowKit Go.Proofs.YtbpgpbbpeppjmaaW.PrintWords Go.Proofs.YtbpgpbbpeppjmaaW.PrintLast Go.Proofs.YtbpgpbbpeppjmaaW.PrintMore
set_option linter.unusedVariables false
set_option linter.unusedSimpArgs false
def run18.T18 : Bool × List (List Nat × List Nat) := (true, [([], []), ([], []), ([], []), ([0, 0], [0]), ([1, 3, 0, 1, 3], [1]), ([2, 4, 0, 1, 2, 3, 4], [2])])
def run18.B18 : List Nat := [0, 0, 0, 1, 11, 31]
theorem run18.tab18 : rtab .any (opsOf Try.f15 18) = run18.T18 := by kernel_rfl
theorem run18.bits18 : waitsOk run18.T18.2 run18.B18 = true := by kernel_rfl
/-- What an op comes to, by its kind's rest. -/
def Sg.opD (s : Sg) (q a : Int) (f : Bool) (co er nr ar : Int) : Sg × Ht × Int :=
  if q = 0 then ((s.withV (s.setD a f)).1, nohit, (s.withV (s.setD a f)).2.2) else if q = 1 then s.withV (s.blockD f) else if q = 2 ∨ q = 3 then s.withV (s.sendD co er nr ar) else if q = 4 ∨ q = 5 then s.withV (s.forceD co er nr ar) else if q = 6 ∨ q = 7 then s.withV s.retD else if q = 8 then ((s.withV s.forkD).1, nohit, (s.withV s.forkD).2.2) else ((s.withV s.execD).1, nohit, (s.withV s.execD).2.2)
set_option maxHeartbeats 2000000 in
set_option maxRecDepth 100000 in
theorem run_0 (kd a : Int) (f : Bool) (co er nr ar : Int) (s : Sg) (q : Int) (hq : (IntKind.u64.wrap kd).tmod 10 = q) (hq0 : q = 0) (A : Option Addr) (c : Nat) (w : World) (hr0 : Kd.C Kd.bool w A s.l.length s.l) (hc0 : s.l.length ≤ c) :
    Calls Try.prog 15 #[.agg #[.int .i64 kd, .int .i64 a, .bool f, .int .i64 co, .int .i64 er, .int .u32 nr, .int .u32 ar], .agg #[.int .i64 s.ac, .bool s.op, .bool s.bl, .bool s.pe, .int .i64 s.co, .int .i64 s.er, .int .u32 s.nr, .int .u32 s.ar, .slice A s.l.length c]] w (Outs (s.opD q a f co er nr ar) w) := by
  subst hq0
  obtain ⟨r, hr⟩ : ∃ r, r = s.withV (s.setD a f) := ⟨_, rfl⟩
  have HRV := Aside0.mk hr
  clear hr
  rw [show s.opD 0 a f co er nr ar = (r.1, nohit, r.2.2) from by rw [HRV.out]; simp [Sg.opD]]
  have HR0 := Aside0.mk hr0
  have HC0 := Aside0.mk hc0
  clear hr0 hc0
  go_enter Try.func15, Try.ntmps15
  go_wp2_with fail
  refine (set_c a f s A c _ (Kd.C_alloc (Kd.C_alloc (Kd.C_alloc (Kd.C_alloc HR0.out _) _) _) _) HC0.out).mono ?_
  rw [← HRV.out]
  rintro e w1 ⟨v1, rfl, hR, hB⟩
  have HY : Aside0 (w1.heap[w.heap.size + 1 + 1]? = some (.cells #[.int .i64 0, .bool false, .bool false, .bool false, .int .i64 0, .int .i64 0, .int .u32 0, .int .u32 0, .slice none 0 0] 27 (0, 0))) := ⟨by refine (hB.block _ (by simp only [World.size_alloc]; omega)).trans ?_; (repeat (with_reducible first | exact heap_new_at _ _ _ (by simp) | refine blk_alloc ?_ _))⟩
  have HH : Aside0 (w1.heap[w.heap.size + 1 + 1 + 1]? = some (.cells #[.bool false, .bool false, .int .i64 0, .int .i64 0, .int .u32 0, .int .u32 0] 33 (0, 0))) := ⟨by refine (hB.block _ (by simp only [World.size_alloc]; omega)).trans ?_; (repeat (with_reducible first | exact heap_new_at _ _ _ (by simp) | refine blk_alloc ?_ _))⟩
  have HB : Aside0 (Below w.heap.size w w1) := ⟨(below_alloc (below_alloc (below_alloc (below_alloc (Below.refl _ _) _) _) _) _).trans (hB.mono (by simp only [World.size_alloc]; omega))⟩
  have HR : Aside0 (Kd.R Kd.bool 4 w1 w.heap.size (fun k => k ≠ w.heap.size + 1 + 1 ∧ k ≠ w.heap.size + 1 + 1 + 1) v1 r.1.l) := ⟨Kd.R_lower (Kd.R_mono (Kd.R_bound hR) (fun k hk => by have := hk.2.1; simp only [World.size_alloc] at this; omega)) (by simp only [World.size_alloc]; omega)⟩
  clear hR hB HRV HR0 HC0
  obtain ⟨r1, r2, r3⟩ := r
  dsimp only [nohit] at HR ⊢
  obtain ⟨A1, c1, rfl⟩ := Kd.R_slice HR.out
  obtain ⟨m, hm⟩ : ∃ m, m = r1.l.length := ⟨_, rfl⟩
  rw [← hm] at HR ⊢
  clear hm
  obtain ⟨Y, hYe⟩ : ∃ Y, Y = w.heap.size + 1 + 1 := ⟨_, rfl⟩
  rw [← hYe] at HY HH HR ⊢
  obtain ⟨H, hHe⟩ : ∃ H, H = Y + 1 := ⟨_, rfl⟩
  rw [← hHe] at HH HR ⊢
  have hnY : w.heap.size ≤ Y := by omega
  have nYH : Y ≠ H := by omega
  have nHY : H ≠ Y := by omega
  have hnH : w.heap.size ≤ H := by omega
  clear hYe hHe
  have hltY := blk_lt HY.out
  have hltH := blk_lt HH.out
  have hs1 := HB.out.size
  have hcy0 : w1.cell? ⟨Y, 0, none⟩ = some (.int .i64 0) := blk_cell HY.out 0
  have hfy0 : w1.frozen? ⟨Y, 0, none⟩ = false := blk_frozen HY.out 0
  have hcy1 : w1.cell? ⟨Y, 1, none⟩ = some (.bool false) := blk_cell HY.out 1
  have hfy1 : w1.frozen? ⟨Y, 1, none⟩ = false := blk_frozen HY.out 1
  have hcy2 : w1.cell? ⟨Y, 2, none⟩ = some (.bool false) := blk_cell HY.out 2
  have hfy2 : w1.frozen? ⟨Y, 2, none⟩ = false := blk_frozen HY.out 2
  have hcy3 : w1.cell? ⟨Y, 3, none⟩ = some (.bool false) := blk_cell HY.out 3
  have hfy3 : w1.frozen? ⟨Y, 3, none⟩ = false := blk_frozen HY.out 3
  have hcy4 : w1.cell? ⟨Y, 4, none⟩ = some (.int .i64 0) := blk_cell HY.out 4
  have hfy4 : w1.frozen? ⟨Y, 4, none⟩ = false := blk_frozen HY.out 4
  have hcy5 : w1.cell? ⟨Y, 5, none⟩ = some (.int .i64 0) := blk_cell HY.out 5
  have hfy5 : w1.frozen? ⟨Y, 5, none⟩ = false := blk_frozen HY.out 5
  have hcy6 : w1.cell? ⟨Y, 6, none⟩ = some (.int .u32 0) := blk_cell HY.out 6
  have hfy6 : w1.frozen? ⟨Y, 6, none⟩ = false := blk_frozen HY.out 6
  have hcy7 : w1.cell? ⟨Y, 7, none⟩ = some (.int .u32 0) := blk_cell HY.out 7
  have hfy7 : w1.frozen? ⟨Y, 7, none⟩ = false := blk_frozen HY.out 7
  have hcy8 : w1.cell? ⟨Y, 8, none⟩ = some (.slice none 0 0) := blk_cell HY.out 8
  have hfy8 : w1.frozen? ⟨Y, 8, none⟩ = false := blk_frozen HY.out 8
  have hcz0 : w1.cell? ⟨H, 0, none⟩ = some (.bool false) := blk_cell HH.out 0
  have hfz0 : w1.frozen? ⟨H, 0, none⟩ = false := blk_frozen HH.out 0
  have hcz1 : w1.cell? ⟨H, 1, none⟩ = some (.bool false) := blk_cell HH.out 1
  have hfz1 : w1.frozen? ⟨H, 1, none⟩ = false := blk_frozen HH.out 1
  have hcz2 : w1.cell? ⟨H, 2, none⟩ = some (.int .i64 0) := blk_cell HH.out 2
  have hfz2 : w1.frozen? ⟨H, 2, none⟩ = false := blk_frozen HH.out 2
  have hcz3 : w1.cell? ⟨H, 3, none⟩ = some (.int .i64 0) := blk_cell HH.out 3
  have hfz3 : w1.frozen? ⟨H, 3, none⟩ = false := blk_frozen HH.out 3
  have hcz4 : w1.cell? ⟨H, 4, none⟩ = some (.int .u32 0) := blk_cell HH.out 4
  have hfz4 : w1.frozen? ⟨H, 4, none⟩ = false := blk_frozen HH.out 4
  have hcz5 : w1.cell? ⟨H, 5, none⟩ = some (.int .u32 0) := blk_cell HH.out 5
  have hfz5 : w1.frozen? ⟨H, 5, none⟩ = false := blk_frozen HH.out 5
  go_upto_region 18 with fail
  clear hcy0 hfy0 hcy1 hfy1 hcy2 hfy2 hcy3 hfy3 hcy4 hfy4 hcy5 hfy5 hcy6 hfy6 hcy7 hfy7 hcy8 hfy8 hcz0 hfz0 hcz1 hfz1 hcz2 hfz2 hcz3 hfz3 hcz4 hfz4 hcz5 hfz5
  have HS5 : Aside0 (St (fun k => k = Y ∨ k = H) w.heap.size w1 ((((((((((w1.setCell ⟨Y, 0, none⟩ (.int .i64 r1.ac)).setCell ⟨Y, 1, none⟩ (.bool r1.op)).setCell ⟨Y, 2, none⟩ (.bool r1.bl)).setCell ⟨Y, 3, none⟩ (.bool r1.pe)).setCell ⟨Y, 4, none⟩ (.int .i64 r1.co)).setCell ⟨Y, 5, none⟩ (.int .i64 r1.er)).setCell ⟨Y, 6, none⟩ (.int .u32 r1.nr)).setCell ⟨Y, 7, none⟩ (.int .u32 r1.ar)).setCell ⟨Y, 8, none⟩ (.slice A1 m c1)))) := ⟨by (repeat (with_reducible first | exact St.rfl' _ _ _ | refine St.set ?_ (by omega) (by first | exact Or.inl rfl | exact Or.inl (Or.inl rfl) | exact Or.inl (Or.inr rfl) | (right; omega)) _ _ | refine St.drewN ?_ _ | refine St.drew ?_ | refine St.alloc ?_ (by omega) _))⟩
  have HY5 := Aside0.mk (blk_drew (put9 HY.out (.int .i64 r1.ac) (.bool r1.op) (.bool r1.bl) (.bool r1.pe) (.int .i64 r1.co) (.int .i64 r1.er) (.int .u32 r1.nr) (.int .u32 r1.ar) (.slice A1 m c1)))
  have HH5 := Aside0.mk (blk_drew (far9 HH.out nHY (.int .i64 r1.ac) (.bool r1.op) (.bool r1.bl) (.bool r1.pe) (.int .i64 r1.co) (.int .i64 r1.er) (.int .u32 r1.nr) (.int .u32 r1.ar) (.slice A1 m c1)))
  have HR5 := Aside0.mk (Kd.R_drew (Kd.R_step HR.out (fun k hk hl => HS5.out.2.2 k (fun q => q.elim hk.1 hk.2) hl)))
  have HB5 := Aside0.mk (below_drew' (HB.out.trans HS5.out.1))
  clear HS5 HY HH HR HB
  refine start_ (n := 6) (S := fun w' => w'.heap[Y]? = some (.cells #[.int .i64 r1.ac, .bool r1.op, .bool r1.bl, .bool r1.pe, .int .i64 r1.co, .int .i64 r1.er, .int .u32 r1.nr, .int .u32 r1.ar, .slice A1 m c1] 27 (0, 0)) ∧ w'.heap[H]? = some (.cells #[.bool false, .bool false, .int .i64 0, .int .i64 0, .int .u32 0, .int .u32 0] 33 (0, 0))) (ds := []) #[false, false, false, false, false, false] (by kernel_rfl) rfl rfl (⟨HY5.out, HH5.out⟩) (fun hHeld => ?_); refine with_tabW run18.tab18 run18.bits18 (fun HT_ HW_ => ?_)
  generalize World.drew _ = W4 at hHeld HY5 HH5 HR5 HB5 ⊢
  refine pure_ (i := 2) (N := some 77) (v := ?_) (a' := ?_) #[false, false, true, false, false, false] rfl rfl (any_of HT_.out (by kernel_rfl)) (fun _ _ _ h => h) (Or.inl ⟨by rfl, ?_⟩) ?_ ?_
  rotate_left
  · intro w'
    go_simp
    with_reducible rfl
  rotate_left
  · (try simp only [Act.put, List.setIfInBounds_toArray, List.set_cons_zero, List.set_cons_succ])
    rfl
  refine take_ (i := 0) (N := some 75) (v := ?_) (a' := ?_) #[true, false, true, false, false, false] rfl rfl (take_ofW HT_.out HW_.out (by kernel_rfl)) (fun _ _ _ h => h) (Or.inl ⟨by rfl, ?_⟩) hHeld ?_ ?_
  rotate_left
  · intro w' hS_
    have hx_0 : w'.cell? ⟨Y, 0, none⟩ = some (.int .i64 r1.ac) := blk_cell hS_.1 0
    have hx_1 : w'.cell? ⟨Y, 1, none⟩ = some (.bool r1.op) := blk_cell hS_.1 1
    have hx_2 : w'.cell? ⟨Y, 2, none⟩ = some (.bool r1.bl) := blk_cell hS_.1 2
    have hx_3 : w'.cell? ⟨Y, 3, none⟩ = some (.bool r1.pe) := blk_cell hS_.1 3
    have hx_4 : w'.cell? ⟨Y, 4, none⟩ = some (.int .i64 r1.co) := blk_cell hS_.1 4
    have hx_5 : w'.cell? ⟨Y, 5, none⟩ = some (.int .i64 r1.er) := blk_cell hS_.1 5
    have hx_6 : w'.cell? ⟨Y, 6, none⟩ = some (.int .u32 r1.nr) := blk_cell hS_.1 6
    have hx_7 : w'.cell? ⟨Y, 7, none⟩ = some (.int .u32 r1.ar) := blk_cell hS_.1 7
    have hx_8 : w'.cell? ⟨Y, 8, none⟩ = some (.slice A1 m c1) := blk_cell hS_.1 8
    go_simp
    with_reducible rfl
  rotate_left
  · (try simp only [Act.put, List.setIfInBounds_toArray, List.set_cons_zero, List.set_cons_succ])
    rfl
  refine take_ (i := 1) (N := some 76) (v := ?_) (a' := ?_) #[true, true, true, false, false, false] rfl rfl (take_ofW HT_.out HW_.out (by kernel_rfl)) (fun _ _ _ h => h) (Or.inl ⟨by rfl, ?_⟩) hHeld ?_ ?_
  rotate_left
  · intro w' hS_
    have hx_0 : w'.cell? ⟨H, 0, none⟩ = some (.bool false) := blk_cell hS_.2 0
    have hx_1 : w'.cell? ⟨H, 1, none⟩ = some (.bool false) := blk_cell hS_.2 1
    have hx_2 : w'.cell? ⟨H, 2, none⟩ = some (.int .i64 0) := blk_cell hS_.2 2
    have hx_3 : w'.cell? ⟨H, 3, none⟩ = some (.int .i64 0) := blk_cell hS_.2 3
    have hx_4 : w'.cell? ⟨H, 4, none⟩ = some (.int .u32 0) := blk_cell hS_.2 4
    have hx_5 : w'.cell? ⟨H, 5, none⟩ = some (.int .u32 0) := blk_cell hS_.2 5
    go_simp
    with_reducible rfl
  rotate_left
  · (try simp only [Act.put, List.setIfInBounds_toArray, List.set_cons_zero, List.set_cons_succ])
    rfl
  refine one_ (i := 3) (N := none) #[true, true, true, true, false, false] rfl rfl (one_of HT_.out (by kernel_rfl)) (by decide) (fun K hK => ?_)
  refine store27_ (by rfl) rfl (.tmp 4) (.tmp 75) rfl r1.ac r1.co r1.er r1.nr r1.ar r1.op r1.bl r1.pe A1 m c1 Y (by rfl) (by rfl) hHeld.1 ?_
  intro W5 hy5 hf5 hs5 hb5
  have hh5 := (hf5 H nHY).trans hHeld.2
  have HR6 := Aside0.mk (Kd.R_step HR5.out (fun k hk _ => hf5 k hk.1))
  have HB6 := Aside0.mk (HB5.out.trans (hb5 w.heap.size hnY))
  clear HR5 HB5 hf5 hs5 hb5 hHeld
  refine hK.out _ _ ⟨hy5, hh5⟩ (fun hHeld => ?_)
  clear hK K hy5 hh5
  refine one_ (i := 4) (N := none) #[true, true, true, true, true, false] rfl rfl (one_of HT_.out (by kernel_rfl)) (by decide) (fun K hK => ?_)
  refine store33_ (by rfl) rfl (.tmp 5) (.tmp 76) rfl 0 0 0 0 false false H (by rfl) (by rfl) hHeld.2 ?_
  intro W6 hy5 hf5 hs5 hb5
  have hh5 := (hf5 Y nYH).trans hHeld.1
  have HR7 := Aside0.mk (Kd.R_mono (ok' := fun _ => True) (Kd.R_step HR6.out (fun k hk _ => hf5 k hk.2)) (fun _ _ => trivial))
  have HB7 := Aside0.mk (HB6.out.trans (hb5 w.heap.size hnH))
  clear HR6 HB6 hf5 hs5 hb5 hHeld
  have HY7 := Aside0.mk hh5
  have HH7 := Aside0.mk hy5
  refine hK.out _ _ ⟨hh5, hy5⟩ (fun hHeld => ?_)
  clear hK K hy5 hh5
  refine pure_ (i := 5) (N := some 6) (v := ?_) (a' := ?_) #[true, true, true, true, true, true] rfl rfl (any_of HT_.out (by kernel_rfl)) (fun _ _ _ h => h) (Or.inl ⟨by rfl, ?_⟩) ?_ ?_
  rotate_left
  · intro w'
    go_simp
    with_reducible rfl
  rotate_left
  · (try simp only [Act.put, List.setIfInBounds_toArray, List.set_cons_zero, List.set_cons_succ])
    rfl
  refine done_ (done_of HT_.out (by kernel_rfl)) ?_
  clear HT_ HW_ hHeld
  go_wp2
  refine bodyPost_ret (results_list (rs := [.cell 4 27, .cell 5 33, .tmp 6]) rfl (by simp) (.cell Y 27 #[.int .i64 r1.ac, .bool r1.op, .bool r1.bl, .bool r1.pe, .int .i64 r1.co, .int .i64 r1.er, .int .u32 r1.nr, .int .u32 r1.ar, .slice A1 m c1] (0, 0) _ rfl HY7.out Try.underlying27 rfl (by kernel_rfl) (.cell H 33 #[.bool false, .bool false, .int .i64 0, .int .i64 0, .int .u32 0, .int .u32 0] (0, 0) _ rfl HH7.out Try.underlying33 rfl (by kernel_rfl) (.tmp .nil)))) rfl ?_
  exact ⟨.slice A1 m c1, rfl, HR7.out, HB7.out⟩
set_option maxHeartbeats 2000000 in
set_option maxRecDepth 100000 in
theorem run_1 (kd a : Int) (f : Bool) (co er nr ar : Int) (s : Sg) (q : Int) (hq : (IntKind.u64.wrap kd).tmod 10 = q) (hq0 : q = 1) (A : Option Addr) (c : Nat) (w : World) (hr0 : Kd.C Kd.bool w A s.l.length s.l) (hc0 : s.l.length ≤ c) :
    Calls Try.prog 15 #[.agg #[.int .i64 kd, .int .i64 a, .bool f, .int .i64 co, .int .i64 er, .int .u32 nr, .int .u32 ar], .agg #[.int .i64 s.ac, .bool s.op, .bool s.bl, .bool s.pe, .int .i64 s.co, .int .i64 s.er, .int .u32 s.nr, .int .u32 s.ar, .slice A s.l.length c]] w (Outs (s.opD q a f co er nr ar) w) := by
  subst hq0
  obtain ⟨r, hr⟩ : ∃ r, r = s.withV (s.blockD f) := ⟨_, rfl⟩
  have HRV := Aside0.mk hr
  clear hr
  rw [show s.opD 1 a f co er nr ar = r from by rw [HRV.out]; simp [Sg.opD]]
  have HR0 := Aside0.mk hr0
  have HC0 := Aside0.mk hc0
  clear hr0 hc0
  go_enter Try.func15, Try.ntmps15
  go_wp2_with fail
  refine (block_c f s A c _ (Kd.C_alloc (Kd.C_alloc (Kd.C_alloc (Kd.C_alloc HR0.out _) _) _) _) HC0.out).mono ?_
  rw [← HRV.out]
  rintro e w1 ⟨v1, rfl, hR, hB⟩
  have HY : Aside0 (w1.heap[w.heap.size + 1 + 1]? = some (.cells #[.int .i64 0, .bool false, .bool false, .bool false, .int .i64 0, .int .i64 0, .int .u32 0, .int .u32 0, .slice none 0 0] 27 (0, 0))) := ⟨by refine (hB.block _ (by simp only [World.size_alloc]; omega)).trans ?_; (repeat (with_reducible first | exact heap_new_at _ _ _ (by simp) | refine blk_alloc ?_ _))⟩
  have HH : Aside0 (w1.heap[w.heap.size + 1 + 1 + 1]? = some (.cells #[.bool false, .bool false, .int .i64 0, .int .i64 0, .int .u32 0, .int .u32 0] 33 (0, 0))) := ⟨by refine (hB.block _ (by simp only [World.size_alloc]; omega)).trans ?_; (repeat (with_reducible first | exact heap_new_at _ _ _ (by simp) | refine blk_alloc ?_ _))⟩
  have HB : Aside0 (Below w.heap.size w w1) := ⟨(below_alloc (below_alloc (below_alloc (below_alloc (Below.refl _ _) _) _) _) _).trans (hB.mono (by simp only [World.size_alloc]; omega))⟩
  have HR : Aside0 (Kd.R Kd.bool 4 w1 w.heap.size (fun k => k ≠ w.heap.size + 1 + 1 ∧ k ≠ w.heap.size + 1 + 1 + 1) v1 r.1.l) := ⟨Kd.R_lower (Kd.R_mono (Kd.R_bound hR) (fun k hk => by have := hk.2.1; simp only [World.size_alloc] at this; omega)) (by simp only [World.size_alloc]; omega)⟩
  clear hR hB HRV HR0 HC0
  obtain ⟨r1, r2, r3⟩ := r
  dsimp only [nohit] at HR ⊢
  obtain ⟨A1, c1, rfl⟩ := Kd.R_slice HR.out
  obtain ⟨m, hm⟩ : ∃ m, m = r1.l.length := ⟨_, rfl⟩
  rw [← hm] at HR ⊢
  clear hm
  obtain ⟨Y, hYe⟩ : ∃ Y, Y = w.heap.size + 1 + 1 := ⟨_, rfl⟩
  rw [← hYe] at HY HH HR ⊢
  obtain ⟨H, hHe⟩ : ∃ H, H = Y + 1 := ⟨_, rfl⟩
  rw [← hHe] at HH HR ⊢
  have hnY : w.heap.size ≤ Y := by omega
  have nYH : Y ≠ H := by omega
  have nHY : H ≠ Y := by omega
  have hnH : w.heap.size ≤ H := by omega
  clear hYe hHe
  have hltY := blk_lt HY.out
  have hltH := blk_lt HH.out
  have hs1 := HB.out.size
  have hcy0 : w1.cell? ⟨Y, 0, none⟩ = some (.int .i64 0) := blk_cell HY.out 0
  have hfy0 : w1.frozen? ⟨Y, 0, none⟩ = false := blk_frozen HY.out 0
  have hcy1 : w1.cell? ⟨Y, 1, none⟩ = some (.bool false) := blk_cell HY.out 1
  have hfy1 : w1.frozen? ⟨Y, 1, none⟩ = false := blk_frozen HY.out 1
  have hcy2 : w1.cell? ⟨Y, 2, none⟩ = some (.bool false) := blk_cell HY.out 2
  have hfy2 : w1.frozen? ⟨Y, 2, none⟩ = false := blk_frozen HY.out 2
  have hcy3 : w1.cell? ⟨Y, 3, none⟩ = some (.bool false) := blk_cell HY.out 3
  have hfy3 : w1.frozen? ⟨Y, 3, none⟩ = false := blk_frozen HY.out 3
  have hcy4 : w1.cell? ⟨Y, 4, none⟩ = some (.int .i64 0) := blk_cell HY.out 4
  have hfy4 : w1.frozen? ⟨Y, 4, none⟩ = false := blk_frozen HY.out 4
  have hcy5 : w1.cell? ⟨Y, 5, none⟩ = some (.int .i64 0) := blk_cell HY.out 5
  have hfy5 : w1.frozen? ⟨Y, 5, none⟩ = false := blk_frozen HY.out 5
  have hcy6 : w1.cell? ⟨Y, 6, none⟩ = some (.int .u32 0) := blk_cell HY.out 6
  have hfy6 : w1.frozen? ⟨Y, 6, none⟩ = false := blk_frozen HY.out 6
  have hcy7 : w1.cell? ⟨Y, 7, none⟩ = some (.int .u32 0) := blk_cell HY.out 7
  have hfy7 : w1.frozen? ⟨Y, 7, none⟩ = false := blk_frozen HY.out 7
  have hcy8 : w1.cell? ⟨Y, 8, none⟩ = some (.slice none 0 0) := blk_cell HY.out 8
  have hfy8 : w1.frozen? ⟨Y, 8, none⟩ = false := blk_frozen HY.out 8
  have hcz0 : w1.cell? ⟨H, 0, none⟩ = some (.bool false) := blk_cell HH.out 0
  have hfz0 : w1.frozen? ⟨H, 0, none⟩ = false := blk_frozen HH.out 0
  have hcz1 : w1.cell? ⟨H, 1, none⟩ = some (.bool false) := blk_cell HH.out 1
  have hfz1 : w1.frozen? ⟨H, 1, none⟩ = false := blk_frozen HH.out 1
  have hcz2 : w1.cell? ⟨H, 2, none⟩ = some (.int .i64 0) := blk_cell HH.out 2
  have hfz2 : w1.frozen? ⟨H, 2, none⟩ = false := blk_frozen HH.out 2
  have hcz3 : w1.cell? ⟨H, 3, none⟩ = some (.int .i64 0) := blk_cell HH.out 3
  have hfz3 : w1.frozen? ⟨H, 3, none⟩ = false := blk_frozen HH.out 3
  have hcz4 : w1.cell? ⟨H, 4, none⟩ = some (.int .u32 0) := blk_cell HH.out 4
  have hfz4 : w1.frozen? ⟨H, 4, none⟩ = false := blk_frozen HH.out 4
  have hcz5 : w1.cell? ⟨H, 5, none⟩ = some (.int .u32 0) := blk_cell HH.out 5
  have hfz5 : w1.frozen? ⟨H, 5, none⟩ = false := blk_frozen HH.out 5
  go_upto_region 18 with fail
  clear hcy0 hfy0 hcy1 hfy1 hcy2 hfy2 hcy3 hfy3 hcy4 hfy4 hcy5 hfy5 hcy6 hfy6 hcy7 hfy7 hcy8 hfy8 hcz0 hfz0 hcz1 hfz1 hcz2 hfz2 hcz3 hfz3 hcz4 hfz4 hcz5 hfz5
  have HS5 : Aside0 (St (fun k => k = Y ∨ k = H) w.heap.size w1 ((((((((((((((((w1.setCell ⟨Y, 0, none⟩ (.int .i64 r1.ac)).setCell ⟨Y, 1, none⟩ (.bool r1.op)).setCell ⟨Y, 2, none⟩ (.bool r1.bl)).setCell ⟨Y, 3, none⟩ (.bool r1.pe)).setCell ⟨Y, 4, none⟩ (.int .i64 r1.co)).setCell ⟨Y, 5, none⟩ (.int .i64 r1.er)).setCell ⟨Y, 6, none⟩ (.int .u32 r1.nr)).setCell ⟨Y, 7, none⟩ (.int .u32 r1.ar)).setCell ⟨Y, 8, none⟩ (.slice A1 m c1)).setCell ⟨H, 0, none⟩ (.bool r2.di)).setCell ⟨H, 1, none⟩ (.bool r2.ru)).setCell ⟨H, 2, none⟩ (.int .i64 r2.co)).setCell ⟨H, 3, none⟩ (.int .i64 r2.er)).setCell ⟨H, 4, none⟩ (.int .u32 r2.nr)).setCell ⟨H, 5, none⟩ (.int .u32 r2.ar)))) := ⟨by (repeat (with_reducible first | exact St.rfl' _ _ _ | refine St.set ?_ (by omega) (by first | exact Or.inl rfl | exact Or.inl (Or.inl rfl) | exact Or.inl (Or.inr rfl) | (right; omega)) _ _ | refine St.drewN ?_ _ | refine St.drew ?_ | refine St.alloc ?_ (by omega) _))⟩
  have HY5 := Aside0.mk (blk_drew (far6 (put9 HY.out (.int .i64 r1.ac) (.bool r1.op) (.bool r1.bl) (.bool r1.pe) (.int .i64 r1.co) (.int .i64 r1.er) (.int .u32 r1.nr) (.int .u32 r1.ar) (.slice A1 m c1)) nYH (.bool r2.di) (.bool r2.ru) (.int .i64 r2.co) (.int .i64 r2.er) (.int .u32 r2.nr) (.int .u32 r2.ar)))
  have HH5 := Aside0.mk (blk_drew (put6 (far9 HH.out nHY (.int .i64 r1.ac) (.bool r1.op) (.bool r1.bl) (.bool r1.pe) (.int .i64 r1.co) (.int .i64 r1.er) (.int .u32 r1.nr) (.int .u32 r1.ar) (.slice A1 m c1)) (.bool r2.di) (.bool r2.ru) (.int .i64 r2.co) (.int .i64 r2.er) (.int .u32 r2.nr) (.int .u32 r2.ar)))
  have HR5 := Aside0.mk (Kd.R_drew (Kd.R_step HR.out (fun k hk hl => HS5.out.2.2 k (fun q => q.elim hk.1 hk.2) hl)))
  have HB5 := Aside0.mk (below_drew' (HB.out.trans HS5.out.1))
  clear HS5 HY HH HR HB
  refine start_ (n := 6) (S := fun w' => w'.heap[Y]? = some (.cells #[.int .i64 r1.ac, .bool r1.op, .bool r1.bl, .bool r1.pe, .int .i64 r1.co, .int .i64 r1.er, .int .u32 r1.nr, .int .u32 r1.ar, .slice A1 m c1] 27 (0, 0)) ∧ w'.heap[H]? = some (.cells #[.bool r2.di, .bool r2.ru, .int .i64 r2.co, .int .i64 r2.er, .int .u32 r2.nr, .int .u32 r2.ar] 33 (0, 0))) (ds := []) #[false, false, false, false, false, false] (by kernel_rfl) rfl rfl (⟨HY5.out, HH5.out⟩) (fun hHeld => ?_); refine with_tabW run18.tab18 run18.bits18 (fun HT_ HW_ => ?_)
  generalize World.drew _ = W4 at hHeld HY5 HH5 HR5 HB5 ⊢
  refine pure_ (i := 2) (N := some 77) (v := ?_) (a' := ?_) #[false, false, true, false, false, false] rfl rfl (any_of HT_.out (by kernel_rfl)) (fun _ _ _ h => h) (Or.inl ⟨by rfl, ?_⟩) ?_ ?_
  rotate_left
  · intro w'
    go_simp
    with_reducible rfl
  rotate_left
  · (try simp only [Act.put, List.setIfInBounds_toArray, List.set_cons_zero, List.set_cons_succ])
    rfl
  refine take_ (i := 0) (N := some 75) (v := ?_) (a' := ?_) #[true, false, true, false, false, false] rfl rfl (take_ofW HT_.out HW_.out (by kernel_rfl)) (fun _ _ _ h => h) (Or.inl ⟨by rfl, ?_⟩) hHeld ?_ ?_
  rotate_left
  · intro w' hS_
    have hx_0 : w'.cell? ⟨Y, 0, none⟩ = some (.int .i64 r1.ac) := blk_cell hS_.1 0
    have hx_1 : w'.cell? ⟨Y, 1, none⟩ = some (.bool r1.op) := blk_cell hS_.1 1
    have hx_2 : w'.cell? ⟨Y, 2, none⟩ = some (.bool r1.bl) := blk_cell hS_.1 2
    have hx_3 : w'.cell? ⟨Y, 3, none⟩ = some (.bool r1.pe) := blk_cell hS_.1 3
    have hx_4 : w'.cell? ⟨Y, 4, none⟩ = some (.int .i64 r1.co) := blk_cell hS_.1 4
    have hx_5 : w'.cell? ⟨Y, 5, none⟩ = some (.int .i64 r1.er) := blk_cell hS_.1 5
    have hx_6 : w'.cell? ⟨Y, 6, none⟩ = some (.int .u32 r1.nr) := blk_cell hS_.1 6
    have hx_7 : w'.cell? ⟨Y, 7, none⟩ = some (.int .u32 r1.ar) := blk_cell hS_.1 7
    have hx_8 : w'.cell? ⟨Y, 8, none⟩ = some (.slice A1 m c1) := blk_cell hS_.1 8
    go_simp
    with_reducible rfl
  rotate_left
  · (try simp only [Act.put, List.setIfInBounds_toArray, List.set_cons_zero, List.set_cons_succ])
    rfl
  refine take_ (i := 1) (N := some 76) (v := ?_) (a' := ?_) #[true, true, true, false, false, false] rfl rfl (take_ofW HT_.out HW_.out (by kernel_rfl)) (fun _ _ _ h => h) (Or.inl ⟨by rfl, ?_⟩) hHeld ?_ ?_
  rotate_left
  · intro w' hS_
    have hx_0 : w'.cell? ⟨H, 0, none⟩ = some (.bool r2.di) := blk_cell hS_.2 0
    have hx_1 : w'.cell? ⟨H, 1, none⟩ = some (.bool r2.ru) := blk_cell hS_.2 1
    have hx_2 : w'.cell? ⟨H, 2, none⟩ = some (.int .i64 r2.co) := blk_cell hS_.2 2
    have hx_3 : w'.cell? ⟨H, 3, none⟩ = some (.int .i64 r2.er) := blk_cell hS_.2 3
    have hx_4 : w'.cell? ⟨H, 4, none⟩ = some (.int .u32 r2.nr) := blk_cell hS_.2 4
    have hx_5 : w'.cell? ⟨H, 5, none⟩ = some (.int .u32 r2.ar) := blk_cell hS_.2 5
    go_simp
    with_reducible rfl
  rotate_left
  · (try simp only [Act.put, List.setIfInBounds_toArray, List.set_cons_zero, List.set_cons_succ])
    rfl
  refine one_ (i := 3) (N := none) #[true, true, true, true, false, false] rfl rfl (one_of HT_.out (by kernel_rfl)) (by decide) (fun K hK => ?_)
  refine store27_ (by rfl) rfl (.tmp 4) (.tmp 75) rfl r1.ac r1.co r1.er r1.nr r1.ar r1.op r1.bl r1.pe A1 m c1 Y (by rfl) (by rfl) hHeld.1 ?_
  intro W5 hy5 hf5 hs5 hb5
  have hh5 := (hf5 H nHY).trans hHeld.2
  have HR6 := Aside0.mk (Kd.R_step HR5.out (fun k hk _ => hf5 k hk.1))
  have HB6 := Aside0.mk (HB5.out.trans (hb5 w.heap.size hnY))
  clear HR5 HB5 hf5 hs5 hb5 hHeld
  refine hK.out _ _ ⟨hy5, hh5⟩ (fun hHeld => ?_)
  clear hK K hy5 hh5
  refine one_ (i := 4) (N := none) #[true, true, true, true, true, false] rfl rfl (one_of HT_.out (by kernel_rfl)) (by decide) (fun K hK => ?_)
  refine store33_ (by rfl) rfl (.tmp 5) (.tmp 76) rfl r2.co r2.er r2.nr r2.ar r2.di r2.ru H (by rfl) (by rfl) hHeld.2 ?_
  intro W6 hy5 hf5 hs5 hb5
  have hh5 := (hf5 Y nYH).trans hHeld.1
  have HR7 := Aside0.mk (Kd.R_mono (ok' := fun _ => True) (Kd.R_step HR6.out (fun k hk _ => hf5 k hk.2)) (fun _ _ => trivial))
  have HB7 := Aside0.mk (HB6.out.trans (hb5 w.heap.size hnH))
  clear HR6 HB6 hf5 hs5 hb5 hHeld
  have HY7 := Aside0.mk hh5
  have HH7 := Aside0.mk hy5
  refine hK.out _ _ ⟨hh5, hy5⟩ (fun hHeld => ?_)
  clear hK K hy5 hh5
  refine pure_ (i := 5) (N := some 6) (v := ?_) (a' := ?_) #[true, true, true, true, true, true] rfl rfl (any_of HT_.out (by kernel_rfl)) (fun _ _ _ h => h) (Or.inl ⟨by rfl, ?_⟩) ?_ ?_
  rotate_left
  · intro w'
    go_simp
    with_reducible rfl
  rotate_left
  · (try simp only [Act.put, List.setIfInBounds_toArray, List.set_cons_zero, List.set_cons_succ])
    rfl
  refine done_ (done_of HT_.out (by kernel_rfl)) ?_
  clear HT_ HW_ hHeld
  go_wp2
  refine bodyPost_ret (results_list (rs := [.cell 4 27, .cell 5 33, .tmp 6]) rfl (by simp) (.cell Y 27 #[.int .i64 r1.ac, .bool r1.op, .bool r1.bl, .bool r1.pe, .int .i64 r1.co, .int .i64 r1.er, .int .u32 r1.nr, .int .u32 r1.ar, .slice A1 m c1] (0, 0) _ rfl HY7.out Try.underlying27 rfl (by kernel_rfl) (.cell H 33 #[.bool r2.di, .bool r2.ru, .int .i64 r2.co, .int .i64 r2.er, .int .u32 r2.nr, .int .u32 r2.ar] (0, 0) _ rfl HH7.out Try.underlying33 rfl (by kernel_rfl) (.tmp .nil)))) rfl ?_
  exact ⟨.slice A1 m c1, rfl, HR7.out, HB7.out⟩
set_option maxHeartbeats 2000000 in
set_option maxRecDepth 100000 in
theorem run_2 (kd a : Int) (f : Bool) (co er nr ar : Int) (s : Sg) (q : Int) (hq : (IntKind.u64.wrap kd).tmod 10 = q) (hq0 : q = 2) (A : Option Addr) (c : Nat) (w : World) (hr0 : Kd.C Kd.bool w A s.l.length s.l) (hc0 : s.l.length ≤ c) :
    Calls Try.prog 15 #[.agg #[.int .i64 kd, .int .i64 a, .bool f, .int .i64 co, .int .i64 er, .int .u32 nr, .int .u32 ar], .agg #[.int .i64 s.ac, .bool s.op, .bool s.bl, .bool s.pe, .int .i64 s.co, .int .i64 s.er, .int .u32 s.nr, .int .u32 s.ar, .slice A s.l.length c]] w (Outs (s.opD q a f co er nr ar) w) := by
  subst hq0
  obtain ⟨r, hr⟩ : ∃ r, r = s.withV (s.sendD co er nr ar) := ⟨_, rfl⟩
  have HRV := Aside0.mk hr
  clear hr
  rw [show s.opD 2 a f co er nr ar = r from by rw [HRV.out]; simp [Sg.opD]]
  have HR0 := Aside0.mk hr0
  have HC0 := Aside0.mk hc0
  clear hr0 hc0
  go_enter Try.func15, Try.ntmps15
  go_wp2_with fail
  refine (send_c co er nr ar s A c _ (Kd.C_alloc (Kd.C_alloc (Kd.C_alloc (Kd.C_alloc HR0.out _) _) _) _) HC0.out).mono ?_
  rw [← HRV.out]
  rintro e w1 ⟨v1, rfl, hR, hB⟩
  have HY : Aside0 (w1.heap[w.heap.size + 1 + 1]? = some (.cells #[.int .i64 0, .bool false, .bool false, .bool false, .int .i64 0, .int .i64 0, .int .u32 0, .int .u32 0, .slice none 0 0] 27 (0, 0))) := ⟨by refine (hB.block _ (by simp only [World.size_alloc]; omega)).trans ?_; (repeat (with_reducible first | exact heap_new_at _ _ _ (by simp) | refine blk_alloc ?_ _))⟩
  have HH : Aside0 (w1.heap[w.heap.size + 1 + 1 + 1]? = some (.cells #[.bool false, .bool false, .int .i64 0, .int .i64 0, .int .u32 0, .int .u32 0] 33 (0, 0))) := ⟨by refine (hB.block _ (by simp only [World.size_alloc]; omega)).trans ?_; (repeat (with_reducible first | exact heap_new_at _ _ _ (by simp) | refine blk_alloc ?_ _))⟩
  have HB : Aside0 (Below w.heap.size w w1) := ⟨(below_alloc (below_alloc (below_alloc (below_alloc (Below.refl _ _) _) _) _) _).trans (hB.mono (by simp only [World.size_alloc]; omega))⟩
  have HR : Aside0 (Kd.R Kd.bool 4 w1 w.heap.size (fun k => k ≠ w.heap.size + 1 + 1 ∧ k ≠ w.heap.size + 1 + 1 + 1) v1 r.1.l) := ⟨Kd.R_lower (Kd.R_mono (Kd.R_bound hR) (fun k hk => by have := hk.2.1; simp only [World.size_alloc] at this; omega)) (by simp only [World.size_alloc]; omega)⟩
  clear hR hB HRV HR0 HC0
  obtain ⟨r1, r2, r3⟩ := r
  dsimp only [nohit] at HR ⊢
  obtain ⟨A1, c1, rfl⟩ := Kd.R_slice HR.out
  obtain ⟨m, hm⟩ : ∃ m, m = r1.l.length := ⟨_, rfl⟩
  rw [← hm] at HR ⊢
  clear hm
  obtain ⟨Y, hYe⟩ : ∃ Y, Y = w.heap.size + 1 + 1 := ⟨_, rfl⟩
  rw [← hYe] at HY HH HR ⊢
  obtain ⟨H, hHe⟩ : ∃ H, H = Y + 1 := ⟨_, rfl⟩
  rw [← hHe] at HH HR ⊢
  have hnY : w.heap.size ≤ Y := by omega
  have nYH : Y ≠ H := by omega
  have nHY : H ≠ Y := by omega
  have hnH : w.heap.size ≤ H := by omega
  clear hYe hHe
  have hltY := blk_lt HY.out
  have hltH := blk_lt HH.out
  have hs1 := HB.out.size
  have hcy0 : w1.cell? ⟨Y, 0, none⟩ = some (.int .i64 0) := blk_cell HY.out 0
  have hfy0 : w1.frozen? ⟨Y, 0, none⟩ = false := blk_frozen HY.out 0
  have hcy1 : w1.cell? ⟨Y, 1, none⟩ = some (.bool false) := blk_cell HY.out 1
  have hfy1 : w1.frozen? ⟨Y, 1, none⟩ = false := blk_frozen HY.out 1
  have hcy2 : w1.cell? ⟨Y, 2, none⟩ = some (.bool false) := blk_cell HY.out 2
  have hfy2 : w1.frozen? ⟨Y, 2, none⟩ = false := blk_frozen HY.out 2
  have hcy3 : w1.cell? ⟨Y, 3, none⟩ = some (.bool false) := blk_cell HY.out 3
  have hfy3 : w1.frozen? ⟨Y, 3, none⟩ = false := blk_frozen HY.out 3
  have hcy4 : w1.cell? ⟨Y, 4, none⟩ = some (.int .i64 0) := blk_cell HY.out 4
  have hfy4 : w1.frozen? ⟨Y, 4, none⟩ = false := blk_frozen HY.out 4
  have hcy5 : w1.cell? ⟨Y, 5, none⟩ = some (.int .i64 0) := blk_cell HY.out 5
  have hfy5 : w1.frozen? ⟨Y, 5, none⟩ = false := blk_frozen HY.out 5
  have hcy6 : w1.cell? ⟨Y, 6, none⟩ = some (.int .u32 0) := blk_cell HY.out 6
  have hfy6 : w1.frozen? ⟨Y, 6, none⟩ = false := blk_frozen HY.out 6
  have hcy7 : w1.cell? ⟨Y, 7, none⟩ = some (.int .u32 0) := blk_cell HY.out 7
  have hfy7 : w1.frozen? ⟨Y, 7, none⟩ = false := blk_frozen HY.out 7
  have hcy8 : w1.cell? ⟨Y, 8, none⟩ = some (.slice none 0 0) := blk_cell HY.out 8
  have hfy8 : w1.frozen? ⟨Y, 8, none⟩ = false := blk_frozen HY.out 8
  have hcz0 : w1.cell? ⟨H, 0, none⟩ = some (.bool false) := blk_cell HH.out 0
  have hfz0 : w1.frozen? ⟨H, 0, none⟩ = false := blk_frozen HH.out 0
  have hcz1 : w1.cell? ⟨H, 1, none⟩ = some (.bool false) := blk_cell HH.out 1
  have hfz1 : w1.frozen? ⟨H, 1, none⟩ = false := blk_frozen HH.out 1
  have hcz2 : w1.cell? ⟨H, 2, none⟩ = some (.int .i64 0) := blk_cell HH.out 2
  have hfz2 : w1.frozen? ⟨H, 2, none⟩ = false := blk_frozen HH.out 2
  have hcz3 : w1.cell? ⟨H, 3, none⟩ = some (.int .i64 0) := blk_cell HH.out 3
  have hfz3 : w1.frozen? ⟨H, 3, none⟩ = false := blk_frozen HH.out 3
  have hcz4 : w1.cell? ⟨H, 4, none⟩ = some (.int .u32 0) := blk_cell HH.out 4
  have hfz4 : w1.frozen? ⟨H, 4, none⟩ = false := blk_frozen HH.out 4
  have hcz5 : w1.cell? ⟨H, 5, none⟩ = some (.int .u32 0) := blk_cell HH.out 5
  have hfz5 : w1.frozen? ⟨H, 5, none⟩ = false := blk_frozen HH.out 5
  go_upto_region 18 with fail
  clear hcy0 hfy0 hcy1 hfy1 hcy2 hfy2 hcy3 hfy3 hcy4 hfy4 hcy5 hfy5 hcy6 hfy6 hcy7 hfy7 hcy8 hfy8 hcz0 hfz0 hcz1 hfz1 hcz2 hfz2 hcz3 hfz3 hcz4 hfz4 hcz5 hfz5
  have HS5 : Aside0 (St (fun k => k = Y ∨ k = H) w.heap.size w1 ((((((((((((((((w1.setCell ⟨Y, 0, none⟩ (.int .i64 r1.ac)).setCell ⟨Y, 1, none⟩ (.bool r1.op)).setCell ⟨Y, 2, none⟩ (.bool r1.bl)).setCell ⟨Y, 3, none⟩ (.bool r1.pe)).setCell ⟨Y, 4, none⟩ (.int .i64 r1.co)).setCell ⟨Y, 5, none⟩ (.int .i64 r1.er)).setCell ⟨Y, 6, none⟩ (.int .u32 r1.nr)).setCell ⟨Y, 7, none⟩ (.int .u32 r1.ar)).setCell ⟨Y, 8, none⟩ (.slice A1 m c1)).setCell ⟨H, 0, none⟩ (.bool r2.di)).setCell ⟨H, 1, none⟩ (.bool r2.ru)).setCell ⟨H, 2, none⟩ (.int .i64 r2.co)).setCell ⟨H, 3, none⟩ (.int .i64 r2.er)).setCell ⟨H, 4, none⟩ (.int .u32 r2.nr)).setCell ⟨H, 5, none⟩ (.int .u32 r2.ar)))) := ⟨by (repeat (with_reducible first | exact St.rfl' _ _ _ | refine St.set ?_ (by omega) (by first | exact Or.inl rfl | exact Or.inl (Or.inl rfl) | exact Or.inl (Or.inr rfl) | (right; omega)) _ _ | refine St.drewN ?_ _ | refine St.drew ?_ | refine St.alloc ?_ (by omega) _))⟩
  have HY5 := Aside0.mk (blk_drew (far6 (put9 HY.out (.int .i64 r1.ac) (.bool r1.op) (.bool r1.bl) (.bool r1.pe) (.int .i64 r1.co) (.int .i64 r1.er) (.int .u32 r1.nr) (.int .u32 r1.ar) (.slice A1 m c1)) nYH (.bool r2.di) (.bool r2.ru) (.int .i64 r2.co) (.int .i64 r2.er) (.int .u32 r2.nr) (.int .u32 r2.ar)))
  have HH5 := Aside0.mk (blk_drew (put6 (far9 HH.out nHY (.int .i64 r1.ac) (.bool r1.op) (.bool r1.bl) (.bool r1.pe) (.int .i64 r1.co) (.int .i64 r1.er) (.int .u32 r1.nr) (.int .u32 r1.ar) (.slice A1 m c1)) (.bool r2.di) (.bool r2.ru) (.int .i64 r2.co) (.int .i64 r2.er) (.int .u32 r2.nr) (.int .u32 r2.ar)))
  have HR5 := Aside0.mk (Kd.R_drew (Kd.R_step HR.out (fun k hk hl => HS5.out.2.2 k (fun q => q.elim hk.1 hk.2) hl)))
  have HB5 := Aside0.mk (below_drew' (HB.out.trans HS5.out.1))
  clear HS5 HY HH HR HB
  refine start_ (n := 6) (S := fun w' => w'.heap[Y]? = some (.cells #[.int .i64 r1.ac, .bool r1.op, .bool r1.bl, .bool r1.pe, .int .i64 r1.co, .int .i64 r1.er, .int .u32 r1.nr, .int .u32 r1.ar, .slice A1 m c1] 27 (0, 0)) ∧ w'.heap[H]? = some (.cells #[.bool r2.di, .bool r2.ru, .int .i64 r2.co, .int .i64 r2.er, .int .u32 r2.nr, .int .u32 r2.ar] 33 (0, 0))) (ds := []) #[false, false, false, false, false, false] (by kernel_rfl) rfl rfl (⟨HY5.out, HH5.out⟩) (fun hHeld => ?_); refine with_tabW run18.tab18 run18.bits18 (fun HT_ HW_ => ?_)
  generalize World.drew _ = W4 at hHeld HY5 HH5 HR5 HB5 ⊢
  refine pure_ (i := 2) (N := some 77) (v := ?_) (a' := ?_) #[false, false, true, false, false, false] rfl rfl (any_of HT_.out (by kernel_rfl)) (fun _ _ _ h => h) (Or.inl ⟨by rfl, ?_⟩) ?_ ?_
  rotate_left
  · intro w'
    go_simp
    with_reducible rfl
  rotate_left
  · (try simp only [Act.put, List.setIfInBounds_toArray, List.set_cons_zero, List.set_cons_succ])
    rfl
  refine take_ (i := 0) (N := some 75) (v := ?_) (a' := ?_) #[true, false, true, false, false, false] rfl rfl (take_ofW HT_.out HW_.out (by kernel_rfl)) (fun _ _ _ h => h) (Or.inl ⟨by rfl, ?_⟩) hHeld ?_ ?_
  rotate_left
  · intro w' hS_
    have hx_0 : w'.cell? ⟨Y, 0, none⟩ = some (.int .i64 r1.ac) := blk_cell hS_.1 0
    have hx_1 : w'.cell? ⟨Y, 1, none⟩ = some (.bool r1.op) := blk_cell hS_.1 1
    have hx_2 : w'.cell? ⟨Y, 2, none⟩ = some (.bool r1.bl) := blk_cell hS_.1 2
    have hx_3 : w'.cell? ⟨Y, 3, none⟩ = some (.bool r1.pe) := blk_cell hS_.1 3
    have hx_4 : w'.cell? ⟨Y, 4, none⟩ = some (.int .i64 r1.co) := blk_cell hS_.1 4
    have hx_5 : w'.cell? ⟨Y, 5, none⟩ = some (.int .i64 r1.er) := blk_cell hS_.1 5
    have hx_6 : w'.cell? ⟨Y, 6, none⟩ = some (.int .u32 r1.nr) := blk_cell hS_.1 6
    have hx_7 : w'.cell? ⟨Y, 7, none⟩ = some (.int .u32 r1.ar) := blk_cell hS_.1 7
    have hx_8 : w'.cell? ⟨Y, 8, none⟩ = some (.slice A1 m c1) := blk_cell hS_.1 8
    go_simp
    with_reducible rfl
  rotate_left
  · (try simp only [Act.put, List.setIfInBounds_toArray, List.set_cons_zero, List.set_cons_succ])
    rfl
  refine take_ (i := 1) (N := some 76) (v := ?_) (a' := ?_) #[true, true, true, false, false, false] rfl rfl (take_ofW HT_.out HW_.out (by kernel_rfl)) (fun _ _ _ h => h) (Or.inl ⟨by rfl, ?_⟩) hHeld ?_ ?_
  rotate_left
  · intro w' hS_
    have hx_0 : w'.cell? ⟨H, 0, none⟩ = some (.bool r2.di) := blk_cell hS_.2 0
    have hx_1 : w'.cell? ⟨H, 1, none⟩ = some (.bool r2.ru) := blk_cell hS_.2 1
    have hx_2 : w'.cell? ⟨H, 2, none⟩ = some (.int .i64 r2.co) := blk_cell hS_.2 2
    have hx_3 : w'.cell? ⟨H, 3, none⟩ = some (.int .i64 r2.er) := blk_cell hS_.2 3
    have hx_4 : w'.cell? ⟨H, 4, none⟩ = some (.int .u32 r2.nr) := blk_cell hS_.2 4
    have hx_5 : w'.cell? ⟨H, 5, none⟩ = some (.int .u32 r2.ar) := blk_cell hS_.2 5
    go_simp
    with_reducible rfl
  rotate_left
  · (try simp only [Act.put, List.setIfInBounds_toArray, List.set_cons_zero, List.set_cons_succ])
    rfl
  refine one_ (i := 3) (N := none) #[true, true, true, true, false, false] rfl rfl (one_of HT_.out (by kernel_rfl)) (by decide) (fun K hK => ?_)
  refine store27_ (by rfl) rfl (.tmp 4) (.tmp 75) rfl r1.ac r1.co r1.er r1.nr r1.ar r1.op r1.bl r1.pe A1 m c1 Y (by rfl) (by rfl) hHeld.1 ?_
  intro W5 hy5 hf5 hs5 hb5
  have hh5 := (hf5 H nHY).trans hHeld.2
  have HR6 := Aside0.mk (Kd.R_step HR5.out (fun k hk _ => hf5 k hk.1))
  have HB6 := Aside0.mk (HB5.out.trans (hb5 w.heap.size hnY))
  clear HR5 HB5 hf5 hs5 hb5 hHeld
  refine hK.out _ _ ⟨hy5, hh5⟩ (fun hHeld => ?_)
  clear hK K hy5 hh5
  refine one_ (i := 4) (N := none) #[true, true, true, true, true, false] rfl rfl (one_of HT_.out (by kernel_rfl)) (by decide) (fun K hK => ?_)
  refine store33_ (by rfl) rfl (.tmp 5) (.tmp 76) rfl r2.co r2.er r2.nr r2.ar r2.di r2.ru H (by rfl) (by rfl) hHeld.2 ?_
  intro W6 hy5 hf5 hs5 hb5
  have hh5 := (hf5 Y nYH).trans hHeld.1
  have HR7 := Aside0.mk (Kd.R_mono (ok' := fun _ => True) (Kd.R_step HR6.out (fun k hk _ => hf5 k hk.2)) (fun _ _ => trivial))
  have HB7 := Aside0.mk (HB6.out.trans (hb5 w.heap.size hnH))
  clear HR6 HB6 hf5 hs5 hb5 hHeld
  have HY7 := Aside0.mk hh5
  have HH7 := Aside0.mk hy5
  refine hK.out _ _ ⟨hh5, hy5⟩ (fun hHeld => ?_)
  clear hK K hy5 hh5
  refine pure_ (i := 5) (N := some 6) (v := ?_) (a' := ?_) #[true, true, true, true, true, true] rfl rfl (any_of HT_.out (by kernel_rfl)) (fun _ _ _ h => h) (Or.inl ⟨by rfl, ?_⟩) ?_ ?_
  rotate_left
  · intro w'
    go_simp
    with_reducible rfl
  rotate_left
  · (try simp only [Act.put, List.setIfInBounds_toArray, List.set_cons_zero, List.set_cons_succ])
    rfl
  refine done_ (done_of HT_.out (by kernel_rfl)) ?_
  clear HT_ HW_ hHeld
  go_wp2
  refine bodyPost_ret (results_list (rs := [.cell 4 27, .cell 5 33, .tmp 6]) rfl (by simp) (.cell Y 27 #[.int .i64 r1.ac, .bool r1.op, .bool r1.bl, .bool r1.pe, .int .i64 r1.co, .int .i64 r1.er, .int .u32 r1.nr, .int .u32 r1.ar, .slice A1 m c1] (0, 0) _ rfl HY7.out Try.underlying27 rfl (by kernel_rfl) (.cell H 33 #[.bool r2.di, .bool r2.ru, .int .i64 r2.co, .int .i64 r2.er, .int .u32 r2.nr, .int .u32 r2.ar] (0, 0) _ rfl HH7.out Try.underlying33 rfl (by kernel_rfl) (.tmp .nil)))) rfl ?_
  exact ⟨.slice A1 m c1, rfl, HR7.out, HB7.out⟩
set_option maxHeartbeats 2000000 in
set_option maxRecDepth 100000 in
theorem run_3 (kd a : Int) (f : Bool) (co er nr ar : Int) (s : Sg) (q : Int) (hq : (IntKind.u64.wrap kd).tmod 10 = q) (hq0 : q = 3) (A : Option Addr) (c : Nat) (w : World) (hr0 : Kd.C Kd.bool w A s.l.length s.l) (hc0 : s.l.length ≤ c) :
    Calls Try.prog 15 #[.agg #[.int .i64 kd, .int .i64 a, .bool f, .int .i64 co, .int .i64 er, .int .u32 nr, .int .u32 ar], .agg #[.int .i64 s.ac, .bool s.op, .bool s.bl, .bool s.pe, .int .i64 s.co, .int .i64 s.er, .int .u32 s.nr, .int .u32 s.ar, .slice A s.l.length c]] w (Outs (s.opD q a f co er nr ar) w) := by
  subst hq0
  obtain ⟨r, hr⟩ : ∃ r, r = s.withV (s.sendD co er nr ar) := ⟨_, rfl⟩
  have HRV := Aside0.mk hr
  clear hr
  rw [show s.opD 3 a f co er nr ar = r from by rw [HRV.out]; simp [Sg.opD]]
  have HR0 := Aside0.mk hr0
  have HC0 := Aside0.mk hc0
  clear hr0 hc0
  go_enter Try.func15, Try.ntmps15
  go_wp2_with fail
  refine (send_c co er nr ar s A c _ (Kd.C_alloc (Kd.C_alloc (Kd.C_alloc (Kd.C_alloc HR0.out _) _) _) _) HC0.out).mono ?_
  rw [← HRV.out]
  rintro e w1 ⟨v1, rfl, hR, hB⟩
  have HY : Aside0 (w1.heap[w.heap.size + 1 + 1]? = some (.cells #[.int .i64 0, .bool false, .bool false, .bool false, .int .i64 0, .int .i64 0, .int .u32 0, .int .u32 0, .slice none 0 0] 27 (0, 0))) := ⟨by refine (hB.block _ (by simp only [World.size_alloc]; omega)).trans ?_; (repeat (with_reducible first | exact heap_new_at _ _ _ (by simp) | refine blk_alloc ?_ _))⟩
  have HH : Aside0 (w1.heap[w.heap.size + 1 + 1 + 1]? = some (.cells #[.bool false, .bool false, .int .i64 0, .int .i64 0, .int .u32 0, .int .u32 0] 33 (0, 0))) := ⟨by refine (hB.block _ (by simp only [World.size_alloc]; omega)).trans ?_; (repeat (with_reducible first | exact heap_new_at _ _ _ (by simp) | refine blk_alloc ?_ _))⟩
  have HB : Aside0 (Below w.heap.size w w1) := ⟨(below_alloc (below_alloc (below_alloc (below_alloc (Below.refl _ _) _) _) _) _).trans (hB.mono (by simp only [World.size_alloc]; omega))⟩
  have HR : Aside0 (Kd.R Kd.bool 4 w1 w.heap.size (fun k => k ≠ w.heap.size + 1 + 1 ∧ k ≠ w.heap.size + 1 + 1 + 1) v1 r.1.l) := ⟨Kd.R_lower (Kd.R_mono (Kd.R_bound hR) (fun k hk => by have := hk.2.1; simp only [World.size_alloc] at this; omega)) (by simp only [World.size_alloc]; omega)⟩
  clear hR hB HRV HR0 HC0
  obtain ⟨r1, r2, r3⟩ := r
  dsimp only [nohit] at HR ⊢
  obtain ⟨A1, c1, rfl⟩ := Kd.R_slice HR.out
  obtain ⟨m, hm⟩ : ∃ m, m = r1.l.length := ⟨_, rfl⟩
  rw [← hm] at HR ⊢
  clear hm
  obtain ⟨Y, hYe⟩ : ∃ Y, Y = w.heap.size + 1 + 1 := ⟨_, rfl⟩
  rw [← hYe] at HY HH HR ⊢
  obtain ⟨H, hHe⟩ : ∃ H, H = Y + 1 := ⟨_, rfl⟩
  rw [← hHe] at HH HR ⊢
  have hnY : w.heap.size ≤ Y := by omega
  have nYH : Y ≠ H := by omega
  have nHY : H ≠ Y := by omega
  have hnH : w.heap.size ≤ H := by omega
  clear hYe hHe
  have hltY := blk_lt HY.out
  have hltH := blk_lt HH.out
  have hs1 := HB.out.size
  have hcy0 : w1.cell? ⟨Y, 0, none⟩ = some (.int .i64 0) := blk_cell HY.out 0
  have hfy0 : w1.frozen? ⟨Y, 0, none⟩ = false := blk_frozen HY.out 0
  have hcy1 : w1.cell? ⟨Y, 1, none⟩ = some (.bool false) := blk_cell HY.out 1
  have hfy1 : w1.frozen? ⟨Y, 1, none⟩ = false := blk_frozen HY.out 1
  have hcy2 : w1.cell? ⟨Y, 2, none⟩ = some (.bool false) := blk_cell HY.out 2
  have hfy2 : w1.frozen? ⟨Y, 2, none⟩ = false := blk_frozen HY.out 2
  have hcy3 : w1.cell? ⟨Y, 3, none⟩ = some (.bool false) := blk_cell HY.out 3
  have hfy3 : w1.frozen? ⟨Y, 3, none⟩ = false := blk_frozen HY.out 3
  have hcy4 : w1.cell? ⟨Y, 4, none⟩ = some (.int .i64 0) := blk_cell HY.out 4
  have hfy4 : w1.frozen? ⟨Y, 4, none⟩ = false := blk_frozen HY.out 4
  have hcy5 : w1.cell? ⟨Y, 5, none⟩ = some (.int .i64 0) := blk_cell HY.out 5
  have hfy5 : w1.frozen? ⟨Y, 5, none⟩ = false := blk_frozen HY.out 5
  have hcy6 : w1.cell? ⟨Y, 6, none⟩ = some (.int .u32 0) := blk_cell HY.out 6
  have hfy6 : w1.frozen? ⟨Y, 6, none⟩ = false := blk_frozen HY.out 6
  have hcy7 : w1.cell? ⟨Y, 7, none⟩ = some (.int .u32 0) := blk_cell HY.out 7
  have hfy7 : w1.frozen? ⟨Y, 7, none⟩ = false := blk_frozen HY.out 7
  have hcy8 : w1.cell? ⟨Y, 8, none⟩ = some (.slice none 0 0) := blk_cell HY.out 8
  have hfy8 : w1.frozen? ⟨Y, 8, none⟩ = false := blk_frozen HY.out 8
  have hcz0 : w1.cell? ⟨H, 0, none⟩ = some (.bool false) := blk_cell HH.out 0
  have hfz0 : w1.frozen? ⟨H, 0, none⟩ = false := blk_frozen HH.out 0
  have hcz1 : w1.cell? ⟨H, 1, none⟩ = some (.bool false) := blk_cell HH.out 1
  have hfz1 : w1.frozen? ⟨H, 1, none⟩ = false := blk_frozen HH.out 1
  have hcz2 : w1.cell? ⟨H, 2, none⟩ = some (.int .i64 0) := blk_cell HH.out 2
  have hfz2 : w1.frozen? ⟨H, 2, none⟩ = false := blk_frozen HH.out 2
  have hcz3 : w1.cell? ⟨H, 3, none⟩ = some (.int .i64 0) := blk_cell HH.out 3
  have hfz3 : w1.frozen? ⟨H, 3, none⟩ = false := blk_frozen HH.out 3
  have hcz4 : w1.cell? ⟨H, 4, none⟩ = some (.int .u32 0) := blk_cell HH.out 4
  have hfz4 : w1.frozen? ⟨H, 4, none⟩ = false := blk_frozen HH.out 4
  have hcz5 : w1.cell? ⟨H, 5, none⟩ = some (.int .u32 0) := blk_cell HH.out 5
  have hfz5 : w1.frozen? ⟨H, 5, none⟩ = false := blk_frozen HH.out 5
  go_upto_region 18 with fail
  clear hcy0 hfy0 hcy1 hfy1 hcy2 hfy2 hcy3 hfy3 hcy4 hfy4 hcy5 hfy5 hcy6 hfy6 hcy7 hfy7 hcy8 hfy8 hcz0 hfz0 hcz1 hfz1 hcz2 hfz2 hcz3 hfz3 hcz4 hfz4 hcz5 hfz5
  have HS5 : Aside0 (St (fun k => k = Y ∨ k = H) w.heap.size w1 ((((((((((((((((w1.setCell ⟨Y, 0, none⟩ (.int .i64 r1.ac)).setCell ⟨Y, 1, none⟩ (.bool r1.op)).setCell ⟨Y, 2, none⟩ (.bool r1.bl)).setCell ⟨Y, 3, none⟩ (.bool r1.pe)).setCell ⟨Y, 4, none⟩ (.int .i64 r1.co)).setCell ⟨Y, 5, none⟩ (.int .i64 r1.er)).setCell ⟨Y, 6, none⟩ (.int .u32 r1.nr)).setCell ⟨Y, 7, none⟩ (.int .u32 r1.ar)).setCell ⟨Y, 8, none⟩ (.slice A1 m c1)).setCell ⟨H, 0, none⟩ (.bool r2.di)).setCell ⟨H, 1, none⟩ (.bool r2.ru)).setCell ⟨H, 2, none⟩ (.int .i64 r2.co)).setCell ⟨H, 3, none⟩ (.int .i64 r2.er)).setCell ⟨H, 4, none⟩ (.int .u32 r2.nr)).setCell ⟨H, 5, none⟩ (.int .u32 r2.ar)))) := ⟨by (repeat (with_reducible first | exact St.rfl' _ _ _ | refine St.set ?_ (by omega) (by first | exact Or.inl rfl | exact Or.inl (Or.inl rfl) | exact Or.inl (Or.inr rfl) | (right; omega)) _ _ | refine St.drewN ?_ _ | refine St.drew ?_ | refine St.alloc ?_ (by omega) _))⟩
  have HY5 := Aside0.mk (blk_drew (far6 (put9 HY.out (.int .i64 r1.ac) (.bool r1.op) (.bool r1.bl) (.bool r1.pe) (.int .i64 r1.co) (.int .i64 r1.er) (.int .u32 r1.nr) (.int .u32 r1.ar) (.slice A1 m c1)) nYH (.bool r2.di) (.bool r2.ru) (.int .i64 r2.co) (.int .i64 r2.er) (.int .u32 r2.nr) (.int .u32 r2.ar)))
  have HH5 := Aside0.mk (blk_drew (put6 (far9 HH.out nHY (.int .i64 r1.ac) (.bool r1.op) (.bool r1.bl) (.bool r1.pe) (.int .i64 r1.co) (.int .i64 r1.er) (.int .u32 r1.nr) (.int .u32 r1.ar) (.slice A1 m c1)) (.bool r2.di) (.bool r2.ru) (.int .i64 r2.co) (.int .i64 r2.er) (.int .u32 r2.nr) (.int .u32 r2.ar)))
  have HR5 := Aside0.mk (Kd.R_drew (Kd.R_step HR.out (fun k hk hl => HS5.out.2.2 k (fun q => q.elim hk.1 hk.2) hl)))
  have HB5 := Aside0.mk (below_drew' (HB.out.trans HS5.out.1))
  clear HS5 HY HH HR HB
  refine start_ (n := 6) (S := fun w' => w'.heap[Y]? = some (.cells #[.int .i64 r1.ac, .bool r1.op, .bool r1.bl, .bool r1.pe, .int .i64 r1.co, .int .i64 r1.er, .int .u32 r1.nr, .int .u32 r1.ar, .slice A1 m c1] 27 (0, 0)) ∧ w'.heap[H]? = some (.cells #[.bool r2.di, .bool r2.ru, .int .i64 r2.co, .int .i64 r2.er, .int .u32 r2.nr, .int .u32 r2.ar] 33 (0, 0))) (ds := []) #[false, false, false, false, false, false] (by kernel_rfl) rfl rfl (⟨HY5.out, HH5.out⟩) (fun hHeld => ?_); refine with_tabW run18.tab18 run18.bits18 (fun HT_ HW_ => ?_)
  generalize World.drew _ = W4 at hHeld HY5 HH5 HR5 HB5 ⊢
  refine pure_ (i := 2) (N := some 77) (v := ?_) (a' := ?_) #[false, false, true, false, false, false] rfl rfl (any_of HT_.out (by kernel_rfl)) (fun _ _ _ h => h) (Or.inl ⟨by rfl, ?_⟩) ?_ ?_
  rotate_left
  · intro w'
    go_simp
    with_reducible rfl
  rotate_left
  · (try simp only [Act.put, List.setIfInBounds_toArray, List.set_cons_zero, List.set_cons_succ])
    rfl
  refine take_ (i := 0) (N := some 75) (v := ?_) (a' := ?_) #[true, false, true, false, false, false] rfl rfl (take_ofW HT_.out HW_.out (by kernel_rfl)) (fun _ _ _ h => h) (Or.inl ⟨by rfl, ?_⟩) hHeld ?_ ?_
  rotate_left
  · intro w' hS_
    have hx_0 : w'.cell? ⟨Y, 0, none⟩ = some (.int .i64 r1.ac) := blk_cell hS_.1 0
    have hx_1 : w'.cell? ⟨Y, 1, none⟩ = some (.bool r1.op) := blk_cell hS_.1 1
    have hx_2 : w'.cell? ⟨Y, 2, none⟩ = some (.bool r1.bl) := blk_cell hS_.1 2
    have hx_3 : w'.cell? ⟨Y, 3, none⟩ = some (.bool r1.pe) := blk_cell hS_.1 3
    have hx_4 : w'.cell? ⟨Y, 4, none⟩ = some (.int .i64 r1.co) := blk_cell hS_.1 4
    have hx_5 : w'.cell? ⟨Y, 5, none⟩ = some (.int .i64 r1.er) := blk_cell hS_.1 5
    have hx_6 : w'.cell? ⟨Y, 6, none⟩ = some (.int .u32 r1.nr) := blk_cell hS_.1 6
    have hx_7 : w'.cell? ⟨Y, 7, none⟩ = some (.int .u32 r1.ar) := blk_cell hS_.1 7
    have hx_8 : w'.cell? ⟨Y, 8, none⟩ = some (.slice A1 m c1) := blk_cell hS_.1 8
    go_simp
    with_reducible rfl
  rotate_left
  · (try simp only [Act.put, List.setIfInBounds_toArray, List.set_cons_zero, List.set_cons_succ])
    rfl
  refine take_ (i := 1) (N := some 76) (v := ?_) (a' := ?_) #[true, true, true, false, false, false] rfl rfl (take_ofW HT_.out HW_.out (by kernel_rfl)) (fun _ _ _ h => h) (Or.inl ⟨by rfl, ?_⟩) hHeld ?_ ?_
  rotate_left
  · intro w' hS_
    have hx_0 : w'.cell? ⟨H, 0, none⟩ = some (.bool r2.di) := blk_cell hS_.2 0
    have hx_1 : w'.cell? ⟨H, 1, none⟩ = some (.bool r2.ru) := blk_cell hS_.2 1
    have hx_2 : w'.cell? ⟨H, 2, none⟩ = some (.int .i64 r2.co) := blk_cell hS_.2 2
    have hx_3 : w'.cell? ⟨H, 3, none⟩ = some (.int .i64 r2.er) := blk_cell hS_.2 3
    have hx_4 : w'.cell? ⟨H, 4, none⟩ = some (.int .u32 r2.nr) := blk_cell hS_.2 4
    have hx_5 : w'.cell? ⟨H, 5, none⟩ = some (.int .u32 r2.ar) := blk_cell hS_.2 5
    go_simp
    with_reducible rfl
  rotate_left
  · (try simp only [Act.put, List.setIfInBounds_toArray, List.set_cons_zero, List.set_cons_succ])
    rfl
  refine one_ (i := 3) (N := none) #[true, true, true, true, false, false] rfl rfl (one_of HT_.out (by kernel_rfl)) (by decide) (fun K hK => ?_)
  refine store27_ (by rfl) rfl (.tmp 4) (.tmp 75) rfl r1.ac r1.co r1.er r1.nr r1.ar r1.op r1.bl r1.pe A1 m c1 Y (by rfl) (by rfl) hHeld.1 ?_
  intro W5 hy5 hf5 hs5 hb5
  have hh5 := (hf5 H nHY).trans hHeld.2
  have HR6 := Aside0.mk (Kd.R_step HR5.out (fun k hk _ => hf5 k hk.1))
  have HB6 := Aside0.mk (HB5.out.trans (hb5 w.heap.size hnY))
  clear HR5 HB5 hf5 hs5 hb5 hHeld
  refine hK.out _ _ ⟨hy5, hh5⟩ (fun hHeld => ?_)
  clear hK K hy5 hh5
  refine one_ (i := 4) (N := none) #[true, true, true, true, true, false] rfl rfl (one_of HT_.out (by kernel_rfl)) (by decide) (fun K hK => ?_)
  refine store33_ (by rfl) rfl (.tmp 5) (.tmp 76) rfl r2.co r2.er r2.nr r2.ar r2.di r2.ru H (by rfl) (by rfl) hHeld.2 ?_
  intro W6 hy5 hf5 hs5 hb5
  have hh5 := (hf5 Y nYH).trans hHeld.1
  have HR7 := Aside0.mk (Kd.R_mono (ok' := fun _ => True) (Kd.R_step HR6.out (fun k hk _ => hf5 k hk.2)) (fun _ _ => trivial))
  have HB7 := Aside0.mk (HB6.out.trans (hb5 w.heap.size hnH))
  clear HR6 HB6 hf5 hs5 hb5 hHeld
  have HY7 := Aside0.mk hh5
  have HH7 := Aside0.mk hy5
  refine hK.out _ _ ⟨hh5, hy5⟩ (fun hHeld => ?_)
  clear hK K hy5 hh5
  refine pure_ (i := 5) (N := some 6) (v := ?_) (a' := ?_) #[true, true, true, true, true, true] rfl rfl (any_of HT_.out (by kernel_rfl)) (fun _ _ _ h => h) (Or.inl ⟨by rfl, ?_⟩) ?_ ?_
  rotate_left
  · intro w'
    go_simp
    with_reducible rfl
  rotate_left
  · (try simp only [Act.put, List.setIfInBounds_toArray, List.set_cons_zero, List.set_cons_succ])
    rfl
  refine done_ (done_of HT_.out (by kernel_rfl)) ?_
  clear HT_ HW_ hHeld
  go_wp2
  refine bodyPost_ret (results_list (rs := [.cell 4 27, .cell 5 33, .tmp 6]) rfl (by simp) (.cell Y 27 #[.int .i64 r1.ac, .bool r1.op, .bool r1.bl, .bool r1.pe, .int .i64 r1.co, .int .i64 r1.er, .int .u32 r1.nr, .int .u32 r1.ar, .slice A1 m c1] (0, 0) _ rfl HY7.out Try.underlying27 rfl (by kernel_rfl) (.cell H 33 #[.bool r2.di, .bool r2.ru, .int .i64 r2.co, .int .i64 r2.er, .int .u32 r2.nr, .int .u32 r2.ar] (0, 0) _ rfl HH7.out Try.underlying33 rfl (by kernel_rfl) (.tmp .nil)))) rfl ?_
  exact ⟨.slice A1 m c1, rfl, HR7.out, HB7.out⟩
set_option maxHeartbeats 2000000 in
set_option maxRecDepth 100000 in
theorem run_4 (kd a : Int) (f : Bool) (co er nr ar : Int) (s : Sg) (q : Int) (hq : (IntKind.u64.wrap kd).tmod 10 = q) (hq0 : q = 4) (A : Option Addr) (c : Nat) (w : World) (hr0 : Kd.C Kd.bool w A s.l.length s.l) (hc0 : s.l.length ≤ c) :
    Calls Try.prog 15 #[.agg #[.int .i64 kd, .int .i64 a, .bool f, .int .i64 co, .int .i64 er, .int .u32 nr, .int .u32 ar], .agg #[.int .i64 s.ac, .bool s.op, .bool s.bl, .bool s.pe, .int .i64 s.co, .int .i64 s.er, .int .u32 s.nr, .int .u32 s.ar, .slice A s.l.length c]] w (Outs (s.opD q a f co er nr ar) w) := by
  subst hq0
  obtain ⟨r, hr⟩ : ∃ r, r = s.withV (s.forceD co er nr ar) := ⟨_, rfl⟩
  have HRV := Aside0.mk hr
  clear hr
  rw [show s.opD 4 a f co er nr ar = r from by rw [HRV.out]; simp [Sg.opD]]
  have HR0 := Aside0.mk hr0
  have HC0 := Aside0.mk hc0
  clear hr0 hc0
  go_enter Try.func15, Try.ntmps15
  go_wp2_with fail
  refine (force_c co er nr ar s A c _ (Kd.C_alloc (Kd.C_alloc (Kd.C_alloc (Kd.C_alloc HR0.out _) _) _) _) HC0.out).mono ?_
  rw [← HRV.out]
  rintro e w1 ⟨v1, rfl, hR, hB⟩
  have HY : Aside0 (w1.heap[w.heap.size + 1 + 1]? = some (.cells #[.int .i64 0, .bool false, .bool false, .bool false, .int .i64 0, .int .i64 0, .int .u32 0, .int .u32 0, .slice none 0 0] 27 (0, 0))) := ⟨by refine (hB.block _ (by simp only [World.size_alloc]; omega)).trans ?_; (repeat (with_reducible first | exact heap_new_at _ _ _ (by simp) | refine blk_alloc ?_ _))⟩
  have HH : Aside0 (w1.heap[w.heap.size + 1 + 1 + 1]? = some (.cells #[.bool false, .bool false, .int .i64 0, .int .i64 0, .int .u32 0, .int .u32 0] 33 (0, 0))) := ⟨by refine (hB.block _ (by simp only [World.size_alloc]; omega)).trans ?_; (repeat (with_reducible first | exact heap_new_at _ _ _ (by simp) | refine blk_alloc ?_ _))⟩
  have HB : Aside0 (Below w.heap.size w w1) := ⟨(below_alloc (below_alloc (below_alloc (below_alloc (Below.refl _ _) _) _) _) _).trans (hB.mono (by simp only [World.size_alloc]; omega))⟩
  have HR : Aside0 (Kd.R Kd.bool 4 w1 w.heap.size (fun k => k ≠ w.heap.size + 1 + 1 ∧ k ≠ w.heap.size + 1 + 1 + 1) v1 r.1.l) := ⟨Kd.R_lower (Kd.R_mono (Kd.R_bound hR) (fun k hk => by have := hk.2.1; simp only [World.size_alloc] at this; omega)) (by simp only [World.size_alloc]; omega)⟩
  clear hR hB HRV HR0 HC0
  obtain ⟨r1, r2, r3⟩ := r
  dsimp only [nohit] at HR ⊢
  obtain ⟨A1, c1, rfl⟩ := Kd.R_slice HR.out
  obtain ⟨m, hm⟩ : ∃ m, m = r1.l.length := ⟨_, rfl⟩
  rw [← hm] at HR ⊢
  clear hm
  obtain ⟨Y, hYe⟩ : ∃ Y, Y = w.heap.size + 1 + 1 := ⟨_, rfl⟩
  rw [← hYe] at HY HH HR ⊢
  obtain ⟨H, hHe⟩ : ∃ H, H = Y + 1 := ⟨_, rfl⟩
  rw [← hHe] at HH HR ⊢
  have hnY : w.heap.size ≤ Y := by omega
  have nYH : Y ≠ H := by omega
  have nHY : H ≠ Y := by omega
  have hnH : w.heap.size ≤ H := by omega
  clear hYe hHe
  have hltY := blk_lt HY.out
  have hltH := blk_lt HH.out
  have hs1 := HB.out.size
  have hcy0 : w1.cell? ⟨Y, 0, none⟩ = some (.int .i64 0) := blk_cell HY.out 0
  have hfy0 : w1.frozen? ⟨Y, 0, none⟩ = false := blk_frozen HY.out 0
  have hcy1 : w1.cell? ⟨Y, 1, none⟩ = some (.bool false) := blk_cell HY.out 1
  have hfy1 : w1.frozen? ⟨Y, 1, none⟩ = false := blk_frozen HY.out 1
  have hcy2 : w1.cell? ⟨Y, 2, none⟩ = some (.bool false) := blk_cell HY.out 2
  have hfy2 : w1.frozen? ⟨Y, 2, none⟩ = false := blk_frozen HY.out 2
  have hcy3 : w1.cell? ⟨Y, 3, none⟩ = some (.bool false) := blk_cell HY.out 3
  have hfy3 : w1.frozen? ⟨Y, 3, none⟩ = false := blk_frozen HY.out 3
  have hcy4 : w1.cell? ⟨Y, 4, none⟩ = some (.int .i64 0) := blk_cell HY.out 4
  have hfy4 : w1.frozen? ⟨Y, 4, none⟩ = false := blk_frozen HY.out 4
  have hcy5 : w1.cell? ⟨Y, 5, none⟩ = some (.int .i64 0) := blk_cell HY.out 5
  have hfy5 : w1.frozen? ⟨Y, 5, none⟩ = false := blk_frozen HY.out 5
  have hcy6 : w1.cell? ⟨Y, 6, none⟩ = some (.int .u32 0) := blk_cell HY.out 6
  have hfy6 : w1.frozen? ⟨Y, 6, none⟩ = false := blk_frozen HY.out 6
  have hcy7 : w1.cell? ⟨Y, 7, none⟩ = some (.int .u32 0) := blk_cell HY.out 7
  have hfy7 : w1.frozen? ⟨Y, 7, none⟩ = false := blk_frozen HY.out 7
  have hcy8 : w1.cell? ⟨Y, 8, none⟩ = some (.slice none 0 0) := blk_cell HY.out 8
  have hfy8 : w1.frozen? ⟨Y, 8, none⟩ = false := blk_frozen HY.out 8
  have hcz0 : w1.cell? ⟨H, 0, none⟩ = some (.bool false) := blk_cell HH.out 0
  have hfz0 : w1.frozen? ⟨H, 0, none⟩ = false := blk_frozen HH.out 0
  have hcz1 : w1.cell? ⟨H, 1, none⟩ = some (.bool false) := blk_cell HH.out 1
  have hfz1 : w1.frozen? ⟨H, 1, none⟩ = false := blk_frozen HH.out 1
  have hcz2 : w1.cell? ⟨H, 2, none⟩ = some (.int .i64 0) := blk_cell HH.out 2
  have hfz2 : w1.frozen? ⟨H, 2, none⟩ = false := blk_frozen HH.out 2
  have hcz3 : w1.cell? ⟨H, 3, none⟩ = some (.int .i64 0) := blk_cell HH.out 3
  have hfz3 : w1.frozen? ⟨H, 3, none⟩ = false := blk_frozen HH.out 3
  have hcz4 : w1.cell? ⟨H, 4, none⟩ = some (.int .u32 0) := blk_cell HH.out 4
  have hfz4 : w1.frozen? ⟨H, 4, none⟩ = false := blk_frozen HH.out 4
  have hcz5 : w1.cell? ⟨H, 5, none⟩ = some (.int .u32 0) := blk_cell HH.out 5
  have hfz5 : w1.frozen? ⟨H, 5, none⟩ = false := blk_frozen HH.out 5
  go_upto_region 18 with fail
  clear hcy0 hfy0 hcy1 hfy1 hcy2 hfy2 hcy3 hfy3 hcy4 hfy4 hcy5 hfy5 hcy6 hfy6 hcy7 hfy7 hcy8 hfy8 hcz0 hfz0 hcz1 hfz1 hcz2 hfz2 hcz3 hfz3 hcz4 hfz4 hcz5 hfz5
  have HS5 : Aside0 (St (fun k => k = Y ∨ k = H) w.heap.size w1 ((((((((((((((((w1.setCell ⟨Y, 0, none⟩ (.int .i64 r1.ac)).setCell ⟨Y, 1, none⟩ (.bool r1.op)).setCell ⟨Y, 2, none⟩ (.bool r1.bl)).setCell ⟨Y, 3, none⟩ (.bool r1.pe)).setCell ⟨Y, 4, none⟩ (.int .i64 r1.co)).setCell ⟨Y, 5, none⟩ (.int .i64 r1.er)).setCell ⟨Y, 6, none⟩ (.int .u32 r1.nr)).setCell ⟨Y, 7, none⟩ (.int .u32 r1.ar)).setCell ⟨Y, 8, none⟩ (.slice A1 m c1)).setCell ⟨H, 0, none⟩ (.bool r2.di)).setCell ⟨H, 1, none⟩ (.bool r2.ru)).setCell ⟨H, 2, none⟩ (.int .i64 r2.co)).setCell ⟨H, 3, none⟩ (.int .i64 r2.er)).setCell ⟨H, 4, none⟩ (.int .u32 r2.nr)).setCell ⟨H, 5, none⟩ (.int .u32 r2.ar)))) := ⟨by (repeat (with_reducible first | exact St.rfl' _ _ _ | refine St.set ?_ (by omega) (by first | exact Or.inl rfl | exact Or.inl (Or.inl rfl) | exact Or.inl (Or.inr rfl) | (right; omega)) _ _ | refine St.drewN ?_ _ | refine St.drew ?_ | refine St.alloc ?_ (by omega) _))⟩
  have HY5 := Aside0.mk (blk_drew (far6 (put9 HY.out (.int .i64 r1.ac) (.bool r1.op) (.bool r1.bl) (.bool r1.pe) (.int .i64 r1.co) (.int .i64 r1.er) (.int .u32 r1.nr) (.int .u32 r1.ar) (.slice A1 m c1)) nYH (.bool r2.di) (.bool r2.ru) (.int .i64 r2.co) (.int .i64 r2.er) (.int .u32 r2.nr) (.int .u32 r2.ar)))
  have HH5 := Aside0.mk (blk_drew (put6 (far9 HH.out nHY (.int .i64 r1.ac) (.bool r1.op) (.bool r1.bl) (.bool r1.pe) (.int .i64 r1.co) (.int .i64 r1.er) (.int .u32 r1.nr) (.int .u32 r1.ar) (.slice A1 m c1)) (.bool r2.di) (.bool r2.ru) (.int .i64 r2.co) (.int .i64 r2.er) (.int .u32 r2.nr) (.int .u32 r2.ar)))
  have HR5 := Aside0.mk (Kd.R_drew (Kd.R_step HR.out (fun k hk hl => HS5.out.2.2 k (fun q => q.elim hk.1 hk.2) hl)))
  have HB5 := Aside0.mk (below_drew' (HB.out.trans HS5.out.1))
  clear HS5 HY HH HR HB
  refine start_ (n := 6) (S := fun w' => w'.heap[Y]? = some (.cells #[.int .i64 r1.ac, .bool r1.op, .bool r1.bl, .bool r1.pe, .int .i64 r1.co, .int .i64 r1.er, .int .u32 r1.nr, .int .u32 r1.ar, .slice A1 m c1] 27 (0, 0)) ∧ w'.heap[H]? = some (.cells #[.bool r2.di, .bool r2.ru, .int .i64 r2.co, .int .i64 r2.er, .int .u32 r2.nr, .int .u32 r2.ar] 33 (0, 0))) (ds := []) #[false, false, false, false, false, false] (by kernel_rfl) rfl rfl (⟨HY5.out, HH5.out⟩) (fun hHeld => ?_); refine with_tabW run18.tab18 run18.bits18 (fun HT_ HW_ => ?_)
  generalize World.drew _ = W4 at hHeld HY5 HH5 HR5 HB5 ⊢
  refine pure_ (i := 2) (N := some 77) (v := ?_) (a' := ?_) #[false, false, true, false, false, false] rfl rfl (any_of HT_.out (by kernel_rfl)) (fun _ _ _ h => h) (Or.inl ⟨by rfl, ?_⟩) ?_ ?_
  rotate_left
  · intro w'
    go_simp
    with_reducible rfl
  rotate_left
  · (try simp only [Act.put, List.setIfInBounds_toArray, List.set_cons_zero, List.set_cons_succ])
    rfl
  refine take_ (i := 0) (N := some 75) (v := ?_) (a' := ?_) #[true, false, true, false, false, false] rfl rfl (take_ofW HT_.out HW_.out (by kernel_rfl)) (fun _ _ _ h => h) (Or.inl ⟨by rfl, ?_⟩) hHeld ?_ ?_
  rotate_left
  · intro w' hS_
    have hx_0 : w'.cell? ⟨Y, 0, none⟩ = some (.int .i64 r1.ac) := blk_cell hS_.1 0
    have hx_1 : w'.cell? ⟨Y, 1, none⟩ = some (.bool r1.op) := blk_cell hS_.1 1
    have hx_2 : w'.cell? ⟨Y, 2, none⟩ = some (.bool r1.bl) := blk_cell hS_.1 2
    have hx_3 : w'.cell? ⟨Y, 3, none⟩ = some (.bool r1.pe) := blk_cell hS_.1 3
    have hx_4 : w'.cell? ⟨Y, 4, none⟩ = some (.int .i64 r1.co) := blk_cell hS_.1 4
    have hx_5 : w'.cell? ⟨Y, 5, none⟩ = some (.int .i64 r1.er) := blk_cell hS_.1 5
    have hx_6 : w'.cell? ⟨Y, 6, none⟩ = some (.int .u32 r1.nr) := blk_cell hS_.1 6
    have hx_7 : w'.cell? ⟨Y, 7, none⟩ = some (.int .u32 r1.ar) := blk_cell hS_.1 7
    have hx_8 : w'.cell? ⟨Y, 8, none⟩ = some (.slice A1 m c1) := blk_cell hS_.1 8
    go_simp
    with_reducible rfl
  rotate_left
  · (try simp only [Act.put, List.setIfInBounds_toArray, List.set_cons_zero, List.set_cons_succ])
    rfl
  refine take_ (i := 1) (N := some 76) (v := ?_) (a' := ?_) #[true, true, true, false, false, false] rfl rfl (take_ofW HT_.out HW_.out (by kernel_rfl)) (fun _ _ _ h => h) (Or.inl ⟨by rfl, ?_⟩) hHeld ?_ ?_
  rotate_left
  · intro w' hS_
    have hx_0 : w'.cell? ⟨H, 0, none⟩ = some (.bool r2.di) := blk_cell hS_.2 0
    have hx_1 : w'.cell? ⟨H, 1, none⟩ = some (.bool r2.ru) := blk_cell hS_.2 1
    have hx_2 : w'.cell? ⟨H, 2, none⟩ = some (.int .i64 r2.co) := blk_cell hS_.2 2
    have hx_3 : w'.cell? ⟨H, 3, none⟩ = some (.int .i64 r2.er) := blk_cell hS_.2 3
    have hx_4 : w'.cell? ⟨H, 4, none⟩ = some (.int .u32 r2.nr) := blk_cell hS_.2 4
    have hx_5 : w'.cell? ⟨H, 5, none⟩ = some (.int .u32 r2.ar) := blk_cell hS_.2 5
    go_simp
    with_reducible rfl
  rotate_left
  · (try simp only [Act.put, List.setIfInBounds_toArray, List.set_cons_zero, List.set_cons_succ])
    rfl
  refine one_ (i := 3) (N := none) #[true, true, true, true, false, false] rfl rfl (one_of HT_.out (by kernel_rfl)) (by decide) (fun K hK => ?_)
  refine store27_ (by rfl) rfl (.tmp 4) (.tmp 75) rfl r1.ac r1.co r1.er r1.nr r1.ar r1.op r1.bl r1.pe A1 m c1 Y (by rfl) (by rfl) hHeld.1 ?_
  intro W5 hy5 hf5 hs5 hb5
  have hh5 := (hf5 H nHY).trans hHeld.2
  have HR6 := Aside0.mk (Kd.R_step HR5.out (fun k hk _ => hf5 k hk.1))
  have HB6 := Aside0.mk (HB5.out.trans (hb5 w.heap.size hnY))
  clear HR5 HB5 hf5 hs5 hb5 hHeld
  refine hK.out _ _ ⟨hy5, hh5⟩ (fun hHeld => ?_)
  clear hK K hy5 hh5
  refine one_ (i := 4) (N := none) #[true, true, true, true, true, false] rfl rfl (one_of HT_.out (by kernel_rfl)) (by decide) (fun K hK => ?_)
  refine store33_ (by rfl) rfl (.tmp 5) (.tmp 76) rfl r2.co r2.er r2.nr r2.ar r2.di r2.ru H (by rfl) (by rfl) hHeld.2 ?_
  intro W6 hy5 hf5 hs5 hb5
  have hh5 := (hf5 Y nYH).trans hHeld.1
  have HR7 := Aside0.mk (Kd.R_mono (ok' := fun _ => True) (Kd.R_step HR6.out (fun k hk _ => hf5 k hk.2)) (fun _ _ => trivial))
  have HB7 := Aside0.mk (HB6.out.trans (hb5 w.heap.size hnH))
  clear HR6 HB6 hf5 hs5 hb5 hHeld
  have HY7 := Aside0.mk hh5
  have HH7 := Aside0.mk hy5
  refine hK.out _ _ ⟨hh5, hy5⟩ (fun hHeld => ?_)
  clear hK K hy5 hh5
  refine pure_ (i := 5) (N := some 6) (v := ?_) (a' := ?_) #[true, true, true, true, true, true] rfl rfl (any_of HT_.out (by kernel_rfl)) (fun _ _ _ h => h) (Or.inl ⟨by rfl, ?_⟩) ?_ ?_
  rotate_left
  · intro w'
    go_simp
    with_reducible rfl
  rotate_left
  · (try simp only [Act.put, List.setIfInBounds_toArray, List.set_cons_zero, List.set_cons_succ])
    rfl
  refine done_ (done_of HT_.out (by kernel_rfl)) ?_
  clear HT_ HW_ hHeld
  go_wp2
  refine bodyPost_ret (results_list (rs := [.cell 4 27, .cell 5 33, .tmp 6]) rfl (by simp) (.cell Y 27 #[.int .i64 r1.ac, .bool r1.op, .bool r1.bl, .bool r1.pe, .int .i64 r1.co, .int .i64 r1.er, .int .u32 r1.nr, .int .u32 r1.ar, .slice A1 m c1] (0, 0) _ rfl HY7.out Try.underlying27 rfl (by kernel_rfl) (.cell H 33 #[.bool r2.di, .bool r2.ru, .int .i64 r2.co, .int .i64 r2.er, .int .u32 r2.nr, .int .u32 r2.ar] (0, 0) _ rfl HH7.out Try.underlying33 rfl (by kernel_rfl) (.tmp .nil)))) rfl ?_
  exact ⟨.slice A1 m c1, rfl, HR7.out, HB7.out⟩
set_option maxHeartbeats 2000000 in
set_option maxRecDepth 100000 in
theorem run_5 (kd a : Int) (f : Bool) (co er nr ar : Int) (s : Sg) (q : Int) (hq : (IntKind.u64.wrap kd).tmod 10 = q) (hq0 : q = 5) (A : Option Addr) (c : Nat) (w : World) (hr0 : Kd.C Kd.bool w A s.l.length s.l) (hc0 : s.l.length ≤ c) :
    Calls Try.prog 15 #[.agg #[.int .i64 kd, .int .i64 a, .bool f, .int .i64 co, .int .i64 er, .int .u32 nr, .int .u32 ar], .agg #[.int .i64 s.ac, .bool s.op, .bool s.bl, .bool s.pe, .int .i64 s.co, .int .i64 s.er, .int .u32 s.nr, .int .u32 s.ar, .slice A s.l.length c]] w (Outs (s.opD q a f co er nr ar) w) := by
  subst hq0
  obtain ⟨r, hr⟩ : ∃ r, r = s.withV (s.forceD co er nr ar) := ⟨_, rfl⟩
  have HRV := Aside0.mk hr
  clear hr
  rw [show s.opD 5 a f co er nr ar = r from by rw [HRV.out]; simp [Sg.opD]]
  have HR0 := Aside0.mk hr0
  have HC0 := Aside0.mk hc0
  clear hr0 hc0
  go_enter Try.func15, Try.ntmps15
  go_wp2_with fail
  refine (force_c co er nr ar s A c _ (Kd.C_alloc (Kd.C_alloc (Kd.C_alloc (Kd.C_alloc HR0.out _) _) _) _) HC0.out).mono ?_
  rw [← HRV.out]
  rintro e w1 ⟨v1, rfl, hR, hB⟩
  have HY : Aside0 (w1.heap[w.heap.size + 1 + 1]? = some (.cells #[.int .i64 0, .bool false, .bool false, .bool false, .int .i64 0, .int .i64 0, .int .u32 0, .int .u32 0, .slice none 0 0] 27 (0, 0))) := ⟨by refine (hB.block _ (by simp only [World.size_alloc]; omega)).trans ?_; (repeat (with_reducible first | exact heap_new_at _ _ _ (by simp) | refine blk_alloc ?_ _))⟩
  have HH : Aside0 (w1.heap[w.heap.size + 1 + 1 + 1]? = some (.cells #[.bool false, .bool false, .int .i64 0, .int .i64 0, .int .u32 0, .int .u32 0] 33 (0, 0))) := ⟨by refine (hB.block _ (by simp only [World.size_alloc]; omega)).trans ?_; (repeat (with_reducible first | exact heap_new_at _ _ _ (by simp) | refine blk_alloc ?_ _))⟩
  have HB : Aside0 (Below w.heap.size w w1) := ⟨(below_alloc (below_alloc (below_alloc (below_alloc (Below.refl _ _) _) _) _) _).trans (hB.mono (by simp only [World.size_alloc]; omega))⟩
  have HR : Aside0 (Kd.R Kd.bool 4 w1 w.heap.size (fun k => k ≠ w.heap.size + 1 + 1 ∧ k ≠ w.heap.size + 1 + 1 + 1) v1 r.1.l) := ⟨Kd.R_lower (Kd.R_mono (Kd.R_bound hR) (fun k hk => by have := hk.2.1; simp only [World.size_alloc] at this; omega)) (by simp only [World.size_alloc]; omega)⟩
  clear hR hB HRV HR0 HC0
  obtain ⟨r1, r2, r3⟩ := r
  dsimp only [nohit] at HR ⊢
  obtain ⟨A1, c1, rfl⟩ := Kd.R_slice HR.out
  obtain ⟨m, hm⟩ : ∃ m, m = r1.l.length := ⟨_, rfl⟩
  rw [← hm] at HR ⊢
  clear hm
  obtain ⟨Y, hYe⟩ : ∃ Y, Y = w.heap.size + 1 + 1 := ⟨_, rfl⟩
  rw [← hYe] at HY HH HR ⊢
  obtain ⟨H, hHe⟩ : ∃ H, H = Y + 1 := ⟨_, rfl⟩
  rw [← hHe] at HH HR ⊢
  have hnY : w.heap.size ≤ Y := by omega
  have nYH : Y ≠ H := by omega
  have nHY : H ≠ Y := by omega
  have hnH : w.heap.size ≤ H := by omega
  clear hYe hHe
  have hltY := blk_lt HY.out
  have hltH := blk_lt HH.out
  have hs1 := HB.out.size
  have hcy0 : w1.cell? ⟨Y, 0, none⟩ = some (.int .i64 0) := blk_cell HY.out 0
  have hfy0 : w1.frozen? ⟨Y, 0, none⟩ = false := blk_frozen HY.out 0
  have hcy1 : w1.cell? ⟨Y, 1, none⟩ = some (.bool false) := blk_cell HY.out 1
  have hfy1 : w1.frozen? ⟨Y, 1, none⟩ = false := blk_frozen HY.out 1
  have hcy2 : w1.cell? ⟨Y, 2, none⟩ = some (.bool false) := blk_cell HY.out 2
  have hfy2 : w1.frozen? ⟨Y, 2, none⟩ = false := blk_frozen HY.out 2
  have hcy3 : w1.cell? ⟨Y, 3, none⟩ = some (.bool false) := blk_cell HY.out 3
  have hfy3 : w1.frozen? ⟨Y, 3, none⟩ = false := blk_frozen HY.out 3
  have hcy4 : w1.cell? ⟨Y, 4, none⟩ = some (.int .i64 0) := blk_cell HY.out 4
  have hfy4 : w1.frozen? ⟨Y, 4, none⟩ = false := blk_frozen HY.out 4
  have hcy5 : w1.cell? ⟨Y, 5, none⟩ = some (.int .i64 0) := blk_cell HY.out 5
  have hfy5 : w1.frozen? ⟨Y, 5, none⟩ = false := blk_frozen HY.out 5
  have hcy6 : w1.cell? ⟨Y, 6, none⟩ = some (.int .u32 0) := blk_cell HY.out 6
  have hfy6 : w1.frozen? ⟨Y, 6, none⟩ = false := blk_frozen HY.out 6
  have hcy7 : w1.cell? ⟨Y, 7, none⟩ = some (.int .u32 0) := blk_cell HY.out 7
  have hfy7 : w1.frozen? ⟨Y, 7, none⟩ = false := blk_frozen HY.out 7
  have hcy8 : w1.cell? ⟨Y, 8, none⟩ = some (.slice none 0 0) := blk_cell HY.out 8
  have hfy8 : w1.frozen? ⟨Y, 8, none⟩ = false := blk_frozen HY.out 8
  have hcz0 : w1.cell? ⟨H, 0, none⟩ = some (.bool false) := blk_cell HH.out 0
  have hfz0 : w1.frozen? ⟨H, 0, none⟩ = false := blk_frozen HH.out 0
  have hcz1 : w1.cell? ⟨H, 1, none⟩ = some (.bool false) := blk_cell HH.out 1
  have hfz1 : w1.frozen? ⟨H, 1, none⟩ = false := blk_frozen HH.out 1
  have hcz2 : w1.cell? ⟨H, 2, none⟩ = some (.int .i64 0) := blk_cell HH.out 2
  have hfz2 : w1.frozen? ⟨H, 2, none⟩ = false := blk_frozen HH.out 2
  have hcz3 : w1.cell? ⟨H, 3, none⟩ = some (.int .i64 0) := blk_cell HH.out 3
  have hfz3 : w1.frozen? ⟨H, 3, none⟩ = false := blk_frozen HH.out 3
  have hcz4 : w1.cell? ⟨H, 4, none⟩ = some (.int .u32 0) := blk_cell HH.out 4
  have hfz4 : w1.frozen? ⟨H, 4, none⟩ = false := blk_frozen HH.out 4
  have hcz5 : w1.cell? ⟨H, 5, none⟩ = some (.int .u32 0) := blk_cell HH.out 5
  have hfz5 : w1.frozen? ⟨H, 5, none⟩ = false := blk_frozen HH.out 5
  go_upto_region 18 with fail
  clear hcy0 hfy0 hcy1 hfy1 hcy2 hfy2 hcy3 hfy3 hcy4 hfy4 hcy5 hfy5 hcy6 hfy6 hcy7 hfy7 hcy8 hfy8 hcz0 hfz0 hcz1 hfz1 hcz2 hfz2 hcz3 hfz3 hcz4 hfz4 hcz5 hfz5
  have HS5 : Aside0 (St (fun k => k = Y ∨ k = H) w.heap.size w1 ((((((((((((((((w1.setCell ⟨Y, 0, none⟩ (.int .i64 r1.ac)).setCell ⟨Y, 1, none⟩ (.bool r1.op)).setCell ⟨Y, 2, none⟩ (.bool r1.bl)).setCell ⟨Y, 3, none⟩ (.bool r1.pe)).setCell ⟨Y, 4, none⟩ (.int .i64 r1.co)).setCell ⟨Y, 5, none⟩ (.int .i64 r1.er)).setCell ⟨Y, 6, none⟩ (.int .u32 r1.nr)).setCell ⟨Y, 7, none⟩ (.int .u32 r1.ar)).setCell ⟨Y, 8, none⟩ (.slice A1 m c1)).setCell ⟨H, 0, none⟩ (.bool r2.di)).setCell ⟨H, 1, none⟩ (.bool r2.ru)).setCell ⟨H, 2, none⟩ (.int .i64 r2.co)).setCell ⟨H, 3, none⟩ (.int .i64 r2.er)).setCell ⟨H, 4, none⟩ (.int .u32 r2.nr)).setCell ⟨H, 5, none⟩ (.int .u32 r2.ar)))) := ⟨by (repeat (with_reducible first | exact St.rfl' _ _ _ | refine St.set ?_ (by omega) (by first | exact Or.inl rfl | exact Or.inl (Or.inl rfl) | exact Or.inl (Or.inr rfl) | (right; omega)) _ _ | refine St.drewN ?_ _ | refine St.drew ?_ | refine St.alloc ?_ (by omega) _))⟩
  have HY5 := Aside0.mk (blk_drew (far6 (put9 HY.out (.int .i64 r1.ac) (.bool r1.op) (.bool r1.bl) (.bool r1.pe) (.int .i64 r1.co) (.int .i64 r1.er) (.int .u32 r1.nr) (.int .u32 r1.ar) (.slice A1 m c1)) nYH (.bool r2.di) (.bool r2.ru) (.int .i64 r2.co) (.int .i64 r2.er) (.int .u32 r2.nr) (.int .u32 r2.ar)))
  have HH5 := Aside0.mk (blk_drew (put6 (far9 HH.out nHY (.int .i64 r1.ac) (.bool r1.op) (.bool r1.bl) (.bool r1.pe) (.int .i64 r1.co) (.int .i64 r1.er) (.int .u32 r1.nr) (.int .u32 r1.ar) (.slice A1 m c1)) (.bool r2.di) (.bool r2.ru) (.int .i64 r2.co) (.int .i64 r2.er) (.int .u32 r2.nr) (.int .u32 r2.ar)))
  have HR5 := Aside0.mk (Kd.R_drew (Kd.R_step HR.out (fun k hk hl => HS5.out.2.2 k (fun q => q.elim hk.1 hk.2) hl)))
  have HB5 := Aside0.mk (below_drew' (HB.out.trans HS5.out.1))
  clear HS5 HY HH HR HB
  refine start_ (n := 6) (S := fun w' => w'.heap[Y]? = some (.cells #[.int .i64 r1.ac, .bool r1.op, .bool r1.bl, .bool r1.pe, .int .i64 r1.co, .int .i64 r1.er, .int .u32 r1.nr, .int .u32 r1.ar, .slice A1 m c1] 27 (0, 0)) ∧ w'.heap[H]? = some (.cells #[.bool r2.di, .bool r2.ru, .int .i64 r2.co, .int .i64 r2.er, .int .u32 r2.nr, .int .u32 r2.ar] 33 (0, 0))) (ds := []) #[false, false, false, false, false, false] (by kernel_rfl) rfl rfl (⟨HY5.out, HH5.out⟩) (fun hHeld => ?_); refine with_tabW run18.tab18 run18.bits18 (fun HT_ HW_ => ?_)
  generalize World.drew _ = W4 at hHeld HY5 HH5 HR5 HB5 ⊢
  refine pure_ (i := 2) (N := some 77) (v := ?_) (a' := ?_) #[false, false, true, false, false, false] rfl rfl (any_of HT_.out (by kernel_rfl)) (fun _ _ _ h => h) (Or.inl ⟨by rfl, ?_⟩) ?_ ?_
  rotate_left
  · intro w'
    go_simp
    with_reducible rfl
  rotate_left
  · (try simp only [Act.put, List.setIfInBounds_toArray, List.set_cons_zero, List.set_cons_succ])
    rfl
  refine take_ (i := 0) (N := some 75) (v := ?_) (a' := ?_) #[true, false, true, false, false, false] rfl rfl (take_ofW HT_.out HW_.out (by kernel_rfl)) (fun _ _ _ h => h) (Or.inl ⟨by rfl, ?_⟩) hHeld ?_ ?_
  rotate_left
  · intro w' hS_
    have hx_0 : w'.cell? ⟨Y, 0, none⟩ = some (.int .i64 r1.ac) := blk_cell hS_.1 0
    have hx_1 : w'.cell? ⟨Y, 1, none⟩ = some (.bool r1.op) := blk_cell hS_.1 1
    have hx_2 : w'.cell? ⟨Y, 2, none⟩ = some (.bool r1.bl) := blk_cell hS_.1 2
    have hx_3 : w'.cell? ⟨Y, 3, none⟩ = some (.bool r1.pe) := blk_cell hS_.1 3
    have hx_4 : w'.cell? ⟨Y, 4, none⟩ = some (.int .i64 r1.co) := blk_cell hS_.1 4
    have hx_5 : w'.cell? ⟨Y, 5, none⟩ = some (.int .i64 r1.er) := blk_cell hS_.1 5
    have hx_6 : w'.cell? ⟨Y, 6, none⟩ = some (.int .u32 r1.nr) := blk_cell hS_.1 6
    have hx_7 : w'.cell? ⟨Y, 7, none⟩ = some (.int .u32 r1.ar) := blk_cell hS_.1 7
    have hx_8 : w'.cell? ⟨Y, 8, none⟩ = some (.slice A1 m c1) := blk_cell hS_.1 8
    go_simp
    with_reducible rfl
  rotate_left
  · (try simp only [Act.put, List.setIfInBounds_toArray, List.set_cons_zero, List.set_cons_succ])
    rfl
  refine take_ (i := 1) (N := some 76) (v := ?_) (a' := ?_) #[true, true, true, false, false, false] rfl rfl (take_ofW HT_.out HW_.out (by kernel_rfl)) (fun _ _ _ h => h) (Or.inl ⟨by rfl, ?_⟩) hHeld ?_ ?_
  rotate_left
  · intro w' hS_
    have hx_0 : w'.cell? ⟨H, 0, none⟩ = some (.bool r2.di) := blk_cell hS_.2 0
    have hx_1 : w'.cell? ⟨H, 1, none⟩ = some (.bool r2.ru) := blk_cell hS_.2 1
    have hx_2 : w'.cell? ⟨H, 2, none⟩ = some (.int .i64 r2.co) := blk_cell hS_.2 2
    have hx_3 : w'.cell? ⟨H, 3, none⟩ = some (.int .i64 r2.er) := blk_cell hS_.2 3
    have hx_4 : w'.cell? ⟨H, 4, none⟩ = some (.int .u32 r2.nr) := blk_cell hS_.2 4
    have hx_5 : w'.cell? ⟨H, 5, none⟩ = some (.int .u32 r2.ar) := blk_cell hS_.2 5
    go_simp
    with_reducible rfl
  rotate_left
  · (try simp only [Act.put, List.setIfInBounds_toArray, List.set_cons_zero, List.set_cons_succ])
    rfl
  refine one_ (i := 3) (N := none) #[true, true, true, true, false, false] rfl rfl (one_of HT_.out (by kernel_rfl)) (by decide) (fun K hK => ?_)
  refine store27_ (by rfl) rfl (.tmp 4) (.tmp 75) rfl r1.ac r1.co r1.er r1.nr r1.ar r1.op r1.bl r1.pe A1 m c1 Y (by rfl) (by rfl) hHeld.1 ?_
  intro W5 hy5 hf5 hs5 hb5
  have hh5 := (hf5 H nHY).trans hHeld.2
  have HR6 := Aside0.mk (Kd.R_step HR5.out (fun k hk _ => hf5 k hk.1))
  have HB6 := Aside0.mk (HB5.out.trans (hb5 w.heap.size hnY))
  clear HR5 HB5 hf5 hs5 hb5 hHeld
  refine hK.out _ _ ⟨hy5, hh5⟩ (fun hHeld => ?_)
  clear hK K hy5 hh5
  refine one_ (i := 4) (N := none) #[true, true, true, true, true, false] rfl rfl (one_of HT_.out (by kernel_rfl)) (by decide) (fun K hK => ?_)
  refine store33_ (by rfl) rfl (.tmp 5) (.tmp 76) rfl r2.co r2.er r2.nr r2.ar r2.di r2.ru H (by rfl) (by rfl) hHeld.2 ?_
  intro W6 hy5 hf5 hs5 hb5
  have hh5 := (hf5 Y nYH).trans hHeld.1
  have HR7 := Aside0.mk (Kd.R_mono (ok' := fun _ => True) (Kd.R_step HR6.out (fun k hk _ => hf5 k hk.2)) (fun _ _ => trivial))
  have HB7 := Aside0.mk (HB6.out.trans (hb5 w.heap.size hnH))
  clear HR6 HB6 hf5 hs5 hb5 hHeld
  have HY7 := Aside0.mk hh5
  have HH7 := Aside0.mk hy5
  refine hK.out _ _ ⟨hh5, hy5⟩ (fun hHeld => ?_)
  clear hK K hy5 hh5
  refine pure_ (i := 5) (N := some 6) (v := ?_) (a' := ?_) #[true, true, true, true, true, true] rfl rfl (any_of HT_.out (by kernel_rfl)) (fun _ _ _ h => h) (Or.inl ⟨by rfl, ?_⟩) ?_ ?_
  rotate_left
  · intro w'
    go_simp
    with_reducible rfl
  rotate_left
  · (try simp only [Act.put, List.setIfInBounds_toArray, List.set_cons_zero, List.set_cons_succ])
    rfl
  refine done_ (done_of HT_.out (by kernel_rfl)) ?_
  clear HT_ HW_ hHeld
  go_wp2
  refine bodyPost_ret (results_list (rs := [.cell 4 27, .cell 5 33, .tmp 6]) rfl (by simp) (.cell Y 27 #[.int .i64 r1.ac, .bool r1.op, .bool r1.bl, .bool r1.pe, .int .i64 r1.co, .int .i64 r1.er, .int .u32 r1.nr, .int .u32 r1.ar, .slice A1 m c1] (0, 0) _ rfl HY7.out Try.underlying27 rfl (by kernel_rfl) (.cell H 33 #[.bool r2.di, .bool r2.ru, .int .i64 r2.co, .int .i64 r2.er, .int .u32 r2.nr, .int .u32 r2.ar] (0, 0) _ rfl HH7.out Try.underlying33 rfl (by kernel_rfl) (.tmp .nil)))) rfl ?_
  exact ⟨.slice A1 m c1, rfl, HR7.out, HB7.out⟩
set_option maxHeartbeats 2000000 in
set_option maxRecDepth 100000 in
theorem run_6 (kd a : Int) (f : Bool) (co er nr ar : Int) (s : Sg) (q : Int) (hq : (IntKind.u64.wrap kd).tmod 10 = q) (hq0 : q = 6) (A : Option Addr) (c : Nat) (w : World) (hr0 : Kd.C Kd.bool w A s.l.length s.l) (hc0 : s.l.length ≤ c) :
    Calls Try.prog 15 #[.agg #[.int .i64 kd, .int .i64 a, .bool f, .int .i64 co, .int .i64 er, .int .u32 nr, .int .u32 ar], .agg #[.int .i64 s.ac, .bool s.op, .bool s.bl, .bool s.pe, .int .i64 s.co, .int .i64 s.er, .int .u32 s.nr, .int .u32 s.ar, .slice A s.l.length c]] w (Outs (s.opD q a f co er nr ar) w) := by
  subst hq0
  obtain ⟨r, hr⟩ : ∃ r, r = s.withV s.retD := ⟨_, rfl⟩
  have HRV := Aside0.mk hr
  clear hr
  rw [show s.opD 6 a f co er nr ar = r from by rw [HRV.out]; simp [Sg.opD]]
  have HR0 := Aside0.mk hr0
  have HC0 := Aside0.mk hc0
  clear hr0 hc0
  go_enter Try.func15, Try.ntmps15
  go_wp2_with fail
  refine (return_c s A c _ (Kd.C_alloc (Kd.C_alloc (Kd.C_alloc (Kd.C_alloc HR0.out _) _) _) _) HC0.out).mono ?_
  rw [← HRV.out]
  rintro e w1 ⟨v1, rfl, hR, hB⟩
  have HY : Aside0 (w1.heap[w.heap.size + 1 + 1]? = some (.cells #[.int .i64 0, .bool false, .bool false, .bool false, .int .i64 0, .int .i64 0, .int .u32 0, .int .u32 0, .slice none 0 0] 27 (0, 0))) := ⟨by refine (hB.block _ (by simp only [World.size_alloc]; omega)).trans ?_; (repeat (with_reducible first | exact heap_new_at _ _ _ (by simp) | refine blk_alloc ?_ _))⟩
  have HH : Aside0 (w1.heap[w.heap.size + 1 + 1 + 1]? = some (.cells #[.bool false, .bool false, .int .i64 0, .int .i64 0, .int .u32 0, .int .u32 0] 33 (0, 0))) := ⟨by refine (hB.block _ (by simp only [World.size_alloc]; omega)).trans ?_; (repeat (with_reducible first | exact heap_new_at _ _ _ (by simp) | refine blk_alloc ?_ _))⟩
  have HB : Aside0 (Below w.heap.size w w1) := ⟨(below_alloc (below_alloc (below_alloc (below_alloc (Below.refl _ _) _) _) _) _).trans (hB.mono (by simp only [World.size_alloc]; omega))⟩
  have HR : Aside0 (Kd.R Kd.bool 4 w1 w.heap.size (fun k => k ≠ w.heap.size + 1 + 1 ∧ k ≠ w.heap.size + 1 + 1 + 1) v1 r.1.l) := ⟨Kd.R_lower (Kd.R_mono (Kd.R_bound hR) (fun k hk => by have := hk.2.1; simp only [World.size_alloc] at this; omega)) (by simp only [World.size_alloc]; omega)⟩
  clear hR hB HRV HR0 HC0
  obtain ⟨r1, r2, r3⟩ := r
  dsimp only [nohit] at HR ⊢
  obtain ⟨A1, c1, rfl⟩ := Kd.R_slice HR.out
  obtain ⟨m, hm⟩ : ∃ m, m = r1.l.length := ⟨_, rfl⟩
  rw [← hm] at HR ⊢
  clear hm
  obtain ⟨Y, hYe⟩ : ∃ Y, Y = w.heap.size + 1 + 1 := ⟨_, rfl⟩
  rw [← hYe] at HY HH HR ⊢
  obtain ⟨H, hHe⟩ : ∃ H, H = Y + 1 := ⟨_, rfl⟩
  rw [← hHe] at HH HR ⊢
  have hnY : w.heap.size ≤ Y := by omega
  have nYH : Y ≠ H := by omega
  have nHY : H ≠ Y := by omega
  have hnH : w.heap.size ≤ H := by omega
  clear hYe hHe
  have hltY := blk_lt HY.out
  have hltH := blk_lt HH.out
  have hs1 := HB.out.size
  have hcy0 : w1.cell? ⟨Y, 0, none⟩ = some (.int .i64 0) := blk_cell HY.out 0
  have hfy0 : w1.frozen? ⟨Y, 0, none⟩ = false := blk_frozen HY.out 0
  have hcy1 : w1.cell? ⟨Y, 1, none⟩ = some (.bool false) := blk_cell HY.out 1
  have hfy1 : w1.frozen? ⟨Y, 1, none⟩ = false := blk_frozen HY.out 1
  have hcy2 : w1.cell? ⟨Y, 2, none⟩ = some (.bool false) := blk_cell HY.out 2
  have hfy2 : w1.frozen? ⟨Y, 2, none⟩ = false := blk_frozen HY.out 2
  have hcy3 : w1.cell? ⟨Y, 3, none⟩ = some (.bool false) := blk_cell HY.out 3
  have hfy3 : w1.frozen? ⟨Y, 3, none⟩ = false := blk_frozen HY.out 3
  have hcy4 : w1.cell? ⟨Y, 4, none⟩ = some (.int .i64 0) := blk_cell HY.out 4
  have hfy4 : w1.frozen? ⟨Y, 4, none⟩ = false := blk_frozen HY.out 4
  have hcy5 : w1.cell? ⟨Y, 5, none⟩ = some (.int .i64 0) := blk_cell HY.out 5
  have hfy5 : w1.frozen? ⟨Y, 5, none⟩ = false := blk_frozen HY.out 5
  have hcy6 : w1.cell? ⟨Y, 6, none⟩ = some (.int .u32 0) := blk_cell HY.out 6
  have hfy6 : w1.frozen? ⟨Y, 6, none⟩ = false := blk_frozen HY.out 6
  have hcy7 : w1.cell? ⟨Y, 7, none⟩ = some (.int .u32 0) := blk_cell HY.out 7
  have hfy7 : w1.frozen? ⟨Y, 7, none⟩ = false := blk_frozen HY.out 7
  have hcy8 : w1.cell? ⟨Y, 8, none⟩ = some (.slice none 0 0) := blk_cell HY.out 8
  have hfy8 : w1.frozen? ⟨Y, 8, none⟩ = false := blk_frozen HY.out 8
  have hcz0 : w1.cell? ⟨H, 0, none⟩ = some (.bool false) := blk_cell HH.out 0
  have hfz0 : w1.frozen? ⟨H, 0, none⟩ = false := blk_frozen HH.out 0
  have hcz1 : w1.cell? ⟨H, 1, none⟩ = some (.bool false) := blk_cell HH.out 1
  have hfz1 : w1.frozen? ⟨H, 1, none⟩ = false := blk_frozen HH.out 1
  have hcz2 : w1.cell? ⟨H, 2, none⟩ = some (.int .i64 0) := blk_cell HH.out 2
  have hfz2 : w1.frozen? ⟨H, 2, none⟩ = false := blk_frozen HH.out 2
  have hcz3 : w1.cell? ⟨H, 3, none⟩ = some (.int .i64 0) := blk_cell HH.out 3
  have hfz3 : w1.frozen? ⟨H, 3, none⟩ = false := blk_frozen HH.out 3
  have hcz4 : w1.cell? ⟨H, 4, none⟩ = some (.int .u32 0) := blk_cell HH.out 4
  have hfz4 : w1.frozen? ⟨H, 4, none⟩ = false := blk_frozen HH.out 4
  have hcz5 : w1.cell? ⟨H, 5, none⟩ = some (.int .u32 0) := blk_cell HH.out 5
  have hfz5 : w1.frozen? ⟨H, 5, none⟩ = false := blk_frozen HH.out 5
  go_upto_region 18 with fail
  clear hcy0 hfy0 hcy1 hfy1 hcy2 hfy2 hcy3 hfy3 hcy4 hfy4 hcy5 hfy5 hcy6 hfy6 hcy7 hfy7 hcy8 hfy8 hcz0 hfz0 hcz1 hfz1 hcz2 hfz2 hcz3 hfz3 hcz4 hfz4 hcz5 hfz5
  have HS5 : Aside0 (St (fun k => k = Y ∨ k = H) w.heap.size w1 ((((((((((((((((w1.setCell ⟨Y, 0, none⟩ (.int .i64 r1.ac)).setCell ⟨Y, 1, none⟩ (.bool r1.op)).setCell ⟨Y, 2, none⟩ (.bool r1.bl)).setCell ⟨Y, 3, none⟩ (.bool r1.pe)).setCell ⟨Y, 4, none⟩ (.int .i64 r1.co)).setCell ⟨Y, 5, none⟩ (.int .i64 r1.er)).setCell ⟨Y, 6, none⟩ (.int .u32 r1.nr)).setCell ⟨Y, 7, none⟩ (.int .u32 r1.ar)).setCell ⟨Y, 8, none⟩ (.slice A1 m c1)).setCell ⟨H, 0, none⟩ (.bool r2.di)).setCell ⟨H, 1, none⟩ (.bool r2.ru)).setCell ⟨H, 2, none⟩ (.int .i64 r2.co)).setCell ⟨H, 3, none⟩ (.int .i64 r2.er)).setCell ⟨H, 4, none⟩ (.int .u32 r2.nr)).setCell ⟨H, 5, none⟩ (.int .u32 r2.ar)))) := ⟨by (repeat (with_reducible first | exact St.rfl' _ _ _ | refine St.set ?_ (by omega) (by first | exact Or.inl rfl | exact Or.inl (Or.inl rfl) | exact Or.inl (Or.inr rfl) | (right; omega)) _ _ | refine St.drewN ?_ _ | refine St.drew ?_ | refine St.alloc ?_ (by omega) _))⟩
  have HY5 := Aside0.mk (blk_drew (far6 (put9 HY.out (.int .i64 r1.ac) (.bool r1.op) (.bool r1.bl) (.bool r1.pe) (.int .i64 r1.co) (.int .i64 r1.er) (.int .u32 r1.nr) (.int .u32 r1.ar) (.slice A1 m c1)) nYH (.bool r2.di) (.bool r2.ru) (.int .i64 r2.co) (.int .i64 r2.er) (.int .u32 r2.nr) (.int .u32 r2.ar)))
  have HH5 := Aside0.mk (blk_drew (put6 (far9 HH.out nHY (.int .i64 r1.ac) (.bool r1.op) (.bool r1.bl) (.bool r1.pe) (.int .i64 r1.co) (.int .i64 r1.er) (.int .u32 r1.nr) (.int .u32 r1.ar) (.slice A1 m c1)) (.bool r2.di) (.bool r2.ru) (.int .i64 r2.co) (.int .i64 r2.er) (.int .u32 r2.nr) (.int .u32 r2.ar)))
  have HR5 := Aside0.mk (Kd.R_drew (Kd.R_step HR.out (fun k hk hl => HS5.out.2.2 k (fun q => q.elim hk.1 hk.2) hl)))
  have HB5 := Aside0.mk (below_drew' (HB.out.trans HS5.out.1))
  clear HS5 HY HH HR HB
  refine start_ (n := 6) (S := fun w' => w'.heap[Y]? = some (.cells #[.int .i64 r1.ac, .bool r1.op, .bool r1.bl, .bool r1.pe, .int .i64 r1.co, .int .i64 r1.er, .int .u32 r1.nr, .int .u32 r1.ar, .slice A1 m c1] 27 (0, 0)) ∧ w'.heap[H]? = some (.cells #[.bool r2.di, .bool r2.ru, .int .i64 r2.co, .int .i64 r2.er, .int .u32 r2.nr, .int .u32 r2.ar] 33 (0, 0))) (ds := []) #[false, false, false, false, false, false] (by kernel_rfl) rfl rfl (⟨HY5.out, HH5.out⟩) (fun hHeld => ?_); refine with_tabW run18.tab18 run18.bits18 (fun HT_ HW_ => ?_)
  generalize World.drew _ = W4 at hHeld HY5 HH5 HR5 HB5 ⊢
  refine pure_ (i := 2) (N := some 77) (v := ?_) (a' := ?_) #[false, false, true, false, false, false] rfl rfl (any_of HT_.out (by kernel_rfl)) (fun _ _ _ h => h) (Or.inl ⟨by rfl, ?_⟩) ?_ ?_
  rotate_left
  · intro w'
    go_simp
    with_reducible rfl
  rotate_left
  · (try simp only [Act.put, List.setIfInBounds_toArray, List.set_cons_zero, List.set_cons_succ])
    rfl
  refine take_ (i := 0) (N := some 75) (v := ?_) (a' := ?_) #[true, false, true, false, false, false] rfl rfl (take_ofW HT_.out HW_.out (by kernel_rfl)) (fun _ _ _ h => h) (Or.inl ⟨by rfl, ?_⟩) hHeld ?_ ?_
  rotate_left
  · intro w' hS_
    have hx_0 : w'.cell? ⟨Y, 0, none⟩ = some (.int .i64 r1.ac) := blk_cell hS_.1 0
    have hx_1 : w'.cell? ⟨Y, 1, none⟩ = some (.bool r1.op) := blk_cell hS_.1 1
    have hx_2 : w'.cell? ⟨Y, 2, none⟩ = some (.bool r1.bl) := blk_cell hS_.1 2
    have hx_3 : w'.cell? ⟨Y, 3, none⟩ = some (.bool r1.pe) := blk_cell hS_.1 3
    have hx_4 : w'.cell? ⟨Y, 4, none⟩ = some (.int .i64 r1.co) := blk_cell hS_.1 4
    have hx_5 : w'.cell? ⟨Y, 5, none⟩ = some (.int .i64 r1.er) := blk_cell hS_.1 5
    have hx_6 : w'.cell? ⟨Y, 6, none⟩ = some (.int .u32 r1.nr) := blk_cell hS_.1 6
    have hx_7 : w'.cell? ⟨Y, 7, none⟩ = some (.int .u32 r1.ar) := blk_cell hS_.1 7
    have hx_8 : w'.cell? ⟨Y, 8, none⟩ = some (.slice A1 m c1) := blk_cell hS_.1 8
    go_simp
    with_reducible rfl
  rotate_left
  · (try simp only [Act.put, List.setIfInBounds_toArray, List.set_cons_zero, List.set_cons_succ])
    rfl
  refine take_ (i := 1) (N := some 76) (v := ?_) (a' := ?_) #[true, true, true, false, false, false] rfl rfl (take_ofW HT_.out HW_.out (by kernel_rfl)) (fun _ _ _ h => h) (Or.inl ⟨by rfl, ?_⟩) hHeld ?_ ?_
  rotate_left
  · intro w' hS_
    have hx_0 : w'.cell? ⟨H, 0, none⟩ = some (.bool r2.di) := blk_cell hS_.2 0
    have hx_1 : w'.cell? ⟨H, 1, none⟩ = some (.bool r2.ru) := blk_cell hS_.2 1
    have hx_2 : w'.cell? ⟨H, 2, none⟩ = some (.int .i64 r2.co) := blk_cell hS_.2 2
    have hx_3 : w'.cell? ⟨H, 3, none⟩ = some (.int .i64 r2.er) := blk_cell hS_.2 3
    have hx_4 : w'.cell? ⟨H, 4, none⟩ = some (.int .u32 r2.nr) := blk_cell hS_.2 4
    have hx_5 : w'.cell? ⟨H, 5, none⟩ = some (.int .u32 r2.ar) := blk_cell hS_.2 5
    go_simp
    with_reducible rfl
  rotate_left
  · (try simp only [Act.put, List.setIfInBounds_toArray, List.set_cons_zero, List.set_cons_succ])
    rfl
  refine one_ (i := 3) (N := none) #[true, true, true, true, false, false] rfl rfl (one_of HT_.out (by kernel_rfl)) (by decide) (fun K hK => ?_)
  refine store27_ (by rfl) rfl (.tmp 4) (.tmp 75) rfl r1.ac r1.co r1.er r1.nr r1.ar r1.op r1.bl r1.pe A1 m c1 Y (by rfl) (by rfl) hHeld.1 ?_
  intro W5 hy5 hf5 hs5 hb5
  have hh5 := (hf5 H nHY).trans hHeld.2
  have HR6 := Aside0.mk (Kd.R_step HR5.out (fun k hk _ => hf5 k hk.1))
  have HB6 := Aside0.mk (HB5.out.trans (hb5 w.heap.size hnY))
  clear HR5 HB5 hf5 hs5 hb5 hHeld
  refine hK.out _ _ ⟨hy5, hh5⟩ (fun hHeld => ?_)
  clear hK K hy5 hh5
  refine one_ (i := 4) (N := none) #[true, true, true, true, true, false] rfl rfl (one_of HT_.out (by kernel_rfl)) (by decide) (fun K hK => ?_)
  refine store33_ (by rfl) rfl (.tmp 5) (.tmp 76) rfl r2.co r2.er r2.nr r2.ar r2.di r2.ru H (by rfl) (by rfl) hHeld.2 ?_
  intro W6 hy5 hf5 hs5 hb5
  have hh5 := (hf5 Y nYH).trans hHeld.1
  have HR7 := Aside0.mk (Kd.R_mono (ok' := fun _ => True) (Kd.R_step HR6.out (fun k hk _ => hf5 k hk.2)) (fun _ _ => trivial))
  have HB7 := Aside0.mk (HB6.out.trans (hb5 w.heap.size hnH))
  clear HR6 HB6 hf5 hs5 hb5 hHeld
  have HY7 := Aside0.mk hh5
  have HH7 := Aside0.mk hy5
  refine hK.out _ _ ⟨hh5, hy5⟩ (fun hHeld => ?_)
  clear hK K hy5 hh5
  refine pure_ (i := 5) (N := some 6) (v := ?_) (a' := ?_) #[true, true, true, true, true, true] rfl rfl (any_of HT_.out (by kernel_rfl)) (fun _ _ _ h => h) (Or.inl ⟨by rfl, ?_⟩) ?_ ?_
  rotate_left
  · intro w'
    go_simp
    with_reducible rfl
  rotate_left
  · (try simp only [Act.put, List.setIfInBounds_toArray, List.set_cons_zero, List.set_cons_succ])
    rfl
  refine done_ (done_of HT_.out (by kernel_rfl)) ?_
  clear HT_ HW_ hHeld
  go_wp2
  refine bodyPost_ret (results_list (rs := [.cell 4 27, .cell 5 33, .tmp 6]) rfl (by simp) (.cell Y 27 #[.int .i64 r1.ac, .bool r1.op, .bool r1.bl, .bool r1.pe, .int .i64 r1.co, .int .i64 r1.er, .int .u32 r1.nr, .int .u32 r1.ar, .slice A1 m c1] (0, 0) _ rfl HY7.out Try.underlying27 rfl (by kernel_rfl) (.cell H 33 #[.bool r2.di, .bool r2.ru, .int .i64 r2.co, .int .i64 r2.er, .int .u32 r2.nr, .int .u32 r2.ar] (0, 0) _ rfl HH7.out Try.underlying33 rfl (by kernel_rfl) (.tmp .nil)))) rfl ?_
  exact ⟨.slice A1 m c1, rfl, HR7.out, HB7.out⟩
set_option maxHeartbeats 2000000 in
set_option maxRecDepth 100000 in
theorem run_7 (kd a : Int) (f : Bool) (co er nr ar : Int) (s : Sg) (q : Int) (hq : (IntKind.u64.wrap kd).tmod 10 = q) (hq0 : q = 7) (A : Option Addr) (c : Nat) (w : World) (hr0 : Kd.C Kd.bool w A s.l.length s.l) (hc0 : s.l.length ≤ c) :
    Calls Try.prog 15 #[.agg #[.int .i64 kd, .int .i64 a, .bool f, .int .i64 co, .int .i64 er, .int .u32 nr, .int .u32 ar], .agg #[.int .i64 s.ac, .bool s.op, .bool s.bl, .bool s.pe, .int .i64 s.co, .int .i64 s.er, .int .u32 s.nr, .int .u32 s.ar, .slice A s.l.length c]] w (Outs (s.opD q a f co er nr ar) w) := by
  subst hq0
  obtain ⟨r, hr⟩ : ∃ r, r = s.withV s.retD := ⟨_, rfl⟩
  have HRV := Aside0.mk hr
  clear hr
  rw [show s.opD 7 a f co er nr ar = r from by rw [HRV.out]; simp [Sg.opD]]
  have HR0 := Aside0.mk hr0
  have HC0 := Aside0.mk hc0
  clear hr0 hc0
  go_enter Try.func15, Try.ntmps15
  go_wp2_with fail
  refine (return_c s A c _ (Kd.C_alloc (Kd.C_alloc (Kd.C_alloc (Kd.C_alloc HR0.out _) _) _) _) HC0.out).mono ?_
  rw [← HRV.out]
  rintro e w1 ⟨v1, rfl, hR, hB⟩
  have HY : Aside0 (w1.heap[w.heap.size + 1 + 1]? = some (.cells #[.int .i64 0, .bool false, .bool false, .bool false, .int .i64 0, .int .i64 0, .int .u32 0, .int .u32 0, .slice none 0 0] 27 (0, 0))) := ⟨by refine (hB.block _ (by simp only [World.size_alloc]; omega)).trans ?_; (repeat (with_reducible first | exact heap_new_at _ _ _ (by simp) | refine blk_alloc ?_ _))⟩
  have HH : Aside0 (w1.heap[w.heap.size + 1 + 1 + 1]? = some (.cells #[.bool false, .bool false, .int .i64 0, .int .i64 0, .int .u32 0, .int .u32 0] 33 (0, 0))) := ⟨by refine (hB.block _ (by simp only [World.size_alloc]; omega)).trans ?_; (repeat (with_reducible first | exact heap_new_at _ _ _ (by simp) | refine blk_alloc ?_ _))⟩
  have HB : Aside0 (Below w.heap.size w w1) := ⟨(below_alloc (below_alloc (below_alloc (below_alloc (Below.refl _ _) _) _) _) _).trans (hB.mono (by simp only [World.size_alloc]; omega))⟩
  have HR : Aside0 (Kd.R Kd.bool 4 w1 w.heap.size (fun k => k ≠ w.heap.size + 1 + 1 ∧ k ≠ w.heap.size + 1 + 1 + 1) v1 r.1.l) := ⟨Kd.R_lower (Kd.R_mono (Kd.R_bound hR) (fun k hk => by have := hk.2.1; simp only [World.size_alloc] at this; omega)) (by simp only [World.size_alloc]; omega)⟩
  clear hR hB HRV HR0 HC0
  obtain ⟨r1, r2, r3⟩ := r
  dsimp only [nohit] at HR ⊢
  obtain ⟨A1, c1, rfl⟩ := Kd.R_slice HR.out
  obtain ⟨m, hm⟩ : ∃ m, m = r1.l.length := ⟨_, rfl⟩
  rw [← hm] at HR ⊢
  clear hm
  obtain ⟨Y, hYe⟩ : ∃ Y, Y = w.heap.size + 1 + 1 := ⟨_, rfl⟩
  rw [← hYe] at HY HH HR ⊢
  obtain ⟨H, hHe⟩ : ∃ H, H = Y + 1 := ⟨_, rfl⟩
  rw [← hHe] at HH HR ⊢
  have hnY : w.heap.size ≤ Y := by omega
  have nYH : Y ≠ H := by omega
  have nHY : H ≠ Y := by omega
  have hnH : w.heap.size ≤ H := by omega
  clear hYe hHe
  have hltY := blk_lt HY.out
  have hltH := blk_lt HH.out
  have hs1 := HB.out.size
  have hcy0 : w1.cell? ⟨Y, 0, none⟩ = some (.int .i64 0) := blk_cell HY.out 0
  have hfy0 : w1.frozen? ⟨Y, 0, none⟩ = false := blk_frozen HY.out 0
  have hcy1 : w1.cell? ⟨Y, 1, none⟩ = some (.bool false) := blk_cell HY.out 1
  have hfy1 : w1.frozen? ⟨Y, 1, none⟩ = false := blk_frozen HY.out 1
  have hcy2 : w1.cell? ⟨Y, 2, none⟩ = some (.bool false) := blk_cell HY.out 2
  have hfy2 : w1.frozen? ⟨Y, 2, none⟩ = false := blk_frozen HY.out 2
  have hcy3 : w1.cell? ⟨Y, 3, none⟩ = some (.bool false) := blk_cell HY.out 3
  have hfy3 : w1.frozen? ⟨Y, 3, none⟩ = false := blk_frozen HY.out 3
  have hcy4 : w1.cell? ⟨Y, 4, none⟩ = some (.int .i64 0) := blk_cell HY.out 4
  have hfy4 : w1.frozen? ⟨Y, 4, none⟩ = false := blk_frozen HY.out 4
  have hcy5 : w1.cell? ⟨Y, 5, none⟩ = some (.int .i64 0) := blk_cell HY.out 5
  have hfy5 : w1.frozen? ⟨Y, 5, none⟩ = false := blk_frozen HY.out 5
  have hcy6 : w1.cell? ⟨Y, 6, none⟩ = some (.int .u32 0) := blk_cell HY.out 6
  have hfy6 : w1.frozen? ⟨Y, 6, none⟩ = false := blk_frozen HY.out 6
  have hcy7 : w1.cell? ⟨Y, 7, none⟩ = some (.int .u32 0) := blk_cell HY.out 7
  have hfy7 : w1.frozen? ⟨Y, 7, none⟩ = false := blk_frozen HY.out 7
  have hcy8 : w1.cell? ⟨Y, 8, none⟩ = some (.slice none 0 0) := blk_cell HY.out 8
  have hfy8 : w1.frozen? ⟨Y, 8, none⟩ = false := blk_frozen HY.out 8
  have hcz0 : w1.cell? ⟨H, 0, none⟩ = some (.bool false) := blk_cell HH.out 0
  have hfz0 : w1.frozen? ⟨H, 0, none⟩ = false := blk_frozen HH.out 0
  have hcz1 : w1.cell? ⟨H, 1, none⟩ = some (.bool false) := blk_cell HH.out 1
  have hfz1 : w1.frozen? ⟨H, 1, none⟩ = false := blk_frozen HH.out 1
  have hcz2 : w1.cell? ⟨H, 2, none⟩ = some (.int .i64 0) := blk_cell HH.out 2
  have hfz2 : w1.frozen? ⟨H, 2, none⟩ = false := blk_frozen HH.out 2
  have hcz3 : w1.cell? ⟨H, 3, none⟩ = some (.int .i64 0) := blk_cell HH.out 3
  have hfz3 : w1.frozen? ⟨H, 3, none⟩ = false := blk_frozen HH.out 3
  have hcz4 : w1.cell? ⟨H, 4, none⟩ = some (.int .u32 0) := blk_cell HH.out 4
  have hfz4 : w1.frozen? ⟨H, 4, none⟩ = false := blk_frozen HH.out 4
  have hcz5 : w1.cell? ⟨H, 5, none⟩ = some (.int .u32 0) := blk_cell HH.out 5
  have hfz5 : w1.frozen? ⟨H, 5, none⟩ = false := blk_frozen HH.out 5
  go_upto_region 18 with fail
  clear hcy0 hfy0 hcy1 hfy1 hcy2 hfy2 hcy3 hfy3 hcy4 hfy4 hcy5 hfy5 hcy6 hfy6 hcy7 hfy7 hcy8 hfy8 hcz0 hfz0 hcz1 hfz1 hcz2 hfz2 hcz3 hfz3 hcz4 hfz4 hcz5 hfz5
  have HS5 : Aside0 (St (fun k => k = Y ∨ k = H) w.heap.size w1 ((((((((((((((((w1.setCell ⟨Y, 0, none⟩ (.int .i64 r1.ac)).setCell ⟨Y, 1, none⟩ (.bool r1.op)).setCell ⟨Y, 2, none⟩ (.bool r1.bl)).setCell ⟨Y, 3, none⟩ (.bool r1.pe)).setCell ⟨Y, 4, none⟩ (.int .i64 r1.co)).setCell ⟨Y, 5, none⟩ (.int .i64 r1.er)).setCell ⟨Y, 6, none⟩ (.int .u32 r1.nr)).setCell ⟨Y, 7, none⟩ (.int .u32 r1.ar)).setCell ⟨Y, 8, none⟩ (.slice A1 m c1)).setCell ⟨H, 0, none⟩ (.bool r2.di)).setCell ⟨H, 1, none⟩ (.bool r2.ru)).setCell ⟨H, 2, none⟩ (.int .i64 r2.co)).setCell ⟨H, 3, none⟩ (.int .i64 r2.er)).setCell ⟨H, 4, none⟩ (.int .u32 r2.nr)).setCell ⟨H, 5, none⟩ (.int .u32 r2.ar)))) := ⟨by (repeat (with_reducible first | exact St.rfl' _ _ _ | refine St.set ?_ (by omega) (by first | exact Or.inl rfl | exact Or.inl (Or.inl rfl) | exact Or.inl (Or.inr rfl) | (right; omega)) _ _ | refine St.drewN ?_ _ | refine St.drew ?_ | refine St.alloc ?_ (by omega) _))⟩
  have HY5 := Aside0.mk (blk_drew (far6 (put9 HY.out (.int .i64 r1.ac) (.bool r1.op) (.bool r1.bl) (.bool r1.pe) (.int .i64 r1.co) (.int .i64 r1.er) (.int .u32 r1.nr) (.int .u32 r1.ar) (.slice A1 m c1)) nYH (.bool r2.di) (.bool r2.ru) (.int .i64 r2.co) (.int .i64 r2.er) (.int .u32 r2.nr) (.int .u32 r2.ar)))
  have HH5 := Aside0.mk (blk_drew (put6 (far9 HH.out nHY (.int .i64 r1.ac) (.bool r1.op) (.bool r1.bl) (.bool r1.pe) (.int .i64 r1.co) (.int .i64 r1.er) (.int .u32 r1.nr) (.int .u32 r1.ar) (.slice A1 m c1)) (.bool r2.di) (.bool r2.ru) (.int .i64 r2.co) (.int .i64 r2.er) (.int .u32 r2.nr) (.int .u32 r2.ar)))
  have HR5 := Aside0.mk (Kd.R_drew (Kd.R_step HR.out (fun k hk hl => HS5.out.2.2 k (fun q => q.elim hk.1 hk.2) hl)))
  have HB5 := Aside0.mk (below_drew' (HB.out.trans HS5.out.1))
  clear HS5 HY HH HR HB
  refine start_ (n := 6) (S := fun w' => w'.heap[Y]? = some (.cells #[.int .i64 r1.ac, .bool r1.op, .bool r1.bl, .bool r1.pe, .int .i64 r1.co, .int .i64 r1.er, .int .u32 r1.nr, .int .u32 r1.ar, .slice A1 m c1] 27 (0, 0)) ∧ w'.heap[H]? = some (.cells #[.bool r2.di, .bool r2.ru, .int .i64 r2.co, .int .i64 r2.er, .int .u32 r2.nr, .int .u32 r2.ar] 33 (0, 0))) (ds := []) #[false, false, false, false, false, false] (by kernel_rfl) rfl rfl (⟨HY5.out, HH5.out⟩) (fun hHeld => ?_); refine with_tabW run18.tab18 run18.bits18 (fun HT_ HW_ => ?_)
  generalize World.drew _ = W4 at hHeld HY5 HH5 HR5 HB5 ⊢
  refine pure_ (i := 2) (N := some 77) (v := ?_) (a' := ?_) #[false, false, true, false, false, false] rfl rfl (any_of HT_.out (by kernel_rfl)) (fun _ _ _ h => h) (Or.inl ⟨by rfl, ?_⟩) ?_ ?_
  rotate_left
  · intro w'
    go_simp
    with_reducible rfl
  rotate_left
  · (try simp only [Act.put, List.setIfInBounds_toArray, List.set_cons_zero, List.set_cons_succ])
    rfl
  refine take_ (i := 0) (N := some 75) (v := ?_) (a' := ?_) #[true, false, true, false, false, false] rfl rfl (take_ofW HT_.out HW_.out (by kernel_rfl)) (fun _ _ _ h => h) (Or.inl ⟨by rfl, ?_⟩) hHeld ?_ ?_
  rotate_left
  · intro w' hS_
    have hx_0 : w'.cell? ⟨Y, 0, none⟩ = some (.int .i64 r1.ac) := blk_cell hS_.1 0
    have hx_1 : w'.cell? ⟨Y, 1, none⟩ = some (.bool r1.op) := blk_cell hS_.1 1
    have hx_2 : w'.cell? ⟨Y, 2, none⟩ = some (.bool r1.bl) := blk_cell hS_.1 2
    have hx_3 : w'.cell? ⟨Y, 3, none⟩ = some (.bool r1.pe) := blk_cell hS_.1 3
    have hx_4 : w'.cell? ⟨Y, 4, none⟩ = some (.int .i64 r1.co) := blk_cell hS_.1 4
    have hx_5 : w'.cell? ⟨Y, 5, none⟩ = some (.int .i64 r1.er) := blk_cell hS_.1 5
    have hx_6 : w'.cell? ⟨Y, 6, none⟩ = some (.int .u32 r1.nr) := blk_cell hS_.1 6
    have hx_7 : w'.cell? ⟨Y, 7, none⟩ = some (.int .u32 r1.ar) := blk_cell hS_.1 7
    have hx_8 : w'.cell? ⟨Y, 8, none⟩ = some (.slice A1 m c1) := blk_cell hS_.1 8
    go_simp
    with_reducible rfl
  rotate_left
  · (try simp only [Act.put, List.setIfInBounds_toArray, List.set_cons_zero, List.set_cons_succ])
    rfl
  refine take_ (i := 1) (N := some 76) (v := ?_) (a' := ?_) #[true, true, true, false, false, false] rfl rfl (take_ofW HT_.out HW_.out (by kernel_rfl)) (fun _ _ _ h => h) (Or.inl ⟨by rfl, ?_⟩) hHeld ?_ ?_
  rotate_left
  · intro w' hS_
    have hx_0 : w'.cell? ⟨H, 0, none⟩ = some (.bool r2.di) := blk_cell hS_.2 0
    have hx_1 : w'.cell? ⟨H, 1, none⟩ = some (.bool r2.ru) := blk_cell hS_.2 1
    have hx_2 : w'.cell? ⟨H, 2, none⟩ = some (.int .i64 r2.co) := blk_cell hS_.2 2
    have hx_3 : w'.cell? ⟨H, 3, none⟩ = some (.int .i64 r2.er) := blk_cell hS_.2 3
    have hx_4 : w'.cell? ⟨H, 4, none⟩ = some (.int .u32 r2.nr) := blk_cell hS_.2 4
    have hx_5 : w'.cell? ⟨H, 5, none⟩ = some (.int .u32 r2.ar) := blk_cell hS_.2 5
    go_simp
    with_reducible rfl
  rotate_left
  · (try simp only [Act.put, List.setIfInBounds_toArray, List.set_cons_zero, List.set_cons_succ])
    rfl
  refine one_ (i := 3) (N := none) #[true, true, true, true, false, false] rfl rfl (one_of HT_.out (by kernel_rfl)) (by decide) (fun K hK => ?_)
  refine store27_ (by rfl) rfl (.tmp 4) (.tmp 75) rfl r1.ac r1.co r1.er r1.nr r1.ar r1.op r1.bl r1.pe A1 m c1 Y (by rfl) (by rfl) hHeld.1 ?_
  intro W5 hy5 hf5 hs5 hb5
  have hh5 := (hf5 H nHY).trans hHeld.2
  have HR6 := Aside0.mk (Kd.R_step HR5.out (fun k hk _ => hf5 k hk.1))
  have HB6 := Aside0.mk (HB5.out.trans (hb5 w.heap.size hnY))
  clear HR5 HB5 hf5 hs5 hb5 hHeld
  refine hK.out _ _ ⟨hy5, hh5⟩ (fun hHeld => ?_)
  clear hK K hy5 hh5
  refine one_ (i := 4) (N := none) #[true, true, true, true, true, false] rfl rfl (one_of HT_.out (by kernel_rfl)) (by decide) (fun K hK => ?_)
  refine store33_ (by rfl) rfl (.tmp 5) (.tmp 76) rfl r2.co r2.er r2.nr r2.ar r2.di r2.ru H (by rfl) (by rfl) hHeld.2 ?_
  intro W6 hy5 hf5 hs5 hb5
  have hh5 := (hf5 Y nYH).trans hHeld.1
  have HR7 := Aside0.mk (Kd.R_mono (ok' := fun _ => True) (Kd.R_step HR6.out (fun k hk _ => hf5 k hk.2)) (fun _ _ => trivial))
  have HB7 := Aside0.mk (HB6.out.trans (hb5 w.heap.size hnH))
  clear HR6 HB6 hf5 hs5 hb5 hHeld
  have HY7 := Aside0.mk hh5
  have HH7 := Aside0.mk hy5
  refine hK.out _ _ ⟨hh5, hy5⟩ (fun hHeld => ?_)
  clear hK K hy5 hh5
  refine pure_ (i := 5) (N := some 6) (v := ?_) (a' := ?_) #[true, true, true, true, true, true] rfl rfl (any_of HT_.out (by kernel_rfl)) (fun _ _ _ h => h) (Or.inl ⟨by rfl, ?_⟩) ?_ ?_
  rotate_left
  · intro w'
    go_simp
    with_reducible rfl
  rotate_left
  · (try simp only [Act.put, List.setIfInBounds_toArray, List.set_cons_zero, List.set_cons_succ])
    rfl
  refine done_ (done_of HT_.out (by kernel_rfl)) ?_
  clear HT_ HW_ hHeld
  go_wp2
  refine bodyPost_ret (results_list (rs := [.cell 4 27, .cell 5 33, .tmp 6]) rfl (by simp) (.cell Y 27 #[.int .i64 r1.ac, .bool r1.op, .bool r1.bl, .bool r1.pe, .int .i64 r1.co, .int .i64 r1.er, .int .u32 r1.nr, .int .u32 r1.ar, .slice A1 m c1] (0, 0) _ rfl HY7.out Try.underlying27 rfl (by kernel_rfl) (.cell H 33 #[.bool r2.di, .bool r2.ru, .int .i64 r2.co, .int .i64 r2.er, .int .u32 r2.nr, .int .u32 r2.ar] (0, 0) _ rfl HH7.out Try.underlying33 rfl (by kernel_rfl) (.tmp .nil)))) rfl ?_
  exact ⟨.slice A1 m c1, rfl, HR7.out, HB7.out⟩
set_option maxHeartbeats 2000000 in
set_option maxRecDepth 100000 in
theorem run_8 (kd a : Int) (f : Bool) (co er nr ar : Int) (s : Sg) (q : Int) (hq : (IntKind.u64.wrap kd).tmod 10 = q) (hq0 : q = 8) (A : Option Addr) (c : Nat) (w : World) (hr0 : Kd.C Kd.bool w A s.l.length s.l) (hc0 : s.l.length ≤ c) :
    Calls Try.prog 15 #[.agg #[.int .i64 kd, .int .i64 a, .bool f, .int .i64 co, .int .i64 er, .int .u32 nr, .int .u32 ar], .agg #[.int .i64 s.ac, .bool s.op, .bool s.bl, .bool s.pe, .int .i64 s.co, .int .i64 s.er, .int .u32 s.nr, .int .u32 s.ar, .slice A s.l.length c]] w (Outs (s.opD q a f co er nr ar) w) := by
  subst hq0
  obtain ⟨r, hr⟩ : ∃ r, r = s.withV s.forkD := ⟨_, rfl⟩
  have HRV := Aside0.mk hr
  clear hr
  rw [show s.opD 8 a f co er nr ar = (r.1, nohit, r.2.2) from by rw [HRV.out]; simp [Sg.opD]]
  have HR0 := Aside0.mk hr0
  have HC0 := Aside0.mk hc0
  clear hr0 hc0
  go_enter Try.func15, Try.ntmps15
  go_wp2_with fail
  refine (fork_c s A c _ (Kd.C_alloc (Kd.C_alloc (Kd.C_alloc (Kd.C_alloc HR0.out _) _) _) _) HC0.out).mono ?_
  rw [← HRV.out]
  rintro e w1 ⟨v1, rfl, hR, hB⟩
  have HY : Aside0 (w1.heap[w.heap.size + 1 + 1]? = some (.cells #[.int .i64 0, .bool false, .bool false, .bool false, .int .i64 0, .int .i64 0, .int .u32 0, .int .u32 0, .slice none 0 0] 27 (0, 0))) := ⟨by refine (hB.block _ (by simp only [World.size_alloc]; omega)).trans ?_; (repeat (with_reducible first | exact heap_new_at _ _ _ (by simp) | refine blk_alloc ?_ _))⟩
  have HH : Aside0 (w1.heap[w.heap.size + 1 + 1 + 1]? = some (.cells #[.bool false, .bool false, .int .i64 0, .int .i64 0, .int .u32 0, .int .u32 0] 33 (0, 0))) := ⟨by refine (hB.block _ (by simp only [World.size_alloc]; omega)).trans ?_; (repeat (with_reducible first | exact heap_new_at _ _ _ (by simp) | refine blk_alloc ?_ _))⟩
  have HB : Aside0 (Below w.heap.size w w1) := ⟨(below_alloc (below_alloc (below_alloc (below_alloc (Below.refl _ _) _) _) _) _).trans (hB.mono (by simp only [World.size_alloc]; omega))⟩
  have HR : Aside0 (Kd.R Kd.bool 4 w1 w.heap.size (fun k => k ≠ w.heap.size + 1 + 1 ∧ k ≠ w.heap.size + 1 + 1 + 1) v1 r.1.l) := ⟨Kd.R_lower (Kd.R_mono (Kd.R_bound hR) (fun k hk => by have := hk.2.1; simp only [World.size_alloc] at this; omega)) (by simp only [World.size_alloc]; omega)⟩
  clear hR hB HRV HR0 HC0
  obtain ⟨r1, r2, r3⟩ := r
  dsimp only [nohit] at HR ⊢
  obtain ⟨A1, c1, rfl⟩ := Kd.R_slice HR.out
  obtain ⟨m, hm⟩ : ∃ m, m = r1.l.length := ⟨_, rfl⟩
  rw [← hm] at HR ⊢
  clear hm
  obtain ⟨Y, hYe⟩ : ∃ Y, Y = w.heap.size + 1 + 1 := ⟨_, rfl⟩
  rw [← hYe] at HY HH HR ⊢
  obtain ⟨H, hHe⟩ : ∃ H, H = Y + 1 := ⟨_, rfl⟩
  rw [← hHe] at HH HR ⊢
  have hnY : w.heap.size ≤ Y := by omega
  have nYH : Y ≠ H := by omega
  have nHY : H ≠ Y := by omega
  have hnH : w.heap.size ≤ H := by omega
  clear hYe hHe
  have hltY := blk_lt HY.out
  have hltH := blk_lt HH.out
  have hs1 := HB.out.size
  have hcy0 : w1.cell? ⟨Y, 0, none⟩ = some (.int .i64 0) := blk_cell HY.out 0
  have hfy0 : w1.frozen? ⟨Y, 0, none⟩ = false := blk_frozen HY.out 0
  have hcy1 : w1.cell? ⟨Y, 1, none⟩ = some (.bool false) := blk_cell HY.out 1
  have hfy1 : w1.frozen? ⟨Y, 1, none⟩ = false := blk_frozen HY.out 1
  have hcy2 : w1.cell? ⟨Y, 2, none⟩ = some (.bool false) := blk_cell HY.out 2
  have hfy2 : w1.frozen? ⟨Y, 2, none⟩ = false := blk_frozen HY.out 2
  have hcy3 : w1.cell? ⟨Y, 3, none⟩ = some (.bool false) := blk_cell HY.out 3
  have hfy3 : w1.frozen? ⟨Y, 3, none⟩ = false := blk_frozen HY.out 3
  have hcy4 : w1.cell? ⟨Y, 4, none⟩ = some (.int .i64 0) := blk_cell HY.out 4
  have hfy4 : w1.frozen? ⟨Y, 4, none⟩ = false := blk_frozen HY.out 4
  have hcy5 : w1.cell? ⟨Y, 5, none⟩ = some (.int .i64 0) := blk_cell HY.out 5
  have hfy5 : w1.frozen? ⟨Y, 5, none⟩ = false := blk_frozen HY.out 5
  have hcy6 : w1.cell? ⟨Y, 6, none⟩ = some (.int .u32 0) := blk_cell HY.out 6
  have hfy6 : w1.frozen? ⟨Y, 6, none⟩ = false := blk_frozen HY.out 6
  have hcy7 : w1.cell? ⟨Y, 7, none⟩ = some (.int .u32 0) := blk_cell HY.out 7
  have hfy7 : w1.frozen? ⟨Y, 7, none⟩ = false := blk_frozen HY.out 7
  have hcy8 : w1.cell? ⟨Y, 8, none⟩ = some (.slice none 0 0) := blk_cell HY.out 8
  have hfy8 : w1.frozen? ⟨Y, 8, none⟩ = false := blk_frozen HY.out 8
  have hcz0 : w1.cell? ⟨H, 0, none⟩ = some (.bool false) := blk_cell HH.out 0
  have hfz0 : w1.frozen? ⟨H, 0, none⟩ = false := blk_frozen HH.out 0
  have hcz1 : w1.cell? ⟨H, 1, none⟩ = some (.bool false) := blk_cell HH.out 1
  have hfz1 : w1.frozen? ⟨H, 1, none⟩ = false := blk_frozen HH.out 1
  have hcz2 : w1.cell? ⟨H, 2, none⟩ = some (.int .i64 0) := blk_cell HH.out 2
  have hfz2 : w1.frozen? ⟨H, 2, none⟩ = false := blk_frozen HH.out 2
  have hcz3 : w1.cell? ⟨H, 3, none⟩ = some (.int .i64 0) := blk_cell HH.out 3
  have hfz3 : w1.frozen? ⟨H, 3, none⟩ = false := blk_frozen HH.out 3
  have hcz4 : w1.cell? ⟨H, 4, none⟩ = some (.int .u32 0) := blk_cell HH.out 4
  have hfz4 : w1.frozen? ⟨H, 4, none⟩ = false := blk_frozen HH.out 4
  have hcz5 : w1.cell? ⟨H, 5, none⟩ = some (.int .u32 0) := blk_cell HH.out 5
  have hfz5 : w1.frozen? ⟨H, 5, none⟩ = false := blk_frozen HH.out 5
  go_upto_region 18 with fail
  clear hcy0 hfy0 hcy1 hfy1 hcy2 hfy2 hcy3 hfy3 hcy4 hfy4 hcy5 hfy5 hcy6 hfy6 hcy7 hfy7 hcy8 hfy8 hcz0 hfz0 hcz1 hfz1 hcz2 hfz2 hcz3 hfz3 hcz4 hfz4 hcz5 hfz5
  have HS5 : Aside0 (St (fun k => k = Y ∨ k = H) w.heap.size w1 ((((((((((w1.setCell ⟨Y, 0, none⟩ (.int .i64 r1.ac)).setCell ⟨Y, 1, none⟩ (.bool r1.op)).setCell ⟨Y, 2, none⟩ (.bool r1.bl)).setCell ⟨Y, 3, none⟩ (.bool r1.pe)).setCell ⟨Y, 4, none⟩ (.int .i64 r1.co)).setCell ⟨Y, 5, none⟩ (.int .i64 r1.er)).setCell ⟨Y, 6, none⟩ (.int .u32 r1.nr)).setCell ⟨Y, 7, none⟩ (.int .u32 r1.ar)).setCell ⟨Y, 8, none⟩ (.slice A1 m c1)))) := ⟨by (repeat (with_reducible first | exact St.rfl' _ _ _ | refine St.set ?_ (by omega) (by first | exact Or.inl rfl | exact Or.inl (Or.inl rfl) | exact Or.inl (Or.inr rfl) | (right; omega)) _ _ | refine St.drewN ?_ _ | refine St.drew ?_ | refine St.alloc ?_ (by omega) _))⟩
  have HY5 := Aside0.mk (blk_drew (put9 HY.out (.int .i64 r1.ac) (.bool r1.op) (.bool r1.bl) (.bool r1.pe) (.int .i64 r1.co) (.int .i64 r1.er) (.int .u32 r1.nr) (.int .u32 r1.ar) (.slice A1 m c1)))
  have HH5 := Aside0.mk (blk_drew (far9 HH.out nHY (.int .i64 r1.ac) (.bool r1.op) (.bool r1.bl) (.bool r1.pe) (.int .i64 r1.co) (.int .i64 r1.er) (.int .u32 r1.nr) (.int .u32 r1.ar) (.slice A1 m c1)))
  have HR5 := Aside0.mk (Kd.R_drew (Kd.R_step HR.out (fun k hk hl => HS5.out.2.2 k (fun q => q.elim hk.1 hk.2) hl)))
  have HB5 := Aside0.mk (below_drew' (HB.out.trans HS5.out.1))
  clear HS5 HY HH HR HB
  refine start_ (n := 6) (S := fun w' => w'.heap[Y]? = some (.cells #[.int .i64 r1.ac, .bool r1.op, .bool r1.bl, .bool r1.pe, .int .i64 r1.co, .int .i64 r1.er, .int .u32 r1.nr, .int .u32 r1.ar, .slice A1 m c1] 27 (0, 0)) ∧ w'.heap[H]? = some (.cells #[.bool false, .bool false, .int .i64 0, .int .i64 0, .int .u32 0, .int .u32 0] 33 (0, 0))) (ds := []) #[false, false, false, false, false, false] (by kernel_rfl) rfl rfl (⟨HY5.out, HH5.out⟩) (fun hHeld => ?_); refine with_tabW run18.tab18 run18.bits18 (fun HT_ HW_ => ?_)
  generalize World.drew _ = W4 at hHeld HY5 HH5 HR5 HB5 ⊢
  refine pure_ (i := 2) (N := some 77) (v := ?_) (a' := ?_) #[false, false, true, false, false, false] rfl rfl (any_of HT_.out (by kernel_rfl)) (fun _ _ _ h => h) (Or.inl ⟨by rfl, ?_⟩) ?_ ?_
  rotate_left
  · intro w'
    go_simp
    with_reducible rfl
  rotate_left
  · (try simp only [Act.put, List.setIfInBounds_toArray, List.set_cons_zero, List.set_cons_succ])
    rfl
  refine take_ (i := 0) (N := some 75) (v := ?_) (a' := ?_) #[true, false, true, false, false, false] rfl rfl (take_ofW HT_.out HW_.out (by kernel_rfl)) (fun _ _ _ h => h) (Or.inl ⟨by rfl, ?_⟩) hHeld ?_ ?_
  rotate_left
  · intro w' hS_
    have hx_0 : w'.cell? ⟨Y, 0, none⟩ = some (.int .i64 r1.ac) := blk_cell hS_.1 0
    have hx_1 : w'.cell? ⟨Y, 1, none⟩ = some (.bool r1.op) := blk_cell hS_.1 1
    have hx_2 : w'.cell? ⟨Y, 2, none⟩ = some (.bool r1.bl) := blk_cell hS_.1 2
    have hx_3 : w'.cell? ⟨Y, 3, none⟩ = some (.bool r1.pe) := blk_cell hS_.1 3
    have hx_4 : w'.cell? ⟨Y, 4, none⟩ = some (.int .i64 r1.co) := blk_cell hS_.1 4
    have hx_5 : w'.cell? ⟨Y, 5, none⟩ = some (.int .i64 r1.er) := blk_cell hS_.1 5
    have hx_6 : w'.cell? ⟨Y, 6, none⟩ = some (.int .u32 r1.nr) := blk_cell hS_.1 6
    have hx_7 : w'.cell? ⟨Y, 7, none⟩ = some (.int .u32 r1.ar) := blk_cell hS_.1 7
    have hx_8 : w'.cell? ⟨Y, 8, none⟩ = some (.slice A1 m c1) := blk_cell hS_.1 8
    go_simp
    with_reducible rfl
  rotate_left
  · (try simp only [Act.put, List.setIfInBounds_toArray, List.set_cons_zero, List.set_cons_succ])
    rfl
  refine take_ (i := 1) (N := some 76) (v := ?_) (a' := ?_) #[true, true, true, false, false, false] rfl rfl (take_ofW HT_.out HW_.out (by kernel_rfl)) (fun _ _ _ h => h) (Or.inl ⟨by rfl, ?_⟩) hHeld ?_ ?_
  rotate_left
  · intro w' hS_
    have hx_0 : w'.cell? ⟨H, 0, none⟩ = some (.bool false) := blk_cell hS_.2 0
    have hx_1 : w'.cell? ⟨H, 1, none⟩ = some (.bool false) := blk_cell hS_.2 1
    have hx_2 : w'.cell? ⟨H, 2, none⟩ = some (.int .i64 0) := blk_cell hS_.2 2
    have hx_3 : w'.cell? ⟨H, 3, none⟩ = some (.int .i64 0) := blk_cell hS_.2 3
    have hx_4 : w'.cell? ⟨H, 4, none⟩ = some (.int .u32 0) := blk_cell hS_.2 4
    have hx_5 : w'.cell? ⟨H, 5, none⟩ = some (.int .u32 0) := blk_cell hS_.2 5
    go_simp
    with_reducible rfl
  rotate_left
  · (try simp only [Act.put, List.setIfInBounds_toArray, List.set_cons_zero, List.set_cons_succ])
    rfl
  refine one_ (i := 3) (N := none) #[true, true, true, true, false, false] rfl rfl (one_of HT_.out (by kernel_rfl)) (by decide) (fun K hK => ?_)
  refine store27_ (by rfl) rfl (.tmp 4) (.tmp 75) rfl r1.ac r1.co r1.er r1.nr r1.ar r1.op r1.bl r1.pe A1 m c1 Y (by rfl) (by rfl) hHeld.1 ?_
  intro W5 hy5 hf5 hs5 hb5
  have hh5 := (hf5 H nHY).trans hHeld.2
  have HR6 := Aside0.mk (Kd.R_step HR5.out (fun k hk _ => hf5 k hk.1))
  have HB6 := Aside0.mk (HB5.out.trans (hb5 w.heap.size hnY))
  clear HR5 HB5 hf5 hs5 hb5 hHeld
  refine hK.out _ _ ⟨hy5, hh5⟩ (fun hHeld => ?_)
  clear hK K hy5 hh5
  refine one_ (i := 4) (N := none) #[true, true, true, true, true, false] rfl rfl (one_of HT_.out (by kernel_rfl)) (by decide) (fun K hK => ?_)
  refine store33_ (by rfl) rfl (.tmp 5) (.tmp 76) rfl 0 0 0 0 false false H (by rfl) (by rfl) hHeld.2 ?_
  intro W6 hy5 hf5 hs5 hb5
  have hh5 := (hf5 Y nYH).trans hHeld.1
  have HR7 := Aside0.mk (Kd.R_mono (ok' := fun _ => True) (Kd.R_step HR6.out (fun k hk _ => hf5 k hk.2)) (fun _ _ => trivial))
  have HB7 := Aside0.mk (HB6.out.trans (hb5 w.heap.size hnH))
  clear HR6 HB6 hf5 hs5 hb5 hHeld
  have HY7 := Aside0.mk hh5
  have HH7 := Aside0.mk hy5
  refine hK.out _ _ ⟨hh5, hy5⟩ (fun hHeld => ?_)
  clear hK K hy5 hh5
  refine pure_ (i := 5) (N := some 6) (v := ?_) (a' := ?_) #[true, true, true, true, true, true] rfl rfl (any_of HT_.out (by kernel_rfl)) (fun _ _ _ h => h) (Or.inl ⟨by rfl, ?_⟩) ?_ ?_
  rotate_left
  · intro w'
    go_simp
    with_reducible rfl
  rotate_left
  · (try simp only [Act.put, List.setIfInBounds_toArray, List.set_cons_zero, List.set_cons_succ])
    rfl
  refine done_ (done_of HT_.out (by kernel_rfl)) ?_
  clear HT_ HW_ hHeld
  go_wp2
  refine bodyPost_ret (results_list (rs := [.cell 4 27, .cell 5 33, .tmp 6]) rfl (by simp) (.cell Y 27 #[.int .i64 r1.ac, .bool r1.op, .bool r1.bl, .bool r1.pe, .int .i64 r1.co, .int .i64 r1.er, .int .u32 r1.nr, .int .u32 r1.ar, .slice A1 m c1] (0, 0) _ rfl HY7.out Try.underlying27 rfl (by kernel_rfl) (.cell H 33 #[.bool false, .bool false, .int .i64 0, .int .i64 0, .int .u32 0, .int .u32 0] (0, 0) _ rfl HH7.out Try.underlying33 rfl (by kernel_rfl) (.tmp .nil)))) rfl ?_
  exact ⟨.slice A1 m c1, rfl, HR7.out, HB7.out⟩
set_option maxHeartbeats 2000000 in
set_option maxRecDepth 100000 in
theorem run_9 (kd a : Int) (f : Bool) (co er nr ar : Int) (s : Sg) (q : Int) (hq : (IntKind.u64.wrap kd).tmod 10 = q) (hq0 : q = 9) (A : Option Addr) (c : Nat) (w : World) (hr0 : Kd.C Kd.bool w A s.l.length s.l) (hc0 : s.l.length ≤ c) :
    Calls Try.prog 15 #[.agg #[.int .i64 kd, .int .i64 a, .bool f, .int .i64 co, .int .i64 er, .int .u32 nr, .int .u32 ar], .agg #[.int .i64 s.ac, .bool s.op, .bool s.bl, .bool s.pe, .int .i64 s.co, .int .i64 s.er, .int .u32 s.nr, .int .u32 s.ar, .slice A s.l.length c]] w (Outs (s.opD q a f co er nr ar) w) := by
  subst hq0
  obtain ⟨r, hr⟩ : ∃ r, r = s.withV s.execD := ⟨_, rfl⟩
  have HRV := Aside0.mk hr
  clear hr
  rw [show s.opD 9 a f co er nr ar = (r.1, nohit, r.2.2) from by rw [HRV.out]; simp [Sg.opD]]
  have HR0 := Aside0.mk hr0
  have HC0 := Aside0.mk hc0
  clear hr0 hc0
  go_enter Try.func15, Try.ntmps15
  go_wp2_with fail
  refine (exec_c s A c _ (Kd.C_alloc (Kd.C_alloc (Kd.C_alloc (Kd.C_alloc HR0.out _) _) _) _) HC0.out).mono ?_
  rw [← HRV.out]
  rintro e w1 ⟨v1, rfl, hR, hB⟩
  have HY : Aside0 (w1.heap[w.heap.size + 1 + 1]? = some (.cells #[.int .i64 0, .bool false, .bool false, .bool false, .int .i64 0, .int .i64 0, .int .u32 0, .int .u32 0, .slice none 0 0] 27 (0, 0))) := ⟨by refine (hB.block _ (by simp only [World.size_alloc]; omega)).trans ?_; (repeat (with_reducible first | exact heap_new_at _ _ _ (by simp) | refine blk_alloc ?_ _))⟩
  have HH : Aside0 (w1.heap[w.heap.size + 1 + 1 + 1]? = some (.cells #[.bool false, .bool false, .int .i64 0, .int .i64 0, .int .u32 0, .int .u32 0] 33 (0, 0))) := ⟨by refine (hB.block _ (by simp only [World.size_alloc]; omega)).trans ?_; (repeat (with_reducible first | exact heap_new_at _ _ _ (by simp) | refine blk_alloc ?_ _))⟩
  have HB : Aside0 (Below w.heap.size w w1) := ⟨(below_alloc (below_alloc (below_alloc (below_alloc (Below.refl _ _) _) _) _) _).trans (hB.mono (by simp only [World.size_alloc]; omega))⟩
  have HR : Aside0 (Kd.R Kd.bool 4 w1 w.heap.size (fun k => k ≠ w.heap.size + 1 + 1 ∧ k ≠ w.heap.size + 1 + 1 + 1) v1 r.1.l) := ⟨Kd.R_lower (Kd.R_mono (Kd.R_bound hR) (fun k hk => by have := hk.2.1; simp only [World.size_alloc] at this; omega)) (by simp only [World.size_alloc]; omega)⟩
  clear hR hB HRV HR0 HC0
  obtain ⟨r1, r2, r3⟩ := r
  dsimp only [nohit] at HR ⊢
  obtain ⟨A1, c1, rfl⟩ := Kd.R_slice HR.out
  obtain ⟨m, hm⟩ : ∃ m, m = r1.l.length := ⟨_, rfl⟩
  rw [← hm] at HR ⊢
  clear hm
  obtain ⟨Y, hYe⟩ : ∃ Y, Y = w.heap.size + 1 + 1 := ⟨_, rfl⟩
  rw [← hYe] at HY HH HR ⊢
  obtain ⟨H, hHe⟩ : ∃ H, H = Y + 1 := ⟨_, rfl⟩
  rw [← hHe] at HH HR ⊢
  have hnY : w.heap.size ≤ Y := by omega
  have nYH : Y ≠ H := by omega
  have nHY : H ≠ Y := by omega
  have hnH : w.heap.size ≤ H := by omega
  clear hYe hHe
  have hltY := blk_lt HY.out
  have hltH := blk_lt HH.out
  have hs1 := HB.out.size
  have hcy0 : w1.cell? ⟨Y, 0, none⟩ = some (.int .i64 0) := blk_cell HY.out 0
  have hfy0 : w1.frozen? ⟨Y, 0, none⟩ = false := blk_frozen HY.out 0
  have hcy1 : w1.cell? ⟨Y, 1, none⟩ = some (.bool false) := blk_cell HY.out 1
  have hfy1 : w1.frozen? ⟨Y, 1, none⟩ = false := blk_frozen HY.out 1
  have hcy2 : w1.cell? ⟨Y, 2, none⟩ = some (.bool false) := blk_cell HY.out 2
  have hfy2 : w1.frozen? ⟨Y, 2, none⟩ = false := blk_frozen HY.out 2
  have hcy3 : w1.cell? ⟨Y, 3, none⟩ = some (.bool false) := blk_cell HY.out 3
  have hfy3 : w1.frozen? ⟨Y, 3, none⟩ = false := blk_frozen HY.out 3
  have hcy4 : w1.cell? ⟨Y, 4, none⟩ = some (.int .i64 0) := blk_cell HY.out 4
  have hfy4 : w1.frozen? ⟨Y, 4, none⟩ = false := blk_frozen HY.out 4
  have hcy5 : w1.cell? ⟨Y, 5, none⟩ = some (.int .i64 0) := blk_cell HY.out 5
  have hfy5 : w1.frozen? ⟨Y, 5, none⟩ = false := blk_frozen HY.out 5
  have hcy6 : w1.cell? ⟨Y, 6, none⟩ = some (.int .u32 0) := blk_cell HY.out 6
  have hfy6 : w1.frozen? ⟨Y, 6, none⟩ = false := blk_frozen HY.out 6
  have hcy7 : w1.cell? ⟨Y, 7, none⟩ = some (.int .u32 0) := blk_cell HY.out 7
  have hfy7 : w1.frozen? ⟨Y, 7, none⟩ = false := blk_frozen HY.out 7
  have hcy8 : w1.cell? ⟨Y, 8, none⟩ = some (.slice none 0 0) := blk_cell HY.out 8
  have hfy8 : w1.frozen? ⟨Y, 8, none⟩ = false := blk_frozen HY.out 8
  have hcz0 : w1.cell? ⟨H, 0, none⟩ = some (.bool false) := blk_cell HH.out 0
  have hfz0 : w1.frozen? ⟨H, 0, none⟩ = false := blk_frozen HH.out 0
  have hcz1 : w1.cell? ⟨H, 1, none⟩ = some (.bool false) := blk_cell HH.out 1
  have hfz1 : w1.frozen? ⟨H, 1, none⟩ = false := blk_frozen HH.out 1
  have hcz2 : w1.cell? ⟨H, 2, none⟩ = some (.int .i64 0) := blk_cell HH.out 2
  have hfz2 : w1.frozen? ⟨H, 2, none⟩ = false := blk_frozen HH.out 2
  have hcz3 : w1.cell? ⟨H, 3, none⟩ = some (.int .i64 0) := blk_cell HH.out 3
  have hfz3 : w1.frozen? ⟨H, 3, none⟩ = false := blk_frozen HH.out 3
  have hcz4 : w1.cell? ⟨H, 4, none⟩ = some (.int .u32 0) := blk_cell HH.out 4
  have hfz4 : w1.frozen? ⟨H, 4, none⟩ = false := blk_frozen HH.out 4
  have hcz5 : w1.cell? ⟨H, 5, none⟩ = some (.int .u32 0) := blk_cell HH.out 5
  have hfz5 : w1.frozen? ⟨H, 5, none⟩ = false := blk_frozen HH.out 5
  go_upto_region 18 with fail
  clear hcy0 hfy0 hcy1 hfy1 hcy2 hfy2 hcy3 hfy3 hcy4 hfy4 hcy5 hfy5 hcy6 hfy6 hcy7 hfy7 hcy8 hfy8 hcz0 hfz0 hcz1 hfz1 hcz2 hfz2 hcz3 hfz3 hcz4 hfz4 hcz5 hfz5
  have HS5 : Aside0 (St (fun k => k = Y ∨ k = H) w.heap.size w1 ((((((((((w1.setCell ⟨Y, 0, none⟩ (.int .i64 r1.ac)).setCell ⟨Y, 1, none⟩ (.bool r1.op)).setCell ⟨Y, 2, none⟩ (.bool r1.bl)).setCell ⟨Y, 3, none⟩ (.bool r1.pe)).setCell ⟨Y, 4, none⟩ (.int .i64 r1.co)).setCell ⟨Y, 5, none⟩ (.int .i64 r1.er)).setCell ⟨Y, 6, none⟩ (.int .u32 r1.nr)).setCell ⟨Y, 7, none⟩ (.int .u32 r1.ar)).setCell ⟨Y, 8, none⟩ (.slice A1 m c1)))) := ⟨by (repeat (with_reducible first | exact St.rfl' _ _ _ | refine St.set ?_ (by omega) (by first | exact Or.inl rfl | exact Or.inl (Or.inl rfl) | exact Or.inl (Or.inr rfl) | (right; omega)) _ _ | refine St.drewN ?_ _ | refine St.drew ?_ | refine St.alloc ?_ (by omega) _))⟩
  have HY5 := Aside0.mk (blk_drew (put9 HY.out (.int .i64 r1.ac) (.bool r1.op) (.bool r1.bl) (.bool r1.pe) (.int .i64 r1.co) (.int .i64 r1.er) (.int .u32 r1.nr) (.int .u32 r1.ar) (.slice A1 m c1)))
  have HH5 := Aside0.mk (blk_drew (far9 HH.out nHY (.int .i64 r1.ac) (.bool r1.op) (.bool r1.bl) (.bool r1.pe) (.int .i64 r1.co) (.int .i64 r1.er) (.int .u32 r1.nr) (.int .u32 r1.ar) (.slice A1 m c1)))
  have HR5 := Aside0.mk (Kd.R_drew (Kd.R_step HR.out (fun k hk hl => HS5.out.2.2 k (fun q => q.elim hk.1 hk.2) hl)))
  have HB5 := Aside0.mk (below_drew' (HB.out.trans HS5.out.1))
  clear HS5 HY HH HR HB
  refine start_ (n := 6) (S := fun w' => w'.heap[Y]? = some (.cells #[.int .i64 r1.ac, .bool r1.op, .bool r1.bl, .bool r1.pe, .int .i64 r1.co, .int .i64 r1.er, .int .u32 r1.nr, .int .u32 r1.ar, .slice A1 m c1] 27 (0, 0)) ∧ w'.heap[H]? = some (.cells #[.bool false, .bool false, .int .i64 0, .int .i64 0, .int .u32 0, .int .u32 0] 33 (0, 0))) (ds := []) #[false, false, false, false, false, false] (by kernel_rfl) rfl rfl (⟨HY5.out, HH5.out⟩) (fun hHeld => ?_); refine with_tabW run18.tab18 run18.bits18 (fun HT_ HW_ => ?_)
  generalize World.drew _ = W4 at hHeld HY5 HH5 HR5 HB5 ⊢
  refine pure_ (i := 2) (N := some 77) (v := ?_) (a' := ?_) #[false, false, true, false, false, false] rfl rfl (any_of HT_.out (by kernel_rfl)) (fun _ _ _ h => h) (Or.inl ⟨by rfl, ?_⟩) ?_ ?_
  rotate_left
  · intro w'
    go_simp
    with_reducible rfl
  rotate_left
  · (try simp only [Act.put, List.setIfInBounds_toArray, List.set_cons_zero, List.set_cons_succ])
    rfl
  refine take_ (i := 0) (N := some 75) (v := ?_) (a' := ?_) #[true, false, true, false, false, false] rfl rfl (take_ofW HT_.out HW_.out (by kernel_rfl)) (fun _ _ _ h => h) (Or.inl ⟨by rfl, ?_⟩) hHeld ?_ ?_
  rotate_left
  · intro w' hS_
    have hx_0 : w'.cell? ⟨Y, 0, none⟩ = some (.int .i64 r1.ac) := blk_cell hS_.1 0
    have hx_1 : w'.cell? ⟨Y, 1, none⟩ = some (.bool r1.op) := blk_cell hS_.1 1
    have hx_2 : w'.cell? ⟨Y, 2, none⟩ = some (.bool r1.bl) := blk_cell hS_.1 2
    have hx_3 : w'.cell? ⟨Y, 3, none⟩ = some (.bool r1.pe) := blk_cell hS_.1 3
    have hx_4 : w'.cell? ⟨Y, 4, none⟩ = some (.int .i64 r1.co) := blk_cell hS_.1 4
    have hx_5 : w'.cell? ⟨Y, 5, none⟩ = some (.int .i64 r1.er) := blk_cell hS_.1 5
    have hx_6 : w'.cell? ⟨Y, 6, none⟩ = some (.int .u32 r1.nr) := blk_cell hS_.1 6
    have hx_7 : w'.cell? ⟨Y, 7, none⟩ = some (.int .u32 r1.ar) := blk_cell hS_.1 7
    have hx_8 : w'.cell? ⟨Y, 8, none⟩ = some (.slice A1 m c1) := blk_cell hS_.1 8
    go_simp
    with_reducible rfl
  rotate_left
  · (try simp only [Act.put, List.setIfInBounds_toArray, List.set_cons_zero, List.set_cons_succ])
    rfl
  refine take_ (i := 1) (N := some 76) (v := ?_) (a' := ?_) #[true, true, true, false, false, false] rfl rfl (take_ofW HT_.out HW_.out (by kernel_rfl)) (fun _ _ _ h => h) (Or.inl ⟨by rfl, ?_⟩) hHeld ?_ ?_
  rotate_left
  · intro w' hS_
    have hx_0 : w'.cell? ⟨H, 0, none⟩ = some (.bool false) := blk_cell hS_.2 0
    have hx_1 : w'.cell? ⟨H, 1, none⟩ = some (.bool false) := blk_cell hS_.2 1
    have hx_2 : w'.cell? ⟨H, 2, none⟩ = some (.int .i64 0) := blk_cell hS_.2 2
    have hx_3 : w'.cell? ⟨H, 3, none⟩ = some (.int .i64 0) := blk_cell hS_.2 3
    have hx_4 : w'.cell? ⟨H, 4, none⟩ = some (.int .u32 0) := blk_cell hS_.2 4
    have hx_5 : w'.cell? ⟨H, 5, none⟩ = some (.int .u32 0) := blk_cell hS_.2 5
    go_simp
    with_reducible rfl
  rotate_left
  · (try simp only [Act.put, List.setIfInBounds_toArray, List.set_cons_zero, List.set_cons_succ])
    rfl
  refine one_ (i := 3) (N := none) #[true, true, true, true, false, false] rfl rfl (one_of HT_.out (by kernel_rfl)) (by decide) (fun K hK => ?_)
  refine store27_ (by rfl) rfl (.tmp 4) (.tmp 75) rfl r1.ac r1.co r1.er r1.nr r1.ar r1.op r1.bl r1.pe A1 m c1 Y (by rfl) (by rfl) hHeld.1 ?_
  intro W5 hy5 hf5 hs5 hb5
  have hh5 := (hf5 H nHY).trans hHeld.2
  have HR6 := Aside0.mk (Kd.R_step HR5.out (fun k hk _ => hf5 k hk.1))
  have HB6 := Aside0.mk (HB5.out.trans (hb5 w.heap.size hnY))
  clear HR5 HB5 hf5 hs5 hb5 hHeld
  refine hK.out _ _ ⟨hy5, hh5⟩ (fun hHeld => ?_)
  clear hK K hy5 hh5
  refine one_ (i := 4) (N := none) #[true, true, true, true, true, false] rfl rfl (one_of HT_.out (by kernel_rfl)) (by decide) (fun K hK => ?_)
  refine store33_ (by rfl) rfl (.tmp 5) (.tmp 76) rfl 0 0 0 0 false false H (by rfl) (by rfl) hHeld.2 ?_
  intro W6 hy5 hf5 hs5 hb5
  have hh5 := (hf5 Y nYH).trans hHeld.1
  have HR7 := Aside0.mk (Kd.R_mono (ok' := fun _ => True) (Kd.R_step HR6.out (fun k hk _ => hf5 k hk.2)) (fun _ _ => trivial))
  have HB7 := Aside0.mk (HB6.out.trans (hb5 w.heap.size hnH))
  clear HR6 HB6 hf5 hs5 hb5 hHeld
  have HY7 := Aside0.mk hh5
  have HH7 := Aside0.mk hy5
  refine hK.out _ _ ⟨hh5, hy5⟩ (fun hHeld => ?_)
  clear hK K hy5 hh5
  refine pure_ (i := 5) (N := some 6) (v := ?_) (a' := ?_) #[true, true, true, true, true, true] rfl rfl (any_of HT_.out (by kernel_rfl)) (fun _ _ _ h => h) (Or.inl ⟨by rfl, ?_⟩) ?_ ?_
  rotate_left
  · intro w'
    go_simp
    with_reducible rfl
  rotate_left
  · (try simp only [Act.put, List.setIfInBounds_toArray, List.set_cons_zero, List.set_cons_succ])
    rfl
  refine done_ (done_of HT_.out (by kernel_rfl)) ?_
  clear HT_ HW_ hHeld
  go_wp2
  refine bodyPost_ret (results_list (rs := [.cell 4 27, .cell 5 33, .tmp 6]) rfl (by simp) (.cell Y 27 #[.int .i64 r1.ac, .bool r1.op, .bool r1.bl, .bool r1.pe, .int .i64 r1.co, .int .i64 r1.er, .int .u32 r1.nr, .int .u32 r1.ar, .slice A1 m c1] (0, 0) _ rfl HY7.out Try.underlying27 rfl (by kernel_rfl) (.cell H 33 #[.bool false, .bool false, .int .i64 0, .int .i64 0, .int .u32 0, .int .u32 0] (0, 0) _ rfl HH7.out Try.underlying33 rfl (by kernel_rfl) (.tmp .nil)))) rfl ?_
  exact ⟨.slice A1 m c1, rfl, HR7.out, HB7.out⟩
theorem run_c (kd a : Int) (f : Bool) (co er nr ar : Int) (s : Sg) (A : Option Addr) (c : Nat) (w : World) (hr0 : Kd.C Kd.bool w A s.l.length s.l) (hc0 : s.l.length ≤ c) :
    Calls Try.prog 15 #[.agg #[.int .i64 kd, .int .i64 a, .bool f, .int .i64 co, .int .i64 er, .int .u32 nr, .int .u32 ar], .agg #[.int .i64 s.ac, .bool s.op, .bool s.bl, .bool s.pe, .int .i64 s.co, .int .i64 s.er, .int .u32 s.nr, .int .u32 s.ar, .slice A s.l.length c]] w (Outs (s.opD ((IntKind.u64.wrap kd).tmod 10) a f co er nr ar) w) := by
  have h0 : 0 ≤ IntKind.u64.wrap kd := by simp only [IntKind.wrap, IntKind.bits, IntKind.signed]; simp; omega
  have h1 : (IntKind.u64.wrap kd).tmod 10 = IntKind.u64.wrap kd % 10 := Int.tmod_eq_emod_of_nonneg h0
  obtain h | h | h | h | h | h | h | h | h | h : (IntKind.u64.wrap kd).tmod 10 = 0 ∨ (IntKind.u64.wrap kd).tmod 10 = 1 ∨ (IntKind.u64.wrap kd).tmod 10 = 2 ∨ (IntKind.u64.wrap kd).tmod 10 = 3 ∨ (IntKind.u64.wrap kd).tmod 10 = 4 ∨ (IntKind.u64.wrap kd).tmod 10 = 5 ∨ (IntKind.u64.wrap kd).tmod 10 = 6 ∨ (IntKind.u64.wrap kd).tmod 10 = 7 ∨ (IntKind.u64.wrap kd).tmod 10 = 8 ∨ (IntKind.u64.wrap kd).tmod 10 = 9 := by omega
  · rw [h]; exact run_0 kd a f co er nr ar s 0 h rfl A c w hr0 hc0
  · rw [h]; exact run_1 kd a f co er nr ar s 1 h rfl A c w hr0 hc0
  · rw [h]; exact run_2 kd a f co er nr ar s 2 h rfl A c w hr0 hc0
  · rw [h]; exact run_3 kd a f co er nr ar s 3 h rfl A c w hr0 hc0
  · rw [h]; exact run_4 kd a f co er nr ar s 4 h rfl A c w hr0 hc0
  · rw [h]; exact run_5 kd a f co er nr ar s 5 h rfl A c w hr0 hc0
  · rw [h]; exact run_6 kd a f co er nr ar s 6 h rfl A c w hr0 hc0
  · rw [h]; exact run_7 kd a f co er nr ar s 7 h rfl A c w hr0 hc0
  · rw [h]; exact run_8 kd a f co er nr ar s 8 h rfl A c w hr0 hc0
  · rw [h]; exact run_9 kd a f co er nr ar s 9 h rfl A c w hr0 hc0
end Go.Proofs.Ytbpgpbbpeppjmaa.SG
