import Derived.Test.YtbpgpbbpeppjmaaSE
namespace Go.Proofs.Ytbpgpbbpeppjmaa.SG
open Go.RowKit Go.Proofs.YtbpgpbbpeppjmaaW.PrintWords Go.Proofs.YtbpgpbbpeppjmaaW.PrintLast Go.Proofs.YtbpgpbbpeppjmaaW.PrintMore
set_option linter.unusedVariables false
set_option linter.unusedSimpArgs false
theorem goesV_ {P : Program} {ops : Array Oper} {Q : Exit → Act → World → Prop} {rest : List Oper} {oi : Oper} {a : Act} {w : World} (N : Option Tmp) (hd : oi.dst = N) (hg : oi.guard = none) {f : FuncId} {fn : Func} {xs : Array Operand} {ts : Array TypeId} {p : Operand} {caps : Array Value} (hf : P.funcs[f]? = some fn) (hname : (fn.name == "runtime.NumGoroutine") = false) (hb : fn.body.isSome = true) (args : Array Value)
    (hop : oi.op = .call { callee := .value p, args := xs, argTypes := ts }) (hp : a.eval p = .func (Fn.func f) #[] caps) (hargs : xs.map a.eval ++ caps = args)
    (h : Calls P f args w fun e w' => ∃ v, e = .returned v ∧ wpList P ops Q rest (a.put N v) w') : wpList P ops Q (oi :: rest) a w := by
  refine wpList_plain hg fun K hK => ?_
  have he := enters_ hf hname hb args w
  have hrun : (execOp a.eval oi).run P w = .ok (.enter f args) w := by
    unfold execOp
    simp [hop, resolve, Deferred.ofValue, invoke, hp, hargs, he]
  unfold Oper.wp
  rw [hrun, Oper.upon_enter]
  refine h.mono fun e w'' hh => ?_
  obtain ⟨v, rfl, hk⟩ := hh
  subst hd
  exact hK _ _ hk
set_option maxHeartbeats 2000000 in
set_option maxRecDepth 100000 in
theorem with_gen (F : Nat) (fn : Func) (hf : Try.prog.funcs[F]? = some fn) (hname : (fn.name == "runtime.NumGoroutine") = false) (hbd : fn.body.isSome = true) (caps : Array Value) (d : Sg × Ht × Int) (s : Sg) (A : Option Addr) (c : Nat) (w : World) (hr0 : Kd.C Kd.bool w A s.l.length s.l) (hc0 : s.l.length ≤ c)
    (hcl : ∀ (X : Nat) (W2 : World) (v : Value), w.heap.size < X → Below w.heap.size w W2 → Has w.heap.size X s v W2 → Calls Try.prog F (#[.pointer (some ⟨X, 0, none⟩)] ++ caps) W2 (fun e w' => e = .returned (.tuple #[.agg #[.bool d.2.1.di, .bool d.2.1.ru, .int .i64 d.2.1.co, .int .i64 d.2.1.er, .int .u32 d.2.1.nr, .int .u32 d.2.1.ar], .int .i64 d.2.2]) ∧ Gets w.heap.size X v W2 d.1 w')) :
    Calls Try.prog 16 #[.agg #[.int .i64 s.ac, .bool s.op, .bool s.bl, .bool s.pe, .int .i64 s.co, .int .i64 s.er, .int .u32 s.nr, .int .u32 s.ar, .slice A s.l.length c], .func (Fn.func F) #[] caps] w (Outs (s.withV d) w) := by
  have hchk := check_f s
  have HF := Aside0.mk hf
  have HN := Aside0.mk hname
  have HBD := Aside0.mk hbd
  have HCL0 := Aside0.mk hcl
  clear hf hname hbd hcl
  obtain ⟨ck, hck⟩ : ∃ ck, ck = s.chk := ⟨_, rfl⟩
  have hclone := fun h => clone_f s.l h
  have hsml : ck = 0 → s.l.length < 1000 := fun h => by rw [hck] at h; unfold Sg.chk at h; split at h <;> first | omega | simp at h
  have hwv : s.withV d = if ck = 0 then (if d.2.2 = 0 then d else (zeroS, nohit, d.2.2)) else (zeroS, nohit, ck) := by rw [hck]; rfl
  rw [hwv]
  clear hwv
  obtain ⟨r, hr⟩ : ∃ r, r = (if ck = 0 then (if d.2.2 = 0 then d else (zeroS, nohit, d.2.2)) else (zeroS, nohit, ck)) := ⟨_, rfl⟩
  rw [← hr]
  have HRV := Aside0.mk hr
  clear hr
  rw [← hck] at hchk
  clear hck
  have HCHK := Aside0.mk hchk
  have HCLONE := Aside0.mk hclone
  have HSML := Aside0.mk hsml
  clear hchk hclone hsml
  obtain ⟨ac, op, bl, pe, co0, er0, nr0, ar0, l⟩ := s
  dsimp only at HCHK HCLONE HSML hr0 hc0 HCL0 ⊢
  have HR0 := Aside0.mk hr0
  have HC0 := Aside0.mk hc0
  clear hr0 hc0
  go_enter Try.func16, Try.ntmps16
  go_wp2_with fail
  refine (PB.signal_Check.calls 5 ac op bl pe co0 er0 nr0 ar0 A c l ck _ (Kd.C_alloc (Kd.C_alloc (Kd.C_alloc HR0.out _) _) _) HC0.out HCHK.out).mono ?_
  rintro e w1 ⟨rfl, hB⟩
  have HA : Aside0 (w1.heap[w.heap.size]? = some (.cells #[.int .i64 ac, .bool op, .bool bl, .bool pe, .int .i64 co0, .int .i64 er0, .int .u32 nr0, .int .u32 ar0, .slice A l.length c] 27 (0, 0))) := ⟨by refine (hB.block _ (by simp only [World.size_alloc]; omega)).trans ?_; ((repeat (with_reducible first | exact heap_new_at _ _ _ (by simp) | refine blk_alloc ?_ _)))⟩
  have HY : Aside0 (w1.heap[w.heap.size + 1]? = some (.cells #[.int .i64 0, .bool false, .bool false, .bool false, .int .i64 0, .int .i64 0, .int .u32 0, .int .u32 0, .slice none 0 0] 27 (0, 0))) := ⟨by refine (hB.block _ (by simp only [World.size_alloc]; omega)).trans ?_; ((repeat (with_reducible first | exact heap_new_at _ _ _ (by simp) | refine blk_alloc ?_ _)))⟩
  have HH : Aside0 (w1.heap[w.heap.size + 1 + 1]? = some (.cells #[.bool false, .bool false, .int .i64 0, .int .i64 0, .int .u32 0, .int .u32 0] 33 (0, 0))) := ⟨by refine (hB.block _ (by simp only [World.size_alloc]; omega)).trans ?_; ((repeat (with_reducible first | exact heap_new_at _ _ _ (by simp) | refine blk_alloc ?_ _)))⟩
  have HB : Aside0 (Below w.heap.size w w1) := ⟨(below_alloc (below_alloc (below_alloc (Below.refl _ _) _) _) _).trans (hB.mono (by simp only [World.size_alloc]; omega))⟩
  clear hB
  have HRC := Aside0.mk (Kd.C_below HR0.out HB.out)
  by_cases hck : ck = 0
  · subst hck
    have hca0 : w1.cell? ⟨w.heap.size, 0, none⟩ = some (.int .i64 ac) := blk_cell HA.out 0
    have hfa0 : w1.frozen? ⟨w.heap.size, 0, none⟩ = false := blk_frozen HA.out 0
    have hca1 : w1.cell? ⟨w.heap.size, 1, none⟩ = some (.bool op) := blk_cell HA.out 1
    have hfa1 : w1.frozen? ⟨w.heap.size, 1, none⟩ = false := blk_frozen HA.out 1
    have hca2 : w1.cell? ⟨w.heap.size, 2, none⟩ = some (.bool bl) := blk_cell HA.out 2
    have hfa2 : w1.frozen? ⟨w.heap.size, 2, none⟩ = false := blk_frozen HA.out 2
    have hca3 : w1.cell? ⟨w.heap.size, 3, none⟩ = some (.bool pe) := blk_cell HA.out 3
    have hfa3 : w1.frozen? ⟨w.heap.size, 3, none⟩ = false := blk_frozen HA.out 3
    have hca4 : w1.cell? ⟨w.heap.size, 4, none⟩ = some (.int .i64 co0) := blk_cell HA.out 4
    have hfa4 : w1.frozen? ⟨w.heap.size, 4, none⟩ = false := blk_frozen HA.out 4
    have hca5 : w1.cell? ⟨w.heap.size, 5, none⟩ = some (.int .i64 er0) := blk_cell HA.out 5
    have hfa5 : w1.frozen? ⟨w.heap.size, 5, none⟩ = false := blk_frozen HA.out 5
    have hca6 : w1.cell? ⟨w.heap.size, 6, none⟩ = some (.int .u32 nr0) := blk_cell HA.out 6
    have hfa6 : w1.frozen? ⟨w.heap.size, 6, none⟩ = false := blk_frozen HA.out 6
    have hca7 : w1.cell? ⟨w.heap.size, 7, none⟩ = some (.int .u32 ar0) := blk_cell HA.out 7
    have hfa7 : w1.frozen? ⟨w.heap.size, 7, none⟩ = false := blk_frozen HA.out 7
    have hca8 : w1.cell? ⟨w.heap.size, 8, none⟩ = some (.slice A l.length c) := blk_cell HA.out 8
    have hfa8 : w1.frozen? ⟨w.heap.size, 8, none⟩ = false := blk_frozen HA.out 8
    have hsz1 := blk_lt HH.out
    have hltA := blk_lt HA.out
    have HCL := Aside0.mk (HCLONE.out (HSML.out rfl))
    have HRW := Aside0.mk (HRV.out.trans (if_pos rfl))
    clear HCLONE HSML HRV HCHK
    go_wp2_with fail
    clear hca0 hfa0 hca1 hfa1 hca2 hfa2 hca3 hfa3 hca4 hfa4 hca5 hfa5 hca6 hfa6 hca7 hfa7 hca8 hfa8
    refine (PB.slices_Clone_bool_bool.calls A c l l _ (Kd.C_alloc HRC.out _) HC0.out HCL.out).mono ?_
    rintro e w2 ⟨v0, rfl, hR, hB⟩
    obtain ⟨A0, c0, rfl⟩ := Kd.R_slice hR
    have HX : Aside0 (w2.heap[w1.heap.size]? = some (.cells #[.int .i64 ac, .bool op, .bool bl, .bool pe, .int .i64 co0, .int .i64 er0, .int .u32 nr0, .int .u32 ar0, .slice A l.length c] 52 (0, 0))) := ⟨(hB.block _ (by simp only [World.size_alloc]; omega)).trans (heap_alloc_new w1 (.cells #[.int .i64 ac, .bool op, .bool bl, .bool pe, .int .i64 co0, .int .i64 er0, .int .u32 nr0, .int .u32 ar0, .slice A l.length c] 52))⟩
    replace HY : Aside0 (w2.heap[w.heap.size + 1]? = some (.cells #[.int .i64 0, .bool false, .bool false, .bool false, .int .i64 0, .int .i64 0, .int .u32 0, .int .u32 0, .slice none 0 0] 27 (0, 0))) := ⟨(hB.block _ (by simp only [World.size_alloc]; omega)).trans (blk_alloc HY.out (.cells #[.int .i64 ac, .bool op, .bool bl, .bool pe, .int .i64 co0, .int .i64 er0, .int .u32 nr0, .int .u32 ar0, .slice A l.length c] 52))⟩
    replace HH : Aside0 (w2.heap[w.heap.size + 1 + 1]? = some (.cells #[.bool false, .bool false, .int .i64 0, .int .i64 0, .int .u32 0, .int .u32 0] 33 (0, 0))) := ⟨(hB.block _ (by simp only [World.size_alloc]; omega)).trans (blk_alloc HH.out (.cells #[.int .i64 ac, .bool op, .bool bl, .bool pe, .int .i64 co0, .int .i64 er0, .int .u32 nr0, .int .u32 ar0, .slice A l.length c] 52))⟩
    replace HB : Aside0 (Below w.heap.size w w2) := ⟨(below_alloc HB.out (.cells #[.int .i64 ac, .bool op, .bool bl, .bool pe, .int .i64 co0, .int .i64 er0, .int .u32 nr0, .int .u32 ar0, .slice A l.length c] 52)).trans (hB.mono (by simp only [World.size_alloc]; have := HB.out.size; omega))⟩
    have hb0 : (w1.alloc (.cells #[.int .i64 ac, .bool op, .bool bl, .bool pe, .int .i64 co0, .int .i64 er0, .int .u32 nr0, .int .u32 ar0, .slice A l.length c] 52)).heap.size = w1.heap.size + 1 := by simp
    rw [hb0] at hR hB
    clear hB hb0
    have hlt2 := blk_lt HX.out
    obtain ⟨X, hX⟩ : ∃ X, X = w1.heap.size := ⟨_, rfl⟩
    rw [← hX] at HX hlt2 hR hsz1 ⊢
    clear hX
    have HR := Aside0.mk (Kd.R_lower (base' := w.heap.size) (Kd.R_mono (ok' := fun b => b ≠ X) (Kd.R_bound hR) (fun k hk => by have := hk.2.1; omega)) (by omega))
    clear hR HRC
    have hcx : w2.cell? ⟨X, 8, none⟩ = some (.slice A l.length c) := blk_cell HX.out 8
    have hfx : w2.frozen? ⟨X, 8, none⟩ = false := blk_frozen HX.out 8
    have hP2 : Has w.heap.size X (⟨ac, op, bl, pe, co0, er0, nr0, ar0, l⟩ : Sg) (.slice A0 l.length c0) (w2.setCell ⟨X, 8, none⟩ (.slice A0 l.length c0)) := ⟨blk_put HX.out 8 _ rfl, Kd.R_far HR.out (fun k hk => hk) _⟩
    have hcon := HCL0.out X (w2.setCell ⟨X, 8, none⟩ (.slice A0 l.length c0)) (.slice A0 l.length c0) (by omega) (Below.setCell HB.out (by show w.heap.size ≤ X; omega) _) hP2
    have HCON := Aside0.mk hcon
    have HP2 := Aside0.mk hP2
    clear hcon hP2 HCL0
    obtain ⟨d1, d2, de⟩ := d
    dsimp only at HCON
    go_upto_region 7 with ((with_reducible refine gate_dst (N := 31) rfl ?_); refine goesV_ (some 31) rfl rfl HF.out HN.out HBD.out (#[.pointer (some ⟨X, 0, none⟩)] ++ caps) rfl rfl (by (try simp only [List.map_toArray, List.map_cons, List.map_nil]); first | done | rfl) ?_; refine HCON.out.mono ?_; clear HCON; rintro e w3 ⟨rfl, hG⟩; refine ⟨_, rfl, ?_⟩; have HG := Aside0.mk hG; clear hG)
    clear hcx hfx
    have hG := HG.out
    have hP2 := HP2.out
    clear HG HP2
    have HY3 := Aside0.mk (Gets.blk hG hP2 (blk_far (p := ⟨X, 8, none⟩) HY.out (by show w.heap.size + 1 ≠ X; omega) _) (by decide) (by omega))
    have HH3 := Aside0.mk (Gets.blk hG hP2 (blk_far (p := ⟨X, 8, none⟩) HH.out (by show w.heap.size + 1 + 1 ≠ X; omega) _) (by decide) (by omega))
    obtain ⟨v3, ⟨hb3, hR3⟩, hS3, _⟩ := hG
    obtain ⟨A3, c3, rfl⟩ := Kd.R_slice hR3
    have HB3 : Aside0 (Below w.heap.size w w3) := ⟨(Below.setCell HB.out (by show w.heap.size ≤ X; omega) _).trans hS3.1⟩
    have hsz3 := hS3.2.1
    simp only [World.size_setCell] at hsz3
    have HX3 := Aside0.mk hb3
    have HR3 := Aside0.mk hR3
    clear hb3 hR3 hS3 hP2 HX HY HH HR HB
    try dsimp only at HY3 HH3 HX3 HR3 HRW ⊢
    obtain ⟨m, hm⟩ : ∃ m, m = d1.l.length := ⟨_, rfl⟩
    rw [← hm] at HX3 HR3
    clear hm
    have nXY : X ≠ w.heap.size + 1 := by omega
    have nXH : X ≠ w.heap.size + 1 + 1 := by omega
    have nYH : w.heap.size + 1 ≠ w.heap.size + 1 + 1 := by omega
    have nHY : w.heap.size + 1 + 1 ≠ w.heap.size + 1 := by omega
    have hltY := blk_lt HY3.out
    have hltH := blk_lt HH3.out
    have hltX := blk_lt HX3.out
    have hs3 := HB3.out.size
    by_cases he : de = 0
    · subst he
      have hrv := HRW.out.trans (if_pos rfl)
      subst hrv
      go_wp2_with fail
      have HX4 := Aside0.mk (blk_drew (blk_alloc HX3.out (.cells #[.bool d2.di, .bool d2.ru, .int .i64 d2.co, .int .i64 d2.er, .int .u32 d2.nr, .int .u32 d2.ar] 33)))
      have HY4 := Aside0.mk (blk_drew (blk_alloc HY3.out (.cells #[.bool d2.di, .bool d2.ru, .int .i64 d2.co, .int .i64 d2.er, .int .u32 d2.nr, .int .u32 d2.ar] 33)))
      have HH4 := Aside0.mk (blk_drew (blk_alloc HH3.out (.cells #[.bool d2.di, .bool d2.ru, .int .i64 d2.co, .int .i64 d2.er, .int .u32 d2.nr, .int .u32 d2.ar] 33)))
      have HZ4 := Aside0.mk (blk_drew (heap_alloc_new w3 (.cells #[.bool d2.di, .bool d2.ru, .int .i64 d2.co, .int .i64 d2.er, .int .u32 d2.nr, .int .u32 d2.ar] 33)))
      have HR4 := Aside0.mk (Kd.R_drew (Kd.R_alloc HR3.out (.cells #[.bool d2.di, .bool d2.ru, .int .i64 d2.co, .int .i64 d2.er, .int .u32 d2.nr, .int .u32 d2.ar] 33)))
      have HB4 := Aside0.mk (below_drew' (below_alloc HB3.out (.cells #[.bool d2.di, .bool d2.ru, .int .i64 d2.co, .int .i64 d2.er, .int .u32 d2.nr, .int .u32 d2.ar] 33)))
      have nZY : w3.heap.size ≠ w.heap.size + 1 := by omega
      have nZH : w3.heap.size ≠ w.heap.size + 1 + 1 := by omega
      refine start_ (n := 8) (S := fun w' => w'.heap[X]? = some (.cells #[.int .i64 d1.ac, .bool d1.op, .bool d1.bl, .bool d1.pe, .int .i64 d1.co, .int .i64 d1.er, .int .u32 d1.nr, .int .u32 d1.ar, .slice A3 m c3] 52 (0, 0)) ∧ w'.heap[w3.heap.size]? = some (.cells #[.bool d2.di, .bool d2.ru, .int .i64 d2.co, .int .i64 d2.er, .int .u32 d2.nr, .int .u32 d2.ar] 33 (0, 0))) (ds := []) #[false, false, false, false, false, false, false, false] (by kernel_rfl) rfl rfl (⟨HX4.out, HZ4.out⟩) (fun hHeld => ?_); refine with_tabW with9.tab9 with9.bits9 (fun HT_ HW_ => ?_)
      generalize World.drew _ = W4 at hHeld HX4 HY4 HH4 HZ4 HR4 HB4 ⊢
      refine pure_ (i := 0) (N := some 39) (v := ?_) (a' := ?_) #[true, false, false, false, false, false, false, false] rfl rfl (any_of HT_.out (by kernel_rfl)) (fun _ _ _ h => h) (Or.inl ⟨by rfl, ?_⟩) ?_ ?_
      rotate_left
      · intro w'
        go_simp
        with_reducible rfl
      rotate_left
      · (try simp only [Act.put, List.setIfInBounds_toArray, List.set_cons_zero, List.set_cons_succ])
        rfl
      refine pure_ (i := 1) (N := some 40) (v := ?_) (a' := ?_) #[true, true, false, false, false, false, false, false] rfl rfl (any_of HT_.out (by kernel_rfl)) (fun _ _ _ h => h) (Or.inl ⟨by rfl, ?_⟩) ?_ ?_
      rotate_left
      · intro w'
        go_simp
        with_reducible rfl
      rotate_left
      · (try simp only [Act.put, List.setIfInBounds_toArray, List.set_cons_zero, List.set_cons_succ])
        rfl
      refine pure_ (i := 2) (N := some 41) (v := ?_) (a' := ?_) #[true, true, true, false, false, false, false, false] rfl rfl (any_of HT_.out (by kernel_rfl)) (fun _ _ _ h => h) (Or.inl ⟨by rfl, ?_⟩) ?_ ?_
      rotate_left
      · intro w'
        go_simp
        with_reducible rfl
      rotate_left
      · (try simp only [Act.put, List.setIfInBounds_toArray, List.set_cons_zero, List.set_cons_succ])
        rfl
      refine take_ (i := 3) (N := some 42) (v := ?_) (a' := ?_) #[true, true, true, true, false, false, false, false] rfl rfl (take_ofW HT_.out HW_.out (by kernel_rfl)) (fun _ _ _ h => h) (Or.inl ⟨by rfl, ?_⟩) hHeld ?_ ?_
      rotate_left
      · intro w' hS_
        have hx_0 : w'.cell? ⟨X, 0, none⟩ = some (.int .i64 d1.ac) := blk_cell hS_.1 0
        have hx_1 : w'.cell? ⟨X, 1, none⟩ = some (.bool d1.op) := blk_cell hS_.1 1
        have hx_2 : w'.cell? ⟨X, 2, none⟩ = some (.bool d1.bl) := blk_cell hS_.1 2
        have hx_3 : w'.cell? ⟨X, 3, none⟩ = some (.bool d1.pe) := blk_cell hS_.1 3
        have hx_4 : w'.cell? ⟨X, 4, none⟩ = some (.int .i64 d1.co) := blk_cell hS_.1 4
        have hx_5 : w'.cell? ⟨X, 5, none⟩ = some (.int .i64 d1.er) := blk_cell hS_.1 5
        have hx_6 : w'.cell? ⟨X, 6, none⟩ = some (.int .u32 d1.nr) := blk_cell hS_.1 6
        have hx_7 : w'.cell? ⟨X, 7, none⟩ = some (.int .u32 d1.ar) := blk_cell hS_.1 7
        have hx_8 : w'.cell? ⟨X, 8, none⟩ = some (.slice A3 m c3) := blk_cell hS_.1 8
        go_simp
        with_reducible rfl
      rotate_left
      · (try simp only [Act.put, List.setIfInBounds_toArray, List.set_cons_zero, List.set_cons_succ])
        rfl
      refine take_ (i := 4) (N := some 43) (v := ?_) (a' := ?_) #[true, true, true, true, true, false, false, false] rfl rfl (take_ofW HT_.out HW_.out (by kernel_rfl)) (fun _ _ _ h => h) (Or.inl ⟨by rfl, ?_⟩) hHeld ?_ ?_
      rotate_left
      · intro w' hS_
        have hx_0 : w'.cell? ⟨w3.heap.size, 0, none⟩ = some (.bool d2.di) := blk_cell hS_.2 0
        have hx_1 : w'.cell? ⟨w3.heap.size, 1, none⟩ = some (.bool d2.ru) := blk_cell hS_.2 1
        have hx_2 : w'.cell? ⟨w3.heap.size, 2, none⟩ = some (.int .i64 d2.co) := blk_cell hS_.2 2
        have hx_3 : w'.cell? ⟨w3.heap.size, 3, none⟩ = some (.int .i64 d2.er) := blk_cell hS_.2 3
        have hx_4 : w'.cell? ⟨w3.heap.size, 4, none⟩ = some (.int .u32 d2.nr) := blk_cell hS_.2 4
        have hx_5 : w'.cell? ⟨w3.heap.size, 5, none⟩ = some (.int .u32 d2.ar) := blk_cell hS_.2 5
        go_simp
        with_reducible rfl
      rotate_left
      · (try simp only [Act.put, List.setIfInBounds_toArray, List.set_cons_zero, List.set_cons_succ])
        rfl
      refine one_ (i := 5) (N := none) #[true, true, true, true, true, true, false, false] rfl rfl (one_of HT_.out (by kernel_rfl)) (by decide) (fun K hK => ?_)
      refine store27_ (by rfl) rfl (.tmp 4) (.tmp 42) rfl d1.ac d1.co d1.er d1.nr d1.ar d1.op d1.bl d1.pe A3 m c3 (w.heap.size + 1) (by rfl) (by rfl) HY4.out ?_
      intro W5 hy5 hf5 hs5 hb5
      have HY5 := Aside0.mk hy5
      have hF5 : W5.heap[X]? = _ := (hf5 X nXY).trans hHeld.1
      have hG5 : W5.heap[w3.heap.size]? = _ := (hf5 _ nZY).trans hHeld.2
      have HH5 := Aside0.mk ((hf5 _ nHY).trans HH4.out)
      have HR5 := Aside0.mk (Kd.R_step (Kd.R_flat (ok' := fun k => k ≠ X ∧ k ≠ w.heap.size + 1 ∧ k ≠ w.heap.size + 1 + 1) (fun h => h) HR4.out (fun k hk hx => ⟨hx, fun e => Kd.R_ne HR4.out HY4.out (by decide) (e ▸ hk.symm), fun e => Kd.R_ne HR4.out HH4.out (by decide) (e ▸ hk.symm)⟩)) (fun k hk _ => hf5 k hk.2.1))
      have HB5 := Aside0.mk (HB4.out.trans (hb5 w.heap.size (by omega)))
      clear hy5 hf5 hb5 HX4 HY4 HH4 HZ4 HR4 HB4 hHeld
      refine hK.out _ _ ⟨hF5, hG5⟩ (fun hHeld => ?_)
      clear hK K hF5 hG5 hs5
      refine one_ (i := 6) (N := none) #[true, true, true, true, true, true, true, false] rfl rfl (one_of HT_.out (by kernel_rfl)) (by decide) (fun K hK => ?_)
      refine store33_ (by rfl) rfl (.tmp 5) (.tmp 43) rfl d2.co d2.er d2.nr d2.ar d2.di d2.ru (w.heap.size + 1 + 1) (by rfl) (by rfl) HH5.out ?_
      intro W6 hy5 hf5 hs5 hb5
      have HH6 := Aside0.mk hy5
      have hF5 : W6.heap[X]? = _ := (hf5 X nXH).trans hHeld.1
      have hG5 : W6.heap[w3.heap.size]? = _ := (hf5 _ nZH).trans hHeld.2
      have HY6 := Aside0.mk ((hf5 _ nYH).trans HY5.out)
      have HR6 := Aside0.mk (Kd.R_mono (ok' := fun _ => True) (Kd.R_step HR5.out (fun k hk _ => hf5 k hk.2.2)) (fun _ _ => trivial))
      have HB6 := Aside0.mk (HB5.out.trans (hb5 w.heap.size (by omega)))
      clear hy5 hf5 hb5 HY5 HH5 HR5 HB5 hHeld
      refine hK.out _ _ ⟨hF5, hG5⟩ (fun hHeld => ?_)
      clear hK K hF5 hG5 hs5
      refine pure_ (i := 7) (N := some 6) (v := ?_) (a' := ?_) #[true, true, true, true, true, true, true, true] rfl rfl (any_of HT_.out (by kernel_rfl)) (fun _ _ _ h => h) (Or.inl ⟨by rfl, ?_⟩) ?_ ?_
      rotate_left
      · intro w'
        go_simp
        with_reducible rfl
      rotate_left
      · (try simp only [Act.put, List.setIfInBounds_toArray, List.set_cons_zero, List.set_cons_succ])
        rfl
      refine done_ (done_of HT_.out (by kernel_rfl)) ?_
      clear HT_ HW_ hHeld
      go_wp2
      refine bodyPost_ret (results_list (rs := [.cell 4 27, .cell 5 33, .tmp 6]) rfl (by simp) (.cell (w.heap.size + 1) 27 #[.int .i64 d1.ac, .bool d1.op, .bool d1.bl, .bool d1.pe, .int .i64 d1.co, .int .i64 d1.er, .int .u32 d1.nr, .int .u32 d1.ar, .slice A3 m c3] (0, 0) _ rfl ?hy1_ Try.underlying27 rfl (by kernel_rfl) (.cell (w.heap.size + 1 + 1) 33 #[.bool d2.di, .bool d2.ru, .int .i64 d2.co, .int .i64 d2.er, .int .u32 d2.nr, .int .u32 d2.ar] (0, 0) _ rfl ?hz1_ Try.underlying33 rfl (by kernel_rfl) (.tmp .nil)))) rfl ?_
      case hy1_ => (repeat (with_reducible first | exact HY6.out | refine blk_drewN ?_ _ | refine blk_drew ?_ | refine far9 ?_ (by assumption) _ _ _ _ _ _ _ _ _ | refine far6 ?_ (by assumption) _ _ _ _ _ _ | apply put9 | apply put6 | refine blk_alloc ?_ _))
      case hz1_ => (repeat (with_reducible first | exact HH6.out | refine blk_drewN ?_ _ | refine blk_drew ?_ | refine far9 ?_ (by assumption) _ _ _ _ _ _ _ _ _ | refine far6 ?_ (by assumption) _ _ _ _ _ _ | apply put9 | apply put6 | refine blk_alloc ?_ _))
      exact ⟨.slice A3 m c3, rfl, HR6.out, HB6.out⟩
    have he' : (de == 0) = false := by simpa using he
    have hrv := HRW.out.trans (if_neg he)
    subst hrv
    have hcy0 : w3.cell? ⟨w.heap.size + 1, 0, none⟩ = some (.int .i64 0) := blk_cell HY3.out 0
    have hfy0 : w3.frozen? ⟨w.heap.size + 1, 0, none⟩ = false := blk_frozen HY3.out 0
    have hcy1 : w3.cell? ⟨w.heap.size + 1, 1, none⟩ = some (.bool false) := blk_cell HY3.out 1
    have hfy1 : w3.frozen? ⟨w.heap.size + 1, 1, none⟩ = false := blk_frozen HY3.out 1
    have hcy2 : w3.cell? ⟨w.heap.size + 1, 2, none⟩ = some (.bool false) := blk_cell HY3.out 2
    have hfy2 : w3.frozen? ⟨w.heap.size + 1, 2, none⟩ = false := blk_frozen HY3.out 2
    have hcy3 : w3.cell? ⟨w.heap.size + 1, 3, none⟩ = some (.bool false) := blk_cell HY3.out 3
    have hfy3 : w3.frozen? ⟨w.heap.size + 1, 3, none⟩ = false := blk_frozen HY3.out 3
    have hcy4 : w3.cell? ⟨w.heap.size + 1, 4, none⟩ = some (.int .i64 0) := blk_cell HY3.out 4
    have hfy4 : w3.frozen? ⟨w.heap.size + 1, 4, none⟩ = false := blk_frozen HY3.out 4
    have hcy5 : w3.cell? ⟨w.heap.size + 1, 5, none⟩ = some (.int .i64 0) := blk_cell HY3.out 5
    have hfy5 : w3.frozen? ⟨w.heap.size + 1, 5, none⟩ = false := blk_frozen HY3.out 5
    have hcy6 : w3.cell? ⟨w.heap.size + 1, 6, none⟩ = some (.int .u32 0) := blk_cell HY3.out 6
    have hfy6 : w3.frozen? ⟨w.heap.size + 1, 6, none⟩ = false := blk_frozen HY3.out 6
    have hcy7 : w3.cell? ⟨w.heap.size + 1, 7, none⟩ = some (.int .u32 0) := blk_cell HY3.out 7
    have hfy7 : w3.frozen? ⟨w.heap.size + 1, 7, none⟩ = false := blk_frozen HY3.out 7
    have hcy8 : w3.cell? ⟨w.heap.size + 1, 8, none⟩ = some (.slice none 0 0) := blk_cell HY3.out 8
    have hfy8 : w3.frozen? ⟨w.heap.size + 1, 8, none⟩ = false := blk_frozen HY3.out 8
    have hcz0 : w3.cell? ⟨w.heap.size + 1 + 1, 0, none⟩ = some (.bool false) := blk_cell HH3.out 0
    have hfz0 : w3.frozen? ⟨w.heap.size + 1 + 1, 0, none⟩ = false := blk_frozen HH3.out 0
    have hcz1 : w3.cell? ⟨w.heap.size + 1 + 1, 1, none⟩ = some (.bool false) := blk_cell HH3.out 1
    have hfz1 : w3.frozen? ⟨w.heap.size + 1 + 1, 1, none⟩ = false := blk_frozen HH3.out 1
    have hcz2 : w3.cell? ⟨w.heap.size + 1 + 1, 2, none⟩ = some (.int .i64 0) := blk_cell HH3.out 2
    have hfz2 : w3.frozen? ⟨w.heap.size + 1 + 1, 2, none⟩ = false := blk_frozen HH3.out 2
    have hcz3 : w3.cell? ⟨w.heap.size + 1 + 1, 3, none⟩ = some (.int .i64 0) := blk_cell HH3.out 3
    have hfz3 : w3.frozen? ⟨w.heap.size + 1 + 1, 3, none⟩ = false := blk_frozen HH3.out 3
    have hcz4 : w3.cell? ⟨w.heap.size + 1 + 1, 4, none⟩ = some (.int .u32 0) := blk_cell HH3.out 4
    have hfz4 : w3.frozen? ⟨w.heap.size + 1 + 1, 4, none⟩ = false := blk_frozen HH3.out 4
    have hcz5 : w3.cell? ⟨w.heap.size + 1 + 1, 5, none⟩ = some (.int .u32 0) := blk_cell HH3.out 5
    have hfz5 : w3.frozen? ⟨w.heap.size + 1 + 1, 5, none⟩ = false := blk_frozen HH3.out 5
    go_wp2
    refine bodyPost_ret (results_list (rs := [.cell 4 27, .cell 5 33, .tmp 6]) rfl (by simp) (.cell (w.heap.size + 1) 27 #[.int .i64 0, .bool false, .bool false, .bool false, .int .i64 0, .int .i64 0, .int .u32 0, .int .u32 0, .slice none 0 0] (0, 0) _ rfl ?hy2_ Try.underlying27 rfl (by kernel_rfl) (.cell (w.heap.size + 1 + 1) 33 #[.bool false, .bool false, .int .i64 0, .int .i64 0, .int .u32 0, .int .u32 0] (0, 0) _ rfl ?hz2_ Try.underlying33 rfl (by kernel_rfl) (.tmp .nil)))) rfl ?_
    case hy2_ => (repeat (with_reducible first | exact HY3.out | refine blk_drewN ?_ _ | refine blk_drew ?_ | refine far9 ?_ (by assumption) _ _ _ _ _ _ _ _ _ | refine far6 ?_ (by assumption) _ _ _ _ _ _ | apply put9 | apply put6 | refine blk_alloc ?_ _))
    case hz2_ => (repeat (with_reducible first | exact HH3.out | refine blk_drewN ?_ _ | refine blk_drew ?_ | refine far9 ?_ (by assumption) _ _ _ _ _ _ _ _ _ | refine far6 ?_ (by assumption) _ _ _ _ _ _ | apply put9 | apply put6 | refine blk_alloc ?_ _))
    refine ⟨.slice none 0 0, rfl, Kd.R_nil _ _ _ _ _, ?_⟩
    (repeat (with_reducible first | exact HB3.out | refine Below.setCell ?_ (by dsimp only; omega) _ | refine below_drewN' ?_ _ | refine below_drew' ?_ | refine below_alloc ?_ _))
  have hck' : (ck == 0) = false := by simpa using hck
  have nYH : w.heap.size + 1 ≠ w.heap.size + 1 + 1 := by omega
  have nHY : w.heap.size + 1 + 1 ≠ w.heap.size + 1 := by omega
  have hrv := HRV.out
  rw [if_neg hck] at hrv
  subst hrv
  have hcy0 : w1.cell? ⟨w.heap.size + 1, 0, none⟩ = some (.int .i64 0) := blk_cell HY.out 0
  have hfy0 : w1.frozen? ⟨w.heap.size + 1, 0, none⟩ = false := blk_frozen HY.out 0
  have hcy1 : w1.cell? ⟨w.heap.size + 1, 1, none⟩ = some (.bool false) := blk_cell HY.out 1
  have hfy1 : w1.frozen? ⟨w.heap.size + 1, 1, none⟩ = false := blk_frozen HY.out 1
  have hcy2 : w1.cell? ⟨w.heap.size + 1, 2, none⟩ = some (.bool false) := blk_cell HY.out 2
  have hfy2 : w1.frozen? ⟨w.heap.size + 1, 2, none⟩ = false := blk_frozen HY.out 2
  have hcy3 : w1.cell? ⟨w.heap.size + 1, 3, none⟩ = some (.bool false) := blk_cell HY.out 3
  have hfy3 : w1.frozen? ⟨w.heap.size + 1, 3, none⟩ = false := blk_frozen HY.out 3
  have hcy4 : w1.cell? ⟨w.heap.size + 1, 4, none⟩ = some (.int .i64 0) := blk_cell HY.out 4
  have hfy4 : w1.frozen? ⟨w.heap.size + 1, 4, none⟩ = false := blk_frozen HY.out 4
  have hcy5 : w1.cell? ⟨w.heap.size + 1, 5, none⟩ = some (.int .i64 0) := blk_cell HY.out 5
  have hfy5 : w1.frozen? ⟨w.heap.size + 1, 5, none⟩ = false := blk_frozen HY.out 5
  have hcy6 : w1.cell? ⟨w.heap.size + 1, 6, none⟩ = some (.int .u32 0) := blk_cell HY.out 6
  have hfy6 : w1.frozen? ⟨w.heap.size + 1, 6, none⟩ = false := blk_frozen HY.out 6
  have hcy7 : w1.cell? ⟨w.heap.size + 1, 7, none⟩ = some (.int .u32 0) := blk_cell HY.out 7
  have hfy7 : w1.frozen? ⟨w.heap.size + 1, 7, none⟩ = false := blk_frozen HY.out 7
  have hcy8 : w1.cell? ⟨w.heap.size + 1, 8, none⟩ = some (.slice none 0 0) := blk_cell HY.out 8
  have hfy8 : w1.frozen? ⟨w.heap.size + 1, 8, none⟩ = false := blk_frozen HY.out 8
  have hcz0 : w1.cell? ⟨w.heap.size + 1 + 1, 0, none⟩ = some (.bool false) := blk_cell HH.out 0
  have hfz0 : w1.frozen? ⟨w.heap.size + 1 + 1, 0, none⟩ = false := blk_frozen HH.out 0
  have hcz1 : w1.cell? ⟨w.heap.size + 1 + 1, 1, none⟩ = some (.bool false) := blk_cell HH.out 1
  have hfz1 : w1.frozen? ⟨w.heap.size + 1 + 1, 1, none⟩ = false := blk_frozen HH.out 1
  have hcz2 : w1.cell? ⟨w.heap.size + 1 + 1, 2, none⟩ = some (.int .i64 0) := blk_cell HH.out 2
  have hfz2 : w1.frozen? ⟨w.heap.size + 1 + 1, 2, none⟩ = false := blk_frozen HH.out 2
  have hcz3 : w1.cell? ⟨w.heap.size + 1 + 1, 3, none⟩ = some (.int .i64 0) := blk_cell HH.out 3
  have hfz3 : w1.frozen? ⟨w.heap.size + 1 + 1, 3, none⟩ = false := blk_frozen HH.out 3
  have hcz4 : w1.cell? ⟨w.heap.size + 1 + 1, 4, none⟩ = some (.int .u32 0) := blk_cell HH.out 4
  have hfz4 : w1.frozen? ⟨w.heap.size + 1 + 1, 4, none⟩ = false := blk_frozen HH.out 4
  have hcz5 : w1.cell? ⟨w.heap.size + 1 + 1, 5, none⟩ = some (.int .u32 0) := blk_cell HH.out 5
  have hfz5 : w1.frozen? ⟨w.heap.size + 1 + 1, 5, none⟩ = false := blk_frozen HH.out 5
  go_wp2
  refine bodyPost_ret (results_list (rs := [.cell 4 27, .cell 5 33, .tmp 6]) rfl (by simp) (.cell (w.heap.size + 1) 27 #[.int .i64 0, .bool false, .bool false, .bool false, .int .i64 0, .int .i64 0, .int .u32 0, .int .u32 0, .slice none 0 0] (0, 0) _ rfl ?hy3_ Try.underlying27 rfl (by kernel_rfl) (.cell (w.heap.size + 1 + 1) 33 #[.bool false, .bool false, .int .i64 0, .int .i64 0, .int .u32 0, .int .u32 0] (0, 0) _ rfl ?hz3_ Try.underlying33 rfl (by kernel_rfl) (.tmp .nil)))) rfl ?_
  case hy3_ => (repeat (with_reducible first | exact HY.out | refine blk_drewN ?_ _ | refine blk_drew ?_ | refine far9 ?_ (by assumption) _ _ _ _ _ _ _ _ _ | refine far6 ?_ (by assumption) _ _ _ _ _ _ | apply put9 | apply put6 | refine blk_alloc ?_ _))
  case hz3_ => (repeat (with_reducible first | exact HH.out | refine blk_drewN ?_ _ | refine blk_drew ?_ | refine far9 ?_ (by assumption) _ _ _ _ _ _ _ _ _ | refine far6 ?_ (by assumption) _ _ _ _ _ _ | apply put9 | apply put6 | refine blk_alloc ?_ _))
  refine ⟨.slice none 0 0, rfl, Kd.R_nil _ _ _ _ _, ?_⟩
  (repeat (with_reducible first | exact HB.out | refine Below.setCell ?_ (by dsimp only; omega) _ | refine below_drewN' ?_ _ | refine below_drew' ?_ | refine below_alloc ?_ _))
theorem with_block (b : Bool) (s : Sg) (A : Option Addr) (c : Nat) (w : World) (C : Nat) (hC : w.heap[C]? = some (.cells #[.bool b] 4 (0, 0))) (hr0 : Kd.C Kd.bool w A s.l.length s.l) (hc0 : s.l.length ≤ c) :
    Calls Try.prog 16 #[.agg #[.int .i64 s.ac, .bool s.op, .bool s.bl, .bool s.pe, .int .i64 s.co, .int .i64 s.er, .int .u32 s.nr, .int .u32 s.ar, .slice A s.l.length c], .func (Fn.func 17) #[] #[.pointer (some ⟨C, 0, none⟩)]] w (Outs (s.withV (s.blockD b)) w) := by
  refine with_gen 17 Try.f17 Try.func17 (by kernel_rfl) rfl #[.pointer (some ⟨C, 0, none⟩)] (s.blockD b) s A c w hr0 hc0 (fun X W2 v hX hB hP => ?_)
  have h := block1_w w.heap.size X C b s v W2 (by omega) ((hB.block C (blk_lt hC)).trans hC) hP
  exact h
theorem with_fork  (s : Sg) (A : Option Addr) (c : Nat) (w : World) (hr0 : Kd.C Kd.bool w A s.l.length s.l) (hc0 : s.l.length ≤ c) :
    Calls Try.prog 16 #[.agg #[.int .i64 s.ac, .bool s.op, .bool s.bl, .bool s.pe, .int .i64 s.co, .int .i64 s.er, .int .u32 s.nr, .int .u32 s.ar, .slice A s.l.length c], .func (Fn.func 29) #[] #[]] w (Outs (s.withV s.forkD) w) := by
  refine with_gen 29 Try.f29 Try.func29 (by kernel_rfl) rfl #[] s.forkD s A c w hr0 hc0 (fun X W2 v hX hB hP => ?_)
  have h := fork1_w w.heap.size X  s v W2 (by omega) hP
  exact h
theorem with_exec  (s : Sg) (A : Option Addr) (c : Nat) (w : World) (hr0 : Kd.C Kd.bool w A s.l.length s.l) (hc0 : s.l.length ≤ c) :
    Calls Try.prog 16 #[.agg #[.int .i64 s.ac, .bool s.op, .bool s.bl, .bool s.pe, .int .i64 s.co, .int .i64 s.er, .int .u32 s.nr, .int .u32 s.ar, .slice A s.l.length c], .func (Fn.func 30) #[] #[]] w (Outs (s.withV s.execD) w) := by
  refine with_gen 30 Try.f30 Try.func30 (by kernel_rfl) rfl #[] s.execD s A c w hr0 hc0 (fun X W2 v hX hB hP => ?_)
  have h := exec1_w w.heap.size X  s v W2 (by omega) hP
  exact h
theorem with_force (co er nr ar : Int) (s : Sg) (A : Option Addr) (c : Nat) (w : World) (C : Nat) (hC : w.heap[C]? = some (.cells #[.int .i64 co, .int .i64 er, .int .u32 nr, .int .u32 ar] 24 (0, 0))) (hr0 : Kd.C Kd.bool w A s.l.length s.l) (hc0 : s.l.length ≤ c) :
    Calls Try.prog 16 #[.agg #[.int .i64 s.ac, .bool s.op, .bool s.bl, .bool s.pe, .int .i64 s.co, .int .i64 s.er, .int .u32 s.nr, .int .u32 s.ar, .slice A s.l.length c], .func (Fn.func 24) #[] #[.pointer (some ⟨C, 0, none⟩)]] w (Outs (s.withV (s.forceD co er nr ar)) w) := by
  refine with_gen 24 Try.f24 Try.func24 (by kernel_rfl) rfl #[.pointer (some ⟨C, 0, none⟩)] (s.forceD co er nr ar) s A c w hr0 hc0 (fun X W2 v hX hB hP => ?_)
  have h := force1_w w.heap.size X C co er nr ar s v W2 (by omega) ((hB.block C (blk_lt hC)).trans hC) (by have := blk_lt hC; omega) hP
  exact h
theorem with_set (a : Int) (q : Bool) (s : Sg) (A : Option Addr) (c : Nat) (w : World) (C : Nat) (D : Nat) (hC : w.heap[C]? = some (.cells #[.int .i64 a] 3 (0, 0))) (hD : w.heap[D]? = some (.cells #[.bool q] 4 (0, 0))) (hr0 : Kd.C Kd.bool w A s.l.length s.l) (hc0 : s.l.length ≤ c) :
    Calls Try.prog 16 #[.agg #[.int .i64 s.ac, .bool s.op, .bool s.bl, .bool s.pe, .int .i64 s.co, .int .i64 s.er, .int .u32 s.nr, .int .u32 s.ar, .slice A s.l.length c], .func (Fn.func 22) #[] #[.pointer (some ⟨C, 0, none⟩), .pointer (some ⟨D, 0, none⟩)]] w (Outs (s.withV (s.setD a q)) w) := by
  refine with_gen 22 Try.f22 Try.func22 (by kernel_rfl) rfl #[.pointer (some ⟨C, 0, none⟩), .pointer (some ⟨D, 0, none⟩)] (s.setD a q) s A c w hr0 hc0 (fun X W2 v hX hB hP => ?_)
  have h := set1_w w.heap.size X C D a q s v W2 (by omega) ((hB.block C (blk_lt hC)).trans hC) ((hB.block D (blk_lt hD)).trans hD) (by have := blk_lt hC; omega) (by have := blk_lt hD; omega) hP
  exact h
theorem with_send (co er nr ar : Int) (s : Sg) (A : Option Addr) (c : Nat) (w : World) (C : Nat) (hC : w.heap[C]? = some (.cells #[.int .i64 co, .int .i64 er, .int .u32 nr, .int .u32 ar] 24 (0, 0))) (hr0 : Kd.C Kd.bool w A s.l.length s.l) (hc0 : s.l.length ≤ c) :
    Calls Try.prog 16 #[.agg #[.int .i64 s.ac, .bool s.op, .bool s.bl, .bool s.pe, .int .i64 s.co, .int .i64 s.er, .int .u32 s.nr, .int .u32 s.ar, .slice A s.l.length c], .func (Fn.func 19) #[] #[.pointer (some ⟨C, 0, none⟩)]] w (Outs (s.withV (s.sendD co er nr ar)) w) := by
  refine with_gen 19 Try.f19 Try.func19 (by kernel_rfl) rfl #[.pointer (some ⟨C, 0, none⟩)] (s.sendD co er nr ar) s A c w hr0 hc0 (fun X W2 v hX hB hP => ?_)
  have h := send1_w w.heap.size X C co er nr ar s v W2 (by omega) ((hB.block C (blk_lt hC)).trans hC) (by have := blk_lt hC; omega) hP
  exact h
theorem with_return  (s : Sg) (A : Option Addr) (c : Nat) (w : World) (hr0 : Kd.C Kd.bool w A s.l.length s.l) (hc0 : s.l.length ≤ c) :
    Calls Try.prog 16 #[.agg #[.int .i64 s.ac, .bool s.op, .bool s.bl, .bool s.pe, .int .i64 s.co, .int .i64 s.er, .int .u32 s.nr, .int .u32 s.ar, .slice A s.l.length c], .func (Fn.func 25) #[] #[]] w (Outs (s.withV s.retD) w) := by
  refine with_gen 25 Try.f25 Try.func25 (by kernel_rfl) rfl #[] s.retD s A c w hr0 hc0 (fun X W2 v hX hB hP => ?_)
  have h := return1_w w.heap.size X  s v W2 (by omega) hP
  exact h
end Go.Proofs.Ytbpgpbbpeppjmaa.SG
