import Derived.Test.YtcbiehinhmkjmaaDoorNH
namespace Go.Proofs.YtcbiehinhmkjmaaDoor.NB
open Go.RowKit Go.Proofs.YtcbiehinhmkjmaaDoorW.PrintWords Go.Proofs.YtcbiehinhmkjmaaDoorW.PrintLast Go.Proofs.YtcbiehinhmkjmaaDoorW.PrintMore
open Go.Proofs.YtcbiehinhmkjmaaDoor.PB
set_option linter.unusedVariables false
set_option linter.unusedSimpArgs false

def goneR (nx : Int) (l : List S36) (t : Int) : Int × List S36 × Int × Bool := if Dok nx l then (nx, goneL l t, 0, goneB l t) else (0, [], 350, false)
def takeR (nx : Int) (l : List S36) : Int × List S36 × Int × S36 := if Dok nx l then (if takeE l = 0 then (nx, takeL l, 0, tookV l) else (0, [], takeE l, tookV l)) else (0, [], 350, z36)
def askR (nx : Int) (l : List S36) (t : Int) (x : S29) : Int × List S36 × Int × Int := if Dok nx l then (if askE nx l t = 0 then (nx + 1, l ++ [newN nx t x], 0, askC nx l t) else (0, [], askE nx l t, askC nx l t)) else (0, [], 350, 0)
theorem clone_f (l : List S36) (h : l.length ≤ 100) : api_Notice_42.f l = some l := by
 unfold api_Notice_42.f
 simp only [Option.bind_some, List.length_nil, List.nil_append]
 rw [if_pos (by omega)]
theorem chk_ok {nx : Int} {l : List S36} (h : Dok nx l) : chkV nx l = 0 := if_pos h
theorem chk_no {nx : Int} {l : List S36} (h : ¬ Dok nx l) : chkV nx l = 350 := if_neg h
set_option maxRecDepth 100000 in
set_option maxHeartbeats 4000000 in
theorem turn38_w (C D : Nat) (t : Int) (nx : Int) (A : Option Addr) (c : Nat) (l : List S36) (hc : l.length ≤ c) (w : World) (hr : Kd.C k36 w A l.length l) (hCD : C ≠ D) (hC : w.heap[C]? = some (.cells #[.int .i64 t] 3 (0, 0))) (hD : w.heap[D]? = some (.cells #[.bool false] 4 (0, 0))) :
  Calls Tryd.prog 25 #[.agg #[.int .u64 nx, .slice A l.length c], .func (.func 38) #[] #[.pointer (some ⟨C, 0, none⟩), .pointer (some ⟨D, 0, none⟩)]] w fun e w' => ∃ v : Value, e = .returned (.tuple #[.agg #[.int .u64 (goneR nx l t).1, v], .int .i64 (goneR nx l t).2.2.1]) ∧ Kd.R k36 36 w' w.heap.size (fun _ => True) v (goneR nx l t).2.1 ∧ w'.heap[D]? = some (.cells #[.bool (goneR nx l t).2.2.2] 4 (0, 0)) ∧ Stay (fun q => q = D) w.heap.size w w' := by
 obtain ⟨m, hm⟩ : ∃ m, m = l.length := ⟨_, rfl⟩
 have HM := Lib.hid hm
 have hB1 : Below w.heap.size w ((w.alloc (.cells #[.int .u64 nx, .slice A m c] 25)).alloc (.cells #[.int .u64 0, .slice none 0 0] 25)) := ((Below.refl _ w).alloc (Nat.le_refl _) _).alloc (by simp) _
 have HB1 := Lib.hid hB1
 have HC1 := Lib.hid (Kd.C_below hr hB1)
 have HCK : Hid (∀ W : World, Kd.C k36 W A m l → Calls Tryd.prog 21 #[.agg #[.int .u64 nx, .slice A m c]] W fun e w' => e = .returned (.int .i64 (chkV nx l)) ∧ Below W.heap.size W w') := by
  rw [hm]
  exact Lib.hid (fun W h => check_w nx A c l hc W h)
 have HCN : Hid (∀ W : World, Kd.C k36 W A m l → api_Notice_42.f l = some l → Calls Tryd.prog 42 #[.slice A m c] W fun e w' => ∃ v0_ : Value, e = .returned (v0_) ∧ Kd.R k36 36 w' W.heap.size (fun _ => True) v0_ l ∧ Below W.heap.size W w') := by
  rw [hm]
  exact Lib.hid (fun W h hf => api_Notice_42.calls A c l l W h hc hf)
 have HX1 := Lib.hid (al_keep (o := (.cells #[.int .u64 0, .slice none 0 0] 25)) (al_new w (.cells #[.int .u64 nx, .slice A m c] 25)))
 have hz := al_new (w.alloc (.cells #[.int .u64 nx, .slice A m c] 25)) (.cells #[.int .u64 0, .slice none 0 0] 25)
 rw [World.size_alloc] at hz
 have HZ1 := Lib.hid hz
 have clt := blk_lt hC
 have hC0 := Lib.hid hC
 have dlt := blk_lt hD
 have hD0 := Lib.hid hD
 have hCX : C ≠ w.heap.size := by omega
 have hDX : D ≠ w.heap.size := by omega
 clear hr hB1 hz hC hD
 rw [← hm] at HC1 hc ⊢
 clear hm
 by_cases hok : Dok nx l
 case neg =>
  have HV := Lib.hid (chk_no hok)
  have HR := Lib.hid (show (goneR nx l t) = _ from if_neg hok)
  clear hok
  go_enter Tryd.func25, Tryd.ntmps25
  go_wp2_with (first | (go_at_call 21; (with_reducible refine (HCK.out _ HC1.out).mono ?_); rintro e w2 ⟨he, hb⟩; rw [HV.out] at he; subst he; have HB2 := Lib.hid (HB1.out.trans (hb.mono HB1.out.size)); have HX2 := Lib.hid ((hb.block _ (blk_lt HX1.out)).trans HX1.out); have HZ2 := Lib.hid ((hb.block _ (blk_lt HZ1.out)).trans HZ1.out); have hs2 := blk_lt HZ2.out; clear hb; have d0 := blk_cell HZ2.out 0; have d1 := blk_cell HZ2.out 1; have df0 := blk_frozen HZ2.out 0; have df1 := blk_frozen HZ2.out 1))
  refine bodyPost_ret (v := .tuple #[.agg #[.int .u64 0, .slice none 0 0], .int .i64 350]) (by simp [results, Tryd.results25, go_sem, d0, d1, hs2]) rfl ?_
  refine ⟨.slice none 0 0, by rw [HR.out], by rw [HR.out]; exact Kd.R_nil _ _ _ _ _, ?_, ?_⟩
  ·rw [HR.out]
   (repeat (with_reducible first | exact (HB2.out.block _ dlt).trans hD0.out | refine (Below.heap_setCell _ _ _ _ (by dsimp only; omega)).trans ?_))
  ·(repeat (with_reducible first | exact (Stay.below HB2.out (Nat.le_refl _)) | refine Stay.set ?_ _ _ (fun q => absurd q (by dsimp only; omega))))
 have HV := Lib.hid (chk_ok hok)
 have hl8 : m ≤ 8 := by have := hok.2.2.1; have := HM.out; omega
 have HNX := Lib.hid (And.intro hok.1 hok.2.1)
 have HL1 := Lib.hid (show l.length ≤ 100 by have := HM.out; omega)
 have HCL := Lib.hid (clone_f l (by have := HM.out; omega))
 have HR := Lib.hid (show (goneR nx l t) = _ from if_pos hok)
 clear hok
 go_enter Tryd.func25, Tryd.ntmps25
 go_wp2_with (first | (go_at_call 21; (with_reducible refine (HCK.out _ HC1.out).mono ?_); rintro e w2 ⟨he, hb⟩; rw [HV.out] at he; subst he; have HB2 := Lib.hid (HB1.out.trans (hb.mono HB1.out.size)); have HX2 := Lib.hid ((hb.block _ (blk_lt HX1.out)).trans HX1.out); have HZ2 := Lib.hid ((hb.block _ (blk_lt HZ1.out)).trans HZ1.out); have hs2 := blk_lt HZ2.out; have HC2 := Lib.hid (Kd.C_below HC1.out hb); clear hb; have y1 := blk_cell HX2.out 1; have y0 := blk_cell HX2.out 0) | (go_at_call 42; (with_reducible refine (HCN.out _ HC2.out HCL.out).mono ?_); rintro e w3 ⟨v0, rfl, hR3, hb3⟩; obtain ⟨A0, c0, rfl⟩ := Kd.R_slice hR3; rw [← HM.out] at hR3 ⊢; clear y0 y1; have HX3 := Lib.hid ((hb3.block _ (blk_lt HX2.out)).trans HX2.out); have HZ3 := Lib.hid ((hb3.block _ (blk_lt HZ2.out)).trans HZ2.out); have HB3 := Lib.hid (HB2.out.trans (hb3.mono HB2.out.size)); have hs3 := blk_lt HZ3.out; have HD4 := Lib.hid (show Desk (w3.setCell ⟨w.heap.size, 1, none⟩ (.slice A0 m c0)) (w.heap.size + 2) w.heap.size nx (.slice A0 m c0) l from ⟨blk_put HX3.out 1 _ rfl, Kd.R_far (Kd.R_lower (Kd.R_mono (Kd.R_bound hR3) (fun k hk => by have := hk.2.1; omega)) (by omega)) (fun k hk e => by dsimp only at e; omega) _⟩); have HZ4 := Lib.hid (blk_far (HZ3.out) (p := ⟨w.heap.size, 1, none⟩) (by dsimp only; omega) (.slice A0 m c0)); have HB4 := Lib.hid (show (w.heap.size + 2) ≤ (w3.setCell ⟨w.heap.size, 1, none⟩ (.slice A0 m c0)).heap.size from (by rw [World.size_setCell]; omega)); have HS4 := Lib.hid ((Stay.below (S := (fun q => q = D)) HB3.out (Nat.le_refl _)).set ⟨w.heap.size, 1, none⟩ (.slice A0 m c0) (fun q => absurd q (by dsimp only; omega))); have hC4 := Lib.hid (blk_far ((HB3.out.block _ clt).trans hC0.out) (p := ⟨w.heap.size, 1, none⟩) hCX (.slice A0 m c0)); have hD4 := Lib.hid (blk_far ((HB3.out.block _ dlt).trans hD0.out) (p := ⟨w.heap.size, 1, none⟩) hDX (.slice A0 m c0)); clear hR3 hb3; have y1 := blk_cell HX3.out 1; have y0 := blk_cell HX3.out 0; have yf := blk_frozen HX3.out 1; have yl := blk_lt HX3.out) | (go_at_call 38; refine (gone1_w (w.heap.size + 2) w.heap.size C D nx _ l t _ (by omega) HB4.out hDX (by omega) HL1.out HD4.out hC4.out hD4.out).mono ?_; rintro e w5 ⟨he, hd, hcap, hst⟩; subst he; clear y0 y1 yf yl; have HZ5 := Lib.hid ((hst.block (w.heap.size + 1) (by omega) (fun h => by rcases h with h | h <;> omega)).trans HZ4.out); have HCAP := Lib.hid hcap; have HS5 := Lib.hid (HS4.out.trans (show Stay (fun q => q = D) w.heap.size _ w5 from ⟨hst.os, hst.tape, hst.output, hst.size, fun q hq hn => hst.block q (by omega) (fun h => h.elim (fun h => by omega) (fun h => hn h))⟩)); have hs5 := blk_lt HZ5.out; have d0 := blk_cell HZ5.out 0; have d1 := blk_cell HZ5.out 1; have df0 := blk_frozen HZ5.out 0; have df1 := blk_frozen HZ5.out 1; obtain ⟨v5, HD5⟩ := hd; obtain ⟨A5, c5, rfl⟩ := Kd.R_slice HD5.2; have HX5 := Lib.hid HD5.1; have HR5 := Lib.hid HD5.2; clear HD5 hcap hst; obtain ⟨n5, hn5⟩ : ∃ n, n = (goneL l t).length := ⟨_, rfl⟩; rw [← hn5] at HX5 HR5; clear hn5; have x0 := blk_cell HX5.out 0; have x1 := blk_cell HX5.out 1; have xl := blk_lt HX5.out))
 refine bodyPost_ret (v := .tuple #[.agg #[.int .u64 nx, .slice A5 n5 c5], .int .i64 0]) (by simp [results, Tryd.results25, go_sem, d0, d1, hs5, x0, x1]) rfl ?_
 refine ⟨.slice A5 n5 c5, by rw [HR.out], ?_, ?_, ?_⟩
 ·rw [HR.out]
  exact Kd.R_mono (ok := fun k => (w.heap.size + 2) ≤ k) (Kd.R_lower (Kd.R_far (Kd.R_far HR5.out (fun k hk e => by dsimp only at e; omega) _) (fun k hk e => by dsimp only at e; omega) _) (by omega)) (fun _ _ => trivial)
 ·rw [HR.out]
  (repeat (with_reducible first | exact HCAP.out | refine (Below.heap_setCell _ _ _ _ (by dsimp only; omega)).trans ?_))
 ·(repeat (with_reducible first | exact HS5.out | refine Stay.set ?_ _ _ (fun q => absurd q (by dsimp only; omega))))
set_option maxRecDepth 100000 in
set_option maxHeartbeats 4000000 in
theorem turn30_w (C : Nat) (nx : Int) (A : Option Addr) (c : Nat) (l : List S36) (hc : l.length ≤ c) (w : World) (hr : Kd.C k36 w A l.length l) (hC : w.heap[C]? = some (.cells #[.int .u64 0, .int .i64 0, .int .u32 0, .int .u32 0, .int .u64 0, .int .u64 0, .int .u64 0, .int .u64 0, .int .u64 0, .int .u64 0, .int .u64 0, .bool false] 36 (0, 0))) :
  Calls Tryd.prog 25 #[.agg #[.int .u64 nx, .slice A l.length c], .func (.func 30) #[] #[.pointer (some ⟨C, 0, none⟩)]] w fun e w' => ∃ v : Value, e = .returned (.tuple #[.agg #[.int .u64 (takeR nx l).1, v], .int .i64 (takeR nx l).2.2.1]) ∧ Kd.R k36 36 w' w.heap.size (fun _ => True) v (takeR nx l).2.1 ∧ w'.heap[C]? = some (.cells #[.int .u64 (takeR nx l).2.2.2.f0, .int .i64 (takeR nx l).2.2.2.f1, .int .u32 (takeR nx l).2.2.2.f2.f0, .int .u32 (takeR nx l).2.2.2.f2.f1, .int .u64 (takeR nx l).2.2.2.f2.f2, .int .u64 (takeR nx l).2.2.2.f2.f3.f0, .int .u64 (takeR nx l).2.2.2.f2.f3.f1, .int .u64 (takeR nx l).2.2.2.f2.f3.f2, .int .u64 (takeR nx l).2.2.2.f2.f3.f3, .int .u64 (takeR nx l).2.2.2.f2.f3.f4, .int .u64 (takeR nx l).2.2.2.f2.f3.f5, .bool (takeR nx l).2.2.2.f3] 36 (0, 0)) ∧ Stay (fun q => q = C) w.heap.size w w' := by
 obtain ⟨m, hm⟩ : ∃ m, m = l.length := ⟨_, rfl⟩
 have HM := Lib.hid hm
 have hB1 : Below w.heap.size w ((w.alloc (.cells #[.int .u64 nx, .slice A m c] 25)).alloc (.cells #[.int .u64 0, .slice none 0 0] 25)) := ((Below.refl _ w).alloc (Nat.le_refl _) _).alloc (by simp) _
 have HB1 := Lib.hid hB1
 have HC1 := Lib.hid (Kd.C_below hr hB1)
 have HCK : Hid (∀ W : World, Kd.C k36 W A m l → Calls Tryd.prog 21 #[.agg #[.int .u64 nx, .slice A m c]] W fun e w' => e = .returned (.int .i64 (chkV nx l)) ∧ Below W.heap.size W w') := by
  rw [hm]
  exact Lib.hid (fun W h => check_w nx A c l hc W h)
 have HCN : Hid (∀ W : World, Kd.C k36 W A m l → api_Notice_42.f l = some l → Calls Tryd.prog 42 #[.slice A m c] W fun e w' => ∃ v0_ : Value, e = .returned (v0_) ∧ Kd.R k36 36 w' W.heap.size (fun _ => True) v0_ l ∧ Below W.heap.size W w') := by
  rw [hm]
  exact Lib.hid (fun W h hf => api_Notice_42.calls A c l l W h hc hf)
 have HX1 := Lib.hid (al_keep (o := (.cells #[.int .u64 0, .slice none 0 0] 25)) (al_new w (.cells #[.int .u64 nx, .slice A m c] 25)))
 have hz := al_new (w.alloc (.cells #[.int .u64 nx, .slice A m c] 25)) (.cells #[.int .u64 0, .slice none 0 0] 25)
 rw [World.size_alloc] at hz
 have HZ1 := Lib.hid hz
 have clt := blk_lt hC
 have hC0 := Lib.hid hC
 have hCX : C ≠ w.heap.size := by omega
 clear hr hB1 hz hC
 rw [← hm] at HC1 hc ⊢
 clear hm
 by_cases hok : Dok nx l
 case neg =>
  have HV := Lib.hid (chk_no hok)
  have HR := Lib.hid (show (takeR nx l) = _ from if_neg hok)
  clear hok
  go_enter Tryd.func25, Tryd.ntmps25
  go_wp2_with (first | (go_at_call 21; (with_reducible refine (HCK.out _ HC1.out).mono ?_); rintro e w2 ⟨he, hb⟩; rw [HV.out] at he; subst he; have HB2 := Lib.hid (HB1.out.trans (hb.mono HB1.out.size)); have HX2 := Lib.hid ((hb.block _ (blk_lt HX1.out)).trans HX1.out); have HZ2 := Lib.hid ((hb.block _ (blk_lt HZ1.out)).trans HZ1.out); have hs2 := blk_lt HZ2.out; clear hb; have d0 := blk_cell HZ2.out 0; have d1 := blk_cell HZ2.out 1; have df0 := blk_frozen HZ2.out 0; have df1 := blk_frozen HZ2.out 1))
  refine bodyPost_ret (v := .tuple #[.agg #[.int .u64 0, .slice none 0 0], .int .i64 350]) (by simp [results, Tryd.results25, go_sem, d0, d1, hs2]) rfl ?_
  refine ⟨.slice none 0 0, by rw [HR.out], by rw [HR.out]; exact Kd.R_nil _ _ _ _ _, ?_, ?_⟩
  ·rw [HR.out]
   refine Eq.trans (b := some (.cells #[.int .u64 0, .int .i64 0, .int .u32 0, .int .u32 0, .int .u64 0, .int .u64 0, .int .u64 0, .int .u64 0, .int .u64 0, .int .u64 0, .int .u64 0, .bool false] 36 (0, 0))) ?_ rfl
   (repeat (with_reducible first | exact (HB2.out.block _ clt).trans hC0.out | refine (Below.heap_setCell _ _ _ _ (by dsimp only; omega)).trans ?_))
  ·(repeat (with_reducible first | exact (Stay.below HB2.out (Nat.le_refl _)) | refine Stay.set ?_ _ _ (fun q => absurd q (by dsimp only; omega))))
 have HV := Lib.hid (chk_ok hok)
 have hl8 : m ≤ 8 := by have := hok.2.2.1; have := HM.out; omega
 have HNX := Lib.hid (And.intro hok.1 hok.2.1)
 have HL1 := Lib.hid (show l.length ≤ 100 by have := HM.out; omega)
 have HCL := Lib.hid (clone_f l (by have := HM.out; omega))
 by_cases hE : takeE l = 0
 case neg =>
  have HE := Lib.hid (show takeE l = takeE l from rfl)
  have HR := Lib.hid (show (takeR nx l) = _ from (if_pos hok).trans (if_neg hE))
  have hEb : (takeE l != 0) = true := by simpa using hE
  have HNE := Lib.hid hE
  clear hok hE
  go_enter Tryd.func25, Tryd.ntmps25
  go_wp2_with (first | (go_at_call 21; (with_reducible refine (HCK.out _ HC1.out).mono ?_); rintro e w2 ⟨he, hb⟩; rw [HV.out] at he; subst he; have HB2 := Lib.hid (HB1.out.trans (hb.mono HB1.out.size)); have HX2 := Lib.hid ((hb.block _ (blk_lt HX1.out)).trans HX1.out); have HZ2 := Lib.hid ((hb.block _ (blk_lt HZ1.out)).trans HZ1.out); have hs2 := blk_lt HZ2.out; have HC2 := Lib.hid (Kd.C_below HC1.out hb); clear hb; have y1 := blk_cell HX2.out 1; have y0 := blk_cell HX2.out 0) | (go_at_call 42; (with_reducible refine (HCN.out _ HC2.out HCL.out).mono ?_); rintro e w3 ⟨v0, rfl, hR3, hb3⟩; obtain ⟨A0, c0, rfl⟩ := Kd.R_slice hR3; rw [← HM.out] at hR3 ⊢; clear y0 y1; have HX3 := Lib.hid ((hb3.block _ (blk_lt HX2.out)).trans HX2.out); have HZ3 := Lib.hid ((hb3.block _ (blk_lt HZ2.out)).trans HZ2.out); have HB3 := Lib.hid (HB2.out.trans (hb3.mono HB2.out.size)); have hs3 := blk_lt HZ3.out; have HD4 := Lib.hid (show Desk (w3.setCell ⟨w.heap.size, 1, none⟩ (.slice A0 m c0)) (w.heap.size + 2) w.heap.size nx (.slice A0 m c0) l from ⟨blk_put HX3.out 1 _ rfl, Kd.R_far (Kd.R_lower (Kd.R_mono (Kd.R_bound hR3) (fun k hk => by have := hk.2.1; omega)) (by omega)) (fun k hk e => by dsimp only at e; omega) _⟩); have HZ4 := Lib.hid (blk_far (HZ3.out) (p := ⟨w.heap.size, 1, none⟩) (by dsimp only; omega) (.slice A0 m c0)); have HB4 := Lib.hid (show (w.heap.size + 2) ≤ (w3.setCell ⟨w.heap.size, 1, none⟩ (.slice A0 m c0)).heap.size from (by rw [World.size_setCell]; omega)); have HS4 := Lib.hid ((Stay.below (S := (fun q => q = C)) HB3.out (Nat.le_refl _)).set ⟨w.heap.size, 1, none⟩ (.slice A0 m c0) (fun q => absurd q (by dsimp only; omega))); have hC4 := Lib.hid (blk_far ((HB3.out.block _ clt).trans hC0.out) (p := ⟨w.heap.size, 1, none⟩) hCX (.slice A0 m c0)); clear hR3 hb3; have y1 := blk_cell HX3.out 1; have y0 := blk_cell HX3.out 0; have yf := blk_frozen HX3.out 1; have yl := blk_lt HX3.out) | (go_at_call 30; refine (take1_w (w.heap.size + 2) w.heap.size C nx _ l _ (by omega) HB4.out hCX (by omega) HL1.out HD4.out hC4.out).mono ?_; rintro e w5 ⟨he, hd, hcap, hst⟩; subst he; clear y0 y1 yf yl; have HZ5 := Lib.hid ((hst.block (w.heap.size + 1) (by omega) (fun h => by rcases h with h | h <;> omega)).trans HZ4.out); have HCAP := Lib.hid hcap; have HS5 := Lib.hid (HS4.out.trans (show Stay (fun q => q = C) w.heap.size _ w5 from ⟨hst.os, hst.tape, hst.output, hst.size, fun q hq hn => hst.block q (by omega) (fun h => h.elim (fun h => by omega) (fun h => hn h))⟩)); have hs5 := blk_lt HZ5.out; have d0 := blk_cell HZ5.out 0; have d1 := blk_cell HZ5.out 1; have df0 := blk_frozen HZ5.out 0; have df1 := blk_frozen HZ5.out 1; clear hd hcap hst))
  refine bodyPost_ret (v := .tuple #[.agg #[.int .u64 0, .slice none 0 0], .int .i64 (takeE l)]) (by simp [results, Tryd.results25, go_sem, d0, d1, hs5]) rfl ?_
  refine ⟨.slice none 0 0, by rw [HR.out], by rw [HR.out]; exact Kd.R_nil _ _ _ _ _, ?_, ?_⟩
  ·rw [HR.out]
   (repeat (with_reducible first | exact HCAP.out | refine (Below.heap_setCell _ _ _ _ (by dsimp only; omega)).trans ?_))
  ·(repeat (with_reducible first | exact HS5.out | refine Stay.set ?_ _ _ (fun q => absurd q (by dsimp only; omega))))
 have HE := Lib.hid hE
 have HR := Lib.hid (show (takeR nx l) = _ from (if_pos hok).trans (if_pos hE))
 clear hok hE
 go_enter Tryd.func25, Tryd.ntmps25
 go_wp2_with (first | (go_at_call 21; (with_reducible refine (HCK.out _ HC1.out).mono ?_); rintro e w2 ⟨he, hb⟩; rw [HV.out] at he; subst he; have HB2 := Lib.hid (HB1.out.trans (hb.mono HB1.out.size)); have HX2 := Lib.hid ((hb.block _ (blk_lt HX1.out)).trans HX1.out); have HZ2 := Lib.hid ((hb.block _ (blk_lt HZ1.out)).trans HZ1.out); have hs2 := blk_lt HZ2.out; have HC2 := Lib.hid (Kd.C_below HC1.out hb); clear hb; have y1 := blk_cell HX2.out 1; have y0 := blk_cell HX2.out 0) | (go_at_call 42; (with_reducible refine (HCN.out _ HC2.out HCL.out).mono ?_); rintro e w3 ⟨v0, rfl, hR3, hb3⟩; obtain ⟨A0, c0, rfl⟩ := Kd.R_slice hR3; rw [← HM.out] at hR3 ⊢; clear y0 y1; have HX3 := Lib.hid ((hb3.block _ (blk_lt HX2.out)).trans HX2.out); have HZ3 := Lib.hid ((hb3.block _ (blk_lt HZ2.out)).trans HZ2.out); have HB3 := Lib.hid (HB2.out.trans (hb3.mono HB2.out.size)); have hs3 := blk_lt HZ3.out; have HD4 := Lib.hid (show Desk (w3.setCell ⟨w.heap.size, 1, none⟩ (.slice A0 m c0)) (w.heap.size + 2) w.heap.size nx (.slice A0 m c0) l from ⟨blk_put HX3.out 1 _ rfl, Kd.R_far (Kd.R_lower (Kd.R_mono (Kd.R_bound hR3) (fun k hk => by have := hk.2.1; omega)) (by omega)) (fun k hk e => by dsimp only at e; omega) _⟩); have HZ4 := Lib.hid (blk_far (HZ3.out) (p := ⟨w.heap.size, 1, none⟩) (by dsimp only; omega) (.slice A0 m c0)); have HB4 := Lib.hid (show (w.heap.size + 2) ≤ (w3.setCell ⟨w.heap.size, 1, none⟩ (.slice A0 m c0)).heap.size from (by rw [World.size_setCell]; omega)); have HS4 := Lib.hid ((Stay.below (S := (fun q => q = C)) HB3.out (Nat.le_refl _)).set ⟨w.heap.size, 1, none⟩ (.slice A0 m c0) (fun q => absurd q (by dsimp only; omega))); have hC4 := Lib.hid (blk_far ((HB3.out.block _ clt).trans hC0.out) (p := ⟨w.heap.size, 1, none⟩) hCX (.slice A0 m c0)); clear hR3 hb3; have y1 := blk_cell HX3.out 1; have y0 := blk_cell HX3.out 0; have yf := blk_frozen HX3.out 1; have yl := blk_lt HX3.out) | (go_at_call 30; refine (take1_w (w.heap.size + 2) w.heap.size C nx _ l _ (by omega) HB4.out hCX (by omega) HL1.out HD4.out hC4.out).mono ?_; rintro e w5 ⟨he, hd, hcap, hst⟩; rw [HE.out] at he; subst he; clear y0 y1 yf yl; have HZ5 := Lib.hid ((hst.block (w.heap.size + 1) (by omega) (fun h => by rcases h with h | h <;> omega)).trans HZ4.out); have HCAP := Lib.hid hcap; have HS5 := Lib.hid (HS4.out.trans (show Stay (fun q => q = C) w.heap.size _ w5 from ⟨hst.os, hst.tape, hst.output, hst.size, fun q hq hn => hst.block q (by omega) (fun h => h.elim (fun h => by omega) (fun h => hn h))⟩)); have hs5 := blk_lt HZ5.out; have d0 := blk_cell HZ5.out 0; have d1 := blk_cell HZ5.out 1; have df0 := blk_frozen HZ5.out 0; have df1 := blk_frozen HZ5.out 1; obtain ⟨v5, HD5⟩ := hd HE.out; obtain ⟨A5, c5, rfl⟩ := Kd.R_slice HD5.2; have HX5 := Lib.hid HD5.1; have HR5 := Lib.hid HD5.2; clear HD5 hcap hst; obtain ⟨n5, hn5⟩ : ∃ n, n = (takeL l).length := ⟨_, rfl⟩; rw [← hn5] at HX5 HR5; clear hn5; have x0 := blk_cell HX5.out 0; have x1 := blk_cell HX5.out 1; have xl := blk_lt HX5.out))
 refine bodyPost_ret (v := .tuple #[.agg #[.int .u64 nx, .slice A5 n5 c5], .int .i64 0]) (by simp [results, Tryd.results25, go_sem, d0, d1, hs5, x0, x1]) rfl ?_
 refine ⟨.slice A5 n5 c5, by rw [HR.out], ?_, ?_, ?_⟩
 ·rw [HR.out]
  exact Kd.R_mono (ok := fun k => (w.heap.size + 2) ≤ k) (Kd.R_lower (Kd.R_far (Kd.R_far HR5.out (fun k hk e => by dsimp only at e; omega) _) (fun k hk e => by dsimp only at e; omega) _) (by omega)) (fun _ _ => trivial)
 ·rw [HR.out]
  (repeat (with_reducible first | exact HCAP.out | refine (Below.heap_setCell _ _ _ _ (by dsimp only; omega)).trans ?_))
 ·(repeat (with_reducible first | exact HS5.out | refine Stay.set ?_ _ _ (fun q => absurd q (by dsimp only; omega))))
set_option maxRecDepth 100000 in
set_option maxHeartbeats 4000000 in
theorem turn26_w (C D E : Nat) (t : Int) (x : S29) (nx : Int) (A : Option Addr) (c : Nat) (l : List S36) (hc : l.length ≤ c) (w : World) (hr : Kd.C k36 w A l.length l) (hCD : C ≠ D) (hED : E ≠ D) (hC : w.heap[C]? = some (.cells #[.int .i64 t] 3 (0, 0))) (hD : w.heap[D]? = some (.cells #[.int .u64 0] 22 (0, 0))) (hE : w.heap[E]? = some (.cells #[.int .u32 x.f0, .int .u32 x.f1, .int .u64 x.f2, .int .u64 x.f3.f0, .int .u64 x.f3.f1, .int .u64 x.f3.f2, .int .u64 x.f3.f3, .int .u64 x.f3.f4, .int .u64 x.f3.f5] 29 (0, 0))) :
  Calls Tryd.prog 25 #[.agg #[.int .u64 nx, .slice A l.length c], .func (.func 26) #[] #[.pointer (some ⟨C, 0, none⟩), .pointer (some ⟨D, 0, none⟩), .pointer (some ⟨E, 0, none⟩)]] w fun e w' => ∃ v : Value, e = .returned (.tuple #[.agg #[.int .u64 (askR nx l t x).1, v], .int .i64 (askR nx l t x).2.2.1]) ∧ Kd.R k36 36 w' w.heap.size (fun _ => True) v (askR nx l t x).2.1 ∧ w'.heap[D]? = some (.cells #[.int .u64 (askR nx l t x).2.2.2] 22 (0, 0)) ∧ Stay (fun q => q = D) w.heap.size w w' := by
 obtain ⟨m, hm⟩ : ∃ m, m = l.length := ⟨_, rfl⟩
 have HM := Lib.hid hm
 have hB1 : Below w.heap.size w ((w.alloc (.cells #[.int .u64 nx, .slice A m c] 25)).alloc (.cells #[.int .u64 0, .slice none 0 0] 25)) := ((Below.refl _ w).alloc (Nat.le_refl _) _).alloc (by simp) _
 have HB1 := Lib.hid hB1
 have HC1 := Lib.hid (Kd.C_below hr hB1)
 have HCK : Hid (∀ W : World, Kd.C k36 W A m l → Calls Tryd.prog 21 #[.agg #[.int .u64 nx, .slice A m c]] W fun e w' => e = .returned (.int .i64 (chkV nx l)) ∧ Below W.heap.size W w') := by
  rw [hm]
  exact Lib.hid (fun W h => check_w nx A c l hc W h)
 have HCN : Hid (∀ W : World, Kd.C k36 W A m l → api_Notice_42.f l = some l → Calls Tryd.prog 42 #[.slice A m c] W fun e w' => ∃ v0_ : Value, e = .returned (v0_) ∧ Kd.R k36 36 w' W.heap.size (fun _ => True) v0_ l ∧ Below W.heap.size W w') := by
  rw [hm]
  exact Lib.hid (fun W h hf => api_Notice_42.calls A c l l W h hc hf)
 have HX1 := Lib.hid (al_keep (o := (.cells #[.int .u64 0, .slice none 0 0] 25)) (al_new w (.cells #[.int .u64 nx, .slice A m c] 25)))
 have hz := al_new (w.alloc (.cells #[.int .u64 nx, .slice A m c] 25)) (.cells #[.int .u64 0, .slice none 0 0] 25)
 rw [World.size_alloc] at hz
 have HZ1 := Lib.hid hz
 have clt := blk_lt hC
 have hC0 := Lib.hid hC
 have dlt := blk_lt hD
 have hD0 := Lib.hid hD
 have elt := blk_lt hE
 have hE0 := Lib.hid hE
 have hCX : C ≠ w.heap.size := by omega
 have hDX : D ≠ w.heap.size := by omega
 have hEX : E ≠ w.heap.size := by omega
 clear hr hB1 hz hC hD hE
 rw [← hm] at HC1 hc ⊢
 clear hm
 by_cases hok : Dok nx l
 case neg =>
  have HV := Lib.hid (chk_no hok)
  have HR := Lib.hid (show (askR nx l t x) = _ from if_neg hok)
  clear hok
  go_enter Tryd.func25, Tryd.ntmps25
  go_wp2_with (first | (go_at_call 21; (with_reducible refine (HCK.out _ HC1.out).mono ?_); rintro e w2 ⟨he, hb⟩; rw [HV.out] at he; subst he; have HB2 := Lib.hid (HB1.out.trans (hb.mono HB1.out.size)); have HX2 := Lib.hid ((hb.block _ (blk_lt HX1.out)).trans HX1.out); have HZ2 := Lib.hid ((hb.block _ (blk_lt HZ1.out)).trans HZ1.out); have hs2 := blk_lt HZ2.out; clear hb; have d0 := blk_cell HZ2.out 0; have d1 := blk_cell HZ2.out 1; have df0 := blk_frozen HZ2.out 0; have df1 := blk_frozen HZ2.out 1))
  refine bodyPost_ret (v := .tuple #[.agg #[.int .u64 0, .slice none 0 0], .int .i64 350]) (by simp [results, Tryd.results25, go_sem, d0, d1, hs2]) rfl ?_
  refine ⟨.slice none 0 0, by rw [HR.out], by rw [HR.out]; exact Kd.R_nil _ _ _ _ _, ?_, ?_⟩
  ·rw [HR.out]
   (repeat (with_reducible first | exact (HB2.out.block _ dlt).trans hD0.out | refine (Below.heap_setCell _ _ _ _ (by dsimp only; omega)).trans ?_))
  ·(repeat (with_reducible first | exact (Stay.below HB2.out (Nat.le_refl _)) | refine Stay.set ?_ _ _ (fun q => absurd q (by dsimp only; omega))))
 have HV := Lib.hid (chk_ok hok)
 have hl8 : m ≤ 8 := by have := hok.2.2.1; have := HM.out; omega
 have HNX := Lib.hid (And.intro hok.1 hok.2.1)
 have HL1 := Lib.hid (show l.length ≤ 100 by have := HM.out; omega)
 have HCL := Lib.hid (clone_f l (by have := HM.out; omega))
 by_cases hE : askE nx l t = 0
 case neg =>
  have HE := Lib.hid (show askE nx l t = askE nx l t from rfl)
  have HR := Lib.hid (show (askR nx l t x) = _ from (if_pos hok).trans (if_neg hE))
  have hEb : (askE nx l t != 0) = true := by simpa using hE
  have HNE := Lib.hid hE
  clear hok hE
  go_enter Tryd.func25, Tryd.ntmps25
  go_wp2_with (first | (go_at_call 21; (with_reducible refine (HCK.out _ HC1.out).mono ?_); rintro e w2 ⟨he, hb⟩; rw [HV.out] at he; subst he; have HB2 := Lib.hid (HB1.out.trans (hb.mono HB1.out.size)); have HX2 := Lib.hid ((hb.block _ (blk_lt HX1.out)).trans HX1.out); have HZ2 := Lib.hid ((hb.block _ (blk_lt HZ1.out)).trans HZ1.out); have hs2 := blk_lt HZ2.out; have HC2 := Lib.hid (Kd.C_below HC1.out hb); clear hb; have y1 := blk_cell HX2.out 1; have y0 := blk_cell HX2.out 0) | (go_at_call 42; (with_reducible refine (HCN.out _ HC2.out HCL.out).mono ?_); rintro e w3 ⟨v0, rfl, hR3, hb3⟩; obtain ⟨A0, c0, rfl⟩ := Kd.R_slice hR3; rw [← HM.out] at hR3 ⊢; clear y0 y1; have HX3 := Lib.hid ((hb3.block _ (blk_lt HX2.out)).trans HX2.out); have HZ3 := Lib.hid ((hb3.block _ (blk_lt HZ2.out)).trans HZ2.out); have HB3 := Lib.hid (HB2.out.trans (hb3.mono HB2.out.size)); have hs3 := blk_lt HZ3.out; have HD4 := Lib.hid (show Desk (w3.setCell ⟨w.heap.size, 1, none⟩ (.slice A0 m c0)) (w.heap.size + 2) w.heap.size nx (.slice A0 m c0) l from ⟨blk_put HX3.out 1 _ rfl, Kd.R_far (Kd.R_lower (Kd.R_mono (Kd.R_bound hR3) (fun k hk => by have := hk.2.1; omega)) (by omega)) (fun k hk e => by dsimp only at e; omega) _⟩); have HZ4 := Lib.hid (blk_far (HZ3.out) (p := ⟨w.heap.size, 1, none⟩) (by dsimp only; omega) (.slice A0 m c0)); have HB4 := Lib.hid (show (w.heap.size + 2) ≤ (w3.setCell ⟨w.heap.size, 1, none⟩ (.slice A0 m c0)).heap.size from (by rw [World.size_setCell]; omega)); have HS4 := Lib.hid ((Stay.below (S := (fun q => q = D)) HB3.out (Nat.le_refl _)).set ⟨w.heap.size, 1, none⟩ (.slice A0 m c0) (fun q => absurd q (by dsimp only; omega))); have hC4 := Lib.hid (blk_far ((HB3.out.block _ clt).trans hC0.out) (p := ⟨w.heap.size, 1, none⟩) hCX (.slice A0 m c0)); have hD4 := Lib.hid (blk_far ((HB3.out.block _ dlt).trans hD0.out) (p := ⟨w.heap.size, 1, none⟩) hDX (.slice A0 m c0)); have hE4 := Lib.hid (blk_far ((HB3.out.block _ elt).trans hE0.out) (p := ⟨w.heap.size, 1, none⟩) hEX (.slice A0 m c0)); clear hR3 hb3; have y1 := blk_cell HX3.out 1; have y0 := blk_cell HX3.out 0; have yf := blk_frozen HX3.out 1; have yl := blk_lt HX3.out) | (go_at_call 26; refine (ask1_w (w.heap.size + 2) w.heap.size C D E nx _ l t x _ (by omega) HB4.out (by omega) (by omega) (by omega) hCX hDX hEX hCD hED HNX.out HL1.out HD4.out hC4.out hD4.out hE4.out).mono ?_; rintro e w5 ⟨he, hd, hcap, hst⟩; subst he; clear y0 y1 yf yl; have HZ5 := Lib.hid ((hst.block (w.heap.size + 1) (by omega) (fun h => by rcases h with h | h <;> omega)).trans HZ4.out); have HCAP := Lib.hid hcap; have HS5 := Lib.hid (HS4.out.trans (show Stay (fun q => q = D) w.heap.size _ w5 from ⟨hst.os, hst.tape, hst.output, hst.size, fun q hq hn => hst.block q (by omega) (fun h => h.elim (fun h => by omega) (fun h => hn h))⟩)); have hs5 := blk_lt HZ5.out; have d0 := blk_cell HZ5.out 0; have d1 := blk_cell HZ5.out 1; have df0 := blk_frozen HZ5.out 0; have df1 := blk_frozen HZ5.out 1; clear hd hcap hst))
  refine bodyPost_ret (v := .tuple #[.agg #[.int .u64 0, .slice none 0 0], .int .i64 (askE nx l t)]) (by simp [results, Tryd.results25, go_sem, d0, d1, hs5]) rfl ?_
  refine ⟨.slice none 0 0, by rw [HR.out], by rw [HR.out]; exact Kd.R_nil _ _ _ _ _, ?_, ?_⟩
  ·rw [HR.out]
   (repeat (with_reducible first | exact HCAP.out | refine (Below.heap_setCell _ _ _ _ (by dsimp only; omega)).trans ?_))
  ·(repeat (with_reducible first | exact HS5.out | refine Stay.set ?_ _ _ (fun q => absurd q (by dsimp only; omega))))
 have HE := Lib.hid hE
 have HR := Lib.hid (show (askR nx l t x) = _ from (if_pos hok).trans (if_pos hE))
 clear hok hE
 go_enter Tryd.func25, Tryd.ntmps25
 go_wp2_with (first | (go_at_call 21; (with_reducible refine (HCK.out _ HC1.out).mono ?_); rintro e w2 ⟨he, hb⟩; rw [HV.out] at he; subst he; have HB2 := Lib.hid (HB1.out.trans (hb.mono HB1.out.size)); have HX2 := Lib.hid ((hb.block _ (blk_lt HX1.out)).trans HX1.out); have HZ2 := Lib.hid ((hb.block _ (blk_lt HZ1.out)).trans HZ1.out); have hs2 := blk_lt HZ2.out; have HC2 := Lib.hid (Kd.C_below HC1.out hb); clear hb; have y1 := blk_cell HX2.out 1; have y0 := blk_cell HX2.out 0) | (go_at_call 42; (with_reducible refine (HCN.out _ HC2.out HCL.out).mono ?_); rintro e w3 ⟨v0, rfl, hR3, hb3⟩; obtain ⟨A0, c0, rfl⟩ := Kd.R_slice hR3; rw [← HM.out] at hR3 ⊢; clear y0 y1; have HX3 := Lib.hid ((hb3.block _ (blk_lt HX2.out)).trans HX2.out); have HZ3 := Lib.hid ((hb3.block _ (blk_lt HZ2.out)).trans HZ2.out); have HB3 := Lib.hid (HB2.out.trans (hb3.mono HB2.out.size)); have hs3 := blk_lt HZ3.out; have HD4 := Lib.hid (show Desk (w3.setCell ⟨w.heap.size, 1, none⟩ (.slice A0 m c0)) (w.heap.size + 2) w.heap.size nx (.slice A0 m c0) l from ⟨blk_put HX3.out 1 _ rfl, Kd.R_far (Kd.R_lower (Kd.R_mono (Kd.R_bound hR3) (fun k hk => by have := hk.2.1; omega)) (by omega)) (fun k hk e => by dsimp only at e; omega) _⟩); have HZ4 := Lib.hid (blk_far (HZ3.out) (p := ⟨w.heap.size, 1, none⟩) (by dsimp only; omega) (.slice A0 m c0)); have HB4 := Lib.hid (show (w.heap.size + 2) ≤ (w3.setCell ⟨w.heap.size, 1, none⟩ (.slice A0 m c0)).heap.size from (by rw [World.size_setCell]; omega)); have HS4 := Lib.hid ((Stay.below (S := (fun q => q = D)) HB3.out (Nat.le_refl _)).set ⟨w.heap.size, 1, none⟩ (.slice A0 m c0) (fun q => absurd q (by dsimp only; omega))); have hC4 := Lib.hid (blk_far ((HB3.out.block _ clt).trans hC0.out) (p := ⟨w.heap.size, 1, none⟩) hCX (.slice A0 m c0)); have hD4 := Lib.hid (blk_far ((HB3.out.block _ dlt).trans hD0.out) (p := ⟨w.heap.size, 1, none⟩) hDX (.slice A0 m c0)); have hE4 := Lib.hid (blk_far ((HB3.out.block _ elt).trans hE0.out) (p := ⟨w.heap.size, 1, none⟩) hEX (.slice A0 m c0)); clear hR3 hb3; have y1 := blk_cell HX3.out 1; have y0 := blk_cell HX3.out 0; have yf := blk_frozen HX3.out 1; have yl := blk_lt HX3.out) | (go_at_call 26; refine (ask1_w (w.heap.size + 2) w.heap.size C D E nx _ l t x _ (by omega) HB4.out (by omega) (by omega) (by omega) hCX hDX hEX hCD hED HNX.out HL1.out HD4.out hC4.out hD4.out hE4.out).mono ?_; rintro e w5 ⟨he, hd, hcap, hst⟩; rw [HE.out] at he; subst he; clear y0 y1 yf yl; have HZ5 := Lib.hid ((hst.block (w.heap.size + 1) (by omega) (fun h => by rcases h with h | h <;> omega)).trans HZ4.out); have HCAP := Lib.hid hcap; have HS5 := Lib.hid (HS4.out.trans (show Stay (fun q => q = D) w.heap.size _ w5 from ⟨hst.os, hst.tape, hst.output, hst.size, fun q hq hn => hst.block q (by omega) (fun h => h.elim (fun h => by omega) (fun h => hn h))⟩)); have hs5 := blk_lt HZ5.out; have d0 := blk_cell HZ5.out 0; have d1 := blk_cell HZ5.out 1; have df0 := blk_frozen HZ5.out 0; have df1 := blk_frozen HZ5.out 1; obtain ⟨v5, HD5⟩ := hd HE.out; obtain ⟨A5, c5, rfl⟩ := Kd.R_slice HD5.2; have HX5 := Lib.hid HD5.1; have HR5 := Lib.hid HD5.2; clear HD5 hcap hst; obtain ⟨n5, hn5⟩ : ∃ n, n = (l ++ [newN nx t x]).length := ⟨_, rfl⟩; rw [← hn5] at HX5 HR5; clear hn5; have x0 := blk_cell HX5.out 0; have x1 := blk_cell HX5.out 1; have xl := blk_lt HX5.out))
 refine bodyPost_ret (v := .tuple #[.agg #[.int .u64 (nx + 1), .slice A5 n5 c5], .int .i64 0]) (by simp [results, Tryd.results25, go_sem, d0, d1, hs5, x0, x1]) rfl ?_
 refine ⟨.slice A5 n5 c5, by rw [HR.out], ?_, ?_, ?_⟩
 ·rw [HR.out]
  exact Kd.R_mono (ok := fun k => (w.heap.size + 2) ≤ k) (Kd.R_lower (Kd.R_far (Kd.R_far HR5.out (fun k hk e => by dsimp only at e; omega) _) (fun k hk e => by dsimp only at e; omega) _) (by omega)) (fun _ _ => trivial)
 ·rw [HR.out]
  (repeat (with_reducible first | exact HCAP.out | refine (Below.heap_setCell _ _ _ _ (by dsimp only; omega)).trans ?_))
 ·(repeat (with_reducible first | exact HS5.out | refine Stay.set ?_ _ _ (fun q => absurd q (by dsimp only; omega))))
end Go.Proofs.YtcbiehinhmkjmaaDoor.NB
