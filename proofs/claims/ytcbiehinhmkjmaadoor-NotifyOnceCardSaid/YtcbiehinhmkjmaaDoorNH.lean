import Derived.Test.YtcbiehinhmkjmaaDoorNG
namespace Go.Proofs.YtcbiehinhmkjmaaDoor.NB
open Go.RowKit Go.Proofs.YtcbiehinhmkjmaaDoorW.PrintWords Go.Proofs.YtcbiehinhmkjmaaDoorW.PrintLast Go.Proofs.YtcbiehinhmkjmaaDoorW.PrintMore
open Go.Proofs.YtcbiehinhmkjmaaDoor.PB
set_option linter.unusedVariables false
set_option linter.unusedSimpArgs false

def askE (nx : Int) (l : List S36) (t : Int) : Int := if 1 ≤ t ∧ t ≤ 20 then (if idxV (fun x => x.f1 == t) l = -1 then (if l.length = 8 ∨ nx = 4611686018427387904 then 6 else 0) else 5) else 2
def askC (nx : Int) (l : List S36) (t : Int) : Int := if askE nx l t = 0 then nx else 0
def newN (nx t : Int) (x : S29) : S36 := ⟨nx, t, x, false⟩
def ask.T8 : Bool × List (List Nat × List Nat) := (true, [([], []), ([], []), ([1], [1]), ([2], [2]), ([3], [3]), ([], []), ([], []), ([], []), ([5, 6, 7], [5, 6, 7]), ([8], [8]), ([4, 9], [4, 9]), ([0, 0, 1, 2, 3, 4, 5, 6, 7, 8, 9, 10], [0]), ([11, 0, 1, 2, 3, 4, 5, 6, 7, 8, 9, 10], [11]), ([12, 10, 10, 0, 1, 2, 3, 4, 5, 6, 7, 8, 9, 10], [10, 12])])
def ask.B8 : List Nat := [0, 0, 2, 6, 14, 0, 0, 0, 224, 480, 1022, 2047, 4095, 8191]
theorem ask.tab8 : rtab .any (opsOf Tryd.f26 8) = ask.T8 := by kernel_rfl
theorem ask.bits8 : waitsOk ask.T8.2 ask.B8 = true := by kernel_rfl
set_option maxRecDepth 100000 in
set_option maxHeartbeats 4000000 in
theorem ask1_w (B X C D E : Nat) (nx : Int) (v : Value) (l : List S36) (t : Int) (x : S29) (W : World) (hXB : X < B) (hB : B ≤ W.heap.size) (hCB : C < B) (hDB : D < B) (hEB : E < B) (hCX : C ≠ X) (hDX : D ≠ X) (hEX : E ≠ X) (hCD : C ≠ D) (hED : E ≠ D) (hnx : 1 ≤ nx ∧ nx ≤ 4611686018427387904) (hl : l.length ≤ 100) (hD : Desk W B X nx v l) (hC : W.heap[C]? = some (.cells #[.int .i64 t] 3 (0, 0))) (hDD : W.heap[D]? = some (.cells #[.int .u64 0] 22 (0, 0))) (hE : W.heap[E]? = some (.cells #[.int .u32 x.f0, .int .u32 x.f1, .int .u64 x.f2, .int .u64 x.f3.f0, .int .u64 x.f3.f1, .int .u64 x.f3.f2, .int .u64 x.f3.f3, .int .u64 x.f3.f4, .int .u64 x.f3.f5] 29 (0, 0))) :
  Calls Tryd.prog 26 #[.pointer (some ⟨X, 0, none⟩), .pointer (some ⟨C, 0, none⟩), .pointer (some ⟨D, 0, none⟩), .pointer (some ⟨E, 0, none⟩)] W fun e W' => e = .returned (.int .i64 (askE nx l t)) ∧ (askE nx l t = 0 → ∃ v', Desk W' B X (nx + 1) v' (l ++ [newN nx t x])) ∧ W'.heap[D]? = some (.cells #[.int .u64 (askC nx l t)] 22 (0, 0)) ∧ Stay (fun q => q = X ∨ q = D) B W W' := by
 obtain ⟨A, c, rfl⟩ := Kd.R_slice hD.2
 obtain ⟨m, hm⟩ : ∃ m, m = l.length := ⟨_, rfl⟩
 have HM := Lib.hid hm
 have HD := Lib.hid hD
 have HC := Lib.hid hC
 have HDD := Lib.hid hDD
 have HE := Lib.hid hE
 have hx0 := blk_cell hD.1 0
 have hx1 := blk_cell hD.1 1
 have hc0 := blk_cell hC 0
 have HCC := Lib.hid (Kd.R_reads' hD.2).2.2
 rw [← hm] at HD hx0 hx1
 clear hC hD hm hDD hE
 by_cases h1 : 1 ≤ t ∧ t ≤ 20
 case neg =>
  have HTH := Lib.hid (show notify_thread.f t = some false by unfold notify_thread.f; split <;> first | rfl | rw [decide_eq_false (by omega)])
  have HV := Lib.hid (show askE nx l t = 2 from if_neg h1)
  clear h1
  go_enter Tryd.func26, Tryd.ntmps26
  go_wp2_with (first | (go_at_call 27; (with_reducible refine (notify_thread.calls t false _ HTH.out).mono ?_); rintro e w2 ⟨rfl, hb⟩; have HB2 := Lib.hid hb.below; clear hb hx0 hx1 hc0))
  go_ret
  exact ⟨by rw [HV.out]; rfl, fun h => absurd (HV.out.symm.trans h) (by decide), by unfold askC; rw [HV.out]; exact (HB2.out.block _ (blk_lt HDD.out)).trans HDD.out, Stay.below HB2.out hB⟩
 have HTH := Lib.hid (show notify_thread.f t = some true by unfold notify_thread.f; rw [if_pos h1.1, decide_eq_true h1.2])
 rcases idx_cases (fun x => x.f1 == t) l with ⟨hI, _⟩ | ⟨k, hk, hI, _, _⟩
 case inr =>
  have HI := Lib.hid hI
  have HV := Lib.hid (show askE nx l t = 5 by unfold askE; rw [if_pos h1, hI, if_neg (by omega)])
  have hk0 : (0 : Int) ≤ (k : Int) := by omega
  clear hI h1 hk
  go_enter Tryd.func26, Tryd.ntmps26
  go_wp2_with (first | (go_at_call 27; (with_reducible refine (notify_thread.calls t true _ HTH.out).mono ?_); rintro e w2 ⟨rfl, hb⟩; have HB2 := Lib.hid hb.below; clear hb hx0 hx1 hc0; have HD2 := Lib.hid (HD.out.below HB2.out); have hc0 := blk_cell ((HB2.out.block _ (blk_lt HC.out)).trans HC.out) 0; have hx0 := blk_cell HD2.out.1 0; have hx1 := blk_cell HD2.out.1 1))
  go_still_tail 4, (by kernel_rfl)
  change wpList _ _ _ _ _ w2.drew
  go_wp2_with (first | (go_at_call 28; (rw [HM.out]); (with_reducible refine (of_w nx A c l t (by omega) _ (Kd.C_drew (Kd.C_below HCC.out HB2.out))).mono ?_); rintro e w3 ⟨he, hb⟩; rw [HI.out] at he; subst he; have HB3 := Lib.hid (HB2.out.trans (((below_drew (Below.refl _ w2)).trans hb).mono HB2.out.size)); clear hb hx0 hx1 hc0))
  go_ret
  exact ⟨by rw [HV.out]; rfl, fun h => absurd (HV.out.symm.trans h) (by decide), by unfold askC; rw [HV.out]; exact (HB3.out.block _ (blk_lt HDD.out)).trans HDD.out, Stay.below HB3.out hB⟩
 have HI := Lib.hid hI
 by_cases h8 : (m : Int) = 8
 ·have HV := Lib.hid (show askE nx l t = 6 by unfold askE; rw [if_pos h1, hI, if_pos rfl, if_pos (Or.inl (by have := HM.out; omega))])
  have h8b : ((m : Int) == 8) = true := by simpa using h8
  clear h1 hI h8
  go_enter Tryd.func26, Tryd.ntmps26
  go_wp2_with (first | (go_at_call 27; (with_reducible refine (notify_thread.calls t true _ HTH.out).mono ?_); rintro e w2 ⟨rfl, hb⟩; have HB2 := Lib.hid hb.below; clear hb hx0 hx1 hc0; have HD2 := Lib.hid (HD.out.below HB2.out); have hc0 := blk_cell ((HB2.out.block _ (blk_lt HC.out)).trans HC.out) 0; have hx0 := blk_cell HD2.out.1 0; have hx1 := blk_cell HD2.out.1 1))
  go_still_tail 4, (by kernel_rfl)
  change wpList _ _ _ _ _ w2.drew
  go_wp2_with (first | (go_at_call 28; (rw [HM.out]); (with_reducible refine (of_w nx A c l t (by omega) _ (Kd.C_drew (Kd.C_below HCC.out HB2.out))).mono ?_); rintro e w3 ⟨he, hb⟩; rw [HI.out] at he; subst he; have HB3 := Lib.hid (HB2.out.trans (((below_drew (Below.refl _ w2)).trans hb).mono HB2.out.size)); clear hb hx0 hx1 hc0; have HD3 := Lib.hid (HD.out.below HB3.out); have hx0 := blk_cell HD3.out.1 0; have hx1 := blk_cell HD3.out.1 1))
  go_ret
  exact ⟨by rw [HV.out]; rfl, fun h => absurd (HV.out.symm.trans h) (by decide), by unfold askC; rw [HV.out]; exact (HB3.out.block _ (blk_lt HDD.out)).trans HDD.out, Stay.below HB3.out hB⟩
 by_cases hn : nx = 4611686018427387904
 ·have HV := Lib.hid (show askE nx l t = 6 by unfold askE; rw [if_pos h1, hI, if_pos rfl, if_pos (Or.inr hn)])
  have h8b : ((m : Int) == 8) = false := by simpa using h8
  have hnb : (nx == 4611686018427387904) = true := by simpa using hn
  clear h1 hI hn h8
  go_enter Tryd.func26, Tryd.ntmps26
  go_wp2_with (first | (go_at_call 27; (with_reducible refine (notify_thread.calls t true _ HTH.out).mono ?_); rintro e w2 ⟨rfl, hb⟩; have HB2 := Lib.hid hb.below; clear hb hx0 hx1 hc0; have HD2 := Lib.hid (HD.out.below HB2.out); have hc0 := blk_cell ((HB2.out.block _ (blk_lt HC.out)).trans HC.out) 0; have hx0 := blk_cell HD2.out.1 0; have hx1 := blk_cell HD2.out.1 1))
  go_still_tail 4, (by kernel_rfl)
  change wpList _ _ _ _ _ w2.drew
  go_wp2_with (first | (go_at_call 28; (rw [HM.out]); (with_reducible refine (of_w nx A c l t (by omega) _ (Kd.C_drew (Kd.C_below HCC.out HB2.out))).mono ?_); rintro e w3 ⟨he, hb⟩; rw [HI.out] at he; subst he; have HB3 := Lib.hid (HB2.out.trans (((below_drew (Below.refl _ w2)).trans hb).mono HB2.out.size)); clear hb hx0 hx1 hc0; have HD3 := Lib.hid (HD.out.below HB3.out); have hx0 := blk_cell HD3.out.1 0; have hx1 := blk_cell HD3.out.1 1))
  go_ret
  exact ⟨by rw [HV.out]; rfl, fun h => absurd (HV.out.symm.trans h) (by decide), by unfold askC; rw [HV.out]; exact (HB3.out.block _ (blk_lt HDD.out)).trans HDD.out, Stay.below HB3.out hB⟩
 have HV := Lib.hid (show askE nx l t = 0 by unfold askE; rw [if_pos h1, hI, if_pos rfl, if_neg (fun h => h.elim (fun h => h8 (by have := HM.out; omega)) hn)])
 have h8b : ((m : Int) == 8) = false := by simpa using h8
 have hnb : (nx == 4611686018427387904) = false := by simpa using hn
 obtain ⟨nx1, hnx1⟩ : ∃ n, n = nx + 1 := ⟨_, rfl⟩
 have hw1 : IntKind.u64.wrap (nx + 1) = nx1 := by rw [hnx1]; simp [IntKind.wrap, IntKind.signed, IntKind.bits]; omega
 have hw2 : (nx + 1) % 18446744073709551616 = nx1 := by rw [hnx1]; omega
 have HN1 := Lib.hid hnx1
 clear hnx1 h1 hI h8 hn
 go_enter Tryd.func26, Tryd.ntmps26
 go_wp2_with (first | (go_at_call 27; (with_reducible refine (notify_thread.calls t true _ HTH.out).mono ?_); rintro e w2 ⟨rfl, hb⟩; have HB2 := Lib.hid hb.below; clear hb hx0 hx1 hc0; have HD2 := Lib.hid (HD.out.below HB2.out); have hc0 := blk_cell ((HB2.out.block _ (blk_lt HC.out)).trans HC.out) 0; have hx0 := blk_cell HD2.out.1 0; have hx1 := blk_cell HD2.out.1 1))
 go_still_tail 4, (by kernel_rfl)
 change wpList _ _ _ _ _ w2.drew
 go_wp2_with (first | (go_at_call 28; (rw [HM.out]); (with_reducible refine (of_w nx A c l t (by omega) _ (Kd.C_drew (Kd.C_below HCC.out HB2.out))).mono ?_); rintro e w3 ⟨he, hb⟩; rw [HI.out] at he; subst he; have HB3 := Lib.hid (HB2.out.trans (((below_drew (Below.refl _ w2)).trans hb).mono HB2.out.size)); clear hb hx0 hx1 hc0; have HD3 := Lib.hid (HD.out.below HB3.out); have hx0 := blk_cell HD3.out.1 0; have hx1 := blk_cell HD3.out.1 1; have HDD3 := Lib.hid ((HB3.out.block _ (blk_lt HDD.out)).trans HDD.out); have hd0 := blk_cell HDD3.out 0; have hdf := blk_frozen HDD3.out 0; have hdl := blk_lt HDD3.out))
 clear hx0 hx1 hd0 hdf hdl
 have HX7 := Lib.hid (blk_drew (blk_far HD3.out.1 (p := ⟨D, 0, none⟩) (Ne.symm hDX) (.int .u64 nx)))
 have HC7 := Lib.hid (blk_drew (blk_far ((HB3.out.block _ (blk_lt HC.out)).trans HC.out) (p := ⟨D, 0, none⟩) hCD (.int .u64 nx)))
 have HF7 := Lib.hid (blk_drew (blk_far ((HB3.out.block _ (blk_lt HE.out)).trans HE.out) (p := ⟨D, 0, none⟩) hED (.int .u64 nx)))
 have HE7 := Lib.hid (show (w3.setCell ⟨D, 0, none⟩ (.int .u64 nx)).drew.heap[D]? = some (.cells #[.int .u64 nx] 22 (0, 0)) from blk_drew (blk_put HDD3.out 0 _ rfl))
 have HR7 := Lib.hid (Kd.R_drew (Kd.R_far HD3.out.2 (p := ⟨D, 0, none⟩) (fun q hq e => by dsimp only at e; omega) (.int .u64 nx)))
 have HS7 := Lib.hid (((Stay.below (S := fun q => q = X ∨ q = D) HB3.out hB).set ⟨D, 0, none⟩ (.int .u64 nx) (fun _ => Or.inr rfl)).drew)
 have hB7 : B ≤ (w3.setCell ⟨D, 0, none⟩ (.int .u64 nx)).drew.heap.size := by show B ≤ (w3.setCell ⟨D, 0, none⟩ (.int .u64 nx)).heap.size; rw [World.size_setCell]; exact Nat.le_trans hB HB3.out.size
 refine start_ (n := 14) (S := fun w' => w'.heap[X]? = some (deskC nx (.slice A m c)) ∧ w'.heap[C]? = some (.cells #[.int .i64 t] 3 (0, 0)) ∧ w'.heap[D]? = some (.cells #[.int .u64 nx] 22 (0, 0)) ∧ w'.heap[E]? = some (.cells #[.int .u32 x.f0, .int .u32 x.f1, .int .u64 x.f2, .int .u64 x.f3.f0, .int .u64 x.f3.f1, .int .u64 x.f3.f2, .int .u64 x.f3.f3, .int .u64 x.f3.f4, .int .u64 x.f3.f5] 29 (0, 0))) (ds := [13]) #[false, false, false, false, false, false, false, false, false, false, false, false, false, false] (by kernel_rfl) rfl rfl (⟨HX7.out, HC7.out, HE7.out, HF7.out⟩) (fun hHeld => ?_); refine with_tabW ask.tab8 ask.bits8 (fun HT_ HW_ => ?_)
 generalize (w3.setCell ⟨D, 0, none⟩ (.int .u64 nx)).drew = w7 at HX7 HC7 HF7 HE7 HR7 HS7 hB7 hHeld ⊢
 refine pure_ (i := 0) (N := some 35) (v := ?_) (a' := ?_) #[true, false, false, false, false, false, false, false, false, false, false, false, false, false] rfl rfl (any_of HT_.out (by kernel_rfl)) (fun _ _ _ h => h) (Or.inl ⟨by rfl, ?_⟩) ?_ ?_
 rotate_left
 ·intro w'
  go_simp
  with_reducible rfl
 rotate_left
 ·(try simp only [Act.put, List.setIfInBounds_toArray, List.set_cons_zero, List.set_cons_succ])
  rfl
 refine pure_ (i := 1) (N := some 36) (v := ?_) (a' := ?_) #[true, true, false, false, false, false, false, false, false, false, false, false, false, false] rfl rfl (any_of HT_.out (by kernel_rfl)) (fun _ _ _ h => h) (Or.inl ⟨by rfl, ?_⟩) ?_ ?_
 rotate_left
 ·intro w'
  go_simp
  with_reducible rfl
 rotate_left
 ·(try simp only [Act.put, List.setIfInBounds_toArray, List.set_cons_zero, List.set_cons_succ])
  rfl
 refine pure_ (i := 2) (N := some 37) (v := ?_) (a' := ?_) #[true, true, true, false, false, false, false, false, false, false, false, false, false, false] rfl rfl (any_of HT_.out (by kernel_rfl)) (fun _ _ _ h => h) (Or.inl ⟨by rfl, ?_⟩) ?_ ?_
 rotate_left
 ·intro w'
  go_simp
  with_reducible rfl
 rotate_left
 ·(try simp only [Act.put, List.setIfInBounds_toArray, List.set_cons_zero, List.set_cons_succ])
  rfl
 refine pure_ (i := 3) (N := some 38) (v := ?_) (a' := ?_) #[true, true, true, true, false, false, false, false, false, false, false, false, false, false] rfl rfl (any_of HT_.out (by kernel_rfl)) (fun _ _ _ h => h) (Or.inl ⟨by rfl, ?_⟩) ?_ ?_
 rotate_left
 ·intro w'
  go_simp
  with_reducible rfl
 rotate_left
 ·(try simp only [Act.put, List.setIfInBounds_toArray, List.set_cons_zero, List.set_cons_succ])
  rfl
 refine take_ (i := 4) (N := some 39) (v := ?_) (a' := ?_) #[true, true, true, true, true, false, false, false, false, false, false, false, false, false] rfl rfl (take_ofW HT_.out HW_.out (by kernel_rfl)) (fun _ _ _ h => h) (Or.inl ⟨by rfl, ?_⟩) hHeld ?_ ?_
 rotate_left
 ·intro w' hS_
  have hx_ : w'.cell? ⟨X, 1, none⟩ = _ := blk_cell hS_.1 1
  go_simp
  with_reducible rfl
 rotate_left
 ·(try simp only [Act.put, List.setIfInBounds_toArray, List.set_cons_zero, List.set_cons_succ])
  rfl
 refine take_ (i := 5) (N := some 40) (v := ?_) (a' := ?_) #[true, true, true, true, true, true, false, false, false, false, false, false, false, false] rfl rfl (take_ofW HT_.out HW_.out (by kernel_rfl)) (fun _ _ _ h => h) (Or.inl ⟨by rfl, ?_⟩) hHeld ?_ ?_
 rotate_left
 ·intro w' hS_
  have hx_ : w'.cell? ⟨D, 0, none⟩ = _ := blk_cell hS_.2.2.1 0
  go_simp
  with_reducible rfl
 rotate_left
 ·(try simp only [Act.put, List.setIfInBounds_toArray, List.set_cons_zero, List.set_cons_succ])
  rfl
 refine take_ (i := 6) (N := some 41) (v := ?_) (a' := ?_) #[true, true, true, true, true, true, true, false, false, false, false, false, false, false] rfl rfl (take_ofW HT_.out HW_.out (by kernel_rfl)) (fun _ _ _ h => h) (Or.inl ⟨by rfl, ?_⟩) hHeld ?_ ?_
 rotate_left
 ·intro w' hS_
  have hx_ : w'.cell? ⟨C, 0, none⟩ = _ := blk_cell hS_.2.1 0
  go_simp
  with_reducible rfl
 rotate_left
 ·(try simp only [Act.put, List.setIfInBounds_toArray, List.set_cons_zero, List.set_cons_succ])
  rfl
 refine take_ (i := 7) (N := some 42) (v := ?_) (a' := ?_) #[true, true, true, true, true, true, true, true, false, false, false, false, false, false] rfl rfl (take_ofW HT_.out HW_.out (by kernel_rfl)) (fun _ _ _ h => h) (Or.inl ⟨by rfl, ?_⟩) hHeld ?_ ?_
 rotate_left
 ·intro w' hS_
  have hx_0 : w'.cell? ⟨E, 0, none⟩ = _ := blk_cell hS_.2.2.2 0
  have hx_1 : w'.cell? ⟨E, 1, none⟩ = _ := blk_cell hS_.2.2.2 1
  have hx_2 : w'.cell? ⟨E, 2, none⟩ = _ := blk_cell hS_.2.2.2 2
  have hx_3 : w'.cell? ⟨E, 3, none⟩ = _ := blk_cell hS_.2.2.2 3
  have hx_4 : w'.cell? ⟨E, 4, none⟩ = _ := blk_cell hS_.2.2.2 4
  have hx_5 : w'.cell? ⟨E, 5, none⟩ = _ := blk_cell hS_.2.2.2 5
  have hx_6 : w'.cell? ⟨E, 6, none⟩ = _ := blk_cell hS_.2.2.2 6
  have hx_7 : w'.cell? ⟨E, 7, none⟩ = _ := blk_cell hS_.2.2.2 7
  have hx_8 : w'.cell? ⟨E, 8, none⟩ = _ := blk_cell hS_.2.2.2 8
  go_simp
  with_reducible rfl
 rotate_left
 ·(try simp only [Act.put, List.setIfInBounds_toArray, List.set_cons_zero, List.set_cons_succ])
  rfl
 refine pure_ (i := 8) (N := some 43) (v := ?_) (a' := ?_) #[true, true, true, true, true, true, true, true, true, false, false, false, false, false] rfl rfl (any_of HT_.out (by kernel_rfl)) (fun _ _ _ h => h) (Or.inl ⟨by rfl, ?_⟩) ?_ ?_
 rotate_left
 ·intro w'
  go_simp
  with_reducible rfl
 rotate_left
 ·(try simp only [Act.put, List.setIfInBounds_toArray, List.set_cons_zero, List.set_cons_succ])
  rfl
 refine one_ (i := 9) (N := some 44) #[true, true, true, true, true, true, true, true, true, true, false, false, false, false] rfl rfl (one_of HT_.out (by kernel_rfl)) (by decide) (fun K hK => ?_)
 refine value_ (w1 := ?_) (v := ?_) (by rfl) rfl ?_ ?_
 rotate_left 2
 ·go_simp
  constructor
  ·rfl
  ·rfl
 refine hK.out _ _ ⟨blk_alloc HX7.out _, blk_alloc HC7.out _, blk_alloc HE7.out _, blk_alloc HF7.out _⟩ (fun hHeld => ?_)
 clear hK K
 refine norm_ (a' := ?_) ?_ ?_
 rotate_left
 ·show Act.put _ (some 44) _ = _
  simp only [Act.put, List.setIfInBounds_toArray, List.set_cons_zero, List.set_cons_succ]
  rfl
 refine one_ (i := 10) (N := some 45) #[true, true, true, true, true, true, true, true, true, true, true, false, false, false] rfl rfl (one_of HT_.out (by kernel_rfl)) (by decide) (fun K hK => ?_)
 refine Kd.R_append_step k36 (w0 := w7) B (by rfl) (.tmp 39) (.tmp 44) 23 36 (.agg #[.int .u64 0, .int .i64 0, .int .u32 0, .int .u32 0, .int .u64 0, .int .u64 0, .int .u64 0, .int .u64 0, .int .u64 0, .int .u64 0, .int .u64 0, .bool false]) 88 rfl Tryd.underlying23 info36 rfl (by decide) (by omega) (.slice A m c) l (newN nx t x) [.int .u64 nx, .int .i64 t, .int .u32 x.f0, .int .u32 x.f1, .int .u64 x.f2, .int .u64 x.f3.f0, .int .u64 x.f3.f1, .int .u64 x.f3.f2, .int .u64 x.f3.f3, .int .u64 x.f3.f4, .int .u64 x.f3.f5, .bool false] (fun k => B ≤ k) (fun _ => False) rfl rfl ?aP (fun _ hk => hk.elim) ?aF ?aO ?aB ?aS ?aL ?_
 (case aP => exact k36_mkM _ _ _ (newN nx t x))
 (case aF => exact (fun k hk => Nat.le_trans hB7 hk))
 (case aO => exact HR7.out)
 (case aB => exact Below.refl _ _)
 (case aS => exact hB7)
 (case aL => have := HM.out; omega)
 intro v1 w8 ho hb hg hat
 obtain ⟨A1, c1, rfl⟩ := Kd.R_slice ho
 obtain ⟨n1, hn1⟩ : ∃ n, n = (l ++ [newN nx t x]).length := ⟨_, rfl⟩
 rw [← hn1] at ho ⊢
 clear hn1
 have HX8 := Lib.hid ((hb.block X hXB).trans HX7.out)
 have HE8 := Lib.hid ((hb.block D hDB).trans HE7.out)
 have HC8 := (hb.block C hCB).trans HC7.out
 have HF8 := (hb.block E hEB).trans HF7.out
 have HB8 := Lib.hid hb
 have HR8 := Lib.hid ho
 clear ho hb hg hat
 refine hK.out _ _ ⟨HX8.out, HC8, HE8.out, HF8⟩ (fun hHeld => ?_)
 clear hK K HC8 HF8
 refine norm_ (a' := ?_) ?_ ?_
 rotate_left
 ·show Act.put _ (some 45) _ = _
  simp only [Act.put, List.setIfInBounds_toArray, List.set_cons_zero, List.set_cons_succ]
  rfl
 have z0 := blk_cell HX8.out 0
 have z1 := blk_cell HX8.out 1
 have zf0 := blk_frozen HX8.out 0
 have zf1 := blk_frozen HX8.out 1
 have zl := blk_lt HX8.out
 refine pure_ (i := 11) (N := some 46) (v := ?_) (a' := ?_) #[true, true, true, true, true, true, true, true, true, true, true, true, false, false] rfl rfl (any_of HT_.out (by kernel_rfl)) (fun _ _ _ h => h) (Or.inl ⟨by rfl, ?_⟩) ?_ ?_
 rotate_left
 ·intro w'
  go_simp
  with_reducible rfl
 rotate_left
 ·(try simp only [Act.put, List.setIfInBounds_toArray, List.set_cons_zero, List.set_cons_succ])
  rfl
 refine pure_ (i := 12) (N := some 47) (v := ?_) (a' := ?_) #[true, true, true, true, true, true, true, true, true, true, true, true, true, false] rfl rfl (any_of HT_.out (by kernel_rfl)) (fun _ _ _ h => h) (Or.inl ⟨by rfl, ?_⟩) ?_ ?_
 rotate_left
 ·intro w'
  go_simp
  with_reducible rfl
 rotate_left
 ·(try simp only [Act.put, List.setIfInBounds_toArray, List.set_cons_zero, List.set_cons_succ])
  rfl
 refine last_ (i := 13) (N := none) #[true, true, true, true, true, true, true, true, true, true, true, true, true, true] rfl rfl (one_of HT_.out (by kernel_rfl)) (by decide) (fun K hK => ?_)
 refine skip_ (w1 := ?_) (by rfl) rfl ?_ ?_
 rotate_left
 ·go_simp
  with_reducible rfl
 refine hK.out _ _ ?_
 clear hK K
 refine done_ (done_of HT_.out (by kernel_rfl)) ?_
 clear HT_ HW_
 clear hHeld
 go_wp2_with fail
 go_ret
 have HS8 := HS7.out.trans (show Stay (fun q => q = X ∨ q = D) B w7 w8 from ⟨HB8.out.os, HB8.out.tape, HB8.out.output, HB8.out.size, fun q hq _ => HB8.out.block q hq⟩)
 refine ⟨by rw [HV.out]; rfl, fun _ => ⟨.slice A1 n1 c1, ?_, ?_⟩, ?_, ?_⟩
 ·rw [← HN1.out]
  exact blk_put (blk_put HX8.out 1 _ rfl) 0 _ rfl
 ·exact Kd.R_far (Kd.R_far HR8.out (fun q hq e => by dsimp only at e; omega) _) (fun q hq e => by dsimp only at e; omega) _
 ·unfold askC
  rw [HV.out, if_pos rfl]
  exact blk_far (blk_far HE8.out hDX _) hDX _
 ·exact (HS8.set _ _ (fun _ => Or.inl rfl)).set _ _ (fun _ => Or.inl rfl)
end Go.Proofs.YtcbiehinhmkjmaaDoor.NB
