import Derived.Test.YtcbiehinhmkjmaaDoorNU
namespace Go.Proofs.YtcbiehinhmkjmaaDoor.NB
open Go.RowKit Go.Proofs.YtcbiehinhmkjmaaDoorW.PrintWords Go.Proofs.YtcbiehinhmkjmaaDoorW.PrintLast Go.Proofs.YtcbiehinhmkjmaaDoorW.PrintMore
open Go.Proofs.YtcbiehinhmkjmaaDoor.PB
set_option linter.unusedVariables false
set_option linter.unusedSimpArgs false
def rask.T15 : Bool × List (List Nat × List Nat) := (true, [([], []), ([], []), ([1], [1]), ([0, 0], [0]), ([2, 3, 0, 1, 2, 3], [2]), ([4, 0, 1, 2, 3, 4], [])])
def rask.B15 : List Nat := [0, 0, 2, 1, 15, 31]
theorem rask.tab15 : rtab .any (opsOf Tryd.f11 15) = rask.T15 := by kernel_rfl
theorem rask.bits15 : waitsOk rask.T15.2 rask.B15 = true := by kernel_rfl
set_option maxRecDepth 100000 in
set_option maxHeartbeats 4000000 in
theorem rask_w (nx : Int) (A : Option Addr) (c : Nat) (l : List S36) (t : Int) (x : S29) (hl : l.length ≤ 100) (hc : l.length ≤ c) (w : World) (hr : Kd.C k36 w A l.length l) :
    Calls Tryd.prog 11 #[.agg #[.int .u64 nx, .slice A l.length c], .int .i64 t, .agg #[.int .u32 x.f0, .int .u32 x.f1, .int .u64 x.f2, .int .u64 x.f3.f0, .int .u64 x.f3.f1, .int .u64 x.f3.f2, .int .u64 x.f3.f3, .int .u64 x.f3.f4, .int .u64 x.f3.f5]] w fun e w' => ∃ v : Value, e = .returned (.tuple #[.agg #[.int .u64 (askR nx l t x).1, v], .int .u64 (askR nx l t x).2.2.2, .int .i64 (askR nx l t x).2.2.1]) ∧ Kd.R k36 36 w' w.heap.size (fun _ => True) v (askR nx l t x).2.1 ∧ Below w.heap.size w w' := by
  obtain ⟨m, hm⟩ : ∃ m, m = l.length := ⟨_, rfl⟩
  have HM := Lib.hid hm
  have HL := Lib.hid hl
  have hB1 : Below w.heap.size w (((w.alloc (.cells #[.int .u64 nx, .slice A m c] 25)).alloc (.cells #[.int .u32 x.f0, .int .u32 x.f1, .int .u64 x.f2, .int .u64 x.f3.f0, .int .u64 x.f3.f1, .int .u64 x.f3.f2, .int .u64 x.f3.f3, .int .u64 x.f3.f4, .int .u64 x.f3.f5] 29)).alloc (.cells #[.int .u64 0, .slice none 0 0] 25)) := (bel_al (bel_al (bel_al (Below.refl w.heap.size w) (.cells #[.int .u64 nx, .slice A m c] 25)) (.cells #[.int .u32 x.f0, .int .u32 x.f1, .int .u64 x.f2, .int .u64 x.f3.f0, .int .u64 x.f3.f1, .int .u64 x.f3.f2, .int .u64 x.f3.f3, .int .u64 x.f3.f4, .int .u64 x.f3.f5] 29)) (.cells #[.int .u64 0, .slice none 0 0] 25))
  have HB1 := Lib.hid hB1
  have HC1 := Lib.hid (Kd.C_below hr hB1)
  have HRC : Hid (∀ (W : World) (b : Bool), wicketgateref25_Right.f 30000 nx l = some b → Kd.C k36 W A m l → Calls Tryd.prog 23 #[.agg #[.int .u64 nx, .slice A m c]] W fun e w' => e = .returned (.bool b) ∧ Below W.heap.size W w') := by
    rw [hm]
    exact Lib.hid (fun W b hb h => wicketgateref25_Right.calls 30000 nx A c l b W h hc hb)
  have HWO : Hid (∀ (W : World), wicketgateref25_without.f 1000 nx l (-1) = some (nx, l) → Kd.C k36 W A m l → Calls Tryd.prog 29 #[.agg #[.int .u64 nx, .slice A m c], .int .i64 (-1)] W fun e w' => ∃ v : Value, e = .returned (.agg #[.int .u64 nx, v]) ∧ Kd.R k36 36 w' W.heap.size (fun _ => True) v l ∧ Below W.heap.size W w') := by
    rw [hm]
    exact Lib.hid (fun W hb h => wicketgateref25_without.calls 1000 nx A c l (-1) nx l W h hc hb)
  have h0 := (al_keep (o := .cells #[.int .u64 0, .slice none 0 0] 25) (al_keep (o := .cells #[.int .u32 x.f0, .int .u32 x.f1, .int .u64 x.f2, .int .u64 x.f3.f0, .int .u64 x.f3.f1, .int .u64 x.f3.f2, .int .u64 x.f3.f3, .int .u64 x.f3.f4, .int .u64 x.f3.f5] 29) (al_new w (.cells #[.int .u64 nx, .slice A m c] 25))))
  (try simp only [World.size_alloc] at h0)
  have H0 := Lib.hid h0
  clear h0
  have h1 := (al_keep (o := .cells #[.int .u64 0, .slice none 0 0] 25) (al_new (w.alloc (.cells #[.int .u64 nx, .slice A m c] 25)) (.cells #[.int .u32 x.f0, .int .u32 x.f1, .int .u64 x.f2, .int .u64 x.f3.f0, .int .u64 x.f3.f1, .int .u64 x.f3.f2, .int .u64 x.f3.f3, .int .u64 x.f3.f4, .int .u64 x.f3.f5] 29)))
  (try simp only [World.size_alloc] at h1)
  have H1 := Lib.hid h1
  clear h1
  have h2 := (al_new ((w.alloc (.cells #[.int .u64 nx, .slice A m c] 25)).alloc (.cells #[.int .u32 x.f0, .int .u32 x.f1, .int .u64 x.f2, .int .u64 x.f3.f0, .int .u64 x.f3.f1, .int .u64 x.f3.f2, .int .u64 x.f3.f3, .int .u64 x.f3.f4, .int .u64 x.f3.f5] 29)) (.cells #[.int .u64 0, .slice none 0 0] 25))
  (try simp only [World.size_alloc] at h2)
  have H2 := Lib.hid h2
  clear h2
  rw [← hm] at HC1 ⊢
  clear hr hB1 hc hl hm
  by_cases hok : Dok nx l
  case neg =>
    have HRF := Lib.hid (show wicketgateref25_Right.f 30000 nx l = some false by rw [right_f 30000 (by decide) nx l HL.out, decide_eq_false hok])
    have HR := Lib.hid (show (askR nx l t x) = _ from if_neg hok)
    clear hok
    go_enter Tryd.func11, Tryd.ntmps11
    go_wp2_with (first | (go_at_call 23; (with_reducible refine (HRC.out _ false HRF.out HC1.out).mono ?_); rintro e w2 ⟨rfl, hb⟩; have HB2 := Lib.hid (HB1.out.trans (hb.mono HB1.out.size)); have HC2 := Lib.hid (Kd.C_below HC1.out hb); have HK0 := Lib.hid ((hb.block _ (blk_lt H0.out)).trans H0.out); have HK1 := Lib.hid ((hb.block _ (blk_lt H1.out)).trans H1.out); have HK2 := Lib.hid ((hb.block _ (blk_lt H2.out)).trans H2.out); clear hb; have p0 := blk_cell HK2.out 0; have pf0 := blk_frozen HK2.out 0; have p1 := blk_cell HK2.out 1; have pf1 := blk_frozen HK2.out 1; have pl := blk_lt HK2.out))
    refine bodyPost_ret (v := .tuple #[.agg #[.int .u64 0, .slice none 0 0], .int .u64 0, .int .i64 350]) (by simp [results, Tryd.results11, go_sem, p0, p1, pl]) rfl ?_
    refine ⟨.slice none 0 0, by rw [HR.out], by rw [HR.out]; exact Kd.R_nil _ _ _ _ _, ?_⟩
    (repeat (with_reducible first | exact HB2.out | refine Below.setCell ?_ (by dsimp only; omega) _))
  have HRF := Lib.hid (show wicketgateref25_Right.f 30000 nx l = some true by rw [right_f 30000 (by decide) nx l HL.out, decide_eq_true hok])
  have HOK := Lib.hid hok
  clear hok
  by_cases ht1 : t < 1
  · have hE : askE nx l t = 2 := if_neg (by omega)
    have HR := Lib.hid (show (askR nx l t x) = (0, [], 2, 0) by unfold askR askC; rw [if_pos HOK.out, hE, if_neg (by decide), if_neg (by decide)])
    clear hE
    go_enter Tryd.func11, Tryd.ntmps11
    go_wp2_with (first | (go_at_call 23; (with_reducible refine (HRC.out _ true HRF.out HC1.out).mono ?_); rintro e w2 ⟨rfl, hb⟩; have HB2 := Lib.hid (HB1.out.trans (hb.mono HB1.out.size)); have HC2 := Lib.hid (Kd.C_below HC1.out hb); have HK0 := Lib.hid ((hb.block _ (blk_lt H0.out)).trans H0.out); have HK1 := Lib.hid ((hb.block _ (blk_lt H1.out)).trans H1.out); have HK2 := Lib.hid ((hb.block _ (blk_lt H2.out)).trans H2.out); clear hb; have p0 := blk_cell HK2.out 0; have pf0 := blk_frozen HK2.out 0; have p1 := blk_cell HK2.out 1; have pf1 := blk_frozen HK2.out 1; have pl := blk_lt HK2.out))
    refine bodyPost_ret (v := .tuple #[.agg #[.int .u64 0, .slice none 0 0], .int .u64 0, .int .i64 2]) (by simp [results, Tryd.results11, go_sem, p0, p1, pl]) rfl ?_
    refine ⟨.slice none 0 0, by rw [HR.out], by rw [HR.out]; exact Kd.R_nil _ _ _ _ _, ?_⟩
    (repeat (with_reducible first | exact HB2.out | refine Below.setCell ?_ (by dsimp only; omega) _))
  by_cases ht2 : 20 < t
  · have hE : askE nx l t = 2 := if_neg (by omega)
    have HR := Lib.hid (show (askR nx l t x) = (0, [], 2, 0) by unfold askR askC; rw [if_pos HOK.out, hE, if_neg (by decide), if_neg (by decide)])
    clear hE
    go_enter Tryd.func11, Tryd.ntmps11
    go_wp2_with (first | (go_at_call 23; (with_reducible refine (HRC.out _ true HRF.out HC1.out).mono ?_); rintro e w2 ⟨rfl, hb⟩; have HB2 := Lib.hid (HB1.out.trans (hb.mono HB1.out.size)); have HC2 := Lib.hid (Kd.C_below HC1.out hb); have HK0 := Lib.hid ((hb.block _ (blk_lt H0.out)).trans H0.out); have HK1 := Lib.hid ((hb.block _ (blk_lt H1.out)).trans H1.out); have HK2 := Lib.hid ((hb.block _ (blk_lt H2.out)).trans H2.out); clear hb; have p0 := blk_cell HK2.out 0; have pf0 := blk_frozen HK2.out 0; have p1 := blk_cell HK2.out 1; have pf1 := blk_frozen HK2.out 1; have pl := blk_lt HK2.out))
    refine bodyPost_ret (v := .tuple #[.agg #[.int .u64 0, .slice none 0 0], .int .u64 0, .int .i64 2]) (by simp [results, Tryd.results11, go_sem, p0, p1, pl]) rfl ?_
    refine ⟨.slice none 0 0, by rw [HR.out], by rw [HR.out]; exact Kd.R_nil _ _ _ _ _, ?_⟩
    (repeat (with_reducible first | exact HB2.out | refine Below.setCell ?_ (by dsimp only; omega) _))
  have htt : 1 ≤ t ∧ t ≤ 20 := by omega
  have HTT := Lib.hid htt
  clear htt
  go_enter Tryd.func11, Tryd.ntmps11
  go_wp2_with (first | (go_at_call 23; (with_reducible refine (HRC.out _ true HRF.out HC1.out).mono ?_); rintro e w2 ⟨rfl, hb⟩; have HB2 := Lib.hid (HB1.out.trans (hb.mono HB1.out.size)); have HC2 := Lib.hid (Kd.C_below HC1.out hb); have HK0 := Lib.hid ((hb.block _ (blk_lt H0.out)).trans H0.out); have HK1 := Lib.hid ((hb.block _ (blk_lt H1.out)).trans H1.out); have HK2 := Lib.hid ((hb.block _ (blk_lt H2.out)).trans H2.out); clear hb; skip))
  go_loopw [9] (fun i wr => ∃ (k : Nat) (j : Int), i = .int .i64 j ∧ Hid (j = (k : Int)) ∧ 0 ≤ j ∧ j ≤ (m : Int) ∧ Hid (wr = w2) ∧ Hid (∀ q : Nat, q < k → ((rd_T36 l (q : Int)).f1 == t) = false)) (fun i _ => (m - intOf i).toNat)
  case atStart => exact ⟨0, 0, rfl, Lib.hid rfl, by omega, by omega, Lib.hid rfl, Lib.hid (fun q hq => absurd hq (Nat.not_lt_zero _))⟩
  case round =>
    obtain ⟨k, j, rfl, HJ, hj0, hj1, HWR, KO⟩ := hrel
    obtain rfl := HWR.out
    have x0 := blk_cell HK0.out 0
    have x1 := blk_cell HK0.out 1
    have xl := blk_lt HK0.out
    by_cases hlt : j < (m : Int)
    · obtain ⟨ad, hA, _, hx1, _⟩ := at_T36 HC2.out j hj0 hlt
      subst hA
      obtain ⟨y, hy⟩ : ∃ y, y = rd_T36 l j := ⟨_, rfl⟩
      rw [← hy] at hx1
      have HXK := Lib.hid hy
      clear hy
      by_cases hck : y.f1 = t
      · have hI : idxV (fun x => x.f1 == t) l = k := idx_hit (by have := HJ.out; have := HM.out; omega) (by rw [← HJ.out, ← HXK.out]; simpa using hck) KO.out
        have hE : askE nx l t = 5 := by unfold askE; rw [if_pos HTT.out, hI, if_neg (by omega)]
        have hcb : (y.f1 == t) = true := by simpa using hck
        have HR := Lib.hid (show (askR nx l t x) = (0, [], 5, 0) by unfold askR askC; rw [if_pos HOK.out, hE, if_neg (by decide), if_neg (by decide)])
        clear hI hE hck
        have p0 := blk_cell HK2.out 0; have pf0 := blk_frozen HK2.out 0; have p1 := blk_cell HK2.out 1; have pf1 := blk_frozen HK2.out 1; have pl := blk_lt HK2.out
        go_wp2_with fail
        refine bodyPost_ret (v := .tuple #[.agg #[.int .u64 0, .slice none 0 0], .int .u64 0, .int .i64 5]) (by simp [results, Tryd.results11, go_sem, p0, p1, pl]) rfl ?_
        refine ⟨.slice none 0 0, by rw [HR.out], by rw [HR.out]; exact Kd.R_nil _ _ _ _ _, ?_⟩
        (repeat (with_reducible first | exact HB2.out | refine Below.setCell ?_ (by dsimp only; omega) _))
      · have hcb : (y.f1 == t) = false := by simpa using hck
        have HNC := Lib.hid hcb
        clear hck
        have hwj : wrap64 (j + 1) = j + 1 := by have := HM.out; have := HL.out; unfold wrap64; omega
        go_wp2_with fail
        refine ⟨⟨k + 1, j + 1, by rw [hwj], Lib.hid (by have := HJ.out; omega), by omega, by omega, Lib.hid trivial, Lib.hid (fun q hq => ?_)⟩, by rw [hwj]; simp [intOf]; omega⟩
        rcases Nat.lt_or_ge q k with h | h
        · exact KO.out q h
        · obtain rfl : q = k := by omega
          rw [← HJ.out, ← HXK.out]
          exact HNC.out
    · have HI := Lib.hid (show idxV (fun x => x.f1 == t) l = -1 from idx_miss (fun q hq => KO.out q (by have := HJ.out; have := HM.out; omega)))
      by_cases h8 : (m : Int) = 8
      · have h8b : ((m : Int) == 8) = true := by simpa using h8
        have hE : askE nx l t = 6 := by unfold askE; rw [if_pos HTT.out, HI.out, if_pos rfl, if_pos (Or.inl (by have := HM.out; omega))]
        have HR := Lib.hid (show (askR nx l t x) = (0, [], 6, 0) by unfold askR askC; rw [if_pos HOK.out, hE, if_neg (by decide), if_neg (by decide)])
        clear hE h8
        have p0 := blk_cell HK2.out 0; have pf0 := blk_frozen HK2.out 0; have p1 := blk_cell HK2.out 1; have pf1 := blk_frozen HK2.out 1; have pl := blk_lt HK2.out
        go_wp2_with fail
        refine bodyPost_ret (v := .tuple #[.agg #[.int .u64 0, .slice none 0 0], .int .u64 0, .int .i64 6]) (by simp [results, Tryd.results11, go_sem, p0, p1, pl]) rfl ?_
        refine ⟨.slice none 0 0, by rw [HR.out], by rw [HR.out]; exact Kd.R_nil _ _ _ _ _, ?_⟩
        (repeat (with_reducible first | exact HB2.out | refine Below.setCell ?_ (by dsimp only; omega) _))
      have h8b : ((m : Int) == 8) = false := by simpa using h8
      by_cases hn : nx = 4611686018427387904
      · have hnb : (nx == 4611686018427387904) = true := by simpa using hn
        have hE : askE nx l t = 6 := by unfold askE; rw [if_pos HTT.out, HI.out, if_pos rfl, if_pos (Or.inr hn)]
        have HR := Lib.hid (show (askR nx l t x) = (0, [], 6, 0) by unfold askR askC; rw [if_pos HOK.out, hE, if_neg (by decide), if_neg (by decide)])
        clear hE h8 hn
        have p0 := blk_cell HK2.out 0; have pf0 := blk_frozen HK2.out 0; have p1 := blk_cell HK2.out 1; have pf1 := blk_frozen HK2.out 1; have pl := blk_lt HK2.out
        go_wp2_with fail
        refine bodyPost_ret (v := .tuple #[.agg #[.int .u64 0, .slice none 0 0], .int .u64 0, .int .i64 6]) (by simp [results, Tryd.results11, go_sem, p0, p1, pl]) rfl ?_
        refine ⟨.slice none 0 0, by rw [HR.out], by rw [HR.out]; exact Kd.R_nil _ _ _ _ _, ?_⟩
        (repeat (with_reducible first | exact HB2.out | refine Below.setCell ?_ (by dsimp only; omega) _))
      have hnb : (nx == 4611686018427387904) = false := by simpa using hn
      have hE : askE nx l t = 0 := by unfold askE; rw [if_pos HTT.out, HI.out, if_pos rfl, if_neg (fun h => h.elim (fun h => h8 (by have := HM.out; omega)) hn)]
      have HR := Lib.hid (show (askR nx l t x) = (nx + 1, l ++ [newN nx t x], 0, nx) by unfold askR askC; rw [if_pos HOK.out, if_pos hE, if_pos hE])
      have HWF := Lib.hid (without_n 1000 (by decide) nx l HL.out)
      obtain ⟨nx1, hnx1⟩ : ∃ n, n = nx + 1 := ⟨_, rfl⟩
      have hw1 : IntKind.u64.wrap (nx + 1) = nx1 := by have h1 := HOK.out.1; have h2 := HOK.out.2.1; rw [hnx1]; simp [IntKind.wrap, IntKind.signed, IntKind.bits]; omega
      have hw2 : (nx + 1) % 18446744073709551616 = nx1 := by have h1 := HOK.out.1; have h2 := HOK.out.2.1; rw [hnx1]; omega
      rw [← hnx1] at HR
      clear hE h8 hn hnx1
      go_wp2_with (first | (go_at_call 29; (with_reducible refine (HWO.out _ HWF.out HC2.out).mono ?_); rintro e w5 ⟨v5, rfl, hR5, hb5⟩; obtain ⟨A5, c5, rfl⟩ := Kd.R_slice hR5; rw [← HM.out] at hR5 ⊢; have HR5 := Lib.hid (Kd.R_lower (Kd.R_mono (ok' := fun q => w.heap.size + 1 + 1 < q) (Kd.R_bound hR5) (fun q hq => by have := hq.2.1; have := blk_lt HK2.out; omega)) (show w.heap.size ≤ wr.heap.size from HB2.out.size)); have HB5 := Lib.hid (HB2.out.trans (hb5.mono HB2.out.size)); have HJ0 := Lib.hid ((hb5.block _ (blk_lt HK0.out)).trans HK0.out); have HJ1 := Lib.hid ((hb5.block _ (blk_lt HK1.out)).trans HK1.out); have HJ2 := Lib.hid ((hb5.block _ (blk_lt HK2.out)).trans HK2.out); have hs2 := blk_lt HK2.out; have hs5 := hb5.size; clear hR5 hb5 x0 x1 xl; have x0 := blk_cell HJ0.out 0; have x1 := blk_cell HJ0.out 1; have xl := blk_lt HJ0.out; have e0 := blk_cell HJ1.out 0; have e1 := blk_cell HJ1.out 1; have e2 := blk_cell HJ1.out 2; have e3 := blk_cell HJ1.out 3; have e4 := blk_cell HJ1.out 4; have e5 := blk_cell HJ1.out 5; have e6 := blk_cell HJ1.out 6; have e7 := blk_cell HJ1.out 7; have e8 := blk_cell HJ1.out 8; have el := blk_lt HJ1.out) | ((with_reducible refine gate_builtin (b := .append) (xs := #[.tmp 55, .tmp 61]) rfl ?_); at_builtin; refine Kd.R_append k36 (w0 := w) w.heap.size rfl (.tmp 55) (.tmp 61) 23 36 (.agg #[.int .u64 0, .int .i64 0, .int .u32 0, .int .u32 0, .int .u64 0, .int .u64 0, .int .u64 0, .int .u64 0, .int .u64 0, .int .u64 0, .int .u64 0, .bool false]) 88 rfl Tryd.underlying23 info36 rfl (by decide) (by omega) (.slice A5 m c5) l (newN nx t x) [.int .u64 nx, .int .i64 t, .int .u32 x.f0, .int .u32 x.f1, .int .u64 x.f2, .int .u64 x.f3.f0, .int .u64 x.f3.f1, .int .u64 x.f3.f2, .int .u64 x.f3.f3, .int .u64 x.f3.f4, .int .u64 x.f3.f5, .bool false] (fun q => w.heap.size + 1 + 1 < q) (fun _ => False) rfl (by first | (go_simp; done) | (go_simp; rfl)) ?aP (fun _ hk => hk.elim) ?aF ?aO ?aB ?aS ?aL ?_; (case aP => exact k36_mkM _ _ _ (newN nx t x)); (case aF => exact (fun q hq => by simp only [World.size_alloc] at hq; omega)); (case aO => exact Kd.R_alloc HR5.out (.cells #[.int .u64 nx1, .slice A5 m c5] 25)); (case aB => exact bel_al HB5.out (.cells #[.int .u64 nx1, .slice A5 m c5] 25)); (case aS => exact (bel_al HB5.out (.cells #[.int .u64 nx1, .slice A5 m c5] 25)).size); (case aL => have := HM.out; have := HL.out; omega); intro v8 w8 ho hb hg hat; obtain ⟨A8, c8, rfl⟩ := Kd.R_slice ho; obtain ⟨n8, hn8⟩ : ∃ n, n = (l ++ [newN nx t x]).length := ⟨_, rfl⟩; rw [← hn8] at ho ⊢; clear hn8; have HR8 := Lib.hid ho; have HB8 := Lib.hid hb; have HY8 := Lib.hid (blk_grown (al_new w5 (.cells #[.int .u64 nx1, .slice A5 m c5] 25)) hg (Kd.R_ne (Kd.R_alloc HR5.out (.cells #[.int .u64 nx1, .slice A5 m c5] 25)) (al_new w5 (.cells #[.int .u64 nx1, .slice A5 m c5] 25)) (by decide))); have HG0 := Lib.hid (blk_grown (al_keep (o := (.cells #[.int .u64 nx1, .slice A5 m c5] 25)) HJ0.out) hg (Kd.R_ne (Kd.R_alloc HR5.out (.cells #[.int .u64 nx1, .slice A5 m c5] 25)) (al_keep (o := (.cells #[.int .u64 nx1, .slice A5 m c5] 25)) HJ0.out) (by decide))); have HG2 := Lib.hid (blk_grown (al_keep (o := (.cells #[.int .u64 nx1, .slice A5 m c5] 25)) HJ2.out) hg (Kd.R_ne (Kd.R_alloc HR5.out (.cells #[.int .u64 nx1, .slice A5 m c5] 25)) (al_keep (o := (.cells #[.int .u64 nx1, .slice A5 m c5] 25)) HJ2.out) (by decide))); have hs8 := hg.size; simp only [World.size_alloc] at hs8; clear ho hb hg hat x0 x1 xl e0 e1 e2 e3 e4 e5 e6 e7 e8 el; have y0 := blk_cell HY8.out 0; have y1 := blk_cell HY8.out 1; have yf0 := blk_frozen HY8.out 0; have yf1 := blk_frozen HY8.out 1; have yl := blk_lt HY8.out))
      clear y0 y1 yf0 yf1 yl
      have HY9 := Lib.hid (show (w8.setCell ⟨w5.heap.size, 1, none⟩ (.slice A8 n8 c8)).drew.heap[w5.heap.size]? = some (.cells #[.int .u64 nx1, .slice A8 n8 c8] 25 (0, 0)) from blk_drew (blk_put HY8.out 1 _ rfl))
      have hYR : w5.heap.size ≠ w.heap.size + 1 + 1 := by omega
      have hXR : w.heap.size ≠ w.heap.size + 1 + 1 := by omega
      have HX9 := Lib.hid (blk_drew (blk_far HG0.out (p := ⟨w5.heap.size, 1, none⟩) (by dsimp only; omega) (.slice A8 n8 c8)))
      have HZ9 := Lib.hid (blk_drew (blk_far HG2.out (p := ⟨w5.heap.size, 1, none⟩) (by dsimp only; omega) (.slice A8 n8 c8)))
      have HR9 := Lib.hid (Kd.R_drew (Kd.R_set HR8.out HY8.out (by decide) 1 (.slice A8 n8 c8)))
      have HB9 := Lib.hid (below_drew (HB8.out.setCell (p := ⟨w5.heap.size, 1, none⟩) (by dsimp only; omega) (.slice A8 n8 c8)))
      refine start_ (n := 6) (S := fun w' => ∀ q, q ≠ w.heap.size + 1 + 1 → w'.heap[q]? = (w8.setCell ⟨w5.heap.size, 1, none⟩ (.slice A8 n8 c8)).drew.heap[q]?) (ds := []) #[false, false, false, false, false, false] (by kernel_rfl) rfl rfl (fun _ _ => rfl) (fun hHeld => ?_); refine with_tabW rask.tab15 rask.bits15 (fun HT_ HW_ => ?_)
      generalize (w8.setCell ⟨w5.heap.size, 1, none⟩ (.slice A8 n8 c8)).drew = w9 at HY9 HX9 HZ9 HR9 HB9 hHeld ⊢
      have p0 := blk_cell HZ9.out 0
      have pf0 := blk_frozen HZ9.out 0
      have p1 := blk_cell HZ9.out 1
      have pf1 := blk_frozen HZ9.out 1
      have pl := blk_lt HZ9.out
      refine pure_ (i := 1) (N := some 65) (v := ?_) (a' := ?_) #[false, true, false, false, false, false] rfl rfl (any_of HT_.out (by kernel_rfl)) (fun _ _ _ h => h) (Or.inl ⟨by rfl, ?_⟩) ?_ ?_
      rotate_left
      · intro w'
        go_simp
        with_reducible rfl
      rotate_left
      · (try simp only [Act.put, List.setIfInBounds_toArray, List.set_cons_zero, List.set_cons_succ])
        rfl
      refine take_ (i := 0) (N := some 64) (v := ?_) (a' := ?_) #[true, true, false, false, false, false] rfl rfl (take_ofW HT_.out HW_.out (by kernel_rfl)) (fun _ _ _ h => h) (Or.inl ⟨by rfl, ?_⟩) hHeld ?_ ?_
      rotate_left
      · intro w' hS_
        have hx_0 : w'.cell? ⟨w5.heap.size, 0, none⟩ = _ := blk_cell ((hS_ _ hYR).trans HY9.out) 0
        have hx_1 : w'.cell? ⟨w5.heap.size, 1, none⟩ = _ := blk_cell ((hS_ _ hYR).trans HY9.out) 1
        go_simp
        with_reducible rfl
      rotate_left
      · (try simp only [Act.put, List.setIfInBounds_toArray, List.set_cons_zero, List.set_cons_succ])
        rfl
      refine take_ (i := 2) (N := some 66) (v := ?_) (a' := ?_) #[true, true, true, false, false, false] rfl rfl (take_ofW HT_.out HW_.out (by kernel_rfl)) (fun _ _ _ h => h) (Or.inl ⟨by rfl, ?_⟩) hHeld ?_ ?_
      rotate_left
      · intro w' hS_
        have hx_ : w'.cell? ⟨w.heap.size, 0, none⟩ = _ := blk_cell ((hS_ _ hXR).trans HX9.out) 0
        go_simp
        with_reducible rfl
      rotate_left
      · (try simp only [Act.put, List.setIfInBounds_toArray, List.set_cons_zero, List.set_cons_succ])
        rfl
      refine one_ (i := 3) (N := none) #[true, true, true, true, false, false] rfl rfl (one_of HT_.out (by kernel_rfl)) (by decide) (fun K hK => ?_)
      refine skip_ (w1 := ?_) (by rfl) rfl ?_ ?_
      rotate_left
      · go_simp
        with_reducible rfl
      refine hK.out _ _ (fun q n1 => (Below.heap_setCell _ _ _ _ n1).trans (Below.heap_setCell _ _ _ _ n1)) (fun hHeld => ?_)
      clear hK K
      refine pure_ (i := 4) (N := some 7) (v := ?_) (a' := ?_) #[true, true, true, true, true, false] rfl rfl (any_of HT_.out (by kernel_rfl)) (fun _ _ _ h => h) (Or.inl ⟨by rfl, ?_⟩) ?_ ?_
      rotate_left
      · intro w'
        go_simp
        with_reducible rfl
      rotate_left
      · (try simp only [Act.put, List.setIfInBounds_toArray, List.set_cons_zero, List.set_cons_succ])
        rfl
      refine pure_ (i := 5) (N := some 8) (v := ?_) (a' := ?_) #[true, true, true, true, true, true] rfl rfl (any_of HT_.out (by kernel_rfl)) (fun _ _ _ h => h) (Or.inl ⟨by rfl, ?_⟩) ?_ ?_
      rotate_left
      · intro w'
        go_simp
        with_reducible rfl
      rotate_left
      · (try simp only [Act.put, List.setIfInBounds_toArray, List.set_cons_zero, List.set_cons_succ])
        rfl
      refine done_ (done_of HT_.out (by kernel_rfl)) ?_
      clear HT_ HW_
      (try clear hHeld)
      go_wp2_with fail
      refine bodyPost_ret (v := .tuple #[.agg #[.int .u64 nx1, .slice A8 n8 c8], .int .u64 nx, .int .i64 0]) (by simp [results, Tryd.results11, go_sem, p0, p1, pl]) rfl ?_
      refine ⟨.slice A8 n8 c8, by rw [HR.out], ?_, ?_⟩
      · rw [HR.out]
        exact Kd.R_mono (ok := fun q => w.heap.size + 1 + 1 < q) (Kd.R_far (Kd.R_far HR9.out (fun q hq e => by dsimp only at e; omega) _) (fun q hq e => by dsimp only at e; omega) _) (fun _ _ => trivial)
      · (repeat (with_reducible first | exact HB9.out | refine Below.setCell ?_ (by dsimp only; omega) _))
end Go.Proofs.YtcbiehinhmkjmaaDoor.NB
