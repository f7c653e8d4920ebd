import Derived.Test.YtcbiehinhmkjmaaDoorNP
namespace Go.Proofs.YtcbiehinhmkjmaaDoor.NB
open Go.RowKit Go.Proofs.YtcbiehinhmkjmaaDoorW.PrintWords Go.Proofs.YtcbiehinhmkjmaaDoorW.PrintLast Go.Proofs.YtcbiehinhmkjmaaDoorW.PrintMore
open Go.Proofs.YtcbiehinhmkjmaaDoor.PB
set_option linter.unusedVariables false
set_option linter.unusedSimpArgs false
open Go.Proofs.YtcbiehinhmkjmaaDoor.PE.L (Tab)

theorem rd_app {l : List S36} {n : S36} {i : Nat} (h : i < l.length) : rd_T36 (l ++ [n]) (i : Int) = rd_T36 l (i : Int) := by
  rw [rd_at (by rw [List.length_append]; omega), rd_at h, List.getElem_append_left h]
theorem rd_last {l : List S36} {n : S36} : rd_T36 (l ++ [n]) (l.length : Int) = n := by
  rw [rd_at (by rw [List.length_append]; exact Nat.lt_succ_self _)]
  simp
theorem ask_zero {nx : Int} {l : List S36} {t : Int} (h : askE nx l t = 0) : (1 ≤ t ∧ t ≤ 20) ∧ idxV (fun x => x.f1 == t) l = -1 ∧ l.length ≠ 8 ∧ nx ≠ 4611686018427387904 := by
  unfold askE at h
  split at h
  · rename_i h1
    split at h
    · rename_i h2
      split at h
      · cases h
      · rename_i h3
        exact ⟨h1, h2, fun e => h3 (Or.inl e), fun e => h3 (Or.inr e)⟩
    · cases h
  · cases h
theorem ask_none {l : List S36} {t : Int} (h : idxV (fun x => x.f1 == t) l = -1) : ∀ q : Nat, q < l.length → ((rd_T36 l (q : Int)).f1 == t) = false := by
  rcases idx_cases (fun x => x.f1 == t) l with ⟨_, h1⟩ | ⟨k, _, h1, _⟩
  · exact h1
  · rw [h] at h1
    omega
theorem ask_dok {nx : Int} {l : List S36} {t : Int} (x : S29) (h : Dok nx l) (he : askE nx l t = 0) : Dok (nx + 1) (l ++ [newN nx t x]) := by
  obtain ⟨h1, h2, h3, h4⟩ := h
  obtain ⟨e1, e2, e3, e4⟩ := ask_zero he
  have e5 := ask_none e2
  refine ⟨by omega, by omega, by rw [List.length_append, List.length_singleton]; omega, fun i hi => ?_⟩
  rw [List.length_append, List.length_singleton] at hi
  rcases Nat.lt_or_ge i l.length with hil | hil
  · obtain ⟨k1, k2, k3, k4, k5, k6⟩ := h4 i hil
    unfold okAt ckOf tidOf at *
    rw [rd_app hil, List.take_append_of_le_length (Nat.le_of_lt hil)]
    refine ⟨k1, by omega, fun hp => ?_, k4, k5, k6⟩
    have := k3 hp
    rw [show ((i : Int) - 1) = ((i - 1 : Nat) : Int) by omega] at this ⊢
    rw [rd_app (by omega)]
    exact this
  · obtain rfl : i = l.length := by omega
    unfold okAt ckOf tidOf
    rw [rd_last, List.take_append_of_le_length (Nat.le_refl _), List.take_length]
    refine ⟨h1, by show nx < nx + 1; omega, fun hp => ?_, e1.1, e1.2, ?_⟩
    · rw [show ((l.length : Int) - 1) = ((l.length - 1 : Nat) : Int) by omega, rd_app (by omega)]
      exact (h4 (l.length - 1) (by omega)).2.1
    · rw [List.any_eq_false]
      intro y hy
      obtain ⟨q, hq, rfl⟩ := List.mem_iff_getElem.1 hy
      have := e5 q hq
      rw [rd_at hq] at this
      rw [show (newN nx t x).f1 = t from rfl, this]
      exact Bool.false_ne_true
theorem gone_new {nx : Int} {l : List S36} {t : Int} (x : S29) (h : Dok nx l) (he : askE nx l t = 0) : goneR (nx + 1) (l ++ [newN nx t x]) t = (nx + 1, l, 0, true) := by
  obtain ⟨e1, e2, e3, e4⟩ := ask_zero he
  have e5 := ask_none e2
  have hi : idxV (fun y => y.f1 == t) (l ++ [newN nx t x]) = (l.length : Int) := idx_hit (by rw [List.length_append]; exact Nat.lt_succ_self _) (by rw [rd_last]; exact beq_self_eq_true t) (fun q hq => by rw [rd_app hq]; exact e5 q hq)
  have hn : ¬ (l.length : Int) = -1 := by omega
  unfold goneR
  rw [if_pos (ask_dok x h he)]
  unfold goneL goneB
  rw [hi, if_neg hn, decide_eq_false hn]
  have hc : cut (l ++ [newN nx t x]) l.length = l := by
    unfold cut
    rw [List.take_append_of_le_length (Nat.le_refl _), List.take_length, List.drop_eq_nil_of_le (by rw [List.length_append]; exact Nat.le_refl _), List.append_nil]
  rw [show ((l.length : Int)).toNat = l.length from Int.toNat_natCast _, hc]
  rfl
theorem same_loop (l : List S36) (hl : l.length ≤ 1000) : ∀ (d i k : Nat), i + d = l.length → d < k → api_Notice_39.l0 k l l (l.length : Int) i = some true := by
  intro d
  induction d with
  | zero =>
    intro i k hi hk
    obtain ⟨k, rfl⟩ : ∃ n, k = n + 1 := ⟨k - 1, by omega⟩
    rw [api_Notice_39.l0, if_neg (by omega)]
  | succ d ih =>
    intro i k hi hk
    obtain ⟨k, rfl⟩ : ∃ n, k = n + 1 := ⟨k - 1, by omega⟩
    rw [api_Notice_39.l0, if_pos (by omega), if_pos (by omega), if_pos (by omega), if_pos (by omega), show wrap64 ((i : Int) + 1) = ((i + 1 : Nat) : Int) from w_succ i (by omega), ih (i + 1) k (by omega) (by omega)]
    simp
theorem same_self (k : Nat) (hk : 1000 ≤ k) (nx : Int) (l : List S36) (hl : l.length ≤ 100) : notify_Same.f k nx l nx l = some true := by
  unfold notify_Same.f api_Notice_39.f
  rw [if_pos rfl, if_pos rfl, show (0 : Int) = ((0 : Nat) : Int) from rfl, same_loop l (by omega) l.length 0 k (by omega) (by omega)]
  rfl
theorem ask_bad {nx : Int} {l : List S36} {t : Int} {x : S29} (h : ¬ (Dok nx l ∧ askE nx l t = 0)) : ∃ er, er ≠ 0 ∧ askR nx l t x = (0, [], er, 0) := by
  unfold askR
  by_cases h1 : Dok nx l
  · have h2 : ¬ askE nx l t = 0 := fun e => h ⟨h1, e⟩
    rw [if_pos h1, if_neg h2]
    refine ⟨askE nx l t, h2, ?_⟩
    unfold askC
    rw [if_neg h2]
  · rw [if_neg h1]
    exact ⟨350, by decide, rfl⟩
set_option maxRecDepth 100000 in
set_option maxHeartbeats 4000000 in
theorem back_w (nx : Int) (A : Option Addr) (c : Nat) (l : List S36) (t : Int) (x : S29) (hc : l.length ≤ c) (w : World) (hr : Kd.C k36 w A l.length l) (hT : Tab w) :
    Calls Tryd.prog 5 #[.agg #[.int .u64 nx, .slice A l.length c], .int .i64 t, .agg #[.int .u32 x.f0, .int .u32 x.f1, .int .u64 x.f2, .int .u64 x.f3.f0, .int .u64 x.f3.f1, .int .u64 x.f3.f2, .int .u64 x.f3.f3, .int .u64 x.f3.f4, .int .u64 x.f3.f5]] w fun e w' => e = .returned (.bool true) ∧ Below w.heap.size w w' := by
  obtain ⟨m, hm⟩ : ∃ m, m = l.length := ⟨_, rfl⟩
  have HM := Lib.hid hm
  have hB1 : Below w.heap.size w ((w.alloc (.cells #[.int .u64 nx, .slice A m c] 25)).alloc (.cells #[.int .u32 x.f0, .int .u32 x.f1, .int .u64 x.f2, .int .u64 x.f3.f0, .int .u64 x.f3.f1, .int .u64 x.f3.f2, .int .u64 x.f3.f3, .int .u64 x.f3.f4, .int .u64 x.f3.f5] 29)) := bel_al (bel_al (Below.refl _ _) _) _
  have HB1 := Lib.hid hB1
  have HT1 := Lib.hid (hT.below hB1)
  have HX1 := Lib.hid (al_keep (o := (.cells #[.int .u32 x.f0, .int .u32 x.f1, .int .u64 x.f2, .int .u64 x.f3.f0, .int .u64 x.f3.f1, .int .u64 x.f3.f2, .int .u64 x.f3.f3, .int .u64 x.f3.f4, .int .u64 x.f3.f5] 29)) (al_new w (.cells #[.int .u64 nx, .slice A m c] 25)))
  have he := al_new (w.alloc (.cells #[.int .u64 nx, .slice A m c] 25)) (.cells #[.int .u32 x.f0, .int .u32 x.f1, .int .u64 x.f2, .int .u64 x.f3.f0, .int .u64 x.f3.f1, .int .u64 x.f3.f2, .int .u64 x.f3.f3, .int .u64 x.f3.f4, .int .u64 x.f3.f5] 29)
  simp only [World.size_alloc] at he
  have HE1 := Lib.hid he
  have HC0 := Lib.hid hr
  have HAK : Hid (∀ W : World, Kd.C k36 W A m l → Calls Tryd.prog 10 #[.agg #[.int .u64 nx, .slice A m c], .int .i64 t, .agg #[.int .u32 x.f0, .int .u32 x.f1, .int .u64 x.f2, .int .u64 x.f3.f0, .int .u64 x.f3.f1, .int .u64 x.f3.f2, .int .u64 x.f3.f3, .int .u64 x.f3.f4, .int .u64 x.f3.f5]] W fun e w' => ∃ v : Value, e = .returned (.tuple #[.agg #[.int .u64 (askR nx l t x).1, v], .int .u64 (askR nx l t x).2.2.2, .int .i64 (askR nx l t x).2.2.1]) ∧ Kd.R k36 36 w' W.heap.size (fun _ => True) v (askR nx l t x).2.1 ∧ Below W.heap.size W w') := by
    rw [hm]
    exact Lib.hid (fun W h => ask_w nx A c l t x hc W h)
  have HSM : Hid (l.length ≤ 100 → ∀ (W : World) (A4 : Option Addr) (c4 : Nat), Kd.C k36 W A4 m l → m ≤ c4 → Kd.C k36 W A m l → Calls Tryd.prog 18 #[.agg #[.int .u64 nx, .slice A4 m c4], .agg #[.int .u64 nx, .slice A m c]] W fun e w' => e = .returned (.bool true) ∧ Below W.heap.size W w') := by
    rw [hm]
    exact Lib.hid (fun hl W A4 c4 h1 h2 h3 => notify_Same.calls 1000 nx A4 c4 l nx A c l true W h1 h2 h3 hc (same_self 1000 (Nat.le_refl _) nx l hl))
  rw [← hm] at HC0 ⊢
  clear hB1 hr hT he hm hc
  by_cases h100 : (100 : Int) < (m : Int)
  · go_enter Tryd.func5, Tryd.ntmps5
    go_wp2_with (first | (go_at_call 8; refine (wakes_w _ HT1.out).mono ?_; rintro e w2 ⟨rfl, hb⟩; have HB2 := Lib.hid (HB1.out.trans (hb.mono HB1.out.size)); have HX2 := Lib.hid ((hb.block _ (blk_lt HX1.out)).trans HX1.out); have HE2 := Lib.hid ((hb.block _ (blk_lt HE1.out)).trans HE1.out); clear hb; have y0 := blk_cell HX2.out 0; have y1 := blk_cell HX2.out 1; have e0 := blk_cell HE2.out 0; have e1 := blk_cell HE2.out 1; have e2 := blk_cell HE2.out 2; have e3 := blk_cell HE2.out 3; have e4 := blk_cell HE2.out 4; have e5 := blk_cell HE2.out 5; have e6 := blk_cell HE2.out 6; have e7 := blk_cell HE2.out 7; have e8 := blk_cell HE2.out 8))
    go_ret
    exact ⟨rfl, HB2.out⟩
  by_cases hgo : Dok nx l ∧ askE nx l t = 0
  case neg =>
    obtain ⟨er, her, hA⟩ := ask_bad (x := x) hgo
    have HA := Lib.hid hA
    have hb := (show (er != 0) = true by simpa using her)
    clear hgo her hA
    go_enter Tryd.func5, Tryd.ntmps5
    go_wp2_with (first | (go_at_call 8; refine (wakes_w _ HT1.out).mono ?_; rintro e w2 ⟨rfl, hb⟩; have HB2 := Lib.hid (HB1.out.trans (hb.mono HB1.out.size)); have HX2 := Lib.hid ((hb.block _ (blk_lt HX1.out)).trans HX1.out); have HE2 := Lib.hid ((hb.block _ (blk_lt HE1.out)).trans HE1.out); clear hb; have y0 := blk_cell HX2.out 0; have y1 := blk_cell HX2.out 1; have e0 := blk_cell HE2.out 0; have e1 := blk_cell HE2.out 1; have e2 := blk_cell HE2.out 2; have e3 := blk_cell HE2.out 3; have e4 := blk_cell HE2.out 4; have e5 := blk_cell HE2.out 5; have e6 := blk_cell HE2.out 6; have e7 := blk_cell HE2.out 7; have e8 := blk_cell HE2.out 8) | (go_at_call 10; refine (HAK.out _ (Kd.C_below HC0.out HB2.out)).mono ?_; rintro e w3 ⟨v3, he, hR3, hb3⟩; rw [HA.out] at he hR3; dsimp only at he hR3; obtain ⟨A3, c3, rfl⟩ := Kd.R_slice hR3; subst he; have HB3 := Lib.hid (HB2.out.trans (hb3.mono HB2.out.size)); clear y0 y1 e0 e1 e2 e3 e4 e5 e6 e7 e8; clear hR3 hb3))
    go_ret
    exact ⟨by simp, bel_al HB3.out _⟩
  have HA := Lib.hid (show askR nx l t x = (nx + 1, l ++ [newN nx t x], 0, nx) by unfold askR; rw [if_pos hgo.1, if_pos hgo.2]; unfold askC; rw [if_pos hgo.2])
  have HG := Lib.hid (gone_new x hgo.1 hgo.2)
  have HL1 := Lib.hid (show l.length ≤ 100 by have := HM.out; omega)
  obtain ⟨nx1, hnx1⟩ : ∃ n, n = nx + 1 := ⟨_, rfl⟩
  have hw1 : IntKind.u64.wrap (nx + 1) = nx1 := by have h1 := hgo.1.1; have h2 := hgo.1.2.1; rw [hnx1]; simp [IntKind.wrap, IntKind.signed, IntKind.bits]; omega
  have hw2 : (nx + 1) % 18446744073709551616 = nx1 := by have h1 := hgo.1.1; have h2 := hgo.1.2.1; rw [hnx1]; omega
  rw [← hnx1] at HA HG
  clear hgo hnx1
  obtain ⟨l2, hl2⟩ : ∃ l2, l2 = l ++ [newN nx t x] := ⟨_, rfl⟩
  rw [← hl2] at HA HG
  clear hl2
  go_enter Tryd.func5, Tryd.ntmps5
  go_wp2_with (first | (go_at_call 8; refine (wakes_w _ HT1.out).mono ?_; rintro e w2 ⟨rfl, hb⟩; have HB2 := Lib.hid (HB1.out.trans (hb.mono HB1.out.size)); have HX2 := Lib.hid ((hb.block _ (blk_lt HX1.out)).trans HX1.out); have HE2 := Lib.hid ((hb.block _ (blk_lt HE1.out)).trans HE1.out); clear hb; have y0 := blk_cell HX2.out 0; have y1 := blk_cell HX2.out 1; have e0 := blk_cell HE2.out 0; have e1 := blk_cell HE2.out 1; have e2 := blk_cell HE2.out 2; have e3 := blk_cell HE2.out 3; have e4 := blk_cell HE2.out 4; have e5 := blk_cell HE2.out 5; have e6 := blk_cell HE2.out 6; have e7 := blk_cell HE2.out 7; have e8 := blk_cell HE2.out 8) | (go_at_call 10; refine (HAK.out _ (Kd.C_below HC0.out HB2.out)).mono ?_; rintro e w3 ⟨v3, he, hR3, hb3⟩; rw [HA.out] at he hR3; dsimp only at he hR3; obtain ⟨A3, c3, rfl⟩ := Kd.R_slice hR3; subst he; have HB3 := Lib.hid (HB2.out.trans (hb3.mono HB2.out.size)); clear y0 y1 e0 e1 e2 e3 e4 e5 e6 e7 e8; obtain ⟨n3, hn3⟩ : ∃ n, n = l2.length := ⟨_, rfl⟩; have HGN : Hid (∀ W : World, Kd.C k36 W A3 n3 l2 → n3 ≤ c3 → Calls Tryd.prog 17 #[.agg #[.int .u64 nx1, .slice A3 n3 c3], .int .i64 t] W fun e w' => ∃ v : Value, e = .returned (.tuple #[.agg #[.int .u64 (goneR nx1 l2 t).1, v], .bool (goneR nx1 l2 t).2.2.2, .int .i64 (goneR nx1 l2 t).2.2.1]) ∧ Kd.R k36 36 w' W.heap.size (fun _ => True) v (goneR nx1 l2 t).2.1 ∧ Below W.heap.size W w') := (by rw [hn3]; exact Lib.hid (fun W h h2 => gone_w nx1 A3 c3 l2 t h2 W h)); rw [← hn3] at hR3 ⊢; have HK3 := Lib.hid (Kd.R_reads' hR3); rw [← hn3] at HK3; clear hn3 hR3; have HX3 := Lib.hid ((hb3.block _ (blk_lt HX2.out)).trans HX2.out); clear hb3; have HB4 := Lib.hid (bel_al HB3.out (.cells #[.int .u64 nx1, .slice A3 n3 c3] 25)); have HX4 := Lib.hid (al_keep (o := (.cells #[.int .u64 nx1, .slice A3 n3 c3] 25)) HX3.out)) | (go_at_call 17; refine (HGN.out _ (Kd.C_alloc HK3.out.2.2 _) HK3.out.2.1).mono ?_; rintro e w5 ⟨v5, he, hR5, hb5⟩; rw [HG.out] at he hR5; dsimp only at he hR5; obtain ⟨A5, c5, rfl⟩ := Kd.R_slice hR5; subst he; rw [← HM.out] at hR5 ⊢; have HB5 := Lib.hid (HB4.out.trans (hb5.mono HB4.out.size)); have HX5 := Lib.hid ((hb5.block _ (blk_lt HX4.out)).trans HX4.out); have HR5 := Lib.hid hR5; clear hR5 hb5; have y0 := blk_cell HX5.out 0; have y1 := blk_cell HX5.out 1; have yl := blk_lt HX5.out; have HK5 := Lib.hid (Kd.R_reads' HR5.out); rw [← HM.out] at HK5) | (go_at_call 18; refine (HSM.out HL1.out _ A5 c5 (Kd.C_alloc HK5.out.2.2 _) HK5.out.2.1 (Kd.C_below HC0.out (bel_al HB5.out (.cells #[.int .u64 nx, .slice A5 m c5] 25)))).mono ?_; rintro e w6 ⟨rfl, hb6⟩; have HB6 := Lib.hid ((bel_al HB5.out (.cells #[.int .u64 nx, .slice A5 m c5] 25)).trans (hb6.mono (bel_al HB5.out (.cells #[.int .u64 nx, .slice A5 m c5] 25)).size)); clear hb6))
  go_ret
  exact ⟨rfl, HB6.out⟩
end Go.Proofs.YtcbiehinhmkjmaaDoor.NB
