import Derived.Test.YtcbiehinhmkjmaaDoorNZ
namespace Go.Proofs.YtcbiehinhmkjmaaDoor.NB
open Go.RowKit Go.Proofs.YtcbiehinhmkjmaaDoorW.PrintWords Go.Proofs.YtcbiehinhmkjmaaDoorW.PrintLast Go.Proofs.YtcbiehinhmkjmaaDoorW.PrintMore
open Go.Proofs.YtcbiehinhmkjmaaDoor.PB
set_option linter.unusedVariables false
set_option linter.unusedSimpArgs false
open Go.Proofs.YtcbiehinhmkjmaaDoor.PE.L (Tab efEq eqE45)
attribute [local go_sem high] Go.Proofs.YtcbiehinhmkjmaaDoor.PE.L.eqE45

theorem cut_len (l : List S36) (k : Nat) : (cut l k).length ≤ l.length := by
  unfold cut
  rw [List.length_append, List.length_take, List.length_drop]
  omega
theorem ansR_len (nx : Int) (l : List S36) (ck : Int) (go : Bool) (ret : Int) (hl : l.length ≤ 100) : (ansR nx l ck go ret).2.1.length ≤ 100 := by
  unfold ansR
  split
  · split
    · exact Nat.le_trans (cut_len l _) hl
    · exact Nat.zero_le _
  · exact Nat.zero_le _
theorem copied_f (nx : Int) (l : List S36) (hl : l.length ≤ 100) : wicketgatelaw25_copied.f nx l = some (nx, l) := by
  unfold wicketgatelaw25_copied.f
  simp only [Option.bind_some, List.length_nil, List.nil_append]
  rw [if_pos (by omega)]
theorem ef_self (g : Bool) (v : Int) : efEq ⟨0, g, v, false, 0, false, 0⟩ ⟨0, g, v, false, 0, false, 0⟩ = true := by
  unfold efEq
  simp
set_option maxRecDepth 100000 in
set_option maxHeartbeats 4000000 in
theorem answers_w (nx : Int) (A : Option Addr) (c : Nat) (l : List S36) (ck : Int) (go : Bool) (ret : Int) (hc : l.length ≤ c) (w : World) (hr : Kd.C k36 w A l.length l) (hT : Tab w) :
    Calls Tryd.prog 4 #[.agg #[.int .u64 nx, .slice A l.length c], .int .u64 ck, .agg #[.bool go, .int .i64 ret]] w fun e w' => e = .returned (.bool true) ∧ Below w.heap.size w w' := by
  obtain ⟨m, hm⟩ : ∃ m, m = l.length := ⟨_, rfl⟩
  have HM := Lib.hid hm
  have HT := Lib.hid hT
  have hB1 : Below w.heap.size w ((w.alloc (.cells #[.int .u64 nx, .slice A m c] 25)).alloc (.cells #[.bool go, .int .i64 ret] 42)) := bel_al (bel_al (Below.refl _ _) _) _
  have HB1 := Lib.hid hB1
  have HX1 := Lib.hid (al_keep (o := (.cells #[.bool go, .int .i64 ret] 42)) (al_new w (.cells #[.int .u64 nx, .slice A m c] 25)))
  have he := al_new (w.alloc (.cells #[.int .u64 nx, .slice A m c] 25)) (.cells #[.bool go, .int .i64 ret] 42)
  simp only [World.size_alloc] at he
  have HY1 := Lib.hid he
  have HC0 := Lib.hid hr
  obtain ⟨r, hrr⟩ : ∃ r, r = ansR nx l ck go ret := ⟨_, rfl⟩
  obtain ⟨n, hn⟩ : ∃ n, n = r.2.1.length := ⟨_, rfl⟩
  have HCP : Hid (l.length ≤ 100 → ∀ W : World, Kd.C k36 W A m l → Calls Tryd.prog 9 #[.agg #[.int .u64 nx, .slice A m c]] W fun e w' => ∃ v : Value, e = .returned (.agg #[.int .u64 nx, v]) ∧ Kd.R k36 36 w' W.heap.size (fun _ => True) v l ∧ Below W.heap.size W w') := by
    rw [hm]
    exact Lib.hid (fun hl W h => wicketgatelaw25_copied.calls nx A c l nx l W h hc (copied_f nx l hl))
  have HAN : Hid (∀ (W : World) (A2 : Option Addr) (c2 : Nat), Tab W → m ≤ c2 → Kd.C k36 W A2 m l → Calls Tryd.prog 15 #[.agg #[.int .u64 nx, .slice A2 m c2], .int .u64 ck, .agg #[.bool go, .int .i64 ret]] W fun e w' => ∃ v : Value, e = .returned (.tuple #[.agg #[.int .u64 r.1, v], .int .i64 r.2.2.2.1, .agg #[.int .i64 0, .bool r.2.2.2.2.1, .int .i64 r.2.2.2.2.2, .bool false, .int .u16 0, .bool false, .int .i64 0], .int .i64 r.2.2.1]) ∧ Kd.R k36 36 w' W.heap.size (fun _ => True) v r.2.1 ∧ Below W.heap.size W w') := by
    rw [hm, hrr]
    exact Lib.hid (fun W A2 c2 hT h2 h => ans_w nx A2 c2 l ck go ret h2 W hT h)
  have HRA : Hid (l.length ≤ 100 → ∀ W : World, Kd.C k36 W A m l → Calls Tryd.prog 16 #[.agg #[.int .u64 nx, .slice A m c], .int .u64 ck, .agg #[.bool go, .int .i64 ret]] W fun e w' => ∃ v : Value, e = .returned (.tuple #[.agg #[.int .u64 r.1, v], .int .i64 r.2.2.2.1, .agg #[.int .i64 0, .bool r.2.2.2.2.1, .int .i64 r.2.2.2.2.2, .bool false, .int .u16 0, .bool false, .int .i64 0], .int .i64 r.2.2.1]) ∧ Kd.R k36 36 w' W.heap.size (fun _ => True) v r.2.1 ∧ Below W.heap.size W w') := by
    rw [hm, hrr]
    exact Lib.hid (fun hl W h => rans_w nx A c l ck go ret hl hc W h)
  have HSA : Hid (l.length ≤ 100 → ∀ (W : World) (A3 : Option Addr) (c3 : Nat) (A4 : Option Addr) (c4 : Nat), Kd.C k36 W A3 n r.2.1 → n ≤ c3 → Kd.C k36 W A4 n r.2.1 → n ≤ c4 → Calls Tryd.prog 14 #[.agg #[.int .u64 r.1, .slice A3 n c3], .agg #[.int .u64 r.1, .slice A4 n c4]] W fun e w' => e = .returned (.bool true) ∧ Below W.heap.size W w') := by
    rw [hn]
    refine Lib.hid (fun hl W A3 c3 A4 c4 h1 h2 h3 h4 => wicketgateref25_Same.calls 2000 r.1 A3 c3 r.2.1 r.1 A4 c4 r.2.1 true W h1 h2 h3 h4 (rsame_self 2000 (Nat.le_refl _) r.1 r.2.1 ?_))
    rw [hrr]
    exact Nat.le_trans (ansR_len nx l ck go ret hl) (by decide)
  have HSB : Hid (l.length ≤ 100 → ∀ (W : World) (A2 : Option Addr) (c2 : Nat), Kd.C k36 W A2 m l → m ≤ c2 → Kd.C k36 W A m l → Calls Tryd.prog 14 #[.agg #[.int .u64 nx, .slice A2 m c2], .agg #[.int .u64 nx, .slice A m c]] W fun e w' => e = .returned (.bool true) ∧ Below W.heap.size W w') := by
    rw [hm]
    exact Lib.hid (fun hl W A2 c2 h1 h2 h3 => wicketgateref25_Same.calls 2000 nx A2 c2 l nx A c l true W h1 h2 h3 hc (rsame_self 2000 (Nat.le_refl _) nx l (Nat.le_trans hl (by decide))))
  have HN := Lib.hid hn
  rw [← hm] at HC0 ⊢
  clear hB1 hr hT he hm hc hrr hn
  by_cases h100 : (100 : Int) < (m : Int)
  · go_enter Tryd.func4, Tryd.ntmps4
    go_wp2_with (first | (go_at_call 8; refine (wakes_w _ (HT.out.below HB1.out)).mono ?_; rintro e w2 ⟨rfl, hb⟩; have HB2 := Lib.hid (HB1.out.trans (hb.mono HB1.out.size)); have HX2 := Lib.hid ((hb.block _ (blk_lt HX1.out)).trans HX1.out); have HY2 := Lib.hid ((hb.block _ (blk_lt HY1.out)).trans HY1.out); clear hb; have y0 := blk_cell HX2.out 0; have y1 := blk_cell HX2.out 1))
    go_ret
    exact ⟨rfl, HB2.out⟩
  have HL1 := Lib.hid (show l.length ≤ 100 by have := HM.out; omega)
  have hef := ef_self r.2.2.2.2.1 r.2.2.2.2.2
  go_enter Tryd.func4, Tryd.ntmps4
  go_wp2_with (first | (go_at_call 8; refine (wakes_w _ (HT.out.below HB1.out)).mono ?_; rintro e w2 ⟨rfl, hb⟩; have HB2 := Lib.hid (HB1.out.trans (hb.mono HB1.out.size)); have HX2 := Lib.hid ((hb.block _ (blk_lt HX1.out)).trans HX1.out); have HY2 := Lib.hid ((hb.block _ (blk_lt HY1.out)).trans HY1.out); clear hb; have y0 := blk_cell HX2.out 0; have y1 := blk_cell HX2.out 1) | (go_at_call 9; refine (HCP.out HL1.out _ (Kd.C_below HC0.out HB2.out)).mono ?_; rintro e w3 ⟨v3, rfl, hR3, hb3⟩; obtain ⟨A2, c2, rfl⟩ := Kd.R_slice hR3; rw [← HM.out] at hR3 ⊢; clear y0 y1; have HK3 := Lib.hid (Kd.R_reads' hR3); rw [← HM.out] at HK3; have HB3 := Lib.hid (bel_al (HB2.out.trans (hb3.mono HB2.out.size)) (.cells #[.int .u64 nx, .slice A2 m c2] 25)); have HX3 := Lib.hid (al_keep (o := (.cells #[.int .u64 nx, .slice A2 m c2] 25)) ((hb3.block _ (blk_lt HX2.out)).trans HX2.out)); have HY3 := Lib.hid (al_keep (o := (.cells #[.int .u64 nx, .slice A2 m c2] 25)) ((hb3.block _ (blk_lt HY2.out)).trans HY2.out)); have HO3 := Lib.hid (al_new w3 (.cells #[.int .u64 nx, .slice A2 m c2] 25)); have HC3 := Lib.hid (Kd.C_alloc HK3.out.2.2 (.cells #[.int .u64 nx, .slice A2 m c2] 25)); clear hR3 hb3; have q0 := blk_cell HY3.out 0; have q1 := blk_cell HY3.out 1) | (go_at_call 15; refine (HAN.out _ A2 c2 (HT.out.below HB3.out) HK3.out.2.1 HC3.out).mono ?_; rintro e w4 ⟨v4, rfl, hR4, hb4⟩; obtain ⟨A3, c3, rfl⟩ := Kd.R_slice hR4; rw [← HN.out] at hR4 ⊢; clear q0 q1; have HK4 := Lib.hid (Kd.R_reads' hR4); rw [← HN.out] at HK4; have HB4 := Lib.hid (bel_al (bel_al (HB3.out.trans (hb4.mono HB3.out.size)) (.cells #[.int .u64 r.1, .slice A3 n c3] 25)) (.cells #[.int .i64 0, .bool r.2.2.2.2.1, .int .i64 r.2.2.2.2.2, .bool false, .int .u16 0, .bool false, .int .i64 0] 45)); have HX4 := Lib.hid (al_keep (o := (.cells #[.int .i64 0, .bool r.2.2.2.2.1, .int .i64 r.2.2.2.2.2, .bool false, .int .u16 0, .bool false, .int .i64 0] 45)) (al_keep (o := (.cells #[.int .u64 r.1, .slice A3 n c3] 25)) ((hb4.block _ (blk_lt HX3.out)).trans HX3.out))); have HY4 := Lib.hid (al_keep (o := (.cells #[.int .i64 0, .bool r.2.2.2.2.1, .int .i64 r.2.2.2.2.2, .bool false, .int .u16 0, .bool false, .int .i64 0] 45)) (al_keep (o := (.cells #[.int .u64 r.1, .slice A3 n c3] 25)) ((hb4.block _ (blk_lt HY3.out)).trans HY3.out))); have HO4 := Lib.hid (al_keep (o := (.cells #[.int .i64 0, .bool r.2.2.2.2.1, .int .i64 r.2.2.2.2.2, .bool false, .int .u16 0, .bool false, .int .i64 0] 45)) (al_keep (o := (.cells #[.int .u64 r.1, .slice A3 n c3] 25)) ((hb4.block _ (blk_lt HO3.out)).trans HO3.out))); have HC4 := Lib.hid (Kd.C_alloc (Kd.C_alloc (Kd.C_below HC3.out hb4) (.cells #[.int .u64 r.1, .slice A3 n c3] 25)) (.cells #[.int .i64 0, .bool r.2.2.2.2.1, .int .i64 r.2.2.2.2.2, .bool false, .int .u16 0, .bool false, .int .i64 0] 45)); have HP4 := Lib.hid (al_keep (o := (.cells #[.int .i64 0, .bool r.2.2.2.2.1, .int .i64 r.2.2.2.2.2, .bool false, .int .u16 0, .bool false, .int .i64 0] 45)) (al_new w4 (.cells #[.int .u64 r.1, .slice A3 n c3] 25))); have he4 := al_new (w4.alloc (.cells #[.int .u64 r.1, .slice A3 n c3] 25)) (.cells #[.int .i64 0, .bool r.2.2.2.2.1, .int .i64 r.2.2.2.2.2, .bool false, .int .u16 0, .bool false, .int .i64 0] 45); simp only [World.size_alloc] at he4; have HQ4 := Lib.hid he4; have HC4b := Lib.hid (Kd.C_alloc (Kd.C_alloc HK4.out.2.2 (.cells #[.int .u64 r.1, .slice A3 n c3] 25)) (.cells #[.int .i64 0, .bool r.2.2.2.2.1, .int .i64 r.2.2.2.2.2, .bool false, .int .u16 0, .bool false, .int .i64 0] 45)); clear hR4 hb4 he4; have y0 := blk_cell HX4.out 0; have y1 := blk_cell HX4.out 1; have q0 := blk_cell HY4.out 0; have q1 := blk_cell HY4.out 1) | (go_at_call 16; refine (HRA.out HL1.out _ (Kd.C_below HC0.out HB4.out)).mono ?_; rintro e w5 ⟨v5, rfl, hR5, hb5⟩; obtain ⟨A4, c4, rfl⟩ := Kd.R_slice hR5; rw [← HN.out] at hR5 ⊢; clear y0 y1 q0 q1; have HK5 := Lib.hid (Kd.R_reads' hR5); rw [← HN.out] at HK5; have HB5 := Lib.hid (bel_al (bel_al (HB4.out.trans (hb5.mono HB4.out.size)) (.cells #[.int .u64 r.1, .slice A4 n c4] 25)) (.cells #[.int .i64 0, .bool r.2.2.2.2.1, .int .i64 r.2.2.2.2.2, .bool false, .int .u16 0, .bool false, .int .i64 0] 45)); have HX5 := Lib.hid (al_keep (o := (.cells #[.int .i64 0, .bool r.2.2.2.2.1, .int .i64 r.2.2.2.2.2, .bool false, .int .u16 0, .bool false, .int .i64 0] 45)) (al_keep (o := (.cells #[.int .u64 r.1, .slice A4 n c4] 25)) ((hb5.block _ (blk_lt HX4.out)).trans HX4.out))); have HO5 := Lib.hid (al_keep (o := (.cells #[.int .i64 0, .bool r.2.2.2.2.1, .int .i64 r.2.2.2.2.2, .bool false, .int .u16 0, .bool false, .int .i64 0] 45)) (al_keep (o := (.cells #[.int .u64 r.1, .slice A4 n c4] 25)) ((hb5.block _ (blk_lt HO4.out)).trans HO4.out))); have HC5 := Lib.hid (Kd.C_alloc (Kd.C_alloc (Kd.C_below HC4.out hb5) (.cells #[.int .u64 r.1, .slice A4 n c4] 25)) (.cells #[.int .i64 0, .bool r.2.2.2.2.1, .int .i64 r.2.2.2.2.2, .bool false, .int .u16 0, .bool false, .int .i64 0] 45)); have HC5b := Lib.hid (Kd.C_alloc (Kd.C_alloc (Kd.C_below HC4b.out hb5) (.cells #[.int .u64 r.1, .slice A4 n c4] 25)) (.cells #[.int .i64 0, .bool r.2.2.2.2.1, .int .i64 r.2.2.2.2.2, .bool false, .int .u16 0, .bool false, .int .i64 0] 45)); have HC5c := Lib.hid (Kd.C_alloc (Kd.C_alloc HK5.out.2.2 (.cells #[.int .u64 r.1, .slice A4 n c4] 25)) (.cells #[.int .i64 0, .bool r.2.2.2.2.1, .int .i64 r.2.2.2.2.2, .bool false, .int .u16 0, .bool false, .int .i64 0] 45)); have hp5 := (hb5.block _ (blk_lt HP4.out)).trans HP4.out; have hq5 := (hb5.block _ (blk_lt HQ4.out)).trans HQ4.out; have d0 := blk_cell hp5 0; have d1 := blk_cell hp5 1; have dl := blk_lt hp5; have f0 := blk_cell hq5 0; have f1 := blk_cell hq5 1; have f2 := blk_cell hq5 2; have f3 := blk_cell hq5 3; have f4 := blk_cell hq5 4; have f5 := blk_cell hq5 5; have f6 := blk_cell hq5 6; have fl := blk_lt hq5; clear hR5 hb5 hp5 hq5) | (go_at_call 14; (with_reducible refine (HSA.out HL1.out _ A3 c3 A4 c4 HC5b.out HK4.out.2.1 HC5c.out HK5.out.2.1).mono ?_); rintro e w6 ⟨rfl, hb6⟩; have HB6 := Lib.hid (HB5.out.trans (hb6.mono HB5.out.size)); clear d0 d1 dl f0 f1 f2 f3 f4 f5 f6 fl; have hx6 := (hb6.block _ (blk_lt HX5.out)).trans HX5.out; have ho6 := (hb6.block _ (blk_lt HO5.out)).trans HO5.out; have HC6 := Lib.hid (Kd.C_below HC5.out hb6); clear hb6; have y0 := blk_cell hx6 0; have y1 := blk_cell hx6 1; have o0 := blk_cell ho6 0; have o1 := blk_cell ho6 1) | (go_at_call 14; (with_reducible refine (HSB.out HL1.out _ A2 c2 HC6.out HK3.out.2.1 (Kd.C_below HC0.out HB6.out)).mono ?_); rintro e w7 ⟨rfl, hb7⟩; have HB7 := Lib.hid (HB6.out.trans (hb7.mono HB6.out.size)); clear hb7))
  go_ret
  exact ⟨rfl, HB7.out⟩
end Go.Proofs.YtcbiehinhmkjmaaDoor.NB
