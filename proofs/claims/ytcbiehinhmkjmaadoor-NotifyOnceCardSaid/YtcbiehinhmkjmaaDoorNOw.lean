import Derived.Test.YtcbiehinhmkjmaaDoorNOc
namespace Go.Proofs.YtcbiehinhmkjmaaDoor.NB
open Go.RowKit Go.Proofs.YtcbiehinhmkjmaaDoorW.PrintWords Go.Proofs.YtcbiehinhmkjmaaDoorW.PrintLast Go.Proofs.YtcbiehinhmkjmaaDoorW.PrintMore
open Go.Proofs.YtcbiehinhmkjmaaDoor.PB
set_option linter.unusedVariables false
set_option linter.unusedSimpArgs false
open Go.Proofs.YtcbiehinhmkjmaaDoor.PE.L (Tab)
def on.T26 : Bool × List (List Nat × List Nat) := (true, [([], []), ([], []), ([1], [1]), ([0, 0], [0]), ([2, 3, 0, 1, 2, 3], [2])])
def on.B26 : List Nat := [0, 0, 2, 1, 15]
theorem on.tab26 : rtab .any (opsOf Tryd.f6 26) = on.T26 := by kernel_rfl
theorem on.bits26 : waitsOk on.T26.2 on.B26 = true := by kernel_rfl
set_option maxRecDepth 100000 in
set_option maxHeartbeats 4000000 in
theorem new_w (w : World) : Calls Tryd.prog 19 #[] w fun e w' => e = .returned (.agg #[.int .u64 1, .slice none 0 0]) ∧ Below w.heap.size w w' := by
  go_enter Tryd.func19, Tryd.ntmps19
  go_wp2_with fail
  refine bodyPost_ret (v := .agg #[.int .u64 1, .slice none 0 0]) (by simp [results, Tryd.results19, go_sem]) rfl ?_
  exact ⟨rfl, by repeat (with_reducible first | exact bel_al (Below.refl _ _) _ | refine Below.setCell ?_ (by dsimp only; omega) _)⟩
set_option maxRecDepth 100000 in
set_option maxHeartbeats 4000000 in
theorem once_w (A : Option Addr) (c : Nat) (l0 : List S57) (w : World) (hr : Kd.C k57 w A l0.length l0) (hT : Tab w) :
    Calls Tryd.prog 6 #[.slice A l0.length c] w fun e w' => e = .returned (.bool true) ∧ Below w.heap.size w w' := by
  obtain ⟨m, hm⟩ : ∃ m, m = l0.length := ⟨_, rfl⟩
  have HM := Lib.hid hm
  have HT1 := Lib.hid hT
  rw [← hm] at hr ⊢
  have HC := Lib.hid hr
  clear hr hT hm
  have hmm := @run_makeMap Tryd.prog
  go_enter Tryd.func6, Tryd.ntmps6
  go_wp2_with (first | (go_at_call 8; (with_reducible refine (wakes_w _ HT1.out).mono ?_); rintro e w1 ⟨rfl, hb⟩; have HB1 := Lib.hid hb; clear hb) | (go_at_call 19; (with_reducible refine (new_w _).mono ?_); rintro e w2 ⟨rfl, hb⟩; have HB2 := Lib.hid (HB1.out.trans (hb.mono HB1.out.size)); clear hb))
  clear hmm
  have HR0 : Rd w ((((w2.alloc (.cells #[.int .u64 1, .slice none 0 0] 25)).alloc (.map #[] 0)).alloc (.map #[] 0)).alloc (.map #[] 0)) w2.heap.size (.slice none 0 0) (.slice none 0 0) 1 1 [] [] 0 0 0 (fun _ => 0) (fun _ => false) (fun _ => false) := by
    have e0 := al_keep (o := (.map #[] 0)) (al_keep (o := (.map #[] 0)) (al_keep (o := (.map #[] 0)) (al_new w2 (.cells #[.int .u64 1, .slice none 0 0] 25))))
    have e1 := (AskM.made (w2.alloc (.cells #[.int .u64 1, .slice none 0 0] 25))).keep (w' := ((((w2.alloc (.cells #[.int .u64 1, .slice none 0 0] 25)).alloc (.map #[] 0)).alloc (.map #[] 0)).alloc (.map #[] 0))) (by rw [Below.heap_alloc _ _ _ (by simp only [World.size_alloc]; (first | done | omega)), Below.heap_alloc _ _ _ (by simp only [World.size_alloc]; (first | done | omega))])
    have e2 := (SetU.made ((w2.alloc (.cells #[.int .u64 1, .slice none 0 0] 25)).alloc (.map #[] 0))).keep (w' := ((((w2.alloc (.cells #[.int .u64 1, .slice none 0 0] 25)).alloc (.map #[] 0)).alloc (.map #[] 0)).alloc (.map #[] 0))) (by rw [Below.heap_alloc _ _ _ (by simp only [World.size_alloc]; (first | done | omega))])
    have e3 := SetU.made (((w2.alloc (.cells #[.int .u64 1, .slice none 0 0] 25)).alloc (.map #[] 0)).alloc (.map #[] 0))
    simp only [World.size_alloc] at e1 e2 e3
    refine ⟨bel_al (bel_al (bel_al (bel_al HB2.out _) _) _) _, HB2.out.size, (by simp only [World.size_alloc]; (first | done | omega)), e0, Kd.R_nil _ _ _ _ _, Kd.R_nil _ _ _ _ _, ?_, e2, e3⟩
    rw [show hh 1 = (fun _ => false) from by funext j; unfold hh; simp]
    exact e1
  have HR0 := Lib.hid HR0
  go_loopw [4, 8, 42] (fun gs la i wr => ∃ (k : Nat) (j last nx : Int) (Av : Option Addr) (nv cv : Nat) (Ag : Option Addr) (ng cg : Nat) (l : List S36) (gv : List Int) (n1 n2 n3 : Nat) (f : Int → Int) (tkn ov : Int → Bool), gs = .slice Ag ng cg ∧ la = .int .u64 last ∧ i = .int .i64 j ∧ Hid (j = (k : Int)) ∧ 0 ≤ j ∧ j ≤ 80 ∧ j ≤ (m : Int) ∧ Hid (Rd w wr w2.heap.size (.slice Av nv cv) (.slice Ag ng cg) nx nx l gv n1 n2 n3 f tkn ov) ∧ Hid (Iv nx l gv f tkn ov last) ∧ Hid (gv.length ≤ k ∧ n1 ≤ k ∧ n2 ≤ k ∧ n3 ≤ 100 * k)) (fun _ _ i _ => (m - intOf i).toNat)
  case atStart => exact ⟨0, 0, 0, 1, none, 0, 0, none, 0, 0, [], [], 0, 0, 0, _, _, _, rfl, rfl, rfl, Lib.hid rfl, by omega, by omega, by omega, HR0, Lib.hid iv_start, Lib.hid ⟨Nat.le_refl _, Nat.le_refl _, Nat.le_refl _, Nat.le_refl _⟩⟩
  case round =>
    clear HR0
    obtain ⟨k, j, last, nx, Av, nv, cv, Ag, ng, cg, l, gv, n1, n2, n3, f, tkn, ov, rfl, rfl, rfl, HJ, hj0, hj80, hjm, HR, HI, HN⟩ := hrel
    by_cases hlt : j < (m : Int)
    case neg =>
      go_wp2_with fail
      go_ret
      exact ⟨rfl, HR.out.hb⟩
    obtain ⟨ad, hA, hx0, hx1, hx2, hx3⟩ := at_T57 (Kd.C_below HC.out HR.out.hb) j hj0 hlt
    subst hA
    obtain ⟨x, hx⟩ : ∃ x, x = rd_T57 l0 j := ⟨_, rfl⟩
    rw [← hx] at hx0 hx1 hx2 hx3
    clear hx
    by_cases h80 : j = 80
    · have h80b : (j == 80) = true := by simpa using h80
      clear h80
      go_wp2_with fail
      go_ret
      exact ⟨rfl, (HR.out.alloc _).hb⟩
    have h80b : (j == 80) = false := by simpa using h80
    have hj79 : j ≤ 79 := by omega
    have hwj : wrap64 (j + 1) = j + 1 := by unfold wrap64; omega
    clear h80 hj80
    have HR1 := Lib.hid (HR.out.alloc (.cells #[.int .i64 x.f0, .int .i64 x.f1, .bool x.f2.f0, .int .i64 x.f2.f1] 57))
    have HYB := Lib.hid (al_new wr (.cells #[.int .i64 x.f0, .int .i64 x.f1, .bool x.f2.f0, .int .i64 x.f2.f1] 57))
    have y0 := blk_cell HR.out.hd 0
    have y1 := blk_cell HR.out.hd 1
    have yl := blk_lt HR.out.hd
    have xl := blk_lt HYB.out
    rcases kd_cases x.f0 with hk | hk | hk | hk
    · have hq0 : ((wrap64 (x.f0.tmod 4 + 4)).tmod 4 == 0) = true := by rw [hk]; rfl
      clear hk
      as_aux_lemma =>
        by_cases he : askE nx l (max x.f1 0 % 8 + 1) = 0
        case neg =>
          obtain ⟨er, her, hA⟩ := ask_bad (x := z29) (nx := nx) (l := l) (t := (max x.f1 0 % 8 + 1)) (fun h => he h.2)
          have HA := Lib.hid hA
          have HP := Lib.hid (show 0 = ([] : List S36).length from rfl)
          have hbr : (er != 0) = true := by simpa using her
          clear he her hA
          go_wp2_with (first | (go_at_call 10; (with_reducible refine (ask_d HR1.out.row.1 HA.out HP.out Av cv HR1.out.row.2.1 _ HR1.out.row.2.2).mono ?_); rintro e w3 ⟨A3, c3, rfl, hc3, hR3, hb3⟩; have HR3 := Lib.hid ((HR1.out.below hb3).alloc (.cells #[.int .u64 0, .slice A3 0 c3] 25)); clear hb3 hR3 y0 y1 yl))
          refine ⟨⟨k + 1, j + 1, last, nx, Av, nv, cv, Ag, ng, cg, l, gv, n1, n2, n3, f, tkn, ov, rfl, rfl, rfl, Lib.hid (by have := HJ.out; omega), by omega, by omega, by omega, HR3, HI, Lib.hid ?_⟩, by simp [intOf]; omega⟩
          have := HN.out; omega
        have hdk := (dok_iff _ _).1 HI.out.dok
        have HI2 := Lib.hid (iv_ask z29 HI.out he)
        have hA : askR nx l (max x.f1 0 % 8 + 1) z29 = (nx + 1, l ++ [newN nx (max x.f1 0 % 8 + 1) z29], 0, nx) := by unfold askR askC; rw [if_pos HI.out.dok, if_pos he, if_pos he]
        have HH := Lib.hid (hh_step hdk.1)
        obtain ⟨l2, hl2⟩ : ∃ l2, l2 = l ++ [newN nx (max x.f1 0 % 8 + 1) z29] := ⟨_, rfl⟩
        obtain ⟨nx2, hnx2⟩ : ∃ n, n = nx + 1 := ⟨_, rfl⟩
        obtain ⟨p, hp⟩ : ∃ p, p = l2.length := ⟨_, rfl⟩
        rw [← hl2, ← hnx2] at hA HI2
        rw [← hnx2] at HH
        have HA := Lib.hid hA
        have HP := Lib.hid hp
        have hnz : (nx == 0) = false := by have := hdk.1; simp; omega
        have HWN := Lib.hid (show wfU nx from WalkArith.wf_u64 ⟨by have := hdk.1; omega, by have := hdk.2.1; omega⟩)
        have hhn : hh nx nx = false := by unfold hh; simp
        have HHN := Lib.hid hhn
        have HTW := Lib.hid (show (Lit.int .i64 (max x.f1 0 % 8 + 1)).wf = true from WalkArith.wf_i64 ⟨by have := (tid_rng x.f1).1; omega, by have := (tid_rng x.f1).2; omega⟩)
        clear he hA hl2 hnx2 hp hdk hhn
        go_wp2_with (first | (go_at_call 10; (with_reducible refine (ask_d HR1.out.row.1 HA.out HP.out Av cv HR1.out.row.2.1 _ HR1.out.row.2.2).mono ?_); rintro e w3 ⟨A3, c3, rfl, hc3, hR3, hb3⟩; have HR3 := Lib.hid ((HR1.out.below hb3).alloc (.cells #[.int .u64 nx2, .slice A3 p c3] 25)); have HRow := Lib.hid (Kd.R_alloc (HR1.out.newrow hR3) (.cells #[.int .u64 nx2, .slice A3 p c3] 25)); have u0 := blk_cell (al_new w3 (.cells #[.int .u64 nx2, .slice A3 p c3] 25)) 0; have u1 := blk_cell (al_new w3 (.cells #[.int .u64 nx2, .slice A3 p c3] 25)) 1; have ul := blk_lt (al_new w3 (.cells #[.int .u64 nx2, .slice A3 p c3] 25)); have hlk := HR3.out.ha.look_ok HWN.out; rw [HHN.out] at hlk; have HR4 := Lib.hid (HR3.out.put HRow.out nx2); clear hb3 hR3 y0 y1 yl; have y0 := blk_cell HR3.out.hd 0; have y1 := blk_cell HR3.out.hd 1; have yf0 := blk_frozen HR3.out.hd 0; have yf1 := blk_frozen HR3.out.hd 1; have yl := blk_lt HR3.out.hd) | ((with_reducible refine gate_builtin (b := .append) (xs := #[.tmp 88, .tmp 90]) rfl ?_); at_builtin; refine Kd.R_append (Kd.int .u64) (w0 := (((w3.alloc (.cells #[.int .u64 nx2, .slice A3 p c3] 25)).setCell ⟨w2.heap.size, 0, none⟩ (.int .u64 nx2)).setCell ⟨w2.heap.size, 1, none⟩ (.slice A3 p c3))) (w2.heap.size + 4) rfl (.tmp 88) (.tmp 90) 53 22 (.int .u64 0) 8 rfl Tryd.underlying53 (by kernel_rfl) rfl (by decide) (by omega) (.slice Ag ng cg) gv nx [.int .u64 nx] (fun _ => True) (fun _ => False) rfl (by first | (go_simp; done) | (go_simp; rfl)) ?aP (fun _ hk => hk.elim) ?aF ?aO ?aB ?aS ?aL ?_; (case aP => rfl); (case aF => exact (fun _ _ => trivial)); (case aO => exact HR4.out.hg); (case aB => exact Below.refl _ _); (case aS => exact HR4.out.sz); (case aL => have := HN.out; have := HJ.out; omega); intro v8 w8 ho hb hg hat; have HR8 := Lib.hid (HR4.out.app ho hb hg hat); obtain ⟨A8, c8, rfl⟩ := Kd.R_slice ho; obtain ⟨n8, hn8⟩ : ∃ n, n = (gv ++ [nx]).length := ⟨_, rfl⟩; rw [← hn8] at HR8 ⊢; clear ho hb hg hat hn8 y0 y1 yf0 yf1 yl u0 u1 ul hlk) | (at_mapUpdate; refine wpList_put_ask rfl _ _ _ rfl (w2.heap.size + 1) n1 (hh nx) f rfl HR8.out.ha (by have := HN.out; have := HJ.out; unfold maxLen; omega) nx (max x.f1 0 % 8 + 1) HWN.out HTW.out rfl rfl ?_; intro w9 ha9 hg9 hs9; rw [HH.out] at ha9; have HR9 := Lib.hid (HR8.out.setA ha9 hg9); clear ha9 hg9 hs9) | (at_range; refine wpList_range_ask rfl _ rfl (w2.heap.size + 1) (n1 + 1) (hh nx2) (fun j => if j = nx then (max x.f1 0 % 8 + 1) else f j) rfl HR9.out.ha ?_; intro w10 cnt0 hrg hcn hg10 hs10; have HR10 := Lib.hid (HR9.out.below (below_none hg10)); have HRG := Lib.hid hrg; have w9sz := HR9.out.sz; clear hrg hcn hg10 hs10))
        (try go_frame)
        go_loopw [32] (fun cv wt => ∃ (L : Int → Bool) (cnt : Nat) (q : Int), cv = .int .i64 q ∧ Hid (q = (cntL l2 L : Int)) ∧ Hid (∀ k, L k = true → hh nx2 k = true) ∧ Hid (RngM wt (w2.heap.size + 1) w9.heap.size (n1 + 1) (hh nx2) (fun j => if j = nx then (max x.f1 0 % 8 + 1) else f j) L cnt) ∧ Hid (Rd w wt w2.heap.size (.slice A3 p c3) (.slice A8 n8 c8) nx2 nx2 l2 (gv ++ [nx]) (n1 + 1) n2 n3 (fun j => if j = nx then (max x.f1 0 % 8 + 1) else f j) tkn ov)) (fun _ wt => wt.rangeLeft (w2.heap.size + 1) w9.heap.size)
        case atStart => exact ⟨hh nx2, _, 0, rfl, Lib.hid (by rw [cnt_start HI2.out.dok]; rfl), Lib.hid (fun _ h => h), HRG, HR10⟩
        case round =>
          obtain ⟨L, cnt, q, rfl, HQ, HL, HG, HRt⟩ := hrel
          go_wp2_with (first | (at_next; refine wpList_next_ask rfl _ rfl (w2.heap.size + 1) w9.heap.size (n1 + 1) (hh nx2) L (fun j => if j = nx then (max x.f1 0 % 8 + 1) else f j) cnt rfl HG.out ?_ ?_))
          · intro hc0 hl0
            have HQL : q = (p : Int) := by
              rw [HQ.out, cnt_end HI2.out.dok (fun k h1 h2 => hl0 k (by have := ((dok_iff _ _).1 HI2.out.dok).2.1; exact WalkArith.wf_u64 ⟨by omega, by omega⟩)), HRt.out.row.1]
            subst HQL
            have y0 := blk_cell HRt.out.hd 0
            have y1 := blk_cell HRt.out.hd 1
            go_wp2_with (first | (go_at_call 21; (with_reducible refine (chk_d HI2.out.dok HRt.out.row.1 A3 c3 HRt.out.row.2.1 _ HRt.out.row.2.2).mono ?_); rintro e w21 ⟨rfl, hb⟩; have HR21 := Lib.hid (HRt.out.below hb); clear hb y0 y1; have y0 := blk_cell HR21.out.hd 0; have y1 := blk_cell HR21.out.hd 1) | (go_at_call 22; (with_reducible refine (wait_d HI2.out.dok HR21.out.row.1 A3 c3 HR21.out.row.2.1 _ HR21.out.row.2.2).mono ?_); rintro e w22 ⟨A22, c22, rfl, hb⟩; have HR22 := Lib.hid (HR21.out.below hb); clear hb y0 y1))
            refine ⟨⟨k + 1, j + 1, last, nx2, A3, p, c3, A8, n8, c8, l2, (gv ++ [nx]), (n1 + 1), n2, n3, (fun j => if j = nx then (max x.f1 0 % 8 + 1) else f j), tkn, ov, rfl, rfl, rfl, Lib.hid (by have := HJ.out; omega), by omega, by omega, by omega, HR22, HI2, Lib.hid ?_⟩, by simp [intOf]; omega⟩
            rw [List.length_append, List.length_singleton]; have := HN.out; omega
          · intro xk tk_ w11 cnt1 htk hwx hlx hrg1 hlt1 hg1 hs1 hen
            have HR11 := Lib.hid (HRt.out.iter HG.out (by have := HG.out.lt; have := HR10.out.sz; have := w9sz; omega) hg1)
            have hme : w11.rangeLeft (w2.heap.size + 1) w9.heap.size < wr.rangeLeft (w2.heap.size + 1) w9.heap.size := by rw [hrg1.left, HG.out.left]; exact hlt1
            have HG1 := Lib.hid hrg1
            have HL1 := Lib.hid (show ∀ k, (L k && !(k == xk)) = true → hh nx2 k = true from fun k hk => HL.out k (Bool.and_eq_true_iff.1 hk).1)
            have hql : cntL l2 L ≤ 8 := Nat.le_trans (cnt_le _ _) (dok_len HI2.out.dok)
            have hq0 : 0 ≤ q ∧ q ≤ 8 := by have := HQ.out; omega
            have hwq : wrap64 (q + 1) = q + 1 := by unfold wrap64; omega
            obtain ⟨ob, hov⟩ : ∃ b, ov xk = b := ⟨_, rfl⟩
            have hlo : (Instr.lookup 55 (.map (some (w2.heap.size + 1 + 1 + 1))) (.int .u64 xk) false).run Tryd.prog w11 = .ok (.bool ob) w11 := by rw [← hov]; exact HR11.out.ho.lookup hwx
            clear hrg1 hlt1 hg1 hs1 hql
            cases ob with
            | true =>
              have HQ1 := Lib.hid (HQ.out.trans (congrArg Int.ofNat (cnt_pass HI2.out hov).symm))
              clear hov
              go_wp2_with fail
              exact ⟨⟨_, cnt1, q, rfl, HQ1, HL1, HG1, HR11⟩, hme⟩
            | false =>
              have HQ1 := Lib.hid (show q + 1 = (cntL l2 (fun k => L k && !(k == xk)) : Int) by rw [cnt_step HI2.out HL.out hlx hov, HQ.out]; rfl)
              clear hov
              go_wp2_with fail
              exact ⟨⟨_, cnt1, q + 1, rfl, HQ1, HL1, HG1, HR11⟩, hme⟩
    · have hq0 : ((wrap64 (x.f0.tmod 4 + 4)).tmod 4 == 0) = false := by rw [hk]; rfl
      have hq1 : ((wrap64 (x.f0.tmod 4 + 4)).tmod 4 == 1) = true := by rw [hk]; rfl
      clear hk
      as_aux_lemma =>
        obtain ⟨a, ha⟩ : ∃ a, a = tookV l := ⟨_, rfl⟩
        by_cases he : takeE l = 0
        case neg =>
          obtain ⟨er, her⟩ : ∃ er, er = takeE l := ⟨_, rfl⟩
          have HA := Lib.hid (show takeR nx l = (0, [], er, a) by unfold takeR; rw [if_pos HI.out.dok, if_neg he, ha, her])
          have HP := Lib.hid (show 0 = ([] : List S36).length from rfl)
          have hbr : (er != 0) = true := by rw [her]; simpa using he
          clear he her ha
          go_wp2_with (first | (go_at_call 12; (with_reducible refine (take_d HR1.out.row.1 HA.out HP.out Av cv HR1.out.row.2.1 _ HR1.out.row.2.2).mono ?_); rintro e w3 ⟨A3, c3, rfl, hc3, hR3, hb3⟩; have HR3 := Lib.hid (((HR1.out.below hb3).alloc (.cells #[.int .u64 0, .slice A3 0 c3] 25)).alloc (.cells #[.int .u64 a.f0, .int .i64 a.f1, .int .u32 a.f2.f0, .int .u32 a.f2.f1, .int .u64 a.f2.f2, .int .u64 a.f2.f3.f0, .int .u64 a.f2.f3.f1, .int .u64 a.f2.f3.f2, .int .u64 a.f2.f3.f3, .int .u64 a.f2.f3.f4, .int .u64 a.f2.f3.f5, .bool a.f3] 36)); clear hb3 hR3 y0 y1 yl))
          refine ⟨⟨k + 1, j + 1, last, nx, Av, nv, cv, Ag, ng, cg, l, gv, n1, n2, n3, f, tkn, ov, rfl, rfl, rfl, Lib.hid (by have := HJ.out; omega), by omega, by omega, by omega, HR3, HI, Lib.hid ?_⟩, by simp [intOf]; omega⟩
          have := HN.out; omega
        obtain ⟨⟨q1, q2, q3, q4, q5, q6, ha3⟩, hI2⟩ := iv_take HI.out he
        have hA : takeR nx l = (nx, takeL l, 0, a) := by unfold takeR; rw [if_pos HI.out.dok, if_pos he, ha]
        obtain ⟨l2, hl2⟩ : ∃ l2, l2 = takeL l := ⟨_, rfl⟩
        obtain ⟨p, hp⟩ : ∃ p, p = l2.length := ⟨_, rfl⟩
        rw [← hl2] at hA hI2
        rw [← ha] at q1 q2 q3 q4 q5 q6 ha3 hI2
        have HA := Lib.hid hA
        have HP := Lib.hid hp
        have HI2 := Lib.hid hI2
        have HWA := Lib.hid (show wfU a.f0 from WalkArith.wf_u64 ⟨by omega, by have := ((dok_iff _ _).1 HI.out.dok).2.1; omega⟩)
        have hle : decide (a.f0 ≤ last) = false := decide_eq_false (by omega)
        have hnle : ¬ a.f0 ≤ last := by omega
        have Q3 := Lib.hid q3
        have Q4 := Lib.hid q4
        have Q5 := Lib.hid q5
        clear he hA hI2 hl2 hp ha q1 q2 q3 q4 q5 q6
        go_wp2_with (first | (go_at_call 12; (with_reducible refine (take_d HR1.out.row.1 HA.out HP.out Av cv HR1.out.row.2.1 _ HR1.out.row.2.2).mono ?_); rintro e w3 ⟨A3, c3, rfl, hc3, hR3, hb3⟩; have HR3 := Lib.hid (((HR1.out.below hb3).alloc (.cells #[.int .u64 nx, .slice A3 p c3] 25)).alloc (.cells #[.int .u64 a.f0, .int .i64 a.f1, .int .u32 a.f2.f0, .int .u32 a.f2.f1, .int .u64 a.f2.f2, .int .u64 a.f2.f3.f0, .int .u64 a.f2.f3.f1, .int .u64 a.f2.f3.f2, .int .u64 a.f2.f3.f3, .int .u64 a.f2.f3.f4, .int .u64 a.f2.f3.f5, .bool true] 36)); have hx3 := (HR1.out.below hb3).sz; have HRow := Lib.hid (Kd.R_alloc (Kd.R_alloc (HR1.out.newrow hR3) (.cells #[.int .u64 nx, .slice A3 p c3] 25)) (.cells #[.int .u64 a.f0, .int .i64 a.f1, .int .u32 a.f2.f0, .int .u32 a.f2.f1, .int .u64 a.f2.f2, .int .u64 a.f2.f3.f0, .int .u64 a.f2.f3.f1, .int .u64 a.f2.f3.f2, .int .u64 a.f2.f3.f3, .int .u64 a.f2.f3.f4, .int .u64 a.f2.f3.f5, .bool true] 36)); have H17 := Lib.hid (al_keep (o := (.cells #[.int .u64 a.f0, .int .i64 a.f1, .int .u32 a.f2.f0, .int .u32 a.f2.f1, .int .u64 a.f2.f2, .int .u64 a.f2.f3.f0, .int .u64 a.f2.f3.f1, .int .u64 a.f2.f3.f2, .int .u64 a.f2.f3.f3, .int .u64 a.f2.f3.f4, .int .u64 a.f2.f3.f5, .bool true] 36)) (al_new w3 (.cells #[.int .u64 nx, .slice A3 p c3] 25))); have h18 := al_new (w3.alloc (.cells #[.int .u64 nx, .slice A3 p c3] 25)) (.cells #[.int .u64 a.f0, .int .i64 a.f1, .int .u32 a.f2.f0, .int .u32 a.f2.f1, .int .u64 a.f2.f2, .int .u64 a.f2.f3.f0, .int .u64 a.f2.f3.f1, .int .u64 a.f2.f3.f2, .int .u64 a.f2.f3.f3, .int .u64 a.f2.f3.f4, .int .u64 a.f2.f3.f5, .bool true] 36); simp only [World.size_alloc] at h18; have H18 := Lib.hid h18; clear h18; have hl1 := HR3.out.ht.lookup HWA.out; rw [Q3.out] at hl1; have hl2 := HR3.out.ho.lookup HWA.out; rw [Q4.out] at hl2; have hl3 := HR3.out.ha.lookup HWA.out; rw [Q5.out] at hl3; have v0 := blk_cell H18.out 0; have v1 := blk_cell H18.out 1; have v2 := blk_cell H18.out 2; have v3 := blk_cell H18.out 3; have v4 := blk_cell H18.out 4; have v5 := blk_cell H18.out 5; have v6 := blk_cell H18.out 6; have v7 := blk_cell H18.out 7; have v8 := blk_cell H18.out 8; have v9 := blk_cell H18.out 9; have v10 := blk_cell H18.out 10; have v11 := blk_cell H18.out 11; clear hb3 hR3 y0 y1 yl))
        have HR4 := Lib.hid (HR3.out.below (below_drew (Below.refl _ _)))
        have HRow4 := Lib.hid (Kd.R_drew HRow.out)
        have G17 := Lib.hid (blk_drew H17.out)
        have G18 := Lib.hid (blk_drew H18.out)
        clear HR3 HRow H17 H18 hl1 hl2 hl3 v0 v1 v2 v3 v4 v5 v6 v7 v8 v9 v10 v11
        refine start_ (n := 5) (S := fun w' => ∀ q, q ≠ w2.heap.size → w'.heap[q]? = ((w3.alloc (.cells #[.int .u64 nx, .slice A3 p c3] 25)).alloc (.cells #[.int .u64 a.f0, .int .i64 a.f1, .int .u32 a.f2.f0, .int .u32 a.f2.f1, .int .u64 a.f2.f2, .int .u64 a.f2.f3.f0, .int .u64 a.f2.f3.f1, .int .u64 a.f2.f3.f2, .int .u64 a.f2.f3.f3, .int .u64 a.f2.f3.f4, .int .u64 a.f2.f3.f5, .bool true] 36)).drew.heap[q]?) (ds := []) #[false, false, false, false, false] (by kernel_rfl) rfl rfl (fun _ _ => rfl) (fun hHeld => ?_); refine with_tabW on.tab26 on.bits26 (fun HT_ HW_ => ?_)
        generalize ((w3.alloc (.cells #[.int .u64 nx, .slice A3 p c3] 25)).alloc (.cells #[.int .u64 a.f0, .int .i64 a.f1, .int .u32 a.f2.f0, .int .u32 a.f2.f1, .int .u64 a.f2.f2, .int .u64 a.f2.f3.f0, .int .u64 a.f2.f3.f1, .int .u64 a.f2.f3.f2, .int .u64 a.f2.f3.f3, .int .u64 a.f2.f3.f4, .int .u64 a.f2.f3.f5, .bool true] 36)).drew = w4 at HR4 HRow4 G17 G18 hHeld ⊢
        have y0 := blk_cell HR4.out.hd 0
        have y1 := blk_cell HR4.out.hd 1
        have yf0 := blk_frozen HR4.out.hd 0
        have yf1 := blk_frozen HR4.out.hd 1
        have yl := blk_lt HR4.out.hd
        refine pure_ (i := 1) (N := some 133) (v := ?_) (a' := ?_) #[false, true, false, false, false] rfl rfl (any_of HT_.out (by kernel_rfl)) (fun _ _ _ h => h) (Or.inl ⟨by rfl, ?_⟩) ?_ ?_
        rotate_left
        · intro w'
          go_simp
          with_reducible rfl
        rotate_left
        · (try simp only [Act.put, List.setIfInBounds_toArray, List.set_cons_zero, List.set_cons_succ])
          rfl
        refine take_ (i := 0) (N := some 132) (v := ?_) (a' := ?_) #[true, true, false, false, false] rfl rfl (take_ofW HT_.out HW_.out (by kernel_rfl)) (fun _ _ _ h => h) (Or.inl ⟨by rfl, ?_⟩) hHeld ?_ ?_
        rotate_left
        · intro w' hS_
          have hx_0 : w'.cell? ⟨w3.heap.size, 0, none⟩ = _ := blk_cell ((hS_ _ (by omega)).trans G17.out) 0
          have hx_1 : w'.cell? ⟨w3.heap.size, 1, none⟩ = _ := blk_cell ((hS_ _ (by omega)).trans G17.out) 1
          go_simp
          with_reducible rfl
        rotate_left
        · (try simp only [Act.put, List.setIfInBounds_toArray, List.set_cons_zero, List.set_cons_succ])
          rfl
        refine take_ (i := 2) (N := some 134) (v := ?_) (a' := ?_) #[true, true, true, false, false] rfl rfl (take_ofW HT_.out HW_.out (by kernel_rfl)) (fun _ _ _ h => h) (Or.inl ⟨by rfl, ?_⟩) hHeld ?_ ?_
        rotate_left
        · intro w' hS_
          have hx_0 : w'.cell? ⟨w3.heap.size + 1, 0, none⟩ = _ := blk_cell ((hS_ _ (by omega)).trans G18.out) 0
          go_simp
          with_reducible rfl
        rotate_left
        · (try simp only [Act.put, List.setIfInBounds_toArray, List.set_cons_zero, List.set_cons_succ])
          rfl
        refine one_ (i := 3) (N := none) #[true, true, true, true, false] rfl rfl (one_of HT_.out (by kernel_rfl)) (by decide) (fun K hK => ?_)
        refine skip_ (w1 := ?_) (by rfl) rfl ?_ ?_
        rotate_left
        · go_simp
          with_reducible rfl
        refine hK.out _ _ (fun q n0 => (Below.heap_setCell _ _ _ _ n0).trans ((Below.heap_setCell _ _ _ _ n0).trans (hHeld q n0))) (fun hHeld => ?_)
        clear hK K
        refine pure_ (i := 4) (N := some 8) (v := ?_) (a' := ?_) #[true, true, true, true, true] rfl rfl (any_of HT_.out (by kernel_rfl)) (fun _ _ _ h => h) (Or.inl ⟨by rfl, ?_⟩) ?_ ?_
        rotate_left
        · intro w'
          go_simp
          with_reducible rfl
        rotate_left
        · (try simp only [Act.put, List.setIfInBounds_toArray, List.set_cons_zero, List.set_cons_succ])
          rfl
        refine done_ (done_of HT_.out (by kernel_rfl)) ?_
        clear HT_ HW_
        clear y0 y1 yf0 yf1 yl
        clear hHeld
        have HR5 := Lib.hid (HR4.out.put HRow4.out nx)
        have g18 := blk_far (blk_far G18.out (p := ⟨w2.heap.size, 0, none⟩) (by dsimp only; omega) (.int .u64 nx)) (p := ⟨w2.heap.size, 1, none⟩) (by dsimp only; omega) (.slice A3 p c3)
        have v0 := blk_cell g18 0
        clear g18 HR4 G17 G18 HRow4
        go_wp2_with (first | (at_mapUpdate; refine wpList_put_setU rfl _ _ _ rfl (w2.heap.size + 1 + 1) n2 tkn rfl HR5.out.ht (by have := HN.out; have := HJ.out; unfold maxLen; omega) a.f0 HWA.out rfl rfl ?_; intro w9 hs9 hg9 hz9; have HR9 := Lib.hid (HR5.out.setT hs9 hg9); clear hs9 hg9 hz9 v0) | (at_range; refine wpList_range_ask rfl _ rfl (w2.heap.size + 1) n1 (hh nx) f rfl HR9.out.ha ?_; intro w10 cnt0 hrg hcn hg10 hs10; have HR10 := Lib.hid (HR9.out.below (below_none hg10)); have HRG := Lib.hid hrg; have w9sz := HR9.out.sz; clear hrg hcn hg10 hs10))
        (try go_frame)
        go_loopw [32] (fun cv wt => ∃ (L : Int → Bool) (cnt : Nat) (q : Int), cv = .int .i64 q ∧ Hid (q = (cntL l2 L : Int)) ∧ Hid (∀ k, L k = true → hh nx k = true) ∧ Hid (RngM wt (w2.heap.size + 1) w9.heap.size n1 (hh nx) f L cnt) ∧ Hid (Rd w wt w2.heap.size (.slice A3 p c3) (.slice Ag ng cg) nx nx l2 gv n1 (n2 + 1) n3 f (fun j => j == a.f0 || tkn j) ov)) (fun _ wt => wt.rangeLeft (w2.heap.size + 1) w9.heap.size)
        case atStart => exact ⟨hh nx, _, 0, rfl, Lib.hid (by rw [cnt_start HI2.out.dok]; rfl), Lib.hid (fun _ h => h), HRG, HR10⟩
        case round =>
          obtain ⟨L, cnt, q, rfl, HQ, HL, HG, HRt⟩ := hrel
          go_wp2_with (first | (at_next; refine wpList_next_ask rfl _ rfl (w2.heap.size + 1) w9.heap.size n1 (hh nx) L f cnt rfl HG.out ?_ ?_))
          · intro hc0 hl0
            have HQL : q = (p : Int) := by
              rw [HQ.out, cnt_end HI2.out.dok (fun k h1 h2 => hl0 k (by have := ((dok_iff _ _).1 HI2.out.dok).2.1; exact WalkArith.wf_u64 ⟨by omega, by omega⟩)), HRt.out.row.1]
            subst HQL
            have y0 := blk_cell HRt.out.hd 0
            have y1 := blk_cell HRt.out.hd 1
            go_wp2_with (first | (go_at_call 21; (with_reducible refine (chk_d HI2.out.dok HRt.out.row.1 A3 c3 HRt.out.row.2.1 _ HRt.out.row.2.2).mono ?_); rintro e w21 ⟨rfl, hb⟩; have HR21 := Lib.hid (HRt.out.below hb); clear hb y0 y1; have y0 := blk_cell HR21.out.hd 0; have y1 := blk_cell HR21.out.hd 1) | (go_at_call 22; (with_reducible refine (wait_d HI2.out.dok HR21.out.row.1 A3 c3 HR21.out.row.2.1 _ HR21.out.row.2.2).mono ?_); rintro e w22 ⟨A22, c22, rfl, hb⟩; have HR22 := Lib.hid (HR21.out.below hb); clear hb y0 y1))
            refine ⟨⟨k + 1, j + 1, a.f0, nx, A3, p, c3, Ag, ng, cg, l2, gv, n1, (n2 + 1), n3, f, (fun j => j == a.f0 || tkn j), ov, rfl, rfl, rfl, Lib.hid (by have := HJ.out; omega), by omega, by omega, by omega, HR22, HI2, Lib.hid ?_⟩, by simp [intOf]; omega⟩
            have := HN.out; omega
          · intro xk tk_ w11 cnt1 htk hwx hlx hrg1 hlt1 hg1 hs1 hen
            have HR11 := Lib.hid (HRt.out.iter HG.out (by have := HG.out.lt; have := HR10.out.sz; have := w9sz; omega) hg1)
            have hme : w11.rangeLeft (w2.heap.size + 1) w9.heap.size < wr.rangeLeft (w2.heap.size + 1) w9.heap.size := by rw [hrg1.left, HG.out.left]; exact hlt1
            have HG1 := Lib.hid hrg1
            have HL1 := Lib.hid (show ∀ k, (L k && !(k == xk)) = true → hh nx k = true from fun k hk => HL.out k (Bool.and_eq_true_iff.1 hk).1)
            have hql : cntL l2 L ≤ 8 := Nat.le_trans (cnt_le _ _) (dok_len HI2.out.dok)
            have hq0 : 0 ≤ q ∧ q ≤ 8 := by have := HQ.out; omega
            have hwq : wrap64 (q + 1) = q + 1 := by unfold wrap64; omega
            obtain ⟨ob, hov⟩ : ∃ b, ov xk = b := ⟨_, rfl⟩
            have hlo : (Instr.lookup 55 (.map (some (w2.heap.size + 1 + 1 + 1))) (.int .u64 xk) false).run Tryd.prog w11 = .ok (.bool ob) w11 := by rw [← hov]; exact HR11.out.ho.lookup hwx
            clear hrg1 hlt1 hg1 hs1 hql
            cases ob with
            | true =>
              have HQ1 := Lib.hid (HQ.out.trans (congrArg Int.ofNat (cnt_pass HI2.out hov).symm))
              clear hov
              go_wp2_with fail
              exact ⟨⟨_, cnt1, q, rfl, HQ1, HL1, HG1, HR11⟩, hme⟩
            | false =>
              have HQ1 := Lib.hid (show q + 1 = (cntL l2 (fun k => L k && !(k == xk)) : Int) by rw [cnt_step HI2.out HL.out hlx hov, HQ.out]; rfl)
              clear hov
              go_wp2_with fail
              exact ⟨⟨_, cnt1, q + 1, rfl, HQ1, HL1, HG1, HR11⟩, hme⟩
    · have hq0 : ((wrap64 (x.f0.tmod 4 + 4)).tmod 4 == 0) = false := by rw [hk]; rfl
      have hq1 : ((wrap64 (x.f0.tmod 4 + 4)).tmod 4 == 1) = false := by rw [hk]; rfl
      have hq2 : ((wrap64 (x.f0.tmod 4 + 4)).tmod 4 == 2) = true := by rw [hk]; rfl
      clear hk
      as_aux_lemma =>
        by_cases hng : ng = 0
        · have hngb : ((ng : Int) == 0) = true := by rw [hng]; rfl
          clear hng
          go_wp2_with fail
          refine ⟨⟨k + 1, j + 1, last, nx, Av, nv, cv, Ag, ng, cg, l, gv, n1, n2, n3, f, tkn, ov, rfl, rfl, rfl, Lib.hid (by have := HJ.out; omega), by omega, by omega, by omega, HR1, HI, Lib.hid ?_⟩, by simp [intOf]; omega⟩
          have := HN.out; omega
        have hngb : ((ng : Int) == 0) = false := by simpa using hng
        have hng0 : ¬ (ng : Int) = 0 := by omega
        obtain ⟨hgl, hgC⟩ := HR1.out.giv
        have hi0 : 0 ≤ (max x.f1 0 % (ng : Int)) := Int.emod_nonneg _ hng0
        have hi1 : (max x.f1 0 % (ng : Int)) < (ng : Int) := Int.emod_lt_of_pos _ (by omega)
        obtain ⟨ad1, hA1, g1⟩ := Kd.at_int hgC (max x.f1 0 % (ng : Int)) hi0 hi1
        subst hA1
        obtain ⟨ck, hck⟩ : ∃ ck, ck = rd gv (max x.f1 0 % (ng : Int)) := ⟨_, rfl⟩
        rw [← hck] at g1
        have hcm := HI.out.gh ck (by rw [hck]; exact rd_mem hi0 (by rw [← hgl]; exact hi1))
        have HWC := Lib.hid (show wfU ck from WalkArith.wf_u64 ⟨by omega, by have := ((dok_iff _ _).1 HI.out.dok).2.1; omega⟩)
        have hvl := iv_valid HI.out hcm.1 hcm.2
        have hgl1 := World.block_lt_of_cell? _ _ g1
        clear hck hgC hgl hng hcm
        by_cases he : ansE l ck x.f2.f0 x.f2.f1 = 0
        case neg =>
          obtain ⟨er, her⟩ : ∃ er, er = ansE l ck x.f2.f0 x.f2.f1 := ⟨_, rfl⟩
          obtain ⟨td, htd⟩ : ∃ td, td = ansT l ck x.f2.f0 x.f2.f1 := ⟨_, rfl⟩
          obtain ⟨g2, hg2⟩ : ∃ g2, g2 = ansG l ck x.f2.f0 x.f2.f1 := ⟨_, rfl⟩
          obtain ⟨r2, hr2⟩ : ∃ r2, r2 = ansV l ck x.f2.f0 x.f2.f1 := ⟨_, rfl⟩
          have HA := Lib.hid (show ansR nx l ck x.f2.f0 x.f2.f1 = (0, [], er, td, g2, r2) by unfold ansR; rw [if_pos HI.out.dok, if_neg he, her, htd, hg2, hr2])
          have HP := Lib.hid (show 0 = ([] : List S36).length from rfl)
          have hbr : (er != 0) = true := by rw [her]; simpa using he
          clear he her htd hg2 hr2
          rcases Bool.eq_false_or_eq_true (tkn ck) with htb | htb
          · rcases Bool.eq_false_or_eq_true (ov ck) with hob | hob
            · have HVB := Lib.hid (show validA l ck = false by rw [hvl, htb, hob]; rfl)
              have HTB := Lib.hid htb
              have HOB := Lib.hid hob
              clear hvl htb hob
              go_wp2_with (first | (go_at_call 20; (with_reducible refine (valid_d HI.out.dok HR1.out.row.1 HVB.out Av cv HR1.out.row.2.1 _ HR1.out.row.2.2).mono ?_); rintro e w3 ⟨rfl, hb3⟩; have HR3 := Lib.hid (HR1.out.below hb3); have HYC := Lib.hid ((hb3.block _ (blk_lt HYB.out)).trans HYB.out); clear hb3 y0 y1 yl g1; have y0 := blk_cell HR3.out.hd 0; have y1 := blk_cell HR3.out.hd 1; have z0 := blk_cell HYC.out 0; have z1 := blk_cell HYC.out 1; have z2 := blk_cell HYC.out 2; have z3 := blk_cell HYC.out 3) | (go_at_call 15; (with_reducible refine (ans_d HR3.out.row.1 HA.out HP.out Av cv HR3.out.row.2.1 _ (HT1.out.below HR3.out.hb) HR3.out.row.2.2).mono ?_); rintro e w4 ⟨A4, c4, rfl, hc4, hR4, hb4⟩; have HR4 := Lib.hid (((HR3.out.below hb4).alloc (.cells #[.int .u64 0, .slice A4 0 c4] 25)).alloc (.cells #[.int .i64 0, .bool g2, .int .i64 r2, .bool false, .int .u16 0, .bool false, .int .i64 0] 45)); have hl1 := HR4.out.ht.lookup HWC.out; rw [HTB.out] at hl1; have hl2 := HR4.out.ho.lookup HWC.out; rw [HOB.out] at hl2; clear hb4 hR4 y0 y1 z0 z1 z2 z3))
              refine ⟨⟨k + 1, j + 1, last, nx, Av, nv, cv, (some ad1), ng, cg, l, gv, n1, n2, n3, f, tkn, ov, rfl, rfl, rfl, Lib.hid (by have := HJ.out; omega), by omega, by omega, by omega, HR4, HI, Lib.hid ?_⟩, by simp [intOf]; omega⟩
              have := HN.out; omega
            · have HVB := Lib.hid (show validA l ck = true by rw [hvl, htb, hob]; rfl)
              have HTB := Lib.hid htb
              have HOB := Lib.hid hob
              clear hvl htb hob
              go_wp2_with (first | (go_at_call 20; (with_reducible refine (valid_d HI.out.dok HR1.out.row.1 HVB.out Av cv HR1.out.row.2.1 _ HR1.out.row.2.2).mono ?_); rintro e w3 ⟨rfl, hb3⟩; have HR3 := Lib.hid (HR1.out.below hb3); have HYC := Lib.hid ((hb3.block _ (blk_lt HYB.out)).trans HYB.out); clear hb3 y0 y1 yl g1; have y0 := blk_cell HR3.out.hd 0; have y1 := blk_cell HR3.out.hd 1; have z0 := blk_cell HYC.out 0; have z1 := blk_cell HYC.out 1; have z2 := blk_cell HYC.out 2; have z3 := blk_cell HYC.out 3) | (go_at_call 15; (with_reducible refine (ans_d HR3.out.row.1 HA.out HP.out Av cv HR3.out.row.2.1 _ (HT1.out.below HR3.out.hb) HR3.out.row.2.2).mono ?_); rintro e w4 ⟨A4, c4, rfl, hc4, hR4, hb4⟩; have HR4 := Lib.hid (((HR3.out.below hb4).alloc (.cells #[.int .u64 0, .slice A4 0 c4] 25)).alloc (.cells #[.int .i64 0, .bool g2, .int .i64 r2, .bool false, .int .u16 0, .bool false, .int .i64 0] 45)); have hl1 := HR4.out.ht.lookup HWC.out; rw [HTB.out] at hl1; have hl2 := HR4.out.ho.lookup HWC.out; rw [HOB.out] at hl2; clear hb4 hR4 y0 y1 z0 z1 z2 z3))
              refine ⟨⟨k + 1, j + 1, last, nx, Av, nv, cv, (some ad1), ng, cg, l, gv, n1, n2, n3, f, tkn, ov, rfl, rfl, rfl, Lib.hid (by have := HJ.out; omega), by omega, by omega, by omega, HR4, HI, Lib.hid ?_⟩, by simp [intOf]; omega⟩
              have := HN.out; omega
          · rcases Bool.eq_false_or_eq_true (ov ck) with hob | hob
            · have HVB := Lib.hid (show validA l ck = false by rw [hvl, htb, hob]; rfl)
              have HTB := Lib.hid htb
              have HOB := Lib.hid hob
              clear hvl htb hob
              go_wp2_with (first | (go_at_call 20; (with_reducible refine (valid_d HI.out.dok HR1.out.row.1 HVB.out Av cv HR1.out.row.2.1 _ HR1.out.row.2.2).mono ?_); rintro e w3 ⟨rfl, hb3⟩; have HR3 := Lib.hid (HR1.out.below hb3); have HYC := Lib.hid ((hb3.block _ (blk_lt HYB.out)).trans HYB.out); clear hb3 y0 y1 yl g1; have y0 := blk_cell HR3.out.hd 0; have y1 := blk_cell HR3.out.hd 1; have z0 := blk_cell HYC.out 0; have z1 := blk_cell HYC.out 1; have z2 := blk_cell HYC.out 2; have z3 := blk_cell HYC.out 3) | (go_at_call 15; (with_reducible refine (ans_d HR3.out.row.1 HA.out HP.out Av cv HR3.out.row.2.1 _ (HT1.out.below HR3.out.hb) HR3.out.row.2.2).mono ?_); rintro e w4 ⟨A4, c4, rfl, hc4, hR4, hb4⟩; have HR4 := Lib.hid (((HR3.out.below hb4).alloc (.cells #[.int .u64 0, .slice A4 0 c4] 25)).alloc (.cells #[.int .i64 0, .bool g2, .int .i64 r2, .bool false, .int .u16 0, .bool false, .int .i64 0] 45)); have hl1 := HR4.out.ht.lookup HWC.out; rw [HTB.out] at hl1; have hl2 := HR4.out.ho.lookup HWC.out; rw [HOB.out] at hl2; clear hb4 hR4 y0 y1 z0 z1 z2 z3))
              refine ⟨⟨k + 1, j + 1, last, nx, Av, nv, cv, (some ad1), ng, cg, l, gv, n1, n2, n3, f, tkn, ov, rfl, rfl, rfl, Lib.hid (by have := HJ.out; omega), by omega, by omega, by omega, HR4, HI, Lib.hid ?_⟩, by simp [intOf]; omega⟩
              have := HN.out; omega
            · have HVB := Lib.hid (show validA l ck = false by rw [hvl, htb, hob]; rfl)
              have HTB := Lib.hid htb
              have HOB := Lib.hid hob
              clear hvl htb hob
              go_wp2_with (first | (go_at_call 20; (with_reducible refine (valid_d HI.out.dok HR1.out.row.1 HVB.out Av cv HR1.out.row.2.1 _ HR1.out.row.2.2).mono ?_); rintro e w3 ⟨rfl, hb3⟩; have HR3 := Lib.hid (HR1.out.below hb3); have HYC := Lib.hid ((hb3.block _ (blk_lt HYB.out)).trans HYB.out); clear hb3 y0 y1 yl g1; have y0 := blk_cell HR3.out.hd 0; have y1 := blk_cell HR3.out.hd 1; have z0 := blk_cell HYC.out 0; have z1 := blk_cell HYC.out 1; have z2 := blk_cell HYC.out 2; have z3 := blk_cell HYC.out 3) | (go_at_call 15; (with_reducible refine (ans_d HR3.out.row.1 HA.out HP.out Av cv HR3.out.row.2.1 _ (HT1.out.below HR3.out.hb) HR3.out.row.2.2).mono ?_); rintro e w4 ⟨A4, c4, rfl, hc4, hR4, hb4⟩; have HR4 := Lib.hid (((HR3.out.below hb4).alloc (.cells #[.int .u64 0, .slice A4 0 c4] 25)).alloc (.cells #[.int .i64 0, .bool g2, .int .i64 r2, .bool false, .int .u16 0, .bool false, .int .i64 0] 45)); have hl1 := HR4.out.ht.lookup HWC.out; rw [HTB.out] at hl1; have hl2 := HR4.out.ho.lookup HWC.out; rw [HOB.out] at hl2; clear hb4 hR4 y0 y1 z0 z1 z2 z3))
              refine ⟨⟨k + 1, j + 1, last, nx, Av, nv, cv, (some ad1), ng, cg, l, gv, n1, n2, n3, f, tkn, ov, rfl, rfl, rfl, Lib.hid (by have := HJ.out; omega), by omega, by omega, by omega, HR4, HI, Lib.hid ?_⟩, by simp [intOf]; omega⟩
              have := HN.out; omega
        obtain ⟨hv, ht, hI2⟩ := iv_ans HI.out he
        obtain ⟨htb, hob⟩ : tkn ck = true ∧ ov ck = false := by rw [hv] at hvl; have := hvl.symm; simpa using this
        obtain ⟨td, htd⟩ : ∃ td, td = ansT l ck x.f2.f0 x.f2.f1 := ⟨_, rfl⟩
        obtain ⟨g2, hg2⟩ : ∃ g2, g2 = ansG l ck x.f2.f0 x.f2.f1 := ⟨_, rfl⟩
        obtain ⟨r2, hr2⟩ : ∃ r2, r2 = ansV l ck x.f2.f0 x.f2.f1 := ⟨_, rfl⟩
        obtain ⟨l2, hl2⟩ : ∃ l2, l2 = ansL l ck := ⟨_, rfl⟩
        obtain ⟨p, hp⟩ : ∃ p, p = l2.length := ⟨_, rfl⟩
        have HA := Lib.hid (show ansR nx l ck x.f2.f0 x.f2.f1 = (nx, l2, 0, td, g2, r2) by unfold ansR; rw [if_pos HI.out.dok, if_pos he, hl2, htd, hg2, hr2])
        have HP := Lib.hid hp
        have HVB := Lib.hid hv
        have HTB := Lib.hid htb
        have HOB := Lib.hid hob
        have HTD := Lib.hid (show f ck = td by rw [htd]; exact ht.symm)
        rw [← hl2] at hI2
        have HI2 := Lib.hid hI2
        clear he hv ht hI2 htb hob htd hg2 hr2 hl2 hp hvl
        go_wp2_with (first | (go_at_call 20; (with_reducible refine (valid_d HI.out.dok HR1.out.row.1 HVB.out Av cv HR1.out.row.2.1 _ HR1.out.row.2.2).mono ?_); rintro e w3 ⟨rfl, hb3⟩; have HR3 := Lib.hid (HR1.out.below hb3); have HYC := Lib.hid ((hb3.block _ (blk_lt HYB.out)).trans HYB.out); clear hb3 y0 y1 yl g1; have y0 := blk_cell HR3.out.hd 0; have y1 := blk_cell HR3.out.hd 1; have z0 := blk_cell HYC.out 0; have z1 := blk_cell HYC.out 1; have z2 := blk_cell HYC.out 2; have z3 := blk_cell HYC.out 3) | (go_at_call 15; (with_reducible refine (ans_d HR3.out.row.1 HA.out HP.out Av cv HR3.out.row.2.1 _ (HT1.out.below HR3.out.hb) HR3.out.row.2.2).mono ?_); rintro e w4 ⟨A4, c4, rfl, hc4, hR4, hb4⟩; have HR4 := Lib.hid (((HR3.out.below hb4).alloc (.cells #[.int .u64 nx, .slice A4 p c4] 25)).alloc (.cells #[.int .i64 0, .bool g2, .int .i64 r2, .bool false, .int .u16 0, .bool false, .int .i64 0] 45)); have hl1 := HR4.out.ht.lookup HWC.out; rw [HTB.out] at hl1; have hl2 := HR4.out.ho.lookup HWC.out; rw [HOB.out] at hl2; have hl3 := HR4.out.ha.lookup HWC.out; rw [HTD.out] at hl3; have HRow := Lib.hid (Kd.R_alloc (Kd.R_alloc (HR3.out.newrow hR4) (.cells #[.int .u64 nx, .slice A4 p c4] 25)) (.cells #[.int .i64 0, .bool g2, .int .i64 r2, .bool false, .int .u16 0, .bool false, .int .i64 0] 45)); have u0 := blk_cell (al_keep (o := (.cells #[.int .i64 0, .bool g2, .int .i64 r2, .bool false, .int .u16 0, .bool false, .int .i64 0] 45)) (al_new w4 (.cells #[.int .u64 nx, .slice A4 p c4] 25))) 0; have u1 := blk_cell (al_keep (o := (.cells #[.int .i64 0, .bool g2, .int .i64 r2, .bool false, .int .u16 0, .bool false, .int .i64 0] 45)) (al_new w4 (.cells #[.int .u64 nx, .slice A4 p c4] 25))) 1; have ul := blk_lt (al_keep (o := (.cells #[.int .i64 0, .bool g2, .int .i64 r2, .bool false, .int .u16 0, .bool false, .int .i64 0] 45)) (al_new w4 (.cells #[.int .u64 nx, .slice A4 p c4] 25))); clear hb4 hR4 y0 y1 z0 z1 z2 z3; have y0 := blk_cell HR4.out.hd 0; have y1 := blk_cell HR4.out.hd 1; have yf0 := blk_frozen HR4.out.hd 0; have yf1 := blk_frozen HR4.out.hd 1; have yl := blk_lt HR4.out.hd) | (at_mapUpdate; refine wpList_put_setU rfl _ _ _ rfl (w2.heap.size + 1 + 1 + 1) n3 ov rfl (HR4.out.put HRow.out nx).ho (by have := HN.out; have := HJ.out; unfold maxLen; omega) ck HWC.out rfl rfl ?_; intro w9 hs9 hg9 hz9; have HR9 := Lib.hid ((HR4.out.put HRow.out nx).setO hs9 hg9); clear hs9 hg9 hz9 y0 y1 yf0 yf1 yl u0 u1 ul hl1 hl2 hl3 HRow HR4) | (at_range; refine wpList_range_ask rfl _ rfl (w2.heap.size + 1) n1 (hh nx) f rfl HR9.out.ha ?_; intro w10 cnt0 hrg hcn hg10 hs10; have HR10 := Lib.hid (HR9.out.below (below_none hg10)); have HRG := Lib.hid hrg; have w9sz := HR9.out.sz; clear hrg hcn hg10 hs10))
        (try go_frame)
        go_loopw [32] (fun cv wt => ∃ (L : Int → Bool) (cnt : Nat) (q : Int), cv = .int .i64 q ∧ Hid (q = (cntL l2 L : Int)) ∧ Hid (∀ k, L k = true → hh nx k = true) ∧ Hid (RngM wt (w2.heap.size + 1) w9.heap.size n1 (hh nx) f L cnt) ∧ Hid (Rd w wt w2.heap.size (.slice A4 p c4) (.slice (some ad1) ng cg) nx nx l2 gv n1 n2 (n3 + 1) f tkn (fun j => j == ck || ov j))) (fun _ wt => wt.rangeLeft (w2.heap.size + 1) w9.heap.size)
        case atStart => exact ⟨hh nx, _, 0, rfl, Lib.hid (by rw [cnt_start HI2.out.dok]; rfl), Lib.hid (fun _ h => h), HRG, HR10⟩
        case round =>
          obtain ⟨L, cnt, q, rfl, HQ, HL, HG, HRt⟩ := hrel
          go_wp2_with (first | (at_next; refine wpList_next_ask rfl _ rfl (w2.heap.size + 1) w9.heap.size n1 (hh nx) L f cnt rfl HG.out ?_ ?_))
          · intro hc0 hl0
            have HQL : q = (p : Int) := by
              rw [HQ.out, cnt_end HI2.out.dok (fun k h1 h2 => hl0 k (by have := ((dok_iff _ _).1 HI2.out.dok).2.1; exact WalkArith.wf_u64 ⟨by omega, by omega⟩)), HRt.out.row.1]
            subst HQL
            have y0 := blk_cell HRt.out.hd 0
            have y1 := blk_cell HRt.out.hd 1
            go_wp2_with (first | (go_at_call 21; (with_reducible refine (chk_d HI2.out.dok HRt.out.row.1 A4 c4 HRt.out.row.2.1 _ HRt.out.row.2.2).mono ?_); rintro e w21 ⟨rfl, hb⟩; have HR21 := Lib.hid (HRt.out.below hb); clear hb y0 y1; have y0 := blk_cell HR21.out.hd 0; have y1 := blk_cell HR21.out.hd 1) | (go_at_call 22; (with_reducible refine (wait_d HI2.out.dok HR21.out.row.1 A4 c4 HR21.out.row.2.1 _ HR21.out.row.2.2).mono ?_); rintro e w22 ⟨A22, c22, rfl, hb⟩; have HR22 := Lib.hid (HR21.out.below hb); clear hb y0 y1))
            refine ⟨⟨k + 1, j + 1, last, nx, A4, p, c4, (some ad1), ng, cg, l2, gv, n1, n2, (n3 + 1), f, tkn, (fun j => j == ck || ov j), rfl, rfl, rfl, Lib.hid (by have := HJ.out; omega), by omega, by omega, by omega, HR22, HI2, Lib.hid ?_⟩, by simp [intOf]; omega⟩
            have := HN.out; omega
          · intro xk tk_ w11 cnt1 htk hwx hlx hrg1 hlt1 hg1 hs1 hen
            have HR11 := Lib.hid (HRt.out.iter HG.out (by have := HG.out.lt; have := HR10.out.sz; have := w9sz; omega) hg1)
            have hme : w11.rangeLeft (w2.heap.size + 1) w9.heap.size < wr.rangeLeft (w2.heap.size + 1) w9.heap.size := by rw [hrg1.left, HG.out.left]; exact hlt1
            have HG1 := Lib.hid hrg1
            have HL1 := Lib.hid (show ∀ k, (L k && !(k == xk)) = true → hh nx k = true from fun k hk => HL.out k (Bool.and_eq_true_iff.1 hk).1)
            have hql : cntL l2 L ≤ 8 := Nat.le_trans (cnt_le _ _) (dok_len HI2.out.dok)
            have hq0 : 0 ≤ q ∧ q ≤ 8 := by have := HQ.out; omega
            have hwq : wrap64 (q + 1) = q + 1 := by unfold wrap64; omega
            obtain ⟨ob, hov⟩ : ∃ b, (fun j => j == ck || ov j) xk = b := ⟨_, rfl⟩
            have hlo : (Instr.lookup 55 (.map (some (w2.heap.size + 1 + 1 + 1))) (.int .u64 xk) false).run Tryd.prog w11 = .ok (.bool ob) w11 := by rw [← hov]; exact HR11.out.ho.lookup hwx
            clear hrg1 hlt1 hg1 hs1 hql
            cases ob with
            | true =>
              have HQ1 := Lib.hid (HQ.out.trans (congrArg Int.ofNat (cnt_pass HI2.out hov).symm))
              clear hov
              go_wp2_with fail
              exact ⟨⟨_, cnt1, q, rfl, HQ1, HL1, HG1, HR11⟩, hme⟩
            | false =>
              have HQ1 := Lib.hid (show q + 1 = (cntL l2 (fun k => L k && !(k == xk)) : Int) by rw [cnt_step HI2.out HL.out hlx hov, HQ.out]; rfl)
              clear hov
              go_wp2_with fail
              exact ⟨⟨_, cnt1, q + 1, rfl, HQ1, HL1, HG1, HR11⟩, hme⟩
    · have hq0 : ((wrap64 (x.f0.tmod 4 + 4)).tmod 4 == 0) = false := by rw [hk]; rfl
      have hq1 : ((wrap64 (x.f0.tmod 4 + 4)).tmod 4 == 1) = false := by rw [hk]; rfl
      have hq2 : ((wrap64 (x.f0.tmod 4 + 4)).tmod 4 == 2) = false := by rw [hk]; rfl
      have hq3 : ((wrap64 (x.f0.tmod 4 + 4)).tmod 4 == 3) = true := by rw [hk]; rfl
      clear hk
      as_aux_lemma =>
        obtain ⟨l2, hl2⟩ : ∃ l2, l2 = goneL l (max x.f1 0 % 8 + 1) := ⟨_, rfl⟩
        obtain ⟨p, hp⟩ : ∃ p, p = l2.length := ⟨_, rfl⟩
        obtain ⟨bw, hbw⟩ : ∃ b, b = goneB l (max x.f1 0 % 8 + 1) := ⟨_, rfl⟩
        have HA := Lib.hid (show goneR nx l (max x.f1 0 % 8 + 1) = (nx, l2, 0, bw) by unfold goneR; rw [if_pos HI.out.dok, hl2, hbw])
        have HP := Lib.hid hp
        have HL2 := Lib.hid hl2
        have HBW := Lib.hid hbw
        clear hl2 hp hbw
        go_wp2_with (first | (go_at_call 17; (with_reducible refine (gone_d HR1.out.row.1 HA.out HP.out Av cv HR1.out.row.2.1 _ HR1.out.row.2.2).mono ?_); rintro e w3 ⟨A3, c3, rfl, hc3, hR3, hb3⟩; have HR3 := Lib.hid ((HR1.out.below hb3).alloc (.cells #[.int .u64 nx, .slice A3 p c3] 25)); have hx3 := (HR1.out.below hb3).sz; have HRow := Lib.hid (Kd.R_alloc (HR1.out.newrow hR3) (.cells #[.int .u64 nx, .slice A3 p c3] 25)); have H26 := Lib.hid (al_new w3 (.cells #[.int .u64 nx, .slice A3 p c3] 25)); clear hb3 hR3 y0 y1 yl) | (at_range; generalize w3.alloc (.cells #[.int .u64 nx, .slice A3 p c3] 25) = w4 at HR3 HRow H26 ⊢; refine wpList_range_ask rfl _ rfl (w2.heap.size + 1) n1 (hh nx) f rfl HR3.out.ha ?_; intro w5 cnt0 hrg hcn hg5 hs5; have HR5 := Lib.hid (HR3.out.below (below_none hg5)); have HRow5 := Lib.hid (Kd.R_below HRow.out (below_none hg5)); have H265 := Lib.hid (((below_none hg5).block _ (blk_lt H26.out)).trans H26.out); have HCN := Lib.hid hcn; have HRG := Lib.hid hrg; have w4sz := HR3.out.sz; have h26l := blk_lt H26.out; clear hrg hcn hg5 hs5 HR3 HRow H26))
        (try go_frame)
        go_loopw [29] (fun mv wt => ∃ (L : Int → Bool) (cnt m3 : Nat), mv = .bool (metL l (max x.f1 0 % 8 + 1) L) ∧ Hid (∀ k, L k = true → hh nx k = true) ∧ Hid (RngM wt (w2.heap.size + 1) w4.heap.size n1 (hh nx) f L cnt) ∧ Hid (Rd w wt w2.heap.size (.slice Av nv cv) (.slice Ag ng cg) nx nx l gv n1 n2 m3 f tkn (ovL nx f ov (max x.f1 0 % 8 + 1) L)) ∧ Hid (m3 + cnt ≤ n3 + n1) ∧ Hid (wt.heap[w3.heap.size]? = some (.cells #[.int .u64 nx, .slice A3 p c3] 25)) ∧ Hid (Kd.R k36 36 wt (w2.heap.size + 4) (fun k => some k ≠ (Value.slice Ag ng cg).ownBlock) (.slice A3 p c3) l2)) (fun _ wt => wt.rangeLeft (w2.heap.size + 1) w4.heap.size)
        case atStart => exact ⟨hh nx, cnt0, n3, by rw [met_start HI.out.dok], Lib.hid (fun _ h => h), HRG, Lib.hid (by rw [ov_start]; exact HR5.out), Lib.hid (by have := HCN.out; omega), H265, HRow5⟩
        case round =>
          clear HRG HR5 H265 HRow5
          obtain ⟨L, cnt, m3, rfl, HL, HG, HRt, HM3, H26t, HRowt⟩ := hrel
          go_wp2_with (first | (at_next; refine wpList_next_ask rfl _ rfl (w2.heap.size + 1) w4.heap.size n1 (hh nx) L f cnt rfl HG.out ?_ ?_))
          · intro hc0 hl0
            obtain ⟨hmt, hI2⟩ := gone_end (t := (max x.f1 0 % 8 + 1)) HI.out (fun k h1 h2 => hl0 k (by have := ((dok_iff _ _).1 HI.out.dok).2.1; exact WalkArith.wf_u64 ⟨by omega, by omega⟩))
            rw [← HL2.out] at hI2
            have HI2 := Lib.hid hI2
            rw [hmt, ← HBW.out]
            clear hmt hI2 hl0 hc0
            obtain ⟨ov2, hov2⟩ : ∃ o, o = ovL nx f ov (max x.f1 0 % 8 + 1) L := ⟨_, rfl⟩
            rw [← hov2] at HI2 HRt
            clear hov2 HG
            have y0 := blk_cell HRt.out.hd 0
            have y1 := blk_cell HRt.out.hd 1
            have yf0 := blk_frozen HRt.out.hd 0
            have yf1 := blk_frozen HRt.out.hd 1
            have yl := blk_lt HRt.out.hd
            have u0 := blk_cell H26t.out 0
            have u1 := blk_cell H26t.out 1
            have ul := blk_lt H26t.out
            have HR9 := Lib.hid (HRt.out.put HRowt.out nx)
            go_wp2_with (first | (at_range; generalize ((wr.setCell ⟨w2.heap.size, 0, none⟩ (.int .u64 nx)).setCell ⟨w2.heap.size, 1, none⟩ (.slice A3 p c3)) = w9 at HR9 ⊢; refine wpList_range_ask rfl _ rfl (w2.heap.size + 1) n1 (hh nx) f rfl HR9.out.ha ?_; intro w10 cnt0 hrg hcn hg10 hs10; have HR10 := Lib.hid (HR9.out.below (below_none hg10)); have HRG := Lib.hid hrg; have w9sz := HR9.out.sz; clear hrg hcn hg10 hs10))
            clear y0 y1 yf0 yf1 yl u0 u1 ul
            (try go_frame)
            go_loopw [32] (fun cv wt => ∃ (L : Int → Bool) (cnt : Nat) (q : Int), cv = .int .i64 q ∧ Hid (q = (cntL l2 L : Int)) ∧ Hid (∀ k, L k = true → hh nx k = true) ∧ Hid (RngM wt (w2.heap.size + 1) w9.heap.size n1 (hh nx) f L cnt) ∧ Hid (Rd w wt w2.heap.size (.slice A3 p c3) (.slice Ag ng cg) nx nx l2 gv n1 n2 m3 f tkn ov2)) (fun _ wt => wt.rangeLeft (w2.heap.size + 1) w9.heap.size)
            case atStart => exact ⟨hh nx, _, 0, rfl, Lib.hid (by rw [cnt_start HI2.out.dok]; rfl), Lib.hid (fun _ h => h), HRG, HR10⟩
            case round =>
              obtain ⟨L, cnt, q, rfl, HQ, HL, HG, HRt⟩ := hrel
              go_wp2_with (first | (at_next; refine wpList_next_ask rfl _ rfl (w2.heap.size + 1) w9.heap.size n1 (hh nx) L f cnt rfl HG.out ?_ ?_))
              · intro hc0 hl0
                have HQL : q = (p : Int) := by
                  rw [HQ.out, cnt_end HI2.out.dok (fun k h1 h2 => hl0 k (by have := ((dok_iff _ _).1 HI2.out.dok).2.1; exact WalkArith.wf_u64 ⟨by omega, by omega⟩)), HRt.out.row.1]
                subst HQL
                have y0 := blk_cell HRt.out.hd 0
                have y1 := blk_cell HRt.out.hd 1
                go_wp2_with (first | (go_at_call 21; (with_reducible refine (chk_d HI2.out.dok HRt.out.row.1 A3 c3 HRt.out.row.2.1 _ HRt.out.row.2.2).mono ?_); rintro e w21 ⟨rfl, hb⟩; have HR21 := Lib.hid (HRt.out.below hb); clear hb y0 y1; have y0 := blk_cell HR21.out.hd 0; have y1 := blk_cell HR21.out.hd 1) | (go_at_call 22; (with_reducible refine (wait_d HI2.out.dok HR21.out.row.1 A3 c3 HR21.out.row.2.1 _ HR21.out.row.2.2).mono ?_); rintro e w22 ⟨A22, c22, rfl, hb⟩; have HR22 := Lib.hid (HR21.out.below hb); clear hb y0 y1))
                refine ⟨⟨k + 1, j + 1, last, nx, A3, p, c3, Ag, ng, cg, l2, gv, n1, n2, m3, f, tkn, ov2, rfl, rfl, rfl, Lib.hid (by have := HJ.out; omega), by omega, by omega, by omega, HR22, HI2, Lib.hid ?_⟩, by simp [intOf]; omega⟩
                have := HN.out; have := HM3.out; have := HJ.out; omega
              · intro xk tk_ w11 cnt1 htk hwx hlx hrg1 hlt1 hg1 hs1 hen
                have HR11 := Lib.hid (HRt.out.iter HG.out (by have := HG.out.lt; have := HR10.out.sz; have := w9sz; omega) hg1)
                have hme : w11.rangeLeft (w2.heap.size + 1) w9.heap.size < wr.rangeLeft (w2.heap.size + 1) w9.heap.size := by rw [hrg1.left, HG.out.left]; exact hlt1
                have HG1 := Lib.hid hrg1
                have HL1 := Lib.hid (show ∀ k, (L k && !(k == xk)) = true → hh nx k = true from fun k hk => HL.out k (Bool.and_eq_true_iff.1 hk).1)
                have hql : cntL l2 L ≤ 8 := Nat.le_trans (cnt_le _ _) (dok_len HI2.out.dok)
                have hq0 : 0 ≤ q ∧ q ≤ 8 := by have := HQ.out; omega
                have hwq : wrap64 (q + 1) = q + 1 := by unfold wrap64; omega
                obtain ⟨ob, hov⟩ : ∃ b, ov2 xk = b := ⟨_, rfl⟩
                have hlo : (Instr.lookup 55 (.map (some (w2.heap.size + 1 + 1 + 1))) (.int .u64 xk) false).run Tryd.prog w11 = .ok (.bool ob) w11 := by rw [← hov]; exact HR11.out.ho.lookup hwx
                clear hrg1 hlt1 hg1 hs1 hql
                cases ob with
                | true =>
                  have HQ1 := Lib.hid (HQ.out.trans (congrArg Int.ofNat (cnt_pass HI2.out hov).symm))
                  clear hov
                  go_wp2_with fail
                  exact ⟨⟨_, cnt1, q, rfl, HQ1, HL1, HG1, HR11⟩, hme⟩
                | false =>
                  have HQ1 := Lib.hid (show q + 1 = (cntL l2 (fun k => L k && !(k == xk)) : Int) by rw [cnt_step HI2.out HL.out hlx hov, HQ.out]; rfl)
                  clear hov
                  go_wp2_with fail
                  exact ⟨⟨_, cnt1, q + 1, rfl, HQ1, HL1, HG1, HR11⟩, hme⟩
          · intro xk tk_ w11 cnt1 htk hwx hlx hrg1 hlt1 hg1 hs1 hen
            subst htk
            have hrl := HG.out.lt
            have HR11 := Lib.hid (HRt.out.iter HG.out w4sz hg1)
            have HRow11 := Lib.hid (rows_iter HRowt.out HG.out hg1)
            have H2611 := Lib.hid ((grown_blk hg1 (blk_lt H26t.out) (by omega)).trans H26t.out)
            have hme : cnt1 < wr.rangeLeft (w2.heap.size + 1) w4.heap.size := by rw [HG.out.left]; exact hlt1
            have HG1 := Lib.hid hrg1
            have HL1 := Lib.hid (show ∀ k, (L k && !(k == xk)) = true → hh nx k = true from fun k hk => HL.out k (Bool.and_eq_true_iff.1 hk).1)
            have HM4 := Lib.hid (show m3 + 1 + cnt1 ≤ n3 + n1 by have := HM3.out; omega)
            have hlo := HR11.out.ho.lookup hwx
            clear hrg1 hlt1 hg1 hs1 HRt HRowt H26t
            by_cases hf : f xk = (max x.f1 0 % 8 + 1)
            · have hfb : (f xk == (max x.f1 0 % 8 + 1)) = true := by simpa using hf
              cases hov : ovL nx f ov (max x.f1 0 % 8 + 1) L xk with
              | false =>
                rw [hov] at hlo
                obtain ⟨e1, e2⟩ := gone_put HI.out HL.out hlx hf hov
                have E1 := Lib.hid e1
                have E2 := Lib.hid e2
                clear e1 e2 hov hf
                go_wp2_with (first | (at_mapUpdate; refine wpList_put_setU rfl _ _ _ rfl (w2.heap.size + 1 + 1 + 1) m3 (ovL nx f ov (max x.f1 0 % 8 + 1) L) rfl HR11.out.ho (by have := HN.out; have := HM3.out; have := HJ.out; unfold maxLen; omega) xk hwx rfl rfl ?_; intro w12 hs12 hg12 hz12; rw [E1.out] at hs12; have HR12 := Lib.hid (HR11.out.setO hs12 hg12); have HG12 := Lib.hid (HG1.out.kept hg12 (by intro e; injection e with e; omega) (by intro e; injection e with e; omega)); have H2612 := Lib.hid ((grown_blk hg12 (blk_lt H2611.out) (by omega)).trans H2611.out); have HRow12 := Lib.hid (rows_grown HRow11.out hg12 (by omega)); clear hs12 hg12 hz12; go_frame))
                go_roundw
                case rel => exact ⟨_, cnt1, m3 + 1, by rw [E2.out], HL1, HG12, HR12, HM4, H2612, HRow12⟩
                case measure => rw [HG12.out.left]; exact hme
              | true =>
                rw [hov] at hlo
                obtain ⟨e1, e2⟩ := gone_pass (t := (max x.f1 0 % 8 + 1)) HI.out hlx (fun h => by rw [hov] at h; exact absurd h.2 (by decide))
                have E2 := Lib.hid e2
                rw [← e1] at HR11
                clear e1 e2 hov hf
                go_wp2_with fail
                exact ⟨⟨_, cnt1, m3, by rw [E2.out], HL1, HG1, HR11, Lib.hid (by have := HM4.out; omega), H2611, HRow11⟩, by rw [HG1.out.left]; exact hme⟩
            · have hfb : (f xk == (max x.f1 0 % 8 + 1)) = false := by simpa using hf
              obtain ⟨e1, e2⟩ := gone_pass (t := (max x.f1 0 % 8 + 1)) HI.out hlx (fun h => hf h.1)
              have E2 := Lib.hid e2
              rw [← e1] at HR11
              clear e1 e2 hf
              go_wp2_with fail
              exact ⟨⟨_, cnt1, m3, by rw [E2.out], HL1, HG1, HR11, Lib.hid (by have := HM4.out; omega), H2611, HRow11⟩, by rw [HG1.out.left]; exact hme⟩
end Go.Proofs.YtcbiehinhmkjmaaDoor.NB
