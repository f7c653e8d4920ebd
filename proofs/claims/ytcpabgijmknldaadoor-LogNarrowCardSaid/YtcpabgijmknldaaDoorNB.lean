import Derived.Test.YtcpabgijmknldaaDoorNA
import Derived.Lib.Hide
import Derived.Outline
namespace Go.Proofs.YtcpabgijmknldaaDoor.PN
open Go.RowKit Go.Proofs.YtcpabgijmknldaaDoorW.PrintWords Go.Proofs.YtcpabgijmknldaaDoorW.PrintLast Go.Proofs.YtcpabgijmknldaaDoorW.PrintMore
open Go.Proofs.YtcpabgijmknldaaDoor.PE.L (Ef OfV OfE effV Tab)
attribute [local go_sem] max2_int min2_int max_two min_two max_three min_three max_four min_four
set_option linter.unusedVariables false
set_option linter.unusedSimpArgs false
set_option maxHeartbeats 4000000 in
set_option maxRecDepth 100000 in
theorem narrow_w (room0 narrow0 : Int) (l : List S31) (A : Option Addr) (c : Nat) (w : World) (hr0 : Kd.C k31 w A l.length l) (hc0 : l.length ≤ c) (hd : Dat l) (hT : Tab w) :
    Calls Tryd.prog 5 #[.int .i64 room0, .int .i64 narrow0, .slice A l.length c] w fun e w' => e = .returned (.bool true) ∧ Below w.heap.size w w' := by
  have hm0 : 0 ≤ mx room0 0 := by rw [mx_]; split <;> omega
  have hm1 : 0 ≤ mx narrow0 0 := by rw [mx_]; split <;> omega
  obtain ⟨J, hJ⟩ : ∃ J, mx room0 0 = J := ⟨_, rfl⟩
  obtain ⟨K, hK⟩ : ∃ K, mx narrow0 0 = K := ⟨_, rfl⟩
  rw [hJ] at hm0
  rw [hK] at hm1
  unfold mx at hJ hK
  obtain ⟨rm, hrm⟩ : ∃ rm, J % 32 + 1 = rm := ⟨_, rfl⟩
  have hrm0 : 1 ≤ rm := by omega
  have hrm1 : rm ≤ 32 := by omega
  obtain ⟨nr, hnr⟩ : ∃ nr, K % rm + 1 = nr := ⟨_, rfl⟩
  have hnr0 : 1 ≤ nr := by have := Int.emod_nonneg K (show rm ≠ 0 by omega); omega
  have hnr1 : nr ≤ rm := by have := Int.emod_lt_of_pos K (show 0 < rm by omega); omega
  have HRM : Aside0 (1 ≤ rm ∧ rm ≤ 32) := ⟨hrm0, hrm1⟩
  have HNR : Aside0 (1 ≤ nr ∧ nr ≤ rm) := ⟨hnr0, hnr1⟩
  have HD := Lib.hid hd
  have HT := Aside0.mk hT
  have HTw := HT
  obtain ⟨L, hL⟩ : ∃ L, L = l.length := ⟨_, rfl⟩
  rw [← hL] at hr0 hc0 ⊢
  have hLb : L ≤ 9223372036854775807 := hr0.2.1
  have HR := Lib.hid hr0
  have HC := Lib.hid hc0
  have HL := Lib.hid hL
  clear hd hr0 hc0 hT hL
  go_enter Tryd.func5, Tryd.ntmps5
  go_wp2_with fail
  refine (wicketgatelaw27_wakes.calls 1000 true _ wicketgatelaw27_wakes.tt HT.out).mono ?_
  rintro e w1 ⟨rfl, hb⟩
  have HB : Aside0 (Below w.heap.size w w1) := ⟨hb⟩
  replace HT : Aside0 (Tab w1) := ⟨HT.out.below hb⟩
  clear hb
  go_wp2_with fail
  clear hrm hnr hJ hK hm0 hm1
  refine (new_e HRM.out.1 HRM.out.2 _).mono ?_
  rintro e w2 ⟨A7, c7, rfl, HV7, hBc⟩
  replace HT : Aside0 (Tab w2) := ⟨HT.out.below hBc⟩
  replace HB : Aside0 (Below w.heap.size w w2) := ⟨HB.out.trans (hBc.mono HB.out.size)⟩
  clear hBc
  have hnr32 : nr ≤ 32 := by omega
  go_wp2_with (first | (refine storeP25 rfl rfl _ _ rfl rm 1 A7 0 c7 (w2.heap.size) rfl rfl (heap_new_at _ _ _ rfl) ?_; intro b1 hb1 ho1 hs1 hB1; have hW7 : w.heap.size ≤ w2.heap.size := HB.out.size; have hN1 : Below w2.heap.size w2 b1 := (below_alloc (Below.refl _ _) _).trans (hB1 _ (Nat.le_refl _)); have HK7 : Aside0 (b1.heap[w2.heap.size]? = some (.cells #[.int .i64 rm, .int .u64 1, .slice A7 0 c7] 25 (0, 0))) := ⟨hb1⟩; clear hb1 ho1 hs1 hB1; replace HT : Aside0 (Tab b1) := ⟨HT.out.below hN1⟩; replace HB : Aside0 (Below w.heap.size w b1) := ⟨HB.out.trans (hN1.mono HB.out.size)⟩; clear hN1))
  refine (new_e HNR.out.1 hnr32 _).mono ?_
  rintro e w3 ⟨A9, c9, rfl, HV9, hBc⟩
  replace HK7 : Aside0 (w3.heap[w2.heap.size]? = some (.cells #[.int .i64 rm, .int .u64 1, .slice A7 0 c7] 25 (0, 0))) := ⟨(hBc.block _ (blk_lt HK7.out)).trans HK7.out⟩
  replace HT : Aside0 (Tab w3) := ⟨HT.out.below hBc⟩
  replace HB : Aside0 (Below w.heap.size w w3) := ⟨HB.out.trans (hBc.mono HB.out.size)⟩
  clear hBc
  go_wp2_with (first | (refine storeP25 rfl rfl _ _ rfl nr 1 A9 0 c9 (w3.heap.size) rfl rfl (heap_new_at _ _ _ rfl) ?_; intro b2 hb2 ho2 hs2 hB2; have hX79 : w2.heap.size ≠ w3.heap.size := Nat.ne_of_lt (blk_lt HK7.out); have hW9 : w.heap.size ≤ w3.heap.size := HB.out.size; have hN2 : Below w3.heap.size w3 b2 := (below_alloc (Below.refl _ _) _).trans (hB2 _ (Nat.le_refl _)); have HK9 : Aside0 (b2.heap[w3.heap.size]? = some (.cells #[.int .i64 nr, .int .u64 1, .slice A9 0 c9] 25 (0, 0))) := ⟨hb2⟩; clear hb2 ho2 hs2 hB2; replace HK7 : Aside0 (b2.heap[w2.heap.size]? = some (.cells #[.int .i64 rm, .int .u64 1, .slice A7 0 c7] 25 (0, 0))) := ⟨(hN2.block _ (blk_lt HK7.out)).trans HK7.out⟩; replace HT : Aside0 (Tab b2) := ⟨HT.out.below hN2⟩; replace HB : Aside0 (Below w.heap.size w b2) := ⟨HB.out.trans (hN2.mono HB.out.size)⟩; clear hN2))
  have hx79 : w2.heap.size ≠ w3.heap.size := hX79
  have hw7 : w.heap.size ≤ w2.heap.size := hW7
  have hw9 : w.heap.size ≤ w3.heap.size := hW9
  generalize w2.heap.size = x7 at HK7 hx79 hw7 ⊢
  generalize w3.heap.size = x9 at HK9 hx79 hw9 ⊢
  have HBS := HB
  clear HB
  go_loopw [49] (fun i wr => ∃ (k : Int) (all : List S31) (N : Int) (Aa : Option Addr) (ma ca : Nat) (Ab : Option Addr) (mb cb : Nat), i = .int .i64 k ∧ 0 ≤ k ∧ k ≤ 60 ∧ (all.length : Int) ≤ k ∧ Hid (Inv all) ∧ Hid (N = (all.length : Int) + 1) ∧ Aside0 (wr.heap[x7]? = some (.cells #[.int .i64 rm, .int .u64 N, .slice Aa ma ca] 25 (0, 0))) ∧ Aside0 (wr.heap[x9]? = some (.cells #[.int .i64 nr, .int .u64 N, .slice Ab mb cb] 25 (0, 0))) ∧ Aside0 (Kd.V k31 31 wr 0 (fun k => k ≠ x7 ∧ k ≠ x9) (.slice Aa ma ca) (tailN all rm)) ∧ Aside0 (Kd.V k31 31 wr 0 (fun k => k ≠ x7 ∧ k ≠ x9) (.slice Ab mb cb) (tailN all nr)) ∧ Aside0 (Below w.heap.size w wr)) (fun i _ => L - (intOf i).toNat)
  case atStart => exact ⟨0, [], 1, A7, 0, c7, A9, 0, c9, rfl, by omega, by omega, by simp, Lib.hid (fun j h => absurd h (by simp)), Lib.hid (by simp), HK7, HK9, ⟨by rw [tail_nil]; exact HV7 _ _⟩, ⟨by rw [tail_nil]; exact HV9 _ _⟩, HBS⟩
  case round =>
    clear HK7 HK9 HV7 HV9
    obtain ⟨k, all, N, Aa, ma, ca, Ab, mb, cb, rfl, hk0, hk60, hal, HI, HN, HK7, HK9, HVa, HVb, HB⟩ := hrel
    have HT : Aside0 (Tab wr) := ⟨HTw.out.below HB.out⟩
    by_cases hlt : k < (L : Int)
    · have tok_ : True := trivial
      obtain ⟨ad, rfl, hx0, hx1, hx2, hx3, hx4, hx5⟩ := at_T31 (Kd.C_below HR.out HB.out) k hk0 hlt
      have hxd : 0 ≤ (rd_T31 l k).f4.f1 ∧ (rd_T31 l k).f4.f1 ≤ 65535 := by have := HD.out.at (i := k.toNat) (by have := HL.out; omega); rwa [Int.toNat_of_nonneg hk0] at this
      generalize rd_T31 l k = x at hx0 hx1 hx2 hx3 hx4 hx5 hxd
      have HXD := Lib.hid hxd
      clear hxd
      by_cases h60 : k = 60
      · have h60b : (k == 60) = true := by simpa using h60
        have H60 := Lib.hid h60
        clear h60
        go_wp2_with (first | (refine storeP31 rfl rfl _ _ rfl x.f0 x.f1 x.f2 x.f3 x.f4.f0 x.f4.f1 (wr.heap.size) rfl rfl (heap_new_at _ _ _ rfl) ?_; intro b3 hb3 ho3 hs3 hB3; have hN3 : Below wr.heap.size wr b3 := (below_alloc (Below.refl _ _) _).trans (hB3 _ (Nat.le_refl _)); have HK12 : Aside0 (b3.heap[wr.heap.size]? = some (.cells #[.int .u64 x.f0, .int .i64 x.f1, .int .u32 x.f2, .int .u32 x.f3, .int .i64 x.f4.f0, .int .u16 x.f4.f1] 31 (0, 0))) := ⟨hb3⟩; clear hb3 ho3 hs3 hB3; replace HK7 : Aside0 (b3.heap[x7]? = some (.cells #[.int .i64 rm, .int .u64 N, .slice Aa ma ca] 25 (0, 0))) := ⟨(hN3.block _ (blk_lt HK7.out)).trans HK7.out⟩; replace HK9 : Aside0 (b3.heap[x9]? = some (.cells #[.int .i64 nr, .int .u64 N, .slice Ab mb cb] 25 (0, 0))) := ⟨(hN3.block _ (blk_lt HK9.out)).trans HK9.out⟩; replace HVa : Aside0 (Kd.V k31 31 b3 0 (fun k => k ≠ x7 ∧ k ≠ x9) (.slice Aa ma ca) (tailN all rm)) := ⟨Kd.V_below HVa.out hN3⟩; replace HVb : Aside0 (Kd.V k31 31 b3 0 (fun k => k ≠ x7 ∧ k ≠ x9) (.slice Ab mb cb) (tailN all nr)) := ⟨Kd.V_below HVb.out hN3⟩; replace HT : Aside0 (Tab b3) := ⟨HT.out.below hN3⟩; replace HB : Aside0 (Below w.heap.size w b3) := ⟨HB.out.trans (hN3.mono HB.out.size)⟩; clear hN3; have hc70 : b3.cell? ⟨x7, 0, none⟩ = some (.int .i64 rm) := blk_cell HK7.out 0; have hc71 : b3.cell? ⟨x7, 1, none⟩ = some (.int .u64 N) := blk_cell HK7.out 1; have hc72 : b3.cell? ⟨x7, 2, none⟩ = some (.slice Aa ma ca) := blk_cell HK7.out 2; have hl7 := blk_lt HK7.out; clear hx0 hx1 hx2 hx3 hx4 hx5))
        refine (widen_e (nx := N) (dat_tail HI.out) (by rw [HN.out]; exact ring_ok HRM.out.1 HRM.out.2 HI.out (by omega)) HNR.out.1 HNR.out.2 HVa.out HT.out).mono ?_
        rintro e t1 ⟨Aq, mq, cq, rfl, hV, hBc⟩
        have HVq : Aside0 (Kd.V k31 31 t1 0 (fun k => k ≠ x7 ∧ k ≠ x9) (.slice Aq mq cq) _) := ⟨Kd.V_mono hV (fun k hk => ⟨by have := blk_lt HK7.out; omega, by have := blk_lt HK9.out; omega⟩)⟩
        clear hV
        replace HK7 : Aside0 (t1.heap[x7]? = some (.cells #[.int .i64 rm, .int .u64 N, .slice Aa ma ca] 25 (0, 0))) := ⟨(hBc.block _ (blk_lt HK7.out)).trans HK7.out⟩
        replace HK9 : Aside0 (t1.heap[x9]? = some (.cells #[.int .i64 nr, .int .u64 N, .slice Ab mb cb] 25 (0, 0))) := ⟨(hBc.block _ (blk_lt HK9.out)).trans HK9.out⟩
        replace HK12 : Aside0 (t1.heap[wr.heap.size]? = some (.cells #[.int .u64 x.f0, .int .i64 x.f1, .int .u32 x.f2, .int .u32 x.f3, .int .i64 x.f4.f0, .int .u16 x.f4.f1] 31 (0, 0))) := ⟨(hBc.block _ (blk_lt HK12.out)).trans HK12.out⟩
        replace HVa : Aside0 (Kd.V k31 31 t1 0 (fun k => k ≠ x7 ∧ k ≠ x9) (.slice Aa ma ca) (tailN all rm)) := ⟨Kd.V_below HVa.out hBc⟩
        replace HVb : Aside0 (Kd.V k31 31 t1 0 (fun k => k ≠ x7 ∧ k ≠ x9) (.slice Ab mb cb) (tailN all nr)) := ⟨Kd.V_below HVb.out hBc⟩
        replace HT : Aside0 (Tab t1) := ⟨HT.out.below hBc⟩
        replace HB : Aside0 (Below w.heap.size w t1) := ⟨HB.out.trans (hBc.mono HB.out.size)⟩
        clear hc70 hc71 hc72 hl7
        clear hBc
        rw [tail_narrow all rm nr (by have := HNR.out.1; omega) HNR.out.2] at HVq
        go_wp2_with (first | (refine storeP25 rfl rfl _ _ rfl nr N Aq mq cq (t1.heap.size) rfl rfl (heap_new_at _ _ _ rfl) ?_; intro b4 hb4 ho4 hs4 hB4; have hN4 : Below t1.heap.size t1 b4 := (below_alloc (Below.refl _ _) _).trans (hB4 _ (Nat.le_refl _)); have HKq : Aside0 (b4.heap[t1.heap.size]? = some (.cells #[.int .i64 nr, .int .u64 N, .slice Aq mq cq] 25 (0, 0))) := ⟨hb4⟩; clear hb4 ho4 hs4 hB4; replace HK7 : Aside0 (b4.heap[x7]? = some (.cells #[.int .i64 rm, .int .u64 N, .slice Aa ma ca] 25 (0, 0))) := ⟨(hN4.block _ (blk_lt HK7.out)).trans HK7.out⟩; replace HK9 : Aside0 (b4.heap[x9]? = some (.cells #[.int .i64 nr, .int .u64 N, .slice Ab mb cb] 25 (0, 0))) := ⟨(hN4.block _ (blk_lt HK9.out)).trans HK9.out⟩; replace HK12 : Aside0 (b4.heap[wr.heap.size]? = some (.cells #[.int .u64 x.f0, .int .i64 x.f1, .int .u32 x.f2, .int .u32 x.f3, .int .i64 x.f4.f0, .int .u16 x.f4.f1] 31 (0, 0))) := ⟨(hN4.block _ (blk_lt HK12.out)).trans HK12.out⟩; replace HVa : Aside0 (Kd.V k31 31 b4 0 (fun k => k ≠ x7 ∧ k ≠ x9) (.slice Aa ma ca) (tailN all rm)) := ⟨Kd.V_below HVa.out hN4⟩; replace HVb : Aside0 (Kd.V k31 31 b4 0 (fun k => k ≠ x7 ∧ k ≠ x9) (.slice Ab mb cb) (tailN all nr)) := ⟨Kd.V_below HVb.out hN4⟩; replace HVq : Aside0 (Kd.V k31 31 b4 0 (fun k => k ≠ x7 ∧ k ≠ x9) (.slice Aq mq cq) (tailN all nr)) := ⟨Kd.V_below HVq.out hN4⟩; replace HT : Aside0 (Tab b4) := ⟨HT.out.below hN4⟩; replace HB : Aside0 (Below w.heap.size w b4) := ⟨HB.out.trans (hN4.mono HB.out.size)⟩; clear hN4; have hcq0 : b4.cell? ⟨t1.heap.size, 0, none⟩ = some (.int .i64 nr) := blk_cell HKq.out 0; have hcq1 : b4.cell? ⟨t1.heap.size, 1, none⟩ = some (.int .u64 N) := blk_cell HKq.out 1; have hcq2 : b4.cell? ⟨t1.heap.size, 2, none⟩ = some (.slice Aq mq cq) := blk_cell HKq.out 2; have hlq := blk_lt HKq.out; have hc90 : b4.cell? ⟨x9, 0, none⟩ = some (.int .i64 nr) := blk_cell HK9.out 0; have hc91 : b4.cell? ⟨x9, 1, none⟩ = some (.int .u64 N) := blk_cell HK9.out 1; have hc92 : b4.cell? ⟨x9, 2, none⟩ = some (.slice Ab mb cb) := blk_cell HK9.out 2; have hl9 := blk_lt HK9.out))
        refine (same_e (tail_le (by omega)) HVq.out HVb.out).mono ?_
        rintro e t2 ⟨rfl, hBc⟩
        replace HK7 : Aside0 (t2.heap[x7]? = some (.cells #[.int .i64 rm, .int .u64 N, .slice Aa ma ca] 25 (0, 0))) := ⟨(hBc.block _ (blk_lt HK7.out)).trans HK7.out⟩
        replace HK9 : Aside0 (t2.heap[x9]? = some (.cells #[.int .i64 nr, .int .u64 N, .slice Ab mb cb] 25 (0, 0))) := ⟨(hBc.block _ (blk_lt HK9.out)).trans HK9.out⟩
        replace HK12 : Aside0 (t2.heap[wr.heap.size]? = some (.cells #[.int .u64 x.f0, .int .i64 x.f1, .int .u32 x.f2, .int .u32 x.f3, .int .i64 x.f4.f0, .int .u16 x.f4.f1] 31 (0, 0))) := ⟨(hBc.block _ (blk_lt HK12.out)).trans HK12.out⟩
        replace HKq : Aside0 (t2.heap[t1.heap.size]? = some (.cells #[.int .i64 nr, .int .u64 N, .slice Aq mq cq] 25 (0, 0))) := ⟨(hBc.block _ (blk_lt HKq.out)).trans HKq.out⟩
        replace HVa : Aside0 (Kd.V k31 31 t2 0 (fun k => k ≠ x7 ∧ k ≠ x9) (.slice Aa ma ca) (tailN all rm)) := ⟨Kd.V_below HVa.out hBc⟩
        replace HVb : Aside0 (Kd.V k31 31 t2 0 (fun k => k ≠ x7 ∧ k ≠ x9) (.slice Ab mb cb) (tailN all nr)) := ⟨Kd.V_below HVb.out hBc⟩
        replace HVq : Aside0 (Kd.V k31 31 t2 0 (fun k => k ≠ x7 ∧ k ≠ x9) (.slice Aq mq cq) (tailN all nr)) := ⟨Kd.V_below HVq.out hBc⟩
        replace HT : Aside0 (Tab t2) := ⟨HT.out.below hBc⟩
        replace HB : Aside0 (Below w.heap.size w t2) := ⟨HB.out.trans (hBc.mono HB.out.size)⟩
        clear hcq0 hcq1 hcq2 hlq hc90 hc91 hc92 hl9
        clear hBc
        go_wp2_with fail
        go_ret
        exact ⟨rfl, HB.out⟩
      · have h60b : (k == 60) = false := by simpa using h60
        have h60c : k < 60 := by omega
        clear h60
        go_wp2_with (first | (refine storeP31 rfl rfl _ _ rfl x.f0 x.f1 x.f2 x.f3 x.f4.f0 x.f4.f1 (wr.heap.size) rfl rfl (heap_new_at _ _ _ rfl) ?_; intro b11 hb11 ho11 hs11 hB11; have hN11 : Below wr.heap.size wr b11 := (below_alloc (Below.refl _ _) _).trans (hB11 _ (Nat.le_refl _)); have HK12 : Aside0 (b11.heap[wr.heap.size]? = some (.cells #[.int .u64 x.f0, .int .i64 x.f1, .int .u32 x.f2, .int .u32 x.f3, .int .i64 x.f4.f0, .int .u16 x.f4.f1] 31 (0, 0))) := ⟨hb11⟩; clear hb11 ho11 hs11 hB11; replace HK7 : Aside0 (b11.heap[x7]? = some (.cells #[.int .i64 rm, .int .u64 N, .slice Aa ma ca] 25 (0, 0))) := ⟨(hN11.block _ (blk_lt HK7.out)).trans HK7.out⟩; replace HK9 : Aside0 (b11.heap[x9]? = some (.cells #[.int .i64 nr, .int .u64 N, .slice Ab mb cb] 25 (0, 0))) := ⟨(hN11.block _ (blk_lt HK9.out)).trans HK9.out⟩; replace HVa : Aside0 (Kd.V k31 31 b11 0 (fun k => k ≠ x7 ∧ k ≠ x9) (.slice Aa ma ca) (tailN all rm)) := ⟨Kd.V_below HVa.out hN11⟩; replace HVb : Aside0 (Kd.V k31 31 b11 0 (fun k => k ≠ x7 ∧ k ≠ x9) (.slice Ab mb cb) (tailN all nr)) := ⟨Kd.V_below HVb.out hN11⟩; replace HT : Aside0 (Tab b11) := ⟨HT.out.below hN11⟩; replace HB : Aside0 (Below w.heap.size w b11) := ⟨HB.out.trans (hN11.mono HB.out.size)⟩; clear hN11; have hc70 : b11.cell? ⟨x7, 0, none⟩ = some (.int .i64 rm) := blk_cell HK7.out 0; have hc71 : b11.cell? ⟨x7, 1, none⟩ = some (.int .u64 N) := blk_cell HK7.out 1; have hc72 : b11.cell? ⟨x7, 2, none⟩ = some (.slice Aa ma ca) := blk_cell HK7.out 2; have hl7 := blk_lt HK7.out; have hc120 : b11.cell? ⟨wr.heap.size, 0, none⟩ = some (.int .u64 x.f0) := blk_cell HK12.out 0; have hc121 : b11.cell? ⟨wr.heap.size, 1, none⟩ = some (.int .i64 x.f1) := blk_cell HK12.out 1; have hc122 : b11.cell? ⟨wr.heap.size, 2, none⟩ = some (.int .u32 x.f2) := blk_cell HK12.out 2; have hc123 : b11.cell? ⟨wr.heap.size, 3, none⟩ = some (.int .u32 x.f3) := blk_cell HK12.out 3; have hc124 : b11.cell? ⟨wr.heap.size, 4, none⟩ = some (.int .i64 x.f4.f0) := blk_cell HK12.out 4; have hc125 : b11.cell? ⟨wr.heap.size, 5, none⟩ = some (.int .u16 x.f4.f1) := blk_cell HK12.out 5; have hl12 := blk_lt HK12.out; clear hx0 hx1 hx2 hx3 hx4 hx5))
        cases hb : bad x.f1 x.f4.f0
        · have HBD := Lib.hid hb
          clear hb
          obtain ⟨N', hN'⟩ : ∃ N' : Int, N' = ((nxt all x).length : Int) + 1 := ⟨_, rfl⟩
          have HN' := Lib.hid hN'
          clear hN'
          refine (put_e (r1 := rm) (r2 := N') (r3 := (tailN (nxt all x) rm)) (r4 := lo x.f4.f0 x.f4.f1) (r5 := 0) (by rw [HN.out]; rw [HN'.out]; exact put_good HRM.out.1 HRM.out.2 HI.out (by omega) x HXD.out HBD.out) HVa.out HT.out).mono ?_
          rintro e pnf ⟨An, mn, cn, rfl, hV, hBc⟩
          have HVn : Aside0 (Kd.V k31 31 pnf 0 (fun k => k ≠ x7 ∧ k ≠ x9) (.slice An mn cn) _) := ⟨Kd.V_mono hV (fun k hk => hk.elim id (fun h => ⟨by have := blk_lt HK7.out; omega, by have := blk_lt HK9.out; omega⟩))⟩
          clear hV
          replace HK7 : Aside0 (pnf.heap[x7]? = some (.cells #[.int .i64 rm, .int .u64 N, .slice Aa ma ca] 25 (0, 0))) := ⟨(hBc.block _ (blk_lt HK7.out)).trans HK7.out⟩
          replace HK9 : Aside0 (pnf.heap[x9]? = some (.cells #[.int .i64 nr, .int .u64 N, .slice Ab mb cb] 25 (0, 0))) := ⟨(hBc.block _ (blk_lt HK9.out)).trans HK9.out⟩
          replace HK12 : Aside0 (pnf.heap[wr.heap.size]? = some (.cells #[.int .u64 x.f0, .int .i64 x.f1, .int .u32 x.f2, .int .u32 x.f3, .int .i64 x.f4.f0, .int .u16 x.f4.f1] 31 (0, 0))) := ⟨(hBc.block _ (blk_lt HK12.out)).trans HK12.out⟩
          replace HVa : Aside0 (Kd.V k31 31 pnf 0 (fun k => k ≠ x7 ∧ k ≠ x9) (.slice Aa ma ca) (tailN all rm)) := ⟨Kd.V_below HVa.out hBc⟩
          replace HVb : Aside0 (Kd.V k31 31 pnf 0 (fun k => k ≠ x7 ∧ k ≠ x9) (.slice Ab mb cb) (tailN all nr)) := ⟨Kd.V_below HVb.out hBc⟩
          replace HT : Aside0 (Tab pnf) := ⟨HT.out.below hBc⟩
          replace HB : Aside0 (Below w.heap.size w pnf) := ⟨HB.out.trans (hBc.mono HB.out.size)⟩
          clear hc70 hc71 hc72 hl7 hc120 hc121 hc122 hc123 hc124 hc125 hl12
          clear hBc
          go_wp2_with (first | (refine storeP25 rfl rfl _ _ rfl rm N' An mn cn (pnf.heap.size) rfl rfl (heap_new_at _ _ _ rfl) ?_; intro b12 hb12 ho12 hs12 hB12; have hq7_13 : x7 < pnf.heap.size := blk_lt HK7.out; have hq9_13 : x9 < pnf.heap.size := blk_lt HK9.out; have hN12 : Below pnf.heap.size pnf b12 := (below_alloc (Below.refl _ _) _).trans (hB12 _ (Nat.le_refl _)); have HK13 : Aside0 (b12.heap[pnf.heap.size]? = some (.cells #[.int .i64 rm, .int .u64 N', .slice An mn cn] 25 (0, 0))) := ⟨hb12⟩; clear hb12 ho12 hs12 hB12; replace HK7 : Aside0 (b12.heap[x7]? = some (.cells #[.int .i64 rm, .int .u64 N, .slice Aa ma ca] 25 (0, 0))) := ⟨(hN12.block _ (blk_lt HK7.out)).trans HK7.out⟩; replace HK9 : Aside0 (b12.heap[x9]? = some (.cells #[.int .i64 nr, .int .u64 N, .slice Ab mb cb] 25 (0, 0))) := ⟨(hN12.block _ (blk_lt HK9.out)).trans HK9.out⟩; replace HK12 : Aside0 (b12.heap[wr.heap.size]? = some (.cells #[.int .u64 x.f0, .int .i64 x.f1, .int .u32 x.f2, .int .u32 x.f3, .int .i64 x.f4.f0, .int .u16 x.f4.f1] 31 (0, 0))) := ⟨(hN12.block _ (blk_lt HK12.out)).trans HK12.out⟩; replace HVa : Aside0 (Kd.V k31 31 b12 0 (fun k => k ≠ x7 ∧ k ≠ x9) (.slice Aa ma ca) (tailN all rm)) := ⟨Kd.V_below HVa.out hN12⟩; replace HVb : Aside0 (Kd.V k31 31 b12 0 (fun k => k ≠ x7 ∧ k ≠ x9) (.slice Ab mb cb) (tailN all nr)) := ⟨Kd.V_below HVb.out hN12⟩; replace HVn : Aside0 (Kd.V k31 31 b12 0 (fun k => k ≠ x7 ∧ k ≠ x9) (.slice An mn cn) (tailN (nxt all x) rm)) := ⟨Kd.V_below HVn.out hN12⟩; replace HT : Aside0 (Tab b12) := ⟨HT.out.below hN12⟩; replace HB : Aside0 (Below w.heap.size w b12) := ⟨HB.out.trans (hN12.mono HB.out.size)⟩; clear hN12; have hc90 : b12.cell? ⟨x9, 0, none⟩ = some (.int .i64 nr) := blk_cell HK9.out 0; have hc91 : b12.cell? ⟨x9, 1, none⟩ = some (.int .u64 N) := blk_cell HK9.out 1; have hc92 : b12.cell? ⟨x9, 2, none⟩ = some (.slice Ab mb cb) := blk_cell HK9.out 2; have hl9 := blk_lt HK9.out; have hc120 : b12.cell? ⟨wr.heap.size, 0, none⟩ = some (.int .u64 x.f0) := blk_cell HK12.out 0; have hc121 : b12.cell? ⟨wr.heap.size, 1, none⟩ = some (.int .i64 x.f1) := blk_cell HK12.out 1; have hc122 : b12.cell? ⟨wr.heap.size, 2, none⟩ = some (.int .u32 x.f2) := blk_cell HK12.out 2; have hc123 : b12.cell? ⟨wr.heap.size, 3, none⟩ = some (.int .u32 x.f3) := blk_cell HK12.out 3; have hc124 : b12.cell? ⟨wr.heap.size, 4, none⟩ = some (.int .i64 x.f4.f0) := blk_cell HK12.out 4; have hc125 : b12.cell? ⟨wr.heap.size, 5, none⟩ = some (.int .u16 x.f4.f1) := blk_cell HK12.out 5; have hl12 := blk_lt HK12.out))
          refine (put_e (r1 := nr) (r2 := N') (r3 := (tailN (nxt all x) nr)) (r4 := lo x.f4.f0 x.f4.f1) (r5 := 0) (by rw [HN.out]; rw [HN'.out]; exact put_good HNR.out.1 hnr32 HI.out (by omega) x HXD.out HBD.out) HVb.out HT.out).mono ?_
          rintro e pmf ⟨Am, mm, cm, rfl, hV, hBc⟩
          have HVm : Aside0 (Kd.V k31 31 pmf 0 (fun k => k ≠ x7 ∧ k ≠ x9) (.slice Am mm cm) _) := ⟨Kd.V_mono hV (fun k hk => hk.elim id (fun h => ⟨by have := blk_lt HK7.out; omega, by have := blk_lt HK9.out; omega⟩))⟩
          clear hV
          replace HK7 : Aside0 (pmf.heap[x7]? = some (.cells #[.int .i64 rm, .int .u64 N, .slice Aa ma ca] 25 (0, 0))) := ⟨(hBc.block _ (blk_lt HK7.out)).trans HK7.out⟩
          replace HK9 : Aside0 (pmf.heap[x9]? = some (.cells #[.int .i64 nr, .int .u64 N, .slice Ab mb cb] 25 (0, 0))) := ⟨(hBc.block _ (blk_lt HK9.out)).trans HK9.out⟩
          replace HK12 : Aside0 (pmf.heap[wr.heap.size]? = some (.cells #[.int .u64 x.f0, .int .i64 x.f1, .int .u32 x.f2, .int .u32 x.f3, .int .i64 x.f4.f0, .int .u16 x.f4.f1] 31 (0, 0))) := ⟨(hBc.block _ (blk_lt HK12.out)).trans HK12.out⟩
          replace HK13 : Aside0 (pmf.heap[pnf.heap.size]? = some (.cells #[.int .i64 rm, .int .u64 N', .slice An mn cn] 25 (0, 0))) := ⟨(hBc.block _ (blk_lt HK13.out)).trans HK13.out⟩
          replace HVa : Aside0 (Kd.V k31 31 pmf 0 (fun k => k ≠ x7 ∧ k ≠ x9) (.slice Aa ma ca) (tailN all rm)) := ⟨Kd.V_below HVa.out hBc⟩
          replace HVb : Aside0 (Kd.V k31 31 pmf 0 (fun k => k ≠ x7 ∧ k ≠ x9) (.slice Ab mb cb) (tailN all nr)) := ⟨Kd.V_below HVb.out hBc⟩
          replace HVn : Aside0 (Kd.V k31 31 pmf 0 (fun k => k ≠ x7 ∧ k ≠ x9) (.slice An mn cn) (tailN (nxt all x) rm)) := ⟨Kd.V_below HVn.out hBc⟩
          replace HT : Aside0 (Tab pmf) := ⟨HT.out.below hBc⟩
          replace HB : Aside0 (Below w.heap.size w pmf) := ⟨HB.out.trans (hBc.mono HB.out.size)⟩
          clear hc90 hc91 hc92 hl9 hc120 hc121 hc122 hc123 hc124 hc125 hl12
          clear hBc
          go_wp2_with (first | (refine storeP25 rfl rfl _ _ rfl nr N' Am mm cm (pmf.heap.size) rfl rfl (heap_new_at _ _ _ rfl) ?_; intro b13 hb13 ho13 hs13 hB13; have hq7_16 : x7 < pmf.heap.size := blk_lt HK7.out; have hq9_16 : x9 < pmf.heap.size := blk_lt HK9.out; have hN13 : Below pmf.heap.size pmf b13 := (below_alloc (Below.refl _ _) _).trans (hB13 _ (Nat.le_refl _)); have HK16 : Aside0 (b13.heap[pmf.heap.size]? = some (.cells #[.int .i64 nr, .int .u64 N', .slice Am mm cm] 25 (0, 0))) := ⟨hb13⟩; clear hb13 ho13 hs13 hB13; replace HK7 : Aside0 (b13.heap[x7]? = some (.cells #[.int .i64 rm, .int .u64 N, .slice Aa ma ca] 25 (0, 0))) := ⟨(hN13.block _ (blk_lt HK7.out)).trans HK7.out⟩; replace HK9 : Aside0 (b13.heap[x9]? = some (.cells #[.int .i64 nr, .int .u64 N, .slice Ab mb cb] 25 (0, 0))) := ⟨(hN13.block _ (blk_lt HK9.out)).trans HK9.out⟩; replace HK12 : Aside0 (b13.heap[wr.heap.size]? = some (.cells #[.int .u64 x.f0, .int .i64 x.f1, .int .u32 x.f2, .int .u32 x.f3, .int .i64 x.f4.f0, .int .u16 x.f4.f1] 31 (0, 0))) := ⟨(hN13.block _ (blk_lt HK12.out)).trans HK12.out⟩; replace HK13 : Aside0 (b13.heap[pnf.heap.size]? = some (.cells #[.int .i64 rm, .int .u64 N', .slice An mn cn] 25 (0, 0))) := ⟨(hN13.block _ (blk_lt HK13.out)).trans HK13.out⟩; replace HVa : Aside0 (Kd.V k31 31 b13 0 (fun k => k ≠ x7 ∧ k ≠ x9) (.slice Aa ma ca) (tailN all rm)) := ⟨Kd.V_below HVa.out hN13⟩; replace HVb : Aside0 (Kd.V k31 31 b13 0 (fun k => k ≠ x7 ∧ k ≠ x9) (.slice Ab mb cb) (tailN all nr)) := ⟨Kd.V_below HVb.out hN13⟩; replace HVn : Aside0 (Kd.V k31 31 b13 0 (fun k => k ≠ x7 ∧ k ≠ x9) (.slice An mn cn) (tailN (nxt all x) rm)) := ⟨Kd.V_below HVn.out hN13⟩; replace HVm : Aside0 (Kd.V k31 31 b13 0 (fun k => k ≠ x7 ∧ k ≠ x9) (.slice Am mm cm) (tailN (nxt all x) nr)) := ⟨Kd.V_below HVm.out hN13⟩; replace HT : Aside0 (Tab b13) := ⟨HT.out.below hN13⟩; replace HB : Aside0 (Below w.heap.size w b13) := ⟨HB.out.trans (hN13.mono HB.out.size)⟩; clear hN13))
          have hn7_13 : x7 ≠ pnf.heap.size := Nat.ne_of_lt hq7_13
          have hn9_13 : x9 ≠ pnf.heap.size := Nat.ne_of_lt hq9_13
          have hn7_16 : x7 ≠ pmf.heap.size := Nat.ne_of_lt hq7_16
          have hn9_16 : x9 ≠ pmf.heap.size := Nat.ne_of_lt hq9_16
          have hn13_7 := Ne.symm hn7_13
          have hn13_9 := Ne.symm hn9_13
          have hn16_7 := Ne.symm hn7_16
          have hn16_9 := Ne.symm hn9_16
          have hx97 := Ne.symm hx79
          have hc70 : b13.cell? ⟨x7, 0, none⟩ = some (.int .i64 rm) := blk_cell HK7.out 0
          have hc71 : b13.cell? ⟨x7, 1, none⟩ = some (.int .u64 N) := blk_cell HK7.out 1
          have hc72 : b13.cell? ⟨x7, 2, none⟩ = some (.slice Aa ma ca) := blk_cell HK7.out 2
          have hl7 := blk_lt HK7.out
          have hc90 : b13.cell? ⟨x9, 0, none⟩ = some (.int .i64 nr) := blk_cell HK9.out 0
          have hc91 : b13.cell? ⟨x9, 1, none⟩ = some (.int .u64 N) := blk_cell HK9.out 1
          have hc92 : b13.cell? ⟨x9, 2, none⟩ = some (.slice Ab mb cb) := blk_cell HK9.out 2
          have hl9 := blk_lt HK9.out
          have hc130 : b13.cell? ⟨pnf.heap.size, 0, none⟩ = some (.int .i64 rm) := blk_cell HK13.out 0
          have hc131 : b13.cell? ⟨pnf.heap.size, 1, none⟩ = some (.int .u64 N') := blk_cell HK13.out 1
          have hc132 : b13.cell? ⟨pnf.heap.size, 2, none⟩ = some (.slice An mn cn) := blk_cell HK13.out 2
          have hl13 := blk_lt HK13.out
          have hc160 : b13.cell? ⟨pmf.heap.size, 0, none⟩ = some (.int .i64 nr) := blk_cell HK16.out 0
          have hc161 : b13.cell? ⟨pmf.heap.size, 1, none⟩ = some (.int .u64 N') := blk_cell HK16.out 1
          have hc162 : b13.cell? ⟨pmf.heap.size, 2, none⟩ = some (.slice Am mm cm) := blk_cell HK16.out 2
          have hl16 := blk_lt HK16.out
          have hf70 : b13.frozen? ⟨x7, 0, none⟩ = false := blk_frozen HK7.out 0
          have hf71 : b13.frozen? ⟨x7, 1, none⟩ = false := blk_frozen HK7.out 1
          have hf72 : b13.frozen? ⟨x7, 2, none⟩ = false := blk_frozen HK7.out 2
          have hf90 : b13.frozen? ⟨x9, 0, none⟩ = false := blk_frozen HK9.out 0
          have hf91 : b13.frozen? ⟨x9, 1, none⟩ = false := blk_frozen HK9.out 1
          have hf92 : b13.frozen? ⟨x9, 2, none⟩ = false := blk_frozen HK9.out 2
          go_region_held3 (fun w' => w'.cell? ⟨pnf.heap.size, 0, none⟩ = some (.int .i64 rm) ∧ w'.cell? ⟨pnf.heap.size, 1, none⟩ = some (.int .u64 N') ∧ w'.cell? ⟨pnf.heap.size, 2, none⟩ = some (.slice An mn cn) ∧ w'.cell? ⟨pmf.heap.size, 0, none⟩ = some (.int .i64 nr) ∧ w'.cell? ⟨pmf.heap.size, 1, none⟩ = some (.int .u64 N') ∧ w'.cell? ⟨pmf.heap.size, 2, none⟩ = some (.slice Am mm cm)) (go_keep) (fail)
          have hnl := nxt_len all x
          go_wp2
          go_roundw
          case rel => exact ⟨k + 1, nxt all x, N', An, mn, cn, Am, mm, cm, rfl, by omega, by omega, by omega, Lib.hid (nxt_inv HI.out HBD.out HXD.out), HN', ⟨by (repeat (with_reducible first | exact HK7.out | refine blk_drewN ?_ _ | refine blk_drew ?_ | refine (Below.heap_setCell _ _ _ _ (by dsimp only; omega)).trans ?_ | apply blk_put)); all_goals rfl⟩, ⟨by (repeat (with_reducible first | exact HK9.out | refine blk_drewN ?_ _ | refine blk_drew ?_ | refine (Below.heap_setCell _ _ _ _ (by dsimp only; omega)).trans ?_ | apply blk_put)); all_goals rfl⟩, ⟨by repeat (with_reducible first | exact HVn.out | refine Kd.V_drew ?_ | refine Kd.V_drewN ?_ _ | refine V_set1 ?_ _ _ | refine V_set2 ?_ _ _)⟩, ⟨by repeat (with_reducible first | exact HVm.out | refine Kd.V_drew ?_ | refine Kd.V_drewN ?_ _ | refine V_set1 ?_ _ _ | refine V_set2 ?_ _ _)⟩, ⟨by repeat (with_reducible first | exact HB.out | refine Below.setCell ?_ (by dsimp only; omega) _ | refine below_drewN' ?_ _ | refine below_drew' ?_)⟩⟩
          case measure => simp [intOf]; omega
        · have HBD := Lib.hid hb
          clear hb
          refine (put_e (r1 := 0) (r2 := 0) (r3 := []) (r4 := false) (r5 := 2) (by rw [HN.out]; exact put_bad HRM.out.1 HRM.out.2 HI.out (by omega) x HXD.out HBD.out) HVa.out HT.out).mono ?_
          rintro e pnt ⟨An, mn, cn, rfl, hV, hBc⟩
          have HVn : Aside0 (Kd.V k31 31 pnt 0 (fun k => k ≠ x7 ∧ k ≠ x9) (.slice An mn cn) _) := ⟨Kd.V_mono hV (fun k hk => hk.elim id (fun h => ⟨by have := blk_lt HK7.out; omega, by have := blk_lt HK9.out; omega⟩))⟩
          clear hV
          replace HK7 : Aside0 (pnt.heap[x7]? = some (.cells #[.int .i64 rm, .int .u64 N, .slice Aa ma ca] 25 (0, 0))) := ⟨(hBc.block _ (blk_lt HK7.out)).trans HK7.out⟩
          replace HK9 : Aside0 (pnt.heap[x9]? = some (.cells #[.int .i64 nr, .int .u64 N, .slice Ab mb cb] 25 (0, 0))) := ⟨(hBc.block _ (blk_lt HK9.out)).trans HK9.out⟩
          replace HK12 : Aside0 (pnt.heap[wr.heap.size]? = some (.cells #[.int .u64 x.f0, .int .i64 x.f1, .int .u32 x.f2, .int .u32 x.f3, .int .i64 x.f4.f0, .int .u16 x.f4.f1] 31 (0, 0))) := ⟨(hBc.block _ (blk_lt HK12.out)).trans HK12.out⟩
          replace HVa : Aside0 (Kd.V k31 31 pnt 0 (fun k => k ≠ x7 ∧ k ≠ x9) (.slice Aa ma ca) (tailN all rm)) := ⟨Kd.V_below HVa.out hBc⟩
          replace HVb : Aside0 (Kd.V k31 31 pnt 0 (fun k => k ≠ x7 ∧ k ≠ x9) (.slice Ab mb cb) (tailN all nr)) := ⟨Kd.V_below HVb.out hBc⟩
          replace HT : Aside0 (Tab pnt) := ⟨HT.out.below hBc⟩
          replace HB : Aside0 (Below w.heap.size w pnt) := ⟨HB.out.trans (hBc.mono HB.out.size)⟩
          clear hc70 hc71 hc72 hl7 hc120 hc121 hc122 hc123 hc124 hc125 hl12
          clear hBc
          go_wp2_with (first | (refine storeP25 rfl rfl _ _ rfl 0 0 An mn cn (pnt.heap.size) rfl rfl (heap_new_at _ _ _ rfl) ?_; intro b12 hb12 ho12 hs12 hB12; have hN12 : Below pnt.heap.size pnt b12 := (below_alloc (Below.refl _ _) _).trans (hB12 _ (Nat.le_refl _)); have HK13 : Aside0 (b12.heap[pnt.heap.size]? = some (.cells #[.int .i64 0, .int .u64 0, .slice An mn cn] 25 (0, 0))) := ⟨hb12⟩; clear hb12 ho12 hs12 hB12; replace HK7 : Aside0 (b12.heap[x7]? = some (.cells #[.int .i64 rm, .int .u64 N, .slice Aa ma ca] 25 (0, 0))) := ⟨(hN12.block _ (blk_lt HK7.out)).trans HK7.out⟩; replace HK9 : Aside0 (b12.heap[x9]? = some (.cells #[.int .i64 nr, .int .u64 N, .slice Ab mb cb] 25 (0, 0))) := ⟨(hN12.block _ (blk_lt HK9.out)).trans HK9.out⟩; replace HK12 : Aside0 (b12.heap[wr.heap.size]? = some (.cells #[.int .u64 x.f0, .int .i64 x.f1, .int .u32 x.f2, .int .u32 x.f3, .int .i64 x.f4.f0, .int .u16 x.f4.f1] 31 (0, 0))) := ⟨(hN12.block _ (blk_lt HK12.out)).trans HK12.out⟩; replace HVa : Aside0 (Kd.V k31 31 b12 0 (fun k => k ≠ x7 ∧ k ≠ x9) (.slice Aa ma ca) (tailN all rm)) := ⟨Kd.V_below HVa.out hN12⟩; replace HVb : Aside0 (Kd.V k31 31 b12 0 (fun k => k ≠ x7 ∧ k ≠ x9) (.slice Ab mb cb) (tailN all nr)) := ⟨Kd.V_below HVb.out hN12⟩; replace HVn : Aside0 (Kd.V k31 31 b12 0 (fun k => k ≠ x7 ∧ k ≠ x9) (.slice An mn cn) []) := ⟨Kd.V_below HVn.out hN12⟩; replace HT : Aside0 (Tab b12) := ⟨HT.out.below hN12⟩; replace HB : Aside0 (Below w.heap.size w b12) := ⟨HB.out.trans (hN12.mono HB.out.size)⟩; clear hN12; have hc90 : b12.cell? ⟨x9, 0, none⟩ = some (.int .i64 nr) := blk_cell HK9.out 0; have hc91 : b12.cell? ⟨x9, 1, none⟩ = some (.int .u64 N) := blk_cell HK9.out 1; have hc92 : b12.cell? ⟨x9, 2, none⟩ = some (.slice Ab mb cb) := blk_cell HK9.out 2; have hl9 := blk_lt HK9.out; have hc120 : b12.cell? ⟨wr.heap.size, 0, none⟩ = some (.int .u64 x.f0) := blk_cell HK12.out 0; have hc121 : b12.cell? ⟨wr.heap.size, 1, none⟩ = some (.int .i64 x.f1) := blk_cell HK12.out 1; have hc122 : b12.cell? ⟨wr.heap.size, 2, none⟩ = some (.int .u32 x.f2) := blk_cell HK12.out 2; have hc123 : b12.cell? ⟨wr.heap.size, 3, none⟩ = some (.int .u32 x.f3) := blk_cell HK12.out 3; have hc124 : b12.cell? ⟨wr.heap.size, 4, none⟩ = some (.int .i64 x.f4.f0) := blk_cell HK12.out 4; have hc125 : b12.cell? ⟨wr.heap.size, 5, none⟩ = some (.int .u16 x.f4.f1) := blk_cell HK12.out 5; have hl12 := blk_lt HK12.out))
          refine (put_e (r1 := 0) (r2 := 0) (r3 := []) (r4 := false) (r5 := 2) (by rw [HN.out]; exact put_bad HNR.out.1 hnr32 HI.out (by omega) x HXD.out HBD.out) HVb.out HT.out).mono ?_
          rintro e pmt ⟨Am, mm, cm, rfl, hV, hBc⟩
          have HVm : Aside0 (Kd.V k31 31 pmt 0 (fun k => k ≠ x7 ∧ k ≠ x9) (.slice Am mm cm) _) := ⟨Kd.V_mono hV (fun k hk => hk.elim id (fun h => ⟨by have := blk_lt HK7.out; omega, by have := blk_lt HK9.out; omega⟩))⟩
          clear hV
          replace HK7 : Aside0 (pmt.heap[x7]? = some (.cells #[.int .i64 rm, .int .u64 N, .slice Aa ma ca] 25 (0, 0))) := ⟨(hBc.block _ (blk_lt HK7.out)).trans HK7.out⟩
          replace HK9 : Aside0 (pmt.heap[x9]? = some (.cells #[.int .i64 nr, .int .u64 N, .slice Ab mb cb] 25 (0, 0))) := ⟨(hBc.block _ (blk_lt HK9.out)).trans HK9.out⟩
          replace HK12 : Aside0 (pmt.heap[wr.heap.size]? = some (.cells #[.int .u64 x.f0, .int .i64 x.f1, .int .u32 x.f2, .int .u32 x.f3, .int .i64 x.f4.f0, .int .u16 x.f4.f1] 31 (0, 0))) := ⟨(hBc.block _ (blk_lt HK12.out)).trans HK12.out⟩
          replace HK13 : Aside0 (pmt.heap[pnt.heap.size]? = some (.cells #[.int .i64 0, .int .u64 0, .slice An mn cn] 25 (0, 0))) := ⟨(hBc.block _ (blk_lt HK13.out)).trans HK13.out⟩
          replace HVa : Aside0 (Kd.V k31 31 pmt 0 (fun k => k ≠ x7 ∧ k ≠ x9) (.slice Aa ma ca) (tailN all rm)) := ⟨Kd.V_below HVa.out hBc⟩
          replace HVb : Aside0 (Kd.V k31 31 pmt 0 (fun k => k ≠ x7 ∧ k ≠ x9) (.slice Ab mb cb) (tailN all nr)) := ⟨Kd.V_below HVb.out hBc⟩
          replace HVn : Aside0 (Kd.V k31 31 pmt 0 (fun k => k ≠ x7 ∧ k ≠ x9) (.slice An mn cn) []) := ⟨Kd.V_below HVn.out hBc⟩
          replace HT : Aside0 (Tab pmt) := ⟨HT.out.below hBc⟩
          replace HB : Aside0 (Below w.heap.size w pmt) := ⟨HB.out.trans (hBc.mono HB.out.size)⟩
          clear hc90 hc91 hc92 hl9 hc120 hc121 hc122 hc123 hc124 hc125 hl12
          clear hBc
          go_wp2_with (first | (refine storeP25 rfl rfl _ _ rfl 0 0 Am mm cm (pmt.heap.size) rfl rfl (heap_new_at _ _ _ rfl) ?_; intro b13 hb13 ho13 hs13 hB13; have hN13 : Below pmt.heap.size pmt b13 := (below_alloc (Below.refl _ _) _).trans (hB13 _ (Nat.le_refl _)); have HK16 : Aside0 (b13.heap[pmt.heap.size]? = some (.cells #[.int .i64 0, .int .u64 0, .slice Am mm cm] 25 (0, 0))) := ⟨hb13⟩; clear hb13 ho13 hs13 hB13; replace HK7 : Aside0 (b13.heap[x7]? = some (.cells #[.int .i64 rm, .int .u64 N, .slice Aa ma ca] 25 (0, 0))) := ⟨(hN13.block _ (blk_lt HK7.out)).trans HK7.out⟩; replace HK9 : Aside0 (b13.heap[x9]? = some (.cells #[.int .i64 nr, .int .u64 N, .slice Ab mb cb] 25 (0, 0))) := ⟨(hN13.block _ (blk_lt HK9.out)).trans HK9.out⟩; replace HK12 : Aside0 (b13.heap[wr.heap.size]? = some (.cells #[.int .u64 x.f0, .int .i64 x.f1, .int .u32 x.f2, .int .u32 x.f3, .int .i64 x.f4.f0, .int .u16 x.f4.f1] 31 (0, 0))) := ⟨(hN13.block _ (blk_lt HK12.out)).trans HK12.out⟩; replace HK13 : Aside0 (b13.heap[pnt.heap.size]? = some (.cells #[.int .i64 0, .int .u64 0, .slice An mn cn] 25 (0, 0))) := ⟨(hN13.block _ (blk_lt HK13.out)).trans HK13.out⟩; replace HVa : Aside0 (Kd.V k31 31 b13 0 (fun k => k ≠ x7 ∧ k ≠ x9) (.slice Aa ma ca) (tailN all rm)) := ⟨Kd.V_below HVa.out hN13⟩; replace HVb : Aside0 (Kd.V k31 31 b13 0 (fun k => k ≠ x7 ∧ k ≠ x9) (.slice Ab mb cb) (tailN all nr)) := ⟨Kd.V_below HVb.out hN13⟩; replace HVn : Aside0 (Kd.V k31 31 b13 0 (fun k => k ≠ x7 ∧ k ≠ x9) (.slice An mn cn) []) := ⟨Kd.V_below HVn.out hN13⟩; replace HVm : Aside0 (Kd.V k31 31 b13 0 (fun k => k ≠ x7 ∧ k ≠ x9) (.slice Am mm cm) []) := ⟨Kd.V_below HVm.out hN13⟩; replace HT : Aside0 (Tab b13) := ⟨HT.out.below hN13⟩; replace HB : Aside0 (Below w.heap.size w b13) := ⟨HB.out.trans (hN13.mono HB.out.size)⟩; clear hN13))
          go_roundw
          case rel => exact ⟨k + 1, all, N, Aa, ma, ca, Ab, mb, cb, rfl, by omega, by omega, by omega, HI, HN, HK7, HK9, HVa, HVb, HB⟩
          case measure => simp [intOf]; omega
    · have hltb : decide (k < (L : Int)) = false := decide_eq_false hlt
      clear hlt
      have hc70 : wr.cell? ⟨x7, 0, none⟩ = some (.int .i64 rm) := blk_cell HK7.out 0
      have hc71 : wr.cell? ⟨x7, 1, none⟩ = some (.int .u64 N) := blk_cell HK7.out 1
      have hc72 : wr.cell? ⟨x7, 2, none⟩ = some (.slice Aa ma ca) := blk_cell HK7.out 2
      have hl7 := blk_lt HK7.out
      go_wp2_with fail
      refine (widen_e (nx := N) (dat_tail HI.out) (by rw [HN.out]; exact ring_ok HRM.out.1 HRM.out.2 HI.out (by omega)) HNR.out.1 HNR.out.2 HVa.out HT.out).mono ?_
      rintro e t1 ⟨Aq, mq, cq, rfl, hV, hBc⟩
      have HVq : Aside0 (Kd.V k31 31 t1 0 (fun k => k ≠ x7 ∧ k ≠ x9) (.slice Aq mq cq) _) := ⟨Kd.V_mono hV (fun k hk => ⟨by have := blk_lt HK7.out; omega, by have := blk_lt HK9.out; omega⟩)⟩
      clear hV
      replace HK7 : Aside0 (t1.heap[x7]? = some (.cells #[.int .i64 rm, .int .u64 N, .slice Aa ma ca] 25 (0, 0))) := ⟨(hBc.block _ (blk_lt HK7.out)).trans HK7.out⟩
      replace HK9 : Aside0 (t1.heap[x9]? = some (.cells #[.int .i64 nr, .int .u64 N, .slice Ab mb cb] 25 (0, 0))) := ⟨(hBc.block _ (blk_lt HK9.out)).trans HK9.out⟩
      replace HVa : Aside0 (Kd.V k31 31 t1 0 (fun k => k ≠ x7 ∧ k ≠ x9) (.slice Aa ma ca) (tailN all rm)) := ⟨Kd.V_below HVa.out hBc⟩
      replace HVb : Aside0 (Kd.V k31 31 t1 0 (fun k => k ≠ x7 ∧ k ≠ x9) (.slice Ab mb cb) (tailN all nr)) := ⟨Kd.V_below HVb.out hBc⟩
      replace HT : Aside0 (Tab t1) := ⟨HT.out.below hBc⟩
      replace HB : Aside0 (Below w.heap.size w t1) := ⟨HB.out.trans (hBc.mono HB.out.size)⟩
      clear hc70 hc71 hc72 hl7
      clear hBc
      rw [tail_narrow all rm nr (by have := HNR.out.1; omega) HNR.out.2] at HVq
      go_wp2_with (first | (refine storeP25 rfl rfl _ _ rfl nr N Aq mq cq (t1.heap.size) rfl rfl (heap_new_at _ _ _ rfl) ?_; intro b31 hb31 ho31 hs31 hB31; have hN31 : Below t1.heap.size t1 b31 := (below_alloc (Below.refl _ _) _).trans (hB31 _ (Nat.le_refl _)); have HKq : Aside0 (b31.heap[t1.heap.size]? = some (.cells #[.int .i64 nr, .int .u64 N, .slice Aq mq cq] 25 (0, 0))) := ⟨hb31⟩; clear hb31 ho31 hs31 hB31; replace HK7 : Aside0 (b31.heap[x7]? = some (.cells #[.int .i64 rm, .int .u64 N, .slice Aa ma ca] 25 (0, 0))) := ⟨(hN31.block _ (blk_lt HK7.out)).trans HK7.out⟩; replace HK9 : Aside0 (b31.heap[x9]? = some (.cells #[.int .i64 nr, .int .u64 N, .slice Ab mb cb] 25 (0, 0))) := ⟨(hN31.block _ (blk_lt HK9.out)).trans HK9.out⟩; replace HVa : Aside0 (Kd.V k31 31 b31 0 (fun k => k ≠ x7 ∧ k ≠ x9) (.slice Aa ma ca) (tailN all rm)) := ⟨Kd.V_below HVa.out hN31⟩; replace HVb : Aside0 (Kd.V k31 31 b31 0 (fun k => k ≠ x7 ∧ k ≠ x9) (.slice Ab mb cb) (tailN all nr)) := ⟨Kd.V_below HVb.out hN31⟩; replace HVq : Aside0 (Kd.V k31 31 b31 0 (fun k => k ≠ x7 ∧ k ≠ x9) (.slice Aq mq cq) (tailN all nr)) := ⟨Kd.V_below HVq.out hN31⟩; replace HT : Aside0 (Tab b31) := ⟨HT.out.below hN31⟩; replace HB : Aside0 (Below w.heap.size w b31) := ⟨HB.out.trans (hN31.mono HB.out.size)⟩; clear hN31; have hcq0 : b31.cell? ⟨t1.heap.size, 0, none⟩ = some (.int .i64 nr) := blk_cell HKq.out 0; have hcq1 : b31.cell? ⟨t1.heap.size, 1, none⟩ = some (.int .u64 N) := blk_cell HKq.out 1; have hcq2 : b31.cell? ⟨t1.heap.size, 2, none⟩ = some (.slice Aq mq cq) := blk_cell HKq.out 2; have hlq := blk_lt HKq.out; have hc90 : b31.cell? ⟨x9, 0, none⟩ = some (.int .i64 nr) := blk_cell HK9.out 0; have hc91 : b31.cell? ⟨x9, 1, none⟩ = some (.int .u64 N) := blk_cell HK9.out 1; have hc92 : b31.cell? ⟨x9, 2, none⟩ = some (.slice Ab mb cb) := blk_cell HK9.out 2; have hl9 := blk_lt HK9.out))
      refine (same_e (tail_le (by omega)) HVq.out HVb.out).mono ?_
      rintro e t2 ⟨rfl, hBc⟩
      replace HK7 : Aside0 (t2.heap[x7]? = some (.cells #[.int .i64 rm, .int .u64 N, .slice Aa ma ca] 25 (0, 0))) := ⟨(hBc.block _ (blk_lt HK7.out)).trans HK7.out⟩
      replace HK9 : Aside0 (t2.heap[x9]? = some (.cells #[.int .i64 nr, .int .u64 N, .slice Ab mb cb] 25 (0, 0))) := ⟨(hBc.block _ (blk_lt HK9.out)).trans HK9.out⟩
      replace HKq : Aside0 (t2.heap[t1.heap.size]? = some (.cells #[.int .i64 nr, .int .u64 N, .slice Aq mq cq] 25 (0, 0))) := ⟨(hBc.block _ (blk_lt HKq.out)).trans HKq.out⟩
      replace HVa : Aside0 (Kd.V k31 31 t2 0 (fun k => k ≠ x7 ∧ k ≠ x9) (.slice Aa ma ca) (tailN all rm)) := ⟨Kd.V_below HVa.out hBc⟩
      replace HVb : Aside0 (Kd.V k31 31 t2 0 (fun k => k ≠ x7 ∧ k ≠ x9) (.slice Ab mb cb) (tailN all nr)) := ⟨Kd.V_below HVb.out hBc⟩
      replace HVq : Aside0 (Kd.V k31 31 t2 0 (fun k => k ≠ x7 ∧ k ≠ x9) (.slice Aq mq cq) (tailN all nr)) := ⟨Kd.V_below HVq.out hBc⟩
      replace HT : Aside0 (Tab t2) := ⟨HT.out.below hBc⟩
      replace HB : Aside0 (Below w.heap.size w t2) := ⟨HB.out.trans (hBc.mono HB.out.size)⟩
      clear hcq0 hcq1 hcq2 hlq hc90 hc91 hc92 hl9
      clear hBc
      go_wp2_with fail
      go_ret
      exact ⟨rfl, HB.out⟩
end Go.Proofs.YtcpabgijmknldaaDoor.PN
