import Derived.Test.YtcbiehinhmkjmaaDoorNWs
namespace Go.Proofs.YtcbiehinhmkjmaaDoor.NB
open Go.RowKit Go.Proofs.YtcbiehinhmkjmaaDoorW.PrintWords Go.Proofs.YtcbiehinhmkjmaaDoorW.PrintLast Go.Proofs.YtcbiehinhmkjmaaDoorW.PrintMore
open Go.Proofs.YtcbiehinhmkjmaaDoor.PB
set_option linter.unusedVariables false
set_option linter.unusedSimpArgs false
set_option maxRecDepth 100000 in
set_option maxHeartbeats 4000000 in
theorem cl41_w (x : S36) (w : World) : Calls Tryd.prog 41 #[.agg #[.int .u64 x.f0, .int .i64 x.f1, .int .u32 x.f2.f0, .int .u32 x.f2.f1, .int .u64 x.f2.f2, .int .u64 x.f2.f3.f0, .int .u64 x.f2.f3.f1, .int .u64 x.f2.f3.f2, .int .u64 x.f2.f3.f3, .int .u64 x.f2.f3.f4, .int .u64 x.f2.f3.f5, .bool x.f3]] w fun e w' => e = .returned (.int .i64 x.f1) ∧ Below w.heap.size w w' := by
  go_enter Tryd.func41, Tryd.ntmps41
  go_wp2_with fail
  go_ret
  exact ⟨rfl, (Below.refl _ w).alloc (Nat.le_refl _) _⟩
set_option maxRecDepth 100000 in
set_option maxHeartbeats 4000000 in
theorem rising_w (A : Option Addr) (c : Nat) (l : List S36) (hl : l.length ≤ 100) (w : World) (hr : Kd.C k36 w A l.length l) :
    Calls Tryd.prog 40 #[.slice A l.length c, .func (.func 41) #[] #[]] w fun e w' => ∃ (A' : Option Addr) (n' c' : Nat), e = .returned (.slice A' n' c') ∧ n' = l.length ∧ Kd.R (Kd.int .i64) 3 w' w.heap.size (fun _ => True) (.slice A' n' c') (srt (l.map (fun x => x.f1))) ∧ Below w.heap.size w w' := by
  obtain ⟨m, hm⟩ : ∃ m, m = l.length := ⟨_, rfl⟩
  have HM := Lib.hid hm
  have HC := Lib.hid hr
  rw [← hm] at hl HC ⊢
  clear hr hm
  go_enter Tryd.func40, Tryd.ntmps40
  go_wp2_with fail
  go_loopw [5, 10] (fun v i wr => ∃ (k : Nat) (j : Int) (A5 : Option Addr) (n5 c5 : Nat), v = .slice A5 n5 c5 ∧ i = .int .i64 j ∧ Hid (j = (k : Int)) ∧ 0 ≤ j ∧ j ≤ (m : Int) ∧ Hid (n5 = k) ∧ Hid (Below w.heap.size w wr) ∧ Hid (Kd.R (Kd.int .i64) 3 wr w.heap.size (fun _ => True) (.slice A5 n5 c5) ((l.take k).map (fun x => x.f1)))) (fun _ i _ => (m - intOf i).toNat)
  case atStart => exact ⟨0, 0, none, 0, 0, rfl, rfl, Lib.hid rfl, by omega, by omega, Lib.hid rfl, Lib.hid (Below.refl _ _), Lib.hid (Kd.R_nil _ _ _ _ _)⟩
  case round =>
    obtain ⟨k, j, A5, n5, c5, rfl, rfl, HJ, hj0, hj1, HN5, KB, KR⟩ := hrel
    by_cases hlt : j < (m : Int)
    · obtain ⟨ad, hA, hx0, hx1, hx2, hx3, hx4, hx5, hx6, hx7, hx8, hx9, hx10, hx11⟩ := at_T36 (Kd.C_below HC.out KB.out) j hj0 hlt
      subst hA
      obtain ⟨x, hx⟩ : ∃ x, x = rd_T36 l j := ⟨_, rfl⟩
      rw [← hx] at hx0 hx1 hx2 hx3 hx4 hx5 hx6 hx7 hx8 hx9 hx10 hx11
      have HXK := Lib.hid hx
      clear hx
      have hbl := World.block_lt_of_cell? _ _ hx0
      obtain ⟨zs, hzs⟩ : ∃ zs, zs = (l.take k).map (fun x => x.f1) := ⟨_, rfl⟩
      rw [← hzs] at KR
      have HZ := Lib.hid hzs
      have HZL := Lib.hid (show zs.length ≤ 100 by rw [hzs, List.length_map, List.length_take]; have := HM.out; omega)
      clear hzs
      have hwj : wrap64 (j + 1) = j + 1 := by unfold wrap64; omega
      go_wp2_with (first | (go_at_call 41; (with_reducible refine (cl41_w x _).mono ?_); rintro e w6 ⟨rfl, hb6⟩; have HB6 := Lib.hid ((bel_al KB.out (.cells #[.int .u64 x.f0, .int .i64 x.f1, .int .u32 x.f2.f0, .int .u32 x.f2.f1, .int .u64 x.f2.f2, .int .u64 x.f2.f3.f0, .int .u64 x.f2.f3.f1, .int .u64 x.f2.f3.f2, .int .u64 x.f2.f3.f3, .int .u64 x.f2.f3.f4, .int .u64 x.f2.f3.f5, .bool x.f3] 36)).trans (hb6.mono (bel_al KB.out (.cells #[.int .u64 x.f0, .int .i64 x.f1, .int .u32 x.f2.f0, .int .u32 x.f2.f1, .int .u64 x.f2.f2, .int .u64 x.f2.f3.f0, .int .u64 x.f2.f3.f1, .int .u64 x.f2.f3.f2, .int .u64 x.f2.f3.f3, .int .u64 x.f2.f3.f4, .int .u64 x.f2.f3.f5, .bool x.f3] 36)).size)); have HR6 := Lib.hid (Kd.R_below (Kd.R_alloc KR.out (.cells #[.int .u64 x.f0, .int .i64 x.f1, .int .u32 x.f2.f0, .int .u32 x.f2.f1, .int .u64 x.f2.f2, .int .u64 x.f2.f3.f0, .int .u64 x.f2.f3.f1, .int .u64 x.f2.f3.f2, .int .u64 x.f2.f3.f3, .int .u64 x.f2.f3.f4, .int .u64 x.f2.f3.f5, .bool x.f3] 36)) hb6); clear hb6) | ((with_reducible refine gate_builtin (b := .append) (xs := #[.tmp 14, .tmp 18]) rfl ?_); at_builtin; refine Kd.R_append (Kd.int .i64) (w0 := w) w.heap.size rfl (.tmp 14) (.tmp 18) 61 3 (.int .i64 0) 8 rfl Tryd.underlying61 (by kernel_rfl) rfl (by decide) (by omega) (.slice A5 n5 c5) zs x.f1 [.int .i64 x.f1] (fun _ => True) (fun _ => False) rfl (by first | (go_simp; done) | (go_simp; rfl)) ?aP (fun _ hk => hk.elim) ?aF ?aO ?aB ?aS ?aL ?_; (case aP => rfl); (case aF => exact (fun _ _ => trivial)); (case aO => exact HR6.out); (case aB => exact HB6.out); (case aS => exact HB6.out.size); (case aL => have := HZL.out; omega); intro v8 w8 ho hb hg hat; obtain ⟨A8, c8, rfl⟩ := Kd.R_slice ho; obtain ⟨n8, hn8⟩ : ∃ n, n = (zs ++ [x.f1]).length := ⟨_, rfl⟩; rw [← hn8] at ho ⊢; have HN8 := Lib.hid hn8; clear hn8; have HR8 := Lib.hid ho; have HB8 := Lib.hid hb; clear ho hb hg hat))
      refine ⟨⟨k + 1, j + 1, A8, n8, c8, rfl, rfl, Lib.hid (by have := HJ.out; omega), by omega, by omega, Lib.hid ?_, HB8, Lib.hid ?_⟩, by simp [intOf]; omega⟩
      · rw [HN8.out, HZ.out, List.length_append, List.length_map, List.length_take]
        have := HJ.out
        have := HM.out
        simp
        omega
      · have hk : k < l.length := by have := HJ.out; have := HM.out; omega
        rw [List.take_add_one, List.getElem?_eq_getElem hk, List.map_append, ← HZ.out]
        rw [show x.f1 = l[k].f1 by rw [HXK.out, HJ.out, rd_at hk]] at HR8
        exact HR8.out
    · have hk : k = m := by have := HJ.out; omega
      obtain ⟨zs, hzs⟩ : ∃ zs, zs = l.map (fun x => x.f1) := ⟨_, rfl⟩
      have hz : (l.take k).map (fun x => x.f1) = zs := by rw [hzs, hk, HM.out, List.take_length]
      rw [hz] at KR
      have hzl : zs.length ≤ 1000 := by rw [hzs, List.length_map]; have := HM.out; omega
      have HZZ := Lib.hid hzs
      have HHZ := Lib.hid hz
      clear hzs hz
      go_wp2_with (go_at_call 49; (with_reducible refine (sort_w _ A5 n5 c5 zs _ KR.out hzl).mono ?_); rintro e w6 ⟨rfl, hr6, hb6⟩; have HR6 := Lib.hid hr6; have HB6 := Lib.hid (KB.out.trans hb6); clear hr6 hb6)
      go_ret
      exact ⟨A5, n5, c5, rfl, HN5.out.trans hk, HZZ.out ▸ HR6.out, HB6.out⟩
end Go.Proofs.YtcbiehinhmkjmaaDoor.NB
