import Derived.Test.YtcbiehinhmkjmaaDoorNC
namespace Go.Proofs.YtcbiehinhmkjmaaDoor.NB
open Go.RowKit Go.Proofs.YtcbiehinhmkjmaaDoorW.PrintWords Go.Proofs.YtcbiehinhmkjmaaDoorW.PrintLast Go.Proofs.YtcbiehinhmkjmaaDoorW.PrintMore
open Go.Proofs.YtcbiehinhmkjmaaDoor.PB
set_option linter.unusedVariables false
set_option linter.unusedSimpArgs false

theorem rd_at {l : List S36} {i : Nat} (h : i < l.length) : rd_T36 l (i : Int) = l[i] := by unfold rd_T36; simp [h]
/-- The place of the first notice of which p is true; -1: of none. -/
def idxV (p : S36 → Bool) (l : List S36) : Int := match l.findIdx? p with | some i => (i : Int) | none => -1
theorem idx_hit {p : S36 → Bool} {l : List S36} {k : Nat} (hk : k < l.length) (h0 : p (rd_T36 l (k : Int)) = true) (h : ∀ q : Nat, q < k → p (rd_T36 l (q : Int)) = false) : idxV p l = k := by
  have e : l.findIdx? p = some k := by
    rw [List.findIdx?_eq_some_iff_getElem]
    refine ⟨hk, by rw [← rd_at hk]; exact h0, fun j hj => ?_⟩
    rw [← rd_at (Nat.lt_trans hj hk)]
    simpa using h j hj
  unfold idxV
  rw [e]
theorem idx_miss {p : S36 → Bool} {l : List S36} (h : ∀ q : Nat, q < l.length → p (rd_T36 l (q : Int)) = false) : idxV p l = -1 := by
  have e : l.findIdx? p = none := by
    rw [List.findIdx?_eq_none_iff]
    intro x hx
    obtain ⟨i, hi, rfl⟩ := List.mem_iff_getElem.1 hx
    rw [← rd_at hi]
    simpa using h i hi
  unfold idxV
  rw [e]
theorem idx_cases (p : S36 → Bool) (l : List S36) : (idxV p l = -1 ∧ ∀ q : Nat, q < l.length → p (rd_T36 l (q : Int)) = false) ∨ ∃ k : Nat, k < l.length ∧ idxV p l = k ∧ p (rd_T36 l (k : Int)) = true ∧ ∀ q : Nat, q < k → p (rd_T36 l (q : Int)) = false := by
  unfold idxV
  rcases e : l.findIdx? p with _ | k
  · left
    refine ⟨rfl, fun q hq => ?_⟩
    rw [List.findIdx?_eq_none_iff] at e
    rw [rd_at hq]
    simpa using e _ (List.getElem_mem hq)
  · right
    rw [List.findIdx?_eq_some_iff_getElem] at e
    obtain ⟨hk, h0, h⟩ := e
    refine ⟨k, hk, rfl, by rw [rd_at hk]; exact h0, fun q hq => ?_⟩
    rw [rd_at (Nat.lt_trans hq hk)]
    simpa using h q hq
set_option maxRecDepth 100000 in
set_option maxHeartbeats 4000000 in
theorem cl43_w (t : Int) (g : Nat) (x : S36) (w : World) (hg : w.heap[g]? = some (.cells #[.int .i64 t] 3 (0, 0))) : Calls Tryd.prog 43 #[.agg #[.int .u64 x.f0, .int .i64 x.f1, .int .u32 x.f2.f0, .int .u32 x.f2.f1, .int .u64 x.f2.f2, .int .u64 x.f2.f3.f0, .int .u64 x.f2.f3.f1, .int .u64 x.f2.f3.f2, .int .u64 x.f2.f3.f3, .int .u64 x.f2.f3.f4, .int .u64 x.f2.f3.f5, .bool x.f3], .pointer (some ⟨g, 0, none⟩)] w fun e w' => e = .returned (.bool (x.f1 == t)) ∧ Below w.heap.size w w' := by
  have hk := blk_cell hg 0
  have hlt := blk_lt hg
  clear hg
  go_enter Tryd.func43, Tryd.ntmps43
  go_wp2_with fail
  go_ret
  exact ⟨rfl, (Below.refl _ w).alloc (Nat.le_refl _) _⟩
set_option maxRecDepth 100000 in
set_option maxHeartbeats 4000000 in
theorem idx43_w (t : Int) (g : Nat) (A : Option Addr) (c : Nat) (l : List S36) (hl : l.length ≤ 50000) (w : World) (hr : Kd.C k36 w A l.length l) (hg : w.heap[g]? = some (.cells #[.int .i64 t] 3 (0, 0))) : Calls Tryd.prog 31 #[.slice A l.length c, .func (.func 43) #[] #[.pointer (some ⟨g, 0, none⟩)]] w fun e w' => e = .returned (.int .i64 (idxV (fun x => x.f1 == t) l)) ∧ Below w.heap.size w w' := by
  obtain ⟨m, hm⟩ : ∃ m, m = l.length := ⟨_, rfl⟩
  have HM := Lib.hid hm
  have HC := Lib.hid hr
  rw [← hm] at hl ⊢
  clear hr hm
  have HG := Lib.hid hg
  clear hg
  go_enter Tryd.func31, Tryd.ntmps31
  go_wp2_with fail
  go_loopw [8] (fun i wr => ∃ (k : Nat) (j : Int), i = .int .i64 j ∧ Hid (j = (k : Int)) ∧ 0 ≤ j ∧ j ≤ (m : Int) ∧ Hid (Below w.heap.size w wr) ∧ Hid (wr.heap[g]? = some (.cells #[.int .i64 t] 3 (0, 0))) ∧ Hid (∀ q : Nat, q < k → (fun x => x.f1 == t) (rd_T36 l (q : Int)) = false)) (fun i _ => (m - intOf i).toNat)
  case atStart => exact ⟨0, 0, rfl, Lib.hid rfl, by omega, by omega, Lib.hid (Below.refl _ _), HG, Lib.hid (fun q hq => absurd hq (Nat.not_lt_zero _))⟩
  case round =>
    obtain ⟨k, j, rfl, HJ, hj0, hj1, KB, KG, KO⟩ := hrel
    by_cases hlt : j < (m : Int)
    · obtain ⟨ad, hA, hx0, hx1, hx2, hx3, hx4, hx5, hx6, hx7, hx8, hx9, hx10, hx11⟩ := at_T36 (Kd.C_below HC.out KB.out) j hj0 (by have := HM.out; omega)
      subst hA
      obtain ⟨x, hx⟩ : ∃ x, x = rd_T36 l j := ⟨_, rfl⟩
      rw [← hx] at hx0 hx1 hx2 hx3 hx4 hx5 hx6 hx7 hx8 hx9 hx10 hx11
      have HXK := Lib.hid hx
      clear hx
      go_wp2_with fail
      refine (cl43_w t g x wr KG.out).mono ?_
      rintro e w1 ⟨rfl, hb⟩
      have KB1 := Lib.hid (KB.out.trans (hb.mono KB.out.size))
      have KG1 := Lib.hid ((hb.block _ (blk_lt KG.out)).trans KG.out)
      clear hb hx0 hx1 hx2 hx3 hx4 hx5 hx6 hx7 hx8 hx9 hx10 hx11 KB KG
      by_cases hp : (x.f1 == t) = true
      · have HR := Lib.hid (show idxV (fun x => x.f1 == t) l = j by rw [HJ.out]; exact idx_hit (by have := HJ.out; have := HM.out; omega) (by rw [← HJ.out, ← HXK.out]; exact hp) KO.out)
        rw [hp]
        clear hp
        go_wp2_with fail
        go_ret
        exact ⟨by rw [HR.out]; rfl, KB1.out⟩
      · have hp' := Bool.eq_false_iff.2 hp
        have HP := Lib.hid hp'
        rw [hp']
        clear hp hp'
        go_wp2_with fail
        refine ⟨⟨k + 1, j + 1, rfl, Lib.hid (by have := HJ.out; omega), by omega, by omega, KB1, KG1, Lib.hid (fun q hq => ?_)⟩, by simp [intOf]; omega⟩
        rcases Nat.lt_or_ge q k with h | h
        · exact KO.out q h
        · obtain rfl : q = k := by omega
          rw [← HJ.out, ← HXK.out]
          exact HP.out
    · have HR := Lib.hid (show idxV (fun x => x.f1 == t) l = -1 from idx_miss (fun q hq => KO.out q (by have := HJ.out; have := HM.out; omega)))
      go_wp2_with fail
      go_ret
      exact ⟨by rw [HR.out]; rfl, KB.out⟩
set_option maxRecDepth 100000 in
set_option maxHeartbeats 4000000 in
theorem cl32_w  (x : S36) (w : World)  : Calls Tryd.prog 32 #[.agg #[.int .u64 x.f0, .int .i64 x.f1, .int .u32 x.f2.f0, .int .u32 x.f2.f1, .int .u64 x.f2.f2, .int .u64 x.f2.f3.f0, .int .u64 x.f2.f3.f1, .int .u64 x.f2.f3.f2, .int .u64 x.f2.f3.f3, .int .u64 x.f2.f3.f4, .int .u64 x.f2.f3.f5, .bool x.f3]] w fun e w' => e = .returned (.bool (!x.f3)) ∧ Below w.heap.size w w' := by
  go_enter Tryd.func32, Tryd.ntmps32
  go_wp2_with fail
  go_ret
  exact ⟨rfl, (Below.refl _ w).alloc (Nat.le_refl _) _⟩
set_option maxRecDepth 100000 in
set_option maxHeartbeats 4000000 in
theorem idx32_w  (A : Option Addr) (c : Nat) (l : List S36) (hl : l.length ≤ 50000) (w : World) (hr : Kd.C k36 w A l.length l)  : Calls Tryd.prog 31 #[.slice A l.length c, .func (.func 32) #[] #[]] w fun e w' => e = .returned (.int .i64 (idxV (fun x => !x.f3) l)) ∧ Below w.heap.size w w' := by
  obtain ⟨m, hm⟩ : ∃ m, m = l.length := ⟨_, rfl⟩
  have HM := Lib.hid hm
  have HC := Lib.hid hr
  rw [← hm] at hl ⊢
  clear hr hm
  go_enter Tryd.func31, Tryd.ntmps31
  go_wp2_with fail
  go_loopw [8] (fun i wr => ∃ (k : Nat) (j : Int), i = .int .i64 j ∧ Hid (j = (k : Int)) ∧ 0 ≤ j ∧ j ≤ (m : Int) ∧ Hid (Below w.heap.size w wr) ∧ Hid (∀ q : Nat, q < k → (fun x => !x.f3) (rd_T36 l (q : Int)) = false)) (fun i _ => (m - intOf i).toNat)
  case atStart => exact ⟨0, 0, rfl, Lib.hid rfl, by omega, by omega, Lib.hid (Below.refl _ _), Lib.hid (fun q hq => absurd hq (Nat.not_lt_zero _))⟩
  case round =>
    obtain ⟨k, j, rfl, HJ, hj0, hj1, KB, KO⟩ := hrel
    by_cases hlt : j < (m : Int)
    · obtain ⟨ad, hA, hx0, hx1, hx2, hx3, hx4, hx5, hx6, hx7, hx8, hx9, hx10, hx11⟩ := at_T36 (Kd.C_below HC.out KB.out) j hj0 (by have := HM.out; omega)
      subst hA
      obtain ⟨x, hx⟩ : ∃ x, x = rd_T36 l j := ⟨_, rfl⟩
      rw [← hx] at hx0 hx1 hx2 hx3 hx4 hx5 hx6 hx7 hx8 hx9 hx10 hx11
      have HXK := Lib.hid hx
      clear hx
      go_wp2_with fail
      refine (cl32_w  x wr).mono ?_
      rintro e w1 ⟨rfl, hb⟩
      have KB1 := Lib.hid (KB.out.trans (hb.mono KB.out.size))
      clear hb hx0 hx1 hx2 hx3 hx4 hx5 hx6 hx7 hx8 hx9 hx10 hx11 KB
      by_cases hp : (!x.f3) = true
      · have HR := Lib.hid (show idxV (fun x => !x.f3) l = j by rw [HJ.out]; exact idx_hit (by have := HJ.out; have := HM.out; omega) (by rw [← HJ.out, ← HXK.out]; exact hp) KO.out)
        rw [hp]
        clear hp
        go_wp2_with fail
        go_ret
        exact ⟨by rw [HR.out]; rfl, KB1.out⟩
      · have hp' := Bool.eq_false_iff.2 hp
        have HP := Lib.hid hp'
        rw [hp']
        clear hp hp'
        go_wp2_with fail
        refine ⟨⟨k + 1, j + 1, rfl, Lib.hid (by have := HJ.out; omega), by omega, by omega, KB1, Lib.hid (fun q hq => ?_)⟩, by simp [intOf]; omega⟩
        rcases Nat.lt_or_ge q k with h | h
        · exact KO.out q h
        · obtain rfl : q = k := by omega
          rw [← HJ.out, ← HXK.out]
          exact HP.out
    · have HR := Lib.hid (show idxV (fun x => !x.f3) l = -1 from idx_miss (fun q hq => KO.out q (by have := HJ.out; have := HM.out; omega)))
      go_wp2_with fail
      go_ret
      exact ⟨by rw [HR.out]; rfl, KB.out⟩
set_option maxRecDepth 100000 in
set_option maxHeartbeats 4000000 in
theorem of_w (nx : Int) (A : Option Addr) (c : Nat) (l : List S36) (t : Int) (hl : l.length ≤ 50000) (w : World) (hr : Kd.C k36 w A l.length l) : Calls Tryd.prog 28 #[.agg #[.int .u64 nx, .slice A l.length c], .int .i64 t] w fun e w' => e = .returned (.int .i64 (idxV (fun x => x.f1 == t) l)) ∧ Below w.heap.size w w' := by
  have hB : Below w.heap.size w ((w.alloc (.cells #[.int .u64 nx, .slice A l.length c] 25)).alloc (.cells #[.int .i64 t] 3)) := ((Below.refl _ w).alloc (Nat.le_refl _) _).alloc (by simp) _
  have hC := Kd.C_below hr hB
  have hG := al_new (w.alloc (.cells #[.int .u64 nx, .slice A l.length c] 25)) (.cells #[.int .i64 t] 3)
  rw [World.size_alloc] at hG
  have HB := Lib.hid hB
  have HC := Lib.hid hC
  have HG := Lib.hid hG
  clear hB hC hG hr
  go_enter Tryd.func28, Tryd.ntmps28
  go_wp2_with (first | (go_at_call 31; (with_reducible refine (idx43_w t (w.heap.size + 1) A c l hl _ HC.out HG.out).mono ?_); rintro e1 w2 ⟨rfl, hb2⟩; have HB2 := Lib.hid (HB.out.trans (hb2.mono HB.out.size)); clear hb2))
  go_ret
  exact ⟨rfl, HB2.out⟩
end Go.Proofs.YtcbiehinhmkjmaaDoor.NB
