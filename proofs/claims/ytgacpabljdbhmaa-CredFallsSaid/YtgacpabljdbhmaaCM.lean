import Derived.Test.YtgacpabljdbhmaaCL
import Derived.Deep.RegionHeld3
namespace Go.Proofs.Ytgacpabljdbhmaa.PC
open Go.RowKit Go.Proofs.YtgacpabljdbhmaaW.PrintWords Go.Proofs.YtgacpabljdbhmaaW.PrintLast Go.Proofs.YtgacpabljdbhmaaW.PrintMore
set_option linter.unusedVariables false
set_option linter.unusedSimpArgs false
namespace L
def RetB (x : Bool) (w : World) (e : Ending) (w' : World) : Prop := e = .returned (.bool x) ∧ Below w.heap.size w w'
def belowV (a0 : Int) (a1 a2 : Bool) (a3 : Int) (b0 : Int) (b1 b2 : Bool) (b3 : Int) : Bool :=
  !(b2 && !a2) && !(decide (b3 ≠ 0) && decide (a3 ≠ b3)) && (!b2 || ((decide (a0 = b0) || b1) && (b1 || !a1)))
set_option maxHeartbeats 1000000 in
theorem below_yes (a0 : Int) (a1 a2 : Bool) (a3 : Int) (b0 : Int) (b1 b2 : Bool) (b3 : Int) (w : World) (ha : okB a0 a3 = true) (hb : okB b0 b3 = true) :
    Calls Try.prog 21 #[.agg #[.int .i64 a0, .bool a1, .bool a2, .int .i64 a3], .agg #[.int .i64 b0, .bool b1, .bool b2, .int .i64 b3]] w (RetB (belowV a0 a1 a2 a3 b0 b1 b2 b3) w) := by
  have HA := Aside0.mk ((check_total a0 a1 a2 a3).trans (by rw [ha]; rfl) : cred_Check.f a0 a1 a2 a3 = some 0)
  have HC := Aside0.mk ((check_total b0 b1 b2 b3).trans (by rw [hb]; rfl) : cred_Check.f b0 b1 b2 b3 = some 0)
  clear ha hb
  go_enter Try.func21, Try.ntmps21
  go_wp2_with fail
  refine (cred_Check.calls _ _ _ _ _ _ HA.out).mono ?_
  rintro e w1 ⟨rfl, hb⟩
  obtain ⟨hk_a, hk_b, hB⟩ := boxes2 hb
  clear hb
  have hc_a := blk_cell hk_a.out; have hf_a := blk_frozen hk_a.out; have hl_a := blk_lt hk_a.out
  have hc_b := blk_cell hk_b.out; have hf_b := blk_frozen hk_b.out; have hl_b := blk_lt hk_b.out
  have HB := Aside0.mk hB; clear hB
  go_wp2_with fail
  refine (cred_Check.calls _ _ _ _ _ _ HC.out).mono ?_
  rintro e w2 ⟨rfl, hb⟩
  have hB := hb; clear hb
  replace hk_a := Aside0.mk ((hB.block _ (blk_lt hk_a.out)).trans hk_a.out)
  replace hk_b := Aside0.mk ((hB.block _ (blk_lt hk_b.out)).trans hk_b.out)
  clear hc_a hf_a hl_a hc_b hf_b hl_b
  have hc_a := blk_cell hk_a.out; have hf_a := blk_frozen hk_a.out; have hl_a := blk_lt hk_a.out
  have hc_b := blk_cell hk_b.out; have hf_b := blk_frozen hk_b.out; have hl_b := blk_lt hk_b.out
  replace HB := Aside0.mk (HB.out.trans (hB.mono HB.out.size)); clear hB
  clear HA HC
  cases a1 <;> cases a2 <;> cases b1 <;> cases b2
  all_goals go_wp2_with fail
  all_goals go_ret
  all_goals refine ⟨?_, by repeat (first | exact HB.out | exact Below.refl _ _ | refine below_drewN' ?_ _ | refine below_drew' ?_)⟩
  all_goals clear hk_a hk_b hc_a hc_b hf_a hf_b hl_a hl_b HB
  all_goals congr 2
  all_goals first | (simp_all [belowV]; done) | (simp_all [belowV]; omega)

set_option maxHeartbeats 1000000 in
theorem below_no1 (a0 : Int) (a1 a2 : Bool) (a3 : Int) (b0 : Int) (b1 b2 : Bool) (b3 : Int) (w : World) (ha : okB a0 a3 = false) :
    Calls Try.prog 21 #[.agg #[.int .i64 a0, .bool a1, .bool a2, .int .i64 a3], .agg #[.int .i64 b0, .bool b1, .bool b2, .int .i64 b3]] w (RetB false w) := by
  have HA := Aside0.mk ((check_total a0 a1 a2 a3).trans (by rw [ha]; rfl) : cred_Check.f a0 a1 a2 a3 = some 210)
  clear ha
  go_enter Try.func21, Try.ntmps21
  go_wp2_with fail
  refine (cred_Check.calls _ _ _ _ _ _ HA.out).mono ?_
  rintro e w1 ⟨rfl, hb⟩
  obtain ⟨hk_a, hk_b, hB⟩ := boxes2 hb
  clear hb
  have hc_a := blk_cell hk_a.out; have hf_a := blk_frozen hk_a.out; have hl_a := blk_lt hk_a.out
  have hc_b := blk_cell hk_b.out; have hf_b := blk_frozen hk_b.out; have hl_b := blk_lt hk_b.out
  have HB := Aside0.mk hB; clear hB
  go_wp2_with fail
  go_ret
  exact ⟨rfl, by repeat (first | (with_reducible exact HB.out) | (with_reducible exact Below.refl _ _) | refine Below.alloc ?_ (by first | exact Nat.le_refl _ | (have hz := HB.out.size; simp; omega)) _ | refine Below.setCell ?_ (by have hz := HB.out.size; simp; omega) _ | refine below_drewN' ?_ _ | refine below_drew' ?_)⟩

set_option maxHeartbeats 1000000 in
theorem below_no2 (a0 : Int) (a1 a2 : Bool) (a3 : Int) (b0 : Int) (b1 b2 : Bool) (b3 : Int) (w : World) (ha : okB a0 a3 = true) (hb : okB b0 b3 = false) :
    Calls Try.prog 21 #[.agg #[.int .i64 a0, .bool a1, .bool a2, .int .i64 a3], .agg #[.int .i64 b0, .bool b1, .bool b2, .int .i64 b3]] w (RetB false w) := by
  have HA := Aside0.mk ((check_total a0 a1 a2 a3).trans (by rw [ha]; rfl) : cred_Check.f a0 a1 a2 a3 = some 0)
  have HC := Aside0.mk ((check_total b0 b1 b2 b3).trans (by rw [hb]; rfl) : cred_Check.f b0 b1 b2 b3 = some 210)
  clear ha hb
  go_enter Try.func21, Try.ntmps21
  go_wp2_with fail
  refine (cred_Check.calls _ _ _ _ _ _ HA.out).mono ?_
  rintro e w1 ⟨rfl, hb⟩
  obtain ⟨hk_a, hk_b, hB⟩ := boxes2 hb
  clear hb
  have hc_a := blk_cell hk_a.out; have hf_a := blk_frozen hk_a.out; have hl_a := blk_lt hk_a.out
  have hc_b := blk_cell hk_b.out; have hf_b := blk_frozen hk_b.out; have hl_b := blk_lt hk_b.out
  have HB := Aside0.mk hB; clear hB
  go_wp2_with fail
  refine (cred_Check.calls _ _ _ _ _ _ HC.out).mono ?_
  rintro e w2 ⟨rfl, hb⟩
  have hB := hb
  clear hb
  replace hk_a := Aside0.mk ((hB.block _ (blk_lt hk_a.out)).trans hk_a.out)
  replace hk_b := Aside0.mk ((hB.block _ (blk_lt hk_b.out)).trans hk_b.out)
  clear hc_a hf_a hl_a
  clear hc_b hf_b hl_b
  have hc_a := blk_cell hk_a.out; have hf_a := blk_frozen hk_a.out; have hl_a := blk_lt hk_a.out
  have hc_b := blk_cell hk_b.out; have hf_b := blk_frozen hk_b.out; have hl_b := blk_lt hk_b.out
  replace HB := Aside0.mk (HB.out.trans (hB.mono HB.out.size)); clear hB
  go_wp2_with fail
  go_ret
  exact ⟨rfl, by repeat (first | (with_reducible exact HB.out) | (with_reducible exact Below.refl _ _) | refine Below.alloc ?_ (by first | exact Nat.le_refl _ | (have hz := HB.out.size; simp; omega)) _ | refine Below.setCell ?_ (by have hz := HB.out.size; simp; omega) _ | refine below_drewN' ?_ _ | refine below_drew' ?_)⟩

def BelowV (a0 : Int) (a1 a2 : Bool) (a3 : Int) (b0 : Int) (b1 b2 : Bool) (b3 : Int) : Bool := okB a0 a3 && (okB b0 b3 && belowV a0 a1 a2 a3 b0 b1 b2 b3)
theorem Below_w (a0 : Int) (a1 a2 : Bool) (a3 : Int) (b0 : Int) (b1 b2 : Bool) (b3 : Int) (w : World) :
    Calls Try.prog 21 #[.agg #[.int .i64 a0, .bool a1, .bool a2, .int .i64 a3], .agg #[.int .i64 b0, .bool b1, .bool b2, .int .i64 b3]] w (RetB (BelowV a0 a1 a2 a3 b0 b1 b2 b3) w) := by
  unfold BelowV
  cases ha : okB a0 a3
  · exact below_no1 a0 a1 a2 a3 b0 b1 b2 b3 w ha
  · cases hb : okB b0 b3
    · exact below_no2 a0 a1 a2 a3 b0 b1 b2 b3 w ha hb
    · exact below_yes a0 a1 a2 a3 b0 b1 b2 b3 w ha hb
theorem ref_Below (a0 : Int) (a1 a2 : Bool) (a3 : Int) (b0 : Int) (b1 b2 : Bool) (b3 : Int) : wicketgateref11_Below.f 9 a0 a1 a2 a3 b0 b1 b2 b3 = some (BelowV a0 a1 a2 a3 b0 b1 b2 b3) := by
  unfold wicketgateref11_Below.f BelowV
  rw [right_total, right_total]
  cases okB a0 a3
  · simp [wicketgateref11_Below.j0]
  · cases hb : okB b0 b3
    · simp [wicketgateref11_Below.j0]
    · have hb3 : 0 ≤ b3 := by
        unfold okB at hb
        simp at hb
        exact hb.2.1
      rcases Int.lt_or_eq_of_le hb3 with h3 | h3
      · have h4 : ¬ b3 = 0 := by omega
        have h5 : b3 > 0 := h3
        by_cases h1 : a0 = b0 <;> by_cases h2 : a3 = b3 <;> cases a1 <;> cases a2 <;> cases b1 <;> cases b2 <;> simp [wicketgateref11_Below.j0, wicketgateref11_Below.j1, wicketgateref11_Below.j2, belowV, h1, h2, h4, h5]
      · subst h3
        by_cases h1 : a0 = b0 <;> cases a1 <;> cases a2 <;> cases b1 <;> cases b2 <;> simp [wicketgateref11_Below.j0, wicketgateref11_Below.j1, wicketgateref11_Below.j2, belowV, h1]
theorem refBelow_w (a0 : Int) (a1 a2 : Bool) (a3 : Int) (b0 : Int) (b1 b2 : Bool) (b3 : Int) (w : World) :
    Calls Try.prog 22 #[.agg #[.int .i64 a0, .bool a1, .bool a2, .int .i64 a3], .agg #[.int .i64 b0, .bool b1, .bool b2, .int .i64 b3]] w (RetB (BelowV a0 a1 a2 a3 b0 b1 b2 b3) w) :=
  (wicketgateref11_Below.calls 9 a0 a1 a2 a3 b0 b1 b2 b3 _ w (ref_Below a0 a1 a2 a3 b0 b1 b2 b3)).mono fun _ _ h => h
end L
end Go.Proofs.Ytgacpabljdbhmaa.PC
