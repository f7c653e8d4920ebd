import Derived.Test.YtgacpabljdbhmaaCM
namespace Go.Proofs.Ytgacpabljdbhmaa.PC
open Go.RowKit Go.Proofs.YtgacpabljdbhmaaW.PrintWords Go.Proofs.YtgacpabljdbhmaaW.PrintLast Go.Proofs.YtgacpabljdbhmaaW.PrintMore
set_option linter.unusedVariables false
set_option linter.unusedSimpArgs false
namespace L

set_option maxHeartbeats 2000000 in
theorem CredTells_yes (a0 : Int) (a1 a2 : Bool) (a3 : Int) (b0 : Int) (b1 b2 : Bool) (b3 : Int) (w : World) (ha : okB a0 a3 = true) :
    Calls Try.prog 6 #[.agg #[.int .i64 a0, .bool a1, .bool a2, .int .i64 a3], .agg #[.int .i64 b0, .bool b1, .bool b2, .int .i64 b3]] w (fun e w' => e = .returned (.bool true) ∧ Below w.heap.size w w') := by
  have HA := Aside0.mk ((check_total a0 a1 a2 a3).trans (by rw [ha]; rfl) : cred_Check.f a0 a1 a2 a3 = some 0)
  have HR := Aside0.mk ((right_total a0 a1 a2 a3).trans (by rw [ha]) : wicketgateref11_Right.f a0 a1 a2 a3 = some true)
  clear ha
  go_enter Try.func6, Try.ntmps6
  go_wp2_with fail
  refine (wakes_w _).mono ?_
  rintro e w1 ⟨rfl, hb⟩
  obtain ⟨hk_a, hk_b, hB⟩ := boxes2 hb
  clear hb
  have hc_a := blk_cell hk_a.out; have hf_a := blk_frozen hk_a.out; have hl_a := blk_lt hk_a.out
  have hc_b := blk_cell hk_b.out; have hf_b := blk_frozen hk_b.out; have hl_b := blk_lt hk_b.out
  have HB := Aside0.mk hB; clear hB
  go_wp2_with fail
  refine (cred_Check.calls _ _ _ _ _ _ HA.out).mono ?_
  rintro e w2 ⟨rfl, hb⟩
  have hB := hb
  clear hb
  replace hk_a := Aside0.mk ((hB.block _ (blk_lt hk_a.out)).trans hk_a.out)
  replace hk_b := Aside0.mk ((hB.block _ (blk_lt hk_b.out)).trans hk_b.out)
  clear hc_a hf_a hl_a
  clear hc_b hf_b hl_b
  have hc_a := blk_cell hk_a.out; have hf_a := blk_frozen hk_a.out; have hl_a := blk_lt hk_a.out
  have hc_b := blk_cell hk_b.out; have hf_b := blk_frozen hk_b.out; have hl_b := blk_lt hk_b.out
  replace HB := Aside0.mk (HB.out.trans (hB.mono HB.out.size)); clear hB
  go_wp2_with fail
  refine (wicketgateref11_Right.calls _ _ _ _ _ _ HR.out).mono ?_
  rintro e w3 ⟨rfl, hb⟩
  have hB := hb
  clear hb
  replace hk_a := Aside0.mk ((hB.block _ (blk_lt hk_a.out)).trans hk_a.out)
  replace hk_b := Aside0.mk ((hB.block _ (blk_lt hk_b.out)).trans hk_b.out)
  clear hc_a hf_a hl_a
  clear hc_b hf_b hl_b
  have hc_a := blk_cell hk_a.out; have hf_a := blk_frozen hk_a.out; have hl_a := blk_lt hk_a.out
  have hc_b := blk_cell hk_b.out; have hf_b := blk_frozen hk_b.out; have hl_b := blk_lt hk_b.out
  replace HB := Aside0.mk (HB.out.trans (hB.mono HB.out.size)); clear hB
  go_wp2_with fail
  have HBB := HB.out
  have hx_a0 := hc_a 0; simp only [List.getElem?_toArray, List.getElem?_cons_zero, List.getElem?_cons_succ] at hx_a0
  have hx_a1 := hc_a 1; simp only [List.getElem?_toArray, List.getElem?_cons_zero, List.getElem?_cons_succ] at hx_a1
  have hx_a2 := hc_a 2; simp only [List.getElem?_toArray, List.getElem?_cons_zero, List.getElem?_cons_succ] at hx_a2
  have hx_a3 := hc_a 3; simp only [List.getElem?_toArray, List.getElem?_cons_zero, List.getElem?_cons_succ] at hx_a3
  clear hc_a
  have hx_b0 := hc_b 0; simp only [List.getElem?_toArray, List.getElem?_cons_zero, List.getElem?_cons_succ] at hx_b0
  have hx_b1 := hc_b 1; simp only [List.getElem?_toArray, List.getElem?_cons_zero, List.getElem?_cons_succ] at hx_b1
  have hx_b2 := hc_b 2; simp only [List.getElem?_toArray, List.getElem?_cons_zero, List.getElem?_cons_succ] at hx_b2
  have hx_b3 := hc_b 3; simp only [List.getElem?_toArray, List.getElem?_cons_zero, List.getElem?_cons_succ] at hx_b3
  clear hc_b
  go_region_held3 (fun w' => w'.cell? ⟨w.heap.size, 0, none⟩ = some (.int .i64 a0) ∧ w'.cell? ⟨w.heap.size, 1, none⟩ = some (.bool a1) ∧ w'.cell? ⟨w.heap.size, 2, none⟩ = some (.bool a2) ∧ w'.cell? ⟨w.heap.size, 3, none⟩ = some (.int .i64 a3) ∧ w'.cell? ⟨w.heap.size + 1, 0, none⟩ = some (.int .i64 b0) ∧ w'.cell? ⟨w.heap.size + 1, 1, none⟩ = some (.bool b1) ∧ w'.cell? ⟨w.heap.size + 1, 2, none⟩ = some (.bool b2) ∧ w'.cell? ⟨w.heap.size + 1, 3, none⟩ = some (.int .i64 b3) ∧ Below w.heap.size w w')
    ((first | (simp [*]; exact below_drew' HBB) | (go_split_ands; repeat' apply And.intro) <;> (first | exact pw_cell_below hb (by assumption) | exact Below.trans (by assumption) (hb.mono (Below.size (by assumption))))))
    (first | (go_at_call 21; refine (Below_w _ _ _ _ _ _ _ _ _).mono ?_; rintro e w' ⟨rfl, hb⟩) | (go_at_call 22; refine (refBelow_w _ _ _ _ _ _ _ _ _).mono ?_; rintro e w' ⟨rfl, hb⟩) | (go_at_call 23; refine (cred_First.calls _ _ _ _ _ (by rfl)).mono ?_; rintro e w' ⟨rfl, hb⟩))
  go_wp2_with fail
  go_ret
  go_split_ands
  exact ⟨rfl, by assumption⟩

set_option maxHeartbeats 2000000 in
theorem CredTells_no (a0 : Int) (a1 a2 : Bool) (a3 : Int) (b0 : Int) (b1 b2 : Bool) (b3 : Int) (w : World) (ha : okB a0 a3 = false) :
    Calls Try.prog 6 #[.agg #[.int .i64 a0, .bool a1, .bool a2, .int .i64 a3], .agg #[.int .i64 b0, .bool b1, .bool b2, .int .i64 b3]] w (fun e w' => e = .returned (.bool true) ∧ Below w.heap.size w w') := by
  have HA := Aside0.mk ((check_total a0 a1 a2 a3).trans (by rw [ha]; rfl) : cred_Check.f a0 a1 a2 a3 = some 210)
  have HR := Aside0.mk ((right_total a0 a1 a2 a3).trans (by rw [ha]) : wicketgateref11_Right.f a0 a1 a2 a3 = some false)
  clear ha
  go_enter Try.func6, Try.ntmps6
  go_wp2_with fail
  refine (wakes_w _).mono ?_
  rintro e w1 ⟨rfl, hb⟩
  obtain ⟨hk_a, hk_b, hB⟩ := boxes2 hb
  clear hb
  have hc_a := blk_cell hk_a.out; have hf_a := blk_frozen hk_a.out; have hl_a := blk_lt hk_a.out
  have hc_b := blk_cell hk_b.out; have hf_b := blk_frozen hk_b.out; have hl_b := blk_lt hk_b.out
  have HB := Aside0.mk hB; clear hB
  go_wp2_with fail
  refine (cred_Check.calls _ _ _ _ _ _ HA.out).mono ?_
  rintro e w2 ⟨rfl, hb⟩
  have hB := hb
  clear hb
  replace hk_a := Aside0.mk ((hB.block _ (blk_lt hk_a.out)).trans hk_a.out)
  replace hk_b := Aside0.mk ((hB.block _ (blk_lt hk_b.out)).trans hk_b.out)
  clear hc_a hf_a hl_a
  clear hc_b hf_b hl_b
  have hc_a := blk_cell hk_a.out; have hf_a := blk_frozen hk_a.out; have hl_a := blk_lt hk_a.out
  have hc_b := blk_cell hk_b.out; have hf_b := blk_frozen hk_b.out; have hl_b := blk_lt hk_b.out
  replace HB := Aside0.mk (HB.out.trans (hB.mono HB.out.size)); clear hB
  go_wp2_with fail
  refine (wicketgateref11_Right.calls _ _ _ _ _ _ HR.out).mono ?_
  rintro e w3 ⟨rfl, hb⟩
  have hB := hb
  clear hb
  replace hk_a := Aside0.mk ((hB.block _ (blk_lt hk_a.out)).trans hk_a.out)
  replace hk_b := Aside0.mk ((hB.block _ (blk_lt hk_b.out)).trans hk_b.out)
  clear hc_a hf_a hl_a
  clear hc_b hf_b hl_b
  have hc_a := blk_cell hk_a.out; have hf_a := blk_frozen hk_a.out; have hl_a := blk_lt hk_a.out
  have hc_b := blk_cell hk_b.out; have hf_b := blk_frozen hk_b.out; have hl_b := blk_lt hk_b.out
  replace HB := Aside0.mk (HB.out.trans (hB.mono HB.out.size)); clear hB
  go_wp2_with fail
  have HBB := HB.out
  have hx_a0 := hc_a 0; simp only [List.getElem?_toArray, List.getElem?_cons_zero, List.getElem?_cons_succ] at hx_a0
  have hx_a1 := hc_a 1; simp only [List.getElem?_toArray, List.getElem?_cons_zero, List.getElem?_cons_succ] at hx_a1
  have hx_a2 := hc_a 2; simp only [List.getElem?_toArray, List.getElem?_cons_zero, List.getElem?_cons_succ] at hx_a2
  have hx_a3 := hc_a 3; simp only [List.getElem?_toArray, List.getElem?_cons_zero, List.getElem?_cons_succ] at hx_a3
  clear hc_a
  have hx_b0 := hc_b 0; simp only [List.getElem?_toArray, List.getElem?_cons_zero, List.getElem?_cons_succ] at hx_b0
  have hx_b1 := hc_b 1; simp only [List.getElem?_toArray, List.getElem?_cons_zero, List.getElem?_cons_succ] at hx_b1
  have hx_b2 := hc_b 2; simp only [List.getElem?_toArray, List.getElem?_cons_zero, List.getElem?_cons_succ] at hx_b2
  have hx_b3 := hc_b 3; simp only [List.getElem?_toArray, List.getElem?_cons_zero, List.getElem?_cons_succ] at hx_b3
  clear hc_b
  go_region_held3 (fun w' => w'.cell? ⟨w.heap.size, 0, none⟩ = some (.int .i64 a0) ∧ w'.cell? ⟨w.heap.size, 1, none⟩ = some (.bool a1) ∧ w'.cell? ⟨w.heap.size, 2, none⟩ = some (.bool a2) ∧ w'.cell? ⟨w.heap.size, 3, none⟩ = some (.int .i64 a3) ∧ w'.cell? ⟨w.heap.size + 1, 0, none⟩ = some (.int .i64 b0) ∧ w'.cell? ⟨w.heap.size + 1, 1, none⟩ = some (.bool b1) ∧ w'.cell? ⟨w.heap.size + 1, 2, none⟩ = some (.bool b2) ∧ w'.cell? ⟨w.heap.size + 1, 3, none⟩ = some (.int .i64 b3) ∧ Below w.heap.size w w')
    ((first | (simp [*]; exact below_drew' HBB) | (go_split_ands; repeat' apply And.intro) <;> (first | exact pw_cell_below hb (by assumption) | exact Below.trans (by assumption) (hb.mono (Below.size (by assumption))))))
    (first | (go_at_call 21; refine (Below_w _ _ _ _ _ _ _ _ _).mono ?_; rintro e w' ⟨rfl, hb⟩) | (go_at_call 22; refine (refBelow_w _ _ _ _ _ _ _ _ _).mono ?_; rintro e w' ⟨rfl, hb⟩) | (go_at_call 23; refine (cred_First.calls _ _ _ _ _ (by rfl)).mono ?_; rintro e w' ⟨rfl, hb⟩))
  go_wp2_with fail
  go_ret
  go_split_ands
  exact ⟨rfl, by assumption⟩

theorem CredTells_w (a0 : Int) (a1 a2 : Bool) (a3 : Int) (b0 : Int) (b1 b2 : Bool) (b3 : Int) (w : World) :
    Calls Try.prog 6 #[.agg #[.int .i64 a0, .bool a1, .bool a2, .int .i64 a3], .agg #[.int .i64 b0, .bool b1, .bool b2, .int .i64 b3]] w (fun e w' => e = .returned (.bool true) ∧ Below w.heap.size w w') := by
  cases h : okB a0 a3
  · exact CredTells_no a0 a1 a2 a3 b0 b1 b2 b3 w h
  · exact CredTells_yes a0 a1 a2 a3 b0 b1 b2 b3 w h
theorem Exec_e (a0 : Int) (a1 a2 : Bool) (a3 : Int) (o : Int) (s : Bool) (v : Int × Bool × Bool × Int × Int) (h : ExecV a0 a1 a2 a3 o s = v) (w : World) :
    Calls Try.prog 9 #[.agg #[.int .i64 a0, .bool a1, .bool a2, .int .i64 a3], .agg #[.int .i64 o, .bool s]] w (RetCE v w) := h ▸ Exec_w a0 a1 a2 a3 o s w
theorem Drop_e (a0 : Int) (a1 a2 : Bool) (a3 : Int) (o : Int) (v : Int × Bool × Bool × Int × Int) (h : DropV a0 a1 a2 a3 o = v) (w : World) :
    Calls Try.prog 13 #[.agg #[.int .i64 a0, .bool a1, .bool a2, .int .i64 a3], .int .i64 o] w (RetCE v w) := h ▸ Drop_w a0 a1 a2 a3 o w
theorem NoNew_e (a0 : Int) (a1 a2 : Bool) (a3 : Int) (v : Int × Bool × Bool × Int × Int) (h : NoNewV a0 a1 a2 a3 = v) (w : World) :
    Calls Try.prog 11 #[.agg #[.int .i64 a0, .bool a1, .bool a2, .int .i64 a3]] w (RetCE v w) := h ▸ NoNew_w a0 a1 a2 a3 w

set_option maxHeartbeats 2000000 in
theorem CredKeeps_no (a0 : Int) (a1 a2 : Bool) (a3 : Int) (ow : Int) (w : World) (ha : okB a0 a3 = false) : Calls Try.prog 4 #[.agg #[.int .i64 a0, .bool a1, .bool a2, .int .i64 a3], .int .i64 ow] w (fun e w' => e = .returned (.bool true) ∧ Below w.heap.size w w') := by
  have HA := Aside0.mk ((check_total a0 a1 a2 a3).trans (by rw [ha]; rfl) : cred_Check.f a0 a1 a2 a3 = some 210)
  clear ha
  go_enter Try.func4, Try.ntmps4
  go_wp2_with fail
  refine (wakes_w _).mono ?_
  rintro e w1 ⟨rfl, hb⟩
  obtain ⟨hk_c, hB⟩ := boxes1 hb
  clear hb
  have hc_c := blk_cell hk_c.out; have hf_c := blk_frozen hk_c.out; have hl_c := blk_lt hk_c.out
  have HB := Aside0.mk hB; clear hB
  go_wp2_with fail
  refine (cred_Check.calls _ _ _ _ _ _ HA.out).mono ?_
  rintro e w2 ⟨rfl, hb⟩
  have hB := hb
  clear hb
  replace hk_c := Aside0.mk ((hB.block _ (blk_lt hk_c.out)).trans hk_c.out)
  clear hc_c hf_c hl_c
  have hc_c := blk_cell hk_c.out; have hf_c := blk_frozen hk_c.out; have hl_c := blk_lt hk_c.out
  replace HB := Aside0.mk (HB.out.trans (hB.mono HB.out.size)); clear hB
  go_wp2_with fail
  go_ret
  exact ⟨rfl, by repeat (first | (with_reducible exact HB.out) | (with_reducible exact Below.refl _ _) | refine Below.alloc ?_ (by first | exact Nat.le_refl _ | (have hz := HB.out.size; simp; omega)) _ | refine Below.setCell ?_ (by have hz := HB.out.size; simp; omega) _ | refine below_drewN' ?_ _ | refine below_drew' ?_)⟩

theorem user_of_ok {a0 a3 : Int} (h : okB a0 a3 = true) : userB a0 = true := by
  unfold okB at h; simp at h; exact h.1
set_option maxHeartbeats 2000000 in
theorem CredKeeps_truetrue_bad (a0 : Int) (a2 : Bool) (a3 : Int) (ow : Int) (w : World) (hz : (a0 == 0) = true) (ha : okB a0 a3 = true) (hu : userB ow = false) (hlo : ow < 0) : Calls Try.prog 4 #[.agg #[.int .i64 a0, .bool true, .bool a2, .int .i64 a3], .int .i64 ow] w (fun e w' => e = .returned (.bool true) ∧ Below w.heap.size w w') := by
  have HA := Aside0.mk ((check_total a0 true a2 a3).trans (by rw [ha]; rfl) : cred_Check.f a0 true a2 a3 = some 0)
  have HD := Aside0.mk (show DropV a0 true a2 a3 a0 = (a0, true, a2, a3, 0) by unfold DropV; simp [ha, user_of_ok ha, hz])
  have HX := Aside0.mk (show ExecV a0 true a2 a3 ow false = (0, false, false, 0, 2) by unfold ExecV; simp [ha, hu])
  clear ha hu hz
  go_enter Try.func4, Try.ntmps4
  go_wp2_with fail
  refine (wakes_w _).mono ?_
  rintro e w1 ⟨rfl, hb⟩
  obtain ⟨hk_c, hB⟩ := boxes1 hb
  clear hb
  have hc_c := blk_cell hk_c.out; have hf_c := blk_frozen hk_c.out; have hl_c := blk_lt hk_c.out
  have HB := Aside0.mk hB; clear hB
  go_wp2_with fail
  refine (cred_Check.calls _ _ _ _ _ _ HA.out).mono ?_
  rintro e w2 ⟨rfl, hb⟩
  have hB := hb
  clear hb
  replace hk_c := Aside0.mk ((hB.block _ (blk_lt hk_c.out)).trans hk_c.out)
  clear hc_c hf_c hl_c
  have hc_c := blk_cell hk_c.out; have hf_c := blk_frozen hk_c.out; have hl_c := blk_lt hk_c.out
  replace HB := Aside0.mk (HB.out.trans (hB.mono HB.out.size)); clear hB
  go_wp2_with fail
  refine (Drop_e _ _ _ _ _ _ HD.out _).mono ?_
  rintro e w3 ⟨rfl, hb⟩
  have hB := hb
  clear hb
  replace hk_c := Aside0.mk ((hB.block _ (blk_lt hk_c.out)).trans hk_c.out)
  clear hc_c hf_c hl_c
  have hc_c := blk_cell hk_c.out; have hf_c := blk_frozen hk_c.out; have hl_c := blk_lt hk_c.out
  replace HB := Aside0.mk (HB.out.trans (hB.mono HB.out.size)); clear hB
  go_wp2_with fail
  refine (Exec_e _ _ _ _ _ _ _ HX.out _).mono ?_
  rintro e w4 ⟨rfl, hb⟩
  obtain ⟨hk_x, hB⟩ := boxes1 hb
  clear hb
  replace hk_c := Aside0.mk ((hB.block _ (blk_lt hk_c.out)).trans hk_c.out)
  clear hc_c hf_c hl_c
  have hc_c := blk_cell hk_c.out; have hf_c := blk_frozen hk_c.out; have hl_c := blk_lt hk_c.out
  have hc_x := blk_cell hk_x.out; have hf_x := blk_frozen hk_x.out; have hl_x := blk_lt hk_x.out
  replace HB := Aside0.mk (HB.out.trans (hB.mono HB.out.size)); clear hB
  go_wp2_with fail
  go_ret
  exact ⟨rfl, by repeat (first | (with_reducible exact HB.out) | (with_reducible exact Below.refl _ _) | refine Below.alloc ?_ (by first | exact Nat.le_refl _ | (have hz := HB.out.size; simp; omega)) _ | refine Below.setCell ?_ (by have hz := HB.out.size; simp; omega) _ | refine below_drewN' ?_ _ | refine below_drew' ?_)⟩

set_option maxHeartbeats 2000000 in
theorem CredKeeps_truetrue_bad2 (a0 : Int) (a2 : Bool) (a3 : Int) (ow : Int) (w : World) (hz : (a0 == 0) = true) (ha : okB a0 a3 = true) (hu : userB ow = false) (hlo : 0 ≤ ow) (hhi : 9 < ow) : Calls Try.prog 4 #[.agg #[.int .i64 a0, .bool true, .bool a2, .int .i64 a3], .int .i64 ow] w (fun e w' => e = .returned (.bool true) ∧ Below w.heap.size w w') := by
  have HA := Aside0.mk ((check_total a0 true a2 a3).trans (by rw [ha]; rfl) : cred_Check.f a0 true a2 a3 = some 0)
  have HD := Aside0.mk (show DropV a0 true a2 a3 a0 = (a0, true, a2, a3, 0) by unfold DropV; simp [ha, user_of_ok ha, hz])
  have HX := Aside0.mk (show ExecV a0 true a2 a3 ow false = (0, false, false, 0, 2) by unfold ExecV; simp [ha, hu])
  clear ha hu hz
  go_enter Try.func4, Try.ntmps4
  go_wp2_with fail
  refine (wakes_w _).mono ?_
  rintro e w1 ⟨rfl, hb⟩
  obtain ⟨hk_c, hB⟩ := boxes1 hb
  clear hb
  have hc_c := blk_cell hk_c.out; have hf_c := blk_frozen hk_c.out; have hl_c := blk_lt hk_c.out
  have HB := Aside0.mk hB; clear hB
  go_wp2_with fail
  refine (cred_Check.calls _ _ _ _ _ _ HA.out).mono ?_
  rintro e w2 ⟨rfl, hb⟩
  have hB := hb
  clear hb
  replace hk_c := Aside0.mk ((hB.block _ (blk_lt hk_c.out)).trans hk_c.out)
  clear hc_c hf_c hl_c
  have hc_c := blk_cell hk_c.out; have hf_c := blk_frozen hk_c.out; have hl_c := blk_lt hk_c.out
  replace HB := Aside0.mk (HB.out.trans (hB.mono HB.out.size)); clear hB
  go_wp2_with fail
  refine (Drop_e _ _ _ _ _ _ HD.out _).mono ?_
  rintro e w3 ⟨rfl, hb⟩
  have hB := hb
  clear hb
  replace hk_c := Aside0.mk ((hB.block _ (blk_lt hk_c.out)).trans hk_c.out)
  clear hc_c hf_c hl_c
  have hc_c := blk_cell hk_c.out; have hf_c := blk_frozen hk_c.out; have hl_c := blk_lt hk_c.out
  replace HB := Aside0.mk (HB.out.trans (hB.mono HB.out.size)); clear hB
  go_wp2_with fail
  refine (Exec_e _ _ _ _ _ _ _ HX.out _).mono ?_
  rintro e w4 ⟨rfl, hb⟩
  obtain ⟨hk_x, hB⟩ := boxes1 hb
  clear hb
  replace hk_c := Aside0.mk ((hB.block _ (blk_lt hk_c.out)).trans hk_c.out)
  clear hc_c hf_c hl_c
  have hc_c := blk_cell hk_c.out; have hf_c := blk_frozen hk_c.out; have hl_c := blk_lt hk_c.out
  have hc_x := blk_cell hk_x.out; have hf_x := blk_frozen hk_x.out; have hl_x := blk_lt hk_x.out
  replace HB := Aside0.mk (HB.out.trans (hB.mono HB.out.size)); clear hB
  go_wp2_with fail
  go_ret
  exact ⟨rfl, by repeat (first | (with_reducible exact HB.out) | (with_reducible exact Below.refl _ _) | refine Below.alloc ?_ (by first | exact Nat.le_refl _ | (have hz := HB.out.size; simp; omega)) _ | refine Below.setCell ?_ (by have hz := HB.out.size; simp; omega) _ | refine below_drewN' ?_ _ | refine below_drew' ?_)⟩

set_option maxHeartbeats 2000000 in
theorem CredKeeps_truetrue_ok (a0 : Int) (a2 : Bool) (a3 : Int) (ow : Int) (w : World) (hz : (a0 == 0) = true) (ha : okB a0 a3 = true) (hu : userB ow = true) (hlo : 0 ≤ ow) (hhi : ow ≤ 9) : Calls Try.prog 4 #[.agg #[.int .i64 a0, .bool true, .bool a2, .int .i64 a3], .int .i64 ow] w (fun e w' => e = .returned (.bool true) ∧ Below w.heap.size w w') := by
  have HA := Aside0.mk ((check_total a0 true a2 a3).trans (by rw [ha]; rfl) : cred_Check.f a0 true a2 a3 = some 0)
  have HD := Aside0.mk (show DropV a0 true a2 a3 a0 = (a0, true, a2, a3, 0) by unfold DropV; simp [ha, user_of_ok ha, hz])
  have HX := Aside0.mk (show ExecV a0 true a2 a3 ow false = (a0, true, a2, a3, 0) by unfold ExecV; simp [ha, hu])
  have HN := Aside0.mk (show NoNewV a0 true a2 a3 = (a0, true, true, a3, 0) by unfold NoNewV; simp [ha])
  have HM := Aside0.mk (show NoNewV a0 true true a3 = (a0, true, true, a3, 0) by unfold NoNewV; simp [ha])
  have HY := Aside0.mk (show ExecV a0 true true a3 ow true = (a0, true, true, a3, 0) by unfold ExecV; simp [ha, hu])
  clear ha hu hz
  go_enter Try.func4, Try.ntmps4
  go_wp2_with fail
  refine (wakes_w _).mono ?_
  rintro e w1 ⟨rfl, hb⟩
  obtain ⟨hk_c, hB⟩ := boxes1 hb
  clear hb
  have hc_c := blk_cell hk_c.out; have hf_c := blk_frozen hk_c.out; have hl_c := blk_lt hk_c.out
  have HB := Aside0.mk hB; clear hB
  go_wp2_with fail
  refine (cred_Check.calls _ _ _ _ _ _ HA.out).mono ?_
  rintro e w2 ⟨rfl, hb⟩
  have hB := hb
  clear hb
  replace hk_c := Aside0.mk ((hB.block _ (blk_lt hk_c.out)).trans hk_c.out)
  clear hc_c hf_c hl_c
  have hc_c := blk_cell hk_c.out; have hf_c := blk_frozen hk_c.out; have hl_c := blk_lt hk_c.out
  replace HB := Aside0.mk (HB.out.trans (hB.mono HB.out.size)); clear hB
  go_wp2_with fail
  refine (Drop_e _ _ _ _ _ _ HD.out _).mono ?_
  rintro e w3 ⟨rfl, hb⟩
  have hB := hb
  clear hb
  replace hk_c := Aside0.mk ((hB.block _ (blk_lt hk_c.out)).trans hk_c.out)
  clear hc_c hf_c hl_c
  have hc_c := blk_cell hk_c.out; have hf_c := blk_frozen hk_c.out; have hl_c := blk_lt hk_c.out
  replace HB := Aside0.mk (HB.out.trans (hB.mono HB.out.size)); clear hB
  go_wp2_with fail
  refine (Exec_e _ _ _ _ _ _ _ HX.out _).mono ?_
  rintro e w4 ⟨rfl, hb⟩
  obtain ⟨hk_x, hB⟩ := boxes1 hb
  clear hb
  replace hk_c := Aside0.mk ((hB.block _ (blk_lt hk_c.out)).trans hk_c.out)
  clear hc_c hf_c hl_c
  have hc_c := blk_cell hk_c.out; have hf_c := blk_frozen hk_c.out; have hl_c := blk_lt hk_c.out
  have hc_x := blk_cell hk_x.out; have hf_x := blk_frozen hk_x.out; have hl_x := blk_lt hk_x.out
  replace HB := Aside0.mk (HB.out.trans (hB.mono HB.out.size)); clear hB
  go_wp2_with fail
  refine (NoNew_e _ _ _ _ _ HN.out _).mono ?_
  rintro e w5 ⟨rfl, hb⟩
  obtain ⟨hk_y, hB⟩ := boxes1 hb
  clear hb
  replace hk_c := Aside0.mk ((hB.block _ (blk_lt hk_c.out)).trans hk_c.out)
  replace hk_x := Aside0.mk ((hB.block _ (blk_lt hk_x.out)).trans hk_x.out)
  clear hc_c hf_c hl_c
  clear hc_x hf_x hl_x
  have hc_c := blk_cell hk_c.out; have hf_c := blk_frozen hk_c.out; have hl_c := blk_lt hk_c.out
  have hc_x := blk_cell hk_x.out; have hf_x := blk_frozen hk_x.out; have hl_x := blk_lt hk_x.out
  have hc_y := blk_cell hk_y.out; have hf_y := blk_frozen hk_y.out; have hl_y := blk_lt hk_y.out
  replace HB := Aside0.mk (HB.out.trans (hB.mono HB.out.size)); clear hB
  go_wp2_with fail
  refine (NoNew_e _ _ _ _ _ HM.out _).mono ?_
  rintro e w6 ⟨rfl, hb⟩
  obtain ⟨hk_z, hB⟩ := boxes1 hb
  clear hb
  replace hk_c := Aside0.mk ((hB.block _ (blk_lt hk_c.out)).trans hk_c.out)
  replace hk_x := Aside0.mk ((hB.block _ (blk_lt hk_x.out)).trans hk_x.out)
  replace hk_y := Aside0.mk ((hB.block _ (blk_lt hk_y.out)).trans hk_y.out)
  clear hc_c hf_c hl_c
  clear hc_x hf_x hl_x
  clear hc_y hf_y hl_y
  have hc_c := blk_cell hk_c.out; have hf_c := blk_frozen hk_c.out; have hl_c := blk_lt hk_c.out
  have hc_x := blk_cell hk_x.out; have hf_x := blk_frozen hk_x.out; have hl_x := blk_lt hk_x.out
  have hc_y := blk_cell hk_y.out; have hf_y := blk_frozen hk_y.out; have hl_y := blk_lt hk_y.out
  have hc_z := blk_cell hk_z.out; have hf_z := blk_frozen hk_z.out; have hl_z := blk_lt hk_z.out
  replace HB := Aside0.mk (HB.out.trans (hB.mono HB.out.size)); clear hB
  go_wp2_with fail
  refine (Exec_e _ _ _ _ _ _ _ HY.out _).mono ?_
  rintro e w7 ⟨rfl, hb⟩
  obtain ⟨hk_ww, hB⟩ := boxes1 hb
  clear hb
  replace hk_c := Aside0.mk ((hB.block _ (blk_lt hk_c.out)).trans hk_c.out)
  replace hk_x := Aside0.mk ((hB.block _ (blk_lt hk_x.out)).trans hk_x.out)
  replace hk_y := Aside0.mk ((hB.block _ (blk_lt hk_y.out)).trans hk_y.out)
  replace hk_z := Aside0.mk ((hB.block _ (blk_lt hk_z.out)).trans hk_z.out)
  clear hc_c hf_c hl_c
  clear hc_x hf_x hl_x
  clear hc_y hf_y hl_y
  clear hc_z hf_z hl_z
  have hc_c := blk_cell hk_c.out; have hf_c := blk_frozen hk_c.out; have hl_c := blk_lt hk_c.out
  have hc_x := blk_cell hk_x.out; have hf_x := blk_frozen hk_x.out; have hl_x := blk_lt hk_x.out
  have hc_y := blk_cell hk_y.out; have hf_y := blk_frozen hk_y.out; have hl_y := blk_lt hk_y.out
  have hc_z := blk_cell hk_z.out; have hf_z := blk_frozen hk_z.out; have hl_z := blk_lt hk_z.out
  have hc_ww := blk_cell hk_ww.out; have hf_ww := blk_frozen hk_ww.out; have hl_ww := blk_lt hk_ww.out
  replace HB := Aside0.mk (HB.out.trans (hB.mono HB.out.size)); clear hB
  go_wp2_with fail
  go_ret
  exact ⟨rfl, by repeat (first | (with_reducible exact HB.out) | (with_reducible exact Below.refl _ _) | refine Below.alloc ?_ (by first | exact Nat.le_refl _ | (have hz := HB.out.size; simp; omega)) _ | refine Below.setCell ?_ (by have hz := HB.out.size; simp; omega) _ | refine below_drewN' ?_ _ | refine below_drew' ?_)⟩

set_option maxHeartbeats 2000000 in
theorem CredKeeps_truefalse_bad (a0 : Int) (a2 : Bool) (a3 : Int) (ow : Int) (w : World) (hz : (a0 == 0) = false) (ha : okB a0 a3 = true) (hu : userB ow = false) (hlo : ow < 0) : Calls Try.prog 4 #[.agg #[.int .i64 a0, .bool true, .bool a2, .int .i64 a3], .int .i64 ow] w (fun e w' => e = .returned (.bool true) ∧ Below w.heap.size w w') := by
  have HA := Aside0.mk ((check_total a0 true a2 a3).trans (by rw [ha]; rfl) : cred_Check.f a0 true a2 a3 = some 0)
  have HD := Aside0.mk (show DropV a0 true a2 a3 a0 = (a0, false, a2, a3, 0) by unfold DropV; simp [ha, user_of_ok ha, hz])
  have HX := Aside0.mk (show ExecV a0 true a2 a3 ow false = (0, false, false, 0, 2) by unfold ExecV; simp [ha, hu])
  clear ha hu hz
  go_enter Try.func4, Try.ntmps4
  go_wp2_with fail
  refine (wakes_w _).mono ?_
  rintro e w1 ⟨rfl, hb⟩
  obtain ⟨hk_c, hB⟩ := boxes1 hb
  clear hb
  have hc_c := blk_cell hk_c.out; have hf_c := blk_frozen hk_c.out; have hl_c := blk_lt hk_c.out
  have HB := Aside0.mk hB; clear hB
  go_wp2_with fail
  refine (cred_Check.calls _ _ _ _ _ _ HA.out).mono ?_
  rintro e w2 ⟨rfl, hb⟩
  have hB := hb
  clear hb
  replace hk_c := Aside0.mk ((hB.block _ (blk_lt hk_c.out)).trans hk_c.out)
  clear hc_c hf_c hl_c
  have hc_c := blk_cell hk_c.out; have hf_c := blk_frozen hk_c.out; have hl_c := blk_lt hk_c.out
  replace HB := Aside0.mk (HB.out.trans (hB.mono HB.out.size)); clear hB
  go_wp2_with fail
  refine (Drop_e _ _ _ _ _ _ HD.out _).mono ?_
  rintro e w3 ⟨rfl, hb⟩
  have hB := hb
  clear hb
  replace hk_c := Aside0.mk ((hB.block _ (blk_lt hk_c.out)).trans hk_c.out)
  clear hc_c hf_c hl_c
  have hc_c := blk_cell hk_c.out; have hf_c := blk_frozen hk_c.out; have hl_c := blk_lt hk_c.out
  replace HB := Aside0.mk (HB.out.trans (hB.mono HB.out.size)); clear hB
  go_wp2_with fail
  refine (Exec_e _ _ _ _ _ _ _ HX.out _).mono ?_
  rintro e w4 ⟨rfl, hb⟩
  obtain ⟨hk_x, hB⟩ := boxes1 hb
  clear hb
  replace hk_c := Aside0.mk ((hB.block _ (blk_lt hk_c.out)).trans hk_c.out)
  clear hc_c hf_c hl_c
  have hc_c := blk_cell hk_c.out; have hf_c := blk_frozen hk_c.out; have hl_c := blk_lt hk_c.out
  have hc_x := blk_cell hk_x.out; have hf_x := blk_frozen hk_x.out; have hl_x := blk_lt hk_x.out
  replace HB := Aside0.mk (HB.out.trans (hB.mono HB.out.size)); clear hB
  go_wp2_with fail
  go_ret
  exact ⟨rfl, by repeat (first | (with_reducible exact HB.out) | (with_reducible exact Below.refl _ _) | refine Below.alloc ?_ (by first | exact Nat.le_refl _ | (have hz := HB.out.size; simp; omega)) _ | refine Below.setCell ?_ (by have hz := HB.out.size; simp; omega) _ | refine below_drewN' ?_ _ | refine below_drew' ?_)⟩

set_option maxHeartbeats 2000000 in
theorem CredKeeps_truefalse_bad2 (a0 : Int) (a2 : Bool) (a3 : Int) (ow : Int) (w : World) (hz : (a0 == 0) = false) (ha : okB a0 a3 = true) (hu : userB ow = false) (hlo : 0 ≤ ow) (hhi : 9 < ow) : Calls Try.prog 4 #[.agg #[.int .i64 a0, .bool true, .bool a2, .int .i64 a3], .int .i64 ow] w (fun e w' => e = .returned (.bool true) ∧ Below w.heap.size w w') := by
  have HA := Aside0.mk ((check_total a0 true a2 a3).trans (by rw [ha]; rfl) : cred_Check.f a0 true a2 a3 = some 0)
  have HD := Aside0.mk (show DropV a0 true a2 a3 a0 = (a0, false, a2, a3, 0) by unfold DropV; simp [ha, user_of_ok ha, hz])
  have HX := Aside0.mk (show ExecV a0 true a2 a3 ow false = (0, false, false, 0, 2) by unfold ExecV; simp [ha, hu])
  clear ha hu hz
  go_enter Try.func4, Try.ntmps4
  go_wp2_with fail
  refine (wakes_w _).mono ?_
  rintro e w1 ⟨rfl, hb⟩
  obtain ⟨hk_c, hB⟩ := boxes1 hb
  clear hb
  have hc_c := blk_cell hk_c.out; have hf_c := blk_frozen hk_c.out; have hl_c := blk_lt hk_c.out
  have HB := Aside0.mk hB; clear hB
  go_wp2_with fail
  refine (cred_Check.calls _ _ _ _ _ _ HA.out).mono ?_
  rintro e w2 ⟨rfl, hb⟩
  have hB := hb
  clear hb
  replace hk_c := Aside0.mk ((hB.block _ (blk_lt hk_c.out)).trans hk_c.out)
  clear hc_c hf_c hl_c
  have hc_c := blk_cell hk_c.out; have hf_c := blk_frozen hk_c.out; have hl_c := blk_lt hk_c.out
  replace HB := Aside0.mk (HB.out.trans (hB.mono HB.out.size)); clear hB
  go_wp2_with fail
  refine (Drop_e _ _ _ _ _ _ HD.out _).mono ?_
  rintro e w3 ⟨rfl, hb⟩
  have hB := hb
  clear hb
  replace hk_c := Aside0.mk ((hB.block _ (blk_lt hk_c.out)).trans hk_c.out)
  clear hc_c hf_c hl_c
  have hc_c := blk_cell hk_c.out; have hf_c := blk_frozen hk_c.out; have hl_c := blk_lt hk_c.out
  replace HB := Aside0.mk (HB.out.trans (hB.mono HB.out.size)); clear hB
  go_wp2_with fail
  refine (Exec_e _ _ _ _ _ _ _ HX.out _).mono ?_
  rintro e w4 ⟨rfl, hb⟩
  obtain ⟨hk_x, hB⟩ := boxes1 hb
  clear hb
  replace hk_c := Aside0.mk ((hB.block _ (blk_lt hk_c.out)).trans hk_c.out)
  clear hc_c hf_c hl_c
  have hc_c := blk_cell hk_c.out; have hf_c := blk_frozen hk_c.out; have hl_c := blk_lt hk_c.out
  have hc_x := blk_cell hk_x.out; have hf_x := blk_frozen hk_x.out; have hl_x := blk_lt hk_x.out
  replace HB := Aside0.mk (HB.out.trans (hB.mono HB.out.size)); clear hB
  go_wp2_with fail
  go_ret
  exact ⟨rfl, by repeat (first | (with_reducible exact HB.out) | (with_reducible exact Below.refl _ _) | refine Below.alloc ?_ (by first | exact Nat.le_refl _ | (have hz := HB.out.size; simp; omega)) _ | refine Below.setCell ?_ (by have hz := HB.out.size; simp; omega) _ | refine below_drewN' ?_ _ | refine below_drew' ?_)⟩

set_option maxHeartbeats 2000000 in
theorem CredKeeps_truefalse_ok (a0 : Int) (a2 : Bool) (a3 : Int) (ow : Int) (w : World) (hz : (a0 == 0) = false) (ha : okB a0 a3 = true) (hu : userB ow = true) (hlo : 0 ≤ ow) (hhi : ow ≤ 9) : Calls Try.prog 4 #[.agg #[.int .i64 a0, .bool true, .bool a2, .int .i64 a3], .int .i64 ow] w (fun e w' => e = .returned (.bool true) ∧ Below w.heap.size w w') := by
  have HA := Aside0.mk ((check_total a0 true a2 a3).trans (by rw [ha]; rfl) : cred_Check.f a0 true a2 a3 = some 0)
  have HD := Aside0.mk (show DropV a0 true a2 a3 a0 = (a0, false, a2, a3, 0) by unfold DropV; simp [ha, user_of_ok ha, hz])
  have HX := Aside0.mk (show ExecV a0 true a2 a3 ow false = (a0, true, a2, a3, 0) by unfold ExecV; simp [ha, hu])
  have HN := Aside0.mk (show NoNewV a0 true a2 a3 = (a0, true, true, a3, 0) by unfold NoNewV; simp [ha])
  have HM := Aside0.mk (show NoNewV a0 true true a3 = (a0, true, true, a3, 0) by unfold NoNewV; simp [ha])
  have HY := Aside0.mk (show ExecV a0 true true a3 ow true = (a0, true, true, a3, 0) by unfold ExecV; simp [ha, hu])
  clear ha hu hz
  go_enter Try.func4, Try.ntmps4
  go_wp2_with fail
  refine (wakes_w _).mono ?_
  rintro e w1 ⟨rfl, hb⟩
  obtain ⟨hk_c, hB⟩ := boxes1 hb
  clear hb
  have hc_c := blk_cell hk_c.out; have hf_c := blk_frozen hk_c.out; have hl_c := blk_lt hk_c.out
  have HB := Aside0.mk hB; clear hB
  go_wp2_with fail
  refine (cred_Check.calls _ _ _ _ _ _ HA.out).mono ?_
  rintro e w2 ⟨rfl, hb⟩
  have hB := hb
  clear hb
  replace hk_c := Aside0.mk ((hB.block _ (blk_lt hk_c.out)).trans hk_c.out)
  clear hc_c hf_c hl_c
  have hc_c := blk_cell hk_c.out; have hf_c := blk_frozen hk_c.out; have hl_c := blk_lt hk_c.out
  replace HB := Aside0.mk (HB.out.trans (hB.mono HB.out.size)); clear hB
  go_wp2_with fail
  refine (Drop_e _ _ _ _ _ _ HD.out _).mono ?_
  rintro e w3 ⟨rfl, hb⟩
  have hB := hb
  clear hb
  replace hk_c := Aside0.mk ((hB.block _ (blk_lt hk_c.out)).trans hk_c.out)
  clear hc_c hf_c hl_c
  have hc_c := blk_cell hk_c.out; have hf_c := blk_frozen hk_c.out; have hl_c := blk_lt hk_c.out
  replace HB := Aside0.mk (HB.out.trans (hB.mono HB.out.size)); clear hB
  go_wp2_with fail
  refine (Exec_e _ _ _ _ _ _ _ HX.out _).mono ?_
  rintro e w4 ⟨rfl, hb⟩
  obtain ⟨hk_x, hB⟩ := boxes1 hb
  clear hb
  replace hk_c := Aside0.mk ((hB.block _ (blk_lt hk_c.out)).trans hk_c.out)
  clear hc_c hf_c hl_c
  have hc_c := blk_cell hk_c.out; have hf_c := blk_frozen hk_c.out; have hl_c := blk_lt hk_c.out
  have hc_x := blk_cell hk_x.out; have hf_x := blk_frozen hk_x.out; have hl_x := blk_lt hk_x.out
  replace HB := Aside0.mk (HB.out.trans (hB.mono HB.out.size)); clear hB
  go_wp2_with fail
  refine (NoNew_e _ _ _ _ _ HN.out _).mono ?_
  rintro e w5 ⟨rfl, hb⟩
  obtain ⟨hk_y, hB⟩ := boxes1 hb
  clear hb
  replace hk_c := Aside0.mk ((hB.block _ (blk_lt hk_c.out)).trans hk_c.out)
  replace hk_x := Aside0.mk ((hB.block _ (blk_lt hk_x.out)).trans hk_x.out)
  clear hc_c hf_c hl_c
  clear hc_x hf_x hl_x
  have hc_c := blk_cell hk_c.out; have hf_c := blk_frozen hk_c.out; have hl_c := blk_lt hk_c.out
  have hc_x := blk_cell hk_x.out; have hf_x := blk_frozen hk_x.out; have hl_x := blk_lt hk_x.out
  have hc_y := blk_cell hk_y.out; have hf_y := blk_frozen hk_y.out; have hl_y := blk_lt hk_y.out
  replace HB := Aside0.mk (HB.out.trans (hB.mono HB.out.size)); clear hB
  go_wp2_with fail
  refine (NoNew_e _ _ _ _ _ HM.out _).mono ?_
  rintro e w6 ⟨rfl, hb⟩
  obtain ⟨hk_z, hB⟩ := boxes1 hb
  clear hb
  replace hk_c := Aside0.mk ((hB.block _ (blk_lt hk_c.out)).trans hk_c.out)
  replace hk_x := Aside0.mk ((hB.block _ (blk_lt hk_x.out)).trans hk_x.out)
  replace hk_y := Aside0.mk ((hB.block _ (blk_lt hk_y.out)).trans hk_y.out)
  clear hc_c hf_c hl_c
  clear hc_x hf_x hl_x
  clear hc_y hf_y hl_y
  have hc_c := blk_cell hk_c.out; have hf_c := blk_frozen hk_c.out; have hl_c := blk_lt hk_c.out
  have hc_x := blk_cell hk_x.out; have hf_x := blk_frozen hk_x.out; have hl_x := blk_lt hk_x.out
  have hc_y := blk_cell hk_y.out; have hf_y := blk_frozen hk_y.out; have hl_y := blk_lt hk_y.out
  have hc_z := blk_cell hk_z.out; have hf_z := blk_frozen hk_z.out; have hl_z := blk_lt hk_z.out
  replace HB := Aside0.mk (HB.out.trans (hB.mono HB.out.size)); clear hB
  go_wp2_with fail
  refine (Exec_e _ _ _ _ _ _ _ HY.out _).mono ?_
  rintro e w7 ⟨rfl, hb⟩
  obtain ⟨hk_ww, hB⟩ := boxes1 hb
  clear hb
  replace hk_c := Aside0.mk ((hB.block _ (blk_lt hk_c.out)).trans hk_c.out)
  replace hk_x := Aside0.mk ((hB.block _ (blk_lt hk_x.out)).trans hk_x.out)
  replace hk_y := Aside0.mk ((hB.block _ (blk_lt hk_y.out)).trans hk_y.out)
  replace hk_z := Aside0.mk ((hB.block _ (blk_lt hk_z.out)).trans hk_z.out)
  clear hc_c hf_c hl_c
  clear hc_x hf_x hl_x
  clear hc_y hf_y hl_y
  clear hc_z hf_z hl_z
  have hc_c := blk_cell hk_c.out; have hf_c := blk_frozen hk_c.out; have hl_c := blk_lt hk_c.out
  have hc_x := blk_cell hk_x.out; have hf_x := blk_frozen hk_x.out; have hl_x := blk_lt hk_x.out
  have hc_y := blk_cell hk_y.out; have hf_y := blk_frozen hk_y.out; have hl_y := blk_lt hk_y.out
  have hc_z := blk_cell hk_z.out; have hf_z := blk_frozen hk_z.out; have hl_z := blk_lt hk_z.out
  have hc_ww := blk_cell hk_ww.out; have hf_ww := blk_frozen hk_ww.out; have hl_ww := blk_lt hk_ww.out
  replace HB := Aside0.mk (HB.out.trans (hB.mono HB.out.size)); clear hB
  go_wp2_with fail
  go_ret
  exact ⟨rfl, by repeat (first | (with_reducible exact HB.out) | (with_reducible exact Below.refl _ _) | refine Below.alloc ?_ (by first | exact Nat.le_refl _ | (have hz := HB.out.size; simp; omega)) _ | refine Below.setCell ?_ (by have hz := HB.out.size; simp; omega) _ | refine below_drewN' ?_ _ | refine below_drew' ?_)⟩

set_option maxHeartbeats 2000000 in
theorem CredKeeps_false_bad (a0 : Int) (a2 : Bool) (a3 : Int) (ow : Int) (w : World) (ha : okB a0 a3 = true) (hu : userB ow = false) (hlo : ow < 0) : Calls Try.prog 4 #[.agg #[.int .i64 a0, .bool false, .bool a2, .int .i64 a3], .int .i64 ow] w (fun e w' => e = .returned (.bool true) ∧ Below w.heap.size w w') := by
  have HA := Aside0.mk ((check_total a0 false a2 a3).trans (by rw [ha]; rfl) : cred_Check.f a0 false a2 a3 = some 0)
  have HD := Aside0.mk (show DropV a0 false a2 a3 a0 = (a0, false, a2, a3, 0) by unfold DropV; simp [ha, user_of_ok ha])
  have HX := Aside0.mk (show ExecV a0 false a2 a3 ow false = (0, false, false, 0, 2) by unfold ExecV; simp [ha, hu])
  clear ha hu
  go_enter Try.func4, Try.ntmps4
  go_wp2_with fail
  refine (wakes_w _).mono ?_
  rintro e w1 ⟨rfl, hb⟩
  obtain ⟨hk_c, hB⟩ := boxes1 hb
  clear hb
  have hc_c := blk_cell hk_c.out; have hf_c := blk_frozen hk_c.out; have hl_c := blk_lt hk_c.out
  have HB := Aside0.mk hB; clear hB
  go_wp2_with fail
  refine (cred_Check.calls _ _ _ _ _ _ HA.out).mono ?_
  rintro e w2 ⟨rfl, hb⟩
  have hB := hb
  clear hb
  replace hk_c := Aside0.mk ((hB.block _ (blk_lt hk_c.out)).trans hk_c.out)
  clear hc_c hf_c hl_c
  have hc_c := blk_cell hk_c.out; have hf_c := blk_frozen hk_c.out; have hl_c := blk_lt hk_c.out
  replace HB := Aside0.mk (HB.out.trans (hB.mono HB.out.size)); clear hB
  go_wp2_with fail
  refine (Drop_e _ _ _ _ _ _ HD.out _).mono ?_
  rintro e w3 ⟨rfl, hb⟩
  have hB := hb
  clear hb
  replace hk_c := Aside0.mk ((hB.block _ (blk_lt hk_c.out)).trans hk_c.out)
  clear hc_c hf_c hl_c
  have hc_c := blk_cell hk_c.out; have hf_c := blk_frozen hk_c.out; have hl_c := blk_lt hk_c.out
  replace HB := Aside0.mk (HB.out.trans (hB.mono HB.out.size)); clear hB
  go_wp2_with fail
  refine (Exec_e _ _ _ _ _ _ _ HX.out _).mono ?_
  rintro e w4 ⟨rfl, hb⟩
  obtain ⟨hk_x, hB⟩ := boxes1 hb
  clear hb
  replace hk_c := Aside0.mk ((hB.block _ (blk_lt hk_c.out)).trans hk_c.out)
  clear hc_c hf_c hl_c
  have hc_c := blk_cell hk_c.out; have hf_c := blk_frozen hk_c.out; have hl_c := blk_lt hk_c.out
  have hc_x := blk_cell hk_x.out; have hf_x := blk_frozen hk_x.out; have hl_x := blk_lt hk_x.out
  replace HB := Aside0.mk (HB.out.trans (hB.mono HB.out.size)); clear hB
  go_wp2_with fail
  go_ret
  exact ⟨rfl, by repeat (first | (with_reducible exact HB.out) | (with_reducible exact Below.refl _ _) | refine Below.alloc ?_ (by first | exact Nat.le_refl _ | (have hz := HB.out.size; simp; omega)) _ | refine Below.setCell ?_ (by have hz := HB.out.size; simp; omega) _ | refine below_drewN' ?_ _ | refine below_drew' ?_)⟩

set_option maxHeartbeats 2000000 in
theorem CredKeeps_false_bad2 (a0 : Int) (a2 : Bool) (a3 : Int) (ow : Int) (w : World) (ha : okB a0 a3 = true) (hu : userB ow = false) (hlo : 0 ≤ ow) (hhi : 9 < ow) : Calls Try.prog 4 #[.agg #[.int .i64 a0, .bool false, .bool a2, .int .i64 a3], .int .i64 ow] w (fun e w' => e = .returned (.bool true) ∧ Below w.heap.size w w') := by
  have HA := Aside0.mk ((check_total a0 false a2 a3).trans (by rw [ha]; rfl) : cred_Check.f a0 false a2 a3 = some 0)
  have HD := Aside0.mk (show DropV a0 false a2 a3 a0 = (a0, false, a2, a3, 0) by unfold DropV; simp [ha, user_of_ok ha])
  have HX := Aside0.mk (show ExecV a0 false a2 a3 ow false = (0, false, false, 0, 2) by unfold ExecV; simp [ha, hu])
  clear ha hu
  go_enter Try.func4, Try.ntmps4
  go_wp2_with fail
  refine (wakes_w _).mono ?_
  rintro e w1 ⟨rfl, hb⟩
  obtain ⟨hk_c, hB⟩ := boxes1 hb
  clear hb
  have hc_c := blk_cell hk_c.out; have hf_c := blk_frozen hk_c.out; have hl_c := blk_lt hk_c.out
  have HB := Aside0.mk hB; clear hB
  go_wp2_with fail
  refine (cred_Check.calls _ _ _ _ _ _ HA.out).mono ?_
  rintro e w2 ⟨rfl, hb⟩
  have hB := hb
  clear hb
  replace hk_c := Aside0.mk ((hB.block _ (blk_lt hk_c.out)).trans hk_c.out)
  clear hc_c hf_c hl_c
  have hc_c := blk_cell hk_c.out; have hf_c := blk_frozen hk_c.out; have hl_c := blk_lt hk_c.out
  replace HB := Aside0.mk (HB.out.trans (hB.mono HB.out.size)); clear hB
  go_wp2_with fail
  refine (Drop_e _ _ _ _ _ _ HD.out _).mono ?_
  rintro e w3 ⟨rfl, hb⟩
  have hB := hb
  clear hb
  replace hk_c := Aside0.mk ((hB.block _ (blk_lt hk_c.out)).trans hk_c.out)
  clear hc_c hf_c hl_c
  have hc_c := blk_cell hk_c.out; have hf_c := blk_frozen hk_c.out; have hl_c := blk_lt hk_c.out
  replace HB := Aside0.mk (HB.out.trans (hB.mono HB.out.size)); clear hB
  go_wp2_with fail
  refine (Exec_e _ _ _ _ _ _ _ HX.out _).mono ?_
  rintro e w4 ⟨rfl, hb⟩
  obtain ⟨hk_x, hB⟩ := boxes1 hb
  clear hb
  replace hk_c := Aside0.mk ((hB.block _ (blk_lt hk_c.out)).trans hk_c.out)
  clear hc_c hf_c hl_c
  have hc_c := blk_cell hk_c.out; have hf_c := blk_frozen hk_c.out; have hl_c := blk_lt hk_c.out
  have hc_x := blk_cell hk_x.out; have hf_x := blk_frozen hk_x.out; have hl_x := blk_lt hk_x.out
  replace HB := Aside0.mk (HB.out.trans (hB.mono HB.out.size)); clear hB
  go_wp2_with fail
  go_ret
  exact ⟨rfl, by repeat (first | (with_reducible exact HB.out) | (with_reducible exact Below.refl _ _) | refine Below.alloc ?_ (by first | exact Nat.le_refl _ | (have hz := HB.out.size; simp; omega)) _ | refine Below.setCell ?_ (by have hz := HB.out.size; simp; omega) _ | refine below_drewN' ?_ _ | refine below_drew' ?_)⟩

set_option maxHeartbeats 2000000 in
theorem CredKeeps_false_ok (a0 : Int) (a2 : Bool) (a3 : Int) (ow : Int) (w : World) (ha : okB a0 a3 = true) (hu : userB ow = true) (hlo : 0 ≤ ow) (hhi : ow ≤ 9) : Calls Try.prog 4 #[.agg #[.int .i64 a0, .bool false, .bool a2, .int .i64 a3], .int .i64 ow] w (fun e w' => e = .returned (.bool true) ∧ Below w.heap.size w w') := by
  have HA := Aside0.mk ((check_total a0 false a2 a3).trans (by rw [ha]; rfl) : cred_Check.f a0 false a2 a3 = some 0)
  have HD := Aside0.mk (show DropV a0 false a2 a3 a0 = (a0, false, a2, a3, 0) by unfold DropV; simp [ha, user_of_ok ha])
  have HX := Aside0.mk (show ExecV a0 false a2 a3 ow false = (a0, false, a2, a3, 0) by unfold ExecV; simp [ha, hu])
  have HN := Aside0.mk (show NoNewV a0 false a2 a3 = (a0, false, true, a3, 0) by unfold NoNewV; simp [ha])
  have HM := Aside0.mk (show NoNewV a0 false true a3 = (a0, false, true, a3, 0) by unfold NoNewV; simp [ha])
  have HY := Aside0.mk (show ExecV a0 false true a3 ow true = (a0, false, true, a3, 0) by unfold ExecV; simp [ha, hu])
  clear ha hu
  go_enter Try.func4, Try.ntmps4
  go_wp2_with fail
  refine (wakes_w _).mono ?_
  rintro e w1 ⟨rfl, hb⟩
  obtain ⟨hk_c, hB⟩ := boxes1 hb
  clear hb
  have hc_c := blk_cell hk_c.out; have hf_c := blk_frozen hk_c.out; have hl_c := blk_lt hk_c.out
  have HB := Aside0.mk hB; clear hB
  go_wp2_with fail
  refine (cred_Check.calls _ _ _ _ _ _ HA.out).mono ?_
  rintro e w2 ⟨rfl, hb⟩
  have hB := hb
  clear hb
  replace hk_c := Aside0.mk ((hB.block _ (blk_lt hk_c.out)).trans hk_c.out)
  clear hc_c hf_c hl_c
  have hc_c := blk_cell hk_c.out; have hf_c := blk_frozen hk_c.out; have hl_c := blk_lt hk_c.out
  replace HB := Aside0.mk (HB.out.trans (hB.mono HB.out.size)); clear hB
  go_wp2_with fail
  refine (Drop_e _ _ _ _ _ _ HD.out _).mono ?_
  rintro e w3 ⟨rfl, hb⟩
  have hB := hb
  clear hb
  replace hk_c := Aside0.mk ((hB.block _ (blk_lt hk_c.out)).trans hk_c.out)
  clear hc_c hf_c hl_c
  have hc_c := blk_cell hk_c.out; have hf_c := blk_frozen hk_c.out; have hl_c := blk_lt hk_c.out
  replace HB := Aside0.mk (HB.out.trans (hB.mono HB.out.size)); clear hB
  go_wp2_with fail
  refine (Exec_e _ _ _ _ _ _ _ HX.out _).mono ?_
  rintro e w4 ⟨rfl, hb⟩
  obtain ⟨hk_x, hB⟩ := boxes1 hb
  clear hb
  replace hk_c := Aside0.mk ((hB.block _ (blk_lt hk_c.out)).trans hk_c.out)
  clear hc_c hf_c hl_c
  have hc_c := blk_cell hk_c.out; have hf_c := blk_frozen hk_c.out; have hl_c := blk_lt hk_c.out
  have hc_x := blk_cell hk_x.out; have hf_x := blk_frozen hk_x.out; have hl_x := blk_lt hk_x.out
  replace HB := Aside0.mk (HB.out.trans (hB.mono HB.out.size)); clear hB
  go_wp2_with fail
  refine (NoNew_e _ _ _ _ _ HN.out _).mono ?_
  rintro e w5 ⟨rfl, hb⟩
  obtain ⟨hk_y, hB⟩ := boxes1 hb
  clear hb
  replace hk_c := Aside0.mk ((hB.block _ (blk_lt hk_c.out)).trans hk_c.out)
  replace hk_x := Aside0.mk ((hB.block _ (blk_lt hk_x.out)).trans hk_x.out)
  clear hc_c hf_c hl_c
  clear hc_x hf_x hl_x
  have hc_c := blk_cell hk_c.out; have hf_c := blk_frozen hk_c.out; have hl_c := blk_lt hk_c.out
  have hc_x := blk_cell hk_x.out; have hf_x := blk_frozen hk_x.out; have hl_x := blk_lt hk_x.out
  have hc_y := blk_cell hk_y.out; have hf_y := blk_frozen hk_y.out; have hl_y := blk_lt hk_y.out
  replace HB := Aside0.mk (HB.out.trans (hB.mono HB.out.size)); clear hB
  go_wp2_with fail
  refine (NoNew_e _ _ _ _ _ HM.out _).mono ?_
  rintro e w6 ⟨rfl, hb⟩
  obtain ⟨hk_z, hB⟩ := boxes1 hb
  clear hb
  replace hk_c := Aside0.mk ((hB.block _ (blk_lt hk_c.out)).trans hk_c.out)
  replace hk_x := Aside0.mk ((hB.block _ (blk_lt hk_x.out)).trans hk_x.out)
  replace hk_y := Aside0.mk ((hB.block _ (blk_lt hk_y.out)).trans hk_y.out)
  clear hc_c hf_c hl_c
  clear hc_x hf_x hl_x
  clear hc_y hf_y hl_y
  have hc_c := blk_cell hk_c.out; have hf_c := blk_frozen hk_c.out; have hl_c := blk_lt hk_c.out
  have hc_x := blk_cell hk_x.out; have hf_x := blk_frozen hk_x.out; have hl_x := blk_lt hk_x.out
  have hc_y := blk_cell hk_y.out; have hf_y := blk_frozen hk_y.out; have hl_y := blk_lt hk_y.out
  have hc_z := blk_cell hk_z.out; have hf_z := blk_frozen hk_z.out; have hl_z := blk_lt hk_z.out
  replace HB := Aside0.mk (HB.out.trans (hB.mono HB.out.size)); clear hB
  go_wp2_with fail
  refine (Exec_e _ _ _ _ _ _ _ HY.out _).mono ?_
  rintro e w7 ⟨rfl, hb⟩
  obtain ⟨hk_ww, hB⟩ := boxes1 hb
  clear hb
  replace hk_c := Aside0.mk ((hB.block _ (blk_lt hk_c.out)).trans hk_c.out)
  replace hk_x := Aside0.mk ((hB.block _ (blk_lt hk_x.out)).trans hk_x.out)
  replace hk_y := Aside0.mk ((hB.block _ (blk_lt hk_y.out)).trans hk_y.out)
  replace hk_z := Aside0.mk ((hB.block _ (blk_lt hk_z.out)).trans hk_z.out)
  clear hc_c hf_c hl_c
  clear hc_x hf_x hl_x
  clear hc_y hf_y hl_y
  clear hc_z hf_z hl_z
  have hc_c := blk_cell hk_c.out; have hf_c := blk_frozen hk_c.out; have hl_c := blk_lt hk_c.out
  have hc_x := blk_cell hk_x.out; have hf_x := blk_frozen hk_x.out; have hl_x := blk_lt hk_x.out
  have hc_y := blk_cell hk_y.out; have hf_y := blk_frozen hk_y.out; have hl_y := blk_lt hk_y.out
  have hc_z := blk_cell hk_z.out; have hf_z := blk_frozen hk_z.out; have hl_z := blk_lt hk_z.out
  have hc_ww := blk_cell hk_ww.out; have hf_ww := blk_frozen hk_ww.out; have hl_ww := blk_lt hk_ww.out
  replace HB := Aside0.mk (HB.out.trans (hB.mono HB.out.size)); clear hB
  go_wp2_with fail
  go_ret
  exact ⟨rfl, by repeat (first | (with_reducible exact HB.out) | (with_reducible exact Below.refl _ _) | refine Below.alloc ?_ (by first | exact Nat.le_refl _ | (have hz := HB.out.size; simp; omega)) _ | refine Below.setCell ?_ (by have hz := HB.out.size; simp; omega) _ | refine below_drewN' ?_ _ | refine below_drew' ?_)⟩

theorem CredKeeps_w (a0 : Int) (a1 a2 : Bool) (a3 : Int) (ow : Int) (w : World) : Calls Try.prog 4 #[.agg #[.int .i64 a0, .bool a1, .bool a2, .int .i64 a3], .int .i64 ow] w (fun e w' => e = .returned (.bool true) ∧ Below w.heap.size w w') := by
  cases ha : okB a0 a3
  · exact CredKeeps_no a0 a1 a2 a3 ow w ha
  · cases hu : userB ow
    · by_cases hlo : ow < 0
      · cases a1
        · exact CredKeeps_false_bad a0 a2 a3 ow w ha hu hlo
        · cases hz : (a0 == 0)
          · exact CredKeeps_truefalse_bad a0 a2 a3 ow w hz ha hu hlo
          · exact CredKeeps_truetrue_bad a0 a2 a3 ow w hz ha hu hlo
      · have h9 : 9 < ow := by
          unfold userB at hu
          simp at hu
          have := hu (by omega)
          omega
        cases a1
        · exact CredKeeps_false_bad2 a0 a2 a3 ow w ha hu (by omega) h9
        · cases hz : (a0 == 0)
          · exact CredKeeps_truefalse_bad2 a0 a2 a3 ow w hz ha hu (by omega) h9
          · exact CredKeeps_truetrue_bad2 a0 a2 a3 ow w hz ha hu (by omega) h9
    · have h9 : 0 ≤ ow ∧ ow ≤ 9 := by
        unfold userB at hu
        simp at hu
        exact hu
      cases a1
      · exact CredKeeps_false_ok a0 a2 a3 ow w ha hu h9.1 h9.2
      · cases hz : (a0 == 0)
        · exact CredKeeps_truefalse_ok a0 a2 a3 ow w hz ha hu h9.1 h9.2
        · exact CredKeeps_truetrue_ok a0 a2 a3 ow w hz ha hu h9.1 h9.2
end L
end Go.Proofs.Ytgacpabljdbhmaa.PC
