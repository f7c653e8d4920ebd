import Derived.Test.YtgacpabljdbhmaaCN
namespace Go.Proofs.Ytgacpabljdbhmaa.PC
open Go.RowKit Go.Proofs.YtgacpabljdbhmaaW.PrintWords Go.Proofs.YtgacpabljdbhmaaW.PrintLast Go.Proofs.YtgacpabljdbhmaaW.PrintMore
set_option linter.unusedVariables false
set_option linter.unusedSimpArgs false
namespace L

theorem Strict_e (a0 : Int) (a1 a2 : Bool) (a3 : Int) (v : Int × Bool × Bool × Int × Int) (h : StrictV a0 a1 a2 a3 = v) (w : World) :
    Calls Try.prog 16 #[.agg #[.int .i64 a0, .bool a1, .bool a2, .int .i64 a3]] w (RetCE v w) := h ▸ Strict_w a0 a1 a2 a3 w
theorem Filter_e (a0 : Int) (a1 a2 : Bool) (a3 : Int) (v : Int × Bool × Bool × Int × Int) (h : FilterV a0 a1 a2 a3 = v) (w : World) :
    Calls Try.prog 18 #[.agg #[.int .i64 a0, .bool a1, .bool a2, .int .i64 a3]] w (RetCE v w) := h ▸ Filter_w a0 a1 a2 a3 w
def RetC (x : S23) (w : World) (e : Ending) (w' : World) : Prop := e = .returned (.agg #[.int .i64 x.f0, .bool x.f1, .bool x.f2, .int .i64 x.f3]) ∧ Below w.heap.size w w'
def GoodS (n x : S23) : Prop := (x.f2 = true → n.f2 = true) ∧ (x.f3 ≠ 0 → n.f3 = x.f3) ∧ (x.f2 = true → (n.f0 = x.f0 ∨ x.f1 = true) ∧ (x.f1 = true ∨ n.f1 = false)) ∧ okB x.f0 x.f3 = true
theorem good_refl (c : S23) (h : okB c.f0 c.f3 = true) : GoodS c c := ⟨id, fun _ => rfl, fun _ => ⟨.inl rfl, by cases c.f1 <;> simp⟩, h⟩
def StepsTo (c n : S23) : Prop := okB n.f0 n.f3 = true ∧ ∀ x, GoodS c x → GoodS n x
theorem okB_iff (a b : Int) : okB a b = true ↔ (0 ≤ a ∧ a ≤ 9) ∧ 0 ≤ b ∧ b ≤ 2 := by unfold okB userB; simp
theorem steps_refl (c : S23) (h : okB c.f0 c.f3 = true) : StepsTo c c := ⟨h, fun _ h => h⟩
theorem steps_exec (c : S23) (o : Int) (s : Bool) (h : okB c.f0 c.f3 = true) (n0 : Int) (n1 n2 : Bool) (n3 er : Int) (hv : ExecV c.f0 c.f1 c.f2 c.f3 o s = (n0, n1, n2, n3, er)) (he : er = 0) : StepsTo c ⟨n0, n1, n2, n3⟩ := by
  unfold ExecV at hv
  rw [if_pos h] at hv
  split at hv
  · rename_i ho
    split at hv
    · rename_i hs
      simp only [Prod.mk.injEq] at hv
      obtain ⟨rfl, rfl, rfl, rfl, _⟩ := hv
      have h2 : c.f2 = false := by simpa using (by simpa using hs : s = true ∧ c.f2 = false).2
      refine ⟨?_, fun x ⟨g1, g2, g3, g4⟩ => ⟨g1, g2, fun hx => ?_, g4⟩⟩
      · rw [okB_iff] at h ⊢
        unfold userB at ho
        simp at ho
        exact ⟨ho, h.2⟩
      · rw [g1 hx] at h2; cases h2
    · simp only [Prod.mk.injEq] at hv
      obtain ⟨rfl, rfl, rfl, rfl, _⟩ := hv
      exact steps_refl c h
  · simp only [Prod.mk.injEq] at hv
    omega
theorem steps_nonew (c : S23) (h : okB c.f0 c.f3 = true) (n0 : Int) (n1 n2 : Bool) (n3 er : Int) (hv : NoNewV c.f0 c.f1 c.f2 c.f3 = (n0, n1, n2, n3, er)) (he : er = 0) : StepsTo c ⟨n0, n1, n2, n3⟩ := by
  unfold NoNewV at hv
  rw [if_pos h] at hv
  simp only [Prod.mk.injEq] at hv
  obtain ⟨rfl, rfl, rfl, rfl, _⟩ := hv
  exact ⟨h, fun x ⟨g1, g2, g3, g4⟩ => ⟨fun _ => rfl, g2, g3, g4⟩⟩
theorem steps_drop (c : S23) (o : Int) (h : okB c.f0 c.f3 = true) (n0 : Int) (n1 n2 : Bool) (n3 er : Int) (hv : DropV c.f0 c.f1 c.f2 c.f3 o = (n0, n1, n2, n3, er)) (he : er = 0) : StepsTo c ⟨n0, n1, n2, n3⟩ := by
  unfold DropV at hv
  rw [if_pos h] at hv
  split at hv
  · rename_i ho
    have ho' : 0 ≤ o ∧ o ≤ 9 := by unfold userB at ho; simpa using ho
    split at hv
    · rename_i h1
      simp only [Prod.mk.injEq] at hv
      obtain ⟨rfl, rfl, rfl, rfl, _⟩ := hv
      refine ⟨?_, fun x ⟨g1, g2, g3, g4⟩ => ⟨g1, g2, fun hx => ?_, g4⟩⟩
      · rw [okB_iff] at h ⊢
        exact ⟨ho', h.2⟩
      · have h3 : x.f1 = true := by
          rcases (g3 hx).2 with h4 | h4
          · exact h4
          · rw [h1] at h4; cases h4
        exact ⟨.inr h3, .inl h3⟩
    · split at hv
      · simp only [Prod.mk.injEq] at hv
        obtain ⟨rfl, rfl, rfl, rfl, _⟩ := hv
        exact ⟨h, fun x ⟨g1, g2, g3, g4⟩ => ⟨g1, g2, fun hx => ⟨(g3 hx).1, .inr rfl⟩, g4⟩⟩
      · simp only [Prod.mk.injEq] at hv
        omega
  · simp only [Prod.mk.injEq] at hv
    omega
theorem steps_strict (c : S23) (h : okB c.f0 c.f3 = true) (n0 : Int) (n1 n2 : Bool) (n3 er : Int) (hv : StrictV c.f0 c.f1 c.f2 c.f3 = (n0, n1, n2, n3, er)) (he : er = 0) : StepsTo c ⟨n0, n1, n2, n3⟩ := by
  unfold StrictV at hv
  rw [if_pos h] at hv
  split at hv
  · simp only [Prod.mk.injEq] at hv; omega
  · rename_i h2
    simp only [Prod.mk.injEq] at hv
    obtain ⟨rfl, rfl, rfl, rfl, _⟩ := hv
    rw [okB_iff] at h
    refine ⟨by rw [okB_iff]; exact ⟨h.1, by constructor <;> show _ ≤ (_ : Int) <;> simp⟩, fun x ⟨g1, g2, g3, g4⟩ => ⟨g1, fun hx => ?_, g3, g4⟩⟩
    have := g2 hx
    have h5 := (okB_iff _ _).1 g4
    show (1 : Int) = x.f3
    omega
theorem steps_filter (c : S23) (h : okB c.f0 c.f3 = true) (n0 : Int) (n1 n2 : Bool) (n3 er : Int) (hv : FilterV c.f0 c.f1 c.f2 c.f3 = (n0, n1, n2, n3, er)) (he : er = 0) : StepsTo c ⟨n0, n1, n2, n3⟩ := by
  unfold FilterV at hv
  rw [if_pos h] at hv
  split at hv
  · simp only [Prod.mk.injEq] at hv; omega
  · rename_i h2
    split at hv
    · simp only [Prod.mk.injEq] at hv
      obtain ⟨rfl, rfl, rfl, rfl, _⟩ := hv
      rw [okB_iff] at h
      refine ⟨by rw [okB_iff]; exact ⟨h.1, by constructor <;> show _ ≤ (_ : Int) <;> simp⟩, fun x ⟨g1, g2, g3, g4⟩ => ⟨g1, fun hx => ?_, g3, g4⟩⟩
      have := g2 hx
      have h5 := (okB_iff _ _).1 g4
      show (2 : Int) = x.f3
      omega
    · simp only [Prod.mk.injEq] at hv; omega

def kk (k : Int) : Int := (wrap64 (k.tmod 5 + 5)).tmod 5

set_option maxHeartbeats 2000000 in
theorem do_Exec_ok (a0 : Int) (a1 a2 : Bool) (a3 : Int) (k u ow : Int) (s : Bool) (n0 : Int) (n1 n2 : Bool) (n3 : Int) (w : World) (hk : kk k = 0) (hv : ExecV a0 a1 a2 a3 ow s = (n0, n1, n2, n3, 0)) : Calls Try.prog 24 #[.agg #[.int .i64 a0, .bool a1, .bool a2, .int .i64 a3], .agg #[.int .i64 k, .int .i64 u, .int .i64 ow, .bool s]] w (RetC ⟨n0, n1, n2, n3⟩ w) := by
  have hk0 : ((wrap64 (k.tmod 5 + 5)).tmod 5 == 0) = true := by have := hk; unfold kk at this; simp [this]
  have HV := Aside0.mk hv
  clear hv hk
  go_enter Try.func24, Try.ntmps24
  go_wp2_with fail
  refine (Exec_e _ _ _ _ _ _ _ HV.out _).mono ?_
  rintro e w1 ⟨rfl, hb⟩
  obtain ⟨hk_c, hk_d, hk_r, hk_n, hB⟩ := boxes4 hb
  clear hb
  have hc_c := blk_cell hk_c.out; have hf_c := blk_frozen hk_c.out; have hl_c := blk_lt hk_c.out
  have hc_d := blk_cell hk_d.out; have hf_d := blk_frozen hk_d.out; have hl_d := blk_lt hk_d.out
  have hc_r := blk_cell hk_r.out; have hf_r := blk_frozen hk_r.out; have hl_r := blk_lt hk_r.out
  have hc_n := blk_cell hk_n.out; have hf_n := blk_frozen hk_n.out; have hl_n := blk_lt hk_n.out
  have HB := Aside0.mk hB; clear hB
  go_wp2_with fail
  refine bodyPost_ret (v := .agg #[.int .i64 n0, .bool n1, .bool n2, .int .i64 n3]) (by have z0 := hc_r; have z1 := hl_c; have z2 := hl_r; have z3 := hl_n; simp [results, Try.results24, go_sem, hc_r, hc_c, hc_n]) rfl ⟨rfl, by repeat (first | (with_reducible exact HB.out) | (with_reducible exact Below.refl _ _) | ((with_reducible refine Below.alloc ?_ ?_ _); rotate_left; (first | exact Nat.le_refl _ | (have hz := HB.out.size; simp; omega))) | ((with_reducible refine Below.setCell ?_ ?_ _); rotate_left; (have hz := HB.out.size; simp; omega)) | (with_reducible refine below_drewN' ?_ _) | (with_reducible refine below_drew' ?_))⟩

set_option maxHeartbeats 2000000 in
theorem do_Exec_no (a0 : Int) (a1 a2 : Bool) (a3 : Int) (k u ow : Int) (s : Bool) (n0 : Int) (n1 n2 : Bool) (n3 : Int) (er : Int) (he : er ≠ 0) (w : World) (hk : kk k = 0) (hv : ExecV a0 a1 a2 a3 ow s = (n0, n1, n2, n3, er)) : Calls Try.prog 24 #[.agg #[.int .i64 a0, .bool a1, .bool a2, .int .i64 a3], .agg #[.int .i64 k, .int .i64 u, .int .i64 ow, .bool s]] w (RetC ⟨a0, a1, a2, a3⟩ w) := by
  have hk0 : ((wrap64 (k.tmod 5 + 5)).tmod 5 == 0) = true := by have := hk; unfold kk at this; simp [this]
  have HV := Aside0.mk hv
  have her : (er != 0) = true := by simpa using he
  clear he
  clear hv hk
  go_enter Try.func24, Try.ntmps24
  go_wp2_with fail
  refine (Exec_e _ _ _ _ _ _ _ HV.out _).mono ?_
  rintro e w1 ⟨rfl, hb⟩
  obtain ⟨hk_c, hk_d, hk_r, hk_n, hB⟩ := boxes4 hb
  clear hb
  have hc_c := blk_cell hk_c.out; have hf_c := blk_frozen hk_c.out; have hl_c := blk_lt hk_c.out
  have hc_d := blk_cell hk_d.out; have hf_d := blk_frozen hk_d.out; have hl_d := blk_lt hk_d.out
  have hc_r := blk_cell hk_r.out; have hf_r := blk_frozen hk_r.out; have hl_r := blk_lt hk_r.out
  have hc_n := blk_cell hk_n.out; have hf_n := blk_frozen hk_n.out; have hl_n := blk_lt hk_n.out
  have HB := Aside0.mk hB; clear hB
  go_wp2_with fail
  refine bodyPost_ret (v := .agg #[.int .i64 a0, .bool a1, .bool a2, .int .i64 a3]) (by have z0 := hc_r; have z1 := hl_c; have z2 := hl_r; have z3 := hl_n; simp [results, Try.results24, go_sem, hc_r, hc_c, hc_n]) rfl ⟨rfl, by repeat (first | (with_reducible exact HB.out) | (with_reducible exact Below.refl _ _) | ((with_reducible refine Below.alloc ?_ ?_ _); rotate_left; (first | exact Nat.le_refl _ | (have hz := HB.out.size; simp; omega))) | ((with_reducible refine Below.setCell ?_ ?_ _); rotate_left; (have hz := HB.out.size; simp; omega)) | (with_reducible refine below_drewN' ?_ _) | (with_reducible refine below_drew' ?_))⟩

set_option maxHeartbeats 2000000 in
theorem do_NoNew_ok (a0 : Int) (a1 a2 : Bool) (a3 : Int) (k u ow : Int) (s : Bool) (n0 : Int) (n1 n2 : Bool) (n3 : Int) (w : World) (hk : kk k = 1) (hv : NoNewV a0 a1 a2 a3 = (n0, n1, n2, n3, 0)) : Calls Try.prog 24 #[.agg #[.int .i64 a0, .bool a1, .bool a2, .int .i64 a3], .agg #[.int .i64 k, .int .i64 u, .int .i64 ow, .bool s]] w (RetC ⟨n0, n1, n2, n3⟩ w) := by
  have hk0 : ((wrap64 (k.tmod 5 + 5)).tmod 5 == 0) = false := by have := hk; unfold kk at this; simp [this]
  have hk1 : ((wrap64 (k.tmod 5 + 5)).tmod 5 == 1) = true := by have := hk; unfold kk at this; simp [this]
  have HV := Aside0.mk hv
  clear hv hk
  go_enter Try.func24, Try.ntmps24
  go_wp2_with fail
  refine (NoNew_e _ _ _ _ _ HV.out _).mono ?_
  rintro e w1 ⟨rfl, hb⟩
  obtain ⟨hk_c, hk_d, hk_r, hk_n, hB⟩ := boxes4 hb
  clear hb
  have hc_c := blk_cell hk_c.out; have hf_c := blk_frozen hk_c.out; have hl_c := blk_lt hk_c.out
  have hc_d := blk_cell hk_d.out; have hf_d := blk_frozen hk_d.out; have hl_d := blk_lt hk_d.out
  have hc_r := blk_cell hk_r.out; have hf_r := blk_frozen hk_r.out; have hl_r := blk_lt hk_r.out
  have hc_n := blk_cell hk_n.out; have hf_n := blk_frozen hk_n.out; have hl_n := blk_lt hk_n.out
  have HB := Aside0.mk hB; clear hB
  go_wp2_with fail
  refine bodyPost_ret (v := .agg #[.int .i64 n0, .bool n1, .bool n2, .int .i64 n3]) (by have z0 := hc_r; have z1 := hl_c; have z2 := hl_r; have z3 := hl_n; simp [results, Try.results24, go_sem, hc_r, hc_c, hc_n]) rfl ⟨rfl, by repeat (first | (with_reducible exact HB.out) | (with_reducible exact Below.refl _ _) | ((with_reducible refine Below.alloc ?_ ?_ _); rotate_left; (first | exact Nat.le_refl _ | (have hz := HB.out.size; simp; omega))) | ((with_reducible refine Below.setCell ?_ ?_ _); rotate_left; (have hz := HB.out.size; simp; omega)) | (with_reducible refine below_drewN' ?_ _) | (with_reducible refine below_drew' ?_))⟩

set_option maxHeartbeats 2000000 in
theorem do_NoNew_no (a0 : Int) (a1 a2 : Bool) (a3 : Int) (k u ow : Int) (s : Bool) (n0 : Int) (n1 n2 : Bool) (n3 : Int) (er : Int) (he : er ≠ 0) (w : World) (hk : kk k = 1) (hv : NoNewV a0 a1 a2 a3 = (n0, n1, n2, n3, er)) : Calls Try.prog 24 #[.agg #[.int .i64 a0, .bool a1, .bool a2, .int .i64 a3], .agg #[.int .i64 k, .int .i64 u, .int .i64 ow, .bool s]] w (RetC ⟨a0, a1, a2, a3⟩ w) := by
  have hk0 : ((wrap64 (k.tmod 5 + 5)).tmod 5 == 0) = false := by have := hk; unfold kk at this; simp [this]
  have hk1 : ((wrap64 (k.tmod 5 + 5)).tmod 5 == 1) = true := by have := hk; unfold kk at this; simp [this]
  have HV := Aside0.mk hv
  have her : (er != 0) = true := by simpa using he
  clear he
  clear hv hk
  go_enter Try.func24, Try.ntmps24
  go_wp2_with fail
  refine (NoNew_e _ _ _ _ _ HV.out _).mono ?_
  rintro e w1 ⟨rfl, hb⟩
  obtain ⟨hk_c, hk_d, hk_r, hk_n, hB⟩ := boxes4 hb
  clear hb
  have hc_c := blk_cell hk_c.out; have hf_c := blk_frozen hk_c.out; have hl_c := blk_lt hk_c.out
  have hc_d := blk_cell hk_d.out; have hf_d := blk_frozen hk_d.out; have hl_d := blk_lt hk_d.out
  have hc_r := blk_cell hk_r.out; have hf_r := blk_frozen hk_r.out; have hl_r := blk_lt hk_r.out
  have hc_n := blk_cell hk_n.out; have hf_n := blk_frozen hk_n.out; have hl_n := blk_lt hk_n.out
  have HB := Aside0.mk hB; clear hB
  go_wp2_with fail
  refine bodyPost_ret (v := .agg #[.int .i64 a0, .bool a1, .bool a2, .int .i64 a3]) (by have z0 := hc_r; have z1 := hl_c; have z2 := hl_r; have z3 := hl_n; simp [results, Try.results24, go_sem, hc_r, hc_c, hc_n]) rfl ⟨rfl, by repeat (first | (with_reducible exact HB.out) | (with_reducible exact Below.refl _ _) | ((with_reducible refine Below.alloc ?_ ?_ _); rotate_left; (first | exact Nat.le_refl _ | (have hz := HB.out.size; simp; omega))) | ((with_reducible refine Below.setCell ?_ ?_ _); rotate_left; (have hz := HB.out.size; simp; omega)) | (with_reducible refine below_drewN' ?_ _) | (with_reducible refine below_drew' ?_))⟩

set_option maxHeartbeats 2000000 in
theorem do_Drop_ok (a0 : Int) (a1 a2 : Bool) (a3 : Int) (k u ow : Int) (s : Bool) (n0 : Int) (n1 n2 : Bool) (n3 : Int) (w : World) (hk : kk k = 2) (hv : DropV a0 a1 a2 a3 u = (n0, n1, n2, n3, 0)) : Calls Try.prog 24 #[.agg #[.int .i64 a0, .bool a1, .bool a2, .int .i64 a3], .agg #[.int .i64 k, .int .i64 u, .int .i64 ow, .bool s]] w (RetC ⟨n0, n1, n2, n3⟩ w) := by
  have hk0 : ((wrap64 (k.tmod 5 + 5)).tmod 5 == 0) = false := by have := hk; unfold kk at this; simp [this]
  have hk1 : ((wrap64 (k.tmod 5 + 5)).tmod 5 == 1) = false := by have := hk; unfold kk at this; simp [this]
  have hk2 : ((wrap64 (k.tmod 5 + 5)).tmod 5 == 2) = true := by have := hk; unfold kk at this; simp [this]
  have HV := Aside0.mk hv
  clear hv hk
  go_enter Try.func24, Try.ntmps24
  go_wp2_with fail
  refine (Drop_e _ _ _ _ _ _ HV.out _).mono ?_
  rintro e w1 ⟨rfl, hb⟩
  obtain ⟨hk_c, hk_d, hk_r, hk_n, hB⟩ := boxes4 hb
  clear hb
  have hc_c := blk_cell hk_c.out; have hf_c := blk_frozen hk_c.out; have hl_c := blk_lt hk_c.out
  have hc_d := blk_cell hk_d.out; have hf_d := blk_frozen hk_d.out; have hl_d := blk_lt hk_d.out
  have hc_r := blk_cell hk_r.out; have hf_r := blk_frozen hk_r.out; have hl_r := blk_lt hk_r.out
  have hc_n := blk_cell hk_n.out; have hf_n := blk_frozen hk_n.out; have hl_n := blk_lt hk_n.out
  have HB := Aside0.mk hB; clear hB
  go_wp2_with fail
  refine bodyPost_ret (v := .agg #[.int .i64 n0, .bool n1, .bool n2, .int .i64 n3]) (by have z0 := hc_r; have z1 := hl_c; have z2 := hl_r; have z3 := hl_n; simp [results, Try.results24, go_sem, hc_r, hc_c, hc_n]) rfl ⟨rfl, by repeat (first | (with_reducible exact HB.out) | (with_reducible exact Below.refl _ _) | ((with_reducible refine Below.alloc ?_ ?_ _); rotate_left; (first | exact Nat.le_refl _ | (have hz := HB.out.size; simp; omega))) | ((with_reducible refine Below.setCell ?_ ?_ _); rotate_left; (have hz := HB.out.size; simp; omega)) | (with_reducible refine below_drewN' ?_ _) | (with_reducible refine below_drew' ?_))⟩

set_option maxHeartbeats 2000000 in
theorem do_Drop_no (a0 : Int) (a1 a2 : Bool) (a3 : Int) (k u ow : Int) (s : Bool) (n0 : Int) (n1 n2 : Bool) (n3 : Int) (er : Int) (he : er ≠ 0) (w : World) (hk : kk k = 2) (hv : DropV a0 a1 a2 a3 u = (n0, n1, n2, n3, er)) : Calls Try.prog 24 #[.agg #[.int .i64 a0, .bool a1, .bool a2, .int .i64 a3], .agg #[.int .i64 k, .int .i64 u, .int .i64 ow, .bool s]] w (RetC ⟨a0, a1, a2, a3⟩ w) := by
  have hk0 : ((wrap64 (k.tmod 5 + 5)).tmod 5 == 0) = false := by have := hk; unfold kk at this; simp [this]
  have hk1 : ((wrap64 (k.tmod 5 + 5)).tmod 5 == 1) = false := by have := hk; unfold kk at this; simp [this]
  have hk2 : ((wrap64 (k.tmod 5 + 5)).tmod 5 == 2) = true := by have := hk; unfold kk at this; simp [this]
  have HV := Aside0.mk hv
  have her : (er != 0) = true := by simpa using he
  clear he
  clear hv hk
  go_enter Try.func24, Try.ntmps24
  go_wp2_with fail
  refine (Drop_e _ _ _ _ _ _ HV.out _).mono ?_
  rintro e w1 ⟨rfl, hb⟩
  obtain ⟨hk_c, hk_d, hk_r, hk_n, hB⟩ := boxes4 hb
  clear hb
  have hc_c := blk_cell hk_c.out; have hf_c := blk_frozen hk_c.out; have hl_c := blk_lt hk_c.out
  have hc_d := blk_cell hk_d.out; have hf_d := blk_frozen hk_d.out; have hl_d := blk_lt hk_d.out
  have hc_r := blk_cell hk_r.out; have hf_r := blk_frozen hk_r.out; have hl_r := blk_lt hk_r.out
  have hc_n := blk_cell hk_n.out; have hf_n := blk_frozen hk_n.out; have hl_n := blk_lt hk_n.out
  have HB := Aside0.mk hB; clear hB
  go_wp2_with fail
  refine bodyPost_ret (v := .agg #[.int .i64 a0, .bool a1, .bool a2, .int .i64 a3]) (by have z0 := hc_r; have z1 := hl_c; have z2 := hl_r; have z3 := hl_n; simp [results, Try.results24, go_sem, hc_r, hc_c, hc_n]) rfl ⟨rfl, by repeat (first | (with_reducible exact HB.out) | (with_reducible exact Below.refl _ _) | ((with_reducible refine Below.alloc ?_ ?_ _); rotate_left; (first | exact Nat.le_refl _ | (have hz := HB.out.size; simp; omega))) | ((with_reducible refine Below.setCell ?_ ?_ _); rotate_left; (have hz := HB.out.size; simp; omega)) | (with_reducible refine below_drewN' ?_ _) | (with_reducible refine below_drew' ?_))⟩

set_option maxHeartbeats 2000000 in
theorem do_Strict_ok (a0 : Int) (a1 a2 : Bool) (a3 : Int) (k u ow : Int) (s : Bool) (n0 : Int) (n1 n2 : Bool) (n3 : Int) (w : World) (hk : kk k = 3) (hv : StrictV a0 a1 a2 a3 = (n0, n1, n2, n3, 0)) : Calls Try.prog 24 #[.agg #[.int .i64 a0, .bool a1, .bool a2, .int .i64 a3], .agg #[.int .i64 k, .int .i64 u, .int .i64 ow, .bool s]] w (RetC ⟨n0, n1, n2, n3⟩ w) := by
  have hk0 : ((wrap64 (k.tmod 5 + 5)).tmod 5 == 0) = false := by have := hk; unfold kk at this; simp [this]
  have hk1 : ((wrap64 (k.tmod 5 + 5)).tmod 5 == 1) = false := by have := hk; unfold kk at this; simp [this]
  have hk2 : ((wrap64 (k.tmod 5 + 5)).tmod 5 == 2) = false := by have := hk; unfold kk at this; simp [this]
  have hk3 : ((wrap64 (k.tmod 5 + 5)).tmod 5 == 3) = true := by have := hk; unfold kk at this; simp [this]
  have HV := Aside0.mk hv
  clear hv hk
  go_enter Try.func24, Try.ntmps24
  go_wp2_with fail
  refine (Strict_e _ _ _ _ _ HV.out _).mono ?_
  rintro e w1 ⟨rfl, hb⟩
  obtain ⟨hk_c, hk_d, hk_r, hk_n, hB⟩ := boxes4 hb
  clear hb
  have hc_c := blk_cell hk_c.out; have hf_c := blk_frozen hk_c.out; have hl_c := blk_lt hk_c.out
  have hc_d := blk_cell hk_d.out; have hf_d := blk_frozen hk_d.out; have hl_d := blk_lt hk_d.out
  have hc_r := blk_cell hk_r.out; have hf_r := blk_frozen hk_r.out; have hl_r := blk_lt hk_r.out
  have hc_n := blk_cell hk_n.out; have hf_n := blk_frozen hk_n.out; have hl_n := blk_lt hk_n.out
  have HB := Aside0.mk hB; clear hB
  go_wp2_with fail
  refine bodyPost_ret (v := .agg #[.int .i64 n0, .bool n1, .bool n2, .int .i64 n3]) (by have z0 := hc_r; have z1 := hl_c; have z2 := hl_r; have z3 := hl_n; simp [results, Try.results24, go_sem, hc_r, hc_c, hc_n]) rfl ⟨rfl, by repeat (first | (with_reducible exact HB.out) | (with_reducible exact Below.refl _ _) | ((with_reducible refine Below.alloc ?_ ?_ _); rotate_left; (first | exact Nat.le_refl _ | (have hz := HB.out.size; simp; omega))) | ((with_reducible refine Below.setCell ?_ ?_ _); rotate_left; (have hz := HB.out.size; simp; omega)) | (with_reducible refine below_drewN' ?_ _) | (with_reducible refine below_drew' ?_))⟩

set_option maxHeartbeats 2000000 in
theorem do_Strict_no (a0 : Int) (a1 a2 : Bool) (a3 : Int) (k u ow : Int) (s : Bool) (n0 : Int) (n1 n2 : Bool) (n3 : Int) (er : Int) (he : er ≠ 0) (w : World) (hk : kk k = 3) (hv : StrictV a0 a1 a2 a3 = (n0, n1, n2, n3, er)) : Calls Try.prog 24 #[.agg #[.int .i64 a0, .bool a1, .bool a2, .int .i64 a3], .agg #[.int .i64 k, .int .i64 u, .int .i64 ow, .bool s]] w (RetC ⟨a0, a1, a2, a3⟩ w) := by
  have hk0 : ((wrap64 (k.tmod 5 + 5)).tmod 5 == 0) = false := by have := hk; unfold kk at this; simp [this]
  have hk1 : ((wrap64 (k.tmod 5 + 5)).tmod 5 == 1) = false := by have := hk; unfold kk at this; simp [this]
  have hk2 : ((wrap64 (k.tmod 5 + 5)).tmod 5 == 2) = false := by have := hk; unfold kk at this; simp [this]
  have hk3 : ((wrap64 (k.tmod 5 + 5)).tmod 5 == 3) = true := by have := hk; unfold kk at this; simp [this]
  have HV := Aside0.mk hv
  have her : (er != 0) = true := by simpa using he
  clear he
  clear hv hk
  go_enter Try.func24, Try.ntmps24
  go_wp2_with fail
  refine (Strict_e _ _ _ _ _ HV.out _).mono ?_
  rintro e w1 ⟨rfl, hb⟩
  obtain ⟨hk_c, hk_d, hk_r, hk_n, hB⟩ := boxes4 hb
  clear hb
  have hc_c := blk_cell hk_c.out; have hf_c := blk_frozen hk_c.out; have hl_c := blk_lt hk_c.out
  have hc_d := blk_cell hk_d.out; have hf_d := blk_frozen hk_d.out; have hl_d := blk_lt hk_d.out
  have hc_r := blk_cell hk_r.out; have hf_r := blk_frozen hk_r.out; have hl_r := blk_lt hk_r.out
  have hc_n := blk_cell hk_n.out; have hf_n := blk_frozen hk_n.out; have hl_n := blk_lt hk_n.out
  have HB := Aside0.mk hB; clear hB
  go_wp2_with fail
  refine bodyPost_ret (v := .agg #[.int .i64 a0, .bool a1, .bool a2, .int .i64 a3]) (by have z0 := hc_r; have z1 := hl_c; have z2 := hl_r; have z3 := hl_n; simp [results, Try.results24, go_sem, hc_r, hc_c, hc_n]) rfl ⟨rfl, by repeat (first | (with_reducible exact HB.out) | (with_reducible exact Below.refl _ _) | ((with_reducible refine Below.alloc ?_ ?_ _); rotate_left; (first | exact Nat.le_refl _ | (have hz := HB.out.size; simp; omega))) | ((with_reducible refine Below.setCell ?_ ?_ _); rotate_left; (have hz := HB.out.size; simp; omega)) | (with_reducible refine below_drewN' ?_ _) | (with_reducible refine below_drew' ?_))⟩

set_option maxHeartbeats 2000000 in
theorem do_Filter_ok (a0 : Int) (a1 a2 : Bool) (a3 : Int) (k u ow : Int) (s : Bool) (n0 : Int) (n1 n2 : Bool) (n3 : Int) (w : World) (hk : kk k = 4) (hv : FilterV a0 a1 a2 a3 = (n0, n1, n2, n3, 0)) : Calls Try.prog 24 #[.agg #[.int .i64 a0, .bool a1, .bool a2, .int .i64 a3], .agg #[.int .i64 k, .int .i64 u, .int .i64 ow, .bool s]] w (RetC ⟨n0, n1, n2, n3⟩ w) := by
  have hk0 : ((wrap64 (k.tmod 5 + 5)).tmod 5 == 0) = false := by have := hk; unfold kk at this; simp [this]
  have hk1 : ((wrap64 (k.tmod 5 + 5)).tmod 5 == 1) = false := by have := hk; unfold kk at this; simp [this]
  have hk2 : ((wrap64 (k.tmod 5 + 5)).tmod 5 == 2) = false := by have := hk; unfold kk at this; simp [this]
  have hk3 : ((wrap64 (k.tmod 5 + 5)).tmod 5 == 3) = false := by have := hk; unfold kk at this; simp [this]
  have hk4 : ((wrap64 (k.tmod 5 + 5)).tmod 5 == 4) = true := by have := hk; unfold kk at this; simp [this]
  have HV := Aside0.mk hv
  clear hv hk
  go_enter Try.func24, Try.ntmps24
  go_wp2_with fail
  refine (Filter_e _ _ _ _ _ HV.out _).mono ?_
  rintro e w1 ⟨rfl, hb⟩
  obtain ⟨hk_c, hk_d, hk_r, hk_n, hB⟩ := boxes4 hb
  clear hb
  have hc_c := blk_cell hk_c.out; have hf_c := blk_frozen hk_c.out; have hl_c := blk_lt hk_c.out
  have hc_d := blk_cell hk_d.out; have hf_d := blk_frozen hk_d.out; have hl_d := blk_lt hk_d.out
  have hc_r := blk_cell hk_r.out; have hf_r := blk_frozen hk_r.out; have hl_r := blk_lt hk_r.out
  have hc_n := blk_cell hk_n.out; have hf_n := blk_frozen hk_n.out; have hl_n := blk_lt hk_n.out
  have HB := Aside0.mk hB; clear hB
  go_wp2_with fail
  refine bodyPost_ret (v := .agg #[.int .i64 n0, .bool n1, .bool n2, .int .i64 n3]) (by have z0 := hc_r; have z1 := hl_c; have z2 := hl_r; have z3 := hl_n; simp [results, Try.results24, go_sem, hc_r, hc_c, hc_n]) rfl ⟨rfl, by repeat (first | (with_reducible exact HB.out) | (with_reducible exact Below.refl _ _) | ((with_reducible refine Below.alloc ?_ ?_ _); rotate_left; (first | exact Nat.le_refl _ | (have hz := HB.out.size; simp; omega))) | ((with_reducible refine Below.setCell ?_ ?_ _); rotate_left; (have hz := HB.out.size; simp; omega)) | (with_reducible refine below_drewN' ?_ _) | (with_reducible refine below_drew' ?_))⟩

set_option maxHeartbeats 2000000 in
theorem do_Filter_no (a0 : Int) (a1 a2 : Bool) (a3 : Int) (k u ow : Int) (s : Bool) (n0 : Int) (n1 n2 : Bool) (n3 : Int) (er : Int) (he : er ≠ 0) (w : World) (hk : kk k = 4) (hv : FilterV a0 a1 a2 a3 = (n0, n1, n2, n3, er)) : Calls Try.prog 24 #[.agg #[.int .i64 a0, .bool a1, .bool a2, .int .i64 a3], .agg #[.int .i64 k, .int .i64 u, .int .i64 ow, .bool s]] w (RetC ⟨a0, a1, a2, a3⟩ w) := by
  have hk0 : ((wrap64 (k.tmod 5 + 5)).tmod 5 == 0) = false := by have := hk; unfold kk at this; simp [this]
  have hk1 : ((wrap64 (k.tmod 5 + 5)).tmod 5 == 1) = false := by have := hk; unfold kk at this; simp [this]
  have hk2 : ((wrap64 (k.tmod 5 + 5)).tmod 5 == 2) = false := by have := hk; unfold kk at this; simp [this]
  have hk3 : ((wrap64 (k.tmod 5 + 5)).tmod 5 == 3) = false := by have := hk; unfold kk at this; simp [this]
  have hk4 : ((wrap64 (k.tmod 5 + 5)).tmod 5 == 4) = true := by have := hk; unfold kk at this; simp [this]
  have HV := Aside0.mk hv
  have her : (er != 0) = true := by simpa using he
  clear he
  clear hv hk
  go_enter Try.func24, Try.ntmps24
  go_wp2_with fail
  refine (Filter_e _ _ _ _ _ HV.out _).mono ?_
  rintro e w1 ⟨rfl, hb⟩
  obtain ⟨hk_c, hk_d, hk_r, hk_n, hB⟩ := boxes4 hb
  clear hb
  have hc_c := blk_cell hk_c.out; have hf_c := blk_frozen hk_c.out; have hl_c := blk_lt hk_c.out
  have hc_d := blk_cell hk_d.out; have hf_d := blk_frozen hk_d.out; have hl_d := blk_lt hk_d.out
  have hc_r := blk_cell hk_r.out; have hf_r := blk_frozen hk_r.out; have hl_r := blk_lt hk_r.out
  have hc_n := blk_cell hk_n.out; have hf_n := blk_frozen hk_n.out; have hl_n := blk_lt hk_n.out
  have HB := Aside0.mk hB; clear hB
  go_wp2_with fail
  refine bodyPost_ret (v := .agg #[.int .i64 a0, .bool a1, .bool a2, .int .i64 a3]) (by have z0 := hc_r; have z1 := hl_c; have z2 := hl_r; have z3 := hl_n; simp [results, Try.results24, go_sem, hc_r, hc_c, hc_n]) rfl ⟨rfl, by repeat (first | (with_reducible exact HB.out) | (with_reducible exact Below.refl _ _) | ((with_reducible refine Below.alloc ?_ ?_ _); rotate_left; (first | exact Nat.le_refl _ | (have hz := HB.out.size; simp; omega))) | ((with_reducible refine Below.setCell ?_ ?_ _); rotate_left; (have hz := HB.out.size; simp; omega)) | (with_reducible refine below_drewN' ?_ _) | (with_reducible refine below_drew' ?_))⟩

set_option maxHeartbeats 2000000 in
theorem do_none (a0 : Int) (a1 a2 : Bool) (a3 : Int) (k u ow : Int) (s : Bool) (w : World) (hn : ∀ j : Int, 0 ≤ j → j ≤ 4 → kk k ≠ j) : Calls Try.prog 24 #[.agg #[.int .i64 a0, .bool a1, .bool a2, .int .i64 a3], .agg #[.int .i64 k, .int .i64 u, .int .i64 ow, .bool s]] w (RetC ⟨a0, a1, a2, a3⟩ w) := by
  have hk0 : ((wrap64 (k.tmod 5 + 5)).tmod 5 == 0) = false := by have := hn 0 (by omega) (by omega); unfold kk at this; simpa using this
  have hk1 : ((wrap64 (k.tmod 5 + 5)).tmod 5 == 1) = false := by have := hn 1 (by omega) (by omega); unfold kk at this; simpa using this
  have hk2 : ((wrap64 (k.tmod 5 + 5)).tmod 5 == 2) = false := by have := hn 2 (by omega) (by omega); unfold kk at this; simpa using this
  have hk3 : ((wrap64 (k.tmod 5 + 5)).tmod 5 == 3) = false := by have := hn 3 (by omega) (by omega); unfold kk at this; simpa using this
  have hk4 : ((wrap64 (k.tmod 5 + 5)).tmod 5 == 4) = false := by have := hn 4 (by omega) (by omega); unfold kk at this; simpa using this
  clear hn
  go_enter Try.func24, Try.ntmps24
  go_wp2_with fail
  refine bodyPost_ret (v := .agg #[.int .i64 a0, .bool a1, .bool a2, .int .i64 a3]) (by simp [results, Try.results24, go_sem]) rfl ⟨rfl, ?_⟩
  repeat (first | (with_reducible exact Below.refl _ _) | ((with_reducible refine Below.alloc ?_ ?_ _); rotate_left; (first | (simp only [World.size_alloc]; omega) | exact Nat.le_refl _)) | ((with_reducible refine Below.setCell ?_ ?_ _); rotate_left; (first | (simp; done) | (simp; omega))))
theorem do_w (c : S23) (k u ow : Int) (s : Bool) (h : okB c.f0 c.f3 = true) : ∃ n : S23, StepsTo c n ∧ ∀ w, Calls Try.prog 24 #[.agg #[.int .i64 c.f0, .bool c.f1, .bool c.f2, .int .i64 c.f3], .agg #[.int .i64 k, .int .i64 u, .int .i64 ow, .bool s]] w (RetC n w) := by
  by_cases hk0 : kk k = 0
  · obtain ⟨n0, n1, n2, n3, er, hv⟩ : ∃ n0 n1 n2 n3 er, ExecV c.f0 c.f1 c.f2 c.f3 ow s = (n0, n1, n2, n3, er) := ⟨_, _, _, _, _, rfl⟩
    by_cases he : er = 0
    · exact ⟨⟨n0, n1, n2, n3⟩, steps_exec c ow s h n0 n1 n2 n3 er hv he, fun w => do_Exec_ok c.f0 c.f1 c.f2 c.f3 k u ow s n0 n1 n2 n3 w hk0 (he ▸ hv)⟩
    · exact ⟨c, steps_refl c h, fun w => do_Exec_no c.f0 c.f1 c.f2 c.f3 k u ow s n0 n1 n2 n3 er he w hk0 hv⟩
  by_cases hk1 : kk k = 1
  · obtain ⟨n0, n1, n2, n3, er, hv⟩ : ∃ n0 n1 n2 n3 er, NoNewV c.f0 c.f1 c.f2 c.f3 = (n0, n1, n2, n3, er) := ⟨_, _, _, _, _, rfl⟩
    by_cases he : er = 0
    · exact ⟨⟨n0, n1, n2, n3⟩, steps_nonew c h n0 n1 n2 n3 er hv he, fun w => do_NoNew_ok c.f0 c.f1 c.f2 c.f3 k u ow s n0 n1 n2 n3 w hk1 (he ▸ hv)⟩
    · exact ⟨c, steps_refl c h, fun w => do_NoNew_no c.f0 c.f1 c.f2 c.f3 k u ow s n0 n1 n2 n3 er he w hk1 hv⟩
  by_cases hk2 : kk k = 2
  · obtain ⟨n0, n1, n2, n3, er, hv⟩ : ∃ n0 n1 n2 n3 er, DropV c.f0 c.f1 c.f2 c.f3 u = (n0, n1, n2, n3, er) := ⟨_, _, _, _, _, rfl⟩
    by_cases he : er = 0
    · exact ⟨⟨n0, n1, n2, n3⟩, steps_drop c u h n0 n1 n2 n3 er hv he, fun w => do_Drop_ok c.f0 c.f1 c.f2 c.f3 k u ow s n0 n1 n2 n3 w hk2 (he ▸ hv)⟩
    · exact ⟨c, steps_refl c h, fun w => do_Drop_no c.f0 c.f1 c.f2 c.f3 k u ow s n0 n1 n2 n3 er he w hk2 hv⟩
  by_cases hk3 : kk k = 3
  · obtain ⟨n0, n1, n2, n3, er, hv⟩ : ∃ n0 n1 n2 n3 er, StrictV c.f0 c.f1 c.f2 c.f3 = (n0, n1, n2, n3, er) := ⟨_, _, _, _, _, rfl⟩
    by_cases he : er = 0
    · exact ⟨⟨n0, n1, n2, n3⟩, steps_strict c h n0 n1 n2 n3 er hv he, fun w => do_Strict_ok c.f0 c.f1 c.f2 c.f3 k u ow s n0 n1 n2 n3 w hk3 (he ▸ hv)⟩
    · exact ⟨c, steps_refl c h, fun w => do_Strict_no c.f0 c.f1 c.f2 c.f3 k u ow s n0 n1 n2 n3 er he w hk3 hv⟩
  by_cases hk4 : kk k = 4
  · obtain ⟨n0, n1, n2, n3, er, hv⟩ : ∃ n0 n1 n2 n3 er, FilterV c.f0 c.f1 c.f2 c.f3 = (n0, n1, n2, n3, er) := ⟨_, _, _, _, _, rfl⟩
    by_cases he : er = 0
    · exact ⟨⟨n0, n1, n2, n3⟩, steps_filter c h n0 n1 n2 n3 er hv he, fun w => do_Filter_ok c.f0 c.f1 c.f2 c.f3 k u ow s n0 n1 n2 n3 w hk4 (he ▸ hv)⟩
    · exact ⟨c, steps_refl c h, fun w => do_Filter_no c.f0 c.f1 c.f2 c.f3 k u ow s n0 n1 n2 n3 er he w hk4 hv⟩
  refine ⟨c, steps_refl c h, fun w => do_none c.f0 c.f1 c.f2 c.f3 k u ow s w fun j h0 h1 e => ?_⟩
  obtain rfl | rfl | rfl | rfl | rfl : j = 0 ∨ j = 1 ∨ j = 2 ∨ j = 3 ∨ j = 4 := by omega
  · exact hk0 e
  · exact hk1 e
  · exact hk2 e
  · exact hk3 e
  · exact hk4 e
end L
end Go.Proofs.Ytgacpabljdbhmaa.PC
