import Derived.Test.YtclkphiabgajpaaTD
import Derived.Lib.Hide
import Derived.Outline
namespace Go.Proofs.Ytclkphiabgajpaa.TA
open Go.RowKit Go.Proofs.YtclkphiabgajpaaW.PrintWords Go.Proofs.YtclkphiabgajpaaW.PrintLast Go.Proofs.YtclkphiabgajpaaW.PrintMore
set_option linter.unusedVariables false
set_option linter.unusedSimpArgs false
theorem heap_new_at (w : World) (o : Obj) (n : Nat) (hn : n = w.heap.size) : (w.alloc o).heap[n]? = some o := hn ▸ heap_alloc_new w o
theorem below_drewN' {B : Nat} {w W : World} (h : Below B w W) (n : Nat) : Below B w (W.drewN n) := pw_below_drewN h n
theorem below_drew' {B : Nat} {w W : World} (h : Below B w W) : Below B w W.drew := below_drew h
theorem boxes1 {w w' : World} {c0 : Array Value} {t0 : TypeId} (hb : Below (w.alloc (.cells c0 t0)).heap.size (w.alloc (.cells c0 t0)) w') :
    Aside0 (w'.heap[w.heap.size]? = some (.cells c0 t0 (0, 0))) ∧ Below w.heap.size w w' := by
  have h0 : w'.heap[w.heap.size]? = some (.cells c0 t0 (0, 0)) := (hb.block _ (by simp only [World.size_alloc]; omega)).trans (heap_new_at w (.cells c0 t0) (w.heap.size) (by simp only [World.size_alloc]))
  exact ⟨⟨h0⟩, ((Below.refl _ _).alloc (Nat.le_refl _) _).trans (hb.mono (by simp only [World.size_alloc]; omega))⟩

theorem boxes2 {w w' : World} {c0 c1 : Array Value} {t0 t1 : TypeId} (hb : Below ((w.alloc (.cells c0 t0)).alloc (.cells c1 t1)).heap.size ((w.alloc (.cells c0 t0)).alloc (.cells c1 t1)) w') :
    Aside0 (w'.heap[w.heap.size]? = some (.cells c0 t0 (0, 0))) ∧ Aside0 (w'.heap[w.heap.size + 1]? = some (.cells c1 t1 (0, 0))) ∧ Below w.heap.size w w' := by
  have h0 : w'.heap[w.heap.size]? = some (.cells c0 t0 (0, 0)) := (hb.block _ (by simp only [World.size_alloc]; omega)).trans ((Below.heap_alloc (w.alloc (.cells c0 t0)) (.cells c1 t1) (w.heap.size) (by simp only [World.size_alloc]; omega)).trans (heap_new_at w (.cells c0 t0) (w.heap.size) (by simp only [World.size_alloc])))
  have h1 : w'.heap[w.heap.size + 1]? = some (.cells c1 t1 (0, 0)) := (hb.block _ (by simp only [World.size_alloc]; omega)).trans (heap_new_at (w.alloc (.cells c0 t0)) (.cells c1 t1) (w.heap.size + 1) (by simp only [World.size_alloc]))
  exact ⟨⟨h0⟩, ⟨h1⟩, (((Below.refl _ _).alloc (Nat.le_refl _) _).alloc (by simp only [World.size_alloc]; omega) _).trans (hb.mono (by simp only [World.size_alloc]; omega))⟩

def takeV (last : Int) (used : List Int) : Int × List Int × Int × Int := if good last used = true then takeR last used else (0, [], 0, 200)
def freeV (last : Int) (used : List Int) (x : Int) : Int × List Int × Int := if good last used = true then (if x ∈ used then (last, without used x, 0) else (0, [], 4)) else (0, [], 200)
def OutT (r : Int × List Int × Int × Int) (w : World) (e : Ending) (w' : World) : Prop := ∃ v, e = .returned (.tuple #[.agg #[.int .i64 r.1, v], .int .i64 r.2.2.1, .int .i64 r.2.2.2]) ∧ Kd.R (Kd.int .i64) 3 w' w.heap.size (fun _ => True) v r.2.1 ∧ Below w.heap.size w w'
def OutF (r : Int × List Int × Int) (w : World) (e : Ending) (w' : World) : Prop := ∃ v, e = .returned (.tuple #[.agg #[.int .i64 r.1, v], .int .i64 r.2.2]) ∧ Kd.R (Kd.int .i64) 3 w' w.heap.size (fun _ => True) v r.2.1 ∧ Below w.heap.size w w'
theorem good_parts {last : Int} {used : List Int} (h : good last used = true) : 0 ≤ last ∧ last ≤ 20 ∧ Up 0 used = true := by
  unfold good at h
  simp only [Bool.and_eq_true, decide_eq_true_eq] at h
  exact ⟨h.1.1, h.1.2, h.2⟩
/-- Check, at a length by a letter. -/
theorem check_c {last : Int} {A : Option Addr} {m c : Nat} {used : List Int} (hm : m = used.length) (hl : used.length ≤ 30) (hc : used.length ≤ c) {r : Int} (hr : cond (good last used) 0 200 = r) (W : World) (hR : Kd.C (Kd.int .i64) W A m used) :
    Calls Try.prog 16 #[.agg #[.int .i64 last, .slice A m c]] W fun e w' => e = .returned (.int .i64 r) ∧ Below W.heap.size W w' := by
  subst hm hr
  exact PB.pids_Check.calls 60 last A c used _ W hR hc (check_f 60 last used (by omega) (by omega))
set_option maxHeartbeats 1000000 in
theorem take_no (last : Int) (A : Option Addr) (c : Nat) (used : List Int) (w : World) (hr0 : Kd.C (Kd.int .i64) w A used.length used) (hc0 : used.length ≤ c) (hl : used.length ≤ 30) (hg : good last used = false) :
    Calls Try.prog 10 #[.agg #[.int .i64 last, .slice A used.length c]] w (OutT (0, [], 0, 200) w) := by
  obtain ⟨m, hm⟩ : ∃ m, m = used.length := ⟨_, rfl⟩
  rw [← hm] at hr0 ⊢
  have HM := Lib.hid hm
  have HR := Lib.hid hr0
  have HC := Lib.hid hc0
  have HL := Lib.hid hl
  have HG := Lib.hid hg
  clear hm hr0 hc0 hl hg
  go_enter Try.func10, Try.ntmps10
  go_wp2_with fail
  refine (check_c HM.out HL.out HC.out (r := 200) (by rw [HG.out]; rfl) _ (Kd.C_alloc (Kd.C_alloc HR.out _) _)).mono ?_
  rintro e w1 ⟨rfl, hb⟩
  obtain ⟨hk_p, hk_r, hB⟩ := boxes2 hb
  have HB := Lib.hid hB
  have HR1 := Lib.hid (Kd.C_below HR.out HB.out)
  have hz1 := HB.out.size
  clear hb hB
  have hc_p := blk_cell hk_p.out; have hf_p := blk_frozen hk_p.out; have hl_p := blk_lt hk_p.out; have hc_r := blk_cell hk_r.out; have hf_r := blk_frozen hk_r.out; have hl_r := blk_lt hk_r.out
  go_wp2_with fail
  refine bodyPost_ret (results_list (rs := [.cell 2 24, .tmp 3, .tmp 4]) rfl (by simp) (.cell (w.heap.size + 1) 24 #[.int .i64 0, .slice none 0 0] (0, 0) _ rfl ?h1_ Try.underlying24 rfl (by kernel_rfl) (.tmp (.tmp .nil)))) rfl ?_
  case h1_ => ((repeat (first | (with_reducible exact hk_r.out) | (with_reducible refine blk_drewN ?_ _) | (with_reducible refine blk_drew ?_) | (with_reducible refine (Below.heap_setCell _ _ _ _ (by dsimp only; omega)).trans ?_) | (with_reducible apply blk_put) | (with_reducible refine blk_alloc ?_ _))); all_goals rfl)
  refine ⟨.slice none 0 0, rfl, Kd.R_nil _ _ _ _ _, ?_⟩
  (repeat (with_reducible first | exact HB.out | refine Below.setCell ?_ (by dsimp only; omega) _ | refine below_drewN' ?_ _ | refine below_drew' ?_ | refine below_alloc ?_ _))
set_option maxHeartbeats 2000000 in
theorem take_full (last : Int) (A : Option Addr) (c : Nat) (used : List Int) (w : World) (hr0 : Kd.C (Kd.int .i64) w A used.length used) (hc0 : used.length ≤ c) (hl : used.length ≤ 30) (hg : good last used = true) (hv : firstV last used = none) :
    Calls Try.prog 10 #[.agg #[.int .i64 last, .slice A used.length c]] w (OutT (0, [], 0, 24) w) := by
  obtain ⟨m, hm⟩ : ∃ m, m = used.length := ⟨_, rfl⟩
  rw [← hm] at hr0 ⊢
  have HM := Lib.hid hm
  have HR := Lib.hid hr0
  have HC := Lib.hid hc0
  have HL := Lib.hid hl
  have HG := Lib.hid hg
  clear hm hr0 hc0 hl hg
  have HV := Lib.hid hv
  clear hv
  go_enter Try.func10, Try.ntmps10
  go_wp2_with fail
  refine (check_c HM.out HL.out HC.out (r := 0) (by rw [HG.out]; rfl) _ (Kd.C_alloc (Kd.C_alloc HR.out _) _)).mono ?_
  rintro e w1 ⟨rfl, hb⟩
  obtain ⟨hk_p, hk_r, hB⟩ := boxes2 hb
  have HB := Lib.hid hB
  have HR1 := Lib.hid (Kd.C_below HR.out HB.out)
  have hz1 := HB.out.size
  clear hb hB
  have hc_p := blk_cell hk_p.out; have hf_p := blk_frozen hk_p.out; have hl_p := blk_lt hk_p.out; have hc_r := blk_cell hk_r.out; have hf_r := blk_frozen hk_r.out; have hl_r := blk_lt hk_r.out
  go_wp2_with fail
  refine (around_w last (.slice A m c) _).mono ?_
  rintro e w2 ⟨rfl, hw2⟩
  clear hc_p hf_p hl_p hc_r hf_r hl_r
  have hB2 : Below w1.heap.size w1 w2 := by rw [hw2]; exact below_alloc (Below.refl _ _) _
  have hk_i : w2.heap[w1.heap.size]? = some (.cells #[.int .i64 last, .slice A m c] 24 (0, 0)) := by rw [hw2]; exact heap_new_at _ _ _ rfl
  clear hw2
  go_wp2_with fail
  refine (first_w w1.heap.size w.heap.size last A c used (good_parts HG.out).1 (good_parts HG.out).2.1 HL.out HC.out w2 (blk_lt hk_i) (blk_cell hk_i 0) ⟨by rw [← HM.out]; exact (hB2.block _ (blk_lt hk_p.out)).trans hk_p.out, by rw [← HM.out]; exact Kd.C_below HR1.out hB2⟩).mono ?_
  rw [HV.out]
  rintro e w3 ⟨rfl, hb3⟩
  have hB3 : Below w1.heap.size w1 w3 := hB2.trans (hb3.mono hB2.size)
  replace hk_r := Aside0.mk ((hB3.block _ (blk_lt hk_r.out)).trans hk_r.out)
  replace HB := Lib.hid (HB.out.trans (hB3.mono hz1))
  clear hb3 hB2 hB3 hk_i hk_p HR1 hz1
  dsimp only [firstR]
  have hz1 := HB.out.size
  have hc_r := blk_cell hk_r.out; have hf_r := blk_frozen hk_r.out; have hl_r := blk_lt hk_r.out
  go_wp2_with fail
  refine bodyPost_ret (results_list (rs := [.cell 2 24, .tmp 3, .tmp 4]) rfl (by simp) (.cell (w.heap.size + 1) 24 #[.int .i64 0, .slice none 0 0] (0, 0) _ rfl ?h1_ Try.underlying24 rfl (by kernel_rfl) (.tmp (.tmp .nil)))) rfl ?_
  case h1_ => ((repeat (first | (with_reducible exact hk_r.out) | (with_reducible refine blk_drewN ?_ _) | (with_reducible refine blk_drew ?_) | (with_reducible refine (Below.heap_setCell _ _ _ _ (by dsimp only; omega)).trans ?_) | (with_reducible apply blk_put) | (with_reducible refine blk_alloc ?_ _))); all_goals rfl)
  refine ⟨.slice none 0 0, rfl, Kd.R_nil _ _ _ _ _, ?_⟩
  (repeat (with_reducible first | exact HB.out | refine Below.setCell ?_ (by dsimp only; omega) _ | refine below_drewN' ?_ _ | refine below_drew' ?_ | refine below_alloc ?_ _))
theorem first_free {last x : Int} {used : List Int} (h : firstV last used = some x) : 1 ≤ x ∧ x ≤ 20 ∧ x ∉ used := by
  unfold firstV at h
  have h1 := List.mem_of_find?_eq_some h
  have h2 := List.find?_some h
  unfold upto at h1
  obtain ⟨k, _, rfl⟩ := List.mem_map.1 h1
  unfold idOf at h2 ⊢
  exact ⟨by omega, by omega, by simpa using h2⟩
/-- BinarySearch, at a length by a letter. -/
theorem search_c {A : Option Addr} {m c : Nat} {used : List Int} (hm : m = used.length) (hc : used.length ≤ c) {x : Int} {r : Nat} {b : Bool} (h : PB.slices_BinarySearch_int_int.f 60 used x = some ((r : Int), b)) (W : World) (hR : Kd.C (Kd.int .i64) W A m used) :
    Calls Try.prog 24 #[.slice A m c, .int .i64 x] W fun e w' => e = .returned (.tuple #[.int .i64 (r : Int), .bool b]) ∧ Drawn0 W w' := by
  subst hm
  exact PB.slices_BinarySearch_int_int.calls 60 A c used x _ _ W hR hc h
theorem clone_c {A : Option Addr} {m c : Nat} {used : List Int} (hm : m = used.length) (hc : used.length ≤ c) (hl : used.length ≤ 30) (W : World) (hR : Kd.C (Kd.int .i64) W A m used) :
    Calls Try.prog 26 #[.slice A m c] W fun e w' => ∃ v0_ : Value, e = .returned (v0_) ∧ Kd.R (Kd.int .i64) 3 w' W.heap.size (fun _ => True) v0_ used ∧ Below W.heap.size W w' := by
  subst hm
  refine PB.slices_Clone_int_int.calls A c used used W hR hc ?_
  unfold PB.slices_Clone_int_int.f
  simp only [Option.bind_some, List.length_nil, List.nil_append]
  rw [if_pos (by omega)]
set_option maxHeartbeats 2000000 in
theorem take_ok (last : Int) (A : Option Addr) (c : Nat) (used : List Int) (w : World) (hr0 : Kd.C (Kd.int .i64) w A used.length used) (hc0 : used.length ≤ c) (hl : used.length ≤ 30) (x : Int) (hg : good last used = true) (hv : firstV last used = some x) :
    Calls Try.prog 10 #[.agg #[.int .i64 last, .slice A used.length c]] w (OutT (x, withId used x, x, 0) w) := by
  obtain ⟨r, hrl, hbs, hb1, hb2⟩ := bs_f used x (good_parts hg).2.2
  obtain ⟨hx0, hx1, hxn⟩ := first_free hv
  have hins := ins_eq used x r (good_parts hg).2.2 hx0 hx1 hxn hb1 hb2
  have HI := Lib.hid hins
  have HBS := Lib.hid hbs
  have HRL := Lib.hid hrl
  clear hins hbs hrl hb1 hb2 hx0 hx1 hxn
  obtain ⟨m, hm⟩ : ∃ m, m = used.length := ⟨_, rfl⟩
  rw [← hm] at hr0 ⊢
  have HM := Lib.hid hm
  have HR := Lib.hid hr0
  have HC := Lib.hid hc0
  have HL := Lib.hid hl
  have HG := Lib.hid hg
  clear hm hr0 hc0 hl hg
  have HV := Lib.hid hv
  clear hv
  go_enter Try.func10, Try.ntmps10
  go_wp2_with fail
  refine (check_c HM.out HL.out HC.out (r := 0) (by rw [HG.out]; rfl) _ (Kd.C_alloc (Kd.C_alloc HR.out _) _)).mono ?_
  rintro e w1 ⟨rfl, hb⟩
  obtain ⟨hk_p, hk_r, hB⟩ := boxes2 hb
  have HB := Lib.hid hB
  have HR1 := Lib.hid (Kd.C_below HR.out HB.out)
  have hz1 := HB.out.size
  clear hb hB
  have hc_p := blk_cell hk_p.out; have hf_p := blk_frozen hk_p.out; have hl_p := blk_lt hk_p.out; have hc_r := blk_cell hk_r.out; have hf_r := blk_frozen hk_r.out; have hl_r := blk_lt hk_r.out
  go_wp2_with fail
  refine (around_w last (.slice A m c) _).mono ?_
  rintro e w2 ⟨rfl, hw2⟩
  clear hc_p hf_p hl_p hc_r hf_r hl_r
  have hB2 : Below w1.heap.size w1 w2 := by rw [hw2]; exact below_alloc (Below.refl _ _) _
  have hk_i : w2.heap[w1.heap.size]? = some (.cells #[.int .i64 last, .slice A m c] 24 (0, 0)) := by rw [hw2]; exact heap_new_at _ _ _ rfl
  clear hw2
  go_wp2_with fail
  refine (first_w w1.heap.size w.heap.size last A c used (good_parts HG.out).1 (good_parts HG.out).2.1 HL.out HC.out w2 (blk_lt hk_i) (blk_cell hk_i 0) ⟨by rw [← HM.out]; exact (hB2.block _ (blk_lt hk_p.out)).trans hk_p.out, by rw [← HM.out]; exact Kd.C_below HR1.out hB2⟩).mono ?_
  rw [HV.out]
  rintro e w3 ⟨rfl, hb3⟩
  have hB3 : Below w1.heap.size w1 w3 := hB2.trans (hb3.mono hB2.size)
  replace hk_r := Aside0.mk ((hB3.block _ (blk_lt hk_r.out)).trans hk_r.out)
  replace hk_p := Aside0.mk ((hB3.block _ (blk_lt hk_p.out)).trans hk_p.out)
  replace HB := Lib.hid (HB.out.trans (hB3.mono hz1))
  replace HR1 := Lib.hid (Kd.C_below HR1.out hB3)
  clear hb3 hB2 hB3 hk_i hz1
  dsimp only [firstR]
  have hc_p := blk_cell hk_p.out; have hf_p := blk_frozen hk_p.out; have hl_p := blk_lt hk_p.out; have hc_r := blk_cell hk_r.out; have hf_r := blk_frozen hk_r.out; have hl_r := blk_lt hk_r.out
  go_wp2_with fail
  refine (search_c HM.out HC.out HBS.out _ HR1.out).mono ?_
  rintro e w4 ⟨rfl, hD⟩
  have hB4 := hD.below
  clear hD hc_p hf_p hl_p hc_r hf_r hl_r
  replace hk_r := Aside0.mk ((hB4.block _ (blk_lt hk_r.out)).trans hk_r.out)
  replace hk_p := Aside0.mk ((hB4.block _ (blk_lt hk_p.out)).trans hk_p.out)
  replace HB := Lib.hid (HB.out.trans (hB4.mono HB.out.size))
  replace HR1 := Lib.hid (Kd.C_below HR1.out hB4)
  clear hB4
  have hc_p := blk_cell hk_p.out; have hf_p := blk_frozen hk_p.out; have hl_p := blk_lt hk_p.out; have hc_r := blk_cell hk_r.out; have hf_r := blk_frozen hk_r.out; have hl_r := blk_lt hk_r.out
  go_wp2_with fail
  have hlr : w.heap.size + 1 < w4.heap.size := blk_lt hk_r.out
  have hz4 := HB.out.size
  refine (clone_c HM.out HC.out HL.out _ HR1.out).mono ?_
  rintro e w5 ⟨v5, rfl, hR5, hB5⟩
  clear hc_p hf_p hl_p hc_r hf_r hl_r
  replace hk_r := Aside0.mk ((hB5.block _ (blk_lt hk_r.out)).trans hk_r.out)
  replace HB := Lib.hid (HB.out.trans (hB5.mono HB.out.size))
  have HR5 := Lib.hid hR5
  have hz5 := hB5.size
  clear hB5 hR5 hk_p HR1
  go_wp2_with fail
  refine (insert_w w4.heap.size (fun _ => True) v5 used r x w5.heap.size _ (Kd.R_alloc HR5.out _) (heap_new_at _ _ _ rfl) (fun h => by have := (Kd.R_bound HR5.out).1 _ h.symm; omega) HRL.out (by have := HL.out; omega) (by simp only [World.size_alloc]; omega)).mono ?_
  rw [HI.out]
  rintro e w6 ⟨v6, rfl, hR6, hB6⟩
  replace hk_r := Aside0.mk ((hB6.block _ (by omega)).trans (blk_alloc hk_r.out _))
  replace HB := Lib.hid ((below_alloc HB.out _).trans (hB6.mono hz4))
  have HR6 := Lib.hid hR6
  clear hR6 hB6 HR5
  obtain ⟨A6, c6, rfl⟩ := Kd.R_slice HR6.out
  obtain ⟨m6, hm6⟩ : ∃ m6, m6 = (withId used x).length := ⟨_, rfl⟩
  rw [← hm6] at HR6 ⊢
  clear hm6
  have hc_r := blk_cell hk_r.out; have hf_r := blk_frozen hk_r.out; have hl_r := blk_lt hk_r.out
  go_wp2_with fail
  refine bodyPost_ret (results_list (rs := [.cell 2 24, .tmp 3, .tmp 4]) rfl (by simp) (.cell (w.heap.size + 1) 24 #[.int .i64 x, .slice A6 m6 c6] (0, 0) _ rfl ?h1_ Try.underlying24 rfl (by kernel_rfl) (.tmp (.tmp .nil)))) rfl ?_
  case h1_ => ((repeat (first | (with_reducible exact hk_r.out) | (with_reducible refine blk_drewN ?_ _) | (with_reducible refine blk_drew ?_) | (with_reducible refine (Below.heap_setCell _ _ _ _ (by dsimp only; omega)).trans ?_) | (with_reducible apply blk_put) | (with_reducible refine blk_alloc ?_ _))); all_goals rfl)
  refine ⟨.slice A6 m6 c6, rfl, ?_, ?_⟩
  · refine Kd.R_lower (base := w4.heap.size) (Kd.R_mono (ok := fun k => k ≠ w.heap.size + 1) ?_ (fun _ _ => trivial)) (by omega)
    refine Kd.R_far (Kd.R_far (Kd.R_mono (ok' := fun k => k ≠ w.heap.size + 1) (Kd.R_bound HR6.out) (fun k hk => by have := hk.2.1; omega)) (fun k hk => hk) _) (fun k hk => hk) _
  (repeat (with_reducible first | exact HB.out | refine Below.setCell ?_ (by dsimp only; omega) _ | refine below_drewN' ?_ _ | refine below_drew' ?_ | refine below_alloc ?_ _))
theorem take_w (last : Int) (A : Option Addr) (c : Nat) (used : List Int) (w : World) (hr0 : Kd.C (Kd.int .i64) w A used.length used) (hc0 : used.length ≤ c) (hl : used.length ≤ 30) : Calls Try.prog 10 #[.agg #[.int .i64 last, .slice A used.length c]] w (OutT (takeV last used) w) := by
  unfold takeV
  by_cases hg : good last used = true
  · rw [if_pos hg]
    unfold takeR
    cases hv : firstV last used with
    | none => exact take_full last A c used w hr0 hc0 hl hg hv
    | some x => exact take_ok last A c used w hr0 hc0 hl x hg hv
  · rw [if_neg hg]
    exact take_no last A c used w hr0 hc0 hl (by simpa using hg)
end Go.Proofs.Ytclkphiabgajpaa.TA
